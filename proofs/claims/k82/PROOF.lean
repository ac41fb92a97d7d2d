import PyProof.Rows.All
import Wide.All
import OpenK.AllK
import Wide.FinOn
import PyProof.Conv_int
import KE.IntTextText
import PyProof.Rows.Digits
import KE.KIntText
import HandS.Base
import HandS.Call
import HandS.List
import HandS.Text
import HandS.Exc
import HandS.Comp
import HandS.Lambda
import HandS.Dict
import HandS.Flow
import HandS.IsInst
import HandS.Wide
import PyProof.ReprRoads
import HandS.RaiseMore
import HandS.Iter
import HandS.FStr
import KE.KExcIs
import HandS.ExcIs
import HandS.ExcField
import PyProof.DictUpdate
import PyProof.EnumMake
import PyProof.Draws
import KE.GoesMore
import HandS.Small
import KE.KExcSuper
import KE.KSuperObj
import HandS.ExcInit
import KE.KDflt
import HandS.Ends
import HandS.EndTab
import KE.KNest
import KE.KNestM
import HandS.Words
import HandS.Defaults
import HandS.HeadHook1
import HandS.HeadHook2
import HandS.HeadHook3
import HandS.HeadHook4
import HandS.EndBits
import KE.KStateDown
import Lean
import HandS.More
import HandS.WordsExc
import HandS.Head0
import HandS.Head1
import HandS.Head2
import HandS.HeadEnd
import PySem.Challenge.RW_leastprice_k82_whole_texts_of_rows
import PyProof.Rows.StrSplitJoin
import PyProof.ReprBulk
section
set_option Elab.async false
set_option linter.all false
set_option maxRecDepth 100000
set_option maxHeartbeats 4000000
/-! int(text), up to 4,300 digits. -/
namespace Mini
open PySem PySem.Spec PySem.Calls PySem.NumText PyProof.Rows L2
theorem wp_lim {M : Model} {A : Around} {V : Value → Shared → Prop} {s : Shared} {Q : Nat → Shared → Prop} (hd : s.heap.NoDigits) (h : Q 4300 s) : wpAny M A Builtin.intMaxStrDigits Q V s := by
  obtain ⟨mc, hns, hnone⟩ := hd
  unfold Builtin.intMaxStrDigits
  refine wpAny_bind (wpAny_nsGet hns ?_)
  rw [hnone]
  exact wpAny_pure h
theorem wp_long {M : Model} {A : Around} {V : Value → Shared → Prop} {s : Shared} {Q : Value → Shared → Prop} {v : Value} {tx : List Nat} {n : Int} (hd : s.heap.NoDigits)
    (hs : ¬ (tx.takeWhile (· != 0)).length ≤ 640) (hr : (int_private% "readNumeral") 4300 10 (tx.takeWhile (· != 0)) = (int_private% "Numeral.value") n)
    (ha : ((tx.takeWhile (· != 0)).length == tx.length) = true) (h : Q (.int n s.toks) { s with toks := s.toks + 1 }) : wpAny M A ((int_private% "intFromText") v tx 10) Q V s := by
  obtain ⟨hp, g, d, tk, os⟩ := s
  repeat (any_goals (first
    | assumption
    | (with_reducible refine wpAny_ite_false (decide_eq_false hs) ?_)
    | (with_reducible refine wpAny_ite_true (decide_eq_true ha) ?_)
    | (with_reducible refine wp_lim hd ?_)
    | wp_step))
  all_goals (try rw [hr])
  all_goals (try dsimp only)
  repeat (any_goals (first
    | assumption
    | (with_reducible refine wpAny_ite_true (decide_eq_true ha) ?_)
    | wp_step))
structure Held (p : Prop) : Prop where
  out : p
theorem meets_long {x : PySem.Str} {u : Tok} {n : Int} (hl : x.length ≤ 4300) (hn : PySem.intText? x = some n) : Meets (Builtin.«int.__new__» ⟨[.type "int", .str x u], []⟩) fun A R s => s.heap.NoDigits ∧ R (.ok (.ret (.int n s.toks))) { s with toks := s.toks + 1 } :=
  .of_wp fun prog w A R s ⟨hd, h⟩ => by
    obtain ⟨hp, g, d, tk, os⟩ := s
    have f1 := F.conv_sub_int
    have f2 := F.madeHere_int
    have f3 := PySem.W.KIN.str_int
    have f4 := PySem.W.KIN.str_idx
    have f5 := PySem.W.KIN.str_trunc
    have f6 : typeOf (.str x u) = pure (.type "str") := rfl
    have hz : x.length ≤ sizeLine := Nat.le_trans hl (by decide)
    have hr : (int_private% "readNumeral") (if (numSeenOf x).length ≤ 640 then 0 else 4300) 10 (numSeenOf x) = (int_private% "Numeral.value") n ∧ ((numSeenOf x).length == (numTextOf x).length) = true := by
      rcases readAny x hz with ⟨m, h1, h2, h3⟩ | ⟨h1, _⟩
      · rw [hn] at h1
        injection h1 with h1
        subst h1
        exact ⟨h3, h2⟩
      · rw [hn] at h1
        cases h1
    by_cases hs : (numSeenOf x).length ≤ 640
    · rw [if_pos hs] at hr
      have hk := Held.mk (And.intro hs hr)
      clear hs hr hl hn hz
      repeat (any_goals (first
        | assumption
        | ((with_reducible show wpAny _ _ ((int_private% "intFromText") _ _ _) _ _ _); refine PySem.W.KIN.wp_text hk.out.1 hk.out.2.1 hk.out.2.2 ?_)
        | wp_step))
      all_goals first | exact ⟨_, rfl, h⟩ | skip
    · rw [if_neg hs] at hr
      have hk := Held.mk (And.intro hs hr)
      have hd := Held.mk hd
      clear hs hr hl hn hz
      repeat (any_goals (first
        | assumption
        | ((with_reducible show wpAny _ _ ((int_private% "intFromText") _ _ _) _ _ _); refine wp_long hd.out hk.out.1 hk.out.2.1 hk.out.2.2 ?_)
        | wp_step))
      all_goals first | exact ⟨_, rfl, h⟩ | skip
theorem call_int_text {X : Cx} (hd : X.base.NoDigits) : CallR X (.type "int") (fun xs H Q => ∃ a n, xs = [.str a] ∧ PySem.intText? a = some n ∧ a.length ≤ 4300 ∧ Q (.int n) H) := by
  intro pins s σ H xs us Q I rs h
  obtain ⟨a, n, rfl, hn, hl, h⟩ := h
  obtain ⟨u, rfl, rx⟩ : ∃ u, us = [u] ∧ RelV (.str a) u := by
    cases rs with
    | cons r1 rs => cases rs; exact ⟨_, rfl, r1⟩
  obtain ⟨t, rfl⟩ := rx
  exact call_int_1 (meets_long hl hn) ⟨hd.keeps I.bk, rfl, .int n, H, I.tok _, ⟨_, rfl⟩, h⟩
end Mini
end
section
set_option Elab.async false
set_option linter.all false
/-! Mini, part 1: values as trees, cells, the small language and its evaluator. -/
namespace Mini
open PySem L2

inductive VV where
  | non | bl (b : Bool) | int (i : Int) | str (s : Str)
  | ref (k : Nat) | glb (g : Nat) | lam
  | tup (xs : List VV) | lst (xs : List VV)
  | dic (ks : List Key) (vs : List VV)
  | ins (c : Nat) (ns : List Str) (vs : List VV)
  | exc (c : Nat) (ns : List Str) (vs : List VV)

inductive Ob where
  | lst (xs : List VV) | dic (ks : List Key) (vs : List VV) | ins (c : Nat) (ns : List Str) (vs : List VV)
abbrev VH := List Ob

inductive Rs (β : Type) where
  | ok (b : β) (h : VH) | exc (c : Nat) (ns : List Str) (vs : List VV) (h : VH) | bad
def Rs.bind {α β : Type} : Rs α → (α → VH → Rs β) → Rs β
  | .ok a h, f => f a h
  | .exc c ns vs h, _ => .exc c ns vs h
  | .bad, _ => .bad
def Rs.calm {α : Type} : Rs α → Rs α
  | .exc _ _ _ _ => .bad
  | r => r
def Rs.of {α : Type} (o : Option α) (h : VH) : Rs α := match o with
  | some a => .ok a h
  | none => .bad

/-! ### small looks -/
def mapO {α β : Type} (f : α → Option β) : List α → Option (List β)
  | [] => some []
  | x :: xs => match f x, mapO f xs with
    | some y, some ys => some (y :: ys)
    | _, _ => none
/-! all cells that are named stand below n -/
mutual
def clo (n : Nat) : VV → Bool
  | .ref k => Nat.blt k n
  | .lam => false
  | .tup xs => cloL n xs
  | .lst xs => cloL n xs
  | .dic _ vs => cloL n vs
  | .ins _ _ vs => cloL n vs
  | .exc _ _ vs => cloL n vs
  | _ => true
def cloL (n : Nat) : List VV → Bool
  | [] => true
  | x :: xs => clo n x && cloL n xs
end
def cloOb (n : Nat) : Ob → Bool
  | .lst xs => cloL n xs
  | .dic _ vs => cloL n vs
  | .ins _ _ vs => cloL n vs
/-- the tree that a value is, its cells from n0 on read -/
def frz (n0 : Nat) : Nat → VH → VV → Option VV
  | 0, _, _ => none
  | n + 1, h, v => match v with
    | .ref k => if Nat.blt k n0 = true then some (.ref k) else match h[k]? with
      | some (.lst xs) => (mapO (frz n0 n h) xs).map .lst
      | some (.dic ks vs) => (mapO (frz n0 n h) vs).map (.dic ks)
      | some (.ins c ns vs) => (mapO (frz n0 n h) vs).map (.ins c ns)
      | none => none
    | .tup xs => (mapO (frz n0 n h) xs).map .tup
    | .lst xs => (mapO (frz n0 n h) xs).map .lst
    | .dic ks vs => (mapO (frz n0 n h) vs).map (.dic ks)
    | .ins c ns vs => (mapO (frz n0 n h) vs).map (.ins c ns)
    | .exc c ns vs => (mapO (frz n0 n h) vs).map (.exc c ns)
    | .lam => none
    | v => some v
def dat : Nat → VH → VV → Option PyData
  | 0, _, _ => none
  | n + 1, h, v => match v with
    | .non => some .none
    | .bl b => some (.bool b)
    | .int i => some (.int i)
    | .str s => some (.str s)
    | .tup xs => (mapO (dat n h) xs).map .tuple
    | .lst xs => (mapO (dat n h) xs).map .list
    | .ref k => match h[k]? with
      | some (.lst xs) => (mapO (dat n h) xs).map .list
      | _ => none
    | _ => none
/-- the items of a list, a tuple -/
def seqOf (h : VH) : VV → Option (List VV)
  | .lst xs => some xs
  | .tup xs => some xs
  | .ref k => match h[k]? with
    | some (.lst xs) => some xs
    | _ => none
  | _ => none
def strsOf : List VV → Option (List Str) := mapO fun v => match v with
  | .str s => some s
  | _ => none
def blsOf : List VV → Option (List Bool) := mapO fun v => match v with
  | .bl s => some s
  | _ => none
def dicOf (h : VH) : VV → Option (List Key × List VV)
  | .dic ks vs => some (ks, vs)
  | .ref k => match h[k]? with
    | some (.dic ks vs) => some (ks, vs)
    | _ => none
  | _ => none
def lookK (k : Key) : List Key → List VV → Option VV
  | q :: ks, v :: vs => if decide (k = q) = true then some v else lookK k ks vs
  | _, _ => none
def lookF (f : Str) : List Str → List VV → Option VV
  | q :: ks, v :: vs => if decide (f = q) = true then some v else lookF f ks vs
  | _, _ => none
def putV (k : Key) (x : VV) : List Key → List VV → List VV
  | q :: ks, v :: vs => (if q = k then x else v) :: putV k x ks vs
  | _, _ => []
def putD (k : Key) (x : VV) (ks : List Key) (vs : List VV) : List Key × List VV :=
  if (ks.any fun q => decide (q = k)) = true then (ks, putV k x ks vs) else (ks ++ [k], vs ++ [x])
def putAllD : List Key → List VV → List Key × List VV → List Key × List VV
  | k :: ks, v :: vs, d => putAllD ks vs (putD k v d.1 d.2)
  | _, _, d => d
def keyOf : VV → Option Key
  | .int i => some (.inl i)
  | .str s => some (.inr s)
  | _ => none

/-- the truth of a value -/
def truO (h : VH) : VV → Option Bool
  | .non => some false
  | .bl b => some b
  | .int i => some (i != 0)
  | .str s => if s.length ≤ sizeLine then some ((s.length : Int) != 0) else none
  | .tup xs => some (!xs.isEmpty)
  | .lst xs => some (!xs.isEmpty)
  | .dic ks _ => some (!ks.isEmpty)
  | .ref k => match h[k]? with
    | some (.lst xs) => some (!xs.isEmpty)
    | some (.dic ks _) => some (!ks.isEmpty)
    | _ => none
  | _ => none

/-! ### operators -/
inductive Bop | add | sub | mul | fdiv | mod | pow
inductive Cop | eq | ne | lt | le | gt | ge | isN | notN | in_ | notIn
def isFlat : VV → Bool
  | .non | .bl _ | .int _ | .str _ => true
  | _ => false
def eqF : VV → VV → Bool
  | .non, .non => true
  | .bl a, .bl b => a == b
  | .bl a, .int b => (if a then 1 else 0) == b
  | .int a, .bl b => a == (if b then 1 else 0)
  | .int a, .int b => a == b
  | .str a, .str b => a == b
  | _, _ => false
def natB (i : Int) : Nat := i.natAbs.log2
def new (o : Ob) (h : VH) : Rs VV := .ok (.ref h.length) (h ++ [o])
def intB (o : Bop) (i j : Int) (h : VH) : Rs VV := match o with
  | .add => .ok (.int (i + j)) h
  | .sub => .ok (.int (i - j)) h
  | .mul => if (-(2 ^ 64) < i ∧ i < 2 ^ 64) ∨ (-(2 ^ 64) < j ∧ j < 2 ^ 64) then .ok (.int (i * j)) h else .bad
  | .fdiv => if 0 < j ∧ j < 1073741824 then .ok (.int (i / j)) h else .bad
  | .mod => if 0 < j then .ok (.int (i % j)) h else .bad
  | .pow => if 0 ≤ j ∧ j ≤ 1000000 ∧ i.natAbs < 2 ^ 64 then .ok (.int (i ^ j.toNat)) h else .bad
def strB (o : Bop) (a b : Str) (h : VH) : Rs VV := match o with
  | .add => if a.length + b.length ≤ sizeLine then .ok (.str (a ++ b)) h else .bad
  | _ => .bad
def repB (o : Bop) (a : Str) (j : Int) (h : VH) : Rs VV := match o with
  | .mul => if 1 < j ∧ j ≤ 100000 ∧ a.length = 1 then .ok (.str (Txt.mul a j)) h else .bad
  | _ => .bad
def tupB (o : Bop) (xs ys : List VV) (h : VH) : Rs VV := match o with
  | .add => if xs.isEmpty || ys.isEmpty then .bad else if xs.length + ys.length ≤ 100000 then .ok (.tup (xs ++ ys)) h else .bad
  | _ => .bad
def lstOf (h : VH) : VV → Option (List VV)
  | .lst xs => some xs
  | .ref k => match h[k]? with
    | some (.lst xs) => some xs
    | _ => none
  | _ => none
def lstB (o : Bop) (x y : VV) (h : VH) : Rs VV := match o with
  | .add => match lstOf h x, lstOf h y with
    | some xs, some ys => if xs.length + ys.length ≤ 100000 then new (.lst (xs ++ ys)) h else .bad
    | _, _ => .bad
  | _ => .bad
def bopS (o : Bop) (x y : VV) (h : VH) : Rs VV := match x, y with
  | .int i, .int j => intB o i j h
  | .str a, .str b => strB o a b h
  | .str a, .int j => repB o a j h
  | .tup xs, .tup ys => tupB o xs ys h
  | x, y => lstB o x y h
def cmpI (o : Cop) (i j : Int) : Option Bool := match o with
  | .lt => some (decide (i < j))
  | .le => some (decide (i ≤ j))
  | .gt => some (decide (j < i))
  | .ge => some (decide (j ≤ i))
  | _ => none
def inS (h : VH) (x y : VV) : Option Bool := match x, y with
  | .str a, .str b => match a.cps.toList with
    | [c] => some (decide (c ∈ b.cps.toList))
    | _ => none
  | x, y => match seqOf h y with
    | some ys => if isFlat x && ys.all isFlat then some (ys.any fun z => eqF z x) else none
    | none => none
def eqS (h : VH) (x y : VV) : Option Bool := match dat 8 h x, dat 8 h y with
  | some d, some e => if SeqAt.shaped d && SeqAt.shaped e then some (PyData.eqv d e) else none
  | _, _ => none
def isNon : VV → Bool
  | .non => true
  | _ => false
def cmpII (o : Cop) (x y : VV) : Option Bool := match x, y with
  | .int i, .int j => cmpI o i j
  | _, _ => none
def copS (o : Cop) (x y : VV) (h : VH) : Option Bool := match o with
  | .eq => eqS h x y
  | .ne => (eqS h x y).map (!·)
  | .isN => if isNon y = true then some (isNon x) else none
  | .notN => if isNon y = true then some (!isNon x) else none
  | .in_ => inS h x y
  | .notIn => (inS h x y).map (!·)
  | .lt => cmpII .lt x y
  | .le => cmpII .le x y
  | .gt => cmpII .gt x y
  | .ge => cmpII .ge x y

/-! ### built-ins -/
inductive Ty | bi (n : String) | cls (g : Nat)
inductive Bfn | len | int | abs | repr | str | list | tuple | all
inductive Bmt | append | update | join | split | partition | startswith
def intS (v : VV) : Option Int := match v with
  | .int i => some i
  | .bl b => some (if b then 1 else 0)
  | .str s => if s.length ≤ 4300 then intText? s else none
  | _ => none
def lenS (x : VV) (h : VH) : Option Nat := match x with
  | .str s => if s.length ≤ sizeLine then some s.length else none
  | x => (seqOf h x).map List.length
def strS (x : VV) : Option Str := match x with
  | .int i => if i.natAbs.log2 < 1920 then some (toString i) else none
  | .str s => some s
  | _ => none
def tupS (x : VV) (h : VH) : Option (List VV) := match x with
  | .tup xs => some xs
  | x => lstOf h x
def reprS (x : VV) (h : VH) : Option Str := match dat 8 h x with
  | some d => if PyData.showable d && decide (d.shown.length ≤ sizeLine) && decide (d.depth ≤ 60) then some d.shown else none
  | none => none
def absS (x : VV) : Option Int := match x with
  | .int i => some (if i < 0 then -i else i)
  | _ => none
def bfn1 (f : Bfn) (x : VV) (h : VH) : Rs VV := match f with
  | .len => Rs.of ((lenS x h).map fun (n : Nat) => VV.int (n : Int)) h
  | .int => Rs.of ((intS x).map .int) h
  | .abs => Rs.of ((absS x).map .int) h
  | .repr => Rs.of ((reprS x h).map .str) h
  | .str => Rs.of ((strS x).map .str) h
  | .list => match seqOf h x with
    | some ys => new (.lst ys) h
    | none => .bad
  | .tuple => Rs.of ((tupS x h).map .tup) h
  | .all => Rs.of (((lstOf h x).bind blsOf).map fun bs => .bl (bs.all id)) h
def bfnS (f : Bfn) (xs : List VV) (h : VH) : Rs VV := match xs with
  | [x] => bfn1 f x h
  | _ => .bad
def mAppend (o x : VV) (h : VH) : Rs VV := match o with
  | .ref k => match h[k]? with
    | some (.lst ys) => if ys.length < 100000 then .ok .non (h.set k (.lst (ys ++ [x]))) else .bad
    | _ => .bad
  | _ => .bad
def mJoin (a : Str) (x : VV) (h : VH) : Rs VV := match (seqOf h x).bind strsOf with
  | some ys => if (ys.map (·.length)).sum + ys.length * a.length ≤ 16777216 then .ok (.str (Txt.join a ys)) h else .bad
  | none => .bad
def mStr (m : Bmt) (a b : Str) (h : VH) : Rs VV := match m with
  | .split => if (b.length == 0) = false ∧ a.length + 2 ≤ sizeLine then new (.lst ((Txt.split a b).map .str)) h else .bad
  | .partition => if (b.length == 0) = false ∧ a.length ≤ sizeLine then
      .ok (.tup [.str (Txt.partition a b).1, .str (Txt.partition a b).2.1, .str (Txt.partition a b).2.2]) h else .bad
  | .startswith => .ok (.bl (Txt.startswith a b)) h
  | _ => .bad
def notRef (k : Nat) : VV → Bool
  | .ref j => decide (j ≠ k)
  | _ => true
def mUpd (o x : VV) (h : VH) : Rs VV := match o with
  | .ref k => match h[k]?, dicOf h x with
    | some (.dic ks vs), some d => if notRef k x = true ∧ ks.length + d.1.length ≤ 1000 then .ok .non (h.set k (.dic (putAllD d.1 d.2 (ks, vs)).1 (putAllD d.1 d.2 (ks, vs)).2)) else .bad
    | _, _ => .bad
  | _ => .bad
def bmt1 (m : Bmt) (o x : VV) (h : VH) : Rs VV := match m with
  | .append => mAppend o x h
  | .update => mUpd o x h
  | .join => match o with
    | .str a => mJoin a x h
    | _ => .bad
  | m => match o, x with
    | .str a, .str b => mStr m a b h
    | _, _ => .bad
/-- the receiver's kind, asked ahead of the argument -/
def rcvB (m : Bmt) (o : VV) (h : VH) : Bool := match m with
  | .append => match o with
    | .ref k => match h[k]? with
      | some (.lst _) => true
      | _ => false
    | _ => false
  | .update => match o with
    | .ref k => match h[k]? with
      | some (.dic _ _) => true
      | _ => false
    | _ => false
  | _ => match o with
    | .str _ => true
    | _ => false
def idxS (x i : VV) (h : VH) : Rs VV := match i with
  | .int j => match x with
    | .str s => if s.length ≤ sizeLine then Rs.of ((atI s.cps.toList j).map fun c => .str ⟨#[c]⟩) h else .bad
    | x => match seqOf h x with
      | some ys => Rs.of (atI ys j) h
      | none => .bad
  | .str s => match dicOf h x with
    | some d => Rs.of (lookK (.inr s) d.1 d.2) h
    | none => .bad
  | _ => .bad
def optI : List VV → Option (Option Int)
  | [] => some none
  | [.int i] => some (some i)
  | _ => none
def cutL {α : Type} (xs : List α) (lo hi : Option Int) : List α := (xs.drop (HT.sIx xs.length 0 lo)).take (HT.sIx xs.length xs.length hi - HT.sIx xs.length 0 lo)
def slcS (x : VV) (lo hi : Option Int) (h : VH) : Rs VV := match x with
  | .str s => if s.length ≤ sizeLine then .ok (.str (cutS s lo hi)) h else .bad
  | .tup xs => if HT.sIx xs.length 0 lo = 0 ∧ HT.sIx xs.length xs.length hi = xs.length then .bad else .ok (.tup (cutL xs lo hi)) h
  | x => match lstOf h x with
    | some ys => new (.lst (cutL ys lo hi)) h
    | none => .bad
def tyOf (h : VH) : VV → Option Ty
  | .non => some (.bi "NoneType")
  | .bl _ => some (.bi "bool")
  | .int _ => some (.bi "int")
  | .str _ => some (.bi "str")
  | .tup _ => some (.bi "tuple")
  | .lst _ => some (.bi "list")
  | .dic _ _ => some (.bi "dict")
  | .ins c _ _ => some (.cls c)
  | .exc c _ _ => some (.cls c)
  | .ref k => match h[k]? with
    | some (.lst _) => some (.bi "list")
    | some (.dic _ _) => some (.bi "dict")
    | some (.ins c _ _) => some (.cls c)
    | none => none
  | .glb _ => none
  | .lam => none
/-- is a thing of the one type one of the other: sub tells of own classes -/
def isTy (sub : Nat → Nat → Bool) (t : Ty) (u : Ty) : Bool := match t, u with
  | .bi a, .bi b => a == b || (a == "bool" && b == "int")
  | .cls c, .cls d => sub c d
  | _, _ => false
/-- own classes that stand in the tree are known -/
def knownTy (cl : Nat → Option Bool) (x : VV) (h : VH) : Bool := match x with
  | .ins c _ _ => cl c == some false
  | .exc c _ _ => cl c == some true
  | .ref k => match h[k]? with
    | some (.ins c _ _) => cl c == some false
    | _ => true
  | _ => true
/-- isinstance's answer -/
def isiS (sub : Nat → Nat → Bool) (cl : Nat → Option Bool) (ts : List Ty) (x : VV) (h : VH) : Rs VV := match tyOf h x with
  | some t => if knownTy cl x h = true then .ok (.bl (ts.any fun u => isTy sub t u)) h else .bad
  | none => .bad
/-- a field: the own classes that stand in the tree are known -/
def attS (cl : Nat → Option Bool) (f : Str) (x : VV) (h : VH) : Rs VV := match x with
  | .ins c ns vs => if (cl c == some false) = true then Rs.of (lookF f ns vs) h else .bad
  | .exc c ns vs => if (cl c == some true) = true then Rs.of (lookF f ns vs) h else .bad
  | .ref k => match h[k]? with
    | some (.ins c ns vs) => if (cl c == some false) = true then Rs.of (lookF f ns vs) h else .bad
    | _ => .bad
  | _ => .bad

/-! ### the language -/
/-- where a walked item goes -/
inductive Tg | one (i : Nat) | two (i j : Nat)
/-- what is walked -/
inductive It | seq | range1 | range2 | enum
mutual
inductive E where
  | var (i : Nat) | cst (v : VV)
  | bin (o : Bop) (a b : E) | neg (a : E)
  | cmp (o : Cop) (a b : E) | chn (o p : Cop) (a b c : E)
  | and (a b : E) | or (a b : E) | not (a : E)
  | ife (t : T) (a b : E)
  | tup (es : Es) | lst (es : Es) | dct (ks : List Key) (es : Es)
  | idx (a b : E) | slc (a : E) (lo hi : Es)
  | att (f : Str) (a : E)
  | isi (ts : List Ty) (a : E)
  | fcl (g : Nat) (es : Es)
  | bcl (b : Bfn) (es : Es)
  | mcl (m : Bmt) (o e : E)
  | lc (w : List Nat) (g : Tg) (k : It) (src : Es) (t : T) (elt : E)
  | fst (es : Es)
  | hcl (g : Nat) (body : E)
  | ask (i : Nat)
inductive Es where
  | nil | cons (e : E) (es : Es)
inductive T where
  | yes | val (e : E) | and (a b : T) | or (a b : T) | not (a : T)
end
mutual
inductive S where
  | set (i : Nat) (e : E) | unp (is : List Nat) (e : E) | par (i j : Nat) (a b : E)
  | sub (o k e : E) | exp (e : E) | ret (e : E)
  | ife (t : T) (a b : Ss)
  | for (g : Tg) (k : It) (src : Es) (body : Ss)
  | rse (c : Nat) (es : Es)
  | try (i : Nat) (e : E) (c : Nat) (j k : Nat)
  | brk | cnt
inductive Ss where
  | nil | cons (s : S) (ss : Ss)
end
abbrev Sl := List (Option VV)
/-- how a statement ends -/
inductive Fl | nx (σ : Sl) | rt (v : VV) | bk (σ : Sl) | ct (σ : Sl)
/-- what is known of the program: calls, own classes -/
structure Env' where
  fn : Nat → List VV → VH → Rs VV
  hc : Nat → ((Nat → List VV → VH → Rs VV) → VH → Rs VV) → VH → Rs VV
  cl : (Nat → List VV → VH → Rs VV) → VH → Rs VV
  sub : Nat → Nat → Bool
  flds : Nat → List Str
  cls : Nat → Option Bool

def tgS (g : Tg) (x : VV) (σ : Sl) : Option Sl := match g with
  | .one i => some (σ.set i (some x))
  | .two i j => match x with
    | .tup [a, b] => some ((σ.set i (some a)).set j (some b))
    | _ => none
def wipeS (σ : Sl) : List Nat → Sl
  | [] => σ
  | v :: vs => (wipeS σ vs).set v none
/-- what is walked: items that stand, a cell's list (with the count in front, if counted) -/
inductive Src | imm (xs : List VV) | cell (k : Nat) (cnt : Bool)
def rangeL (lo hi : Int) : List VV := (List.range (hi - lo).toNat).map fun (i : Nat) => VV.int (lo + (i : Int))
def countL : Nat → List VV → List VV
  | _, [] => []
  | i, x :: xs => .tup [.int (i : Nat), x] :: countL (i + 1) xs
def strL (s : Str) : List VV := s.cps.toList.map fun c => VV.str ⟨#[c]⟩
def srcS (k : It) (xs : List VV) (h : VH) : Option Src := match k, xs with
  | .seq, [.str s] => some (.imm (strL s))
  | .seq, [.tup ys] => some (.imm ys)
  | .seq, [.lst ys] => some (.imm ys)
  | .seq, [.ref c] => match h[c]? with
    | some (.lst _) => some (.cell c false)
    | _ => none
  | .range1, [.int n] => if -(2 ^ 62) ≤ n ∧ n < 2 ^ 62 then some (.imm (rangeL 0 n)) else none
  | .range2, [.int m, .int n] => if -(2 ^ 62) ≤ n ∧ n < 2 ^ 62 ∧ -(2 ^ 62) ≤ m ∧ m < 2 ^ 62 then some (.imm (rangeL m n)) else none
  | .enum, [.lst ys] => some (.imm (countL 0 ys))
  | .enum, [.tup ys] => some (.imm (countL 0 ys))
  | .enum, [.ref c] => match h[c]? with
    | some (.lst _) => some (.cell c true)
    | _ => none
  | _, _ => none
def cellAt (h : VH) (k : Nat) : Option (List VV) := match h[k]? with
  | some (.lst xs) => some xs
  | _ => none
def itemOf (cnt : Bool) (i : Nat) (x : VV) : VV := if cnt then .tup [.int (i : Nat), x] else x

/-- a comprehension's turns -/
def lcL (f : VV → VH → Rs (Option VV)) : List VV → List VV → VH → Rs (List VV)
  | [], acc, h => .ok acc h
  | x :: xs, acc, h => if acc.length < 100000 then (f x h).bind fun o h' => lcL f xs (acc ++ o.toList) h' else .bad
def lcC (f : VV → VH → Rs (Option VV)) (k : Nat) (cnt : Bool) : Nat → Nat → List VV → VH → Rs (List VV)
  | n, i, acc, h => match cellAt h k with
    | none => .bad
    | some xs => match xs[i]? with
      | none => .ok acc h
      | some x => match n with
        | 0 => .bad
        | n + 1 => if acc.length < 100000 then (f (itemOf cnt i x) h).bind fun o h' => lcC f k cnt n (i + 1) (acc ++ o.toList) h' else .bad
def lcW (f : VV → VH → Rs (Option VV)) (s : Src) (h : VH) : Rs (List VV) := match s with
  | .imm xs => lcL f xs [] h
  | .cell k cnt => lcC f k cnt (((cellAt h k).getD []).length) 0 [] h
/-- a loop's turns -/
def forL (f : VV → Sl → VH → Rs Fl) : List VV → Sl → VH → Rs Fl
  | [], σ, h => .ok (.nx σ) h
  | x :: xs, σ, h => (f x σ h).bind fun r h' => match r with
    | .nx σ' => forL f xs σ' h'
    | .ct σ' => forL f xs σ' h'
    | .bk σ' => .ok (.nx σ') h'
    | .rt v => .ok (.rt v) h'
def forC (f : VV → Sl → VH → Rs Fl) (k : Nat) (cnt : Bool) : Nat → Nat → Sl → VH → Rs Fl
  | n, i, σ, h => match cellAt h k with
    | none => .bad
    | some xs => match xs[i]? with
      | none => .ok (.nx σ) h
      | some x => match n with
        | 0 => .bad
        | n + 1 => (f (itemOf cnt i x) σ h).bind fun r h' => match r with
          | .nx σ' => forC f k cnt n (i + 1) σ' h'
          | .ct σ' => forC f k cnt n (i + 1) σ' h'
          | .bk σ' => .ok (.nx σ') h'
          | .rt v => .ok (.rt v) h'
def forW (f : VV → Sl → VH → Rs Fl) (s : Src) (σ : Sl) (h : VH) : Rs Fl := match s with
  | .imm xs => forL f xs σ h
  | .cell k cnt => forC f k cnt (((cellAt h k).getD []).length) 0 σ h
/-- a text's part -/
def partS (v : VV) : Option Str := match v with
  | .str s => if s.length ≤ sizeLine then some s else none
  | .int i => if i.natAbs.log2 < 1920 then some (toString i) else none
  | _ => none
mutual
def ev : Env' → E → Sl → VH → Rs VV
  | N, .var i, σ, h => match σ[i]? with
    | some (some v) => .ok v h
    | _ => .bad
  | _, .cst v, _, h => .ok v h
  | N, .bin o a b, σ, h => (ev N a σ h).bind fun x h1 => (ev N b σ h1).bind fun y h2 => bopS o x y h2
  | N, .neg a, σ, h => (ev N a σ h).bind fun x h1 => match x with
    | .int i => .ok (.int (-i)) h1
    | _ => .bad
  | N, .cmp o a b, σ, h => (ev N a σ h).bind fun x h1 => (ev N b σ h1).bind fun y h2 => Rs.of ((copS o x y h2).map .bl) h2
  | N, .chn o p a b c, σ, h => (ev N a σ h).bind fun x h1 => (ev N b σ h1).bind fun y h2 => match copS o x y h2 with
    | some true => (ev N c σ h2).bind fun z h3 => Rs.of ((copS p y z h3).map .bl) h3
    | some false => .ok (.bl false) h2
    | none => .bad
  | N, .and a b, σ, h => (ev N a σ h).bind fun x h1 => match truO h1 x with
    | some true => ev N b σ h1
    | some false => .ok x h1
    | none => .bad
  | N, .or a b, σ, h => (ev N a σ h).bind fun x h1 => match truO h1 x with
    | some true => .ok x h1
    | some false => ev N b σ h1
    | none => .bad
  | N, .not a, σ, h => (ev N a σ h).bind fun x h1 => Rs.of ((truO h1 x).map fun b => .bl (!b)) h1
  | N, .ife t a b, σ, h => (evT N t σ h).bind fun c h1 => if c = true then ev N a σ h1 else ev N b σ h1
  | N, .tup es, σ, h => (evs N es σ h).bind fun xs h1 => if xs.length ≤ 1000 then .ok (.tup xs) h1 else .bad
  | N, .lst es, σ, h => (evs N es σ h).bind fun xs h1 => if xs.length ≤ 1000 then new (.lst xs) h1 else .bad
  | N, .dct ks es, σ, h => (evs N es σ h).bind fun xs h1 => if xs.length = ks.length ∧ xs.length ≤ 15 then new (.dic (putAllD ks xs ([], [])).1 (putAllD ks xs ([], [])).2) h1 else .bad
  | N, .idx a b, σ, h => (ev N a σ h).bind fun x h1 => (ev N b σ h1).bind fun y h2 => idxS x y h2
  | N, .slc a lo hi, σ, h => (ev N a σ h).bind fun x h1 => (evs N lo σ h1).bind fun l h2 => (Rs.of (optI l) h2).bind fun l h2 => (evs N hi σ h2).bind fun u h3 => (Rs.of (optI u) h3).bind fun u h3 => slcS x l u h3
  | N, .att f a, σ, h => (ev N a σ h).bind fun x h1 => attS N.cls f x h1
  | N, .isi ts a, σ, h => (ev N a σ h).bind fun x h1 => isiS N.sub N.cls ts x h1
  | N, .fcl g es, σ, h => (evs N es σ h).bind fun xs h1 => N.fn g xs h1
  | N, .bcl b es, σ, h => (evs N es σ h).bind fun xs h1 => bfnS b xs h1
  | N, .mcl m o e, σ, h => (ev N o σ h).bind fun x h1 => if rcvB m x h1 = true then (ev N e σ h1).bind fun y h2 => bmt1 m x y h2 else .bad
  | N, .lc w g k src t elt, σ, h => (evs N src σ h).bind fun xs h1 => match srcS k xs h1 with
    | none => .bad
    | some s => (lcW (fun x h2 => Rs.calm (match tgS g x (wipeS σ w) with
        | none => .bad
        | some σ' => (evT N t σ' h2).bind fun c h3 => if c = true then (ev N elt σ' h3).bind fun y h4 => .ok (some y) h4 else .ok none h3)) s h1).bind fun ys h5 => new (.lst ys) h5
  | N, .fst es, σ, h => (evF N es Str.empty σ h).bind fun t h1 => .ok (.str t) h1
  | N, .hcl g body, σ, h => N.hc g (fun fn h' => ev { N with fn := fn, hc := fun _ _ _ => .bad, cl := fun _ _ => .bad } body σ h') h
  | N, .ask i, σ, h => match σ[i]? with
    | some (some .lam) => N.cl N.fn h
    | _ => .bad
def evs : Env' → Es → Sl → VH → Rs (List VV)
  | N, .nil, _, h => .ok [] h
  | N, .cons e es, σ, h => (ev N e σ h).bind fun x h1 => (evs N es σ h1).bind fun xs h2 => .ok (x :: xs) h2
def evF : Env' → Es → Str → Sl → VH → Rs Str
  | N, .nil, acc, _, h => .ok acc h
  | N, .cons e es, acc, σ, h => (ev N e σ h).bind fun x h1 => match partS x with
    | some t => if (acc ++ t).length ≤ sizeLine then evF N es (acc ++ t) σ h1 else .bad
    | none => .bad
def evT : Env' → T → Sl → VH → Rs Bool
  | N, .yes, _, h => .ok true h
  | N, .val e, σ, h => (ev N e σ h).bind fun x h1 => Rs.of (truO h1 x) h1
  | N, .and a b, σ, h => (evT N a σ h).bind fun c h1 => if c = true then evT N b σ h1 else .ok false h1
  | N, .or a b, σ, h => (evT N a σ h).bind fun c h1 => if c = true then .ok true h1 else evT N b σ h1
  | N, .not a, σ, h => (evT N a σ h).bind fun c h1 => .ok (!c) h1
end
def unpS : List Nat → List VV → Sl → Option Sl
  | [], [], σ => some σ
  | i :: is, v :: vs, σ => unpS is vs (σ.set i (some v))
  | _, _, _ => none
def subS (o k x : VV) (h : VH) : Option VH := match o with
  | .ref a => match h[a]? with
    | some (.lst xs) => match k with
      | .int i => (ixN xs.length i).map fun j => h.set a (.lst (xs.set j x))
      | _ => none
    | some (.dic ks vs) => match keyOf k with
      | some q => if ks.length < 1000 then some (h.set a (.dic (putD q x ks vs).1 (putD q x ks vs).2)) else none
      | none => none
    | _ => none
  | _ => none
mutual
def ex (N : Env') : S → Sl → VH → Rs Fl
  | .set i e, σ, h => (ev N e σ h).bind fun x h1 => .ok (.nx (σ.set i (some x))) h1
  | .unp is e, σ, h => (ev N e σ h).bind fun x h1 => match x with
    | .tup xs => Rs.of ((unpS is xs σ).map .nx) h1
    | _ => .bad
  | .par i j a b, σ, h => (ev N a σ h).bind fun x h1 => (ev N b σ h1).bind fun y h2 => .ok (.nx ((σ.set i (some x)).set j (some y))) h2
  | .sub o k e, σ, h => (ev N e σ h).bind fun x h1 => (ev N o σ h1).bind fun a h2 => (ev N k σ h2).bind fun q h3 => match subS a q x h3 with
    | some h4 => .ok (.nx σ) h4
    | none => .bad
  | .exp e, σ, h => (ev N e σ h).bind fun _ h1 => .ok (.nx σ) h1
  | .ret e, σ, h => (ev N e σ h).bind fun x h1 => .ok (.rt x) h1
  | .ife t a b, σ, h => (evT N t σ h).bind fun c h1 => if c = true then exs N a σ h1 else exs N b σ h1
  | .for g k src body, σ, h => (evs N src σ h).bind fun xs h1 => match srcS k xs h1 with
    | none => .bad
    | some s => forW (fun x σ' h2 => match tgS g x σ' with
        | none => .bad
        | some σ2 => exs N body σ2 h2) s σ h1
  | .rse c es, σ, h => (evs N es σ h).bind fun xs h1 => if xs.length = (N.flds c).length then .exc c (N.flds c) xs h1 else .bad
  | .try i e c j k, σ, h => match ev N e σ h with
    | .ok x h1 => .ok (.nx (σ.set i (some x))) h1
    | .exc d ns vs h1 => if (N.cls d == some true) = true then (if N.sub d c = true then .ok (.nx ((σ.set k none).set j (some (.exc d ns vs)))) h1 else .exc d ns vs h1) else .bad
    | .bad => .bad
  | .brk, σ, h => .ok (.bk σ) h
  | .cnt, σ, h => .ok (.ct σ) h
def exs (N : Env') : Ss → Sl → VH → Rs Fl
  | .nil, σ, h => .ok (.nx σ) h
  | .cons s ss, σ, h => (ex N s σ h).bind fun r h1 => match r with
    | .nx σ' => exs N ss σ' h1
    | r => .ok r h1
end
/-! ### the table of defs -/
structure Fn where
  ps : Nat
  nsl : Nat
  keep : Bool
  body : Ss
def startS (f : Fn) (xs : List VV) : Sl := xs.map some ++ List.replicate (f.nsl - xs.length) none
/-- what leaves a def: trees alone; the cells that it made are gone -/
def fin (keep : Bool) (n : Nat) (v : VV) (h : VH) : Rs VV :=
  if keep = true then .ok v h else match frz n 30 h v with
    | some v' => if (h.take n).all (cloOb n) = true then .ok v' (h.take n) else .bad
    | none => .bad
def finX (c : Nat) (ns : List Str) (n : Nat) (vs : List VV) (h : VH) : Rs VV := match mapO (frz n 30 h) vs with
  | some vs' => if (h.take n).all (cloOb n) = true then .exc c ns vs' (h.take n) else .bad
  | none => .bad
def leave (f : Fn) (n : Nat) (r : Rs Fl) : Rs VV := match r with
  | .ok (.rt v) h => fin f.keep n v h
  | .ok (.nx _) h => fin f.keep n .non h
  | .exc c ns vs h => finX c ns n vs h
  | _ => .bad
structure Prog where
  fns : List Fn
  sub : Nat → Nat → Bool
  flds : Nat → List Str
  cls : Nat → Option Bool
def noCl : (Nat → List VV → VH → Rs VV) → VH → Rs VV := fun _ _ => .bad
/-- the g-th def, called with values, to a depth; called with a lambda alone -/
def run (P : Prog) : Nat → Nat → ((Nat → List VV → VH → Rs VV) → VH → Rs VV) → Option (List VV) → VH → Rs VV
  | 0, _, _, _, _ => .bad
  | n + 1, g, cl, xs, h => match P.fns[g]? with
    | none => .bad
    | some f => match xs with
      | some xs => if xs.length = f.ps then leave f h.length (exs ⟨fun g xs h => run P n g noCl (some xs) h, fun g cl h => run P n g cl none h, cl, P.sub, P.flds, P.cls⟩ f.body (startS f xs) h) else .bad
      | none => if f.ps = 1 ∧ f.keep = false then leave f h.length (exs ⟨fun g xs h => run P n g noCl (some xs) h, fun g cl h => run P n g cl none h, cl, P.sub, P.flds, P.cls⟩ f.body (startS f [.lam]) h) else .bad
end Mini
end
section
set_option Elab.async false
set_option linter.all false
set_option maxRecDepth 100000
set_option maxHeartbeats 2000000
/-! Mini, part 2: how trees and cells stand in the abstract heap. -/
namespace Mini
open PySem PySem.Spec PyProof.Rows L2

structure Rz where
  K : PySem.W.Frag
  ad : Nat → Addr
  al : Nat → Addr
  n : Nat
  H : Hp
  res : List Addr
  tab : List (Addr × Str)
  lam : Option V
  cod : List (Addr × Str)
/-- not a cell, not a thing under way, not a table -/
structure Rz.Fre (z : Rz) (a : Addr) : Prop where
  al : ∀ k, k < z.n → z.al k ≠ a
  res : a ∉ z.res
  tab : ∀ p ∈ z.tab, p.1 ≠ a
def TupR (z : Rz) (a : Addr) (ys : List V) : Prop := (Rd z.H a (.tup ys) ∧ z.Fre a) ∨
  ∃ (o : Obj) (its : Array Value) (n : Nat), z.K.lookup a = some o ∧ o.cls = .type "tuple" ∧ o.data = .seq its n ∧ its.size ≤ sizeLine ∧ Vals ys its.toList
def LstR (z : Rz) (a : Addr) (ys : List V) : Prop := Rd z.H a (.lst ys) ∧ z.Fre a
/-- a caught exception that is kept -/
def ExH (cls : Value) (d : Option Addr) (a : Addr) : HO := .ext fun h => ∃ oe, h.get? a = some oe ∧ Zc cls d oe ∧ ∃ vs, oe.data = .fields vs
mutual
def Rel (z : Rz) : VV → V → Prop
  | .non, x => x = .non
  | .bl b, x => x = .bl b
  | .int i, x => x = .int i
  | .str s, x => x = .str s
  | .ref k, x => k < z.n ∧ x = .ref (z.al k)
  | .glb g, x => x = .ref (z.ad g)
  | .lam, x => z.lam = some x ∧ ∃ a, x = .ref a
  | .tup xs, x => ∃ a ys, x = .ref a ∧ TupR z a ys ∧ RelL z xs ys
  | .lst xs, x => ∃ a ys, x = .ref a ∧ LstR z a ys ∧ RelL z xs ys
  | .dic ks vs, x => ∃ a kvs, x = .ref a ∧ z.H a = some (.dK kvs) ∧ z.Fre a ∧ kvs.map (·.1) = ks ∧ RelL z vs (kvs.map (·.2))
  | .ins c ns vs, x => ∃ a dx fs, x = .ref a ∧ z.H a = some (.ins (z.ad c) dx fs) ∧ z.Fre a ∧ fs.map (·.1) = ns ∧ RelL z vs (fs.map (·.2))
  | .exc c ns vs, x => ∃ a d fs, x = .ref a ∧ z.H a = some (ExH (.ref (z.ad c)) (some d) a) ∧ z.Fre a ∧ z.H d = some (.xd fs) ∧ z.Fre d ∧ fs.map (·.1) = ns ∧ RelL z vs (fs.map (·.2))
def RelL (z : Rz) : List VV → List V → Prop
  | [], ys => ys = []
  | x :: xs, ys => ∃ y r, ys = y :: r ∧ Rel z x y ∧ RelL z xs r
end
structure Ext0 (z z' : Rz) : Prop where
  K : z'.K = z.K
  ad : z'.ad = z.ad
  n : z.n ≤ z'.n
  al : ∀ k, k < z.n → z'.al k = z.al k
  H : ∀ b o, z.H b = some o → z.Fre b → z'.H b = some o ∧ z'.Fre b
  lam : ∀ x, z.lam = some x → z'.lam = some x
structure Ext (z z' : Rz) : Prop extends Ext0 z z' where
  res : z'.res = z.res
  tab : z'.tab = z.tab
  rs : ∀ b ∈ z.res, z'.H b = z.H b
  cod : ∀ p ∈ z.cod, p ∈ z'.cod
  lamE : z'.lam = z.lam
theorem Ext0.trans {z z1 z2 : Rz} (a : Ext0 z z1) (b : Ext0 z1 z2) : Ext0 z z2 :=
  ⟨b.K.trans a.K, b.ad.trans a.ad, Nat.le_trans a.n b.n, fun k hk => (b.al k (Nat.lt_of_lt_of_le hk a.n)).trans (a.al k hk), fun c o h f => let ⟨h1, f1⟩ := a.H c o h f; b.H c o h1 f1, fun x h => b.lam x (a.lam x h)⟩
theorem Ext.refl (z : Rz) : Ext z z := ⟨⟨rfl, rfl, Nat.le_refl _, fun _ _ => rfl, fun _ _ h f => ⟨h, f⟩, fun _ h => h⟩, rfl, rfl, fun _ _ => rfl, fun _ h => h, rfl⟩
theorem Ext.trans {z z1 z2 : Rz} (a : Ext z z1) (b : Ext z1 z2) : Ext z z2 :=
  ⟨a.toExt0.trans b.toExt0, b.res.trans a.res, b.tab.trans a.tab, fun c h => (b.rs c (by rw [a.res]; exact h)).trans (a.rs c h), fun p h => b.cod p (a.cod p h), b.lamE.trans a.lamE⟩
theorem TupR.mono {z z' : Rz} (e : Ext0 z z') {a : Addr} {ys : List V} (h : TupR z a ys) : TupR z' a ys := by
  rcases h with ⟨h | ⟨o, h⟩, f⟩ | h
  · obtain ⟨h1, f1⟩ := e.H _ _ h f
    exact .inl ⟨.inl h1, f1⟩
  · obtain ⟨h1, f1⟩ := e.H _ _ h f
    exact .inl ⟨.inr ⟨o, h1⟩, f1⟩
  · exact .inr (by rw [e.K]; exact h)
theorem LstR.mono {z z' : Rz} (e : Ext0 z z') {a : Addr} {ys : List V} (h : LstR z a ys) : LstR z' a ys := by
  obtain ⟨h | ⟨o, h⟩, f⟩ := h
  · obtain ⟨h1, f1⟩ := e.H _ _ h f
    exact ⟨.inl h1, f1⟩
  · obtain ⟨h1, f1⟩ := e.H _ _ h f
    exact ⟨.inr ⟨o, h1⟩, f1⟩
theorem TupR.sq {z : Rz} {a : Addr} {ys : List V} (h : TupR z a ys) : SqT z.K z.H a ys := h.imp (fun x => x.1) fun x => x
theorem LstR.sq {z : Rz} {a : Addr} {ys : List V} (h : LstR z a ys) : SqL z.K z.H a ys := .inl h.1
section
variable {z z' : Rz} (e : Ext0 z z')
include e
mutual
theorem Rel.mono0 : ∀ {v : VV} {x : V}, Rel z v x → Rel z' v x
  | .non, _, h => h
  | .bl _, _, h => h
  | .int _, _, h => h
  | .str _, _, h => h
  | .ref k, _, h => by
    obtain ⟨h1, rfl⟩ := h
    exact ⟨Nat.lt_of_lt_of_le h1 e.n, by rw [e.al k h1]⟩
  | .glb g, _, h => by
    show _ = V.ref (z'.ad g)
    rw [e.ad]; exact h
  | .lam, x, h => ⟨e.lam x h.1, h.2⟩
  | .tup xs, _, h => by
    obtain ⟨a, ys, rfl, t, r⟩ := h
    exact ⟨a, ys, rfl, t.mono e, RelL.mono0 r⟩
  | .lst xs, _, h => by
    obtain ⟨a, ys, rfl, t, r⟩ := h
    exact ⟨a, ys, rfl, t.mono e, RelL.mono0 r⟩
  | .dic ks vs, _, h => by
    obtain ⟨a, kvs, rfl, t, f, k, r⟩ := h
    obtain ⟨t1, f1⟩ := e.H _ _ t f
    exact ⟨a, kvs, rfl, t1, f1, k, RelL.mono0 r⟩
  | .ins c ns vs, _, h => by
    obtain ⟨a, dx, fs, rfl, t, f, k, r⟩ := h
    obtain ⟨t1, f1⟩ := e.H _ _ t f
    exact ⟨a, dx, fs, rfl, by rw [e.ad]; exact t1, f1, k, RelL.mono0 r⟩
  | .exc c ns vs, _, h => by
    obtain ⟨a, d, fs, rfl, t, f, t2, f2, k, r⟩ := h
    obtain ⟨t1, f1⟩ := e.H _ _ t f
    obtain ⟨t3, f3⟩ := e.H _ _ t2 f2
    exact ⟨a, d, fs, rfl, by rw [e.ad]; exact t1, f1, t3, f3, k, RelL.mono0 r⟩
theorem RelL.mono0 : ∀ {vs : List VV} {xs : List V}, RelL z vs xs → RelL z' vs xs
  | [], _, h => h
  | v :: vs, _, h => by
    obtain ⟨y, r, rfl, h1, h2⟩ := h
    exact ⟨y, r, rfl, Rel.mono0 h1, RelL.mono0 h2⟩
end
end
theorem Rel.mono {z z' : Rz} (e : Ext z z') {v : VV} {x : V} (h : Rel z v x) : Rel z' v x := h.mono0 e.toExt0
theorem RelL.mono {z z' : Rz} (e : Ext z z') {vs : List VV} {xs : List V} (h : RelL z vs xs) : RelL z' vs xs := h.mono0 e.toExt0
theorem relL_nil {z : Rz} : RelL z [] [] := rfl
theorem relL_cons {z : Rz} {v : VV} {vs : List VV} {x : V} {xs : List V} (a : Rel z v x) (b : RelL z vs xs) : RelL z (v :: vs) (x :: xs) := ⟨x, xs, rfl, a, b⟩
theorem RelL.length {z : Rz} : ∀ {vs : List VV} {xs : List V}, RelL z vs xs → vs.length = xs.length
  | [], _, h => by cases h; rfl
  | v :: vs, _, h => by
    obtain ⟨y, r, rfl, _, h2⟩ := h
    simp [h2.length]
theorem RelL.get {z : Rz} : ∀ {vs : List VV} {xs : List V} {i : Nat} {v : VV}, RelL z vs xs → vs[i]? = some v → ∃ x, xs[i]? = some x ∧ Rel z v x
  | [], _, _, _, _, e => by simp at e
  | v :: vs, _, 0, _, h, e => by
    obtain ⟨y, r, rfl, h1, _⟩ := h
    simp at e; subst e
    exact ⟨y, rfl, h1⟩
  | v :: vs, _, i + 1, w, h, e => by
    obtain ⟨y, r, rfl, _, h2⟩ := h
    obtain ⟨x, a, b⟩ := RelL.get (i := i) h2 (by simpa using e)
    exact ⟨x, by simpa using a, b⟩
theorem RelL.append {z : Rz} : ∀ {vs ws : List VV} {xs ys : List V}, RelL z vs xs → RelL z ws ys → RelL z (vs ++ ws) (xs ++ ys)
  | [], _, _, _, h, k => by cases h; exact k
  | v :: vs, _, _, _, h, k => by
    obtain ⟨y, r, rfl, h1, h2⟩ := h
    exact ⟨y, _, rfl, h1, RelL.append h2 k⟩
theorem RelL.take {z : Rz} : ∀ {vs : List VV} {xs : List V} (n : Nat), RelL z vs xs → RelL z (vs.take n) (xs.take n)
  | _, _, 0, _ => by simp [RelL]
  | [], _, n + 1, h => by cases h; simp [RelL]
  | v :: vs, _, n + 1, h => by
    obtain ⟨y, r, rfl, h1, h2⟩ := h
    exact ⟨y, _, rfl, h1, RelL.take n h2⟩
theorem RelL.drop {z : Rz} : ∀ {vs : List VV} {xs : List V} (n : Nat), RelL z vs xs → RelL z (vs.drop n) (xs.drop n)
  | _, _, 0, h => h
  | [], _, n + 1, h => by cases h; simp [RelL]
  | v :: vs, _, n + 1, h => by
    obtain ⟨y, r, rfl, h1, h2⟩ := h
    exact RelL.drop n h2
theorem RelL.set {z : Rz} {v : VV} {x : V} (r : Rel z v x) : ∀ {vs : List VV} {xs : List V} (n : Nat), RelL z vs xs → RelL z (vs.set n v) (xs.set n x)
  | [], _, _, h => by cases h; exact rfl
  | w :: vs, _, 0, h => by
    obtain ⟨y, q, rfl, h1, h2⟩ := h
    exact ⟨x, _, rfl, r, h2⟩
  | w :: vs, _, n + 1, h => by
    obtain ⟨y, q, rfl, h1, h2⟩ := h
    exact ⟨y, _, rfl, h1, RelL.set r n h2⟩

def ObR (z : Rz) (a : Addr) : Ob → Prop
  | .lst xs => ∃ ys, z.H a = some (.lst ys) ∧ RelL z xs ys
  | .dic ks vs => ∃ kvs, z.H a = some (.dK kvs) ∧ kvs.map (·.1) = ks ∧ RelL z vs (kvs.map (·.2))
  | .ins c ns vs => ∃ dx fs, z.H a = some (.ins (z.ad c) dx fs) ∧ fs.map (·.1) = ns ∧ RelL z vs (fs.map (·.2))
theorem ObR.some {z : Rz} {a : Addr} {o : Ob} (h : ObR z a o) : ∃ u, z.H a = some u ∧ Mut (some u) ∧ ∀ F, u ≠ .ext F := by
  cases o with
  | lst xs => obtain ⟨ys, h, _⟩ := h; exact ⟨_, h, trivial, fun F e => by cases e⟩
  | dic ks vs => obtain ⟨ys, h, _⟩ := h; exact ⟨_, h, trivial, fun F e => by cases e⟩
  | ins c ns vs => obtain ⟨_, _, h, _⟩ := h; exact ⟨_, h, trivial, fun F e => by cases e⟩
theorem ObR.mono0 {z z' : Rz} (e : Ext0 z z') {a : Addr} {o : Ob} (hH : z'.H a = z.H a) (h : ObR z a o) : ObR z' a o := by
  cases o with
  | lst xs => obtain ⟨ys, h, r⟩ := h; exact ⟨ys, hH.trans h, r.mono0 e⟩
  | dic ks vs => obtain ⟨ys, h, k, r⟩ := h; exact ⟨ys, hH.trans h, k, r.mono0 e⟩
  | ins c ns vs => obtain ⟨dx, fs, h, k, r⟩ := h; exact ⟨dx, fs, by rw [hH, e.ad]; exact h, k, r.mono0 e⟩
theorem ObR.mono {z z' : Rz} (e : Ext z z') {a : Addr} {o : Ob} (hH : z'.H a = z.H a) (h : ObR z a o) : ObR z' a o := h.mono0 e.toExt0 hH
structure Md (z : Rz) (h : VH) : Prop where
  n : z.n = h.length
  inj : ∀ i j, i < z.n → j < z.n → z.al i = z.al j → i = j
  ob : ∀ k o, h[k]? = some o → ObR z (z.al k) o
  rs : ∀ b ∈ z.res, z.H b ≠ none
  rl : ∀ k, k < z.n → z.al k ∉ z.res
  tb : LamX.Tabs z.tab z.H
  tl : ∀ p ∈ z.tab, (∀ k, k < z.n → z.al k ≠ p.1) ∧ p.1 ∉ z.res
  cd : ∀ p ∈ z.cod, z.H p.1 = some (LamX.CodeO p.1 p.2)
/-- the heap alone grows -/
def Rz.put (z : Rz) (p : Addr) (o : HO) : Rz := { z with H := upd z.H p o }
/-- one cell more -/
def Rz.new (z : Rz) (p : Addr) (o : HO) : Rz := { z with H := upd z.H p o, n := z.n + 1, al := fun k => if k = z.n then p else z.al k }
theorem Ext.put {z : Rz} {p : Addr} {o : HO} (hp : z.H p = none) (hr : ∀ b ∈ z.res, z.H b ≠ none) : Ext z (z.put p o) :=
  ⟨⟨rfl, rfl, Nat.le_refl _, fun _ _ => rfl, fun b u h f => ⟨(upd_ne (ne_of_none h hp)).trans h, f.al, f.res, f.tab⟩, fun _ h => h⟩, rfl, rfl, fun b hb => upd_ne fun e => hr b hb (by rw [e]; exact hp), fun _ h => h, rfl⟩
theorem Ext.new {z : Rz} {p : Addr} {o : HO} (hp : z.H p = none) (hr : ∀ b ∈ z.res, z.H b ≠ none) : Ext z (z.new p o) := by
  refine ⟨⟨rfl, rfl, Nat.le_succ _, fun k hk => if_neg (Nat.ne_of_lt hk), fun b u h f => ⟨(upd_ne (ne_of_none h hp)).trans h, fun k hk => ?_, f.res, f.tab⟩, fun _ h => h⟩, rfl, rfl, fun b hb => upd_ne fun e => hr b hb (by rw [e]; exact hp), fun _ h => h, rfl⟩
  show (if k = z.n then p else z.al k) ≠ b
  by_cases e : k = z.n
  · rw [if_pos e]; exact (ne_of_none h hp).symm
  · rw [if_neg e]; exact f.al k (by have : k < z.n + 1 := hk; omega)
theorem Md.lt {z : Rz} {h : VH} (m : Md z h) {k : Nat} {o : Ob} (e : h[k]? = some o) : k < z.n := by
  rw [m.n]; exact (List.getElem?_eq_some_iff.mp e).1
theorem Md.get {z : Rz} {h : VH} (m : Md z h) {k : Nat} (hk : k < z.n) : ∃ o, h[k]? = some o := by
  rw [m.n] at hk; exact ⟨_, List.getElem?_eq_getElem hk⟩
theorem Md.some {z : Rz} {h : VH} (m : Md z h) {k : Nat} (hk : k < z.n) : ∃ u, z.H (z.al k) = some u := by
  obtain ⟨o, e⟩ := m.get hk
  obtain ⟨u, q, _⟩ := (m.ob k o e).some
  exact ⟨u, q⟩
theorem tab_some {T : List (Addr × Str)} {H : Hp} (t : LamX.Tabs T H) {p : Addr × Str} (hp : p ∈ T) : ∃ ps, H p.1 = some (.tbl ps) := let ⟨ps, e, _⟩ := t p hp; ⟨ps, e⟩
theorem tab_keep {T : List (Addr × Str)} {H H' : Hp} (t : LamX.Tabs T H) (e : ∀ b c q, H b = some (LamX.CodeO c q) → H' b = some (LamX.CodeO c q)) (e2 : ∀ p ∈ T, H' p.1 = H p.1) : LamX.Tabs T H' := fun p hp => by
  obtain ⟨ps, h1, h2, h3⟩ := t p hp
  refine ⟨ps, (e2 p hp).trans h1, h2, fun pos cv hc => ?_⟩
  obtain ⟨c, ec, hcc⟩ := h3 pos cv hc
  exact ⟨c, ec, e c _ _ hcc⟩
/-- a new thing is not a cell, nor under way, nor a table -/
theorem Md.fre {z : Rz} {h : VH} (m : Md z h) {p : Addr} (hp : z.H p = none) : z.Fre p :=
  ⟨fun k hk e => (by
    obtain ⟨u, q⟩ := m.some hk
    rw [e, hp] at q; cases q), fun hr => m.rs p hr hp, fun q hq e => (by
    obtain ⟨ps, h1⟩ := tab_some m.tb hq
    rw [e, hp] at h1; cases h1)⟩
theorem Md.tb_new {z : Rz} {h : VH} (m : Md z h) {p : Addr} {o : HO} (hp : z.H p = none) : LamX.Tabs z.tab (upd z.H p o) :=
  tab_keep m.tb (fun b c q e => (upd_ne (ne_of_none e hp)).trans e) fun q hq => upd_ne fun e => (m.fre hp).tab q hq e
theorem Md.rs_new {z : Rz} {h : VH} (m : Md z h) {p : Addr} {o : HO} : ∀ b ∈ z.res, upd z.H p o b ≠ none := fun b hb e => by
  by_cases q : b = p
  · rw [q, upd_same] at e; cases e
  · rw [upd_ne q] at e; exact m.rs b hb e
theorem Md.cd_new {z : Rz} {h : VH} (m : Md z h) {p : Addr} {o : HO} (hp : z.H p = none) : ∀ q ∈ z.cod, upd z.H p o q.1 = Option.some (LamX.CodeO q.1 q.2) := fun q hq => (upd_ne (ne_of_none (m.cd q hq) hp)).trans (m.cd q hq)
theorem Md.put {z : Rz} {h : VH} (m : Md z h) {p : Addr} {o : HO} (hp : z.H p = none) : Md (z.put p o) h :=
  ⟨m.n, m.inj, fun k u e => (m.ob k u e).mono (Ext.put hp m.rs) (upd_ne ((m.fre hp).al k (m.lt e))), m.rs_new, m.rl, m.tb_new hp, m.tl, m.cd_new hp⟩
theorem cell_more {z z' : Rz} {h : VH} {u : Ob} {p : Addr} (m : Md z h) (e : Ext0 z z') (hn : z'.n = z.n + 1) (hal : ∀ k, k < z.n → z'.al k = z.al k) (hp : z'.al z.n = p) (hH : ∀ k, k < z.n → z'.H (z.al k) = z.H (z.al k)) (hpn : ∀ k, k < z.n → z.al k ≠ p) (hu : ObR z' p u) :
    z'.n = (h ++ [u]).length ∧ (∀ i j, i < z'.n → j < z'.n → z'.al i = z'.al j → i = j) ∧ ∀ k o, (h ++ [u])[k]? = some o → ObR z' (z'.al k) o := by
  refine ⟨by rw [hn, List.length_append, m.n]; rfl, fun i j hi hj q => ?_, fun k v ek => ?_⟩
  · rw [hn] at hi hj
    by_cases e1 : i = z.n
    · by_cases e2 : j = z.n
      · rw [e1, e2]
      · rw [e1, hp, hal j (by omega)] at q
        exact absurd q.symm (hpn j (by omega))
    · by_cases e2 : j = z.n
      · rw [e2, hp, hal i (by omega)] at q
        exact absurd q (hpn i (by omega))
      · rw [hal i (by omega), hal j (by omega)] at q
        exact m.inj i j (by omega) (by omega) q
  · by_cases hk : k < h.length
    · rw [List.getElem?_append_left hk] at ek
      have hk' : k < z.n := by rw [m.n]; exact hk
      rw [hal k hk']
      exact (m.ob k v ek).mono0 e (hH k hk')
    · have hk2 : k = h.length := by
        have := (List.getElem?_eq_some_iff.mp ek).1
        rw [List.length_append, List.length_singleton] at this
        omega
      subst hk2
      rw [List.getElem?_append_right (Nat.le_refl _), Nat.sub_self] at ek
      have e' : u = v := by simpa using ek
      subst e'
      rw [← m.n, hp]; exact hu
theorem new_al {z : Rz} {p : Addr} {o : HO} {k : Nat} (hk : k < z.n) : (z.new p o).al k = z.al k := if_neg (Nat.ne_of_lt hk)
theorem Md.new {z : Rz} {h : VH} (m : Md z h) {p : Addr} {o : HO} {u : Ob} (hp : z.H p = none) (hu : ObR (z.new p o) p u) : Md (z.new p o) (h ++ [u]) := by
  have fr := m.fre hp
  obtain ⟨c1, c2, c3⟩ := cell_more m (Ext.new hp m.rs).toExt0 rfl (fun k hk => new_al hk) (if_pos rfl) (fun k hk => upd_ne (fr.al k hk)) (fun k hk => fr.al k hk) hu
  refine ⟨c1, c2, c3, m.rs_new, fun k hk => ?_, m.tb_new hp, fun q hq => ⟨fun k hk => ?_, (m.tl q hq).2⟩, m.cd_new hp⟩
  · by_cases e : k = z.n
    · rw [show (z.new p o).al k = p from if_pos e]; exact fr.res
    · rw [show (z.new p o).al k = z.al k from if_neg e]; exact m.rl k (by have : k < z.n + 1 := hk; omega)
  · by_cases e : k = z.n
    · rw [show (z.new p o).al k = p from if_pos e]; exact fun e => fr.tab q hq e.symm
    · rw [show (z.new p o).al k = z.al k from if_neg e]; exact (m.tl q hq).1 k (by have : k < z.n + 1 := hk; omega)
theorem Md.cell_ncode {z : Rz} {h : VH} (m : Md z h) {k : Nat} {c : Addr} {q : Str} (hk : k < z.n) (e : z.H (z.al k) = Option.some (LamX.CodeO c q)) : False := by
  obtain ⟨o', e'⟩ := m.get hk
  obtain ⟨w, e2, hw⟩ := (m.ob k o' e').some
  rw [e2] at e
  cases e
  exact hw.2 _ rfl
theorem Md.ext_set {z : Rz} {h : VH} (m : Md z h) {k : Nat} {o : HO} (hk : k < z.n) : Ext z (z.put (z.al k) o) :=
  ⟨⟨rfl, rfl, Nat.le_refl _, fun _ _ => rfl, fun b u q f => ⟨(upd_ne (f.al k hk).symm).trans q, f.al, f.res, f.tab⟩, fun _ h => h⟩, rfl, rfl, fun b hb => upd_ne fun e => m.rl k hk (e ▸ hb), fun _ h => h, rfl⟩
theorem Md.set {z : Rz} {h : VH} (m : Md z h) {k : Nat} {o : HO} {u : Ob} (hk : k < z.n) (hu : ObR (z.put (z.al k) o) (z.al k) u) : Md (z.put (z.al k) o) (h.set k u) := by
  refine ⟨by show z.n = _; rw [List.length_set]; exact m.n, m.inj, fun j v e => ?_, m.rs_new, m.rl, ?_, m.tl, fun q hq => (upd_ne fun e => m.cell_ncode hk (by rw [← e]; exact m.cd q hq)).trans (m.cd q hq)⟩
  · by_cases q : j = k
    · subst q
      rw [List.getElem?_set_self (by rw [← m.n]; exact hk)] at e
      cases e
      exact hu
    · rw [List.getElem?_set_ne (Ne.symm q)] at e
      exact (m.ob j v e).mono (m.ext_set hk) (upd_ne fun w => q (m.inj j k (m.lt e) hk w))
  · obtain ⟨o', e'⟩ := m.get hk
    obtain ⟨w, e2, hw⟩ := (m.ob k o' e').some
    refine tab_keep m.tb (fun b c r e => ?_) fun q hq => upd_ne fun e => (m.tl q hq).1 k hk e.symm
    refine (upd_ne fun q => ?_).trans e
    rw [q, e2] at e
    cases e
    exact hw.2 _ rfl
/-! ### a thing under way: opened, then closed as a cell -/
def Rz.opn (z : Rz) (p : Addr) (o : HO) : Rz := { z with H := upd z.H p o, res := p :: z.res }
def Rz.cls (z : Rz) (p : Addr) (o : HO) (r : List Addr) : Rz := { z with H := upd z.H p o, res := r, n := z.n + 1, al := fun k => if k = z.n then p else z.al k }
theorem Rz.Fre.put {z : Rz} {p a : Addr} {o : HO} (f : z.Fre a) : (z.put p o).Fre a := ⟨f.al, f.res, f.tab⟩
section
variable {z z1 : Rz} {h h1 : VH} {p : Addr} {o o2 : HO}
theorem Md.opn (m : Md z h) (hp : z.H p = none) : Md (z.opn p o) h :=
  have fr := m.fre hp
  have e0 : Ext0 z (z.opn p o) := ⟨rfl, rfl, Nat.le_refl _, fun _ _ => rfl, fun b u q f => ⟨(upd_ne (ne_of_none q hp)).trans q, f.al, fun hb => (List.mem_cons.mp hb).elim (fun e => ne_of_none q hp e) f.res, f.tab⟩, fun _ h => h⟩
  ⟨m.n, m.inj, fun k u e => (m.ob k u e).mono0 e0 (upd_ne (fr.al k (m.lt e))), fun b hb => by
    rcases List.mem_cons.mp hb with e | hb
    · rw [e]; intro q; rw [show (z.opn p o).H p = Option.some o from upd_same] at q; cases q
    · exact m.rs_new b hb,
   fun k hk hb => (List.mem_cons.mp hb).elim (fun e => fr.al k hk e) (m.rl k hk), m.tb_new hp, fun q hq => ⟨(m.tl q hq).1, fun hb => (List.mem_cons.mp hb).elim (fun e => fr.tab q hq e) (m.tl q hq).2⟩, m.cd_new hp⟩
theorem opn_ext0 (m : Md z h) (hp : z.H p = none) : Ext0 z (z.opn p o) := ⟨rfl, rfl, Nat.le_refl _, fun _ _ => rfl, fun b u q f => ⟨(upd_ne (ne_of_none q hp)).trans q, f.al, fun hb => (List.mem_cons.mp hb).elim (fun e => ne_of_none q hp e) f.res, f.tab⟩, fun _ h => h⟩
/-- closing: what was known stays -/
theorem cls_ext0 (m1 : Md z1 h1) (hr : p ∈ z1.res) (hs : ∀ b ∈ z.res, b ∈ z1.res) : Ext0 z1 (z1.cls p o2 z.res) := by
  refine ⟨rfl, rfl, Nat.le_succ _, fun k hk => if_neg (Nat.ne_of_lt hk), fun b u q f => ⟨(upd_ne fun e => f.res (by rw [e]; exact hr)).trans q, fun k hk => ?_, fun hb => f.res (hs b hb), f.tab⟩, fun _ h => h⟩
  show (if k = z1.n then p else z1.al k) ≠ b
  by_cases e : k = z1.n
  · rw [if_pos e]; exact fun e => f.res (by rw [← e]; exact hr)
  · rw [if_neg e]; exact f.al k (by have : k < z1.n + 1 := hk; omega)
theorem opn_ext (m : Md z h) (hp : z.H p = none) (e : Ext (z.opn p o) z1) : Ext z (z1.cls p o2 z.res) := by
  have fr := m.fre hp
  have ne : ∀ b u, z.H b = some u → b ≠ p := fun b u q => ne_of_none q hp
  have nr : ∀ b ∈ z.res, b ≠ p := fun b hb e => m.rs b hb (by rw [e]; exact hp)
  refine ⟨⟨e.K, e.ad, Nat.le_succ_of_le e.n, fun k hk => ?_, fun b u q f => ?_, e.lam⟩, rfl, e.tab, fun b hb => ?_, e.cod, e.lamE⟩
  · have hk1 : k < z1.n := Nat.lt_of_lt_of_le hk e.n
    exact (if_neg (Nat.ne_of_lt hk1)).trans (e.al k hk)
  · obtain ⟨q1, f1⟩ := e.H b u ((upd_ne (ne b u q)).trans q) ⟨f.al, fun hb => (List.mem_cons.mp hb).elim (ne b u q) f.res, f.tab⟩
    refine ⟨(upd_ne (ne b u q)).trans q1, fun k hk => ?_, f.res, f1.tab⟩
    show (if k = z1.n then p else z1.al k) ≠ b
    by_cases e : k = z1.n
    · rw [if_pos e]; exact (ne b u q).symm
    · rw [if_neg e]; exact f1.al k (by have : k < z1.n + 1 := hk; omega)
  · show upd z1.H p o2 b = z.H b
    rw [upd_ne (nr b hb), e.rs b (List.mem_cons_of_mem _ hb)]
    exact upd_ne (nr b hb)
theorem opn_sub (e : Ext (z.opn p o) z1) : p ∈ z1.res ∧ ∀ b ∈ z.res, b ∈ z1.res := ⟨by rw [e.res]; exact List.mem_cons_self, fun b hb => by rw [e.res]; exact List.mem_cons_of_mem _ hb⟩
theorem cls_md {u : Ob} (m : Md z h) (hp : z.H p = none) (e : Ext (z.opn p o) z1) (m1 : Md z1 h1) (hu : ObR (z1.cls p o2 z.res) p u) (ho : ∀ c q, z1.H p ≠ some (LamX.CodeO c q)) : Md (z1.cls p o2 z.res) (h1 ++ [u]) := by
  have fr := m.fre hp
  obtain ⟨s1, s2⟩ := opn_sub e
  have ne : ∀ k, k < z1.n → z1.al k ≠ p := fun k hk q => m1.rl k hk (q ▸ s1)
  obtain ⟨c1, c2, c3⟩ := cell_more m1 (cls_ext0 m1 s1 s2) rfl (fun k hk => if_neg (Nat.ne_of_lt hk)) (if_pos rfl) (fun k hk => upd_ne (ne k hk)) ne hu
  have ht : ∀ q ∈ z1.tab, q.1 ≠ p := fun q hq e => (m1.tl q hq).2 (e ▸ s1)
  refine ⟨c1, c2, c3, fun b hb q => ?_, fun k hk hb => ?_, tab_keep m1.tb (fun b c q e => (upd_ne fun w => ho c q (by rw [← w]; exact e)).trans e) (fun q hq => upd_ne (ht q hq)), fun q hq => ⟨fun k hk => ?_, fun hb => (m1.tl q hq).2 (s2 _ hb)⟩, fun q hq => (upd_ne fun e => ho _ _ (by rw [← e]; exact m1.cd q hq)).trans (m1.cd q hq)⟩
  · have q : upd z1.H p o2 b = none := q
    by_cases w : b = p
    · rw [w, upd_same] at q; cases q
    · rw [upd_ne w] at q; exact m1.rs b (s2 b hb) q
  · have hb : (if k = z1.n then p else z1.al k) ∈ z.res := hb
    by_cases w : k = z1.n
    · rw [if_pos w] at hb; exact fr.res hb
    · rw [if_neg w] at hb; exact m1.rl k (by have : k < z1.n + 1 := hk; omega) (s2 _ hb)
  · show (if k = z1.n then p else z1.al k) ≠ q.1
    by_cases w : k = z1.n
    · rw [if_pos w]; exact (ht q hq).symm
    · rw [if_neg w]; exact (m1.tl q hq).1 k (by have : k < z1.n + 1 := hk; omega)
end
/-! ### what is wanted of an end -/
def Post {β : Type} (z : Rz) (r : Rs β) (Q : Rz → β → VH → Prop) (W : XK) : Prop := match r with
  | .ok b h => ∀ z', Ext z z' → Md z' h → Q z' b h
  | .exc c ns vs h => ∀ z' d fs, Ext z z' → Md z' h → z'.H d = some (.xd fs) → z'.Fre d → fs.map (·.1) = ns → RelL z' vs (fs.map (·.2)) → W (.ref (z'.ad c)) (some d) z'.H
  | .bad => False
theorem Post.from {β : Type} {z z1 : Rz} {r : Rs β} {Q : Rz → β → VH → Prop} {W : XK} (e : Ext z z1) (h : Post z r Q W) : Post z1 r Q W := by
  cases r with
  | ok b h' => exact fun z' a b => h z' (e.trans a) b
  | exc c ns vs h' => exact fun z' d fs a => h z' d fs (e.trans a)
  | bad => exact h
theorem Post.mono {β : Type} {z : Rz} {r : Rs β} {Q Q' : Rz → β → VH → Prop} {W W' : XK} (h : Post z r Q W) (hQ : ∀ z' b h', Ext z z' → Md z' h' → Q z' b h' → Q' z' b h') (hW : ∀ c d H, W c d H → W' c d H) : Post z r Q' W' := by
  cases r with
  | ok b h' => exact fun z' a b => hQ z' _ _ a b (h z' a b)
  | exc c ns vs h' => exact fun z' d fs a b c1 c2 c3 c4 => hW _ _ _ (h z' d fs a b c1 c2 c3 c4)
  | bad => exact h
theorem Post.bind {α β : Type} {z : Rz} {r : Rs α} {f : α → VH → Rs β} {Q : Rz → β → VH → Prop} {W : XK} (h : Post z (r.bind f) Q W) : Post z r (fun z1 a h1 => Post z1 (f a h1) Q W) W := by
  cases r with
  | ok b h' => exact fun z1 e m => h.from e
  | exc c ns vs h' => exact h
  | bad => exact h
/-- slots -/
def RelS (z : Rz) (s : Sl) (σ : L2.St) : Prop := s.length = σ.length ∧ ∀ (i : Nat) (v : VV), s[i]? = some (some v) → ∃ x : V, σ[i]? = some (some x) ∧ Rel z v x
theorem RelS.mono0 {z z' : Rz} (e : Ext0 z z') {s : Sl} {σ : L2.St} (h : RelS z s σ) : RelS z' s σ := ⟨h.1, fun i v q => let ⟨x, a, b⟩ := h.2 i v q; ⟨x, a, b.mono0 e⟩⟩
theorem RelS.mono {z z' : Rz} (e : Ext z z') {s : Sl} {σ : L2.St} (h : RelS z s σ) : RelS z' s σ := ⟨h.1, fun i v q => let ⟨x, a, b⟩ := h.2 i v q; ⟨x, a, b.mono e⟩⟩
theorem RelS.set {z : Rz} {s : Sl} {σ : L2.St} (h : RelS z s σ) {v : VV} {x : V} (r : Rel z v x) (i : Nat) : RelS z (s.set i (some v)) (σ.set i (some x)) := by
  refine ⟨by simpa using h.1, fun j w q => ?_⟩
  by_cases e : i = j
  · subst e
    by_cases hi : i < s.length
    · rw [List.getElem?_set_self hi] at q
      cases q
      exact ⟨x, List.getElem?_set_self (by rw [← h.1]; exact hi), r⟩
    · rw [List.getElem?_eq_none (by simpa using hi)] at q; cases q
  · rw [List.getElem?_set_ne e] at q
    obtain ⟨y, a, b⟩ := h.2 j w q
    exact ⟨y, by rw [List.getElem?_set_ne e]; exact a, b⟩
theorem RelS.unset {z : Rz} {s : Sl} {σ : L2.St} (h : RelS z s σ) (i : Nat) (o : Option V) : RelS z (s.set i none) (σ.set i o) := by
  refine ⟨by simpa using h.1, fun j w q => ?_⟩
  by_cases e : i = j
  · subst e
    by_cases hi : i < s.length
    · rw [List.getElem?_set_self hi] at q
      cases q
    · rw [List.getElem?_eq_none (by simpa using hi)] at q; cases q
  · rw [List.getElem?_set_ne e] at q
    obtain ⟨y, a, b⟩ := h.2 j w q
    exact ⟨y, by rw [List.getElem?_set_ne e]; exact a, b⟩
theorem RelS.wipe {z : Rz} {s : Sl} {σ : L2.St} (h : RelS z s σ) : ∀ w : List Nat, RelS z (wipeS s w) (wipe σ w)
  | [] => h
  | v :: vs => (RelS.wipe h vs).unset v none
/-! ### readings -/
structure Cfg where
  K : PySem.W.Frag
  ad : Nat → Addr
  lam : Option V
  cod : List (Addr × Str)
  gnd : Option Rz
  tbs : List (Addr × Str)
/-- these tables are among those that stand -/
def TabIn (l t : List (Addr × Str)) : Prop := ∀ p ∈ l, p ∈ t ∧ ∀ q ∈ t, q.1 = p.1 → q.2 = p.2
theorem TabIn.of {l t t' : List (Addr × Str)} (h : TabIn l t) (e : t' = t) : TabIn l t' := by rw [e]; exact h
structure At (c : Cfg) (z : Rz) (H : Hp) (h : VH) (s : Sl) (σ : L2.St) : Prop where
  K : z.K = c.K
  ad : z.ad = c.ad
  H : z.H = H
  md : Md z h
  sl : RelS z s σ
  lam : z.lam = c.lam
  cod : ∀ p ∈ c.cod, p ∈ z.cod
  gnd : ∀ g, c.gnd = some g → Ext0 g z
  tab : TabIn c.tbs z.tab
theorem At.next {c : Cfg} {z z' : Rz} {H : Hp} {h h' : VH} {s : Sl} {σ : L2.St} (a : At c z H h s σ) (e : Ext z z') (m : Md z' h') : At c z' z'.H h' s σ := ⟨e.K.trans a.K, e.ad.trans a.ad, rfl, m, a.sl.mono e, e.lamE.trans a.lam, fun p h => e.cod p (a.cod p h), fun g h => (a.gnd g h).trans e.toExt0, a.tab.of e.tab⟩
def tE (c : Cfg) (W : WX) (f : Sl → VH → Rs VV) : TE := fun σ H Q => ∃ z h s, At c z H h s σ ∧ Post z (f s h) (fun z' v _ => ∀ x, Rel z' v x → Q x z'.H) fun cls d H' => W cls d σ H'
def tT (c : Cfg) (W : WX) (f : Sl → VH → Rs Bool) : TT := fun σ H Q => ∃ z h s, At c z H h s σ ∧ Post z (f s h) (fun z' b _ => Q b z'.H) fun cls d H' => W cls d σ H'
def tA (c : Cfg) (W : WX) (f : Sl → VH → Rs (List VV)) : TA := fun σ H Q => ∃ z h s, At c z H h s σ ∧ Post z (f s h) (fun z' vs _ => ∀ xs, RelL z' vs xs → Q xs z'.H) fun cls d H' => W cls d σ H'
def EndR (c : Cfg) (D : Ends) (W : WX) (z : Rz) (r : Rs Fl) : Prop := match r with
  | .ok (.nx s) h => ∀ z' σ, Ext z z' → Md z' h → RelS z' s σ → D.nx σ z'.H
  | .ok (.bk s) h => ∀ z' σ, Ext z z' → Md z' h → RelS z' s σ → D.bk σ z'.H
  | .ok (.ct s) h => ∀ z' σ, Ext z z' → Md z' h → RelS z' s σ → D.ct σ z'.H
  | .ok (.rt v) h => ∀ z' x, Ext z z' → Md z' h → Rel z' v x → D.rt x z'.H
  | .exc k ns vs h => ∀ z' σ d fs, Ext z z' → Md z' h → z'.H d = some (.xd fs) → z'.Fre d → fs.map (·.1) = ns → RelL z' vs (fs.map (·.2)) → W (.ref (z'.ad k)) (some d) σ z'.H
  | .bad => False
def tS (c : Cfg) (W : WX) (f : Sl → VH → Rs Fl) : TS := fun D σ H => ∃ z h s, At c z H h s σ ∧ EndR c D W z (f s h)
theorem EndR.from {c : Cfg} {D : Ends} {W : WX} {z z1 : Rz} {r : Rs Fl} (e : Ext z z1) (h : EndR c D W z r) : EndR c D W z1 r := by
  cases r with
  | ok f h' =>
    cases f with
    | nx s => exact fun z' σ a => h z' σ (e.trans a)
    | bk s => exact fun z' σ a => h z' σ (e.trans a)
    | ct s => exact fun z' σ a => h z' σ (e.trans a)
    | rt v => exact fun z' x a => h z' x (e.trans a)
  | exc k ns vs h' => exact fun z' σ d fs a => h z' σ d fs (e.trans a)
  | bad => exact h
/-- an expression, then a statement's end -/
theorem EndR.bind {α : Type} {c : Cfg} {D : Ends} {W : WX} {z : Rz} {r : Rs α} {f : α → VH → Rs Fl} (h : EndR c D W z (r.bind f)) (σ : L2.St) : Post z r (fun z1 a h1 => EndR c D W z1 (f a h1)) fun cls d H' => W cls d σ H' := by
  cases r with
  | ok b h' => exact fun z1 e m => h.from e
  | exc k ns vs h' => exact fun z' d fs a b c1 c2 c3 c4 => h z' σ d fs a b c1 c2 c3 c4
  | bad => exact h
end Mini
end
section
set_option Elab.async false
set_option linter.all false
set_option maxRecDepth 100000
set_option maxHeartbeats 2000000
/-! Mini, part 3: each operation of the evaluator meets its rule. -/
namespace Mini
open PySem PySem.Spec PyProof.Rows L2
abbrev QE (Q : VK) : Rz → VV → VH → Prop := fun z' v _ => ∀ x, Rel z' v x → Q x z'.H
section
variable {z : Rz} {h : VH} {v x y : VV} {w x' y' : V} {Q : VK} {W : XK} {xs : List VV} {ys : List V}
theorem Post.here (p : Post z (.ok v h) (QE Q) W) (m : Md z h) (r : Rel z v w) : Q w z.H := p z (Ext.refl z) m w r
theorem Post.cell {o : Ob} (p : Post z (Mini.new o h) (QE Q) W) (m : Md z h) {a : Addr} {u : HO} (ha : z.H a = none) (hu : ObR (z.new a u) a o) : Q (.ref a) (upd z.H a u) :=
  p (z.new a u) (Ext.new ha m.rs) (m.new ha hu) (.ref a) ⟨by rw [← m.n]; exact Nat.lt_succ_self z.n, by rw [← m.n]; exact congrArg V.ref (if_pos rfl).symm⟩
theorem Post.tupl (p : Post z (.ok (.tup xs) h) (QE Q) W) (m : Md z h) (r : RelL z xs ys) {a : Addr} (ha : z.H a = none) : Q (.ref a) (upd z.H a (.tup ys)) :=
  p (z.put a (.tup ys)) (Ext.put ha m.rs) (m.put ha) (.ref a) ⟨a, ys, rfl, .inl ⟨.inl upd_same, (m.fre ha).put⟩, r.mono (Ext.put ha m.rs)⟩
theorem ObR.lst_new {a : Addr} (m : Md z h) (ha : z.H a = none) (r : RelL z xs ys) : ObR (z.new a (.lst ys)) a (.lst xs) := ⟨ys, upd_same, r.mono (Ext.new ha m.rs)⟩
theorem Post.lstc (p : Post z (Mini.new (.lst xs) h) (QE Q) W) (m : Md z h) (r : RelL z xs ys) {a : Addr} (ha : z.H a = none) : Q (.ref a) (upd z.H a (.lst ys)) :=
  p.cell m ha (ObR.lst_new m ha r)
/-- the items of what is a list or a tuple -/
theorem seq_ok (m : Md z h) (e : seqOf h v = some xs) (r : Rel z v w) : ∃ a ys, w = .ref a ∧ (SqL z.K z.H a ys ∨ SqT z.K z.H a ys) ∧ RelL z xs ys := by
  cases v with
  | tup us =>
    obtain ⟨a, ys, rfl, t, q⟩ := r
    cases e
    exact ⟨a, ys, rfl, .inr t.sq, q⟩
  | lst us =>
    obtain ⟨a, ys, rfl, t, q⟩ := r
    cases e
    exact ⟨a, ys, rfl, .inl t.sq, q⟩
  | ref k =>
    obtain ⟨hk, rfl⟩ := r
    unfold seqOf at e
    cases q : h[k]? with
    | none => simp only [q] at e; cases e
    | some o =>
      simp only [q] at e
      cases o with
      | lst us =>
        cases e
        obtain ⟨ys, h1, h2⟩ := m.ob k _ q
        exact ⟨_, ys, rfl, .inl (SqL.of h1), h2⟩
      | dic ks vs => cases e
      | ins c ns vs => cases e
  | non => cases e
  | bl b => cases e
  | int i => cases e
  | str s => cases e
  | glb g => cases e
  | lam => cases e
  | dic ks vs => cases e
  | ins c ns vs => cases e
  | exc c ns vs => cases e
theorem mapO_len {α β : Type} {f : α → Option β} : ∀ {xs : List α} {ys : List β}, mapO f xs = some ys → xs.length = ys.length
  | [], ys, e => by cases e; rfl
  | x :: xs, ys, e => by
    unfold mapO at e
    split at e
    · rename_i y ys' e1 e2
      cases e
      simp [mapO_len e2]
    · cases e
theorem mapO_cons {α β : Type} {f : α → Option β} {x : α} {xs : List α} {ys : List β} (e : mapO f (x :: xs) = some ys) : ∃ y r, ys = y :: r ∧ f x = some y ∧ mapO f xs = some r := by
  unfold mapO at e
  split at e
  · rename_i y ys' e1 e2
    cases e
    exact ⟨y, ys', rfl, e1, e2⟩
  · cases e
theorem strs_ok : ∀ {xs : List VV} {ss : List Str} {ys : List V}, strsOf xs = some ss → RelL z xs ys → ys = ss.map V.str
  | [], ss, ys, e, r => by cases e; cases r; rfl
  | x :: xs, ss, ys, e, r => by
    obtain ⟨s, ss', rfl, e1, e2⟩ := mapO_cons e
    obtain ⟨y, q, rfl, h1, h2⟩ := r
    rw [strs_ok e2 h2]
    cases x with
    | str t => cases e1; cases h1; rfl
    | _ => cases e1
theorem bls_ok : ∀ {xs : List VV} {ss : List Bool} {ys : List V}, blsOf xs = some ss → RelL z xs ys → ys = ss.map V.bl
  | [], ss, ys, e, r => by cases e; cases r; rfl
  | x :: xs, ss, ys, e, r => by
    obtain ⟨s, ss', rfl, e1, e2⟩ := mapO_cons e
    obtain ⟨y, q, rfl, h1, h2⟩ := r
    rw [bls_ok e2 h2]
    cases x with
    | bl t => cases e1; cases h1; rfl
    | _ => cases e1
/-- data -/
theorem datL_ok {n : Nat} (m : Md z h) (ih : ∀ {v : VV} {d : PyData} {w : V}, dat n h v = some d → Rel z v w → Dp z.K z.H w d) : ∀ {xs : List VV} {ds : List PyData} {ys : List V}, mapO (dat n h) xs = some ds → RelL z xs ys → DpAll z.K z.H ys ds
  | [], ds, ys, e, r => by cases e; cases r; exact .nil
  | x :: xs, ds, ys, e, r => by
    obtain ⟨d, ds', rfl, e1, e2⟩ := mapO_cons e
    obtain ⟨y, q, rfl, h1, h2⟩ := r
    exact .cons (ih e1 h1) (datL_ok m ih e2 h2)
theorem dat_ok (m : Md z h) : ∀ (n : Nat) {v : VV} {d : PyData} {w : V}, dat n h v = some d → Rel z v w → Dp z.K z.H w d
  | 0, v, d, w, e, r => by cases e
  | n + 1, v, d, w, e, r => by
    cases v with
    | non => cases e; cases r; exact .non
    | bl b => cases e; cases r; exact .bl b
    | int i => cases e; cases r; exact .int i
    | str s => cases e; cases r; exact .str s
    | tup us =>
      obtain ⟨a, ys, rfl, t, q⟩ := r
      have e' : (mapO (dat n h) us).map PyData.tuple = some d := e
      cases q2 : mapO (dat n h) us with
      | none => rw [q2] at e'; cases e'
      | some ds =>
        rw [q2] at e'; cases e'
        exact .tup t.sq (datL_ok m (dat_ok m n) q2 q)
    | lst us =>
      obtain ⟨a, ys, rfl, t, q⟩ := r
      have e' : (mapO (dat n h) us).map PyData.list = some d := e
      cases q2 : mapO (dat n h) us with
      | none => rw [q2] at e'; cases e'
      | some ds =>
        rw [q2] at e'; cases e'
        exact .lst t.sq (datL_ok m (dat_ok m n) q2 q)
    | ref k =>
      obtain ⟨hk, rfl⟩ := r
      unfold dat at e
      cases q : h[k]? with
      | none => simp only [q] at e; cases e
      | some o =>
        simp only [q] at e
        cases o with
        | lst us =>
          have e' : (mapO (dat n h) us).map PyData.list = some d := e
          obtain ⟨ys, h1, h2⟩ := m.ob k _ q
          cases q2 : mapO (dat n h) us with
          | none => rw [q2] at e'; cases e'
          | some ds =>
            rw [q2] at e'; cases e'
            exact .lst (SqL.of h1) (datL_ok m (dat_ok m n) q2 h2)
        | dic ks vs => cases e
        | ins c ns vs => cases e
    | glb g => cases e
    | lam => cases e
    | dic ks vs => cases e
    | ins c ns vs => cases e
    | exc c ns vs => cases e
/-- truth -/
theorem RelL.isEmpty : ∀ {xs : List VV} {ys : List V}, RelL z xs ys → ys.isEmpty = xs.isEmpty
  | [], _, r => by cases r; rfl
  | x :: xs, _, r => by obtain ⟨y, q, rfl, _, _⟩ := r; rfl
theorem tru_rel (m : Md z h) {k : Bool} (e : truO h v = some k) (r : Rel z v w) : TruV z.K w z.H k := by
  cases v with
  | non => cases e; cases r; rfl
  | bl b => cases e; cases r; rfl
  | int i => cases e; cases r; rfl
  | str s =>
    cases r
    unfold truO at e
    dsimp only at e
    split at e
    · rename_i hl
      cases e
      exact ⟨hl, rfl⟩
    · cases e
  | tup us =>
    obtain ⟨a, ys, rfl, t, q⟩ := r
    cases e
    exact .inr (.inl ⟨ys, t.sq, by rw [q.isEmpty]⟩)
  | lst us =>
    obtain ⟨a, ys, rfl, t, q⟩ := r
    cases e
    exact .inl ⟨ys, t.sq, by rw [q.isEmpty]⟩
  | dic ks vs =>
    obtain ⟨a, kvs, rfl, t, f, k2, q⟩ := r
    cases e
    refine .inr (.inr ⟨kvs, t, ?_⟩)
    subst k2
    cases kvs <;> rfl
  | ref k =>
    obtain ⟨hk, rfl⟩ := r
    unfold truO at e
    cases q : h[k]? with
    | none => simp only [q] at e; cases e
    | some o =>
      simp only [q] at e
      cases o with
      | lst us =>
        cases e
        obtain ⟨ys, h1, h2⟩ := m.ob k _ q
        exact .inl ⟨ys, SqL.of h1, by rw [h2.isEmpty]⟩
      | dic ks vs =>
        cases e
        obtain ⟨kvs, h1, h2, h3⟩ := m.ob k _ q
        refine .inr (.inr ⟨kvs, h1, ?_⟩)
        subst h2
        cases kvs <;> rfl
      | ins c ns vs => cases e
  | glb g => cases e
  | lam => cases e
  | ins c ns vs => cases e
  | exc c ns vs => cases e
/-! ### flat things -/
theorem flat_ok (e : isFlat x = true) (r : Rel z x x') : flatV x' = true := by
  cases x with
  | non => cases r; rfl
  | bl b => cases r; rfl
  | int i => cases r; rfl
  | str s => cases r; rfl
  | _ => cases e
theorem eqF_ok (e : isFlat x = true) (f : isFlat y = true) (r : Rel z x x') (s : Rel z y y') : eqV y' x' = eqF y x := by
  cases x with
  | non => cases r; cases y with | non => cases s; rfl | bl b => cases s; rfl | int i => cases s; rfl | str t => cases s; rfl | _ => cases f
  | bl a => cases r; cases y with | non => cases s; rfl | bl b => cases s; rfl | int i => cases s; rfl | str t => cases s; rfl | _ => cases f
  | int a => cases r; cases y with | non => cases s; rfl | bl b => cases s; rfl | int i => cases s; rfl | str t => cases s; rfl | _ => cases f
  | str a => cases r; cases y with | non => cases s; rfl | bl b => cases s; rfl | int i => cases s; rfl | str t => cases s; rfl | _ => cases f
  | _ => cases e
theorem inF_ok (e : isFlat x = true) (r : Rel z x x') : ∀ {xs : List VV} {ys : List V}, xs.all isFlat = true → RelL z xs ys → ys.all flatV = true ∧ inV x' ys = xs.any fun u => eqF u x
  | [], _, _, q => by cases q; exact ⟨rfl, rfl⟩
  | u :: us, _, f, q => by
    obtain ⟨y, q, rfl, h1, h2⟩ := q
    rw [List.all_cons, Bool.and_eq_true] at f
    obtain ⟨i1, i2⟩ := inF_ok e r f.2 h2
    refine ⟨by rw [List.all_cons, flat_ok f.1 h1, i1]; rfl, ?_⟩
    show (eqV y x' || inV x' q) = (eqF u x || us.any fun u => eqF u x)
    rw [eqF_ok e f.1 r h1, i2]
end
end Mini
end
section
set_option Elab.async false
set_option linter.all false
set_option maxRecDepth 100000
set_option maxHeartbeats 2000000
/-! Mini, part 4: the evaluator's nodes as readings of the hand layer. -/
namespace Mini
open PySem PySem.Spec PyProof.Rows L2
theorem _root_.L2.PE.imp {X : Cx} {e : Expr} {t t' : TE} (h : PE X e t) (i : ∀ σ H Q, t' σ H Q → t σ H Q) : PE X e t' := ⟨fun pins s σ H Q I q => h.run pins s σ H Q I (i σ H Q q)⟩
theorem _root_.L2.PT.imp {X : Cx} {e : Expr} {t t' : TT} (h : PT X e t) (i : ∀ σ H Q, t' σ H Q → t σ H Q) : PT X e t' := ⟨fun pins s σ H Q I q => h.run pins s σ H Q I (i σ H Q q)⟩
theorem _root_.L2.PW.imp {X : Cx} {e : Expr} {t t' : TT} (h : PW X e t) (i : ∀ σ H Q, t' σ H Q → t σ H Q) : PW X e t' := ⟨fun wh pins s σ H Q I q => h.run wh pins s σ H Q I (i σ H Q q)⟩
theorem _root_.L2.PA.imp {X : Cx} {es : List Expr} {t t' : TA} (h : PA X es t) (i : ∀ σ H Q, t' σ H Q → t σ H Q) : PA X es t' := ⟨fun pos pins s σ H Q I q => h.run pos pins s σ H Q I (i σ H Q q)⟩
theorem _root_.L2.PS.imp {X : Cx} {st : Stmt} {t t' : TS} (h : PS X st t) (i : ∀ D σ H, t' D σ H → t D σ H) : PS X st t' := ⟨fun pins s σ H D I q => h.run pins s σ H D I (i D σ H q)⟩
theorem _root_.L2.PSs.imp {X : Cx} {st : List Stmt} {t t' : TS} (h : PSs X st t) (i : ∀ D σ H, t' D σ H → t D σ H) : PSs X st t' := ⟨fun pins s σ H D I q => h.run pins s σ H D I (i D σ H q)⟩

section
variable {c : Cfg} {W : WX} {σ : L2.St} {H : Hp} {Q : VK} {fa fb : Sl → VH → Rs VV}
theorem tOp_of {g : VV → VV → VH → Rs VV} {r : R2}
    (hr : ∀ z h s x y x' y', At c z z.H h s σ → Rel z x x' → Rel z y y' → Post z (g x y h) (QE Q) (fun cls d H' => W cls d σ H') → r x' y' z.H Q)
    (p : tE c W (fun s h => (fa s h).bind fun x h1 => (fb s h1).bind fun y h2 => g x y h2) σ H Q) : tOp r (tE c W fa) (tE c W fb) σ H Q := by
  obtain ⟨z, h, s, a, p⟩ := p
  refine ⟨z, h, s, a, p.bind.mono (fun z1 x h1 e1 m1 p1 x' r1 => ?_) fun _ _ _ q => q⟩
  have a1 := a.next e1 m1
  refine ⟨z1, h1, s, a1, p1.bind.mono (fun z2 y h2 e2 m2 p2 y' r2 => ?_) fun _ _ _ q => q⟩
  exact hr z2 h2 s x y x' y' (a1.next e2 m2) (r1.mono e2) r2 p2
theorem tUn_of {g : VV → VH → Rs VV} {r : V → Hp → VK → Prop}
    (hr : ∀ z h s x x', At c z z.H h s σ → Rel z x x' → Post z (g x h) (QE Q) (fun cls d H' => W cls d σ H') → r x' z.H Q)
    (p : tE c W (fun s h => (fa s h).bind fun x h1 => g x h1) σ H Q) : tUn r (tE c W fa) σ H Q := by
  obtain ⟨z, h, s, a, p⟩ := p
  refine ⟨z, h, s, a, p.bind.mono (fun z1 x h1 e1 m1 p1 x' r1 => ?_) fun _ _ _ q => q⟩
  exact hr z1 h1 s x x' (a.next e1 m1) r1 p1
theorem tCB_of {fs : Sl → VH → Rs (List VV)} {g : List VV → VH → Rs VV} {r : List V → Hp → VK → Prop}
    (hr : ∀ z h s xs ys, At c z z.H h s σ → RelL z xs ys → Post z (g xs h) (QE Q) (fun cls d H' => W cls d σ H') → r ys z.H Q)
    (p : tE c W (fun s h => (fs s h).bind fun x h1 => g x h1) σ H Q) : tCB r (tA c W fs) σ H Q := by
  obtain ⟨z, h, s, a, p⟩ := p
  refine ⟨z, h, s, a, p.bind.mono (fun z1 x h1 e1 m1 p1 x' r1 => ?_) fun _ _ _ q => q⟩
  exact hr z1 h1 s x x' (a.next e1 m1) r1 p1
end
/-! ### operators -/
abbrev rAddS : R2 := fun x y H Q => ∃ i j, x = .str i ∧ y = .str j ∧ i.length + j.length ≤ sizeLine ∧ Q (.str (i ++ j)) H
abbrev rOr (r s : R2) : R2 := fun x y H Q => r x y H Q ∨ s x y H Q
/-- 's' * n, s one sign -/
def rRepS : R2 := fun x y H Q => ∃ (a : Str) (j : Int), x = .str a ∧ y = .int j ∧ 1 < j ∧ j ≤ 100000 ∧ a.length = 1 ∧ Q (.str (Txt.mul a j)) H
/-- xs + ys of lists that are read -/
def rCatA (H0 : PySem.W.Frag) : R2 := fun x y H Q => ∃ a b xs ys, x = .ref a ∧ y = .ref b ∧ Rd H a (.lst xs) ∧ Rd H b (.lst ys) ∧ xs.length + ys.length ≤ sizeLine ∧ ∀ p, H p = none → Q (.ref p) (upd H p (.lst (xs ++ ys)))
section
variable {X : Cx}
theorem rd_lst {pins : List (Addr × Obj)} {σ : L2.St} {H : Hp} {s : Shared} {a : Addr} {xs : List V} (I : Inv X pins σ H s) (h : Rd H a (.lst xs)) :
    ∃ (its : List Value) (n : Nat), Vals xs its ∧ s.heap.get? a = some { cls := .type "list", data := .seq its.toArray n } := by
  obtain ⟨_, its, n, r, e⟩ := h.ok I.hok
  exact ⟨its, n, r, e⟩
theorem op_catA : OpR X (binaryOp .Add) (rCatA X.K) := by
  intro pins s σ H x y v u Q I rx ry h
  obtain ⟨a, b, xs, ys, rfl, rfl, h1, h2, hz, q⟩ := h
  cases rx
  cases ry
  obtain ⟨i1, n1, r1, e1⟩ := rd_lst I h1
  obtain ⟨i2, n2, r2, e2⟩ := rd_lst I h2
  have l1 := r1.length
  have l2 := r2.length
  refine PySem.P.add_list e1 e2 ?_ (by simp only [List.size_toArray]; omega)
  rw [show i1.toArray ++ i2.toArray = (i1 ++ i2).toArray by simp]
  exact ⟨.ref _, _, I.lnew (t' := s.toks) (r1.append r2) (by rw [List.length_append]; omega), rfl, q _ I.fresh⟩
theorem op_repS : OpR X (binaryOp .Mult) rRepS := by
  intro pins s σ H x y v u Q I rx ry h
  obtain ⟨a, j, rfl, rfl, h0, h1, h2, q⟩ := h
  obtain ⟨t, rfl⟩ := rx
  obtain ⟨t', rfl⟩ := ry
  refine PySem.SB.mul ⟨?_, fun _ _ => ?_, fun _ _ => ?_⟩ fun t'' k => ⟨.str _, H, I.tok _, ⟨_, rfl⟩, q⟩
  · rw [decide_eq_false (by omega), decide_eq_false (by omega)]; rfl
  · rw [h2]
    intro hh
    have e : (2 ^ 63 - 1 : Int) / j ≥ 1 := by
      have : (j : Int) * 1 ≤ 2 ^ 63 - 1 := by omega
      exact Int.le_ediv_of_mul_le (by omega) (by omega)
    have hh' : ((1 : Nat) : Int) > (2 ^ 63 - 1) / j := hh
    omega
  · rw [h2]
    have hj : 1 * j.toNat ≤ 100000 := by omega
    refine decide_eq_false ?_
    rw [sizeLine_eq]
    omega
end
def bopOf : Bop → Operator
  | .add => .Add | .sub => .Sub | .mul => .Mult | .fdiv => .FloorDiv | .mod => .Mod | .pow => .Pow
def rBop (K : PySem.W.Frag) : Bop → R2
  | .add => rOr (rI0 fun i j => .int (i + j)) (rOr rAddS (rOr (rCatA K) (rCatT K)))
  | .sub => rI0 fun i j => .int (i - j)
  | .mul => rOr (rI CMul fun i j => .int (i * j)) rRepS
  | .fdiv => rI CDiv fun i j => .int (i / j)
  | .mod => rI (fun _ j => 0 < j) fun i j => .int (i % j)
  | .pow => rI CPow fun i j => .int (i ^ j.toNat)
theorem op_bop {X : Cx} : ∀ o : Bop, OpR X (binaryOp (bopOf o)) (rBop X.K o)
  | .add => op_add.or (op_add_str.or (op_catA.or op_catT))
  | .sub => op_sub
  | .mul => op_mul.or op_repS
  | .fdiv => op_fdiv
  | .mod => op_mod
  | .pow => op_pow
section
variable {z : Rz} {h : VH} {x y : VV} {x' y' : V} {Q : VK} {W : XK}
theorem lst_ok {v : VV} {xs : List VV} {w : V} (m : Md z h) (e : lstOf h v = some xs) (r : Rel z v w) : ∃ a ys, w = .ref a ∧ Rd z.H a (.lst ys) ∧ RelL z xs ys := by
  unfold lstOf at e
  split at e
  · obtain ⟨a, ys, rfl, t, q⟩ := r
    cases e
    exact ⟨a, ys, rfl, t.1, q⟩
  · rename_i k
    obtain ⟨hk, rfl⟩ := r
    split at e
    · rename_i us q
      cases e
      obtain ⟨ys, h1, h2⟩ := m.ob k _ q
      exact ⟨_, ys, rfl, .inl h1, h2⟩
    · cases e
  · cases e
theorem line_of {n : Nat} (h : n ≤ 100000) : n ≤ sizeLine := Nat.le_trans h (by rw [sizeLine_eq]; omega)
theorem bop_ok (o : Bop) (m : Md z h) (rx : Rel z x x') (ry : Rel z y y') (p : Post z (bopS o x y h) (QE Q) W) : rBop z.K o x' y' z.H Q := by
  unfold bopS at p
  split at p
  · rename_i i j
    cases rx; cases ry
    cases o with
    | add => exact .inl ⟨i, j, rfl, rfl, p.here m rfl⟩
    | sub => exact ⟨i, j, rfl, rfl, p.here m rfl⟩
    | mul =>
      simp only [intB] at p
      split at p
      · rename_i hc
        exact .inl ⟨i, j, rfl, rfl, hc, p.here m rfl⟩
      · exact p.elim
    | fdiv =>
      simp only [intB] at p
      split at p
      · rename_i hc
        exact ⟨i, j, rfl, rfl, hc, p.here m rfl⟩
      · exact p.elim
    | mod =>
      simp only [intB] at p
      split at p
      · rename_i hc
        exact ⟨i, j, rfl, rfl, hc, p.here m rfl⟩
      · exact p.elim
    | pow =>
      simp only [intB] at p
      split at p
      · rename_i hc
        exact ⟨i, j, rfl, rfl, hc, p.here m rfl⟩
      · exact p.elim
  · rename_i a b
    cases rx; cases ry
    cases o with
    | add =>
      simp only [strB] at p
      split at p
      · rename_i hc
        exact .inr (.inl ⟨a, b, rfl, rfl, hc, p.here m rfl⟩)
      · exact p.elim
    | _ => exact p.elim
  · rename_i a j
    cases rx; cases ry
    cases o with
    | mul =>
      simp only [repB] at p
      split at p
      · rename_i hc
        exact .inr ⟨a, j, rfl, rfl, hc.1, hc.2.1, hc.2.2, p.here m rfl⟩
      · exact p.elim
    | _ => exact p.elim
  · rename_i xs ys
    obtain ⟨a, us, rfl, t1, r1⟩ := rx
    obtain ⟨b, vs, rfl, t2, r2⟩ := ry
    cases o with
    | add =>
      simp only [tupB] at p
      split at p
      · exact p.elim
      · rename_i hne
        split at p
        · rename_i hz
          have l1 := r1.length
          have l2 := r2.length
          have n1 : us ≠ [] := fun e => by subst e; have : xs = [] := List.length_eq_zero_iff.mp l1; subst this; exact hne rfl
          have n2 : vs ≠ [] := fun e => by subst e; have : ys = [] := List.length_eq_zero_iff.mp l2; subst this; exact hne (by simp)
          refine .inr (.inr (.inr ?_))
          have key : ∀ q, z.H q = none → Q (.ref q) (upd z.H q (.tup (us ++ vs))) := fun q hq => p.tupl m (r1.append r2) hq
          have hz' : us.length + vs.length ≤ sizeLine := line_of (by omega)
          exact ⟨a, b, us, vs, rfl, rfl, t1.sq, t2.sq, n1, hz', fun e => absurd e n2, fun _ => key⟩
        · exact p.elim
    | _ => exact p.elim
  · cases o with
    | add =>
      simp only [lstB] at p
      split at p
      · rename_i xs ys e1 e2
        split at p
        · rename_i hz
          obtain ⟨a, us, rfl, t1, r1⟩ := lst_ok m e1 rx
          obtain ⟨b, vs, rfl, t2, r2⟩ := lst_ok m e2 ry
          have l1 := r1.length
          have l2 := r2.length
          exact .inr (.inr (.inl ⟨a, b, us, vs, rfl, rfl, t1, t2, line_of (by omega), fun q hq => p.lstc m (r1.append r2) hq⟩))
        · exact p.elim
      · exact p.elim
    | _ => exact p.elim
end
/-! ### comparisons -/
def copOf : Cop → CmpOp
  | .eq => .Eq | .ne => .NotEq | .lt => .Lt | .le => .LtE | .gt => .Gt | .ge => .GtE | .isN => .Is | .notN => .IsNot | .in_ => .In | .notIn => .NotIn
abbrev rSg (neg : Bool) : R2 := fun x y H Q => ∃ (c : Nat) (z : Str), x = .str ⟨#[c]⟩ ∧ y = .str z ∧ Q (.bl (if neg then !decide (c ∈ z.cps.toList) else decide (c ∈ z.cps.toList))) H
def rCop (K : PySem.W.Frag) : Cop → R2
  | .eq => rEqD K
  | .ne => rNeD K
  | .lt => rI0 fun i j => .bl (decide (i < j))
  | .le => rI0 fun i j => .bl (decide (i ≤ j))
  | .gt => rI0 fun i j => .bl (decide (j < i))
  | .ge => rI0 fun i j => .bl (decide (j ≤ i))
  | .isN => fun x y H Q => y = .non ∧ Q (.bl (decide (x = .non))) H
  | .notN => fun x y H Q => y = .non ∧ Q (.bl (!decide (x = .non))) H
  | .in_ => rOr (rSg false) (rIn K false)
  | .notIn => rOr (rSg true) (rIn K true)
theorem op_cop {X : Cx} (hu : X.A.units + 64 < cLine) : ∀ o : Cop, OpR X (compareOp (copOf o)) (rCop X.K o)
  | .eq => op_eqD hu
  | .ne => op_neD hu
  | .lt => op_lt
  | .le => op_le
  | .gt => op_gt
  | .ge => op_ge
  | .isN => op_isN
  | .notN => op_notN
  | .in_ => OpR.or op_in_sign op_in_seq
  | .notIn => OpR.or op_notIn_sign op_notIn_seq
section
variable {z : Rz} {h : VH} {x y : VV} {x' y' : V} {Q : VK} {W : XK}
theorem Post.ofO {o : Option VV} (p : Post z (Rs.of o h) (QE Q) W) : ∃ v, o = some v ∧ Post z (.ok v h) (QE Q) W := by
  cases o with
  | none => exact p.elim
  | some v => exact ⟨v, rfl, p⟩
theorem map_some' {α β : Type} {f : α → β} {o : Option α} {v : β} (e : o.map f = some v) : ∃ u, o = some u ∧ v = f u := by
  cases o with
  | none => cases e
  | some u => cases e; exact ⟨u, rfl, rfl⟩
theorem sign1 {a : Str} {c : Nat} (e : a.cps.toList = [c]) : a = ⟨#[c]⟩ := by
  obtain ⟨⟨l⟩⟩ := a
  have : l = [c] := e
  subst this
  rfl
theorem non_iff (r : Rel z x x') : decide (x' = .non) = isNon x := by
  cases x with
  | non => cases r; rfl
  | bl b => cases r; rfl
  | int i => cases r; rfl
  | str s => cases r; rfl
  | ref k => obtain ⟨_, rfl⟩ := r; rfl
  | glb g => cases r; rfl
  | lam => obtain ⟨_, _, rfl⟩ := r; rfl
  | tup xs => obtain ⟨_, _, rfl, _⟩ := r; rfl
  | lst xs => obtain ⟨_, _, rfl, _⟩ := r; rfl
  | dic ks vs => obtain ⟨_, _, rfl, _⟩ := r; rfl
  | ins c ns vs => obtain ⟨_, _, _, rfl, _⟩ := r; rfl
  | exc c ns vs => obtain ⟨_, _, _, rfl, _⟩ := r; rfl
theorem in_ok {b neg : Bool} (m : Md z h) (e : inS h x y = some b) (rx : Rel z x x') (ry : Rel z y y') (q : Q (.bl (if neg then !b else b)) z.H) : rOr (rSg neg) (rIn z.K neg) x' y' z.H Q := by
  unfold inS at e
  split at e
  · rename_i a t
    cases rx; cases ry
    split at e
    · rename_i c hc
      cases e
      exact .inl ⟨c, t, by rw [sign1 hc], rfl, q⟩
    · cases e
  · split at e
    · rename_i ys hy
      split at e
      · rename_i hf
        cases e
        rw [Bool.and_eq_true] at hf
        obtain ⟨a, us, rfl, hs, r⟩ := seq_ok m hy ry
        obtain ⟨i1, i2⟩ := inF_ok hf.1 rx hf.2 r
        refine .inr ⟨a, us, rfl, hs, flat_ok hf.1 rx, i1, ?_⟩
        rw [i2]
        exact q
      · cases e
    · cases e
theorem eq_ok' {b : Bool} (m : Md z h) (e : eqS h x y = some b) (rx : Rel z x x') (ry : Rel z y y') : ∃ d e, Dp z.K z.H x' d ∧ Dp z.K z.H y' e ∧ SeqAt.shaped d = true ∧ SeqAt.shaped e = true ∧ PyData.eqv d e = b := by
  unfold eqS at e
  split at e
  · rename_i d d' e1 e2
    split at e
    · rename_i hs
      cases e
      rw [Bool.and_eq_true] at hs
      exact ⟨d, d', dat_ok m 8 e1 rx, dat_ok m 8 e2 ry, hs.1, hs.2, rfl⟩
    · cases e
  · cases e
theorem cmp_ok {o : Cop} {b : Bool} {p : Int → Int → Bool} (hp : ∀ i j, cmpI o i j = some (p i j)) (rx : Rel z x x') (ry : Rel z y y') (e : cmpII o x y = some b) (q : Q (.bl b) z.H) : rI0 (fun i j => .bl (p i j)) x' y' z.H Q := by
  unfold cmpII at e
  split at e
  · rename_i i j
    cases rx; cases ry
    rw [hp] at e
    cases e
    exact ⟨i, j, rfl, rfl, q⟩
  · cases e
theorem cop_ok (o : Cop) {b : Bool} (m : Md z h) (rx : Rel z x x') (ry : Rel z y y') (e : copS o x y h = some b) (q : Q (.bl b) z.H) : rCop z.K o x' y' z.H Q := by
  cases o with
  | eq =>
    obtain ⟨d, d', h1, h2, h3, h4, rfl⟩ := eq_ok' m e rx ry
    exact ⟨d, d', h1, h2, h3, h4, q⟩
  | ne =>
    obtain ⟨u, e1, rfl⟩ := map_some' e
    obtain ⟨d, d', h1, h2, h3, h4, rfl⟩ := eq_ok' m e1 rx ry
    exact ⟨d, d', h1, h2, h3, h4, q⟩
  | lt => exact cmp_ok (fun _ _ => rfl) rx ry e q
  | le => exact cmp_ok (fun _ _ => rfl) rx ry e q
  | gt => exact cmp_ok (fun _ _ => rfl) rx ry e q
  | ge => exact cmp_ok (fun _ _ => rfl) rx ry e q
  | isN =>
    simp only [copS] at e
    split at e
    · rename_i hn
      cases y with
      | non =>
        cases ry
        cases e
        exact ⟨rfl, by rw [non_iff rx]; exact q⟩
      | _ => cases hn
    · cases e
  | notN =>
    simp only [copS] at e
    split at e
    · rename_i hn
      cases y with
      | non =>
        cases ry
        cases e
        exact ⟨rfl, by rw [non_iff rx]; exact q⟩
      | _ => cases hn
    · cases e
  | in_ => exact in_ok (neg := false) m e rx ry q
  | notIn =>
    obtain ⟨u, e1, rfl⟩ := map_some' e
    exact in_ok (neg := true) m e1 rx ry q
end
end Mini
end
section
set_option Elab.async false
set_option linter.all false
set_option maxRecDepth 100000
set_option maxHeartbeats 2000000
/-! Mini, part 5: subscripts, slices, built-ins, methods. -/
namespace Mini
open PySem PySem.Spec PyProof.Rows L2
section
variable {X : Cx}
/-- d[k] by values -/
def rIxD : R2 := fun x y H Q => ∃ a v, x = .ref a ∧ DGet H a y (some v) ∧ Q v H
theorem ix_dict (hu : X.A.units + 1 < cLine) : IxR X rIxD := by
  intro value slice pins s σ H x y v u Q I rx ry h hs
  obtain ⟨a, w, rfl, g, q⟩ := h
  cases rx
  exact tail_any (dict_typeIs I g) PySem.F.slot_dict_getitem.lookup (d_getItem hu I g ry fun w' s3 I3 rw' => ⟨w, H, I3, rw', q⟩) hs
theorem IxR.or {r r' : R2} (h : IxR X r) (h' : IxR X r') : IxR X fun x y H Q => r x y H Q ∨ r' x y H Q := by
  intro value slice pins s σ H x y v u Q I rx ry q hs
  exact q.elim (fun q => h value slice pins s σ H x y v u Q I rx ry q hs) fun q => h' value slice pins s σ H x y v u Q I rx ry q hs
abbrev rIxA (K : PySem.W.Frag) : R2 := rOr (rIx K) rIxD
theorem ix_any (hu : X.A.units + 1 < cLine) : IxR X (rIxA X.K) := IxR.or ix_seq (ix_dict hu)
end
section
variable {z : Rz} {h : VH} {x y : VV} {x' y' : V} {Q : VK} {W : XK}
theorem relL_at {xs : List VV} {ys : List V} {i : Int} {v : VV} (r : RelL z xs ys) (e : atI xs i = some v) : ∃ w, atI ys i = some w ∧ Rel z v w := by
  unfold atI at e ⊢
  rw [← r.length]
  cases q : ixN xs.length i with
  | none => rw [q] at e; cases e
  | some j =>
    rw [q] at e
    exact r.get e
theorem look_ok {k : Key} : ∀ {kvs : List (Key × V)} {ks : List Key} {vs : List VV} {v : VV}, kvs.map (·.1) = ks → RelL z vs (kvs.map (·.2)) → lookK k ks vs = some v → ∃ w, valV kvs k = some w ∧ Rel z v w
  | [], ks, vs, v, e, r, l => by
    subst e
    cases vs <;> cases l
  | (q, w) :: kvs, ks, vs, v, e, r, l => by
    subst e
    cases vs with
    | nil => cases l
    | cons u us =>
      obtain ⟨y, r', e', h1, h2⟩ := r
      have e1 : w = y := (List.cons.inj e').1
      have e2 : kvs.map (·.2) = r' := (List.cons.inj e').2
      subst e1 e2
      have l' : (if decide (k = q) = true then some u else lookK k (kvs.map (·.1)) us) = some v := l
      by_cases hk : k = q
      · rw [if_pos (decide_eq_true hk)] at l'
        cases l'
        refine ⟨w, ?_, h1⟩
        subst hk
        unfold valV
        simp
      · rw [if_neg (by simpa using hk)] at l'
        obtain ⟨w', a, b⟩ := look_ok rfl h2 l'
        refine ⟨w', ?_, b⟩
        unfold valV at a ⊢
        simp [hk, Ne.symm hk]
        first
          | exact a
          | (simp at a; exact a)
theorem dic_ok {v : VV} {d : List Key × List VV} {w : V} (m : Md z h) (e : dicOf h v = some d) (r : Rel z v w) : ∃ a kvs, w = .ref a ∧ z.H a = some (.dK kvs) ∧ kvs.map (·.1) = d.1 ∧ RelL z d.2 (kvs.map (·.2)) := by
  unfold dicOf at e
  split at e
  · obtain ⟨a, kvs, rfl, t, f, k, q⟩ := r
    cases e
    exact ⟨a, kvs, rfl, t, k, q⟩
  · obtain ⟨hk, rfl⟩ := r
    split at e
    · rename_i ks vs q
      cases e
      obtain ⟨kvs, h1, h2, h3⟩ := m.ob _ _ q
      exact ⟨_, kvs, rfl, h1, h2, h3⟩
    · cases e
  · cases e
theorem idx_ok (m : Md z h) (rx : Rel z x x') (ry : Rel z y y') (p : Post z (idxS x y h) (QE Q) W) : rIxA z.K x' y' z.H Q := by
  unfold idxS at p
  split at p
  · rename_i j
    cases ry
    split at p
    · rename_i s
      cases rx
      split at p
      · rename_i hl
        obtain ⟨v, e, p⟩ := p.ofO
        obtain ⟨c, e1, rfl⟩ := map_some' e
        exact .inl (.inr (.inr ⟨s, j, c, rfl, rfl, hl, e1, p.here m rfl⟩))
      · exact p.elim
    · split at p
      · rename_i ys hy
        obtain ⟨a, us, rfl, hs, r⟩ := seq_ok m hy rx
        obtain ⟨v, e, p⟩ := p.ofO
        obtain ⟨w, e1, r1⟩ := relL_at r e
        rcases hs with hs | hs
        · exact .inl (.inl ⟨a, us, j, w, rfl, rfl, hs, e1, p.here m r1⟩)
        · exact .inl (.inr (.inl ⟨a, us, j, w, rfl, rfl, hs, e1, p.here m r1⟩))
      · exact p.elim
  · rename_i s
    cases ry
    split at p
    · rename_i d hd
      obtain ⟨a, kvs, rfl, h1, h2, h3⟩ := dic_ok m hd rx
      obtain ⟨v, e, p⟩ := p.ofO
      obtain ⟨w, e1, r1⟩ := look_ok h2 h3 e
      refine .inr ⟨a, w, rfl, ?_, p.here m r1⟩
      rw [← e1]
      exact DGet.k (k := .inr s) h1
    · exact p.elim
  · exact p.elim
/-! ### slices -/
abbrev rSlA (K : PySem.W.Frag) : V → Option Int → Option Int → Hp → VK → Prop := fun x lo hi H Q => rSlS x lo hi H Q ∨ rSlT K x lo hi H Q ∨ rSlL K x lo hi H Q
theorem sl_any {X : Cx} : SlR X (rSlA X.K) := sl_str.or (sl_tup.or sl_list)
theorem cut_ok {xs : List VV} {ys : List V} {lo hi : Option Int} (r : RelL z xs ys) : RelL z (cutL xs lo hi) (cutV ys lo hi) := by
  unfold cutL cutV
  rw [← r.length]
  exact (r.drop _).take _
theorem slc_ok {lo hi : Option Int} (m : Md z h) (rx : Rel z x x') (p : Post z (slcS x lo hi h) (QE Q) W) : rSlA z.K x' lo hi z.H Q := by
  unfold slcS at p
  split at p
  · rename_i s
    cases rx
    split at p
    · rename_i hl
      exact .inl ⟨s, rfl, hl, p.here m rfl⟩
    · exact p.elim
  · rename_i xs
    obtain ⟨a, ys, rfl, t, r⟩ := rx
    split at p
    · exact p.elim
    · rename_i hn
      refine .inr (.inl ⟨a, ys, rfl, t.sq, ?_, fun q hq => p.tupl m (cut_ok r) hq⟩)
      rw [← r.length]; exact hn
  · split at p
    · rename_i ys hy
      obtain ⟨a, us, rfl, hs, r⟩ := lst_ok m hy rx
      exact .inr (.inr ⟨a, us, rfl, .inl hs, fun q hq => p.lstc m (cut_ok r) hq⟩)
    · exact p.elim
end
end Mini
end
section
set_option Elab.async false
set_option linter.all false
set_option maxRecDepth 100000
set_option maxHeartbeats 2000000
/-! Mini, part 6: built-ins, methods. -/
namespace Mini
open PySem PySem.Spec PyProof.Rows L2
mutual
theorem dp_noDict {K : PySem.W.Frag} {H : Hp} : ∀ (d : PyData) (v : V), Dp K H v d → d.hasDict = false
  | .none, _, h => by simp only [PyData.hasDict]
  | .bool _, _, h => by simp only [PyData.hasDict]
  | .int _, _, h => by simp only [PyData.hasDict]
  | .str _, _, h => by simp only [PyData.hasDict]
  | .list ds, _, h => by
    cases h with
    | lst hs ha => simpa only [PyData.hasDict] using dpAll_noDict ds _ ha
  | .tuple ds, _, h => by
    cases h with
    | tup hs ha => simpa only [PyData.hasDict] using dpAll_noDict ds _ ha
  | .dict _, _, h => by cases h
theorem dpAll_noDict {K : PySem.W.Frag} {H : Hp} : ∀ (ds : List PyData) (vs : List V), DpAll K H vs ds → PyData.hasDictAll ds = false
  | [], _, h => by simp only [PyData.hasDictAll]
  | d :: ds, _, h => by
    cases h with
    | cons h1 h2 =>
      simp only [PyData.hasDictAll, dp_noDict d _ h1, dpAll_noDict ds _ h2, Bool.or_self]
end
section
variable {X : Cx}
def rRepr (K : PySem.W.Frag) : List V → Hp → VK → Prop := fun xs H Q => ∃ x d, xs = [x] ∧ Dp K H x d ∧ PyData.showable d = true ∧ d.shown.length ≤ sizeLine ∧ d.depth ≤ 60 ∧ Q (.str d.shown) H
theorem call_reprD (hg : X.A.guards = some []) (hu : X.A.units + 64 < cLine) : CallR X (.builtin "repr") (rRepr X.K) := by
  intro pins s σ H xs us Q I r h
  obtain ⟨x, d, rfl, hd, hs, hz, hp, q⟩ := h
  obtain ⟨u, rfl, rx⟩ := vals1 r
  obtain ⟨as, rd⟩ := Dp.reads I d x u hd rx
  cases hd with
  | non => cases rx; exact PySem.P.repr_of_none ⟨.str _, H, I.tok _, ⟨_, rfl⟩, by simpa only [PyData.shown] using q⟩
  | bl b => cases rx; exact PySem.P.repr_of_bool ⟨.str _, H, I.tok _, ⟨_, rfl⟩, by simpa only [PyData.shown] using q⟩
  | int i =>
    obtain ⟨t, rfl⟩ := rx
    exact PySem.P.repr_of_int (by simpa [PyData.showable] using hs) ⟨.str _, H, I.tok _, ⟨_, rfl⟩, by simpa only [PyData.shown] using q⟩
  | str y =>
    obtain ⟨t, rfl⟩ := rx
    exact PySem.P.repr_of_str (h := ⟨.str _, H, I.tok _, ⟨_, rfl⟩, by simpa only [PyData.shown] using q⟩) (hsz := by simpa only [PyData.shown] using hz)
  | lst hq ha =>
    have nd := dp_noDict _ _ (Dp.lst hq ha)
    cases rx
    exact repr_of_reads' rd hs (PyData.noDict_hsm nd) hg (by omega) (fun _ _ e => e) (fun h' u tk hk => ⟨.str _, H, I.kept hk, ⟨_, rfl⟩, q⟩) hz
  | tup hq ha =>
    have nd := dp_noDict _ _ (Dp.tup hq ha)
    cases rx
    exact repr_of_reads' rd hs (PyData.noDict_hsm nd) hg (by omega) (fun _ _ e => e) (fun h' u tk hk => ⟨.str _, H, I.kept hk, ⟨_, rfl⟩, q⟩) hz
def bfnV : Bfn → Value
  | .len => .builtin "len" | .int => .type "int" | .abs => .builtin "abs" | .repr => .builtin "repr" | .str => .type "str" | .list => .type "list" | .tuple => .type "tuple" | .all => .builtin "all"
abbrev rC (r s : List V → Hp → VK → Prop) : List V → Hp → VK → Prop := fun xs H Q => r xs H Q ∨ s xs H Q
def rBfn (K : PySem.W.Frag) : Bfn → List V → Hp → VK → Prop
  | .len => fun xs H Q => ∃ x n, xs = [x] ∧ LenV K x H n ∧ Q (.int n) H
  | .int => rC (fun xs H Q => (∃ i, xs = [.int i] ∧ Q (.int i) H) ∨ ∃ k, xs = [.bl k] ∧ Q (.int (if k then 1 else 0)) H) (fun xs H Q => ∃ a n, xs = [.str a] ∧ PySem.intText? a = some n ∧ a.length ≤ 4300 ∧ Q (.int n) H)
  | .abs => fun xs H Q => ∃ i, xs = [.int i] ∧ Q (.int (if i < 0 then -i else i)) H
  | .repr => rRepr K
  | .str => rC (fun xs H Q => ∃ i, xs = [.int i] ∧ i.natAbs.log2 < 1920 ∧ Q (.str (toString i)) H) (fun xs H Q => ∃ a, xs = [.str a] ∧ Q (.str a) H)
  | .list => fun xs H Q => ∃ p ys, xs = [.ref p] ∧ (SqL K H p ys ∨ SqT K H p ys) ∧ ∀ l, H l = none → Q (.ref l) (upd H l (.lst ys))
  | .tuple => fun xs H Q => ∃ p ys, xs = [.ref p] ∧ ((SqL K H p ys ∧ ∀ l, H l = none → Q (.ref l) (upd H l (.tup ys))) ∨ (SqT K H p ys ∧ Q (.ref p) H))
  | .all => rAll K
theorem call_bfn (hd : X.base.NoDigits) (hc : X.calm = true) (hg : X.A.guards = some []) (hu : X.A.units + 64 < cLine) : ∀ f, CallR X (bfnV f) (rBfn X.K f)
  | .len => call_len
  | .int => CallR.or call_int1 (call_int_text hd)
  | .abs => call_abs
  | .repr => call_reprD hg hu
  | .str => CallR.or call_str_int SkE.call_str_str
  | .list => call_list_of
  | .tuple => call_tuple_of
  | .all => cr_all hc
end
section
variable {z : Rz} {h : VH} {x y : VV} {x' y' : V} {xs : List VV} {ys : List V} {Q : VK} {W : XK}
theorem relL_one (r : RelL z [x] ys) : ∃ y, ys = [y] ∧ Rel z x y := by
  obtain ⟨y, q, rfl, h1, h2⟩ := r
  cases h2
  exact ⟨y, rfl, h1⟩
theorem relL_two (r : RelL z [x, y] ys) : ∃ u v, ys = [u, v] ∧ Rel z x u ∧ Rel z y v := by
  obtain ⟨u, q, rfl, h1, h2⟩ := r
  obtain ⟨v, rfl, h3⟩ := relL_one h2
  exact ⟨u, v, rfl, h1, h3⟩
theorem len_ok {n : Nat} (m : Md z h) (e : lenS x h = some n) (r : Rel z x x') : LenV z.K x' z.H n := by
  unfold lenS at e
  split at e
  · cases r
    split at e
    · rename_i hl
      cases e
      exact ⟨hl, rfl⟩
    · cases e
  · obtain ⟨us, e1, rfl⟩ := map_some' e
    obtain ⟨a, ys, rfl, hs, r1⟩ := seq_ok m e1 r
    rcases hs with hs | hs
    · exact .inl ⟨ys, hs, r1.length⟩
    · exact .inr ⟨ys, hs, r1.length⟩
theorem bfn1_ok (f : Bfn) (m : Md z h) (rx : Rel z x x') (p : Post z (bfn1 f x h) (QE Q) W) : rBfn z.K f [x'] z.H Q := by
  cases f with
  | len =>
    obtain ⟨v, e, p1⟩ := p.ofO
    obtain ⟨n, e1, rfl⟩ := map_some' e
    exact ⟨x', n, rfl, len_ok m e1 rx, p1.here m rfl⟩
  | int =>
    obtain ⟨v, e, p1⟩ := p.ofO
    obtain ⟨n, e1, rfl⟩ := map_some' e
    unfold intS at e1
    split at e1
    · cases rx; cases e1
      exact .inl (.inl ⟨_, rfl, p1.here m rfl⟩)
    · cases rx; cases e1
      exact .inl (.inr ⟨_, rfl, p1.here m rfl⟩)
    · cases rx
      split at e1
      · rename_i hl
        exact .inr ⟨_, n, rfl, e1, hl, p1.here m rfl⟩
      · cases e1
    · cases e1
  | abs =>
    obtain ⟨v, e, p1⟩ := p.ofO
    obtain ⟨n, e1, rfl⟩ := map_some' e
    unfold absS at e1
    split at e1
    · cases rx; cases e1
      exact ⟨_, rfl, p1.here m rfl⟩
    · cases e1
  | repr =>
    obtain ⟨v, e, p1⟩ := p.ofO
    obtain ⟨t, e1, rfl⟩ := map_some' e
    unfold reprS at e1
    split at e1
    · rename_i d hd
      split at e1
      · rename_i hc
        cases e1
        rw [Bool.and_eq_true, Bool.and_eq_true] at hc
        exact ⟨x', d, rfl, dat_ok m 8 hd rx, hc.1.1, of_decide_eq_true hc.1.2, of_decide_eq_true hc.2, p1.here m rfl⟩
      · cases e1
    · cases e1
  | str =>
    obtain ⟨v, e, p1⟩ := p.ofO
    obtain ⟨t, e1, rfl⟩ := map_some' e
    unfold strS at e1
    split at e1
    · cases rx
      split at e1
      · rename_i hl
        cases e1
        exact .inl ⟨_, rfl, hl, p1.here m rfl⟩
      · cases e1
    · cases rx; cases e1
      exact .inr ⟨_, rfl, p1.here m rfl⟩
    · cases e1
  | list =>
    simp only [bfn1] at p
    split at p
    · rename_i ys hy
      obtain ⟨a, us, rfl, hs, r⟩ := seq_ok m hy rx
      exact ⟨a, us, rfl, hs, fun q hq => p.lstc m r hq⟩
    · exact p.elim
  | tuple =>
    obtain ⟨v, e, p1⟩ := p.ofO
    obtain ⟨t, e1, rfl⟩ := map_some' e
    unfold tupS at e1
    split at e1
    · obtain ⟨a, us, rfl, t, r⟩ := rx
      cases e1
      exact ⟨a, us, rfl, .inr ⟨t.sq, p1.here m ⟨a, us, rfl, t, r⟩⟩⟩
    · obtain ⟨a, us, rfl, hs, r⟩ := lst_ok m e1 rx
      exact ⟨a, us, rfl, .inl ⟨.inl hs, fun q hq => p1.tupl m r hq⟩⟩
  | all =>
    obtain ⟨v, e, p1⟩ := p.ofO
    obtain ⟨bs, e1, rfl⟩ := map_some' e
    cases e2 : lstOf h x with
    | none => rw [e2] at e1; cases e1
    | some us =>
      rw [e2] at e1
      obtain ⟨a, ws, rfl, hs, r⟩ := lst_ok m e2 rx
      have q := bls_ok e1 r
      subst q
      exact ⟨a, bs, rfl, .inl hs, p1.here m rfl⟩
theorem bfn_ok (f : Bfn) (m : Md z h) (rx : RelL z xs ys) (p : Post z (bfnS f xs h) (QE Q) W) : rBfn z.K f ys z.H Q := by
  unfold bfnS at p
  split at p
  · obtain ⟨y, rfl, r⟩ := relL_one rx
    exact bfn1_ok f m r p
  · exact p.elim
end
end Mini
end
section
set_option Elab.async false
set_option linter.all false
set_option maxRecDepth 100000
set_option maxHeartbeats 2000000
/-! Mini, part 7: looks at the text. -/
namespace Mini
open PySem PySem.Spec PyProof.Rows L2
def isStar : Expr → Bool
  | .Starred _ _ => true
  | _ => false
def isComp : Expr → Bool
  | .ListComp .. => true
  | .SetComp .. => true
  | .DictComp .. => true
  | _ => false
def isCall0 : Expr → Bool
  | .Call (.Name _ _) [] [] _ => true
  | _ => false
def isSet : Expr → Bool
  | .Set .. => true
  | _ => false
def isSlice : Expr → Bool
  | .Slice .. => true
  | _ => false
def isTest : Expr → Bool
  | .UnaryOp _ _ _ => true
  | .BoolOp .. => true
  | .IfExp .. => true
  | .Compare .. => true
  | _ => false
theorem star_cons {e : Expr} {es : List Expr} {env : Env} (h : isStar e = false) : starEach (e :: es) env = (false, eval e env) :: starEach es env := by
  cases e <;> first | rfl | cases h
theorem star_none : ∀ {es : List Expr} {env : Env}, es.all (fun e => !isStar e) = true → starEach es env = es.map fun e => (false, eval e env)
  | [], _, _ => rfl
  | e :: es, env, h => by
    rw [List.all_cons, Bool.and_eq_true] at h
    have h1 : isStar e = false := by simpa using h.1
    rw [star_cons h1, star_none h.2]
    rfl
theorem back_plain : ∀ {es : List Expr} {env : Env} {pos : Pos}, backTo pos (es.map fun e => (false, eval e env)) = es.map fun e => (false, eval e env)
  | [], _, _ => rfl
  | e :: es, env, pos => by
    have ih := @back_plain es env pos
    unfold backTo at ih ⊢
    rw [List.map_cons, List.map_cons, ih]
    rfl
theorem back_any {es : List Expr} {env : Env} {pos : Pos} (h : es.all (fun e => !isStar e) = true) : (backTo pos (starEach es env)).any (·.1) = false := by
  rw [star_none h, back_plain]
  induction es with
  | nil => rfl
  | cons e es ih =>
    rw [List.all_cons, Bool.and_eq_true] at h
    rw [List.map_cons, List.any_cons, ih h.2]
    rfl
theorem few_ok {e : Expr} {es : List Expr} {env : Env} {pos : Pos} (h : (e :: es).all (fun e => !isStar e) = true) (hl : es.length < 20) :
    ((backTo pos (starEach (e :: es) env)).all (fun x => !x.1) && (backToKw pos (keywordEach [] env)).all (fun x => x.1.isSome) && decide ((e :: es).length + ([] : List Keyword).length + (if ([] : List Keyword).isEmpty then 0 else 1) < 30)) = true := by
  rw [star_none h, back_plain, List.all_map]
  have e1 : ((e :: es).all fun x => true) = true := by rw [List.all_eq_true]; intros; rfl
  have e2 : (backToKw pos (keywordEach [] env)).all (fun x => x.1.isSome) = true := rfl
  rw [e2]
  show (((e :: es).all fun x => true) && true && decide ((e :: es).length + 0 + 0 < 30)) = true
  rw [e1]
  have : (e :: es).length + 0 + 0 < 30 := by rw [List.length_cons]; omega
  rw [decide_eq_true this]; rfl
theorem base_ok {o : Expr} {m : Str} {env : Env} (h : isCall0 o = false) : attributeBase o m env (eval o env) = eval o env := by
  unfold attributeBase
  split
  · cases h
  · rfl
theorem marks_ok {op : CmpOp} {b : Expr} (h : isSet b = false) : behindInMarks op b = false := by
  cases b <;> first | rfl | cases h | (simp [behindInMarks])
theorem last_ok {o p : CmpOp} {b c : Expr} (h : isSet c = false) : lastMarks [o, p] [b, c] = false := by
  show behindInMarks p c = false
  exact marks_ok h
theorem swaps_ok {v : Expr} {t : Option Expr} {n : Nat} {env : Env} (h : isComp v = false) : swapsWith v t n env = pure false := by
  unfold swapsWith
  cases v <;> first | rfl | cases h
theorem sole_ok {v t : Expr} {n : Nat} {env : Env} (h : isComp v = false) : swapsWithSole [t] v n env = pure false := swaps_ok h
theorem istrue_ok {e : Expr} {env : Env} (h : isTest e = false) (whole : Sem Value) : isTrue e env whole = (do let v ← whole; standAt e.pos; holding [v] (truthy v)) := by
  cases e <;> first | rfl | cases h
theorem fold_ok {e : Expr} {env : Env} {x : Value} (h : isSet e = false) : foldedSetIterable e env x = pure x := by
  unfold foldedSetIterable
  cases e <;> first | rfl | cases h
theorem ix_ok {b : Expr} (h : isSlice b = false) : PlainIx b := fun o i => by
  unfold subscripted
  cases b <;> first | rfl | cases h
end Mini
end
section
set_option Elab.async false
set_option linter.all false
set_option maxRecDepth 100000
set_option maxHeartbeats 2000000
/-! Mini, part 8: what a def leaves behind. -/
namespace Mini
open PySem PySem.Spec PyProof.Rows L2
def Rz.drop (z : Rz) (n0 : Nat) (l0 : Option V) : Rz := { z with n := n0, lam := l0 }
section
variable {z : Rz} {h : VH} {n0 : Nat} {l0 : Option V} (hn : n0 ≤ z.n)
include hn
theorem Rz.Fre.drop {a : Addr} (f : z.Fre a) : (z.drop n0 l0).Fre a := ⟨fun k hk => f.al k (Nat.lt_of_lt_of_le hk hn), f.res, f.tab⟩
theorem TupR.drop {a : Addr} {ys : List V} (t : TupR z a ys) : TupR (z.drop n0 l0) a ys := t.imp (fun x => ⟨x.1, x.2.drop hn⟩) fun x => x
theorem cell_fre (m : Md z h) {k : Nat} (hk : k < z.n) (h0 : ¬ k < n0) : (z.drop n0 l0).Fre (z.al k) :=
  ⟨fun j hj e => h0 (by rw [← m.inj j k (Nat.lt_of_lt_of_le hj hn) hk e]; exact hj), m.rl k hk, fun p hp e => (m.tl p hp).1 k hk e.symm⟩
mutual
theorem clo_ok : ∀ {v : VV} {x : V}, clo n0 v = true → Rel z v x → Rel (z.drop n0 l0) v x
  | .non, _, _, h => h
  | .bl _, _, _, h => h
  | .int _, _, _, h => h
  | .str _, _, _, h => h
  | .ref k, _, c, h => ⟨(show k < n0 by simpa [clo] using c), h.2⟩
  | .glb g, _, _, h => h
  | .lam, _, c, _ => by cases c
  | .tup xs, _, c, h => by
    obtain ⟨a, ys, rfl, t, r⟩ := h
    exact ⟨a, ys, rfl, t.drop hn, cloL_ok (by simpa [clo] using c) r⟩
  | .lst xs, _, c, h => by
    obtain ⟨a, ys, rfl, t, r⟩ := h
    exact ⟨a, ys, rfl, ⟨t.1, t.2.drop hn⟩, cloL_ok (by simpa [clo] using c) r⟩
  | .dic ks vs, _, c, h => by
    obtain ⟨a, kvs, rfl, t, f, k, r⟩ := h
    exact ⟨a, kvs, rfl, t, f.drop hn, k, cloL_ok (by simpa [clo] using c) r⟩
  | .ins c ns vs, _, cc, h => by
    obtain ⟨a, dx, fs, rfl, t, f, k, r⟩ := h
    exact ⟨a, dx, fs, rfl, t, f.drop hn, k, cloL_ok (by simpa [clo] using cc) r⟩
  | .exc c ns vs, _, cc, h => by
    obtain ⟨a, d, fs, rfl, t, f, t2, f2, k, r⟩ := h
    exact ⟨a, d, fs, rfl, t, f.drop hn, t2, f2.drop hn, k, cloL_ok (by simpa [clo] using cc) r⟩
theorem cloL_ok : ∀ {vs : List VV} {xs : List V}, cloL n0 vs = true → RelL z vs xs → RelL (z.drop n0 l0) vs xs
  | [], _, _, h => h
  | v :: vs, _, c, h => by
    obtain ⟨y, r, rfl, h1, h2⟩ := h
    unfold cloL at c
    rw [Bool.and_eq_true] at c
    exact ⟨y, r, rfl, clo_ok c.1 h1, cloL_ok c.2 h2⟩
end
theorem cloOb_ok {a : Addr} {o : Ob} (c : cloOb n0 o = true) (h : ObR z a o) : ObR (z.drop n0 l0) a o := by
  cases o with
  | lst xs => obtain ⟨ys, h1, r⟩ := h; exact ⟨ys, h1, cloL_ok hn c r⟩
  | dic ks vs => obtain ⟨kvs, h1, k, r⟩ := h; exact ⟨kvs, h1, k, cloL_ok hn c r⟩
  | ins k ns vs => obtain ⟨dx, fs, h1, q, r⟩ := h; exact ⟨dx, fs, h1, q, cloL_ok hn c r⟩
theorem Md.drop (m : Md z h) (c : (h.take n0).all (cloOb n0) = true) : Md (z.drop n0 l0) (h.take n0) := by
  refine ⟨?_, fun i j hi hj => m.inj i j (Nat.lt_of_lt_of_le hi hn) (Nat.lt_of_lt_of_le hj hn), fun k o e => ?_, m.rs, fun k hk => m.rl k (Nat.lt_of_lt_of_le hk hn), m.tb, fun p hp => ⟨fun k hk => (m.tl p hp).1 k (Nat.lt_of_lt_of_le hk hn), (m.tl p hp).2⟩, m.cd⟩
  · show n0 = _
    rw [List.length_take, ← m.n]
    omega
  · have hk : k < n0 := by
      have := (List.getElem?_eq_some_iff.mp e).1
      rw [List.length_take] at this
      omega
    have hm : o ∈ h.take n0 := List.mem_of_getElem? e
    rw [List.getElem?_take_of_lt hk] at e
    exact cloOb_ok hn (List.all_eq_true.mp c o hm) (m.ob k o e)
theorem frzL_ok {n : Nat} (ih : ∀ {v v' : VV} {x : V}, frz n0 n h v = some v' → Rel z v x → Rel (z.drop n0 l0) v' x) : ∀ {xs ws : List VV} {ys : List V}, mapO (frz n0 n h) xs = some ws → RelL z xs ys → RelL (z.drop n0 l0) ws ys
  | [], ws, ys, e, r => by cases e; exact r
  | x :: xs, ws, ys, e, r => by
    obtain ⟨d, ds', rfl, e1, e2⟩ := mapO_cons e
    obtain ⟨y, q, rfl, h1, h2⟩ := r
    exact ⟨y, q, rfl, ih e1 h1, frzL_ok ih e2 h2⟩
theorem frz_ok (m : Md z h) : ∀ (n : Nat) {v v' : VV} {x : V}, frz n0 n h v = some v' → Rel z v x → Rel (z.drop n0 l0) v' x
  | 0, v, v', x, e, r => by cases e
  | n + 1, v, v', x, e, r => by
    cases v with
    | non => cases e; exact r
    | bl b => cases e; exact r
    | int i => cases e; exact r
    | str s => cases e; exact r
    | glb g => cases e; exact r
    | lam => cases e
    | tup us =>
      obtain ⟨a, ys, rfl, t, q⟩ := r
      obtain ⟨ws, e1, rfl⟩ := map_some' (show (mapO (frz n0 n h) us).map VV.tup = some v' from e)
      exact ⟨a, ys, rfl, t.drop hn, frzL_ok hn (frz_ok m n) e1 q⟩
    | lst us =>
      obtain ⟨a, ys, rfl, t, q⟩ := r
      obtain ⟨ws, e1, rfl⟩ := map_some' (show (mapO (frz n0 n h) us).map VV.lst = some v' from e)
      exact ⟨a, ys, rfl, ⟨t.1, t.2.drop hn⟩, frzL_ok hn (frz_ok m n) e1 q⟩
    | dic ks us =>
      obtain ⟨a, kvs, rfl, t, f, k, q⟩ := r
      obtain ⟨ws, e1, rfl⟩ := map_some' (show (mapO (frz n0 n h) us).map (VV.dic ks) = some v' from e)
      exact ⟨a, kvs, rfl, t, f.drop hn, k, frzL_ok hn (frz_ok m n) e1 q⟩
    | ins c ns us =>
      obtain ⟨a, dx, fs, rfl, t, f, k, q⟩ := r
      obtain ⟨ws, e1, rfl⟩ := map_some' (show (mapO (frz n0 n h) us).map (VV.ins c ns) = some v' from e)
      exact ⟨a, dx, fs, rfl, t, f.drop hn, k, frzL_ok hn (frz_ok m n) e1 q⟩
    | exc c ns us =>
      obtain ⟨a, d, fs, rfl, t, f, t2, f2, k, q⟩ := r
      obtain ⟨ws, e1, rfl⟩ := map_some' (show (mapO (frz n0 n h) us).map (VV.exc c ns) = some v' from e)
      exact ⟨a, d, fs, rfl, t, f.drop hn, t2, f2.drop hn, k, frzL_ok hn (frz_ok m n) e1 q⟩
    | ref k =>
      unfold frz at e
      dsimp only at e
      split at e
      · rename_i hk
        cases e
        exact ⟨(show k < n0 by simpa using hk), r.2⟩
      · rename_i hk
        have h0 : ¬ k < n0 := fun q => hk (by simpa using q)
        obtain ⟨hkn, rfl⟩ := r
        have fr := cell_fre (l0 := l0) hn m hkn h0
        split at e
        · rename_i us q
          obtain ⟨ws, e1, rfl⟩ := map_some' e
          obtain ⟨ys, h1, h2⟩ := m.ob k _ q
          exact ⟨_, ys, rfl, ⟨.inl h1, fr⟩, frzL_ok hn (frz_ok m n) e1 h2⟩
        · rename_i ks us q
          obtain ⟨ws, e1, rfl⟩ := map_some' e
          obtain ⟨kvs, h1, h2, h3⟩ := m.ob k _ q
          exact ⟨_, kvs, rfl, h1, fr, h2, frzL_ok hn (frz_ok m n) e1 h3⟩
        · rename_i c ns us q
          obtain ⟨ws, e1, rfl⟩ := map_some' e
          obtain ⟨dx, fs, h1, h2, h3⟩ := m.ob k _ q
          exact ⟨_, dx, fs, rfl, h1, fr, h2, frzL_ok hn (frz_ok m n) e1 h3⟩
        · cases e
end
theorem drop_ext {z z' : Rz} (e : Ext z z') : Ext z (z'.drop z.n z.lam) := ⟨⟨e.K, e.ad, Nat.le_refl _, e.al, fun b o q f => let ⟨q1, f1⟩ := e.H b o q f; ⟨q1, f1.drop e.n⟩, fun _ h => h⟩, e.res, e.tab, e.rs, e.cod, rfl⟩
/-- a def's end: fin and finX are met -/
theorem fin_ok {z z' : Rz} {h h' : VH} {keep : Bool} {v : VV} {x : V} {Q : VK} {W : XK} (m : Md z h) (p : Post z (fin keep h.length v h') (QE Q) W) (e : Ext z z') (m' : Md z' h') (r : Rel z' v x) : Q x z'.H := by
  unfold fin at p
  split at p
  · exact p z' e m' x r
  · split at p
    · rename_i v' hv
      split at p
      · rename_i hc
        rw [← m.n] at p hv hc
        exact p (z'.drop z.n z.lam) (drop_ext e) (m'.drop e.n hc) x (frz_ok e.n m' 30 hv r)
      · exact p.elim
    · exact p.elim
theorem finX_ok {z z' : Rz} {h h' : VH} {c : Nat} {ns : List Str} {vs : List VV} {d : Addr} {fs : List (Str × V)} {Q : VK} {W : XK} (m : Md z h) (p : Post z (finX c ns h.length vs h') (QE Q) W) (e : Ext z z') (m' : Md z' h')
    (hd : z'.H d = some (.xd fs)) (fr : z'.Fre d) (hn : fs.map (·.1) = ns) (r : RelL z' vs (fs.map (·.2))) : W (.ref (z'.ad c)) (some d) z'.H := by
  unfold finX at p
  split at p
  · rename_i vs' hv
    split at p
    · rename_i hc
      rw [← m.n] at p hv hc
      exact p (z'.drop z.n z.lam) d fs (drop_ext e) (m'.drop e.n hc) hd (fr.drop e.n) hn (frzL_ok e.n (frz_ok e.n m' 30) hv r)
    · exact p.elim
  · exact p.elim
end Mini
end
section
set_option Elab.async false
set_option linter.all false
set_option maxRecDepth 100000
set_option maxHeartbeats 2000000
/-! Mini, part 9: the nodes of expressions. -/
namespace Mini
open PySem PySem.Spec PyProof.Rows L2
section
variable {X : Cx} {c : Cfg} {W : WX} {a b e d : Expr} {fa fb fc : Sl → VH → Rs VV} {fs : Sl → VH → Rs (List VV)} {ft fu : Sl → VH → Rs Bool} {pos : Pos}
theorem me_var {N : Env'} {i : Nat} {x : Str} (hN : X.N[i]? = some x) (hv : Vis X.env.scope x) (hd : (x == ("__debug__" : Str)) = false) (hcd : (x == ("__classdict__" : Str)) = false) : PE X (.Name x pos) (tE c W fun s h => ev N (.var i) s h) :=
  (pe_var hN hv hd hcd).imp fun σ H Q ⟨z, h, s, at_, p⟩ => by
    obtain rfl := at_.H
    unfold ev at p
    dsimp only at p
    split at p
    · rename_i v q
      obtain ⟨w, e1, r⟩ := at_.sl.2 i v q
      exact ⟨w, e1, p.here at_.md r⟩
    · exact p.elim
theorem me_cst {N : Env'} {v : VV} {y : V} (h : PE X e (tC y)) (hr : ∀ z : Rz, z.K = c.K → z.ad = c.ad → Rel z v y) : PE X e (tE c W fun s h => ev N (.cst v) s h) :=
  h.imp fun σ H Q ⟨z, h, s, at_, p⟩ => by
    obtain rfl := at_.H
    exact p.here at_.md (hr z at_.K at_.ad)
theorem me_bin (hK : X.K = c.K) (o : Bop) (ha : PE X a (tE c W fa)) (hb : PE X b (tE c W fb)) : PE X (.BinOp a (bopOf o) b pos) (tE c W fun s h => (fa s h).bind fun x h1 => (fb s h1).bind fun y h2 => bopS o x y h2) :=
  (pe_op (op_bop o) ha hb).imp fun σ H Q p => tOp_of (fun z h s x y x' y' at_ rx ry q => by rw [hK, ← at_.K]; exact bop_ok o at_.md rx ry q) p
def negS (x : VV) (h : VH) : Rs VV := match x with
  | .int i => .ok (.int (-i)) h
  | _ => .bad
theorem neg_ok {z : Rz} {h : VH} {x : VV} {x' : V} {Q : VK} {V' : XK} (m : Md z h) (r : Rel z x x') (p : Post z (negS x h) (QE Q) V') : rU (fun i => .int (-i)) x' z.H Q := by
  cases x with
  | int i => cases r; exact ⟨i, rfl, p.here m rfl⟩
  | _ => exact p.elim
theorem me_neg (ha : PE X a (tE c W fa)) : PE X (.UnaryOp .USub a pos) (tE c W fun s h => (fa s h).bind fun x h1 => negS x h1) :=
  (pe_un un_neg ha).imp fun σ H Q p => tUn_of (fun z h s x x' at_ rx q => neg_ok at_.md rx q) p
abbrev cmpS (o : Cop) (fa fb : Sl → VH → Rs VV) : Sl → VH → Rs VV := fun s h => (fa s h).bind fun x h1 => (fb s h1).bind fun y h2 => Rs.of ((copS o x y h2).map .bl) h2
theorem cmp_rule (hK : X.K = c.K) (o : Cop) {σ : L2.St} {H : Hp} {Q : VK} (p : tE c W (cmpS o fa fb) σ H Q) : tOp (rCop X.K o) (tE c W fa) (tE c W fb) σ H Q :=
  tOp_of (fun z h s x y x' y' at_ rx ry q => by
    obtain ⟨v, e1, q⟩ := q.ofO
    obtain ⟨k, e2, rfl⟩ := map_some' e1
    rw [hK, ← at_.K]
    exact cop_ok o at_.md rx ry e2 (q.here at_.md rfl)) p
theorem me_cmp (hK : X.K = c.K) (hu : X.A.units + 64 < cLine) (o : Cop) (hs : isSet b = false) (ha : PE X a (tE c W fa)) (hb : PE X b (tE c W fb)) : PE X (.Compare a [copOf o] [b] pos) (tE c W (cmpS o fa fb)) :=
  (pe_cmpR (op_cop hu o) ha hb (marks_ok hs)).imp fun σ H Q p => cmp_rule hK o p
/-- a result that is a bool, if it is one -/
def blR (r : Rs VV) : Prop := match r with
  | .ok v _ => ∃ k, v = .bl k
  | _ => True
theorem blR_bind {α : Type} {r : Rs α} {f : α → VH → Rs VV} (h : ∀ x k, blR (f x k)) : blR (r.bind f) := by
  cases r with
  | ok v k => exact h v k
  | exc _ _ _ _ => exact True.intro
  | bad => exact True.intro
theorem blR_of {o : Option Bool} {h : VH} : blR (Rs.of (o.map VV.bl) h) := by
  cases o with
  | none => exact True.intro
  | some k => exact ⟨k, rfl⟩
abbrev truS (fa : Sl → VH → Rs VV) : Sl → VH → Rs Bool := fun s h => (fa s h).bind fun x h1 => Rs.of (truO h1 x) h1
theorem bl_test (hb : ∀ s h, blR (fa s h)) {σ : L2.St} {H : Hp} {Q : Bool → Hp → Prop} (p : tT c W (truS fa) σ H Q) : tE c W fa σ H fun x H' => ∃ k, x = .bl k ∧ Q k H' := by
  obtain ⟨z, h, s, at_, p⟩ := p
  refine ⟨z, h, s, at_, ?_⟩
  have q := hb s h
  cases r : fa s h with
  | ok v h1 =>
    rw [r] at q
    obtain ⟨k, rfl⟩ := q
    have p' : Post z ((fa s h).bind fun x h1 => Rs.of (truO h1 x) h1) (fun z' b _ => Q b z'.H) (fun cls d H' => W cls d σ H') := p
    rw [r] at p'
    intro z' e m x hx
    cases hx
    exact ⟨k, rfl, p' z' e m⟩
  | exc k ns vs h1 =>
    have p' : Post z ((fa s h).bind fun x h1 => Rs.of (truO h1 x) h1) (fun z' b _ => Q b z'.H) (fun cls d H' => W cls d σ H') := p
    rw [r] at p'
    exact p'
  | bad =>
    have p' : Post z ((fa s h).bind fun x h1 => Rs.of (truO h1 x) h1) (fun z' b _ => Q b z'.H) (fun cls d H' => W cls d σ H') := p
    rw [r] at p'
    exact p'
theorem cmpS_bl (o : Cop) : ∀ s h, blR (cmpS o fa fb s h) := fun s h => blR_bind fun x k => blR_bind fun y k => blR_of
theorem mt_cmp (hK : X.K = c.K) (hu : X.A.units + 64 < cLine) (o : Cop) (hs : isSet b = false) (ha : PE X a (tE c W fa)) (hb : PE X b (tE c W fb)) : PT X (.Compare a [copOf o] [b] pos) (tT c W (truS (cmpS o fa fb))) :=
  (pt_cmpR (op_cop hu o) ha hb (marks_ok hs)).imp fun σ H Q p => cmp_rule hK o (bl_test (cmpS_bl o) p)
def chnS (o p : Cop) (fa fb fc : Sl → VH → Rs VV) : Sl → VH → Rs VV := fun σ h => (fa σ h).bind fun x h1 => (fb σ h1).bind fun y h2 => match copS o x y h2 with
  | some true => (fc σ h2).bind fun z h3 => Rs.of ((copS p y z h3).map .bl) h3
  | some false => .ok (.bl false) h2
  | none => .bad
theorem chnS_bl (o p : Cop) : ∀ s h, blR (chnS o p fa fb fc s h) := fun s h => blR_bind fun x k => blR_bind fun y k => by
  cases q : copS o x y k with
  | none => exact True.intro
  | some d =>
    cases d with
    | true => exact blR_bind fun z k => blR_of
    | false => exact ⟨false, rfl⟩
theorem chn_rule (hK : X.K = c.K) (o p : Cop) {σ : L2.St} {H : Hp} {Q : VK} (q : tE c W (chnS o p fa fb fc) σ H Q) : tChain (rCop X.K o) (rCop X.K p) (tE c W fa) (tE c W fb) (tE c W fc) σ H Q := by
  obtain ⟨z, h, s, at_, q⟩ := q
  refine ⟨z, h, s, at_, q.bind.mono (fun z1 x h1 e1 m1 p1 x' r1 => ?_) fun _ _ _ q => q⟩
  have a1 := at_.next e1 m1
  refine ⟨z1, h1, s, a1, p1.bind.mono (fun z2 y h2 e2 m2 p2 y' r2 => ?_) fun _ _ _ q => q⟩
  have a2 := a1.next e2 m2
  have k2 : z2.K = X.K := a2.K.trans hK.symm
  cases w : copS o x y h2 with
  | none => rw [w] at p2; exact p2.elim
  | some d =>
    rw [w] at p2
    rw [← k2]
    refine cop_ok o m2 (r1.mono e2) r2 w ⟨d, rfl, ?_⟩
    cases d with
    | false => rw [if_neg Bool.false_ne_true]; exact p2.here m2 rfl
    | true =>
      rw [if_pos rfl]
      refine ⟨z2, h2, s, a2, p2.bind.mono (fun z3 v h3 e3 m3 p3 v' r3 => ?_) fun _ _ _ q => q⟩
      obtain ⟨u, e4, p4⟩ := p3.ofO
      obtain ⟨k, e5, rfl⟩ := map_some' e4
      have k3 : z3.K = z2.K := e3.K
      rw [← k3]
      exact cop_ok p m3 (r2.mono e3) r3 e5 (p4.here m3 rfl)
theorem me_chn (hK : X.K = c.K) (hu : X.A.units + 64 < cLine) (o p : Cop) (hs : isSet d = false) (ha : PE X a (tE c W fa)) (hb : PE X b (tE c W fb)) (hc : PE X d (tE c W fc)) : PE X (.Compare a [copOf o, copOf p] [b, d] pos) (tE c W (chnS o p fa fb fc)) :=
  (pe_chain (op_cop hu o) (op_cop hu p) ha hb hc (last_ok hs)).imp fun σ H Q q => chn_rule hK o p q
theorem mt_chn (hK : X.K = c.K) (hu : X.A.units + 64 < cLine) (o p : Cop) (hs : isSet d = false) (ha : PE X a (tE c W fa)) (hb : PE X b (tE c W fb)) (hc : PE X d (tE c W fc)) : PT X (.Compare a [copOf o, copOf p] [b, d] pos) (tT c W (truS (chnS o p fa fb fc))) :=
  (pt_chain (op_cop hu o) (op_cop hu p) ha hb hc (last_ok hs)).imp fun σ H Q q => chn_rule hK o p (bl_test (chnS_bl o p) q)
/-- a value's truth -/
theorem tru_rule (hK : X.K = c.K) {σ : L2.St} {H : Hp} {Q : Bool → Hp → Prop} (p : tT c W (truS fa) σ H Q) : tE c W fa σ H fun x H' => ∃ k, TruV X.K x H' k ∧ Q k H' := by
  obtain ⟨z, h, s, at_, p⟩ := p
  refine ⟨z, h, s, at_, (Post.bind p).mono (fun z1 x h1 e1 m1 p1 x' r1 => ?_) fun _ _ _ q => q⟩
  cases q : truO h1 x with
  | none => rw [q] at p1; exact p1.elim
  | some k =>
    rw [q] at p1
    have k1 : z1.K = X.K := (at_.next e1 m1).K.trans hK.symm
    rw [← k1]
    exact ⟨k, tru_rel m1 q r1, p1 z1 (Ext.refl z1) m1⟩
theorem mt_val (hK : X.K = c.K) (ht : isTest e = false) (he : PE X e (tE c W fa)) : PT X e (tT c W (truS fa)) :=
  (pt_truth he (istrue_ok ht)).imp fun σ H Q p => tru_rule hK p
theorem mt_not (ha : PT X a (tT c W ft)) : PT X (.UnaryOp .Not a pos) (tT c W fun s h => (ft s h).bind fun k h1 => .ok (!k) h1) :=
  (pt_not ha).imp fun σ H Q ⟨z, h, s, at_, p⟩ => ⟨z, h, s, at_, p.bind.mono (fun z1 x h1 e1 m1 p1 => p1 z1 (Ext.refl z1) m1) fun _ _ _ q => q⟩
theorem mt_and {rest : List Expr} (ha : PT X a (tT c W ft)) (hb : PW X (.BoolOp .And (b :: rest) pos) (tT c W fu)) : PW X (.BoolOp .And (a :: b :: rest) pos) (tT c W fun s h => (ft s h).bind fun k h1 => if k = true then fu s h1 else .ok false h1) :=
  (pw_and ha hb).imp fun σ H Q ⟨z, h, s, at_, p⟩ => ⟨z, h, s, at_, p.bind.mono (fun z1 k h1 e1 m1 p1 => by
    cases k with
    | true => rw [if_pos rfl] at p1 ⊢; exact ⟨z1, h1, s, at_.next e1 m1, p1⟩
    | false => rw [if_neg Bool.false_ne_true] at p1 ⊢; exact p1 z1 (Ext.refl z1) m1) fun _ _ _ q => q⟩
theorem mt_or {rest : List Expr} (ha : PT X a (tT c W ft)) (hb : PW X (.BoolOp .Or (b :: rest) pos) (tT c W fu)) : PW X (.BoolOp .Or (a :: b :: rest) pos) (tT c W fun s h => (ft s h).bind fun k h1 => if k = true then .ok true h1 else fu s h1) :=
  (pw_or ha hb).imp fun σ H Q ⟨z, h, s, at_, p⟩ => ⟨z, h, s, at_, p.bind.mono (fun z1 k h1 e1 m1 p1 => by
    cases k with
    | true => rw [if_pos rfl] at p1 ⊢; exact p1 z1 (Ext.refl z1) m1
    | false => rw [if_neg Bool.false_ne_true] at p1 ⊢; exact ⟨z1, h1, s, at_.next e1 m1, p1⟩) fun _ _ _ q => q⟩
/-! and, or, not as values -/
def andS (fa fb : Sl → VH → Rs VV) : Sl → VH → Rs VV := fun σ h => (fa σ h).bind fun x h1 => match truO h1 x with
  | some true => fb σ h1
  | some false => .ok x h1
  | none => .bad
def orS (fa fb : Sl → VH → Rs VV) : Sl → VH → Rs VV := fun σ h => (fa σ h).bind fun x h1 => match truO h1 x with
  | some true => .ok x h1
  | some false => fb σ h1
  | none => .bad
theorem me_and {rest : List Expr} (hK : X.K = c.K) (ha : PE X a (tE c W fa)) (hb : PE X (.BoolOp .And (b :: rest) pos) (tE c W fb)) : PE X (.BoolOp .And (a :: b :: rest) pos) (tE c W (andS fa fb)) :=
  (pe_andT ha hb).imp fun σ H Q ⟨z, h, s, at_, p⟩ => ⟨z, h, s, at_, p.bind.mono (fun z1 x h1 e1 m1 p1 x' r1 => by
    have a1 := at_.next e1 m1
    have k1 : z1.K = X.K := a1.K.trans hK.symm
    rw [← k1]
    cases q : truO h1 x with
    | none => rw [q] at p1; exact p1.elim
    | some k =>
      rw [q] at p1
      refine ⟨k, tru_rel m1 q r1, ?_⟩
      cases k with
      | true => rw [if_pos rfl]; exact ⟨z1, h1, s, a1, p1⟩
      | false => rw [if_neg Bool.false_ne_true]; exact p1.here m1 r1) fun _ _ _ q => q⟩
theorem me_or {rest : List Expr} (hK : X.K = c.K) (ha : PE X a (tE c W fa)) (hb : PE X (.BoolOp .Or (b :: rest) pos) (tE c W fb)) : PE X (.BoolOp .Or (a :: b :: rest) pos) (tE c W (orS fa fb)) :=
  (pe_orT ha hb).imp fun σ H Q ⟨z, h, s, at_, p⟩ => ⟨z, h, s, at_, p.bind.mono (fun z1 x h1 e1 m1 p1 x' r1 => by
    have a1 := at_.next e1 m1
    have k1 : z1.K = X.K := a1.K.trans hK.symm
    rw [← k1]
    cases q : truO h1 x with
    | none => rw [q] at p1; exact p1.elim
    | some k =>
      rw [q] at p1
      refine ⟨k, tru_rel m1 q r1, ?_⟩
      cases k with
      | true => rw [if_pos rfl]; exact p1.here m1 r1
      | false => rw [if_neg Bool.false_ne_true]; exact ⟨z1, h1, s, a1, p1⟩) fun _ _ _ q => q⟩
theorem me_not (hK : X.K = c.K) (ha : PE X a (tE c W fa)) : PE X (.UnaryOp .Not a pos) (tE c W fun s h => (fa s h).bind fun x h1 => Rs.of ((truO h1 x).map fun k => .bl (!k)) h1) :=
  (pe_notT ha).imp fun σ H Q ⟨z, h, s, at_, p⟩ => ⟨z, h, s, at_, p.bind.mono (fun z1 x h1 e1 m1 p1 x' r1 => by
    have k1 : z1.K = X.K := (at_.next e1 m1).K.trans hK.symm
    rw [← k1]
    obtain ⟨u, e4, p4⟩ := p1.ofO
    obtain ⟨k, e5, rfl⟩ := map_some' e4
    exact ⟨k, tru_rel m1 e5 r1, p4.here m1 rfl⟩) fun _ _ _ q => q⟩
theorem me_ife (ht : PT X e (tT c W ft)) (ha : PE X a (tE c W fa)) (hb : PE X b (tE c W fb)) : PE X (.IfExp e a b pos) (tE c W fun s h => (ft s h).bind fun k h1 => if k = true then fa s h1 else fb s h1) :=
  (pe_ifExp ht ha hb).imp fun σ H Q ⟨z, h, s, at_, p⟩ => ⟨z, h, s, at_, p.bind.mono (fun z1 k h1 e1 m1 p1 => by
    cases k with
    | true => rw [if_pos rfl] at p1 ⊢; exact ⟨z1, h1, s, at_.next e1 m1, p1⟩
    | false => rw [if_neg Bool.false_ne_true] at p1 ⊢; exact ⟨z1, h1, s, at_.next e1 m1, p1⟩) fun _ _ _ q => q⟩
/-! ### lists of expressions -/
theorem ma_nil : PA X [] (tA c W fun s h => .ok [] h) := pa_nil.imp fun σ H Q ⟨z, h, s, at_, p⟩ => by
  obtain rfl := at_.H
  exact p z (Ext.refl z) at_.md [] rfl
theorem ma_cons {es : List Expr} (hs : isStar e = false) (he : PE X e (tE c W fa)) (hr : PA X es (tA c W fs)) : PA X (e :: es) (tA c W fun s h => (fa s h).bind fun x h1 => (fs s h1).bind fun xs h2 => .ok (x :: xs) h2) :=
  (pa_cons he hr (star_cons hs)).imp fun σ H Q ⟨z, h, s, at_, p⟩ => ⟨z, h, s, at_, p.bind.mono (fun z1 x h1 e1 m1 p1 x' r1 => by
    refine ⟨z1, h1, s, at_.next e1 m1, p1.bind.mono (fun z2 xs h2 e2 m2 p2 ys r2 => ?_) fun _ _ _ q => q⟩
    exact p2 z2 (Ext.refl z2) m2 (x' :: ys) ⟨x', ys, rfl, r1.mono e2, r2⟩) fun _ _ _ q => q⟩
def tupE (xs : List VV) (h : VH) : Rs VV := if xs.length ≤ 1000 then .ok (.tup xs) h else .bad
def lstE (xs : List VV) (h : VH) : Rs VV := if xs.length ≤ 1000 then new (.lst xs) h else .bad
theorem me_tup {es : List Expr} {k : Nat} (ha : PA X es (tA c W fs)) : PE X (.Tuple es k pos) (tE c W fun s h => (fs s h).bind fun xs h1 => tupE xs h1) :=
  (pe_tup ha).imp fun σ H Q ⟨z, h, s, at_, p⟩ => ⟨z, h, s, at_, p.bind.mono (fun z1 xs h1 e1 m1 p1 ys r1 => by
    unfold tupE at p1
    split at p1
    · rename_i hz
      have := r1.length
      exact ⟨line_of (by omega), fun q hq => p1.tupl m1 r1 hq⟩
    · exact p1.elim) fun _ _ _ q => q⟩
theorem me_lst {es : List Expr} (ha : PA X es (tA c W fs)) : PE X (.List es pos) (tE c W fun s h => (fs s h).bind fun xs h1 => lstE xs h1) :=
  (pe_lst ha).imp fun σ H Q ⟨z, h, s, at_, p⟩ => ⟨z, h, s, at_, p.bind.mono (fun z1 xs h1 e1 m1 p1 ys r1 => by
    unfold lstE at p1
    split at p1
    · rename_i hz
      have := r1.length
      exact ⟨line_of (by omega), fun q hq => p1.lstc m1 r1 hq⟩
    · exact p1.elim) fun _ _ _ q => q⟩
/-! ### subscripts -/
theorem me_idx (hK : X.K = c.K) (hu : X.A.units + 1 < cLine) (hs : isSlice b = false) (ha : PE X a (tE c W fa)) (hb : PE X b (tE c W fb)) : PE X (.Subscript a b pos) (tE c W fun s h => (fa s h).bind fun x h1 => (fb s h1).bind fun y h2 => idxS x y h2) :=
  (pe_ix (ix_any hu) ha hb (ix_ok hs)).imp fun σ H Q p => tOp_of (fun z h s x y x' y' at_ rx ry q => by rw [hK, ← at_.K]; exact idx_ok at_.md rx ry q) p
abbrev tO (c : Cfg) (W : WX) (f : Sl → VH → Rs (List VV)) : TO := fun σ H Q => ∃ z h s, At c z H h s σ ∧ Post z ((f s h).bind fun l h2 => Rs.of (optI l) h2) (fun z' o _ => Q o z'.H) fun cls d H' => W cls d σ H'
theorem mo_none : PO X none (tO c W fun s h => .ok [] h) := ⟨fun pins s σ H Q I ⟨z, h, s1, at_, p⟩ => po_none.run pins s σ H Q I (by
  obtain rfl := at_.H
  exact p z (Ext.refl z) at_.md)⟩
theorem mo_some (he : PE X e (tE c W fa)) : PO X (some e) (tO c W fun s h => (fa s h).bind fun x h1 => (Rs.ok [] h1).bind fun xs h2 => .ok (x :: xs) h2) := ⟨fun pins s σ H Q I ⟨z, h, s1, at_, p⟩ => (po_some he).run pins s σ H Q I ⟨z, h, s1, at_, (Post.bind (Post.bind p)).mono (fun z1 x h1 e1 m1 p1 x' r1 => by
  have p2 : Post z1 (Rs.of (optI [x]) h1) (fun z' o _ => Q o z'.H) (fun cls d H' => W cls d σ H') := p1 z1 (Ext.refl z1) m1
  cases x with
  | int i => cases r1; exact ⟨i, rfl, p2 z1 (Ext.refl z1) m1⟩
  | _ => exact p2.elim) fun _ _ _ q => q⟩⟩
theorem me_slc {lo hi : Option Expr} {fl fh : Sl → VH → Rs (List VV)} {p2 : Pos} (hK : X.K = c.K) (ha : PE X a (tE c W fa)) (hl : PO X lo (tO c W fl)) (hh : PO X hi (tO c W fh)) :
    PE X (.Subscript a (.Slice lo hi none p2) pos) (tE c W fun s h => (fa s h).bind fun x h1 => (fl s h1).bind fun l h2 => (Rs.of (optI l) h2).bind fun l h2 => (fh s h2).bind fun u h3 => (Rs.of (optI u) h3).bind fun u h3 => slcS x l u h3) :=
  (pe_slice sl_any ha hl hh).imp fun σ H Q ⟨z, h, s, at_, p⟩ => ⟨z, h, s, at_, p.bind.mono (fun z1 x h1 e1 m1 p1 x' r1 => by
    have a1 := at_.next e1 m1
    have q1 : Post z1 (((fl s h1).bind fun l h2 => Rs.of (optI l) h2).bind fun l h2 => (fh s h2).bind fun u h3 => (Rs.of (optI u) h3).bind fun u h3 => slcS x l u h3) (QE Q) (fun cls d H' => W cls d σ H') := by
      revert p1
      cases fl s h1 <;> exact fun p => p
    refine ⟨z1, h1, s, a1, q1.bind.mono (fun z2 l h2 e2 m2 p2 => ?_) fun _ _ _ q => q⟩
    have a2 := a1.next e2 m2
    have q2 : Post z2 (((fh s h2).bind fun u h3 => Rs.of (optI u) h3).bind fun u h3 => slcS x l u h3) (QE Q) (fun cls d H' => W cls d σ H') := by
      revert p2
      cases fh s h2 <;> exact fun p => p
    refine ⟨z2, h2, s, a2, q2.bind.mono (fun z3 u h3 e3 m3 p3 => ?_) fun _ _ _ q => q⟩
    have k3 : z3.K = X.K := (a2.next e3 m3).K.trans hK.symm
    rw [← k3]
    exact slc_ok m3 ((r1.mono e2).mono e3) p3) fun _ _ _ q => q⟩
end
end Mini
end
section
set_option Elab.async false
set_option linter.all false
set_option maxRecDepth 100000
set_option maxHeartbeats 2000000
/-! Mini, part 10: calls of built-ins, isinstance, methods, fields, f-strings, displays of dicts. -/
namespace Mini
open PySem PySem.Spec PyProof.Rows L2
def bfnN : Bfn → Str
  | .len => "len" | .int => "int" | .abs => "abs" | .repr => "repr" | .str => "str" | .list => "list" | .tuple => "tuple" | .all => "all"
theorem bfn_boot : ∀ f : Bfn, bootBuiltins (bfnN f) = some (bfnV f) := fun f => by cases f <;> decide +kernel
theorem bfn_nm : ∀ f : Bfn, bfnN f ≠ "__name__" ∧ (bfnN f == ("__debug__" : Str)) = false := fun f => by cases f <;> decide
section
variable {X : Cx} {c : Cfg} {W : WX} {a b e d : Expr} {fa fb fc : Sl → VH → Rs VV} {fs : Sl → VH → Rs (List VV)} {pos p p2 : Pos}
theorem me_bcl {es : List Expr} (hdg : X.base.NoDigits) (hK : X.K = c.K) (hc : X.calm = true) (hgd : X.A.guards = some []) (hu : X.A.units + 64 < cLine) (f : Bfn) (hg : Gl X (bfnN f)) (hm : X.mg (bfnN f) = none) (hs : (e :: es).all (fun e => !isStar e) = true) (ha : PA X (e :: es) (tA c W fs)) :
    PE X (.Call (.Name (bfnN f) p) (e :: es) [] pos) (tE c W fun s h => (fs s h).bind fun xs h1 => bfnS f xs h1) := by
  have h0 : isStar e = false := by rw [List.all_cons, Bool.and_eq_true] at hs; simpa using hs.1
  have hs' : es.all (fun e => !isStar e) = true := by rw [List.all_cons, Bool.and_eq_true] at hs; exact hs.2
  have key : PE X (.Call (.Name (bfnN f) p) (e :: es) [] pos) (tCB (rBfn X.K f) (tA c W fs)) := by
    have hr := call_bfn hdg hc hgd hu f
    have hb := bfn_boot f
    have hn := bfn_nm f
    cases f with
    | len => exact pe_callB hr hg hm hb ha hn.1 hn.2 (star_cons h0) (back_any hs')
    | int => exact pe_callTy hr hg hm hb ha hn.1 hn.2 (star_cons h0) (back_any hs')
    | abs => exact pe_callB hr hg hm hb ha hn.1 hn.2 (star_cons h0) (back_any hs')
    | repr => exact pe_callB hr hg hm hb ha hn.1 hn.2 (star_cons h0) (back_any hs')
    | str => exact pe_callTy hr hg hm hb ha hn.1 hn.2 (star_cons h0) (back_any hs')
    | list => exact pe_callTy hr hg hm hb ha hn.1 hn.2 (star_cons h0) (back_any hs')
    | tuple => exact pe_callTy hr hg hm hb ha hn.1 hn.2 (star_cons h0) (back_any hs')
    | all => exact pe_callB hr hg hm hb ha hn.1 hn.2 (star_cons h0) (back_any hs')
  exact key.imp fun σ H Q p => tCB_of (fun z h s xs ys at_ r q => by rw [hK, ← at_.K]; exact bfn_ok f at_.md r q) p
end
/-! ### isinstance -/
def tyW (c : Cfg) : Ty → Value
  | .bi n => .type n
  | .cls g => .ref (c.ad g)
def tyC (c : Cfg) : Ty → V
  | .bi n => .ty n
  | .cls g => .ref (c.ad g)
theorem clsV_ty (c : Cfg) : ∀ t : Ty, ClsV (tyC c t) (tyW c t)
  | .bi n => .ty n
  | .cls g => .own _
def TyM (K : PySem.W.Frag) (H : Hp) (x : V) (t : Value) : Prop := TyX K H x t ∨ ∃ a D d, x = .ref a ∧ t = .ref D ∧ H a = some (ExH (.ref D) (some d) a) ∧ ExcC K D ∧ ∃ fs, H d = some (.xd fs)
/-- which types are asked of: built-in ones by name; own ones: true if of exceptions -/
def okTy (cl : Nat → Option Bool) : Ty → Prop
  | .bi n => n ∈ ["NoneType", "bool", "int", "str", "tuple", "list", "dict"]
  | .cls g => (cl g).isSome = true
structure InsK (K : PySem.W.Frag) (C : Addr) : Prop where
  cl : Cls K C
  ha : PySem.W.findIn K (.ref C) "__class__" = some (some (.builtin "object.__class__"))
  hn : PySem.W.specialIn K (.builtin "object.__class__") "__get__" = some (some (.builtin "getset_descriptor.__get__"))
  ht : PySem.W.takesIn K (.builtin "object.__class__") = some true
  hm : PySem.W.mroIn K C (.type "object") = some true
structure KitK (c : Cfg) (cl : Nat → Option Bool) (sub : Nat → Nat → Bool) : Prop where
  kit : ∀ t u, okTy cl t → okTy cl u → PySem.W.kitOne c.K (tyW c t) (tyW c u) = some (isTy sub t u)
  ins : ∀ g, cl g = some false → InsK c.K (c.ad g)
  exc : ∀ g, cl g = some true → ExcC c.K (c.ad g)
section
variable {X : Cx} {pins : List (Addr × Obj)} {σ : L2.St} {H : Hp} {s : Shared}
theorem exh_at (I : Inv X pins σ H s) {cls : Value} {d : Option Addr} {a : Addr} (e : H a = some (ExH cls d a)) : ∃ oe, s.heap.get? a = some oe ∧ Zc cls d oe ∧ ∃ vs, oe.data = .fields vs := (I.hok a _ e).1
theorem kit_ofM {x : V} {u t : Value} (I : Inv X pins σ H s) (rx : RelV x u) (ty : TyM X.K H x t) : ∃ P : Heap → Prop, PySem.W.KitX X.K u t P ∧ P s.heap ∧ u ≠ .builtin "__main__.__loader__#opaque" := by
  rcases ty with ty | ⟨a, D, d, rfl, rfl, ea, C, fs, ed⟩
  · exact kit_of I rx ty
  · cases rx
    obtain ⟨oe, h1, hz, vs, hv⟩ := exh_at I ea
    obtain ⟨mA, hns, hr⟩ := (show ObjOk X.prog X.w H s.heap d (.xd fs) from I.hok d _ ed)
    obtain ⟨od, ho, _⟩ := lookIn_ns hns
    have J : PySem.W.InstAt s.heap a oe D (some od) := ⟨h1, hz.1, by unfold PySem.W.notCls; rw [hv] <;> rfl, by rw [hz.2]; exact ho⟩
    have hcl : (PySem.W.clsIn X.K D).isSome = true := by obtain ⟨cd, hc, _⟩ := PySem.W.any_some C.hd; rw [hc]; rfl
    exact ⟨_, PySem.W.kitx_exc (od := some od) hcl C.hg C.hk C.hs C.ha C.hn C.ht C.hm, J, fun z => nomatch z⟩
end
def rIsm (K : PySem.W.Frag) : List V → Hp → VK → Prop := fun xs H Q => ∃ (x c : V) (t u : Value) (b : Bool), xs = [x, c] ∧ ClsV c u ∧ TyM K H x t ∧ PySem.W.kitOne K t u = some b ∧ Q (.bl b) H
def rIsmT (K : PySem.W.Frag) : List V → Hp → VK → Prop := fun xs H Q => ∃ (x : V) (tp : Addr) (cs : List V) (t : Value) (us : List Value) (b : Bool), xs = [x, .ref tp] ∧ H tp = some (.tup cs) ∧ Paired ClsV cs us ∧ TyM K H x t ∧ PySem.W.kitAny K t us = some b ∧ Q (.bl b) H
section
variable {X : Cx}
theorem call_ism : CallR X (.builtin "isinstance") (rIsm X.K) := by
  intro pins s σ H xs us Q I r ⟨x, c, t, u, b, hx, k, ty, e, q⟩
  subst hx
  obtain ⟨u1, u2, rfl, r1, r2⟩ := vals2 r
  obtain rfl := k.eq r2
  obtain ⟨P, Z, p, nb⟩ := kit_ofM I r1 ty
  exact PySem.W.kia_one Z I.kIn p e nb fun tk => ⟨.bl b, H, I.tok tk, rfl, q⟩
theorem call_ismT : CallR X (.builtin "isinstance") (rIsmT X.K) := by
  intro pins s σ H xs us Q I r ⟨x, tp, cs, t, ws, b, hx, hT, k, ty, e, q⟩
  subst hx
  obtain ⟨u1, u2, rfl, r1, r2⟩ := vals2 r
  cases (show u2 = Value.ref tp from r2)
  obtain ⟨P, Z, p, nb⟩ := kit_ofM I r1 ty
  obtain ⟨_, its, rv, ⟨oc, od, dt, sl⟩, h1, h2, n, h3⟩ := (show ObjOk X.prog X.w H s.heap tp (.tup cs) from I.hok tp _ hT)
  obtain rfl := ClsV.all k rv
  dsimp only at h2 h3
  subst h2 h3
  exact PySem.W.kia_tup Z I.kIn p h1 e nb fun tk => ⟨.bl b, H, I.tok tk, rfl, q⟩
end
section
variable {z : Rz} {h : VH} {x : VV} {x' : V} {c : Cfg} {cl : Nat → Option Bool} {sub : Nat → Nat → Bool}
theorem sq_tyT {a : Addr} {ys : List V} {K : PySem.W.Frag} {H : Hp} (h : Rd H a (.tup ys)) : TyX K H (.ref a) (.type "tuple") := h.elim (fun e => .base (.tup e)) fun ⟨o, e⟩ => .fTuple e
theorem sq_tyL {a : Addr} {ys : List V} {K : PySem.W.Frag} {H : Hp} (h : Rd H a (.lst ys)) : TyX K H (.ref a) (.type "list") := h.elim (fun e => .base (.lst e)) fun ⟨o, e⟩ => .base (.frz e)
theorem ty_ok (m : Md z h) (hK : z.K = c.K) (ha : z.ad = c.ad) (KK : KitK c cl sub) {t : Ty} (e : tyOf h x = some t) (kn : knownTy cl x h = true) (r : Rel z x x') : TyM z.K z.H x' (tyW c t) ∧ okTy cl t := by
  have insT : ∀ {a dx : Addr} {g : Nat} {fs : List (Str × V)}, cl g = some false → z.H a = some (.ins (z.ad g) dx fs) → TyM z.K z.H (.ref a) (.ref (c.ad g)) := fun {a dx g fs} hg he => by
    have k := KK.ins g hg
    rw [hK]
    exact .inl (.base (.ins (by rw [← ha]; exact he) k.cl k.ha k.hn k.ht k.hm))
  cases x with
  | non => cases e; cases r; exact ⟨.inl (.base .non), by simp [okTy]⟩
  | bl b => cases e; cases r; exact ⟨.inl (.base (.bl b)), by simp [okTy]⟩
  | int i => cases e; cases r; exact ⟨.inl (.base (.int i)), by simp [okTy]⟩
  | str y => cases e; cases r; exact ⟨.inl (.base (.str y)), by simp [okTy]⟩
  | glb g => cases e
  | lam => cases e
  | tup us =>
    obtain ⟨a, ys, rfl, t, q⟩ := r
    cases e
    refine ⟨.inl ?_, by simp [okTy]⟩
    rcases t with ⟨t, _⟩ | ⟨o, its, n, h1, h2, _⟩
    · exact sq_tyT t
    · exact .kTuple h1 h2
  | lst us =>
    obtain ⟨a, ys, rfl, t, q⟩ := r
    cases e
    exact ⟨.inl (sq_tyL t.1), by simp [okTy]⟩
  | dic ks us =>
    obtain ⟨a, kvs, rfl, t, f, k, q⟩ := r
    cases e
    exact ⟨.inl (.base (.dK t)), by simp [okTy]⟩
  | ins g ns us =>
    obtain ⟨a, dx, fs, rfl, t, f, k, q⟩ := r
    cases e
    have hg : cl g = some false := by simpa [knownTy] using kn
    exact ⟨insT hg t, by simp [okTy, hg]⟩
  | exc g ns us =>
    obtain ⟨a, d, fs, rfl, t, f, t2, f2, k, q⟩ := r
    cases e
    have hg : cl g = some true := by simpa [knownTy] using kn
    refine ⟨.inr ⟨a, c.ad g, d, rfl, rfl, by rw [← ha]; exact t, ?_, fs, t2⟩, by simp [okTy, hg]⟩
    rw [hK]; exact KK.exc g hg
  | ref k =>
    obtain ⟨hk, rfl⟩ := r
    unfold tyOf at e
    unfold knownTy at kn
    cases q : h[k]? with
    | none => simp only [q] at e; cases e
    | some o =>
      simp only [q] at e kn
      cases o with
      | lst us =>
        cases e
        obtain ⟨ys, h1, h2⟩ := m.ob k _ q
        exact ⟨.inl (.base (.lst h1)), by simp [okTy]⟩
      | dic ks vs =>
        cases e
        obtain ⟨kvs, h1, h2, h3⟩ := m.ob k _ q
        exact ⟨.inl (.base (.dK h1)), by simp [okTy]⟩
      | ins g ns vs =>
        cases e
        obtain ⟨dx, fs, h1, h2, h3⟩ := m.ob k _ q
        have hg : cl g = some false := by simpa using kn
        exact ⟨insT hg h1, by simp [okTy, hg]⟩
theorem kitAny_ok (hK : z.K = c.K) (KK : KitK c cl sub) {t : Ty} (ht : okTy cl t) : ∀ us : List Ty, (∀ u ∈ us, okTy cl u) → PySem.W.kitAny z.K (tyW c t) (us.map (tyW c)) = some (us.any fun u => isTy sub t u)
  | [], _ => rfl
  | u :: us, hu => kitAny_cons (b := isTy sub t u) (by rw [hK]; exact KK.kit t u ht (hu u List.mem_cons_self)) (fun e => by
      rw [List.any_cons, e, Bool.false_or]
      exact kitAny_ok hK KK ht us fun v hv => hu v (List.mem_cons_of_mem _ hv)) fun e => by rw [List.any_cons, e, Bool.true_or]
end
theorem boot_isi : bootBuiltins "isinstance" = some (.builtin "isinstance") := by decide +kernel
section
variable {X : Cx} {c : Cfg} {W : WX} {a b e d : Expr} {fa fb fc : Sl → VH → Rs VV} {fs : Sl → VH → Rs (List VV)} {pos p p2 : Pos} {cl : Nat → Option Bool} {sub : Nat → Nat → Bool}
theorem me_isi1 (hK : X.K = c.K) (KK : KitK c cl sub) (hg : Gl X "isinstance") (hm : X.mg "isinstance" = none) {t : Ty} (ht : okTy cl t) (hs : isStar e = false) (hs2 : isStar d = false) (he : PE X e (tE c W fa)) (hd : PE X d (tC (tyC c t))) :
    PE X (.Call (.Name "isinstance" p) [e, d] [] pos) (tE c W fun s h => (fa s h).bind fun x h1 => isiS sub cl [t] x h1) := by
  refine (pe_callB call_ism hg hm boot_isi (pa_cons he (pa_cons hd pa_nil (star_cons hs2)) (star_cons hs)) (by decide) (by decide) (star_cons hs) (back_any (by simp [hs2]))).imp fun σ H Q ⟨z, h, s, at_, p⟩ => ⟨z, h, s, at_, p.bind.mono (fun z1 x h1 e1 m1 p1 x' r1 => ?_) fun _ _ _ q => q⟩
  have a1 := at_.next e1 m1
  unfold isiS at p1
  split at p1
  · rename_i u hu
    split at p1
    · rename_i kn
      obtain ⟨ty, ho⟩ := ty_ok m1 a1.K a1.ad KK hu kn r1
      have kk := KK.kit u t ho ht
      rw [← a1.K] at kk
      have k1 : z1.K = X.K := a1.K.trans hK.symm
      refine ⟨x', tyC c t, tyW c u, tyW c t, isTy sub u t, rfl, clsV_ty c t, by rw [← k1]; exact ty, by rw [← k1]; exact kk, ?_⟩
      have := p1.here m1 (w := .bl (isTy sub u t)) (by show V.bl _ = V.bl _; simp)
      exact this
    · exact p1.elim
  · exact p1.elim
/-- the classes, one after another -/
inductive PCs (X : Cx) (c : Cfg) (cl : Nat → Option Bool) : List Expr → List Ty → Prop where
  | nil : PCs X c cl [] []
  | cons {e : Expr} {t : Ty} {es : List Expr} {ts : List Ty} (h : PE X e (tC (tyC c t))) (hs : isStar e = false) (ht : okTy cl t) (r : PCs X c cl es ts) : PCs X c cl (e :: es) (t :: ts)
def tCs (vs : List V) : TA := fun _ H Q => Q vs H
theorem PCs.pa {es : List Expr} {ts : List Ty} (h : PCs X c cl es ts) : PA X es (tCs (ts.map (tyC c))) := by
  induction h with
  | nil => exact pa_nil
  | cons h hs ht r ih => exact pa_cons h ih (star_cons hs)
theorem PCs.ok {es : List Expr} {ts : List Ty} (h : PCs X c cl es ts) : ∀ u ∈ ts, okTy cl u := by
  induction h with
  | nil => intro u hu; cases hu
  | cons h hs ht r ih => intro u hu; exact (List.mem_cons.mp hu).elim (fun e => e ▸ ht) (ih u)
theorem paired_ty (c : Cfg) : ∀ ts : List Ty, Paired ClsV (ts.map (tyC c)) (ts.map (tyW c))
  | [] => .nil
  | t :: ts => .cons (clsV_ty c t) (paired_ty c ts)
theorem me_isiT {es : List Expr} {ts : List Ty} {k : Nat} {tpos : Pos} (hK : X.K = c.K) (KK : KitK c cl sub) (hg : Gl X "isinstance") (hm : X.mg "isinstance" = none) (hl : ts.length ≤ 1000) (hs : isStar e = false) (he : PE X e (tE c W fa)) (hd : PCs X c cl es ts) :
    PE X (.Call (.Name "isinstance" p) [e, .Tuple es k tpos] [] pos) (tE c W fun s h => (fa s h).bind fun x h1 => isiS sub cl ts x h1) := by
  refine (pe_callB call_ismT hg hm boot_isi (pa_cons he (pa_cons (pe_tup hd.pa) pa_nil rfl) (star_cons hs)) (by decide) (by decide) (star_cons hs) (back_any rfl)).imp fun σ H Q ⟨z, h, s, at_, p⟩ => ⟨z, h, s, at_, p.bind.mono (fun z1 x h1 e1 m1 p1 x' r1 => ?_) fun _ _ _ q => q⟩
  have a1 := at_.next e1 m1
  refine ⟨by rw [List.length_map]; exact line_of (by omega), fun q hq => ?_⟩
  have e2 : Ext z1 (z1.put q (.tup (ts.map (tyC c)))) := Ext.put hq m1.rs
  have m2 := m1.put (o := .tup (ts.map (tyC c))) hq
  unfold isiS at p1
  split at p1
  · rename_i u hu
    split at p1
    · rename_i kn
      have a2 := a1.next e2 m2
      obtain ⟨ty, ho⟩ := ty_ok m2 a2.K a2.ad KK hu kn (r1.mono e2)
      have k2 : (z1.put q (.tup (ts.map (tyC c)))).K = X.K := a2.K.trans hK.symm
      have kk := kitAny_ok a2.K KK ho ts hd.ok
      refine ⟨x', q, ts.map (tyC c), tyW c u, ts.map (tyW c), ts.any fun v => isTy sub u v, rfl, upd_same, paired_ty c ts, by rw [← k2]; exact ty, by rw [← k2]; exact kk, ?_⟩
      exact p1 _ e2 m2 _ rfl
    · exact p1.elim
  · exact p1.elim
end
end Mini
end
section
set_option Elab.async false
set_option linter.all false
set_option maxRecDepth 100000
set_option maxHeartbeats 2000000
/-! Mini, part 11: methods, fields, f-strings, displays of dicts. -/
namespace Mini
open PySem PySem.Spec PyProof.Rows L2
/-! ### dicts: the two sides of a store -/
section
variable {z : Rz} {k : Key} {x : VV} {x' : V}
theorem any_keys (k : Key) : ∀ kvs : List (Key × V), (kvs.any fun kv => decide (kv.1 = k)) = ((kvs.map (·.1)).any fun q => decide (q = k))
  | [] => rfl
  | p :: kvs => by rw [List.any_cons, List.map_cons, List.any_cons, any_keys k kvs]
theorem putV_ok (r : Rel z x x') : ∀ {kvs : List (Key × V)} {vs : List VV}, RelL z vs (kvs.map (·.2)) → (kvs.map fun kv => if kv.1 = k then (kv.1, x') else kv).map (·.1) = kvs.map (·.1) ∧ RelL z (putV k x (kvs.map (·.1)) vs) ((kvs.map fun kv => if kv.1 = k then (kv.1, x') else kv).map (·.2))
  | [], [], h => ⟨rfl, rfl⟩
  | [], v :: vs, h => by obtain ⟨y, q, e, _⟩ := h; cases e
  | p :: kvs, [], h => by cases h
  | p :: kvs, v :: vs, h => by
    obtain ⟨y, q, e, h1, h2⟩ := h
    have e1 : p.2 = y := (List.cons.inj e).1
    have e2 : kvs.map (·.2) = q := (List.cons.inj e).2
    subst e1 e2
    obtain ⟨i1, i2⟩ := putV_ok r h2
    by_cases hk : p.1 = k
    · refine ⟨?_, ?_⟩
      · rw [List.map_cons, List.map_cons, i1, if_pos hk]; rfl
      · rw [List.map_cons, List.map_cons, if_pos hk, List.map_cons]
        show RelL z ((if p.1 = k then x else v) :: putV k x (kvs.map (·.1)) vs) _
        rw [if_pos hk]
        exact ⟨_, _, rfl, r, i2⟩
    · refine ⟨?_, ?_⟩
      · rw [List.map_cons, List.map_cons, i1, if_neg hk]; rfl
      · rw [List.map_cons, List.map_cons, if_neg hk, List.map_cons]
        show RelL z ((if p.1 = k then x else v) :: putV k x (kvs.map (·.1)) vs) _
        rw [if_neg hk]
        exact ⟨_, _, rfl, h1, i2⟩
theorem putD_ok (r : Rel z x x') {kvs : List (Key × V)} {ks : List Key} {vs : List VV} (hk : kvs.map (·.1) = ks) (h : RelL z vs (kvs.map (·.2))) : (putK kvs k x').map (·.1) = (putD k x ks vs).1 ∧ RelL z (putD k x ks vs).2 ((putK kvs k x').map (·.2)) := by
  subst hk
  unfold putK putD
  rw [any_keys]
  split
  · exact putV_ok r h
  · refine ⟨by rw [List.map_append]; rfl, ?_⟩
    rw [List.map_append]
    exact h.append ⟨x', [], rfl, r, rfl⟩
theorem putAll_ok : ∀ {more : List (Key × V)} {ms : List VV} {kvs : List (Key × V)} {ks : List Key} {vs : List VV}, RelL z ms (more.map (·.2)) → kvs.map (·.1) = ks → RelL z vs (kvs.map (·.2)) →
    (mergeK kvs more).map (·.1) = (putAllD (more.map (·.1)) ms (ks, vs)).1 ∧ RelL z (putAllD (more.map (·.1)) ms (ks, vs)).2 ((mergeK kvs more).map (·.2))
  | [], [], kvs, ks, vs, _, h1, h2 => ⟨h1, h2⟩
  | [], m :: ms, kvs, ks, vs, h, _, _ => by obtain ⟨y, q, e, _⟩ := h; cases e
  | p :: more, [], kvs, ks, vs, h, _, _ => by cases h
  | p :: more, m :: ms, kvs, ks, vs, h, h1, h2 => by
    obtain ⟨y, q, e, r1, r2⟩ := h
    have e1 : p.2 = y := (List.cons.inj e).1
    have e2 : more.map (·.2) = q := (List.cons.inj e).2
    subst e1 e2
    obtain ⟨i1, i2⟩ := putD_ok (k := p.1) r1 h1 h2
    exact putAll_ok (kvs := putK kvs p.1 p.2) r2 i1 i2
end
/-! ### d.update(e) -/
def rUpd : V → List V → Hp → VK → Prop := fun x xs H Q => ∃ d o kvs more, x = .ref d ∧ xs = [.ref o] ∧ d ≠ o ∧ H d = some (.dK kvs) ∧ H o = some (.dK more) ∧ kvs.length + more.length ≤ 1000 ∧ Q .non (upd H d (.dK (mergeK kvs more)))
theorem mt_update {X : Cx} : MtR X "dict.update" rUpd := by
  intro pins s σ H x xs v us Q I rx rs ⟨d, o, kvs, more, ex, exs, hne, hd, ho, hz, q⟩
  subst ex exs
  cases rx
  obtain ⟨u, rfl, ru⟩ := vals1 rs
  cases ru
  obtain ⟨z1, hds, vs, r1, d1⟩ := dk_of I.hok hd
  obtain ⟨z2, hos, ws, r2, d2⟩ := dk_of I.hok ho
  have l1 : kvs.length = vs.length := Paired.length r1
  have l2 : more.length = ws.length := Paired.length r2
  have hm := length_mergeK more kvs
  refine call_meetsIn PySem.F.slot_dict_update d1.typeIs PySem.F.entry_dict_update (PySem.F.args_dict_update_2 _ _) (meets_dict_update (mixKind X.prog X.w) d o hne hos) ⟨vs, ws, d1, d2, by rw [← l1, ← l2, sizeLine_eq]; omega, fun h' e1 _ hs => ?_⟩
  have he : ∃ q, h'.get? d = some q := let ⟨q, _, _, hq, _⟩ := e1; ⟨q, hq⟩
  exact ⟨.non, _, d_write (t' := s.toks) I (by rw [hd]; exact True.intro) hs he (dk_new (by rw [sizeLine_eq]; omega) hds (KV.merge r2 r1) e1), rfl, q⟩
section
variable {z : Rz} {h : VH} {x y : VV} {x' y' : V} {Q : VK} {V' : XK}
theorem append_ok (m : Md z h) (rx : Rel z x x') (ry : Rel z y y') (p : Post z (mAppend x y h) (QE Q) V') : rAppend x' [y'] z.H Q := by
  unfold mAppend at p
  split at p
  · rename_i k
    obtain ⟨hk, rfl⟩ := rx
    split at p
    · rename_i us q
      split at p
      · rename_i hz
        obtain ⟨ys, h1, h2⟩ := m.ob k _ q
        have l := h2.length
        refine ⟨_, ys, y', rfl, rfl, h1, by rw [sizeLine_eq]; omega, ?_⟩
        exact p _ (m.ext_set hk) (m.set hk ⟨_, upd_same, (h2.append (relL_cons ry relL_nil)).mono (m.ext_set hk)⟩) _ rfl
      · exact p.elim
    · exact p.elim
  · exact p.elim
theorem upd_ok (m : Md z h) (rx : Rel z x x') (ry : Rel z y y') (p : Post z (mUpd x y h) (QE Q) V') : rUpd x' [y'] z.H Q := by
  unfold mUpd at p
  split at p
  · rename_i k
    obtain ⟨hk, rfl⟩ := rx
    split at p
    · rename_i ks vs d q hd
      split at p
      · rename_i hc
        obtain ⟨kvs, h1, h2, h3⟩ := m.ob k _ q
        obtain ⟨a, more, rfl, g1, g2, g3⟩ := dic_ok m hd ry
        have ne : z.al k ≠ a := by
          cases y with
          | ref j =>
            obtain ⟨hj, e⟩ := ry
            have hjk : j ≠ k := of_decide_eq_true hc.1
            intro w
            cases e
            exact hjk (m.inj j k hj hk w.symm)
          | dic ks' vs' =>
            obtain ⟨b, kv, e, t, f, _⟩ := ry
            cases e
            exact f.al k hk
          | _ => cases hd
        have lk : ks.length = kvs.length := by rw [← h2, List.length_map]
        have ld : d.1.length = more.length := by rw [← g2, List.length_map]
        refine ⟨_, a, kvs, more, rfl, rfl, ne, h1, g1, by omega, ?_⟩
        obtain ⟨i1, i2⟩ := putAll_ok g3 h2 h3
        rw [g2] at i1 i2
        exact p _ (m.ext_set hk) (m.set hk ⟨_, upd_same, i1, i2.mono (m.ext_set hk)⟩) _ rfl
      · exact p.elim
    · exact p.elim
  · exact p.elim
end
section
variable {X : Cx} {c : Cfg} {W : WX} {a b e o : Expr} {fa fb fo : Sl → VH → Rs VV} {fs : Sl → VH → Rs (List VV)} {pos p apos : Pos}
def bmtN : Bmt → Str
  | .append => "append" | .update => "update" | .join => "join" | .split => "split" | .partition => "partition" | .startswith => "startswith"
def mclS (m : Bmt) (fo fa : Sl → VH → Rs VV) : Sl → VH → Rs VV := fun σ h => (fo σ h).bind fun x h1 => if rcvB m x h1 = true then (fa σ h1).bind fun y h2 => bmt1 m x y h2 else .bad
theorem rcv_lst {z : Rz} {h : VH} {x : VV} {x' : V} (m : Md z h) (e : rcvB .append x h = true) (r : Rel z x x') : tyV z.K "list" x' z.H := by
  unfold rcvB at e
  dsimp only at e
  split at e
  · obtain ⟨hk, rfl⟩ := r
    split at e
    · rename_i us q
      obtain ⟨ys, h1, h2⟩ := m.ob _ _ q
      exact .inl ⟨rfl, ys, SqL.of h1⟩
    · cases e
  · cases e
theorem rcv_dic {z : Rz} {h : VH} {x : VV} {x' : V} (m : Md z h) (e : rcvB .update x h = true) (r : Rel z x x') : tyV z.K "dict" x' z.H := by
  unfold rcvB at e
  dsimp only at e
  split at e
  · obtain ⟨hk, rfl⟩ := r
    split at e
    · rename_i ks us q
      obtain ⟨kvs, h1, h2⟩ := m.ob _ _ q
      exact .inr (.inr (.inl ⟨rfl, .inl ⟨kvs, h1⟩⟩))
    · cases e
  · cases e
/-- a method of a list, of a dict -/
theorem cellM (hK : X.K = c.K) {m : Bmt} {T : String} {r : V → List V → Hp → VK → Prop} (hr : ∀ {z : Rz} {h : VH} {x : VV} {x' : V}, Md z h → rcvB m x h = true → Rel z x x' → tyV z.K T x' z.H)
    (hm : ∀ {z : Rz} {h : VH} {x y : VV} {x' y' : V} {Q : VK} {V' : XK}, Md z h → Rel z x x' → Rel z y y' → Post z (bmt1 m x y h) (QE Q) V' → r x' [y'] z.H Q) {σ : L2.St} {H : Hp} {Q : VK} (p : tE c W (mclS m fo fa) σ H Q) :
    tBM X.K T r (tE c W fo) (tCons (tE c W fa) tNil) σ H Q := by
  obtain ⟨z, h, s, at_, p⟩ := p
  refine ⟨z, h, s, at_, p.bind.mono (fun z1 x h1 e1 m1 p1 x' r1 => ?_) fun _ _ _ q => q⟩
  have a1 := at_.next e1 m1
  have k1 : z1.K = X.K := a1.K.trans hK.symm
  split at p1
  · rename_i hb
    refine ⟨by rw [← k1]; exact hr m1 hb r1, z1, h1, s, a1, p1.bind.mono (fun z2 y h2 e2 m2 p2 y' r2 => ?_) fun _ _ _ q => q⟩
    exact hm m2 (r1.mono e2) r2 p2
  · exact p1.elim
theorem mth_append (hK : X.K = c.K) (hb : isCall0 o = false) (hs : isStar e = false) (hl : (apos.endLine == pos.line) = true) (ho : PE X o (tE c W fo)) (he : PE X e (tE c W fa)) : PE X (.Call (.Attribute o "append" apos) [e] [] pos) (tE c W (mclS .append fo fa)) :=
  (pe_bm F.plainAttrs_list F.slot_list_append F.type_list_append mt_append ho (pa_cons he pa_nil (star_cons hs)) (base_ok hb) (few_ok (by simp [hs]) (by decide)) hl (star_cons hs) (back_any rfl)).imp fun σ H Q p => cellM hK rcv_lst append_ok p
theorem mth_update (hK : X.K = c.K) (hb : isCall0 o = false) (hs : isStar e = false) (hl : (apos.endLine == pos.line) = true) (ho : PE X o (tE c W fo)) (he : PE X e (tE c W fa)) : PE X (.Call (.Attribute o "update" apos) [e] [] pos) (tE c W (mclS .update fo fa)) :=
  (pe_bm F.plainAttrs_dict F.slot_dict_update F.type_dict_update mt_update ho (pa_cons he pa_nil (star_cons hs)) (base_ok hb) (few_ok (by simp [hs]) (by decide)) hl (star_cons hs) (back_any rfl)).imp fun σ H Q p => cellM hK rcv_dic upd_ok p
/-- a method of a text -/
theorem textM {m : Bmt} {r : V → List V → Hp → VK → Prop} (hr : ∀ x h, rcvB m x h = true → ∃ t, x = .str t)
    (hm : ∀ {z : Rz} {h : VH} {t : Str} {y : VV} {y' : V} {Q : VK} {V' : XK}, z.K = c.K → Md z h → Rel z y y' → Post z (bmt1 m (.str t) y h) (QE Q) V' → r (.str t) [y'] z.H Q) {σ : L2.St} {H : Hp} {Q : VK} (p : tE c W (mclS m fo fa) σ H Q) :
    tM1 r (tE c W fo) (tE c W fa) σ H Q := by
  obtain ⟨z, h, s, at_, p⟩ := p
  refine ⟨z, h, s, at_, p.bind.mono (fun z1 x h1 e1 m1 p1 x' r1 => ?_) fun _ _ _ q => q⟩
  have a1 := at_.next e1 m1
  split at p1
  · rename_i hb
    obtain ⟨t, rfl⟩ := hr x h1 hb
    cases r1
    refine ⟨⟨t, rfl⟩, z1, h1, s, a1, p1.bind.mono (fun z2 y h2 e2 m2 p2 y' r2 => ?_) fun _ _ _ q => q⟩
    exact hm (a1.next e2 m2).K m2 r2 p2
  · exact p1.elim
theorem rcv_str {m : Bmt} (h1 : m ≠ .append) (h2 : m ≠ .update) (x : VV) (h : VH) (e : rcvB m x h = true) : ∃ t, x = .str t := by
  cases m <;> first | exact absurd rfl h1 | exact absurd rfl h2 | (cases x <;> first | exact ⟨_, rfl⟩ | cases e)
theorem join_ok (hK : X.K = c.K) {z : Rz} {h : VH} {t : Str} {y : VV} {y' : V} {Q : VK} {V' : XK} (k : z.K = c.K) (m : Md z h) (r : Rel z y y') (p : Post z (bmt1 .join (.str t) y h) (QE Q) V') :
    ∃ a p, ∃ ys : List Str, V.str t = .str a ∧ [y'] = [.ref p] ∧ (SqL X.K z.H p (ys.map V.str) ∨ SqT X.K z.H p (ys.map V.str)) ∧ (ys.map (·.length)).sum + ys.length * a.length ≤ 16777216 ∧ Q (.str (Txt.join a ys)) z.H := by
  simp only [bmt1, mJoin] at p
  split at p
  · rename_i ys hy
    split at p
    · rename_i hz
      cases e1 : seqOf h y with
      | none => rw [e1] at hy; cases hy
      | some us =>
        rw [e1] at hy
        obtain ⟨a, ws, rfl, hs, r1⟩ := seq_ok m e1 r
        have q := strs_ok hy r1
        subst q
        rw [k, ← hK] at hs
        exact ⟨t, a, ys, rfl, rfl, hs, hz, p.here m rfl⟩
    · exact p.elim
  · exact p.elim
theorem txt_map {z : Rz} : ∀ ss : List Str, RelL z (ss.map VV.str) (ss.map V.str)
  | [] => rfl
  | s :: ss => ⟨_, _, rfl, rfl, txt_map ss⟩
theorem split_ok {z : Rz} {h : VH} {t : Str} {y : VV} {y' : V} {Q : VK} {V' : XK} (m : Md z h) (r : Rel z y y') (p : Post z (bmt1 .split (.str t) y h) (QE Q) V') :
    ∃ a b, V.str t = .str a ∧ [y'] = [.str b] ∧ (b.length == 0) = false ∧ a.length + 2 ≤ sizeLine ∧ rNewStrs (Txt.split a b) z.H Q := by
  cases y with
  | str b =>
    cases r
    simp only [bmt1, mStr] at p
    split at p
    · rename_i hc
      exact ⟨t, b, rfl, rfl, hc.1, hc.2, fun q hq => p.lstc m (txt_map _) hq⟩
    · exact p.elim
  | _ => exact (p : False).elim
theorem part_ok {z : Rz} {h : VH} {t : Str} {y : VV} {y' : V} {Q : VK} {V' : XK} (m : Md z h) (r : Rel z y y') (p : Post z (bmt1 .partition (.str t) y h) (QE Q) V') :
    ∃ a b, V.str t = .str a ∧ [y'] = [.str b] ∧ (b.length == 0) = false ∧ a.length ≤ sizeLine ∧ ∀ p, z.H p = none → Q (.ref p) (upd z.H p (.tup [.str (Txt.partition a b).1, .str (Txt.partition a b).2.1, .str (Txt.partition a b).2.2])) := by
  cases y with
  | str b =>
    cases r
    simp only [bmt1, mStr] at p
    split at p
    · rename_i hc
      exact ⟨t, b, rfl, rfl, hc.1, hc.2, fun q hq => p.tupl m ⟨_, _, rfl, rfl, _, _, rfl, rfl, _, _, rfl, rfl, rfl⟩ hq⟩
    · exact p.elim
  | _ => exact (p : False).elim
theorem starts_ok {z : Rz} {h : VH} {t : Str} {y : VV} {y' : V} {Q : VK} {V' : XK} (m : Md z h) (r : Rel z y y') (p : Post z (bmt1 .startswith (.str t) y h) (QE Q) V') :
    ∃ a b, V.str t = .str a ∧ [y'] = [.str b] ∧ Q (.bl (Txt.startswith a b)) z.H := by
  cases y with
  | str b =>
    cases r
    exact ⟨t, b, rfl, rfl, Post.here p m rfl⟩
  | _ => exact (p : False).elim
theorem me_mcl (hK : X.K = c.K) (m : Bmt) (hb : isCall0 o = false) (hs : isStar e = false) (hl : (apos.endLine == pos.line) = true) (ho : PE X o (tE c W fo)) (he : PE X e (tE c W fa)) : PE X (.Call (.Attribute o (bmtN m) apos) [e] [] pos) (tE c W (mclS m fo fa)) := by
  have h1 : starEach [e] X.env = [(false, eval e X.env)] := star_cons hs
  cases m with
  | append => exact mth_append hK hb hs hl ho he
  | update => exact mth_update hK hb hs hl ho he
  | join => exact (pe_m1 F.slot_str_join F.type_str_join mt_join ho he h1 (base_ok hb) hl).imp fun σ H Q p => textM (m := .join) (rcv_str nofun nofun) (fun k m r q => join_ok hK k m r q) p
  | split => exact (pe_m1 F.slot_str_split F.type_str_split mt_split ho he h1 (base_ok hb) hl).imp fun σ H Q p => textM (m := .split) (rcv_str nofun nofun) (fun _ m r q => split_ok m r q) p
  | partition => exact (pe_m1 F.slot_str_partition F.type_str_partition mt_partition ho he h1 (base_ok hb) hl).imp fun σ H Q p => textM (m := .partition) (rcv_str nofun nofun) (fun _ m r q => part_ok m r q) p
  | startswith => exact (pe_m1 F.slot_str_startswith F.type_str_startswith mt_startswith ho he h1 (base_ok hb) hl).imp fun σ H Q p => textM (m := .startswith) (rcv_str nofun nofun) (fun _ m r q => starts_ok m r q) p
end
end Mini
end
section
set_option Elab.async false
set_option linter.all false
set_option maxRecDepth 100000
set_option maxHeartbeats 2000000
/-! Mini, part 12: fields, f-strings, displays of dicts. -/
namespace Mini
open PySem PySem.Spec PyProof.Rows L2
/-! ### fields -/
section
variable {z : Rz} {h : VH} {x : VV} {x' : V}
theorem lookF_ok {f : Str} : ∀ {fs : List (Str × V)} {ns : List Str} {vs : List VV} {v : VV}, fs.map (·.1) = ns → RelL z vs (fs.map (·.2)) → lookF f ns vs = some v → ∃ w, fs.lookup f = some w ∧ Rel z v w
  | [], ns, vs, v, e, r, l => by
    subst e
    cases vs <;> cases l
  | (q, w) :: fs, ns, vs, v, e, r, l => by
    subst e
    cases vs with
    | nil => cases l
    | cons u us =>
      obtain ⟨y, r', e', h1, h2⟩ := r
      have e1 : w = y := (List.cons.inj e').1
      have e2 : fs.map (·.2) = r' := (List.cons.inj e').2
      subst e1 e2
      have l' : (if decide (f = q) = true then some u else lookF f (fs.map (·.1)) us) = some v := l
      by_cases hk : f = q
      · rw [if_pos (decide_eq_true hk)] at l'
        cases l'
        exact ⟨w, by rw [List.lookup_cons, hk]; simp, h1⟩
      · rw [if_neg (by simpa using hk)] at l'
        obtain ⟨w', a, b⟩ := lookF_ok rfl h2 l'
        exact ⟨w', by rw [List.lookup_cons, show (f == q) = false from by simpa using hk]; exact a, b⟩
end
/-- what the own classes say of a name -/
structure AttK (c : Cfg) (cl : Nat → Option Bool) (f : Str) : Prop where
  exc : ∀ g, cl g = some true → PySem.W.findIn c.K (.ref (c.ad g)) f = some none
  ins : ∀ g, cl g = some false → PySem.W.findIn c.K (.ref (c.ad g)) f = some none
def rAttE (K : PySem.W.Frag) (f : Str) : V → Hp → VK → Prop := fun x H Q => ∃ a D d fs v, x = .ref a ∧ H a = some (ExH (.ref D) (some d) a) ∧ ExcC K D ∧ PySem.W.findIn K (.ref D) f = some none ∧ H d = some (.xd fs) ∧ fs.lookup f = some v ∧ Q v H
def rAttI (K : PySem.W.Frag) (f : Str) : V → Hp → VK → Prop := fun x H Q => ∃ a C dx fs v, x = .ref a ∧ H a = some (.ins C dx fs) ∧ Cls K C ∧ NoAttr K C f ∧ fs.lookup f = some v ∧ Q v H
section
variable {X : Cx} {c : Cfg} {W : WX} {a b e o : Expr} {fa fb fo : Sl → VH → Rs VV} {fs : Sl → VH → Rs (List VV)} {pos p apos : Pos} {cl : Nat → Option Bool} {sub : Nat → Nat → Bool}
theorem pe_att {f : Str} {te : TE} (hb : isCall0 e = false) (he : PE X e te) : PE X (.Attribute e f pos) (tUn (fun x H Q => rAttE X.K f x H Q ∨ rAttI X.K f x H Q) te) := by
  refine ⟨fun pins s σ H Q I h => ?_⟩
  refine attr_of (base_ok hb) (thn (he.run pins s σ H _ I h) fun u s1 ⟨x, H1, I1, rx, hh⟩ => ?_)
  rcases hh with ⟨a, D, d, fs, v, ex, ea, C, hno, ed, l, q⟩ | ⟨a, C, dx, fs, v, ex, ea, k, n, l, q⟩
  · subst ex
    obtain rfl : u = Value.ref a := rx
    obtain ⟨oe, ha, hz, vs, hd⟩ := exh_at I1 ea
    obtain ⟨mA, hns, hr⟩ := (show ObjOk X.prog X.w H1 s1.heap d (.xd fs) from I1.hok d _ ed)
    obtain ⟨od, ho, hl⟩ := lookIn_ns hns
    obtain ⟨u, hu, ru⟩ := RelO.some_of (v := v) (o := mA f) (by rw [← l]; exact hr f)
    have J : PySem.W.InstAt s1.heap a oe D (some od) := ⟨ha, hz.1, by unfold PySem.W.notCls; rw [hd] <;> rfl, by rw [hz.2]; exact ho⟩
    exact HandSPX.exc_get I1.kIn J C.hg C.hk C.hs (PySem.W.findObj_own C.hd hno rfl (by rw [hl, hu])) (handed_of ru) ⟨v, H1, I1.tok _, ru, q⟩
  · subst ex
    obtain rfl : u = Value.ref a := rx
    exact getattr_ok I1 ea k n l fun u' s2 I2 ru => ⟨v, H1, I2, ru, q⟩
theorem att_ok {z : Rz} {h : VH} {x : VV} {x' : V} {f : Str} {Q : VK} {V' : XK} (m : Md z h) (hK : z.K = c.K) (ha : z.ad = c.ad) (KK : KitK c cl sub) (AA : AttK c cl f) (r : Rel z x x') (p : Post z (attS cl f x h) (QE Q) V') :
    rAttE z.K f x' z.H Q ∨ rAttI z.K f x' z.H Q := by
  unfold attS at p
  split at p
  · rename_i g ns vs
    split at p
    · rename_i hg
      have hg : cl g = some false := by simpa using hg
      obtain ⟨a, dx, fs, rfl, t, f1, k, q⟩ := r
      obtain ⟨v, e1, p1⟩ := p.ofO
      obtain ⟨w, l, r1⟩ := lookF_ok k q e1
      refine .inr ⟨a, z.ad g, dx, fs, w, rfl, t, ?_, ?_, l, p1.here m r1⟩
      · rw [hK, ha]; exact (KK.ins g hg).cl
      · rw [hK, ha]; exact AA.ins g hg
    · exact p.elim
  · rename_i g ns vs
    split at p
    · rename_i hg
      have hg : cl g = some true := by simpa using hg
      obtain ⟨a, d, fs, rfl, t, f1, t2, f2, k, q⟩ := r
      obtain ⟨v, e1, p1⟩ := p.ofO
      obtain ⟨w, l, r1⟩ := lookF_ok k q e1
      refine .inl ⟨a, z.ad g, d, fs, w, rfl, t, ?_, ?_, t2, l, p1.here m r1⟩
      · rw [hK, ha]; exact KK.exc g hg
      · rw [hK, ha]; exact AA.exc g hg
    · exact p.elim
  · rename_i j
    obtain ⟨hj, rfl⟩ := r
    split at p
    · rename_i g ns vs q
      split at p
      · rename_i hg
        have hg : cl g = some false := by simpa using hg
        obtain ⟨dx, fs, h1, h2, h3⟩ := m.ob _ _ q
        obtain ⟨v, e1, p1⟩ := p.ofO
        obtain ⟨w, l, r1⟩ := lookF_ok h2 h3 e1
        refine .inr ⟨_, z.ad g, dx, fs, w, rfl, h1, ?_, ?_, l, p1.here m r1⟩
        · rw [hK, ha]; exact (KK.ins g hg).cl
        · rw [hK, ha]; exact AA.ins g hg
      · exact p.elim
    · exact p.elim
  · exact p.elim
theorem me_att {f : Str} (hK : X.K = c.K) (KK : KitK c cl sub) (AA : AttK c cl f) (hb : isCall0 e = false) (he : PE X e (tE c W fa)) : PE X (.Attribute e f pos) (tE c W fun s h => (fa s h).bind fun x h1 => attS cl f x h1) :=
  (pe_att hb he).imp fun σ H Q p => tUn_of (fun z h s x x' at_ rx q => by rw [hK, ← at_.K]; exact att_ok at_.md at_.K at_.ad KK AA rx q) p
/-! ### f-strings -/
def fmtS (fa : Sl → VH → Rs VV) : Sl → VH → Rs VV := fun σ h => (fa σ h).bind fun x h1 => Rs.of ((partS x).map .str) h1
theorem me_fmt (he : PE X e (tE c W fa)) : PE X (.FormattedValue e (-1) none pos) (tE c W (fmtS fa)) :=
  (pe_fmt he).imp fun σ H Q ⟨z, h, s, at_, p⟩ => ⟨z, h, s, at_, (Post.bind p).mono (fun z1 x h1 e1 m1 p1 x' r1 => by
    obtain ⟨v, q1, p2⟩ := p1.ofO
    obtain ⟨t, q2, rfl⟩ := map_some' q1
    unfold partS at q2
    split at q2
    · split at q2
      · rename_i hz
        cases r1; cases q2
        exact .inl ⟨_, rfl, hz, p2.here m1 rfl⟩
      · cases q2
    · split at q2
      · rename_i hz
        cases r1; cases q2
        exact .inr ⟨_, rfl, hz, p2.here m1 rfl⟩
      · cases q2
    · cases q2) fun _ _ _ q => q⟩
/-- the parts: fF what they make behind a text -/
structure MJ (X : Cx) (c : Cfg) (W : WX) (es : List Expr) (fF : Str → Sl → VH → Rs Str) : Prop where
  to : ∃ ts, PJ X es ts ∧ ∀ acc σ H (Q : Str → Hp → Prop), (∃ z h s, At c z H h s σ ∧ Post z (fF acc s h) (fun z' t _ => Q t z'.H) fun k d H' => W k d σ H') → tJs ts acc σ H Q
theorem mj_nil : MJ X c W [] fun acc _ h => .ok acc h := ⟨[], .nil, fun acc σ H Q ⟨z, h, s, at_, p⟩ => by
  obtain rfl := at_.H
  exact p z (Ext.refl z) at_.md⟩
def partF (fa : Sl → VH → Rs VV) (fF : Str → Sl → VH → Rs Str) : Str → Sl → VH → Rs Str := fun acc σ h => (fa σ h).bind fun x h1 => match partS x with
  | some t => if (acc ++ t).length ≤ sizeLine then fF (acc ++ t) σ h1 else .bad
  | none => .bad
theorem mj_cons {es : List Expr} {fF : Str → Sl → VH → Rs Str} (he : PE X e (tE c W (fmtS fa))) (hr : MJ X c W es fF) : MJ X c W (e :: es) (partF fa fF) := by
  obtain ⟨ts, j, k⟩ := hr.to
  refine ⟨_, .cons he j, fun acc σ H Q ⟨z, h, s, at_, p⟩ => ⟨z, h, s, at_, ?_⟩⟩
  unfold partF at p
  show Post z ((fa s h).bind fun x h1 => Rs.of ((partS x).map VV.str) h1) _ _
  cases r : fa s h with
  | bad => rw [r] at p; exact p
  | exc _ _ _ _ => rw [r] at p; exact p
  | ok x h1 =>
    rw [r] at p
    have p1 : Post z (match partS x with
      | some t => if (acc ++ t).length ≤ sizeLine then fF (acc ++ t) s h1 else .bad
      | none => .bad) (fun z' t _ => Q t z'.H) (fun k d H' => W k d σ H') := p
    show Post z (Rs.of ((partS x).map VV.str) h1) _ _
    cases e1 : partS x with
    | none => rw [e1] at p1; exact p1
    | some t =>
      rw [e1] at p1
      dsimp only at p1
      split at p1
      · rename_i hl
        intro z' e m x' rx
        cases rx
        exact ⟨t, rfl, hl, k _ _ _ _ ⟨z', h1, s, at_.next e m, p1.from e⟩⟩
      · exact p1.elim
theorem me_fst {e1 e2 : Expr} {es : List Expr} {fF : Str → Sl → VH → Rs Str} (hr : MJ X c W (e1 :: e2 :: es) fF) : PE X (.JoinedStr (e1 :: e2 :: es) pos) (tE c W fun s h => (fF Str.empty s h).bind fun t h1 => .ok (.str t) h1) := by
  obtain ⟨ts, j, k⟩ := hr.to
  exact (pe_joined j).imp fun σ H Q ⟨z, h, s, at_, p⟩ => k _ _ _ _ ⟨z, h, s, at_, p.bind.mono (fun z1 t h1 e1 m1 p1 => p1.here m1 rfl) fun _ _ _ q => q⟩
/-! ### displays of dicts -/
def dctE (ks : List Key) (xs : List VV) (h : VH) : Rs VV := if xs.length = ks.length ∧ xs.length ≤ 15 then new (.dic (putAllD ks xs ([], [])).1 (putAllD ks xs ([], [])).2) h else .bad
theorem me_dct0 : PE X (.Dict [] [] pos) (tE c W fun s h => (Rs.ok [] h).bind fun xs h1 => dctE [] xs h1) := pe_dnewK.imp fun σ H Q ⟨z, h, s, at_, p⟩ => by
  obtain rfl := at_.H
  intro q hq
  have p' : Post z (new (.dic [] []) h) (QE Q) (fun k d H' => W k d σ H') := p
  exact p'.cell at_.md hq ⟨[], upd_same, rfl, rfl⟩
/-- the pairs -/
structure MDc (X : Cx) (c : Cfg) (W : WX) (pos : Pos) (keys : List (Option Expr)) (vals : List Expr) (ks : List Key) (fs : Sl → VH → Rs (List VV)) : Prop where
  to : ∃ trs, PPs X pos keys vals trs ∧ (keys.all (·.isSome) = true ∧ keys.length = vals.length ∧ keys.length = ks.length) ∧ ∀ σ H (Q : List (V × V) → Hp → Prop), tA c W fs σ H (fun ys H' => ys.length = ks.length → Q ((ks.map kV).zip ys) H') → tPairs trs σ H Q
theorem md_nil : MDc X c W pos [] [] [] fun _ h => .ok [] h := ⟨[], pps_nil, ⟨rfl, rfl, rfl⟩, fun σ H Q ⟨z, h, s, at_, p⟩ => by
  obtain rfl := at_.H
  exact p z (Ext.refl z) at_.md [] rfl rfl⟩
theorem md_cons {k : Expr} {q : Key} {keys : List (Option Expr)} {vals : List Expr} {ks : List Key} (hk : PE X k (tC (kV q))) (he : PE X e (tE c W fa)) (hr : MDc X c W pos keys vals ks fs) :
    MDc X c W pos (some k :: keys) (e :: vals) (q :: ks) fun s h => (fa s h).bind fun x h1 => (fs s h1).bind fun xs h2 => .ok (x :: xs) h2 := by
  obtain ⟨trs, h1, ⟨k1, k2, k3⟩, h2⟩ := hr.to
  refine ⟨_, pps_cons hk he h1, ⟨by simpa using k1, by simpa using k2, by simpa using k3⟩, fun σ H Q ⟨z, h, s, at_, p⟩ => ⟨z, h, s, at_, p.bind.mono (fun z1 x g1 e1 m1 p1 x' r1 => ?_) fun _ _ _ q => q⟩⟩
  refine h2 σ _ _ ⟨z1, g1, s, at_.next e1 m1, p1.bind.mono (fun z2 xs g2 e2 m2 p2 ys r2 hl => ?_) fun _ _ _ q => q⟩
  exact p2 z2 (Ext.refl z2) m2 (x' :: ys) ⟨x', ys, rfl, r1.mono e2, r2⟩ (by simpa using hl)
theorem zip_keys : ∀ {ks : List Key} {ys : List V}, ys.length = ks.length → (ks.map kV).zip ys = (ks.zip ys).map fun kv => (kV kv.1, kv.2)
  | [], [], _ => rfl
  | [], _ :: _, h => by cases h
  | _ :: _, [], h => by cases h
  | k :: ks, y :: ys, h => by
    rw [List.map_cons, List.zip_cons_cons, List.zip_cons_cons, List.map_cons, zip_keys (by simpa using h)]
theorem zip_fst : ∀ {ks : List Key} {ys : List V}, ys.length = ks.length → (ks.zip ys).map (·.1) = ks ∧ (ks.zip ys).map (·.2) = ys
  | [], [], _ => ⟨rfl, rfl⟩
  | [], _ :: _, h => by cases h
  | _ :: _, [], h => by cases h
  | k :: ks, y :: ys, h => by
    obtain ⟨a, b⟩ := @zip_fst ks ys (by simpa using h)
    exact ⟨by rw [List.zip_cons_cons, List.map_cons, a], by rw [List.zip_cons_cons, List.map_cons, b]⟩
/-- a thing that was opened is let alone -/
theorem opn_shut {z z1 : Rz} {h h1 : VH} {p : Addr} {o : HO} (m : Md z h) (hp : z.H p = none) (e : Ext (z.opn p o) z1) (m1 : Md z1 h1) : Ext z { z1 with res := z.res } ∧ Md { z1 with res := z.res } h1 := by
  have fr := m.fre hp
  have ne : ∀ b u, z.H b = some u → b ≠ p := fun b u q => ne_of_none q hp
  have nr : ∀ b ∈ z.res, b ≠ p := fun b hb e => m.rs b hb (by rw [e]; exact hp)
  obtain ⟨s1, s2⟩ := opn_sub e
  have e0 : Ext0 z1 { z1 with res := z.res } := ⟨rfl, rfl, Nat.le_refl _, fun _ _ => rfl, fun b u q f => ⟨q, f.al, fun hb => f.res (s2 b hb), f.tab⟩, fun _ h => h⟩
  refine ⟨⟨⟨e.K, e.ad, e.n, e.al, fun b u q f => ?_, e.lam⟩, rfl, e.tab, fun b hb => ?_, e.cod, e.lamE⟩, ⟨m1.n, m1.inj, fun k u q => (m1.ob k u q).mono0 e0 rfl, fun b hb => m1.rs b (s2 b hb), fun k hk hb => m1.rl k hk (s2 _ hb), m1.tb, fun q hq => ⟨(m1.tl q hq).1, fun hb => (m1.tl q hq).2 (s2 _ hb)⟩, m1.cd⟩⟩
  · obtain ⟨q1, f1⟩ := e.H b u ((upd_ne (ne b u q)).trans q) ⟨f.al, fun hb => (List.mem_cons.mp hb).elim (ne b u q) f.res, f.tab⟩
    exact ⟨q1, f1.al, f.res, f1.tab⟩
  · exact (e.rs b (List.mem_cons_of_mem _ hb)).trans (upd_ne (nr b hb))
theorem dk_ncode {kvs : List (Key × V)} {c : Addr} {q : Str} : (some (HO.dK kvs) : Option HO) ≠ some (LamX.CodeO c q) := fun z => by
  unfold LamX.CodeO at z; cases z
theorem lst_ncode {xs : List V} {c : Addr} {q : Str} : (some (HO.lst xs) : Option HO) ≠ some (LamX.CodeO c q) := fun z => by
  unfold LamX.CodeO at z; cases z
theorem me_dct {keys : List (Option Expr)} {vals : List Expr} {ks : List Key} (hr : MDc X c W pos keys vals ks fs) (h0 : keys ≠ []) (h15 : ks.length ≤ 15) : PE X (.Dict keys vals pos) (tE c W fun s h => (fs s h).bind fun xs h1 => dctE ks xs h1) := by
  obtain ⟨trs, h1, ⟨k1, k2, k3⟩, h2⟩ := hr.to
  refine (pe_disp h1 k1 k2 h0 (by omega)).imp fun σ H Q ⟨z, h, s, at_, p⟩ q hq => ?_
  obtain rfl := at_.H
  have p : Post z ((fs s h).bind fun xs h1 => dctE ks xs h1) (QE Q) (fun k d H' => W k d σ H') := p
  have mo := at_.md.opn (o := .dK []) hq
  refine h2 σ _ _ ⟨z.opn q (.dK []), h, s, ⟨at_.K, at_.ad, rfl, mo, at_.sl.mono0 ?_, at_.lam, at_.cod, fun g h => (at_.gnd g h).trans (opn_ext0 at_.md hq), at_.tab⟩, ?_⟩
  · exact opn_ext0 at_.md hq
  · cases r : fs s h with
    | bad => rw [r] at p; exact p
    | exc g ns vs hx =>
      rw [r] at p
      intro z1 d fs e m1 hd fd hn rl
      obtain ⟨e2, m2⟩ := opn_shut at_.md hq e m1
      have e0 : Ext0 z1 { z1 with res := z.res } := ⟨rfl, rfl, Nat.le_refl _, fun _ _ => rfl, fun b u q f => ⟨q, f.al, fun hb => f.res ((opn_sub e).2 b hb), f.tab⟩, fun _ h => h⟩
      exact p { z1 with res := z.res } d fs e2 m2 hd ⟨fd.al, fun hb => fd.res ((opn_sub e).2 d hb), fd.tab⟩ hn (rl.mono0 e0)
    | ok xs hx =>
      rw [r] at p
      have p1 : Post z (dctE ks xs hx) (QE Q) (fun k d H' => W k d σ H') := p
      intro z1 e m1 ys r1 hl
      obtain ⟨s1, s2⟩ := opn_sub e
      have hz : z1.H q = some (.dK []) := (e.rs q List.mem_cons_self).trans upd_same
      refine ⟨hz, ks.zip ys, zip_keys hl, by rw [List.length_zip]; omega, ?_⟩
      unfold dctE at p1
      split at p1
      · obtain ⟨z1a, z1b⟩ := zip_fst hl
        have e2 := opn_ext (o2 := .dK (mergeK [] (ks.zip ys))) at_.md hq e
        have e3 := cls_ext0 (z := z) (p := q) (o2 := .dK (mergeK [] (ks.zip ys))) m1 s1 s2
        have ob : ObR (z1.cls q (.dK (mergeK [] (ks.zip ys))) z.res) q (.dic (putAllD ks xs ([], [])).1 (putAllD ks xs ([], [])).2) := by
          obtain ⟨i1, i2⟩ := putAll_ok (z := z1.cls q (.dK (mergeK [] (ks.zip ys))) z.res) (more := ks.zip ys) (ms := xs) (kvs := []) (ks := []) (vs := []) (by rw [z1b]; exact r1.mono0 e3) rfl rfl
          rw [z1a] at i1 i2
          exact ⟨_, upd_same, i1, i2⟩
        have m2 := cls_md at_.md hq e m1 ob fun c q => by rw [hz]; exact dk_ncode
        refine p1 _ e2 m2 (.ref q) ⟨?_, ?_⟩
        · show hx.length < z1.n + 1
          rw [m1.n]; exact Nat.lt_succ_self _
        · show V.ref q = V.ref (if hx.length = z1.n then q else z1.al hx.length)
          rw [if_pos m1.n.symm]
      · exact p1.elim
end
end Mini
end
section
set_option Elab.async false
set_option linter.all false
set_option maxRecDepth 100000
set_option maxHeartbeats 2000000
/-! Mini, part 13: enumerate over a tuple. -/
namespace Mini
open PySem PySem.Spec PyProof.Rows L2
open AutoSeq1 (wpAny_loadPart')
theorem newE_tup (b : Addr) (us : Array Value) (k : Nat) (dc : Option Addr) (so : Array (Option Value)) :
    Meets (Builtin.«enumerate.__new__» ⟨[.type "enumerate", .ref b], []⟩) (fun _ R s => s.heap.get? b = some { cls := .type "tuple", dict := dc, data := .seq us k, slots := so } ∧
      R (.ok (.ret (.ref (s.heap.push { cls := .type "tuple_iterator", data := .fields #[.ref b, .int 0 0] }).objs.size)))
        { s with heap := (s.heap.push { cls := .type "tuple_iterator", data := .fields #[.ref b, .int 0 0] }).push { cls := .type "enumerate", data := .fields #[.none, .bool false, .ref s.heap.objs.size, rawInt 0, .none, .none] } }) :=
  .of_wp fun pg wd A R s hyp => by
    obtain ⟨h0, gg, dd, tt, oo⟩ := s; obtain ⟨hb, hyp⟩ := hyp
    have subE := sub_enumerate
    have tupE : Heap.IsTuple (Shared.heap ⟨h0, gg, dd, tt, oo⟩) b us := ⟨_, hb, rfl, k, rfl⟩
    wp_walk using wpAny_loadPart' hb
    refine wpAny_stack_any fun ss => wpAny_pure ?_
    split
    · rename_i cc _ _ _ _ _
      cases (cc == Value.type "enumerate")
      · wp_walk using wpAny_loadPart' hb, wpAny_pyIter_tuple tupE
        exact ⟨_, rfl, hyp⟩
      · wp_walk using wpAny_loadPart' hb, wpAny_pyIter_tuple tupE
        exact ⟨_, rfl, hyp⟩
    · wp_walk using wpAny_loadPart' hb, wpAny_pyIter_tuple tupE
      exact ⟨_, rfl, hyp⟩
section
variable {prog : Program} {w : World} {A : Around} {E : Value → Shared → Prop} {s : Shared}
theorem callE_tup {b : Addr} {us : Array Value} {Q : Value → Shared → Prop} (ht : s.heap.IsTuple b us)
    (h : ∀ h', IsEnum h' (s.heap.objs.size + 1) s.heap.objs.size 0 .none → h'.IsTupleIter s.heap.objs.size b 0 → (∀ c o, s.heap.get? c = some o → h'.get? c = some o) → Q (.ref (s.heap.objs.size + 1)) { s with heap := h' }) :
    wpAny (model prog w) A (call (.type "enumerate") [.ref b]) Q E s := by
  obtain ⟨⟨cc, dc, dt, so⟩, hb, hcc, k, hdt⟩ := ht
  have hcc : cc = .type "tuple" := hcc
  have hdt : dt = .seq us k := hdt
  subst hcc hdt
  refine callType_new F.called_enumerate (by decide) (F.typeCall_enumerate_1 _) (F.newCall_enumerate_1 _) (fun ob => F.args_object_init_2 ob _) F.entry_enumerate_new (newE_tup b us k dc so) ⟨hb, ?_⟩
  have e1 : (s.heap.push { cls := .type "tuple_iterator", data := .fields #[.ref b, .int 0 0] }).objs.size = s.heap.objs.size + 1 := Heap.size_push ..
  show _ ∧ _
  rw [e1]
  have e2 : IsEnum ((s.heap.push { cls := .type "tuple_iterator", data := .fields #[.ref b, .int 0 0] }).push { cls := .type "enumerate", data := .fields #[.none, .bool false, .ref s.heap.objs.size, rawInt 0, .none, .none] }) (s.heap.objs.size + 1) s.heap.objs.size 0 .none := by
    have := Heap.get?_push_size (s.heap.push { cls := .type "tuple_iterator", data := .fields #[.ref b, .int 0 0] }) (o := { cls := .type "enumerate", data := .fields #[.none, .bool false, .ref s.heap.objs.size, rawInt 0, .none, .none] }) rfl
    rw [e1] at this; exact this
  exact ⟨⟨_, e2, rfl⟩, h _ e2 ⟨_, Heap.get?_push_of_some _ (Heap.get?_push_size _ rfl), rfl, rfl⟩ fun c o q => Heap.get?_push_of_some _ (Heap.get?_push_of_some _ q)⟩
end
/-- the tuple at a, each item in a new pair -/
def ItE (K : PySem.W.Frag) (a : Addr) : L2.It :=
  ⟨fun i H => ∃ (xs : List V) (x : V), SqT K H a xs ∧ xs[i]? = some x, fun i H v H' => ∃ T x, v = .ref T ∧ H T = none ∧ H' = upd H T (.tup [.int (i : Nat), x]) ∧ ∀ xs, SqT K H a xs → xs[i]? = some x, fun i H => ∃ xs : List V, SqT K H a xs ∧ xs.length ≤ i⟩
theorem turnE {P : Program} {w : World} {K : PySem.W.Frag} {elts : List Expr} {kk : Nat} {tpos : Pos} (a e it : Addr) :
    Turn P w K (.Tuple elts kk tpos) (ItE K a) [e, it] e (fun i h => (∃ old, IsEnum h e it ((i : Nat) : Int) old) ∧ h.IsTupleIter it a i ∧ e ≠ it ∧ a ≠ it ∧ a ≠ e) where
  mem := by simp
  obj := fun i h ⟨⟨old, he⟩, ⟨oi, hoi, hci, hdi⟩, _⟩ b hb => by
    rcases (show b = e ∨ b = it by simpa using hb) with q | q
    · exact ⟨_, by rw [q]; exact he, fun v r => by cases r⟩
    · exact ⟨oi, by rw [q]; exact hoi, fun v r => by rw [hdi] at r; cases r⟩
  keep := fun i h h' ⟨⟨old, he⟩, hi, hn⟩ kp => ⟨⟨old, kp e (by simp) _ he⟩, hi.at fun o q => kp it (by simp) o q, hn⟩
  item := by
    intro X eP eW eK cm i pins s σ H E I hf ⟨⟨old, he⟩, hi, n1, n2, n3⟩ ⟨xs, x, sq, hx⟩
    subst eP eW eK
    obtain ⟨us, rv, tp, hz⟩ := I.tuple sq
    obtain ⟨u, hu, ru⟩ := rv.get hx
    have le : e < s.heap.objs.size := Heap.lt_size he
    have li : it < s.heap.objs.size := by obtain ⟨_, q, _⟩ := hi; exact Heap.lt_size q
    have lt : i < us.toArray.size := by
      have := (List.getElem?_eq_some_iff.mp hu).1
      simpa using this
    have D := Draws.tuple (prog := X.prog) (w := X.w) (A := X.A.in1) (show X.A.in1.handled = none from I.ok.hd cm) it a n2 us.toArray
    refine wpAny_pyNext_enum_itemD D he ⟨hi, tp⟩ lt n1 (by simp [n1, Ne.symm n3]) fun v h' tk hv ho hst hT hsz hk => ?_
    have hv : us[i]? = some v := by simpa using hv
    rw [hu] at hv
    cases hv
    refine ⟨_, rfl, wpAny_letOwnedTupleGo_enum (s := { s with heap := h', toks := tk + 1 }) ho fun h2 he2 sb => ?_⟩
    have hT2 : h2.get? s.heap.objs.size = some { cls := .type "tuple", data := .seq #[.int i tk, u] } := (sb.2 _ (Nat.ne_of_gt le)).trans hT
    have nw : ObjOk X.prog X.w (upd H s.heap.objs.size (.tup [.int (i : Nat), x])) h2 s.heap.objs.size (.tup [.int (i : Nat), x]) := ⟨by show 2 ≤ sizeLine; decide, [.int i tk, u], .cons ⟨_, rfl⟩ (.cons ru .nil), ⟨_, hT2, rfl, _, rfl⟩⟩
    have J : Inv X pins σ (upd H s.heap.objs.size (.tup [.int (i : Nat), x])) { s with heap := h2, toks := tk + 1 } :=
      I.turnedNew (ch := [e, it]) (fun b ob hb q => (sb.2 b (fun z => hb (by simp [z]))).trans (hk b ob (fun z => hb (by simp [z])) (fun z => hb (by simp [z])) q)) hf (Nat.le_refl _) nw
    refine ⟨.ref s.heap.objs.size, _, J, rfl, ⟨_, x, rfl, I.hok.fresh (Nat.le_refl _), rfl, fun ys hy => by rw [I.tuple_inj hy sq]; exact hx⟩, ⟨⟨u, ?_⟩, hst.1.at fun o q => (sb.2 it (Ne.symm n1)).trans q, n1, n2, n3⟩, fun b hb => ?_⟩
    · have : ((i + 1 : Nat) : Int) = (i : Int) + 1 := by omega
      rw [this]; exact he2
    · have lb : b < s.heap.objs.size := by
        rcases (show b = e ∨ b = it by simpa using hb) with q | q
        · rw [q]; exact le
        · rw [q]; exact li
      rw [upd_ne (Nat.ne_of_lt lb)]
      exact (hf b hb).1
  done := by
    intro X eP eW eK cm i pins s σ H E I hf ⟨⟨old, he⟩, hi, n1, n2, n3⟩ ⟨xs, sq, hx⟩
    subst eP eW eK
    obtain ⟨us, rv, tp, hz⟩ := I.tuple sq
    obtain ⟨f0, f1, f2, f3, f4, f5⟩ := hf it (by simp)
    have ln := rv.length
    have D : Draws X.prog X.w X.A.in1 it [it, a] 0 (fun _ _ => False) (fun _ h => h.IsTupleIter it a i ∧ h.IsTuple a us.toArray) :=
      { live := fun _ _ st => let ⟨o, ho, _⟩ := st.1; ⟨o, ho⟩
        frame := fun _ _ _ st kp => ⟨st.1.at fun o q => kp it (by simp) o q, st.2.at fun o q => kp a (by simp) o q⟩
        item := fun j s Q E hj => absurd hj (Nat.not_lt_zero j)
        done := fun s Q E st hE => wpAny_nextOf_tuple_end (show X.A.in1.handled = none from I.ok.hd cm) st.1 st.2 (by simp; omega) hE }
    exact wpAny_pyNext_enum_endD D he ⟨hi, tp⟩ fun h' eb => ⟨rfl, I.turned (t' := s.toks) (fun b o hb q => eb b o hb q) f0 f1 f3 f4 f5⟩
  self := fun A i s Q E ⟨⟨_, he⟩, _⟩ h => wpAny_pyIter_enum he h
def iEnT (K : PySem.W.Frag) (ta : TA) : TI := fun σ H R => ta σ H fun vs H1 => ∃ a xs, vs = [.ref a] ∧ SqT K H1 a xs ∧ R (ItE K a) H1
theorem bootE : bootBuiltins "enumerate" = some (.type "enumerate") := by decide +kernel
theorem piE {X : Cx} {e : Expr} {ta : TA} {p pos tpos : Pos} {elts : List Expr} {kk : Nat} (hg : Gl X "enumerate") (hm : X.mg "enumerate" = none) (ha : PA X [e] ta) (hs : starEach [e] X.env = [(false, eval e X.env)]) :
    PI X (.Tuple elts kk tpos) (.Call (.Name "enumerate" p) [e] [] pos) (iEnT X.K ta) := by
  refine ⟨fun pins s σ H R I hw => ?_⟩
  refine Call_ (ld_blt I hg hm bootE (PyProof.Rows.callWith_type1 (thn (ha.run pos pins s σ H _ I hw) fun vs s1 ⟨ws, H1, I1, r1, a, xs, ew, sq, q⟩ => ?_) hs rfl))
  subst ew
  obtain ⟨u, rfl, ru⟩ := vals1 r1
  cases ru
  obtain ⟨us, rv, tp, hz⟩ := I1.tuple sq
  have la : a < s1.heap.objs.size := tp.lt
  refine callE_tup tp fun h' he hit kp => wpAny_pyIter_enum he ?_
  have J : Inv X pins σ H1 { s1 with heap := h' } := I1.kept (t' := s1.toks) kp
  refine ⟨s1.heap.objs.size + 1, [s1.heap.objs.size + 1, s1.heap.objs.size], _, _, H1, rfl, J, turnE a (s1.heap.objs.size + 1) s1.heap.objs.size, ⟨⟨.none, he⟩, hit, Nat.succ_ne_self _, Nat.ne_of_lt la, Nat.ne_of_lt (Nat.lt_succ_of_lt la)⟩, fun b hb => ?_, q⟩
  have lb : s1.heap.objs.size ≤ b := by
    rcases (show b = s1.heap.objs.size + 1 ∨ b = s1.heap.objs.size by simpa using hb) with e | e
    · rw [e]; exact Nat.le_succ _
    · rw [e]; exact Nat.le_refl _
  exact I1.fpOk lb (I1.hok.fresh lb)
end Mini
end
section
set_option Elab.async false
set_option linter.all false
set_option maxRecDepth 100000
set_option maxHeartbeats 2000000
/-! Mini, part 14: walks, targets. -/
namespace Mini
open PySem PySem.Spec PyProof.Rows L2
/-! ### what is walked -/
def nextOf (s : Src) (h : VH) (i : Nat) : Option (Option VV) := match s with
  | .imm xs => some xs[i]?
  | .cell k cnt => (cellAt h k).map fun xs => xs[i]?.map (itemOf cnt i)
/-- J serves s from z on -/
def SrvJ (z : Rz) (s : Src) (J : L2.It) : Prop := ∀ i z2 h2, Ext0 z z2 → Md z2 h2 →
  (∀ v, nextOf s h2 i = some (some v) → J.go i z2.H ∧ ∀ x H', J.yld i z2.H x H' → ∃ z3, Ext z2 z3 ∧ Md z3 h2 ∧ z3.H = H' ∧ Rel z3 v x) ∧ (nextOf s h2 i = some none → J.stop i z2.H)
theorem relL_get? {z : Rz} : ∀ {xs : List VV} {ys : List V} {i : Nat}, RelL z xs ys → xs[i]? = none → ys.length ≤ i := fun r e => by
  rw [← r.length]; exact List.getElem?_eq_none_iff.mp e
section
variable {z : Rz} {h : VH} {x : VV} {x' : V} {xs : List VV} {ys : List V} {a : Addr}
/-- a list that doesn't change -/
theorem srv_lst (hs : LstR z a ys) (r : RelL z xs ys) : SrvJ z (.imm xs) (Itl z.K a) := fun i z2 h2 e m => by
  have l2 := (hs.mono e).sq
  rw [e.K] at l2
  have r2 := r.mono0 e
  refine ⟨fun v hv => ?_, fun hv => ?_⟩
  · have hv : xs[i]? = some v := Option.some.inj hv
    obtain ⟨w, e1, r1⟩ := r2.get hv
    refine ⟨⟨ys, w, l2, e1⟩, fun x H' ⟨eH, hy⟩ => ⟨z2, Ext.refl z2, m, eH.symm, ?_⟩⟩
    have := hy ys l2
    rw [e1] at this
    cases this
    exact r1
  · exact ⟨ys, l2, relL_get? r2 (Option.some.inj hv)⟩
theorem srv_tup (hs : TupR z a ys) (r : RelL z xs ys) : SrvJ z (.imm xs) (Itt z.K a) := fun i z2 h2 e m => by
  have l2 := (hs.mono e).sq
  rw [e.K] at l2
  have r2 := r.mono0 e
  refine ⟨fun v hv => ?_, fun hv => ?_⟩
  · have hv : xs[i]? = some v := Option.some.inj hv
    obtain ⟨w, e1, r1⟩ := r2.get hv
    refine ⟨⟨ys, w, l2, e1⟩, fun x H' ⟨eH, hy⟩ => ⟨z2, Ext.refl z2, m, eH.symm, ?_⟩⟩
    have := hy ys l2
    rw [e1] at this
    cases this
    exact r1
  · exact ⟨ys, l2, relL_get? r2 (Option.some.inj hv)⟩
theorem cell_at {k : Nat} {us : List VV} (m : Md z h) (e : cellAt h k = some us) : ∃ ws, z.H (z.al k) = some (.lst ws) ∧ RelL z us ws := by
  unfold cellAt at e
  split at e
  · rename_i us' q
    cases e
    exact m.ob k _ q
  · cases e
theorem srv_cell {k : Nat} (hk : k < z.n) : SrvJ z (.cell k false) (Itl z.K (z.al k)) := fun i z2 h2 e m => by
  have ea := e.al k hk
  refine ⟨fun v hv => ?_, fun hv => ?_⟩
  · obtain ⟨us, q1, q2⟩ := map_some' (show (cellAt h2 k).map (fun xs => xs[i]?.map (itemOf false i)) = some (some v) from hv)
    obtain ⟨w0, q3, q4⟩ := map_some' q2.symm
    have q4 : v = w0 := q4
    subst q4
    obtain ⟨ws, h1, r1⟩ := cell_at m q1
    obtain ⟨w, e1, r2⟩ := r1.get q3
    rw [ea] at h1
    refine ⟨⟨ws, w, SqL.of h1, e1⟩, fun x H' ⟨eH, hy⟩ => ⟨z2, Ext.refl z2, m, eH.symm, ?_⟩⟩
    have := hy ws (SqL.of h1)
    rw [e1] at this
    cases this
    exact r2
  · obtain ⟨us, q1, q2⟩ := map_some' (show (cellAt h2 k).map (fun xs => xs[i]?.map (itemOf false i)) = some none from hv)
    obtain ⟨ws, h1, r1⟩ := cell_at m q1
    rw [ea] at h1
    refine ⟨ws, SqL.of h1, relL_get? r1 ?_⟩
    cases q : us[i]? with
    | none => rfl
    | some u => rw [q] at q2; cases q2
theorem pair_new {z2 : Rz} {h2 : VH} {i : Nat} {w : V} {u : VV} {T : Addr} (m : Md z2 h2) (r : Rel z2 u w) (hT : z2.H T = none) : ∃ z3, Ext z2 z3 ∧ Md z3 h2 ∧ z3.H = upd z2.H T (.tup [.int (i : Nat), w]) ∧ Rel z3 (.tup [.int (i : Nat), u]) (.ref T) :=
  ⟨z2.put T (.tup [.int (i : Nat), w]), Ext.put hT m.rs, m.put hT, rfl, T, [.int (i : Nat), w], rfl, .inl ⟨.inl upd_same, (m.fre hT).put⟩, ⟨_, _, rfl, rfl, _, _, rfl, r.mono (Ext.put hT m.rs), rfl⟩⟩
theorem srv_cellE {k : Nat} (hk : k < z.n) : SrvJ z (.cell k true) (Ite z.K (z.al k)) := fun i z2 h2 e m => by
  have ea := e.al k hk
  refine ⟨fun v hv => ?_, fun hv => ?_⟩
  · obtain ⟨us, q1, q2⟩ := map_some' (show (cellAt h2 k).map (fun xs => xs[i]?.map (itemOf true i)) = some (some v) from hv)
    obtain ⟨w0, q3, q4⟩ := map_some' q2.symm
    have q4 : v = .tup [.int (i : Nat), w0] := q4
    subst q4
    obtain ⟨ws, h1, r1⟩ := cell_at m q1
    obtain ⟨w, e1, r2⟩ := r1.get q3
    rw [ea] at h1
    refine ⟨⟨ws, w, SqL.of h1, e1⟩, fun x H' ⟨T, y, ex, hT, eH, hy⟩ => ?_⟩
    have := hy ws (SqL.of h1)
    rw [e1] at this
    cases this
    subst ex eH
    exact pair_new m r2 hT
  · obtain ⟨us, q1, q2⟩ := map_some' (show (cellAt h2 k).map (fun xs => xs[i]?.map (itemOf true i)) = some none from hv)
    obtain ⟨ws, h1, r1⟩ := cell_at m q1
    rw [ea] at h1
    refine ⟨ws, SqL.of h1, relL_get? r1 ?_⟩
    cases q : us[i]? with
    | none => rfl
    | some u => rw [q] at q2; cases q2
theorem count_at : ∀ (us : List VV) (j i : Nat), (countL j us)[i]? = us[i]?.map fun u => .tup [.int ((j + i : Nat) : Int), u]
  | [], _, _ => by simp [countL]
  | u :: us, j, 0 => by simp [countL]
  | u :: us, j, i + 1 => by
    have e : j + 1 + i = j + (i + 1) := by omega
    simp only [countL, List.getElem?_cons_succ, count_at us (j + 1) i, e]
theorem srv_lstE (hs : LstR z a ys) (r : RelL z xs ys) : SrvJ z (.imm (countL 0 xs)) (Ite z.K a) := fun i z2 h2 e m => by
  have l2 := (hs.mono e).sq
  rw [e.K] at l2
  have r2 := r.mono0 e
  refine ⟨fun v hv => ?_, fun hv => ?_⟩
  · have hv : (countL 0 xs)[i]? = some v := Option.some.inj hv
    rw [count_at] at hv
    obtain ⟨u, q1, rfl⟩ := map_some' hv
    rw [Nat.zero_add]
    obtain ⟨w, e1, r1⟩ := r2.get q1
    refine ⟨⟨ys, w, l2, e1⟩, fun x H' ⟨T, y, ex, hT, eH, hy⟩ => ?_⟩
    have := hy ys l2
    rw [e1] at this
    cases this
    subst ex eH
    exact pair_new m r1 hT
  · have hv : (countL 0 xs)[i]? = none := Option.some.inj hv
    rw [count_at] at hv
    refine ⟨ys, l2, relL_get? r2 ?_⟩
    cases q : xs[i]? with
    | none => rfl
    | some u => rw [q] at hv; cases hv
theorem srv_tupE (hs : TupR z a ys) (r : RelL z xs ys) : SrvJ z (.imm (countL 0 xs)) (ItE z.K a) := fun i z2 h2 e m => by
  have l2 := (hs.mono e).sq
  rw [e.K] at l2
  have r2 := r.mono0 e
  refine ⟨fun v hv => ?_, fun hv => ?_⟩
  · have hv : (countL 0 xs)[i]? = some v := Option.some.inj hv
    rw [count_at] at hv
    obtain ⟨u, q1, rfl⟩ := map_some' hv
    rw [Nat.zero_add]
    obtain ⟨w, e1, r1⟩ := r2.get q1
    refine ⟨⟨ys, w, l2, e1⟩, fun x H' ⟨T, y, ex, hT, eH, hy⟩ => ?_⟩
    have := hy ys l2
    rw [e1] at this
    cases this
    subst ex eH
    exact pair_new m r1 hT
  · have hv : (countL 0 xs)[i]? = none := Option.some.inj hv
    rw [count_at] at hv
    refine ⟨ys, l2, relL_get? r2 ?_⟩
    cases q : xs[i]? with
    | none => rfl
    | some u => rw [q] at hv; cases hv
theorem srv_str (t : Str) : SrvJ z (.imm (strL t)) (Its t) := fun i z2 h2 e m => by
  have key : (strL t)[i]? = t.cps[i]?.map fun c => VV.str ⟨#[c]⟩ := by
    unfold strL
    rw [List.getElem?_map, Array.getElem?_toList]
  refine ⟨fun v hv => ?_, fun hv => ?_⟩
  · have hv : (strL t)[i]? = some v := Option.some.inj hv
    rw [key] at hv
    obtain ⟨c, q1, rfl⟩ := map_some' hv
    refine ⟨(Array.getElem?_eq_some_iff.mp q1).1, fun x H' ⟨eH, c', q2, ex⟩ => ⟨z2, Ext.refl z2, m, eH.symm, ?_⟩⟩
    rw [q1] at q2
    cases q2
    exact ex
  · have hv : (strL t)[i]? = none := Option.some.inj hv
    rw [key] at hv
    show t.cps.size ≤ i
    cases q : t.cps[i]? with
    | none => exact Array.getElem?_eq_none_iff.mp q
    | some c => rw [q] at hv; cases hv
theorem srv_rng (lo hi : Int) : SrvJ z (.imm (rangeL lo hi)) (Itr lo (hi - lo).toNat) := fun i z2 h2 e m => by
  have key : (rangeL lo hi)[i]? = if i < (hi - lo).toNat then some (VV.int (lo + (i : Int))) else none := by
    unfold rangeL
    rw [List.getElem?_map]
    by_cases q : i < (hi - lo).toNat
    · rw [if_pos q, List.getElem?_range q]; rfl
    · rw [if_neg q, List.getElem?_eq_none (by simpa using q)]; rfl
  refine ⟨fun v hv => ?_, fun hv => ?_⟩
  · have hv : (rangeL lo hi)[i]? = some v := Option.some.inj hv
    rw [key] at hv
    split at hv
    · rename_i q
      cases hv
      exact ⟨q, fun x H' ⟨eH, ex⟩ => ⟨z2, Ext.refl z2, m, eH.symm, ex⟩⟩
    · cases hv
  · have hv : (rangeL lo hi)[i]? = none := Option.some.inj hv
    rw [key] at hv
    split at hv
    · cases hv
    · rename_i q
      exact Nat.le_of_not_lt q
end
/-- an iterable: its kind, what it is made of -/
structure MI (X : Cx) (c : Cfg) (W : WX) (tg iter : Expr) (k : It) (fs : Sl → VH → Rs (List VV)) : Prop where
  to : ∃ wi, PI X tg iter wi ∧ (∀ x, foldedSetIterable iter X.env x = pure x) ∧ ∀ σ H (R : L2.It → Hp → Prop), (∃ z h s, At c z H h s σ ∧ Post z (fs s h) (fun z' xs h' => ∃ q, srcS k xs h' = some q ∧ ∀ J, SrvJ z' q J → R J z'.H) fun cls d H' => W cls d σ H') → wi σ H R
theorem PI.or' {X : Cx} {tg e : Expr} {w1 w2 : TI} (a : PI X tg e w1) (b : PI X tg e w2) : PI X tg e fun σ H R => w1 σ H R ∨ w2 σ H R :=
  ⟨fun pins s σ H R I q => q.elim (a.run pins s σ H R I) (b.run pins s σ H R I)⟩
section
variable {X : Cx} {c : Cfg} {W : WX} {tg e a b : Expr} {fa fb : Sl → VH → Rs VV} {fs : Sl → VH → Rs (List VV)} {p pos tpos : Pos}
abbrev oneS (fa : Sl → VH → Rs VV) : Sl → VH → Rs (List VV) := fun s h => (fa s h).bind fun x h1 => (Rs.ok [] h1).bind fun xs h2 => .ok (x :: xs) h2
abbrev twoS (fa fb : Sl → VH → Rs VV) : Sl → VH → Rs (List VV) := fun s h => (fa s h).bind fun x h1 => (oneS fb s h1).bind fun xs h2 => .ok (x :: xs) h2
theorem mi_seq (hK : X.K = c.K) (hs : isSet e = false) (he : PE X e (tE c W fa)) : MI X c W tg e .seq (oneS fa) := by
  refine ⟨_, PI.or' (pi_str he) (PI.or' (pi_tup he) (pi_list he)), fun x => fold_ok hs, fun σ H R ⟨z, h, s, at_, p⟩ => ?_⟩
  have p : Post z ((fa s h).bind fun x h1 => Rs.ok [x] h1) (fun z' xs h' => ∃ q, srcS .seq xs h' = some q ∧ ∀ J, SrvJ z' q J → R J z'.H) (fun cls d H' => W cls d σ H') := p
  cases r : fa s h with
  | bad => rw [r] at p; exact p.elim
  | exc g ns vs h1 =>
    rw [r] at p
    exact .inl ⟨z, h, s, at_, by rw [r]; exact p⟩
  | ok x h1 =>
    rw [r] at p
    have p : ∀ z', Ext z z' → Md z' h1 → ∃ q, srcS .seq [x] h1 = some q ∧ ∀ J, SrvJ z' q J → R J z'.H := p
    have kk : ∀ z', Ext z z' → z'.K = X.K := fun z' e => e.K.trans (at_.K.trans hK.symm)
    cases x with
    | str t =>
      refine .inl ⟨z, h, s, at_, ?_⟩
      rw [r]
      intro z' e m x hx
      obtain ⟨q, e1, k⟩ := p z' e m
      cases hx; cases e1
      exact ⟨t, rfl, k _ (srv_str t)⟩
    | tup us =>
      refine .inr (.inl ⟨z, h, s, at_, ?_⟩)
      rw [r]
      intro z' e m x hx
      obtain ⟨q, e1, k⟩ := p z' e m
      obtain ⟨a, ys, rfl, t, r1⟩ := hx
      cases e1
      have kz := kk z' e
      rw [← kz]
      exact ⟨a, rfl, ⟨ys, t.sq⟩, k _ (srv_tup t r1)⟩
    | lst us =>
      refine .inr (.inr ⟨z, h, s, at_, ?_⟩)
      rw [r]
      intro z' e m x hx
      obtain ⟨q, e1, k⟩ := p z' e m
      obtain ⟨a, ys, rfl, t, r1⟩ := hx
      cases e1
      have kz := kk z' e
      rw [← kz]
      exact ⟨a, rfl, ⟨ys, t.sq⟩, k _ (srv_lst t r1)⟩
    | ref j =>
      refine .inr (.inr ⟨z, h, s, at_, ?_⟩)
      rw [r]
      intro z' e m x hx
      obtain ⟨q, e1, k⟩ := p z' e m
      obtain ⟨hj, rfl⟩ := hx
      have kz := kk z' e
      rw [← kz]
      simp only [srcS] at e1
      split at e1
      · rename_i us q2
        cases e1
        obtain ⟨ws, h1, r1⟩ := m.ob _ _ q2
        exact ⟨_, rfl, ⟨ws, SqL.of h1⟩, k _ (srv_cell hj)⟩
      · cases e1
    | _ =>
      refine .inl ⟨z, h, s, at_, ?_⟩
      rw [r]
      intro z' e m x hx
      obtain ⟨q, e1, k⟩ := p z' e m
      cases e1
theorem mi_rng1 (hg : Gl X "range") (hm : X.mg "range" = none) (hs : isStar a = false) (ha : PE X a (tE c W fa)) : MI X c W tg (.Call (.Name "range" p) [a] [] pos) .range1 (oneS fa) := by
  refine ⟨_, pi_range1 hg hm (pa_cons ha pa_nil (star_cons hs)) (star_cons hs), fun x => fold_ok rfl, fun σ H R ⟨z, h, s, at_, p⟩ => ⟨z, h, s, at_, (Post.bind p).mono (fun z1 x h1 e1 m1 p1 x' r1 => ?_) fun _ _ _ q => q⟩⟩
  obtain ⟨q, e2, k⟩ := p1 z1 (Ext.refl z1) m1
  cases x with
  | int n =>
    cases r1
    simp only [srcS] at e2
    split at e2
    · rename_i hc
      cases e2
      have := k _ (srv_rng 0 n)
      rw [Int.sub_zero] at this
      exact ⟨n, rfl, hc.1, hc.2, this⟩
    · cases e2
  | _ => cases e2
theorem mi_rng2 (hg : Gl X "range") (hm : X.mg "range" = none) (hs : isStar a = false) (hs2 : isStar b = false) (ha : PE X a (tE c W fa)) (hb : PE X b (tE c W fb)) : MI X c W tg (.Call (.Name "range" p) [a, b] [] pos) .range2 (twoS fa fb) := by
  refine ⟨_, pi_range2 hg hm (pa_cons ha (pa_cons hb pa_nil (star_cons hs2)) (star_cons hs)) (by rw [star_cons hs, star_cons hs2]; rfl) (star_cons hs2), fun x => fold_ok rfl, fun σ H R ⟨z, h, s, at_, p⟩ => ⟨z, h, s, at_, (Post.bind p).mono (fun z1 x h1 e1 m1 p1 x' r1 => ?_) fun _ _ _ q => q⟩⟩
  refine ⟨z1, h1, s, at_.next e1 m1, (Post.bind (Post.bind p1)).mono (fun z2 y h2 e2 m2 p2 y' r2 => ?_) fun _ _ _ q => q⟩
  have p3 : Post z2 (Rs.ok [x, y] h2) (fun z' xs h' => ∃ q, srcS .range2 xs h' = some q ∧ ∀ J, SrvJ z' q J → R J z'.H) (fun cls d H' => W cls d σ H') := p2 z2 (Ext.refl z2) m2
  obtain ⟨q, e3, k⟩ := p3 z2 (Ext.refl z2) m2
  cases x with
  | int lo =>
    cases y with
    | int hi =>
      cases r1; cases r2
      simp only [srcS] at e3
      split at e3
      · rename_i hc
        cases e3
        exact ⟨lo, hi, rfl, ⟨hc.2.2.1, hc.2.2.2, hc.1, hc.2.1⟩, k _ (srv_rng lo hi)⟩
      · cases e3
    | _ => cases e3
  | _ => cases e3
theorem mi_enum {elts : List Expr} {kk : Nat} (hK : X.K = c.K) (hg : Gl X "enumerate") (hm : X.mg "enumerate" = none) (hs : isStar a = false) (ha : PE X a (tE c W fa)) : MI X c W (.Tuple elts kk tpos) (.Call (.Name "enumerate" p) [a] [] pos) .enum (oneS fa) := by
  have pa := pa_cons ha pa_nil (star_cons hs)
  refine ⟨_, PI.or' (piE hg hm pa (star_cons hs)) (pi_enum hg hm pa (star_cons hs)), fun x => fold_ok rfl, fun σ H R ⟨z, h, s, at_, p⟩ => ?_⟩
  have p : Post z ((fa s h).bind fun x h1 => Rs.ok [x] h1) (fun z' xs h' => ∃ q, srcS .enum xs h' = some q ∧ ∀ J, SrvJ z' q J → R J z'.H) (fun cls d H' => W cls d σ H') := p
  cases r : fa s h with
  | bad => rw [r] at p; exact p.elim
  | exc g ns vs h1 =>
    rw [r] at p
    exact .inl ⟨z, h, s, at_, by rw [r]; exact p⟩
  | ok x h1 =>
    rw [r] at p
    have p : ∀ z', Ext z z' → Md z' h1 → ∃ q, srcS .enum [x] h1 = some q ∧ ∀ J, SrvJ z' q J → R J z'.H := p
    have kk : ∀ z', Ext z z' → z'.K = X.K := fun z' e => e.K.trans (at_.K.trans hK.symm)
    cases x with
    | tup us =>
      refine .inl ⟨z, h, s, at_, ?_⟩
      rw [r]
      intro z' e m x hx
      obtain ⟨q, e1, k⟩ := p z' e m
      obtain ⟨a, ys, rfl, t, r1⟩ := hx
      cases e1
      have kz := kk z' e
      rw [← kz]
      exact ⟨a, ys, rfl, t.sq, k _ (srv_tupE t r1)⟩
    | lst us =>
      refine .inr ⟨z, h, s, at_, ?_⟩
      rw [r]
      intro z' e m x hx
      obtain ⟨q, e1, k⟩ := p z' e m
      obtain ⟨a, ys, rfl, t, r1⟩ := hx
      cases e1
      have kz := kk z' e
      rw [← kz]
      exact ⟨a, ys, rfl, t.sq, k _ (srv_lstE t r1)⟩
    | ref j =>
      refine .inr ⟨z, h, s, at_, ?_⟩
      rw [r]
      intro z' e m x hx
      obtain ⟨q, e1, k⟩ := p z' e m
      obtain ⟨hj, rfl⟩ := hx
      have kz := kk z' e
      rw [← kz]
      simp only [srcS] at e1
      split at e1
      · rename_i us q2
        cases e1
        obtain ⟨ws, h1, r1⟩ := m.ob _ _ q2
        exact ⟨_, ws, rfl, SqL.of h1, k _ (srv_cellE hj)⟩
      · cases e1
    | _ =>
      refine .inl ⟨z, h, s, at_, ?_⟩
      rw [r]
      intro z' e m x hx
      obtain ⟨q, e1, k⟩ := p z' e m
      cases e1
end
end Mini
end
section
set_option Elab.async false
set_option linter.all false
set_option maxRecDepth 100000
set_option maxHeartbeats 2000000
/-! Mini, part 15: loops, comprehensions. -/
namespace Mini
open PySem PySem.Spec PyProof.Rows L2
/-! ### targets -/
def gOf (K : PySem.W.Frag) : Tg → TG
  | .one i => gName i
  | .two i j => gTup K 2 (gCons (gName i) (gCons (gName j) gNil))
def tgIn : Tg → List Nat → Prop
  | .one i, vs => i ∈ vs
  | .two i j, vs => i ∈ vs ∧ j ∈ vs
theorem wipe_out {σ : L2.St} {i : Nat} {o : Option V} : ∀ {vs : List Nat}, i ∉ vs → wipe (σ.set i o) vs = (wipe σ vs).set i o
  | [], _ => rfl
  | v :: vs, h => by
    rw [List.mem_cons, not_or] at h
    show (wipe (σ.set i o) vs).set v none = ((wipe σ vs).set v none).set i o
    rw [wipe_out h.2, List.set_comm _ _ h.1]
theorem wipe_in {σ : L2.St} {i : Nat} {o : Option V} : ∀ {vs : List Nat}, i ∈ vs → wipe (σ.set i o) vs = wipe σ vs
  | [], h => by cases h
  | v :: vs, h => by
    show (wipe (σ.set i o) vs).set v none = (wipe σ vs).set v none
    by_cases q : i ∈ vs
    · rw [wipe_in q]
    · rw [wipe_out q]
      have e : i = v := (List.mem_cons.mp h).resolve_right q
      rw [e, List.set_set]
theorem wipe_again {σ : L2.St} : ∀ {vs : List Nat}, wipe (wipe σ vs) vs = wipe σ vs
  | [] => rfl
  | v :: vs => by
    have e : wipe σ (v :: vs) = (wipe σ vs).set v none := rfl
    rw [e, wipe_in List.mem_cons_self]
    show (wipe (wipe σ vs) vs).set v none = _
    rw [wipe_again]
theorem gOf_ok {z : Rz} {K : PySem.W.Frag} {g : Tg} {s s' : Sl} {σ : L2.St} {v : VV} {x : V} {Q : L2.St → Hp → Prop} (hK : z.K = K) (hs : RelS z s σ) (r : Rel z v x) (e : tgS g v s = some s')
    (q : ∀ σ', RelS z s' σ' → (∀ vs, tgIn g vs → wipe σ' vs = wipe σ vs) → Q σ' z.H) : gOf K g x σ z.H Q := by
  cases g with
  | one i =>
    cases e
    exact q _ (hs.set r i) fun vs h => wipe_in h
  | two i j =>
    unfold tgS at e
    dsimp only at e
    split at e
    · rename_i a b
      cases e
      obtain ⟨T, ys, rfl, t, r1⟩ := r
      obtain ⟨u, w, rfl, r2, r3⟩ := relL_two r1
      refine ⟨T, [u, w], rfl, by rw [← hK]; exact t.sq, rfl, u, [w], rfl, w, [], rfl, rfl, ?_⟩
      refine q _ ((hs.set r2 i).set r3 j) fun vs h => ?_
      rw [wipe_in h.2, wipe_in h.1]
    · cases e
/-! ### loops -/
def forG (s : Src) (f : VV → Sl → VH → Rs Fl) : Nat → Nat → Sl → VH → Rs Fl
  | m, i, σ, h => match nextOf s h i with
    | none => .bad
    | some none => .ok (.nx σ) h
    | some (some v) => match m with
      | 0 => .bad
      | m + 1 => (f v σ h).bind fun r h' => match r with
        | .nx σ' => forG s f m (i + 1) σ' h'
        | .ct σ' => forG s f m (i + 1) σ' h'
        | .bk σ' => .ok (.nx σ') h'
        | .rt v => .ok (.rt v) h'
theorem forL_G {f : VV → Sl → VH → Rs Fl} {ys : List VV} : ∀ (xs : List VV) (i : Nat) (σ : Sl) (h : VH), ys.drop i = xs → forL f xs σ h = forG (.imm ys) f xs.length i σ h
  | [], i, σ, h, e => by
    have q : nextOf (.imm ys) h i = some none := by
      show some ys[i]? = some none
      rw [List.getElem?_eq_none (List.drop_eq_nil_iff.mp e)]
    unfold forL forG
    rw [q]
  | x :: xs, i, σ, h, e => by
    have q : nextOf (.imm ys) h i = some (some x) := by
      show some ys[i]? = some (some x)
      have := List.getElem?_drop (xs := ys) (i := i) (j := 0)
      rw [e] at this
      rw [Nat.add_zero] at this
      rw [← this]; rfl
    have e2 : ys.drop (i + 1) = xs := by rw [← List.drop_drop, e]; rfl
    unfold forL
    rw [List.length_cons]
    unfold forG
    rw [q]
    dsimp only
    congr 1
    funext r h'
    cases r with
    | nx σ' => exact forL_G xs (i + 1) σ' h' e2
    | ct σ' => exact forL_G xs (i + 1) σ' h' e2
    | bk σ' => rfl
    | rt v => rfl
theorem forC_G {f : VV → Sl → VH → Rs Fl} {k : Nat} {cnt : Bool} : ∀ (m i : Nat) (σ : Sl) (h : VH), forC f k cnt m i σ h = forG (.cell k cnt) f m i σ h
  | m, i, σ, h => by
    have q : nextOf (.cell k cnt) h i = (cellAt h k).map fun xs => xs[i]?.map (itemOf cnt i) := rfl
    unfold forC forG
    rw [q]
    cases e : cellAt h k with
    | none => rfl
    | some xs =>
      dsimp only [Option.map_some]
      cases e2 : xs[i]? with
      | none => rfl
      | some x =>
        dsimp only [Option.map_some]
        cases m with
        | zero => rfl
        | succ m =>
          dsimp only
          congr 1
          funext r h'
          cases r with
          | nx σ' => exact forC_G m (i + 1) σ' h'
          | ct σ' => exact forC_G m (i + 1) σ' h'
          | bk σ' => rfl
          | rt v => rfl
theorem forW_G {f : VV → Sl → VH → Rs Fl} {s : Src} {σ : Sl} {h : VH} : ∃ m, forW f s σ h = forG s f m 0 σ h := by
  cases s with
  | imm xs => exact ⟨xs.length, forL_G xs 0 σ h rfl⟩
  | cell k cnt => exact ⟨_, forC_G _ 0 σ h⟩
def forS (k : It) (g : Tg) (fs : Sl → VH → Rs (List VV)) (fb : Sl → VH → Rs Fl) : Sl → VH → Rs Fl := fun σ h => (fs σ h).bind fun xs h1 => match srcS k xs h1 with
  | none => .bad
  | some s => forW (fun x σ' h2 => match tgS g x σ' with
      | none => .bad
      | some σ2 => fb σ2 h2) s σ h1
section
variable {X : Cx} {c : Cfg} {W : WX} {tg iter elt : Expr} {ifs : List Expr} {body : List Stmt} {fs : Sl → VH → Rs (List VV)} {fb : Sl → VH → Rs Fl} {fe : Sl → VH → Rs VV} {ft : Sl → VH → Rs Bool} {pos : Pos} {k : It} {g : Tg}
theorem ms_for (hK : X.K = c.K) (hp : PassesOwn (model X.prog X.w) X.A X.env X.xe) (hc : X.calm = true) (hi : MI X c W tg iter k fs) (hg : PG X tg (gOf X.K g)) (hb : PSs X body (tS c W fb)) : PS X (.For tg iter body [] pos) (tS c W (forS k g fs fb)) := by
  obtain ⟨wi, pi, hs, ki⟩ := hi.to
  refine (ps_for hp hc pi hg hb hs).imp fun D σ H ⟨z, h, s, at_, p⟩ => ki σ H _ ⟨z, h, s, at_, (p.bind σ).mono (fun z1 xs h1 e1 m1 p1 => ?_) fun _ _ _ q => q⟩
  cases e2 : srcS k xs h1 with
  | none => rw [e2] at p1; exact p1.elim
  | some q =>
    rw [e2] at p1
    dsimp only at p1
    refine ⟨q, rfl, fun J sv => ?_⟩
    obtain ⟨m0, eG⟩ := forW_G (f := fun x σ' h2 => match tgS g x σ' with
      | none => .bad
      | some σ2 => fb σ2 h2) (s := q) (σ := s) (h := h1)
    rw [eG] at p1
    refine ⟨fun i m σ' H' => ∃ z2 h2 s2, At c z2 H' h2 s2 σ' ∧ Ext z1 z2 ∧ EndR c D W z2 (forG q (fun x σ' h2 => match tgS g x σ' with
      | none => .bad
      | some σ2 => fb σ2 h2) m i s2 h2), ⟨m0, z1, h1, s, at_.next e1 m1, Ext.refl z1, p1⟩, fun i m σ' H' ⟨z2, h2, s2, a2, e2', p2⟩ => ?_⟩
    obtain rfl := a2.H
    obtain ⟨sv1, sv2⟩ := sv i z2 h2 e2'.toExt0 a2.md
    cases e3 : nextOf q h2 i with
    | none =>
      unfold forG at p2
      rw [e3] at p2
      exact p2.elim
    | some o =>
      cases o with
      | none =>
        unfold forG at p2
        rw [e3] at p2
        exact .inl ⟨sv2 e3, p2 z2 σ' (Ext.refl z2) a2.md a2.sl⟩
      | some v =>
        cases m with
        | zero =>
          unfold forG at p2
          rw [e3] at p2
          exact p2.elim
        | succ m =>
          unfold forG at p2
          rw [e3] at p2
          dsimp only at p2
          obtain ⟨go, yl⟩ := sv1 v e3
          refine .inr ⟨go, fun σ4 H4 => ∃ z4 h4 s4, At c z4 H4 h4 s4 σ4 ∧ Ext z1 z4 ∧ EndR c D W z4 (forG q (fun x σ' h2 => match tgS g x σ' with
            | none => .bad
            | some σ2 => fb σ2 h2) m (i + 1) s4 h4), fun σ4 H4 n4 => ⟨m, Nat.lt_succ_self m, n4⟩, fun x H3 hy => ?_⟩
          obtain ⟨z3, e3', m3, rfl, r3⟩ := yl x H3 hy
          cases e4 : tgS g v s2 with
          | none => rw [e4] at p2; exact p2.elim
          | some s5 =>
            rw [e4] at p2
            dsimp only at p2
            have a3 := a2.next e3' m3
            refine gOf_ok (a3.K.trans hK.symm) a3.sl r3 e4 fun σ5 r5 _ => ⟨z3, h2, s5, ⟨a3.K, a3.ad, rfl, m3, r5, a3.lam, a3.cod, a3.gnd, a3.tab⟩, ?_⟩
            have p3 := p2.from e3'
            revert p3
            cases fb s5 h2 with
            | bad => exact fun p => p
            | exc _ _ _ _ => exact fun p => p
            | ok f h6 =>
              intro p3
              cases f with
              | nx s6 =>
                intro z6 σ6 e6 m6 r6
                exact ⟨z6, h6, s6, ⟨(e6.K).trans a3.K, e6.ad.trans a3.ad, rfl, m6, r6, e6.lamE.trans a3.lam, fun p h => e6.cod p (a3.cod p h), fun g h => (a3.gnd g h).trans e6.toExt0, a3.tab.of e6.tab⟩, e2'.trans (e3'.trans e6), EndR.from e6 p3⟩
              | ct s6 =>
                intro z6 σ6 e6 m6 r6
                exact ⟨z6, h6, s6, ⟨(e6.K).trans a3.K, e6.ad.trans a3.ad, rfl, m6, r6, e6.lamE.trans a3.lam, fun p h => e6.cod p (a3.cod p h), fun g h => (a3.gnd g h).trans e6.toExt0, a3.tab.of e6.tab⟩, e2'.trans (e3'.trans e6), EndR.from e6 p3⟩
              | bk s6 => exact p3
              | rt w => exact p3
end
end Mini
end
section
set_option Elab.async false
set_option linter.all false
set_option maxRecDepth 100000
set_option maxHeartbeats 2000000
/-! Mini, part 16: comprehensions. -/
namespace Mini
open PySem PySem.Spec PyProof.Rows L2
abbrev wNo : WX := fun _ _ _ _ => False
def lcG (s : Src) (f : VV → VH → Rs (Option VV)) : Nat → Nat → List VV → VH → Rs (List VV)
  | m, i, acc, h => match nextOf s h i with
    | none => .bad
    | some none => .ok acc h
    | some (some v) => match m with
      | 0 => .bad
      | m + 1 => if acc.length < 100000 then (f v h).bind fun o h' => lcG s f m (i + 1) (acc ++ o.toList) h' else .bad
theorem lcL_G {f : VV → VH → Rs (Option VV)} {ys : List VV} : ∀ (xs : List VV) (i : Nat) (acc : List VV) (h : VH), ys.drop i = xs → lcL f xs acc h = lcG (.imm ys) f xs.length i acc h
  | [], i, acc, h, e => by
    have q : nextOf (.imm ys) h i = some none := by
      show some ys[i]? = some none
      rw [List.getElem?_eq_none (List.drop_eq_nil_iff.mp e)]
    unfold lcL lcG
    rw [q]
  | x :: xs, i, acc, h, e => by
    have q : nextOf (.imm ys) h i = some (some x) := by
      show some ys[i]? = some (some x)
      have := List.getElem?_drop (xs := ys) (i := i) (j := 0)
      rw [e] at this
      rw [Nat.add_zero] at this
      rw [← this]; rfl
    have e2 : ys.drop (i + 1) = xs := by rw [← List.drop_drop, e]; rfl
    unfold lcL
    rw [List.length_cons]
    unfold lcG
    rw [q]
    dsimp only
    split
    · congr 1
      funext o h'
      exact lcL_G xs (i + 1) _ h' e2
    · rfl
theorem lcC_G {f : VV → VH → Rs (Option VV)} {k : Nat} {cnt : Bool} : ∀ (m i : Nat) (acc : List VV) (h : VH), lcC f k cnt m i acc h = lcG (.cell k cnt) f m i acc h
  | m, i, acc, h => by
    have q : nextOf (.cell k cnt) h i = (cellAt h k).map fun xs => xs[i]?.map (itemOf cnt i) := rfl
    unfold lcC lcG
    rw [q]
    cases e : cellAt h k with
    | none => rfl
    | some xs =>
      dsimp only [Option.map_some]
      cases e2 : xs[i]? with
      | none => rfl
      | some x =>
        dsimp only [Option.map_some]
        cases m with
        | zero => rfl
        | succ m =>
          dsimp only
          split
          · congr 1
            funext o h'
            exact lcC_G m (i + 1) _ h'
          · rfl
theorem lcW_G {f : VV → VH → Rs (Option VV)} {s : Src} {h : VH} : ∃ m, lcW f s h = lcG s f m 0 [] h := by
  cases s with
  | imm xs => exact ⟨xs.length, lcL_G xs 0 [] h rfl⟩
  | cell k cnt => exact ⟨_, lcC_G _ 0 [] h⟩
/-- a turn of a comprehension -/
def turnS (w : List Nat) (g : Tg) (ft : Sl → VH → Rs Bool) (fe : Sl → VH → Rs VV) (σ : Sl) : VV → VH → Rs (Option VV) := fun x h2 => Rs.calm (match tgS g x (wipeS σ w) with
  | none => .bad
  | some σ' => (ft σ' h2).bind fun c h3 => if c = true then (fe σ' h3).bind fun y h4 => .ok (some y) h4 else .ok none h3)
def lcS (w : List Nat) (k : It) (g : Tg) (fs : Sl → VH → Rs (List VV)) (ft : Sl → VH → Rs Bool) (fe : Sl → VH → Rs VV) : Sl → VH → Rs VV := fun σ h => (fs σ h).bind fun xs h1 => match srcS k xs h1 with
  | none => .bad
  | some s => (lcW (turnS w g ft fe σ) s h1).bind fun ys h5 => new (.lst ys) h5
theorem wipe_rel {z : Rz} {s : Sl} {σ : L2.St} (h : RelS z s σ) (w : List Nat) : RelS z (wipeS s w) (wipe σ w) := h.wipe w
/-- the thing under way is written anew -/
theorem opn_step {z z1 : Rz} {h : VH} {p : Addr} {xs ys : List V} (e : Ext (z.opn p (.lst xs)) z1) (m : Md z1 h) : Ext (z.opn p (.lst ys)) (z1.put p (.lst ys)) ∧ Md (z1.put p (.lst ys)) h ∧ Ext0 z1 (z1.put p (.lst ys)) := by
  obtain ⟨s1, s2⟩ := opn_sub e
  have hz : z1.H p = some (.lst xs) := (e.rs p List.mem_cons_self).trans upd_same
  have e0 : Ext0 z1 (z1.put p (.lst ys)) := ⟨rfl, rfl, Nat.le_refl _, fun _ _ => rfl, fun b u q f => ⟨(upd_ne fun w => f.res (by rw [w]; exact s1)).trans q, f.al, f.res, f.tab⟩, fun _ h => h⟩
  refine ⟨⟨⟨e.K, e.ad, e.n, e.al, fun b u q f => ?_, e.lam⟩, e.res, e.tab, fun b hb => ?_, e.cod, e.lamE⟩, ⟨m.n, m.inj, fun k u q => (m.ob k u q).mono0 e0 (upd_ne fun (w : z1.al k = p) => m.rl k (m.lt q) (by rw [w]; exact s1)), fun b hb => m.rs_new b hb, m.rl, tab_keep m.tb (fun b c q w => (upd_ne fun v => ?_).trans w) fun q hq => upd_ne fun v => (m.tl q hq).2 (by rw [v]; exact s1), m.tl, fun q hq => (upd_ne fun v => lst_ncode (hz.symm.trans (by rw [← v]; exact m.cd q hq))).trans (m.cd q hq)⟩, e0⟩
  · have hb : b ≠ p := fun w => f.res (by rw [w]; exact List.mem_cons_self)
    have q' : (z.opn p (.lst xs)).H b = some u := (upd_ne hb).trans ((upd_ne hb).symm.trans q)
    obtain ⟨q1, f1⟩ := e.H b u q' ⟨f.al, f.res, f.tab⟩
    exact ⟨(upd_ne hb).trans q1, f1.al, f1.res, f1.tab⟩
  · show upd z1.H p (.lst ys) b = upd z.H p (.lst ys) b
    by_cases w : b = p
    · rw [w, upd_same, upd_same]
    · rw [upd_ne w, upd_ne w, e.rs b hb]
      exact upd_ne w
  · rw [v, hz] at w
    exact lst_ncode w
theorem upd_self {H : Hp} {p : Addr} {o : HO} (e : H p = some o) : upd H p o = H := by
  funext b
  by_cases q : b = p
  · rw [q, upd_same, e]
  · rw [upd_ne q]
section
variable {X : Cx} {c : Cfg} {W : WX} {tg iter elt : Expr} {ifs : List Expr} {fs : Sl → VH → Rs (List VV)} {fe : Sl → VH → Rs VV} {ft : Sl → VH → Rs Bool} {pos : Pos} {k : It} {g : Tg} {w : List Nat}
theorem lc_rule (hK : X.K = c.K) {wi : TI} (ki : ∀ σ H (R : L2.It → Hp → Prop), (∃ z h s, At c z H h s σ ∧ Post z (fs s h) (fun z' xs h' => ∃ q, srcS k xs h' = some q ∧ ∀ J, SrvJ z' q J → R J z'.H) fun cls d H' => W cls d σ H') → wi σ H R)
    (hin : tgIn g w) {σ : L2.St} {H : Hp} {Q : VK} (p : tE c W (lcS w k g fs ft fe) σ H Q) : tLc wi (gOf X.K g) (tT c wNo ft) (tE c wNo fe) w σ H Q := by
  obtain ⟨z, h, s, at_, p⟩ := p
  refine ki σ H _ ⟨z, h, s, at_, (Post.bind p).mono (fun z1 xs h1 e1 m1 p1 => ?_) fun _ _ _ q => q⟩
  have a1 := at_.next e1 m1
  cases e2 : srcS k xs h1 with
  | none => rw [e2] at p1; exact p1.elim
  | some q =>
    rw [e2] at p1
    dsimp only at p1
    refine ⟨q, rfl, fun J sv D hD => ?_⟩
    obtain ⟨m0, eG⟩ := lcW_G (f := turnS w g ft fe s) (s := q) (h := h1)
    rw [eG] at p1
    refine ⟨fun i m H' => ∃ z2 h2 acc ws, z2.H = H' ∧ Ext (z1.opn D (.lst ws)) z2 ∧ Md z2 h2 ∧ RelL z2 acc ws ∧ Post z1 ((lcG q (turnS w g ft fe s) m i acc h2).bind fun ys h5 => new (.lst ys) h5) (QE Q) (fun k d H' => W k d σ H'),
      ⟨m0, z1.opn D (.lst []), h1, [], [], rfl, Ext.refl _, m1.opn hD, rfl, p1⟩, ?_⟩
    intro i m H' ⟨z2, h2, acc, ws, eH, e3, m2, ra, p2⟩
    subst eH
    obtain ⟨s1, s2⟩ := opn_sub e3
    have hz : z2.H D = some (.lst ws) := (e3.rs D List.mem_cons_self).trans upd_same
    have E02 : Ext0 z1 z2 := (opn_ext0 m1 hD).trans e3.toExt0
    obtain ⟨sv1, sv2⟩ := sv i z2 h2 E02 m2
    have aw : ∀ {z4 : Rz} {ws' : List V}, Ext (z1.opn D (.lst ws')) z4 → RelS z4 s σ := fun {z4 ws'} e => a1.sl.mono0 ((opn_ext0 m1 hD).trans e.toExt0)
    cases e4 : nextOf q h2 i with
    | none =>
      unfold lcG at p2
      rw [e4] at p2
      exact p2.elim
    | some o =>
      cases o with
      | none =>
        unfold lcG at p2
        rw [e4] at p2
        refine .inl ⟨sv2 e4, ?_⟩
        have p3 : Post z1 (new (.lst acc) h2) (QE Q) (fun k d H' => W k d σ H') := p2
        have E12 := opn_ext (o2 := .lst ws) m1 hD e3
        have e5 := cls_ext0 (z := z1) (p := D) (o2 := .lst ws) m2 s1 s2
        have m5 := cls_md (u := .lst acc) (o2 := .lst ws) m1 hD e3 m2 ⟨ws, upd_same, ra.mono0 e5⟩ fun c q => by rw [hz]; exact lst_ncode
        have q3 := p3 _ E12 m5 (.ref D) ⟨by show h2.length < z2.n + 1; rw [m2.n]; exact Nat.lt_succ_self _, by
          show V.ref D = V.ref (if h2.length = z2.n then D else z2.al h2.length)
          rw [if_pos m2.n.symm]⟩
        have eU : (z2.cls D (.lst ws) z1.res).H = z2.H := upd_self hz
        rw [eU] at q3
        exact q3
      | some v =>
        cases m with
        | zero =>
          unfold lcG at p2
          rw [e4] at p2
          exact p2.elim
        | succ m =>
          unfold lcG at p2
          rw [e4] at p2
          dsimp only at p2
          split at p2
          · rename_i hl
            obtain ⟨go, yl⟩ := sv1 v e4
            refine .inr ⟨go, fun H4 => ∃ z4 h4 acc' ws', z4.H = H4 ∧ Ext (z1.opn D (.lst ws')) z4 ∧ Md z4 h4 ∧ RelL z4 acc' ws' ∧ Post z1 ((lcG q (turnS w g ft fe s) m (i + 1) acc' h4).bind fun ys h5 => new (.lst ys) h5) (QE Q) (fun k d H' => W k d σ H'),
              fun H4 n4 => ⟨m, Nat.lt_succ_self m, n4⟩, fun x H3 hy => ?_⟩
            obtain ⟨z3, e3', m3, rfl, r3⟩ := yl x H3 hy
            have e13 := e3.trans e3'
            cases t5 : tgS g v (wipeS s w) with
            | none =>
              have q5 : turnS w g ft fe s v h2 = .bad := by unfold turnS; rw [t5]; rfl
              rw [q5] at p2
              exact p2.elim
            | some s5 =>
              have q5 : turnS w g ft fe s v h2 = Rs.calm ((ft s5 h2).bind fun c h3 => if c = true then (fe s5 h3).bind fun y h4 => .ok (some y) h4 else .ok none h3) := by unfold turnS; rw [t5]
              rw [q5] at p2
              have k3 : z3.K = X.K := (E02.trans e3'.toExt0).K.trans (a1.K.trans hK.symm)
              have k3' : z3.ad = c.ad := (E02.trans e3'.toExt0).ad.trans a1.ad
              refine gOf_ok k3 ((aw e13).wipe w) r3 t5 fun σ5 r5 wq => ⟨(wq w hin).trans wipe_again, z3, h2, s5, ⟨k3.trans hK, k3', rfl, m3, r5, e13.lamE.trans a1.lam, fun p h => e13.cod p (a1.cod p h), fun g h => (a1.gnd g h).trans (E02.trans e3'.toExt0), a1.tab.of e13.tab⟩, ?_⟩
              cases f6 : ft s5 h2 with
              | bad => rw [f6] at p2; exact p2.elim
              | exc _ _ _ _ => rw [f6] at p2; exact p2.elim
              | ok b h6 =>
                rw [f6] at p2
                intro z6 e6 m6
                have e16 := e13.trans e6
                have k6 : z6.K = c.K := e6.K.trans (k3.trans hK)
                have d6 : z6.ad = c.ad := e6.ad.trans k3'
                have z6l : RelL z6 acc ws := (ra.mono e3').mono e6
                cases b with
                | false =>
                  dsimp only
                  rw [if_neg Bool.false_ne_true]
                  have p6 : Post z1 ((lcG q (turnS w g ft fe s) m (i + 1) (acc ++ []) h6).bind fun ys h5 => new (.lst ys) h5) (QE Q) (fun k d H' => W k d σ H') := p2
                  rw [List.append_nil] at p6
                  exact ⟨z6, h6, acc, ws, rfl, e16, m6, z6l, p6⟩
                | true =>
                  dsimp only
                  rw [if_pos rfl]
                  refine ⟨z6, h6, s5, ⟨k6, d6, rfl, m6, r5.mono e6, e16.lamE.trans a1.lam, fun p h => e16.cod p (a1.cod p h), fun g h => (a1.gnd g h).trans ((E02.trans e3'.toExt0).trans e6.toExt0), a1.tab.of e16.tab⟩, ?_⟩
                  cases f7 : fe s5 h6 with
                  | bad =>
                    have p7 : Post z1 (((Rs.calm ((fe s5 h6).bind fun y h4 => .ok (some y) h4)).bind fun o h' => lcG q (turnS w g ft fe s) m (i + 1) (acc ++ o.toList) h').bind fun ys h5 => new (.lst ys) h5) (QE Q) (fun k d H' => W k d σ H') := p2
                    rw [f7] at p7; exact p7.elim
                  | exc _ _ _ _ =>
                    have p7 : Post z1 (((Rs.calm ((fe s5 h6).bind fun y h4 => .ok (some y) h4)).bind fun o h' => lcG q (turnS w g ft fe s) m (i + 1) (acc ++ o.toList) h').bind fun ys h5 => new (.lst ys) h5) (QE Q) (fun k d H' => W k d σ H') := p2
                    rw [f7] at p7; exact p7.elim
                  | ok y h7 =>
                    have p7 : Post z1 (((Rs.calm ((fe s5 h6).bind fun y h4 => .ok (some y) h4)).bind fun o h' => lcG q (turnS w g ft fe s) m (i + 1) (acc ++ o.toList) h').bind fun ys h5 => new (.lst ys) h5) (QE Q) (fun k d H' => W k d σ H') := p2
                    rw [f7] at p7
                    intro z7 e7 m7 y' r7
                    have e17 := e16.trans e7
                    have hz7 : z7.H D = some (.lst ws) := (e17.rs D List.mem_cons_self).trans upd_same
                    have l7 := (z6l.mono e7)
                    have ln := l7.length
                    obtain ⟨e8, m8, e9⟩ := opn_step (ys := ws ++ [y']) e17 m7
                    exact ⟨ws, hz7, by rw [sizeLine_eq]; omega, z7.put D (.lst (ws ++ [y'])), h7, acc ++ [y], ws ++ [y'], rfl, e8, m8, (l7.append (relL_cons r7 relL_nil)).mono0 e9, p7⟩
          · exact p2.elim
/-- a comprehension as a value; named on one line -/
theorem me_lc {scope : Scope} {own : List (Str × Nat)} (hK : X.K = c.K) (hc : X.calm = true) (hN : X.N.Nodup) (hi : MI X c W tg iter k fs) (ok : BlkOk X.N X.env.scope scope own)
    (hg : ∀ (s : Shared) (H : Hp) (C : Addr) (cl : List (Str × Addr)) (fp : List Addr), PG (X.blk s H scope (compEnvC scope cl C X.env) fp) tg (gOf X.K g)) (ht : ∀ (s : Shared) (H : Hp) (C : Addr) (cl : List (Str × Addr)) (fp : List Addr), PTs (X.blk s H scope (compEnvC scope cl C X.env) fp) ifs (tT c wNo ft))
    (he : ∀ (s : Shared) (H : Hp) (C : Addr) (cl : List (Str × Addr)) (fp : List Addr), PE (X.blk s H scope (compEnvC scope cl C X.env) fp) elt (tE c wNo fe)) (hin : tgIn g (own.map (·.2))) :
    PE X (.ListComp elt [⟨tg, iter, ifs, 0⟩] scope pos) (tE c W (lcS (own.map (·.2)) k g fs ft fe)) := by
  obtain ⟨wi, pi, hs, ki⟩ := hi.to
  exact (pe_lc hc hN pi ok hg ht he hs).imp fun σ H Q p => lc_rule hK ki hin p
theorem ms_setLc {scope : Scope} {own : List (Str × Nat)} {i : Nat} {y : Str} {py spos : Pos} (hK : X.K = c.K) (hc : X.calm = true) (hN : X.N.Nodup) (hy : X.N[i]? = some y) (hyl : X.env.scope.names.lookup y = some .local)
    (hsw : swapsWith (.ListComp elt [⟨tg, iter, ifs, 0⟩] scope pos) (some (.Name y py)) spos.line X.env = pure true) (hi : MI X c W tg iter k fs) (ok : BlkOk X.N X.env.scope scope own)
    (hg : ∀ (s : Shared) (H : Hp) (C : Addr) (cl : List (Str × Addr)) (fp : List Addr), PG (X.blk s H scope (compEnvC scope cl C X.env) fp) tg (gOf X.K g)) (ht : ∀ (s : Shared) (H : Hp) (C : Addr) (cl : List (Str × Addr)) (fp : List Addr), PTs (X.blk s H scope (compEnvC scope cl C X.env) fp) ifs (tT c wNo ft))
    (he : ∀ (s : Shared) (H : Hp) (C : Addr) (cl : List (Str × Addr)) (fp : List Addr), PE (X.blk s H scope (compEnvC scope cl C X.env) fp) elt (tE c wNo fe)) (hin : tgIn g (own.map (·.2))) :
    PS X (.Assign [.Name y py] (.ListComp elt [⟨tg, iter, ifs, 0⟩] scope pos) spos) (tS c W fun s h => (lcS (own.map (·.2)) k g fs ft fe s h).bind fun x h1 => .ok (.nx (s.set i (some x))) h1) := by
  obtain ⟨wi, pi, hs, ki⟩ := hi.to
  refine (ps_setLc hc hN hy hyl hsw pi ok hg ht he hs).imp fun D σ H ⟨z, h, s, at_, p⟩ => lc_rule hK ki hin ⟨z, h, s, at_, (p.bind σ).mono (fun z1 x h1 e1 m1 p1 x' r1 => ?_) fun _ _ _ q => q⟩
  exact p1 z1 _ (Ext.refl z1) m1 ((at_.next e1 m1).sl.set r1 i)
end
end Mini
end
section
set_option Elab.async false
set_option linter.all false
set_option maxRecDepth 100000
set_option maxHeartbeats 2000000
/-! Mini, part 17: statements. -/
namespace Mini
open PySem PySem.Spec PyProof.Rows L2
def isTup : Expr → Bool
  | .Tuple .. => true
  | _ => false
theorem sw_name {x : Str} {p : Pos} {v : Expr} {env : Env} : swappedStores [.Name x p] v env = pure none := by cases v <;> rfl
theorem sw_sub {o i : Expr} {p : Pos} {v : Expr} {env : Env} : swappedStores [.Subscript o i p] v env = pure none := by cases v <;> rfl
theorem sw_plain {ts : List Expr} {k : Nat} {p : Pos} {v : Expr} {env : Env} (h : isTup v = false) : swappedStores [.Tuple ts k p] v env = pure none := by
  cases v <;> first | rfl | cases h
theorem sw_fold {ts vs : List Expr} {k k2 : Nat} {p p2 : Pos} {env : Env} (h : vs.all (foldedForSure 8) = true) : swappedStores [.Tuple ts k p] (.Tuple vs k2 p2) env = pure none := by
  unfold swappedStores
  dsimp only
  split
  · rfl
  · split
    · rfl
    · split
      · rfl
      · first | rfl | rw [if_pos h]
theorem asg_sub {o i : Expr} {p : Pos} {env : Env} (h : isSlice i = false) (v : Value) : assign (.Subscript o i p) env v = (do
    let ov ← holding [v] (eval o env)
    let iv ← holding [v, ov] (eval i env)
    standAt p
    holding [v, ov, iv] (setItem ov iv v)
    release [v, ov, iv] []) := by
  cases i <;> first | rfl | cases h
theorem PSet.or' {X : Cx} {t u : TSet} (a : PSet X t) (b : PSet X u) : PSet X fun o i v H Q => t o i v H Q ∨ u o i v H Q := fun pins s σ H o i v ov iv w Q I ro ri rv q =>
  q.elim (a pins s σ H o i v ov iv w Q I ro ri rv) (b pins s σ H o i v ov iv w Q I ro ri rv)
theorem sub_ok {z : Rz} {h h' : VH} {o k x : VV} {o' k' x' : V} {Q : Hp → Prop} (m : Md z h) (ro : Rel z o o') (rk : Rel z k k') (rx : Rel z x x') (e : subS o k x h = some h') (q : ∀ z', Ext z z' → Md z' h' → Q z'.H) :
    rSetL o' k' x' z.H Q ∨ rSetD o' k' x' z.H Q := by
  unfold subS at e
  split at e
  · rename_i a
    obtain ⟨ha, rfl⟩ := ro
    split at e
    · rename_i us q1
      split at e
      · rename_i i
        obtain ⟨j, e1, rfl⟩ := map_some' e
        cases rk
        obtain ⟨ws, h1, r1⟩ := m.ob a _ q1
        refine .inl ⟨_, ws, i, j, rfl, rfl, h1, by rw [← r1.length]; exact e1, ?_⟩
        exact q _ (m.ext_set ha) (m.set ha ⟨_, upd_same, (RelL.set rx j r1).mono (m.ext_set ha)⟩)
      · cases e
    · rename_i ks vs q1
      split at e
      · rename_i kk hk
        split at e
        · rename_i hl
          cases e
          obtain ⟨kvs, h1, h2, h3⟩ := m.ob a _ q1
          have ey : k' = kV kk := by
            unfold keyOf at hk
            split at hk
            · cases hk; cases rk; rfl
            · cases hk; cases rk; rfl
            · cases hk
          subst ey
          have l2 : ks.length = kvs.length := by rw [← h2, List.length_map]
          refine .inr ⟨_, _, rfl, DPut.k h1 (by rw [sizeLine_eq]; omega), ?_⟩
          obtain ⟨i1, i2⟩ := putD_ok (k := kk) rx h2 h3
          exact q _ (m.ext_set ha) (m.set ha ⟨_, upd_same, i1, i2.mono (m.ext_set ha)⟩)
        · cases e
      · cases e
    · cases e
  · cases e
def parS (i j : Nat) (fa fb : Sl → VH → Rs VV) : Sl → VH → Rs Fl := fun σ h => (fa σ h).bind fun x h1 => (fb σ h1).bind fun y h2 => .ok (.nx ((σ.set i (some x)).set j (some y))) h2
def unpE (is : List Nat) (σ : Sl) (x : VV) (h1 : VH) : Rs Fl := match x with
  | .tup xs => Rs.of ((unpS is xs σ).map .nx) h1
  | _ => .bad
def subE (o k x : VV) (σ : Sl) (h : VH) : Rs Fl := match subS o k x h with
  | some h4 => .ok (.nx σ) h4
  | none => .bad
def gNames : List Nat → TGs
  | [] => gNil
  | i :: is => gCons (gName i) (gNames is)
theorem unp_ok {z : Rz} {Q : L2.St → Hp → Prop} : ∀ {is : List Nat} {vs : List VV} {xs : List V} {s s' : Sl} {σ : L2.St}, RelL z vs xs → RelS z s σ → unpS is vs s = some s' → (∀ σ', RelS z s' σ' → Q σ' z.H) → xs.length = is.length ∧ gNames is xs σ z.H Q
  | [], [], xs, s, s', σ, r, rs, e, q => by
    cases r; cases e
    exact ⟨rfl, rfl, q _ rs⟩
  | [], _ :: _, _, _, _, _, _, _, e, _ => by cases e
  | _ :: _, [], _, _, _, _, _, _, e, _ => by cases e
  | i :: is, v :: vs, xs, s, s', σ, r, rs, e, q => by
    obtain ⟨y, r', rfl, h1, h2⟩ := r
    obtain ⟨l, g⟩ := unp_ok (is := is) h2 (rs.set h1 i) e q
    exact ⟨by rw [List.length_cons, List.length_cons, l], y, r', rfl, g⟩
section
variable {X : Cx} {c : Cfg} {W : WX} {e a b o k : Expr} {fa fb fc : Sl → VH → Rs VV} {fs : Sl → VH → Rs (List VV)} {ft : Sl → VH → Rs Bool} {f1 f2 : Sl → VH → Rs Fl} {st : Stmt} {p q : List Stmt} {pos pos' : Pos}
theorem ms_set {i : Nat} {x : Str} (hN : X.N.Nodup) (hi : X.N[i]? = some x) (hx : Loc X.env.scope x) (hf : X.fn x = true ∨ X.env.scope.names.lookup x = some .local) (hs : isComp e = false) (he : PE X e (tE c W fa)) :
    PS X (.Assign [.Name x pos'] e pos) (tS c W fun s h => (fa s h).bind fun x h1 => .ok (.nx (s.set i (some x))) h1) :=
  (ps_set hN hi hx he (swaps_ok hs) hf).imp fun D σ H ⟨z, h, s, at_, p⟩ => ⟨z, h, s, at_, (p.bind σ).mono (fun z1 x h1 e1 m1 p1 x' r1 => p1 z1 _ (Ext.refl z1) m1 ((at_.next e1 m1).sl.set r1 i)) fun _ _ _ q => q⟩
theorem ms_exp (hs : isComp e = false) (he : PE X e (tE c W fa)) : PS X (.Expr e pos) (tS c W fun s h => (fa s h).bind fun _ h1 => .ok (.nx s) h1) :=
  (ps_expr he (swaps_ok hs)).imp fun D σ H ⟨z, h, s, at_, p⟩ => ⟨z, h, s, at_, (p.bind σ).mono (fun z1 x h1 e1 m1 p1 x' r1 => p1 z1 _ (Ext.refl z1) m1 (at_.next e1 m1).sl) fun _ _ _ q => q⟩
theorem ms_ret (he : PE X e (tE c W fa)) : PS X (.Return (some e) pos) (tS c W fun s h => (fa s h).bind fun x h1 => .ok (.rt x) h1) :=
  (ps_ret he).imp fun D σ H ⟨z, h, s, at_, p⟩ => ⟨z, h, s, at_, (p.bind σ).mono (fun z1 x h1 e1 m1 p1 x' r1 => p1 z1 x' (Ext.refl z1) m1 r1) fun _ _ _ q => q⟩
theorem ms_retN : PS X (.Return none pos) (tS c W fun s h => (Rs.ok .non h).bind fun x h1 => .ok (.rt x) h1) :=
  ps_retN.imp fun D σ H ⟨z, h, s, at_, p⟩ => by
    obtain rfl := at_.H
    exact p z .non (Ext.refl z) at_.md rfl
theorem ms_pass : PS X (.Pass pos) (tS c W fun s h => .ok (.nx s) h) := ps_pass.imp fun D σ H ⟨z, h, s, at_, p⟩ => by
  obtain rfl := at_.H
  exact p z σ (Ext.refl z) at_.md at_.sl
theorem ms_brk : PS X (.Break pos) (tS c W fun s h => .ok (.bk s) h) := ps_break.imp fun D σ H ⟨z, h, s, at_, p⟩ => by
  obtain rfl := at_.H
  exact p z σ (Ext.refl z) at_.md at_.sl
theorem ms_cnt : PS X (.Continue pos) (tS c W fun s h => .ok (.ct s) h) := ps_continue.imp fun D σ H ⟨z, h, s, at_, p⟩ => by
  obtain rfl := at_.H
  exact p z σ (Ext.refl z) at_.md at_.sl
theorem ms_if (hc : PT X e (tT c W ft)) (ha : PSs X p (tS c W f1)) (hb : PSs X q (tS c W f2)) : PS X (.If e p q pos) (tS c W fun s h => (ft s h).bind fun k h1 => if k = true then f1 s h1 else f2 s h1) :=
  (ps_if hc ha hb).imp fun D σ H ⟨z, h, s, at_, p⟩ => ⟨z, h, s, at_, (p.bind σ).mono (fun z1 k h1 e1 m1 p1 => by
    cases k with
    | true => exact ⟨z1, h1, s, at_.next e1 m1, p1⟩
    | false => exact ⟨z1, h1, s, at_.next e1 m1, p1⟩) fun _ _ _ q => q⟩
def seqS (f1 f2 : Sl → VH → Rs Fl) : Sl → VH → Rs Fl := fun σ h => (f1 σ h).bind fun r h1 => match r with
  | .nx σ' => f2 σ' h1
  | r => .ok r h1
theorem mss_nil : PSs X [] (tS c W fun s h => .ok (.nx s) h) := pss_nil.imp fun D σ H ⟨z, h, s, at_, p⟩ => by
  obtain rfl := at_.H
  exact p z σ (Ext.refl z) at_.md at_.sl
theorem mss_cons (h1 : PS X st (tS c W f1)) (h2 : PSs X p (tS c W f2)) : PSs X (st :: p) (tS c W (seqS f1 f2)) :=
  (pss_cons h1 h2).imp fun D σ H ⟨z, h, s, at_, p⟩ => ⟨z, h, s, at_, by
    unfold seqS at p
    cases r : f1 s h with
    | bad => rw [r] at p; exact p
    | exc _ _ _ _ => rw [r] at p; exact p
    | ok f hx =>
      rw [r] at p
      cases f with
      | nx s1 =>
        intro z1 σ1 e1 m1 r1
        exact ⟨z1, hx, s1, ⟨e1.K.trans at_.K, e1.ad.trans at_.ad, rfl, m1, r1, e1.lamE.trans at_.lam, fun p h => e1.cod p (at_.cod p h), fun g h => (at_.gnd g h).trans e1.toExt0, at_.tab.of e1.tab⟩, EndR.from e1 p⟩
      | bk s1 => exact p
      | ct s1 => exact p
      | rt v => exact p⟩
theorem ms_sub (hu : X.A.units + 1 < cLine) (hs : isComp e = false) (hk : isSlice k = false) (he : PE X e (tE c W fa)) (ho : PE X o (tE c W fb)) (hi : PE X k (tE c W fc)) :
    PS X (.Assign [.Subscript o k pos'] e pos) (tS c W fun s h => (fa s h).bind fun x h1 => (fb s h1).bind fun a h2 => (fc s h2).bind fun q h3 => subE a q x s h3) :=
  (ps_asg he (pg_sub ho hi (PSet.or' set_list (set_dict hu)) (asg_sub hk)) (sole_ok hs) sw_sub).imp fun D σ H ⟨z, h, s, at_, p⟩ => ⟨z, h, s, at_, (p.bind σ).mono (fun z1 x h1 e1 m1 p1 x' r1 => by
    have a1 := at_.next e1 m1
    refine ⟨z1, h1, s, a1, (p1.bind σ).mono (fun z2 a h2 e2 m2 p2 a' r2 => ?_) fun _ _ _ q => q⟩
    have a2 := a1.next e2 m2
    refine ⟨z2, h2, s, a2, (p2.bind σ).mono (fun z3 q h3 e3 m3 p3 q' r3 => ?_) fun _ _ _ q => q⟩
    have a3 := a2.next e3 m3
    unfold subE at p3
    split at p3
    · rename_i h4 e4
      exact sub_ok m3 (r2.mono e3) r3 ((r1.mono e2).mono e3) e4 fun z4 e5 m4 => p3 z4 σ e5 m4 (a3.sl.mono e5)
    · exact p3.elim) fun _ _ _ q => q⟩
theorem ms_unp {ts : List Expr} {kk : Nat} {is : List Nat} (hK : X.K = c.K) (hc : X.calm = true) (hg : PGs X ts (gNames is)) (hl : ts.length = is.length) (hn : ts.all (fun t => !isStar t) = true) (hs : isComp e = false) (hw : swappedStores [.Tuple ts kk pos'] e X.env = pure none) (he : PE X e (tE c W fa)) :
    PS X (.Assign [.Tuple ts kk pos'] e pos) (tS c W fun s h => (fa s h).bind fun x h1 => unpE is s x h1) := by
  have key : ∀ ts : List Expr, ts.all (fun t => !isStar t) = true → (assignEach ts X.env).length = ts.length ∧ (assignEach ts X.env).findIdx? (·.1) = none := by
    intro ts
    induction ts with
    | nil => intro _; exact ⟨rfl, rfl⟩
    | cons t ts ih =>
      intro h
      rw [List.all_cons, Bool.and_eq_true] at h
      obtain ⟨i1, i2⟩ := ih h.2
      have e1 : assignEach (t :: ts) X.env = (false, assign t X.env) :: assignEach ts X.env := by
        cases t <;> first | rfl | exact absurd h.1 (by simp [isStar])
      rw [e1]
      refine ⟨by rw [List.length_cons, List.length_cons, i1], ?_⟩
      rw [List.findIdx?_cons]
      simp [i2]
  obtain ⟨k1, k2⟩ := key ts hn
  refine (ps_asg he (pg_tup (n := is.length) hc hg (k1.trans hl) k2) (sole_ok hs) hw).imp fun D σ H ⟨z, h, s, at_, p⟩ => ⟨z, h, s, at_, (p.bind σ).mono (fun z1 x h1 e1 m1 p1 x' r1 => ?_) fun _ _ _ q => q⟩
  have a1 := at_.next e1 m1
  unfold unpE at p1
  split at p1
  · rename_i xs
    obtain ⟨T, ys, rfl, t, r2⟩ := r1
    cases e2 : unpS is xs s with
    | none => rw [e2] at p1; exact p1.elim
    | some s' =>
      rw [e2] at p1
      obtain ⟨l, g⟩ := unp_ok (Q := D.nx) r2 a1.sl e2 fun σ' r' => p1 z1 σ' (Ext.refl z1) m1 r'
      exact ⟨T, ys, rfl, by rw [hK, ← a1.K]; exact t.sq, l, g⟩
  · exact p1.elim
theorem ms_par {i j : Nat} {x y : Str} {px py pt pt2 : Pos} {kt k2 : Nat} (hc : X.calm = true) (hN : X.N.Nodup) (hi : X.N[i]? = some x) (hj : X.N[j]? = some y) (hij : i ≠ j) (hx : X.env.scope.names.lookup x = some .local) (hy : X.env.scope.names.lookup y = some .local)
    (hs : isStar a = false) (hs2 : isStar b = false) (ha : PE X a (tE c W fa)) (hb : PE X b (tE c W fb)) (hw : swappedStores [.Tuple [.Name x px, .Name y py] kt pt] (.Tuple [a, b] k2 pt2) X.env = pure (some [x, y])) :
    PS X (.Assign [.Tuple [.Name x px, .Name y py] kt pt] (.Tuple [a, b] k2 pt2) pos) (tS c W (parS i j fa fb)) :=
  (ps_par hc hN hi hj hij hx hy (pa_cons ha (pa_cons hb pa_nil (star_cons hs2)) (star_cons hs)) hw (sole_ok rfl)).imp fun D σ H ⟨z, h, s, at_, p⟩ => ⟨z, h, s, at_, (p.bind σ).mono (fun z1 x h1 e1 m1 p1 x' r1 => by
    have a1 := at_.next e1 m1
    refine ⟨z1, h1, s, a1, (p1.bind σ).mono (fun z2 y h2 e2 m2 p2 y' r2 => ?_) fun _ _ _ q => q⟩
    exact ⟨x', y', rfl, p2 z2 _ (Ext.refl z2) m2 (((a1.next e2 m2).sl.set (r1.mono e2) i).set r2 j)⟩) fun _ _ _ q => q⟩
end
end Mini
end
section
set_option Elab.async false
set_option linter.all false
set_option maxRecDepth 100000
set_option maxHeartbeats 4000000
/-! Mini, part 18: own exceptions: super().__init__(text), then fields. -/
namespace Mini
namespace Ex
open PySem PySem.W PySem.Calls PyProof.Rows PySem.HandSPX
/-- the text of such an __init__: the fields, in order -/
def fldB : List Stmt → Option (List Str)
  | [] => some []
  | .Assign [.Attribute (.Name me _) f _] (.Name v _) _ :: r => if me = "self" ∧ v = f then (fldB r).map (f :: ·) else none
  | _ => none
def supB : List Stmt → Option (List Str)
  | .Expr (.Call (.Attribute (.Call (.Name sp _) [] [] _) ini ap) [.Constant (.str _) _ _] [] cp) _ :: r => if sp = "super" ∧ ini = "__init__" ∧ (ap.endLine == cp.line) = true then fldB r else none
  | _ => none
/-- what the written part says of the class at C, its __init__ at fI -/
structure Txt (K : Frag) (prog : Program) (mg : Str → Option Value) (C fI : Addr) (fs : List Str) : Prop where
  cls : ∃ nm q N bs bm sn sub ab col dd k0 k1 k2 k3 k5, K.lookup C = some (excClassObj nm q C N bs bm true sn sub ab col dd k0 k1 k2 k3 k5 "ValueError.__new__") ∧ refsVE bm = true
  sa : findIn K (.ref C) "__setattr__" = some (some (.builtin "object.__setattr__"))
  noN : ∀ f ∈ fs, findIn K (.ref C) f = some none
  iC : findIn K (.ref C) "__init__" = some (some (.ref fI))
  tC : typeIn K (.ref fI) = some (.type "function")
  kC : keepIn K (.ref C) = true
  exC : subIn K (.ref C) (.type "BaseException") = some true
  tyC : typeIn K (.ref C) = some (.type "type")
  sVE : subIn K (.ref C) (.type "ValueError") = some true
  sup : ks_superIn K C C "__init__" = some (some (.builtin "ValueError.__init__"))
  sCC : mroIn K C (.ref C) = some true
  stat : nsIn K cStatics "thirdparty.any" = some none
  mS : mg "super" = none
  nds : fs.Nodup
  top : (prog.main.scope.names.lookup ("super" : Str)).isSome = false
  fn : ∃ (oc : Value) (od : Option Addr) (name qual : Str) (params : Arguments) (body : List Stmt) (scope : Scope) (dV kV doc pm : Value) (an : Option Addr) (cda cc : Addr) (ct : Value) (osl : Array (Option Value)) (ccl cl : Value) (cdd cld : Option Addr) (vs : Array Value) (ccs csl : Array (Option Value)) (file : Str) (tf : Tok),
    K.lookup fI = some ⟨oc, od, .func (fnX name qual params body scope [("__class__", cc)] dV kV doc pm an (.ref cda) ct), osl⟩ ∧ codeIn K (.ref cda) qual = true ∧
    K.lookup cda = some ⟨ccl, cdd, .fields vs, ccs⟩ ∧ vs[2]? = some (.str file tf) ∧ ((prog.main.file : Str) == file) = true ∧ K.lookup cc = some ⟨cl, cld, .cell (some (.ref C)), csl⟩ ∧
    supB body = some fs ∧ scope.kind = .function ∧ scope.isCoroutine = false ∧ scope.isGenerator = false ∧ (∀ x ∈ scope.names, x.2 ≠ .cell) ∧ scope.names.lookup ("super" : Str) = some .globalImplicit ∧ scope.names.lookup ("__class__" : Str) = some .free ∧
    scope.names.lookup ("self" : Str) = some .local ∧ (∀ f ∈ fs, scope.names.lookup f = some .local) ∧ (∃ ar, (params.posonlyargs ++ params.args).head? = some ar ∧ ar.arg = "self") ∧
    (∀ us : List Value, us.length = fs.length + 1 → bindArgs (fnX name qual params body scope [("__class__", cc)] dV kV doc pm an (.ref cda) ct) ⟨us, []⟩ = pure ((("self" : Str) :: fs).zip us)) ∧ (("self" : Str) :: fs).Nodup ∧ (∀ f ∈ fs, (f == ("__debug__" : Str)) = false)
section
variable {prog : Program} {w : World} {M : Model} {A : Around} {E : Value → Shared → Prop} {h : Heap} {g : Array GenState} {d : Drawn} {t : Nat} {os : OsState}
variable {nm q : Str} {C N : Addr} {bs bm : List Value} {sn : List Str} {sub : List Value} {ab : Bool} {col : Option Bool} {dd : Option Addr} {k0 k1 k2 k3 k5 : Option Value}
/-- the bound ValueError.__init__, called -/
theorem call_mw {u e t0 : Addr} {us : List Value} {Q : Value → Shared → Prop} (hC : h.get? C = some (excClassObj nm q C N bs bm true sn sub ab col dd k0 k1 k2 k3 k5 "ValueError.__new__")) (he : h.get? e = some (excO C t0)) (hu : h.get? u = some (kxs_mw "ValueError.__init__" e)) (hl : us.length ≤ sizeLine)
    (hq : ∀ h' t1, (∀ b o, b ≠ e → h.get? b = some o → h'.get? b = some o) → h'.get? e = some (excO C t1) → Q .none ⟨h', g, d, t, os⟩) : wpAny (model prog w) A (call (.ref u) us) Q E ⟨h, g, d, t, os⟩ := by
  refine wpAny_call (codeAny_of_tree ?_)
  show wpAny _ A.in1 (callAny (.ref u) ⟨us, []⟩) _ _ _
  simp only [callAny]
  refine wpAny_bind (wpAny_load hu ?_)
  simp only [kxs_mw, show (Value.type "method-wrapper" == Value.type "method" || Value.type "method-wrapper" == Value.type "builtin_function_or_method" || Value.type "method-wrapper" == Value.type "method-wrapper") = true by decide, if_true]
  refine KFB.if_so (by decide) ?_
  refine wpAny_bind (check_bound_init F.excBase_ValueError.toExcCallFacts hC he rfl ?_)
  refine wpAny_bind (wpAny_pure (wpAny_pure ?_))
  refine ⟨plainId_quiet F.excBase_ValueError.init.plain _, codeAny_builtin F.excBase_ValueError.initEntry ?_⟩
  exact exc_init_tree (cls := .ref C) (t0 := t0) (dv := none) (c2 := .none) (c3 := .none) (b4 := .bool false) he hl fun h' kp ge _ => hq h' _ kp ge
end
theorem meth_tree {o e : Expr} {m : Str} {apos pos : Pos} {env : Env} (hl : (apos.endLine == pos.line) = true) (hs : isStar e = false) : eval (.Call (.Attribute o m apos) [e] [] pos) env = (do
    let ov ← attributeBase o m env (eval o env)
    standAt apos.atName
    let (f, first) ← holding [ov] (getMethod ov m (do return (← importBound o env).getD true))
    callWith pos f first (backTo pos (starEach [e] env)) []) := by
  have hf : methodCallForm 1 (backTo pos (starEach [e] env)) [] = true := by
    rw [star_cons hs]; rfl
  rw [arm_eval_Call]
  unfold methodCall calleeOf methodCallPos
  have e0 : backToKw pos (keywordEach [] env) = [] := rfl
  rw [e0]
  have e1 : ([e] : List Expr).length + ([] : List Keyword).length = 1 := rfl
  rw [e1, hf]
  simp only [if_true, Bool.not_true, Bool.false_or, hl, pure_bind]
/-! ### the fields -/
def mOf : List (Str × Value) → Str → Option Value
  | [] => fun _ => none
  | p :: r => fun y => if y = p.1 then some p.2 else mOf r y
theorem within_mOf : ∀ kvs : List (Str × Value), Within (mOf kvs) (kvs.map (·.1))
  | [] => fun y hy => absurd rfl hy
  | p :: r => fun y hy => by
    by_cases e : y = p.1
    · rw [e]; exact List.mem_cons_self
    · refine List.mem_cons_of_mem _ (within_mOf r y ?_)
      have : (if y = p.1 then some p.2 else mOf r y) ≠ none := hy
      rwa [if_neg e] at this
/-- the object of a made exception -/
abbrev exOb (C t : Addr) (d : Option Addr) : Obj := { cls := .ref C, dict := d, data := .fields #[.ref t, .none, .none, .none, .bool false, .none] }
structure Kept (h h' : Heap) (ex : List Addr) : Prop where
  at_ : ∀ b o, b ∉ ex → h.get? b = some o → h'.get? b = some o
theorem fldB_cons {st : Stmt} {r : List Stmt} {fs : List Str} (e : fldB (st :: r) = some fs) : ∃ p1 p2 p3 p4 f fs', st = .Assign [.Attribute (.Name "self" p1) f p2] (.Name f p3) p4 ∧ fs = f :: fs' ∧ fldB r = some fs' := by
  unfold fldB at e
  split at e
  · rename_i heq; cases heq
  · rename_i me p1 f p2 v p3 p4 r' heq
    cases heq
    split at e
    · rename_i hc
      obtain ⟨rfl, rfl⟩ := hc
      obtain ⟨fs', e1, rfl⟩ := map_some' e
      exact ⟨_, _, _, _, _, fs', rfl, rfl, e1⟩
    · cases e
  · cases e
section
variable {prog : Program} {w : World} {A : Around} {E : Value → Shared → Prop} {K : Frag} {x C L : Addr} {cd : ClassData} {env : Env} {m : Str → Option Value}
theorem ld_loc {h : Heap} {g : Array GenState} {d : Drawn} {t : Nat} {os : OsState} {y : Str} {p : Pos} {v : Value} {Q : Value → Shared → Prop} (hk : env.scope.kind = .function) (hl : env.scope.names.lookup y = some .local) (eL : env.locals = L) (hn : h.Ns L m) (hv : m y = some v) (hd : (y == ("__debug__" : Str)) = false) (q : Q v ⟨h, g, d, t, os⟩) :
    wpAny (model prog w) A (eval (.Name y p) env) Q E ⟨h, g, d, t, os⟩ := wpAny_Name (wpAny_loadName_local hk hl (by rw [eL]; exact hn) hv q) hd
/-- self.f = v, the dict there -/
theorem fld_more (hk : env.scope.kind = .function) (hself : env.scope.names.lookup ("self" : Str) = some .local) (eL : env.locals = L) (hmx : m "self" = some (.ref x))
    (hcd : clsIn K C = some cd) (hm : refsVE cd.mro = true) (hh : cd.hasDict = true) (sa : findIn K (.ref C) "__setattr__" = some (some (.builtin "object.__setattr__"))) :
    ∀ (body : List Stmt) (fs : List Str) (us : List Value) (kvs : List (Str × Value)) (h : Heap) (g : Array GenState) (d : Drawn) (t : Nat) (os : OsState) (dx t1 : Addr) (Q : Flow → Shared → Prop), fldB body = some fs → fs.length = us.length → (∀ p ∈ fs.zip us, m p.1 = some p.2) → (∀ f ∈ fs, env.scope.names.lookup f = some .local ∧ (f == ("__debug__" : Str)) = false ∧ findIn K (.ref C) f = some none) →
      kvs.length + fs.length ≤ 900 → K.In h → K.lookup dx = none → h.get? x = some (exOb C t1 (some dx)) → h.Ns1 dx (mOf kvs) → h.Ns L m → L ≠ dx → dx ≠ x →
      (∀ h' t', (∀ b o, b ≠ dx → h.get? b = some o → h'.get? b = some o) → h'.Ns1 dx (mOf ((fs.zip us).reverse ++ kvs)) → Q .next ⟨h', g, d, t', os⟩) → wpAny (model prog w) A (execs body env) Q E ⟨h, g, d, t, os⟩
  | [], fs, us, kvs, h, g, d, t, os, dx, t1, Q, e, hl, _, _, _, _, _, _, hn, _, _, _, q => by
    cases e
    exact wpAny_execs_nil (q h t (fun _ _ _ e => e) hn)
  | st :: body, fs, us, kvs, h, g, d, t, os, dx, t1, Q, e, hl, hv, hf, hz, kin, kdx, hx, hn, nL, nLd, ndx, q => by
    obtain ⟨p1, p2, p3, p4, f, fs', rfl, rfl, e2⟩ := fldB_cons e
    cases us with
    | nil => cases hl
    | cons u us =>
      have hu : m f = some u := hv (f, u) List.mem_cons_self
      obtain ⟨f1, f2, f3⟩ := hf f List.mem_cons_self
      obtain ⟨oD, _, _, hoD, _, _⟩ := hn.count (within_mOf kvs)
      refine wpAny_execs_cons (plainObj_wpAny_Assign_Attribute (ld_loc (L := L) hk f1 eL nL hu f2 (ld_loc (L := L) hk hself eL nL hmx (by decide) ?_)))
      refine set_plain kin (ox := exOb C t1 (some dx)) (od := some oD) ⟨hx, rfl, rfl, hoD⟩ sa ?_
      refine PySem.OEX.osa_old kin hx hn (within_mOf kvs) (by rw [List.length_map]; rw [List.length_cons] at hz; omega) hcd hm hh f3 (fun h' t' kp hn' => ?_)
      have kin' : K.In h' := fun b o eb => kp b o (fun z => by rw [z, kdx] at eb; cases eb) (kin b o eb)
      refine fld_more hk hself eL hmx hcd hm hh sa body fs' us ((f, u) :: kvs) h' g d t' os dx t1 Q e2 (by simpa using hl) (fun p hp => hv p (List.mem_cons_of_mem _ hp)) (fun y hy => hf y (List.mem_cons_of_mem _ hy)) (by rw [List.length_cons] at hz ⊢; omega) kin' kdx (kp _ _ (Ne.symm ndx) hx) hn' (nL.at fun o z => kp L o nLd z) nLd ndx (fun h2 t2 k2 hn2 => ?_)
      refine q h2 t2 (fun b o hb z => k2 b o hb (kp b o hb z)) ?_
      rw [List.zip_cons_cons, List.reverse_cons, List.append_assoc]
      exact hn2
/-- what __init__ leaves of the fresh exception at x -/
structure InitEnd (h h' : Heap) (x C dx t1 : Addr) (kvs : List (Str × Value)) : Prop where
  keep : ∀ b o, b ≠ x → h.get? b = some o → h'.get? b = some o
  obj : h'.get? x = some (exOb C t1 (some dx))
  dbig : h.objs.size ≤ dx
  dne : dx ≠ x
  ns : h'.Ns1 dx (mOf kvs)
theorem zip_look : ∀ {ks : List Str} {us : List Value} {k : Str} {u : Value}, ks.Nodup → ks.length ≤ us.length → (k, u) ∈ ks.zip us → (ks.zip us).reverse.lookup k = some u := by
  intro ks us k u nd hlen h
  have key : ∀ (l : List (Str × Value)), (l.map (·.1)).Nodup → (k, u) ∈ l → l.lookup k = some u := by
    intro l
    induction l with
    | nil => intro _ h; cases h
    | cons p l ih =>
      intro nd h
      rw [List.map_cons, List.nodup_cons] at nd
      rcases List.mem_cons.mp h with e | h
      · rw [← e, List.lookup_cons]; simp
      · have ne : k ≠ p.1 := fun e => nd.1 (by rw [← e]; exact List.mem_map_of_mem h)
        rw [List.lookup_cons, show (k == p.1) = false from by simpa using ne]
        exact ih nd.2 h
  refine key _ ?_ (List.mem_reverse.mpr h)
  rw [List.map_reverse]
  unfold List.Nodup
  rw [List.pairwise_reverse]
  have n2 : ((ks.zip us).map (·.1)).Nodup := by
    rw [List.map_fst_zip hlen]; exact nd
  exact List.Pairwise.imp Ne.symm n2
end
section
variable {prog : Program} {w : World} {A : Around} {R : Result → Shared → Prop} {s : Shared} {K : Frag} {mg : Str → Option Value} {base : Heap} {C fI : Addr} {fs : List Str}
theorem kin_but {h h' : Heap} {x : Addr} (X : K.In h) (hx : K.lookup x = none) (k : ∀ b o, b ≠ x → h.get? b = some o → h'.get? b = some o) : K.In h' := fun a o e =>
  k a o (fun z => by rw [z, hx] at e; cases e) (X a o e)
theorem k_big {h : Heap} (X : K.In h) {a : Addr} (ha : h.objs.size ≤ a) : K.lookup a = none := by
  cases e : K.lookup a with
  | none => rfl
  | some o => exact absurd (Nat.lt_of_lt_of_le (Heap.lt_size (X _ _ e)) ha) (Nat.lt_irrefl _)
theorem init_run (T : Txt K prog mg C fI fs) (hfs : fs ≠ []) (hfl : fs.length ≤ 800) (Md : L2.Mod K mg base) (bk : ∀ b o, base.get? b = some o → s.heap.get? b = some o) {x t0 : Addr} {us : List Value} (hl : us.length = fs.length) (hx : s.heap.get? x = some (excO C t0)) (hnx : base.get? x = none) (hnk : K.lookup x = none) (hroom : A.depth < recursionLimit)
    (hq : ∀ h' tk dx t1, InitEnd s.heap h' x C dx t1 (fs.zip us).reverse → R (.ok (.ret .none)) { s with heap := h', toks := tk }) :
    codeAny (model prog w) A (.call (.ref fI) ⟨.ref x :: us, []⟩) R s := by
  obtain ⟨oc, od, name, qual, params, body, scope, dV, kV, doc, pm, an, cda, cc, ct, osl, ccl, cl, cdd, cld, vs, ccs, csl, file, tf, ho, hcd, hcode, hvs, hfile, hcell, hsup, sk, sco, sgen, nocell, nS, nC, nself, nf, ⟨ar, har, hself⟩, hbind, nd, ndb⟩ := T.fn
  obtain ⟨nm, q, N, bs, bm, sn, sub, ab, col, dd, k0, k1, k2, k3, k5, hC, hbm⟩ := T.cls
  have X0 : K.In s.heap := fun a o e => bk a o (Md.kin a o e)
  have hcl : clsIn K C = some { name := nm, bases := bs, mro := .ref C :: bm, ns := N, qualname := q, hasDict := true, slotNames := sn, subclasses := sub, abstract := ab, collection := col, hasDel := false } := by unfold clsIn; rw [hC] <;> rfl
  have hlim : s.heap.NoLimit := Md.nolimit.keeps bk
  have loc : ∀ y ∈ (("self" : Str) :: fs).zip (Value.ref x :: us), scope.names.lookup y.1 = some .local := fun y hy => by
    rcases List.mem_cons.mp (List.of_mem_zip (show (y.1, y.2) ∈ _ from hy)).1 with e | e
    · rw [e]; exact nself
    · exact nf _ e
  obtain ⟨h0, g, d, t, os⟩ := s
  refine ks_codeAny_call_defAt (binds := (("self" : Str) :: fs).zip (Value.ref x :: us)) hroom (X0 _ _ ho) rfl hlim (codeRec_of X0 hcd) rfl (BindsTo.of_eq (hbind _ (by simp [hl]))) nocell loc (fun h1 hns hk1 => ?_) sco sgen sk
  have X1 : K.In h1 := fun a o e => hk1 a o (X0 a o e)
  have b1 : ∀ b o, base.get? b = some o → h1.get? b = some o := fun b o e => hk1 b o (bk b o e)
  have hx1 := hk1 _ _ hx
  have vself : ((("self" : Str) :: fs).zip (Value.ref x :: us)).reverse.lookup ("self" : Str) = some (.ref x) := zip_look nd (by simp [hl]) List.mem_cons_self
  have hxL : h0.objs.size ≠ x := Nat.ne_of_gt (Heap.lt_size hx)
  have lL : h0.objs.size < h1.objs.size := hns.lt
  -- the statement super().__init__(text)
  unfold supB at hsup
  split at hsup
  case h_2 => cases hsup
  case h_1 sp p0 p1 ini ap tx j p3 cp ep r =>
    split at hsup
    case isFalse => cases hsup
    case isTrue hc =>
      obtain ⟨rfl, rfl, hline⟩ := hc
      generalize henv : callEnv (fnX name qual params (.Expr (.Call (.Attribute (.Call (.Name "super" p0) [] [] p1) "__init__" ap) [.Constant (.str tx) j p3] [] cp) ep :: r) scope [("__class__", cc)] dV kV doc pm an (.ref cda) ct) h0.objs.size fI = env
      have esc : env.scope = scope := by rw [← henv]; rfl
      have eloc : env.locals = h0.objs.size := by rw [← henv]; rfl
      have eglo : env.globals = mainGlobals := by rw [← henv]; rfl
      have eblt : env.builtins = builtinsNs := by rw [← henv]; rfl
      have ecel : env.cells = [(("__class__" : Str), cc)] := by rw [← henv]; rfl
      have efun : env.func = some fI := by rw [← henv]; rfl
      have ecod : env.code = .ref cda := by rw [← henv]; rfl
      have kS : env.kindOf "super" = some .globalImplicit := by unfold Env.kindOf; rw [esc]; exact nS
      have kC : env.kindOf "__class__" = some .free := by unfold Env.kindOf; rw [esc]; exact nC
      refine ks_wpAt_execs_cons (ks_wpAt_Expr_any (ks_wpAt_MethodCall ?_ (meth_tree hline rfl)) (by unfold interactive; rw [esc, sk]; rfl) rfl)
      refine ks_wpAt_super_base kS kC (by decide) efun (X1 _ _ ho) rfl har ecod (X1 _ _ hcode) rfl hvs hfile T.top ?_
      obtain ⟨mb, hmb, hmb2⟩ := Md.blt
      refine ks_loadName_global (by rw [esc]; exact sk) kS (loadGlobal_builtin (by rw [eglo]; exact Md.glob.keeps b1) T.mS (by rw [eblt]; exact hmb.keeps b1) ((hmb2 _ (by decide)).trans (by decide +kernel : bootBuiltins "super" = some (.type "super"))) ⟨rfl, ?_⟩)
      refine wpAny_loadName_free (by rw [esc]; exact sk) kC (by rw [ecel]; rfl) ⟨_, X1 _ _ hcell, rfl⟩ ?_
      rw [hself]
      refine wpAny_loadName_local (by rw [esc]; exact sk) (by unfold Env.kindOf; rw [esc]; exact nself) (by rw [eloc]; exact hns) vself ?_
      have hCget := X1 _ _ hC
      refine ks_wpAny_isType_cls hCget rfl ⟨rfl, ?_⟩
      refine ks_wpAny_call_super hCget rfl hx1 rfl (fun c z => nomatch z) (looks_mroIn X1 T.sCC) (fun h2 so2 k2 => ?_)
      have X2 : K.In h2 := fun a o e => k2 _ _ (X1 a o e)
      have hx2 := k2 _ _ hx1
      have hxC : x ≠ C := fun e => by
        rw [e, hC] at hnk; cases hnk
      have hcd2 : Looks (model prog w) h2 (mroOf (.ref C)) (.ref C :: bm) := (looks_clsIn X2 hcl).andThen .now
      have hsupf : alongIn K "__init__" (((Value.ref C :: bm).dropWhile (· != .ref C)).drop 1) = some (some (.builtin "ValueError.__init__")) := by
        have := T.sup
        unfold ks_superIn at this
        rw [hcl] at this
        exact this
      have I2 : InstAt h2 x (excO C t0) C none := ⟨hx2, rfl, rfl, trivial⟩
      have isVE : Looks (model prog w) h2 (isInstance (.ref x) (.type "ValueError")) true := I2.type.andThen (looks_subIn X2 T.sVE)
      refine kxs_getMethod kxs_ValueError so2 (looks_opaque X2 T.stat) hcd2 rfl X2 hsupf isVE hxC (by decide) ?_
      have k3 : ∀ b o, h2.get? b = some o → (h2.push (kxs_mw "ValueError.__init__" x)).get? b = some o := fun b o e => Heap.get?_push_of_some _ e
      have hu3 : (h2.push (kxs_mw "ValueError.__init__" x)).get? h2.objs.size = some (kxs_mw "ValueError.__init__" x) := Heap.get?_push_size _ rfl
      refine kxs_callWith (i := "ValueError.__init__") (x := x) rfl (evalArgs_plain (spliced_cons ?_))
      show wpAny _ _ (eval (.Constant (.str tx) j p3) env) _ _ _
      refine Constant_str (spliced_nil ⟨hu3, ?_⟩)
      refine call_mw (k3 _ _ (k2 _ _ hCget)) (k3 _ _ hx2) hu3 (show 1 ≤ sizeLine by rw [sizeLine_eq]; omega) (fun h4 t4 k4 hx4 => ?_)
      refine wpAt_of_wpAny ?_
      have keep4 : ∀ b o, b ≠ x → h1.get? b = some o → h4.get? b = some o := fun b o hb e => k4 b o hb (k3 _ _ (k2 _ _ e))
      have kin4 : K.In h4 := kin_but X1 hnk keep4
      have ns4 : h4.Ns h0.objs.size (fun y => ((("self" : Str) :: fs).zip (Value.ref x :: us)).reverse.lookup y) := hns.at fun o e => keep4 _ o hxL e
      -- the first field
      cases r with
      | nil => cases hsup; exact absurd rfl hfs
      | cons st r =>
        obtain ⟨q1, q2, q3, q4, f, fs', rfl, rfl, e2⟩ := fldB_cons hsup
        cases us with
        | nil => cases hl
        | cons u us =>
          have vf : ∀ p ∈ (f :: fs').zip (u :: us), ((("self" : Str) :: f :: fs').zip (Value.ref x :: u :: us)).reverse.lookup p.1 = some p.2 := fun p hp => zip_look nd (by simp at hl ⊢; omega) (List.mem_cons_of_mem _ hp)
          have lf : ∀ y ∈ f :: fs', env.scope.names.lookup y = some .local ∧ (y == ("__debug__" : Str)) = false ∧ findIn K (.ref C) y = some none := fun y hy => ⟨by rw [esc]; exact nf y hy, ndb y hy, T.noN y hy⟩
          obtain ⟨f1, f2, f3⟩ := lf f List.mem_cons_self
          refine wpAny_execs_cons (plainObj_wpAny_Assign_Attribute (ld_loc (L := h0.objs.size) (by rw [esc]; exact sk) f1 eloc ns4 (vf (f, u) List.mem_cons_self) f2 (ld_loc (L := h0.objs.size) (by rw [esc]; exact sk) (by rw [esc]; exact nself) eloc ns4 vself (by decide) ?_)))
          refine set_plain kin4 (ox := excO C t4) (od := none) ⟨hx4, rfl, rfl, trivial⟩ T.sa ?_
          refine exc_osa kin4 hx4 hcl (show refsVE (.ref C :: bm) = true from hbm) rfl f3 (fun h5 t5 dx k5' dn dne hx5 hn5 => ?_)
          have keep5 : ∀ b o, b ≠ x → h1.get? b = some o → h5.get? b = some o := fun b o hb e => k5' b o hb (keep4 b o hb e)
          have kin5 : K.In h5 := kin_but X1 hnk keep5
          have big : h0.objs.size < dx := Nat.lt_of_lt_of_le (ns4.lt) dn
          have hn5' : h5.Ns1 dx (mOf [(f, u)]) := hn5
          have kdx : K.lookup dx = none := k_big X0 (Nat.le_of_lt big)
          refine fld_more (K := K) (x := x) (L := h0.objs.size) (by rw [esc]; exact sk) (by rw [esc]; exact nself) eloc vself hcl (show refsVE (.ref C :: bm) = true from hbm) rfl T.sa r fs' us [(f, u)] h5 g d t5 os dx t4 _ e2 (by simpa using hl.symm) (fun p hp => vf p (List.mem_cons_of_mem _ hp)) (fun y hy => lf y (List.mem_cons_of_mem _ hy)) (by simp at hfl ⊢; omega) kin5 kdx hx5 hn5' (ns4.at fun o e => k5' _ o hxL e) (Nat.ne_of_lt big) dne (fun h6 t6 k6 hn6 => ?_)
          · refine hq h6 t6 dx t4 ⟨fun b o hb e => k6 b o ?_ (keep5 b o hb (hk1 b o e)), k6 _ _ (Ne.symm dne) hx5, Nat.le_of_lt big, dne, ?_⟩
            · exact Nat.ne_of_lt (Nat.lt_trans (Heap.lt_size e) big)
            · rw [List.zip_cons_cons, List.reverse_cons]; exact hn6
/-- a made exception -/
structure Made (h h' : Heap) (e C d : Addr) (kvs : List (Str × Value)) : Prop where
  keep : ∀ b o, h.get? b = some o → h'.get? b = some o
  new : h.objs.size ≤ e
  obj : ∃ oe vs, h'.get? e = some oe ∧ oe.cls = .ref C ∧ oe.dict = some d ∧ oe.data = .fields vs ∧ vs[1]? = some .none
  dbig : h.objs.size ≤ d
  dne : d ≠ e
  ns : h'.Ns1 d (mOf kvs)
theorem made (T : Txt K prog mg C fI fs) (hfs : fs ≠ []) (hfl : fs.length ≤ 800) (Md : L2.Mod K mg base) (bk : ∀ b o, base.get? b = some o → s.heap.get? b = some o) {us : List Value} (hl : us.length = fs.length) (hroom : A.depth + 1 < recursionLimit)
    (hq : ∀ h' tk e d, Made s.heap h' e C d (fs.zip us).reverse → R (.ok (.ret (.ref e))) { s with heap := h', toks := tk }) : codeAny (model prog w) A (.call (.ref C) ⟨us, []⟩) R s := by
  obtain ⟨nm, q, N, bs, bm, sn, sub, ab, col, dd, k0, k1, k2, k3, k5, hC, hbm⟩ := T.cls
  obtain ⟨hp, g, dr, tk, os⟩ := s
  have X : K.In hp := fun a o e => bk a o (Md.kin a o e)
  have k : ∀ b o, hp.get? b = some o → ((hp.push (kdv_tup us)).push (excO C hp.objs.size)).get? b = some o := fun b o e => Heap.get?_push_of_some _ (Heap.get?_push_of_some _ e)
  have hget : ((hp.push (kdv_tup us)).push (excO C hp.objs.size)).get? (hp.objs.size + 1) = some (excO C hp.objs.size) := by heap_get
  refine call_own F.excBase_ValueError (fun Y => refsVE_contains Y bm hbm) (X _ _ hC) (looks_findIn X T.iC) (fun self => bind_fn X self T.tC) (by rw [hl, sizeLine_eq]; omega) ?_
  have nb : base.get? (hp.objs.size + 1) = none := by
    cases e : base.get? (hp.objs.size + 1) with
    | none => rfl
    | some o => exact absurd (Nat.lt_of_succ_lt (Heap.lt_size (bk _ _ e))) (Nat.lt_irrefl _)
  refine init_run (s := ⟨(hp.push (kdv_tup us)).push (excO C hp.objs.size), g, dr, tk, os⟩) T hfs hfl Md (fun b o e => k b o (bk b o e)) hl hget nb (k_big X (Nat.le_succ _)) hroom fun h' tk' dx t1 D => ?_
  have z : hp.objs.size + 1 + 1 ≤ dx := by
    have q := D.dbig
    rw [Heap.size_push, Heap.size_push] at q
    exact q
  exact ⟨rfl, hq h' tk' (hp.objs.size + 1) dx ⟨fun b o e => D.keep b o (Nat.ne_of_lt (Nat.lt_succ_of_lt (Heap.lt_size e))) (k b o e), Nat.le_succ _, ⟨_, _, D.obj, rfl, rfl, rfl, rfl⟩, Nat.le_trans (Nat.le_trans (Nat.le_succ _) (Nat.le_succ _)) z, D.dne, D.ns⟩⟩
end
theorem mOf_look : ∀ (l : List (Str × Value)) (f : Str), mOf l f = l.lookup f
  | [], _ => rfl
  | p :: l, f => by
    show (if f = p.1 then some p.2 else mOf l f) = _
    rw [List.lookup_cons, mOf_look l f]
    by_cases e : f = p.1
    · rw [if_pos e, show (f == p.1) = true from by simpa using e]
    · rw [if_neg e, show (f == p.1) = false from by simpa using e]
theorem look_mem {l : List (Str × Value)} {f : Str} {u : Value} (h : l.lookup f = some u) : (f, u) ∈ l := PySem.mem_of_lookup h
theorem rev_look {ks : List Str} {us : List Value} (nd : ks.Nodup) (hl : ks.length ≤ us.length) (f : Str) : (ks.zip us).reverse.lookup f = (ks.zip us).lookup f := by
  cases e : (ks.zip us).lookup f with
  | some u => exact zip_look nd hl (look_mem e)
  | none =>
    cases e2 : (ks.zip us).reverse.lookup f with
    | none => rfl
    | some u =>
      have hm : (f, u) ∈ ks.zip us := List.mem_reverse.mp (look_mem e2)
      obtain ⟨c', e3⟩ := L2.mem_lookup hm
      rw [e] at e3; cases e3
end Ex
open PySem PySem.Spec PyProof.Rows L2
theorem relO_zip : ∀ {fs : List Str} {ys : List V} {us : List Value}, Vals ys us → ∀ f, RelO ((fs.zip ys).lookup f) ((fs.zip us).lookup f)
  | [], _, _, _, f => True.intro
  | g :: fs, _, _, .nil, f => True.intro
  | g :: fs, _, _, .cons r t, f => by
    rw [List.zip_cons_cons, List.zip_cons_cons, List.lookup_cons, List.lookup_cons]
    cases f == g with
    | true => exact r
    | false => exact relO_zip t f
section
variable {X : Cx} {C fI : Addr} {fs : List Str}
/-- C(e, ..) -/
def tMkX (C : Addr) (fs : List Str) (ta : TA) : L2.St → Hp → XK → Prop := fun σ H Q => ta σ H fun vs H1 => vs.length = fs.length ∧ ∀ d, H1 d = none → Q (.ref C) (some d) (upd H1 d (.xd (fs.zip vs)))
theorem pmk_x {e : Expr} {es : List Expr} {ta : TA} {x : Str} {p pos : Pos} {k : Nat} (T : Ex.Txt X.K X.prog X.mg C fI fs) (hfs : fs ≠ []) (hfl : fs.length ≤ 800) (hr : Room k X.A) (hg : Gl X x) (hm : X.mg x = some (.ref C)) (hdb : (x == ("__debug__" : Str)) = false) (hs : (e :: es).all (fun e => !isStar e) = true) (ha : PA X (e :: es) ta) :
    PMk X (.Call (.Name x p) (e :: es) [] pos) (tMkX C fs ta) := by
  have h0 : isStar e = false := by rw [List.all_cons, Bool.and_eq_true] at hs; simpa using hs.1
  have hs' : es.all (fun e => !isStar e) = true := by rw [List.all_cons, Bool.and_eq_true] at hs; exact hs.2
  intro pins s σ H Q I h
  refine wpAny_Call_Name_kw (ld_glob I hg hm ?_ hdb)
  refine PySem.W.callWith_K (h₀ := X.base) I.ok.mod.kin T.kC (thn (ha.run pos pins s σ H _ I h) fun us s1 ⟨vs, H1, I1, r1, hl, q1⟩ => ⟨I1.kIn, ?_⟩) (star_cons h0) (back_any hs')
  have hlu : us.length = fs.length := by rw [← r1.length]; exact hl
  obtain ⟨hp, g, dr, tk, os⟩ := s1
  refine wpAny_call (Ex.made T hfs hfl I.ok.mod I1.bk hlu (by have := hr.dp; omega) fun h' tk' ex d M => ?_)
  show MkP X pins σ Q (.ref ex) ⟨h', g, dr, tk', os⟩
  obtain ⟨oe, fv, hoe, hc, hd, hdat, h1⟩ := M.obj
  obtain ⟨G', g1, g2⟩ := restrict h' fun b => decide (b ≠ ex)
  have gk : ∀ b, b ≠ ex → G'.get? b = h'.get? b := fun b hb => g1 b (decide_eq_true hb)
  have ge : G'.get? ex = none := g2 ex (by simp)
  have old : ∀ b o, hp.get? b = some o → G'.get? b = some o := fun b o q => (gk b (Nat.ne_of_lt (Nat.lt_of_lt_of_le (Heap.lt_size q) M.new))).trans (M.keep b o q)
  have nd : fs.Nodup := T.nds
  have ob : ObjOk X.prog X.w (upd H1 d (.xd (fs.zip vs))) G' d (.xd (fs.zip vs)) :=
    ⟨_, M.ns.at (fun o q => (gk d M.dne).trans q), fun f => by rw [Ex.mOf_look, Ex.rev_look nd (by simp [hlu])]; exact relO_zip r1 f⟩
  have J : Inv X pins σ (upd H1 d (.xd (fs.zip vs))) ⟨G', g, dr, tk', os⟩ := I1.laid (t' := tk') old M.dbig ob
  refine ⟨ex, oe, fv, ⟨G', g, dr, tk', os⟩, _, .ref C, some d, rfl, J, fun b o q => ?_, ge, hoe, ⟨hc, hd⟩, hdat, h1, ?_, rfl, I1.bare, raises_own T.exC T.tyC, q1 d (I1.hok.fresh M.dbig)⟩
  · by_cases hb : b = ex
    · have q' : G'.get? b = some o := q
      rw [hb, ge] at q'; cases q'
    · exact (gk b hb).symm.trans q
  · rw [upd_ne (Ne.symm M.dne)]
    exact I1.hok.fresh M.new
end
def rseS (c : Nat) (ns : List Str) (xs : List VV) (h : VH) : Rs Fl := if xs.length = ns.length then .exc c ns xs h else .bad
theorem ms_rse {X : Cx} {c : Cfg} {W : WX} {W0 : XK} {g fI : Nat} {ns : List Str} {e : Expr} {es : List Expr} {fs : Sl → VH → Rs (List VV)} {x : Str} {p pos pos' : Pos} {k : Nat} (T : Ex.Txt X.K X.prog X.mg (c.ad g) fI ns) (hfs : ns ≠ []) (hfl : ns.length ≤ 800) (hr : Room k X.A) (hg : Gl X x) (hm : X.mg x = some (.ref (c.ad g))) (hdb : (x == ("__debug__" : Str)) = false)
    (hs : (e :: es).all (fun e => !isStar e) = true) (hc : X.calm = true) (tk : Takes X W) (ha : PA X (e :: es) (tA c W fs)) : PS X (.Raise (some (.Call (.Name x p) (e :: es) [] pos)) none pos') (tS c W fun s h => (fs s h).bind fun xs h1 => rseS g ns xs h1) :=
  (ps_raise hc tk (pmk_x T hfs hfl hr hg hm hdb hs ha)).imp fun D σ H ⟨z, h, s, at_, p⟩ => ⟨z, h, s, at_, (p.bind σ).mono (fun z1 xs h1 e1 m1 p1 ys r1 => by
    have a1 := at_.next e1 m1
    unfold rseS at p1
    split at p1
    · rename_i hl
      have l1 := r1.length
      refine ⟨by omega, fun d hd => ?_⟩
      obtain ⟨zf, zs⟩ : (ns.zip ys).map (·.1) = ns ∧ (ns.zip ys).map (·.2) = ys := ⟨List.map_fst_zip (by omega), List.map_snd_zip (by omega)⟩
      have e2 : Ext z1 (z1.put d (.xd (ns.zip ys))) := Ext.put hd m1.rs
      have q := p1 _ σ d (ns.zip ys) e2 (m1.put hd) upd_same (m1.fre hd).put zf (by rw [zs]; exact r1.mono e2)
      rw [show (z1.put d (.xd (ns.zip ys))).ad = c.ad from a1.ad] at q
      exact q
    · exact p1.elim) fun _ _ _ q => q⟩
end Mini
end
section
set_option Elab.async false
set_option linter.all false
set_option maxRecDepth 100000
set_option maxHeartbeats 4000000
/-! Mini, part 19: calls of defs. -/
namespace Mini
open PySem PySem.Spec PyProof.Rows L2
/-- a def's promise where no guard stands around -/
structure FnG (P : Program) (w : World) (K : PySem.W.Frag) (mg : Str → Option Value) (base : Heap) (k : Nat) (f : Addr) (fd : FuncData) (ps : List Str) (sp : Sp) : Prop where
  len : ∀ vs H Q E, sp vs H Q E → vs.length = ps.length
  run : ∀ (A : Around) (outer : List Env) (s : Shared) (H : Hp) (args : Args) (us : List Value) (vs : List V) (Q : VK) (E : XK), A.guards = some [] → Room k A → Env0 P w K mg base A outer s H → BindsTo s fd args (ps.zip us) → Vals vs us → sp vs H Q E →
    codeAny (model P w) A (.call (.ref f) args) (CR (L2.CX P w) outer P w H s Q E) s
theorem FnG.mono {P : Program} {w : World} {K : PySem.W.Frag} {mg : Str → Option Value} {base : Heap} {j k : Nat} {f : Addr} {fd : FuncData} {ps : List Str} {sp : Sp} (F : FnG P w K mg base j f fd ps sp) (h : j ≤ k) : FnG P w K mg base k f fd ps sp :=
  ⟨F.len, fun A outer s H args us vs Q E hg hr => F.run A outer s H args us vs Q E hg (hr.mono h)⟩
/-- f(..): the wish about exceptions at these slots -/
def tCallW (sp : Sp) (W : WX) (t : TA) : TE := fun σ H Q => t σ H fun vs H1 => sp vs H1 Q fun cls d H' => W cls d σ H'
section
variable {X : Cx} {W : WX} {k : Nat} {f : Addr} {fd : FuncData} {ps : List Str} {sp : Sp} {x : Str} {p pos : Pos} {e : Expr} {es : List Expr} {t : TA}
theorem run_fnG {pins : List (Addr × Obj)} {σ : L2.St} {H : Hp} {s : Shared} {Q : VK} {us : List Value} {vs : List V} {args : Args} (F : FnG X.prog X.w X.K X.mg X.base k f fd ps sp) (hr : Room k X.A) (hgd : X.A.guards = some []) (tk : Takes X W) (I : Inv X pins σ H s) (hb : us.length = ps.length → BindsTo s fd args (ps.zip us)) (r : Vals vs us)
    (h : sp vs H Q fun cls d H' => W cls d σ H') : codeAny (model X.prog X.w) X.A (.call (.ref f) args) (fun r s' => match r with | .ok (.ret v) => EP X pins σ Q v s' | .ok _ => False | .error e => X.xe e s') s := by
  have hl : us.length = ps.length := by rw [← r.length]; exact F.len _ _ _ _ h
  refine codeAny_mono (F.run X.A X.stack s H args us vs Q _ hgd hr I.env0 (hb hl) r h) fun r s' hq => ?_
  cases r with
  | error e => exact tk e s' (XE.of_call I (fun _ _ _ q => q) hq)
  | ok fl =>
    cases fl with
    | ret u => exact I.after hq
    | next => exact False.elim hq
    | brk => exact False.elim hq
    | cont => exact False.elim hq
theorem pe_callG (F : FnG X.prog X.w X.K X.mg X.base k f fd ps sp) (hr : Room k X.A) (hgd : X.A.guards = some []) (hg : Gl X x) (hm : X.mg x = some (.ref f)) (hk : PySem.W.keepIn X.K (.ref f) = true) (hb : Binds X.K fd ps []) (tk : Takes X W) (hdb : (x == ("__debug__" : Str)) = false)
    (hs : (e :: es).all (fun e => !isStar e) = true) (ha : PA X (e :: es) t) : PE X (.Call (.Name x p) (e :: es) [] pos) (tCallW sp W t) := by
  have h0 : isStar e = false := by rw [List.all_cons, Bool.and_eq_true] at hs; simpa using hs.1
  have hs' : es.all (fun e => !isStar e) = true := by rw [List.all_cons, Bool.and_eq_true] at hs; exact hs.2
  refine ⟨fun pins s σ H Q I h => ?_⟩
  refine wpAny_Call_Name_kw (ld_glob I hg hm ?_ hdb)
  refine PySem.W.callWith_K (h₀ := X.base) I.ok.mod.kin hk (thn (ha.run pos pins s σ H _ I h) fun us s1 ⟨vs, H1, I1, r, q⟩ => ⟨I1.kIn, ?_⟩) (star_cons h0) (back_any hs')
  refine wpAny_call (run_fnG F hr hgd tk I1 (fun hl => ?_) r q)
  have := hb s1 us I1.kIn (by rw [List.append_nil]; exact hl)
  rwa [List.append_nil] at this
end
/-! ### the promise by the evaluator -/
def spM (K : PySem.W.Frag) (ad : Nat → Addr) (P : Prog) (n g : Nat) (m : Nat) (nl : Bool) : Sp := fun vs H Q E => vs.length = m ∧ ∃ z h xs, z.K = K ∧ z.ad = ad ∧ (nl = true → z.lam = none) ∧ z.H = H ∧ Md z h ∧ RelL z xs vs ∧ Post z (run P n g noCl (some xs) h) (QE Q) E
section
variable {X : Cx} {c : Cfg} {W : WX} {P : Prog} {n g k : Nat} {f : Addr} {fd : FuncData} {ps : List Str} {x : Str} {p pos : Pos} {e : Expr} {es : List Expr} {fs : Sl → VH → Rs (List VV)} {nl : Bool}
def argS (m : Nat) (fn : List VV → VH → Rs VV) (xs : List VV) (h : VH) : Rs VV := if xs.length = m then fn xs h else .bad
theorem me_fcl (F : FnG X.prog X.w X.K X.mg X.base k f fd ps (spM c.K c.ad P n g ps.length nl)) (hnl : nl = true → c.lam = none) (hr : Room k X.A) (hgd : X.A.guards = some []) (hg : Gl X x) (hm : X.mg x = some (.ref f)) (hk : PySem.W.keepIn X.K (.ref f) = true) (hb : Binds X.K fd ps []) (tk : Takes X W) (hdb : (x == ("__debug__" : Str)) = false)
    (hs : (e :: es).all (fun e => !isStar e) = true) (ha : PA X (e :: es) (tA c W fs)) : PE X (.Call (.Name x p) (e :: es) [] pos) (tE c W fun s h => (fs s h).bind fun xs h1 => argS ps.length (fun xs h => run P n g noCl (some xs) h) xs h1) :=
  (pe_callG F hr hgd hg hm hk hb tk hdb hs ha).imp fun σ H Q ⟨z, h, s, at_, p⟩ => ⟨z, h, s, at_, p.bind.mono (fun z1 xs h1 e1 m1 p1 ys r1 => by
    have a1 := at_.next e1 m1
    unfold argS at p1
    split at p1
    · rename_i hl
      exact ⟨by rw [← r1.length]; exact hl, z1, h1, xs, a1.K, a1.ad, fun e => a1.lam.trans (hnl e), rfl, m1, r1, p1⟩
    · exact p1.elim) fun _ _ _ q => q⟩
end
theorem startS_rel {z : Rz} {F : Fn} {N : List Str} {xs : List VV} {vs : List V} (hN : N.length = F.nsl) (hl : xs.length ≤ F.nsl) (r : RelL z xs vs) : RelS z (startS F xs) (L2.start N vs) := by
  have l := r.length
  unfold startS L2.start
  refine ⟨by simp [l, hN], fun i v q => ?_⟩
  by_cases hi : i < xs.length
  · rw [List.getElem?_append_left (by simpa using hi), List.getElem?_map] at q
    cases e : xs[i]? with
    | none => rw [e] at q; cases q
    | some u =>
      rw [e] at q
      cases q
      obtain ⟨w, e1, r1⟩ := r.get e
      exact ⟨w, by rw [List.getElem?_append_left (by simpa using (by omega : i < vs.length)), List.getElem?_map, e1]; rfl, r1⟩
  · rw [List.getElem?_append_right (by simpa using Nat.le_of_not_lt hi)] at q
    rw [List.getElem?_replicate] at q
    split at q <;> cases q
section
variable {P : Program} {w : World} {K : PySem.W.Frag} {mg : Str → Option Value} {base : Heap} {k : Nat} {f : Addr} {name qual : Str} {params : Arguments} {body : List Stmt} {scope : Scope} {dV kV doc pm cdv ct oc : Value} {an od : Option Addr} {osl : Array (Option Value)} {N ps : List Str}
/-- a body's end, then the def's -/
theorem leave_ok {c : Cfg} {F : Fn} {z : Rz} {h : VH} {r : Rs Fl} {Q : VK} {E : XK} (m : Md z h) (p : Post z (leave F h.length r) (QE Q) E) : EndR c { nx := fun _ H' => Q .non H', rt := Q, bk := fun _ _ => False, ct := fun _ _ => False } (fun cls d _ H' => E cls d H') z r := by
  cases r with
  | bad => exact p
  | exc g ns vs h' => exact fun z' σ d fs e m' hd fr hn r => finX_ok m p e m' hd fr hn r
  | ok fl h' =>
    cases fl with
    | rt v => exact fun z' x e m' r => fin_ok m p e m' r
    | nx s => exact fun z' σ e m' r => fin_ok m p e m' (v := .non) (x := .non) rfl
    | bk s => exact (p : False).elim
    | ct s => exact (p : False).elim
theorem def_ok {c : Cfg} {nl : Bool} {PG : Prog} {F : Fn} {n g : Nat} (lk : K.lookup f = some ⟨oc, od, .func (PySem.W.fnOf name qual params body scope dV kV doc pm an cdv ct), osl⟩) (hcd : PySem.W.codeIn K cdv qual = true) (S : FnScope N ps scope) (hF : PG.fns[g]? = some F) (hN : N.length = F.nsl) (hp : ps.length = F.ps) (hcc : c.cod = []) (hgn : c.gnd = none) (htb : c.tbs = [])
    (hbody : ∀ (l : Option V), (nl = true → l = none) → ∀ (A : Around) (outer : List Env) (s : Shared) (H : Hp) (E : XK), (A.deeper (envOfC qual scope s.heap.objs.size f cdv)).guards = some [] → Room k (A.deeper (envOfC qual scope s.heap.objs.size f cdv)) →
      PSs (cxOf (L2.CX P w) P w K mg base N qual scope f cdv A outer s H E) body (tS { c with lam := l } (fun cls d _ H => E cls d H) fun s h => exs ⟨fun g xs h => run PG n g noCl (some xs) h, fun g cl h => run PG n g cl none h, noCl, PG.sub, PG.flds, PG.cls⟩ F.body s h)) :
    FnG P w K mg base (k + 1) f (PySem.W.fnOf name qual params body scope dV kV doc pm an cdv ct) ps (spM c.K c.ad PG (n + 1) g ps.length nl) := by
  refine ⟨fun vs H Q E h => h.1, fun A outer s H args us vs Q E hg hr e0 hb r h => ?_⟩
  obtain ⟨hl, z, hv, xs, zK, zA, zL, zH, md, rl, p⟩ := h
  refine LamX.run_ofS lk hcd S hr e0 hb r hl fun hr' => ⟨_, hbody z.lam zL A outer s H E hg hr', z, hv, startS F xs, ?_⟩
  have lx : xs.length = F.ps := by rw [rl.length, hl, hp]
  have hpl : ps.length ≤ N.length := by have := congrArg List.length S.pre; rw [List.length_take] at this; omega
  refine ⟨⟨zK, zA, zH, md, startS_rel hN (by omega) rl, rfl, fun p h => (by rw [hcc] at h; cases h), fun g h => (by rw [hgn] at h; cases h), fun p h => (by rw [htb] at h; cases h)⟩, ?_⟩
  unfold run at p
  rw [hF] at p
  dsimp only at p
  rw [if_pos lx] at p
  exact leave_ok md p
end
end Mini
end
section
set_option Elab.async false
set_option linter.all false
set_option maxRecDepth 100000
set_option maxHeartbeats 4000000
/-! Mini, part 20: lambdas, with defaults or none. -/
namespace Mini
namespace Lm
open PySem PySem.Spec PyProof.Rows L2 LamX
open PySem.W (kdv_fn kdv_obj kdv_tup)
/-- the defaults' tuple -/
def DfAt (h : Heap) (dV : Value) (dv : List Value) : Prop := (dv = [] ∧ dV = .none) ∨ ∃ T, dV = .ref T ∧ h.get? T = some (kdv_tup dv)
structure LamP (params : Arguments) (body : Expr) (scope : Scope) : Prop where
  kw : params.kw_defaults = []
  dfl : params.defaults = [] ∨ ∃ i j p, params.defaults = [.Constant (.int i) j p]
  bind : ∀ (dv : List Value), (params.defaults = [] ∧ dv = []) ∨ (∃ i j p t, params.defaults = [.Constant (.int i) j p] ∧ dv = [.int i t]) → ∃ bs : List (Str × Value), (∀ y ∈ bs, scope.names.lookup y.1 = some .local) ∧
    ∀ (q : Str) (cl : List (Str × Addr)) (dV doc pm cv ctv : Value) (s : Shared), DfAt s.heap dV dv → BindsTo s (kdv_fn "<lambda>" q params (.expr body) scope cl dV doc pm cv ctv) ⟨[], []⟩ bs
/-- the lambda's names: own ones that the maker has not; captured ones -/
structure LamT (N : List Str) (sc scope : Scope) : Prop where
  kind : scope.kind = .function
  co : scope.isCoroutine = false
  gen : scope.isGenerator = false
  own : ∀ y ∈ scope.names, y.2 ≠ .cell ∧ (y.2 = .local → y.1 ∉ N)
  free : ∀ y ∈ scope.names, y.2 = .free → sc.names.lookup y.1 = some .cell ∨ sc.names.lookup y.1 = some .free
theorem LamT.has {X : Cx} {scope : Scope} (L : LamT X.N X.env.scope scope) (ok : X.Ok) : ∀ y ∈ scope.names, y.2 = .free → ∃ c, X.env.cells.lookup y.1 = some c := fun y hy e => ok.has _ (L.free y hy e)
section
variable {X : Cx} {pins : List (Addr × Obj)} {σ : L2.St} {H : Hp} {s : Shared}
/-- the function object is made -/
theorem lam_mk {T : List (Addr × Str)} {c P : Addr} {params : Arguments} {body : Expr} {scope : Scope} {pos : Pos} {E : Value → Shared → Prop} {Q : Value → Shared → Prop} (I : Inv X pins σ H s) (TB : TabB X.base X.mg c P) (hcode : X.env.code = .ref c)
    (hm : (P, X.env.qual ++ "<lambda>") ∈ T) (hu : ∀ p ∈ T, p.1 = P → p.2 = X.env.qual ++ "<lambda>") (hT : Tabs T H) (LP : LamP params body scope) (hfree : ∀ y ∈ scope.names, y.2 = .free → ∃ c, X.env.cells.lookup y.1 = some c)
    (h : ∀ (f c' : Addr) (dV doc pm ctv : Value) (dv : List Value) (H1 : Hp) (s' : Shared), Inv X pins σ H1 s' → ExtN H H1 → (∀ b, H1 b = none → H b = none) → (∀ b ps, H b = some (.tbl ps) → b ∉ T.map (·.1) → H1 b = H b) → Tabs T H1 → (params.defaults = [] ∧ dv = []) ∨ (∃ i j p t, params.defaults = [.Constant (.int i) j p] ∧ dv = [.int i t]) →
      DfAt s'.heap dV dv → (∀ b, dV = .ref b → H1 b = none ∧ b ∉ frs X.stack) → s'.heap.get? f = some (kdv_obj "<lambda>" (X.env.qual ++ "<lambda>") params (.expr body) scope (cloFrom X.env.cells scope.names []) dV doc pm c' ctv) → H1 f = none → f ∉ frs X.stack → H1 c' = some (CodeO c' (X.env.qual ++ "<lambda>")) → Q (.ref f) s') :
    wpAny (model X.prog X.w) X.A (eval (.Lambda params body scope pos) X.env) Q E s := by
  have nofr : ∀ {s0 : Shared}, Inv X pins σ H s0 → ∀ f, s0.heap.objs.size ≤ f → f ∉ frs X.stack := fun {s0} I f hf z => by
    rcases List.mem_cons.mp (I.stkSub _ z) with e | e
    · have h1 := I.lt
      rw [← e] at h1
      exact Nat.lt_irrefl _ (Nat.lt_of_lt_of_le h1 hf)
    · exact I.nofs hf e
  -- the tail, the defaults' tuple made
  have tail : ∀ (dV : Value) (dv : List Value) (s0 : Shared), Inv X pins σ H s0 → (params.defaults = [] ∧ dv = []) ∨ (∃ i j p t, params.defaults = [.Constant (.int i) j p] ∧ dv = [.int i t]) → DfAt s0.heap dV dv → (∀ b, dV = .ref b → H b = none ∧ b ∉ frs X.stack) →
      wpAny (model X.prog X.w) X.A (makeTail "<lambda>" (X.env.qual ++ "<lambda>") params (.expr body) scope X.env dV .none none pos pos.line) Q E s0 := by
    intro dV dv s0 I hd dfa dfn
    obtain ⟨ps, hP, ht, ha⟩ := hT _ hm
    have bP : s0.heap.BuiltinsAt X.mg P := TB.bm.keeps I.bk
    have hP' : s0.heap.get? P = some { cls := .none, data := .fields ps } := I.hok P _ hP
    have dkeep : ∀ {h' : Heap}, (∀ b o, b ≠ P → s0.heap.get? b = some o → h'.get? b = some o) → DfAt h' dV dv := fun {h'} kp => dfa.imp (fun z => z) fun ⟨b, e, o⟩ => ⟨b, e, kp b _ (fun z => by
      have := (dfn b e).1
      rw [z, hP] at this; cases this) o⟩
    cases hc : codeAmong pos ps.toList with
    | none =>
      refine PySem.W.kdv_makeTail (mg := X.mg) (c := c) (P := P) (ps := ps) (closure_ok hfree) I.ok.glob (I.mod.glob.keeps I.bk) hcode (TB.code.keeps I.bk) hP' ht hc TB.gP bP fun c' ctv doc h' tk hx hge hlt hrec htb => ?_
      obtain ⟨c2, oc, vs, t, e2, hoc, hdd, hv⟩ := hrec
      cases e2
      have hsz : s0.heap.objs.size ≤ h'.objs.size := Nat.le_trans hge (Nat.le_of_lt hlt)
      have nC : H c' = none := I.hok.fresh hge
      have I1 := inv_table (t' := tk) (more := #[rawInt pos.line, rawInt pos.col, .ref c']) (h' := h'.push (kdv_obj "<lambda>" (X.env.qual ++ "<lambda>") params (.expr body) scope (cloFrom X.env.cells scope.names []) dV doc ((X.mg "__name__").getD .none) c' ctv)) I hP
        (fun b o hb e => Heap.get?_push_of_some _ (hx b o hb e)) (Heap.get?_push_of_some _ htb) hge ⟨oc, vs, t, Heap.get?_push_of_some _ hoc, hdd, hv⟩
      have hE : ExtN H (upd (upd H P (.tbl (ps ++ #[rawInt pos.line, rawInt pos.col, .ref c']))) c' (CodeO c' (X.env.qual ++ "<lambda>"))) := fun b o e n => by
        rw [upd_ne (ne_of_none e nC), upd_ne (fun z => n ps (Option.some.inj (e.symm.trans (by rw [z]; exact hP))))]
        exact e
      have eL : (ps ++ #[rawInt pos.line, rawInt pos.col, .ref c']).toList = ps.toList ++ [rawInt pos.line, rawInt pos.col, .ref c'] := by simp
      have back : ∀ b, upd (upd H P (.tbl (ps ++ #[rawInt pos.line, rawInt pos.col, .ref c']))) c' (CodeO c' (X.env.qual ++ "<lambda>")) b = none → H b = none := fun b z => by
        by_cases q1 : b = c'
        · rw [q1, upd_same] at z; cases z
        · rw [upd_ne q1] at z
          by_cases q2 : b = P
          · rw [q2, upd_same] at z; cases z
          · rwa [upd_ne q2] at z
      refine h h'.objs.size c' dV doc ((X.mg "__name__").getD .none) ctv dv _ _ I1 hE back (fun b ps' e nb => ?_) (fun p hp => ?_) hd (dkeep fun b o hb e => Heap.get?_push_of_some _ (hx b o hb e)) (fun b e => ⟨?_, (dfn b e).2⟩) (Heap.get?_push_size _ rfl) ?_ (nofr I _ hsz) upd_same
      · rw [upd_ne (ne_of_none e nC), upd_ne fun z => nb (by rw [z]; exact List.mem_map_of_mem hm)]
      · by_cases hb : p.1 = P
        · rw [hu p hp hb, hb]
          refine ⟨_, by rw [upd_ne (ne_of_none hP nC), upd_same], by rw [eL]; exact PySem.TriplesOk_snoc _ _ _ _ ht, fun p' cv hcv => ?_⟩
          rw [eL] at hcv
          rcases among_app _ ht hcv with z | z
          · obtain ⟨c0, e1, e2⟩ := ha p' cv z
            exact ⟨c0, e1, hE _ _ e2 codeO_ne⟩
          · exact ⟨c', z, upd_same⟩
        · obtain ⟨ps', a1, a2, a3⟩ := hT p hp
          refine ⟨ps', by rw [upd_ne (ne_of_none a1 nC), upd_ne hb]; exact a1, a2, fun p' cv hcv => ?_⟩
          obtain ⟨c0, e1, e2⟩ := a3 p' cv hcv
          exact ⟨c0, e1, hE _ _ e2 codeO_ne⟩
      · have n1 := (dfn b e).1
        rw [upd_ne (fun z => ?_), upd_ne (ne_of_none hP n1).symm]
        · exact n1
        · rcases dfa with ⟨_, e0⟩ | ⟨b', e0, o0⟩
          · rw [e] at e0; cases e0
          · rw [e] at e0
            cases e0
            have := Heap.lt_size o0
            rw [z] at this
            exact Nat.lt_irrefl _ (Nat.lt_of_lt_of_le this hge)
      · have n1 : h'.objs.size ≠ c' := Nat.ne_of_gt hlt
        have n2 : h'.objs.size ≠ P := Nat.ne_of_gt (Nat.lt_of_lt_of_le (Heap.lt_size hP') hsz)
        rw [upd_ne n1, upd_ne n2]
        exact I.hok.fresh hsz
    | some cv =>
      obtain ⟨c', e, hco⟩ := ha pos cv hc
      subst e
      refine PySem.W.kdv_makeTailHit (mg := X.mg) (c := c) (P := P) (ps := ps) (closure_ok hfree) I.ok.glob (I.mod.glob.keeps I.bk) hcode (TB.code.keeps I.bk) hP' ht hc bP fun ctv doc h' tk hx hsz => ?_
      have I1 : Inv X pins σ H { s0 with heap := h'.push (kdv_obj "<lambda>" (X.env.qual ++ "<lambda>") params (.expr body) scope (cloFrom X.env.cells scope.names []) dV doc ((X.mg "__name__").getD .none) c' ctv), toks := tk } := I.kept fun b o e => Heap.get?_push_of_some _ (hx b o e)
      exact h h'.objs.size c' dV doc ((X.mg "__name__").getD .none) ctv dv H _ I1 (ExtN.refl H) (fun _ z => z) (fun _ _ _ _ => rfl) hT hd (dkeep fun b o _ e => Heap.get?_push_of_some _ (hx b o e)) dfn (Heap.get?_push_size _ rfl) (I.hok.fresh hsz) (nofr I _ hsz) hco
  rcases LP.dfl with hd | ⟨i, j, p, hd⟩
  · refine PySem.W.kla_eval (by rw [defaultsOf_eq, hd, LP.kw]; rfl) ?_
    rw [makeFunction_eq]
    simp only [List.zip_nil_right, List.filterMap_nil, List.isEmpty_nil, if_true, pure_bind]
    exact tail .none [] s I (.inl ⟨hd, rfl⟩) (.inl ⟨rfl, rfl⟩) fun b e => by cases e
  · refine PySem.W.kdv_lam (by rw [hd]; rfl) LP.kw ?_
    rw [hd]
    refine PySem.W.kdv_all1 (wpAny_Constant_int (PySem.W.kdv_all0 ?_))
    rw [makeFunction_eq]
    simp only [List.zip_nil_right, List.filterMap_nil, List.isEmpty_nil, List.isEmpty_cons, if_true, pure_bind, Bool.false_eq_true, if_false]
    refine wpAny_bind (wpAny_newTextTuple ?_)
    have I0 : Inv X pins σ H { s with heap := s.heap.push { cls := .type "tuple", data := .seq [Value.int i s.toks].toArray }, toks := s.toks + 1 } := I.kept fun b o e => Heap.get?_push_of_some _ e
    exact tail (.ref s.heap.objs.size) [.int i s.toks] _ I0 (.inr ⟨i, j, p, s.toks, hd, rfl⟩) (.inr ⟨_, rfl, Heap.get?_push_size _ rfl⟩) fun b e => by
      cases e
      exact ⟨I.hok.fresh (Nat.le_refl _), nofr I _ (Nat.le_refl _)⟩
/-- the context of the lambda's body -/
abbrev lmEnv (X : Cx) (scope : Scope) (L f c' : Addr) : Env := PySem.W.envX (X.env.qual ++ "<lambda>") scope L f (.ref c') (cloFrom X.env.cells scope.names [])
def lmCx (X : Cx) (A : Around) (outer : List Env) (s : Shared) (H : Hp) (E : XK) (scope : Scope) (f c' : Addr) : Cx where
  prog := X.prog
  w := X.w
  K := X.K
  mg := X.mg
  base := X.base
  A := A.deeper (lmEnv X scope s.heap.objs.size f c')
  N := X.N
  s_0 := s
  H_0 := H
  env := lmEnv X scope s.heap.objs.size f c'
  outer := outer
  stack := lmEnv X scope s.heap.objs.size f c' :: outer
  ex := []
  fn := fun _ => false
  calm := true
  pn := []
  xe := fun e s' => wpAny (model X.prog X.w) (A.deeper (lmEnv X scope s.heap.objs.size f c')) (leaving (lmEnv X scope s.heap.objs.size f c') e) (fun _ s'' => L2.CX X.prog X.w outer H s E e s'') (fun e' s'' => L2.CX X.prog X.w outer H s E e' s'') s'
theorem lm_start {HZ : Hp} {s1 : Shared} {A : Around} {outer : List Env} {E : XK} {scope : Scope} {f c' : Addr} {h₁ : Heap} {tk : Nat} {bs : List (Str × Value)} (I : Inv X pins σ H s) (L : LamT X.N X.env.scope scope) (hbs : ∀ y ∈ bs, scope.names.lookup y.1 = some .local) (e0 : Env0 X.prog X.w X.K X.mg X.base A outer s1 HZ) (hd : A.handled = none)
    (un : Un (frs X.stack) [] H HZ s.heap s1.heap) (hns : h₁.Ns s1.heap.objs.size fun y => bs.reverse.lookup y) (kp : ∀ b o, s1.heap.get? b = some o → h₁.get? b = some o) :
    Inv (lmCx X A outer s1 HZ E scope f c') [] σ HZ { s1 with heap := h₁, toks := tk } := by
  have hfree := L.has I.ok
  have cm : ∀ {y c}, (cloFrom X.env.cells scope.names []).lookup y = some c → X.env.cells.lookup y = some c := fun {y c} e => by
    rcases cloFrom_mem (PySem.mem_of_lookup e) with hm | ⟨h1, h2⟩
    · cases hm
    · obtain ⟨c1, hc⟩ := hfree _ h1 rfl
      have hc : X.env.cells.lookup y = some c1 := hc
      have e2 : c = c1 := by rw [h2, hc] <;> rfl
      rw [e2]; exact hc
  have look : ∀ {y}, scope.names.lookup y = some .free → ∃ c, (cloFrom X.env.cells scope.names []).lookup y = some c := fun {y} hl => mem_lookup (cloFrom_has (cells := X.env.cells) (acc := []) (PySem.mem_of_lookup hl))
  have cellK : ∀ {c : Addr} {v : Option Value}, H c = none → s.heap.IsCell c v → h₁.IsCell c v := fun {c v} n ⟨o, ho, hdd⟩ => by
    obtain ⟨sl, q⟩ := un.any ho n (by simp)
    exact ⟨_, kp _ _ q, hdd⟩
  have noA : ∀ b : Addr, b ∉ (lmCx X A outer s1 HZ E scope f c').ex := fun b z => absurd (show b ∈ ([] : List Addr) from z) (by simp)
  refine ⟨⟨e0.mod, L.kind, rfl, rfl, Nat.le_refl _, fun y z c e1 e2 => I.ok.inj y z c (cm e1) (cm e2), fun y hy => ?_, fun y c z _ => ?_, fun _ => hd, Around.frames_deeper e0.frames, .inr ⟨rfl, rfl⟩, fun b z => absurd z (noA b), e0.bs, e0.bsz, fun b _ _ => noA b, fun b z => absurd z (noA b), e0.funs, e0.frf⟩,
    rfl, e0.bare, Un.kept kp, ⟨_, hns, fun i y v e1 e2 e3 => ?_⟩, fun y c e => ?_, e0.hok.fresh (Nat.le_refl _), fun y c e => ?_, fun q hq => absurd (show q ∈ ([] : List (Addr × Obj)) ++ [] from hq) (by simp), e0.hok.kept kp, I.len⟩
  · have hy : scope.names.lookup y = some .cell ∨ scope.names.lookup y = some .free := hy
    rcases hy with hy | hy
    · exact absurd rfl (L.own _ (PySem.mem_of_lookup hy)).1
    · exact look hy
  · have z : false = true := z
    cases z
  · have e3 : Vis scope y := e3
    rcases e3 with k | k | k
    · exact absurd (List.mem_of_getElem? e1) ((L.own _ (PySem.mem_of_lookup k)).2 rfl)
    · exact absurd rfl (L.own _ (PySem.mem_of_lookup k)).1
    · obtain ⟨m, hn, hl⟩ := I.loc
      have hvis : Vis X.env.scope y := (L.free _ (PySem.mem_of_lookup k) rfl).elim (fun k => .inr (.inl k)) (fun k => .inr (.inr k))
      obtain ⟨w', r, q⟩ := hl i y v e1 e2 hvis
      obtain ⟨c2, h2⟩ := look k
      refine ⟨w', r, .inr ⟨.inr k, c2, h2, ?_⟩⟩
      have c1 := cm h2
      rcases q with ⟨k', _⟩ | ⟨_, c3, e', z⟩
      · have k' : X.env.scope.names.lookup y = some .local := k'
        rcases L.free _ (PySem.mem_of_lookup k) rfl with k2 | k2 <;> rw [show X.env.scope.names.lookup y = _ from k2] at k' <;> cases k'
      · rw [c1] at e'
        cases e'
        exact cellK (I.freeC y _ c1) z
  · obtain ⟨w', z⟩ := I.cell y c (cm e)
    exact ⟨w', cellK (I.freeC y c (cm e)) z⟩
  · obtain ⟨v, o, ho, hdd⟩ := I.cell y c (cm e)
    exact un.free c o ho (I.freeC y c (cm e)) (by simp)
/-- x(), in the def that got the lambda: Z is that def's context, entered at s -/
theorem pe_ask {Eg : XK} {Ng : List Str} {qg : Str} {sg : Scope} {g f c' : Addr} {cdg dV doc pm ctv : Value} {dv : List Value} {params : Arguments} {body : Expr} {scope : Scope} {k i : Nat} {a : Str} {pn : List (Addr × Obj)} {xe : Value → Shared → Prop} {W : WX} {tb : XK → TE} {p1 p2 : Pos}
    (I : Inv X pins σ H s) (L : LamT X.N X.env.scope scope) (LP : LamP params body scope) (hdv : (params.defaults = [] ∧ dv = []) ∨ (∃ i j p t, params.defaults = [.Constant (.int i) j p] ∧ dv = [.int i t])) (dfa : DfAt s.heap dV dv) (dfn : ∀ b, dV = .ref b → H b = none ∧ b ∉ frs X.stack)
    (hf : s.heap.get? f = some (kdv_obj "<lambda>" (X.env.qual ++ "<lambda>") params (.expr body) scope (cloFrom X.env.cells scope.names []) dV doc pm c' ctv)) (hfn : H f = none) (hfr : f ∉ frs X.stack)
    (tk : Takes ((cxOf (L2.CX X.prog X.w) X.prog X.w X.K X.mg X.base Ng qg sg g cdg X.A X.stack s H Eg).tr pn xe) W) (hgd : X.A.guards = some []) (hr : Room (k + 1) (X.A.deeper (envOfC qg sg s.heap.objs.size g cdg)))
    (hbody : ∀ (A : Around) (outer : List Env) (s : Shared) (H : Hp) (E : XK), A.guards = some [] → Room k (A.deeper (lmEnv X scope s.heap.objs.size f c')) → PE (lmCx X A outer s H E scope f c') body (tb E))
    (hN : Ng[i]? = some a) (hv : Vis sg a) (hd : (a == ("__debug__" : Str)) = false) (hcd : (a == ("__classdict__" : Str)) = false) :
    PE ((cxOf (L2.CX X.prog X.w) X.prog X.w X.K X.mg X.base Ng qg sg g cdg X.A X.stack s H Eg).tr pn xe) (.Call (.Name a p1) [] [] p2)
      (fun σZ HZ Q => σZ[i]? = some (some (.ref f)) ∧ HZ c' = some (CodeO c' (X.env.qual ++ "<lambda>")) ∧ tb (fun cls d H' => W cls d σZ H') σ HZ Q) := by
  refine ⟨fun pinsZ sZ σZ HZ Q IZ ⟨hs, hc, ht⟩ => ?_⟩
  refine wpAny_Call_Name_kw (thn ((pe_var (pos := p1) (i := i) hN hv hd hcd).run pinsZ sZ σZ HZ (fun v H1 => v = .ref f ∧ H1 = HZ) IZ ⟨.ref f, hs, rfl, rfl⟩) fun u s1 ⟨v, H1, I1, r1, ev, eH⟩ => ?_)
  subst ev
  rw [eH] at I1
  obtain rfl : u = Value.ref f := r1
  have keep1 : ∀ b o, s.heap.get? b = some o → H b = none → b ∉ frs X.stack → s1.heap.get? b = some o := fun b o e n nf => I1.base.keep b o e n nf (fun z => nomatch (show b ∈ ([] : List Addr) from z))
  have of1 := keep1 f _ hf hfn hfr
  have df1 : DfAt s1.heap dV dv := dfa.imp (fun z => z) fun ⟨b, e, o⟩ => ⟨b, e, keep1 b _ o (dfn b e).1 (dfn b e).2⟩
  obtain ⟨bs, hbs, hbind⟩ := LP.bind dv hdv
  refine PySem.W.callWith_F0 ⟨_, _, _, _, of1⟩ ?_
  have un : Un (frs X.stack) [] H HZ s.heap s1.heap := I1.base
  obtain ⟨⟨oc, vs, t, hoc, hdc, hvc⟩, _, _⟩ := I1.hok c' _ hc
  have rc : codeAny (model X.prog X.w) (X.A.deeper (envOfC qg sg s.heap.objs.size g cdg)) (.call (.ref f) ⟨[], []⟩) (CR (L2.CX X.prog X.w) (envOfC qg sg s.heap.objs.size g cdg :: X.stack) X.prog X.w HZ s1 Q fun cls d H' => W cls d σZ H') s1 := by
    refine PySem.W.kla_callFunE hr.depth of1 rfl L.co L.gen rfl ⟨c', oc, vs, t, rfl, hoc, hdc, hvc⟩ ?_
    refine hbind _ _ _ _ _ _ _ s1 df1 _ _ _ _ ?_
    refine wpAny_newFunctionEnv (fun y hy => (L.own y hy).1) hbs (fun h₁ hns hsb => ⟨I1.nolimit.fresh _ hsb, ?_⟩) L.kind
    show codeAny _ _ (.expr body (lmEnv X scope s1.heap.objs.size f c')) _ _
    have kp : ∀ b o, s1.heap.get? b = some o → h₁.get? b = some o := fun b o e => hsb.extBut b o (Nat.ne_of_lt (Heap.lt_size e)) (Heap.get?_push_of_some _ e)
    have J := lm_start (f := f) (c' := c') (E := fun cls d H' => W cls d σZ H') (tk := s1.toks + bs.length) I L hbs I1.env0 hr.hd un hns kp
    refine PySem.W.kla_codeExpr (wpAny_mono ((hbody (X.A.deeper (envOfC qg sg s.heap.objs.size g cdg)) _ s1 HZ _ hgd (hr.deeper _)).run [] _ _ HZ Q J ht) (fun v s' hq => ?_) fun e s' hq => hq)
    obtain ⟨w', H', J', rv, q⟩ := hq
    exact ⟨w', H', J'.os, J'.bare, J'.base, J'.hok, rv, q⟩
  refine wpAny_call (codeAny_mono rc fun r s' hq => ?_)
  cases r with
  | error e => exact tk e s' (XE.of_call I1 (fun _ _ _ q => q) hq)
  | ok fl =>
    cases fl with
    | ret u => exact I1.after hq
    | next => exact False.elim hq
    | brk => exact False.elim hq
    | cont => exact False.elim hq
end
end Lm
end Mini
end
section
set_option Elab.async false
set_option linter.all false
set_option maxRecDepth 100000
set_option maxHeartbeats 4000000
/-! Mini, part 21: f(lambda: ..). -/
namespace Mini
open PySem PySem.Spec PyProof.Rows L2 LamX Lm
theorem fin_okL {z z' : Rz} {h h' : VH} {v : VV} {x : V} {Q : VK} {W : XK} (m : Md z h) (p : Post z (fin false h.length v h') (QE Q) W) (hn : z.n ≤ z'.n) (e : Ext z (z'.drop z.n z.lam)) (m' : Md z' h') (r : Rel z' v x) : Q x z'.H := by
  unfold fin at p
  rw [if_neg Bool.false_ne_true] at p
  split at p
  · rename_i v' hv
    split at p
    · rename_i hc
      rw [← m.n] at p hv hc
      exact p (z'.drop z.n z.lam) e (m'.drop hn hc) x (frz_ok hn m' 30 hv r)
    · exact p.elim
  · exact p.elim
theorem finX_okL {z z' : Rz} {h h' : VH} {c : Nat} {ns : List Str} {vs : List VV} {d : Addr} {fs : List (Str × V)} {Q : VK} {W : XK} (m : Md z h) (p : Post z (finX c ns h.length vs h') (QE Q) W) (hn : z.n ≤ z'.n) (e : Ext z (z'.drop z.n z.lam)) (m' : Md z' h')
    (hd : z'.H d = some (.xd fs)) (fr : z'.Fre d) (hns : fs.map (·.1) = ns) (r : RelL z' vs (fs.map (·.2))) : W (.ref (z'.ad c)) (some d) z'.H := by
  unfold finX at p
  split at p
  · rename_i vs' hv
    split at p
    · rename_i hc
      rw [← m.n] at p hv hc
      exact p (z'.drop z.n z.lam) d fs e (m'.drop hn hc) hd (fr.drop hn) hns (frzL_ok hn (frz_ok hn m' 30) hv r)
    · exact p.elim
  · exact p.elim
theorem leaveL_ok {c : Cfg} {F : Fn} {z z1 : Rz} {h : VH} {r : Rs Fl} {Q : VK} {E : XK} (hk : F.keep = false) (m : Md z h) (hE : ∀ z2, Ext z1 z2 → z.n ≤ z2.n ∧ Ext z (z2.drop z.n z.lam)) (p : Post z (leave F h.length r) (QE Q) E) :
    EndR c { nx := fun _ H' => Q .non H', rt := Q, bk := fun _ _ => False, ct := fun _ _ => False } (fun cls d _ H' => E cls d H') z1 r := by
  cases r with
  | bad => exact p
  | exc g ns vs h' => exact fun z' σ d fs e m' hd fr hn r => finX_okL m p (hE z' e).1 (hE z' e).2 m' hd fr hn r
  | ok fl h' =>
    cases fl with
    | rt v =>
      have p' : Post z (fin false h.length v h') (QE Q) E := by rw [← hk]; exact p
      exact fun z' x e m' r => fin_okL m p' (hE z' e).1 (hE z' e).2 m' r
    | nx s =>
      have p' : Post z (fin false h.length .non h') (QE Q) E := by rw [← hk]; exact p
      exact fun z' σ e m' r => fin_okL m p' (hE z' e).1 (hE z' e).2 m' (v := .non) (x := .non) rfl
    | bk s => exact (p : False).elim
    | ct s => exact (p : False).elim
/-- the heap behind the making of a lambda -/
def Rz.lamd (z : Rz) (H1 : Hp) (f c' : Addr) (q : Str) : Rz := { z with H := H1, lam := some (.ref f), cod := (c', q) :: z.cod }
section
variable {z : Rz} {h : VH} {H1 : Hp} {f c' : Addr} {q : Str}
theorem lamd_keep (eN : ExtN z.H H1) (tk : ∀ b ps, z.H b = some (.tbl ps) → b ∉ z.tab.map (·.1) → H1 b = z.H b) {b : Addr} {o : HO} (e : z.H b = some o) (ht : ∀ p ∈ z.tab, p.1 ≠ b) : H1 b = some o := by
  by_cases k : ∃ ps, o = .tbl ps
  · obtain ⟨ps, rfl⟩ := k
    rw [tk b ps e fun hm => by
      obtain ⟨p, hp, rfl⟩ := List.mem_map.mp hm
      exact ht p hp rfl, e]
  · exact eN b o e fun ps w => k ⟨ps, w⟩
theorem lamd_md (m : Md z h) (hl : z.lam = none) (eN : ExtN z.H H1) (tk : ∀ b ps, z.H b = some (.tbl ps) → b ∉ z.tab.map (·.1) → H1 b = z.H b) (back : ∀ b, H1 b = none → z.H b = none) (T1 : Tabs z.tab H1) (hco : H1 c' = some (CodeO c' q)) : Ext0 z (z.lamd H1 f c' q) ∧ Md (z.lamd H1 f c' q) h := by
  have e0 : Ext0 z (z.lamd H1 f c' q) := ⟨rfl, rfl, Nat.le_refl _, fun _ _ => rfl, fun b u e fr => ⟨lamd_keep eN tk e fr.tab, fr.al, fr.res, fr.tab⟩, fun x e => by rw [hl] at e; cases e⟩
  refine ⟨e0, m.n, m.inj, fun k u e => (m.ob k u e).mono0 e0 ?_, fun b hb w => m.rs b hb (back b w), m.rl, T1, m.tl, fun p hp => ?_⟩
  · obtain ⟨w, e2⟩ := m.some (m.lt e)
    exact (lamd_keep eN tk e2 fun p hp w => (m.tl p hp).1 k (m.lt e) w.symm).trans e2.symm
  · rcases List.mem_cons.mp hp with rfl | hp
    · exact hco
    · exact eN _ _ (m.cd p hp) codeO_ne
theorem lamd_back (m : Md z h) (eN : ExtN z.H H1) (tk : ∀ b ps, z.H b = some (.tbl ps) → b ∉ z.tab.map (·.1) → H1 b = z.H b) {z2 : Rz} (e : Ext (z.lamd H1 f c' q) z2) : z.n ≤ z2.n ∧ Ext z (z2.drop z.n z.lam) := by
  refine ⟨e.n, ⟨⟨e.K, e.ad, Nat.le_refl _, e.al, fun b u w fr => ?_, fun _ h => h⟩, e.res, e.tab, fun b hb => ?_, fun p hp => e.cod p (List.mem_cons_of_mem _ hp), rfl⟩⟩
  · obtain ⟨w1, f1⟩ := e.H b u (lamd_keep eN tk w fr.tab) ⟨fr.al, fr.res, fr.tab⟩
    exact ⟨w1, f1.drop e.n⟩
  · refine (e.rs b hb).trans ?_
    show H1 b = z.H b
    cases w : z.H b with
    | none => exact absurd w (m.rs b hb)
    | some u => exact lamd_keep eN tk w fun p hp w => (m.tl p hp).2 (by rw [w]; exact hb)
end
section
variable {X : Cx} {c : Cfg} {W : WX} {PG : Prog} {F : Fn} {n k gi : Nat} {g cP P : Addr} {x a : Str} {pg : Arguments} {bg : List Stmt} {sg : Scope} {dV kV doc pm cdv ct oc : Value} {an od : Option Addr} {osl : Array (Option Value)} {Ng : List Str} {params : Arguments} {body : Expr} {scope : Scope} {p lpos pos : Pos} {eb : E}
def envN (PG : Prog) (n : Nat) (cl : (Nat → List VV → VH → Rs VV) → VH → Rs VV) : Env' := ⟨fun g xs h => run PG n g noCl (some xs) h, fun g cl h => run PG n g cl none h, cl, PG.sub, PG.flds, PG.cls⟩
def envL (PG : Prog) (n : Nat) : Env' := ⟨fun g xs h => run PG n g noCl (some xs) h, fun _ _ _ => .bad, fun _ _ => .bad, PG.sub, PG.flds, PG.cls⟩
/-- the def that is handed the lambda keeps its words, whatever the lambda is -/
def Hears (X : Cx) (c : Cfg) (PG : Prog) (F : Fn) (n kk : Nat) (Ng : List Str) (x : Str) (sg : Scope) (g : Addr) (cdv : Value) (bg : List Stmt) (a : Str) : Prop :=
  ∀ (s : Shared) (H : Hp) (E : XK) (f c' : Addr) (q : Str) (cl : (Nat → List VV → VH → Rs VV) → VH → Rs VV) (gn : Rz), (X.A.deeper (envOfC x sg s.heap.objs.size g cdv)).guards = some [] → Room kk (X.A.deeper (envOfC x sg s.heap.objs.size g cdv)) →
    (∀ (W : WX) (pn : List (Addr × Obj)) (xe : Value → Shared → Prop) (p1 p2 : Pos), Takes ((cxOf (L2.CX X.prog X.w) X.prog X.w X.K X.mg X.base Ng x sg g cdv X.A X.stack s H E).tr pn xe) W →
      PE ((cxOf (L2.CX X.prog X.w) X.prog X.w X.K X.mg X.base Ng x sg g cdv X.A X.stack s H E).tr pn xe) (.Call (.Name a p1) [] [] p2) (tE { c with lam := some (.ref f), cod := [(c', q)], gnd := some gn } W fun s h => ev (envN PG n cl) (.ask 0) s h)) →
    PSs (cxOf (L2.CX X.prog X.w) X.prog X.w X.K X.mg X.base Ng x sg g cdv X.A X.stack s H E) bg (tS { c with lam := some (.ref f), cod := [(c', q)], gnd := some gn } (fun cls d _ H => E cls d H) fun s h => exs (envN PG n cl) F.body s h)
theorem me_hcl (hK : X.K = c.K) (hcl : c.lam = none) (hg : Gl X x) (hm : X.mg x = some (.ref g)) (hk : PySem.W.keepIn X.K (.ref g) = true) (lk : X.K.lookup g = some ⟨oc, od, .func (PySem.W.fnOf x x pg bg sg dV kV doc pm an cdv ct), osl⟩) (hcg : PySem.W.codeIn X.K cdv x = true)
    (hb : L2.Binds X.K (PySem.W.fnOf x x pg bg sg dV kV doc pm an cdv ct) [a] []) (Sg : FnScope Ng [a] sg) (hNg : Ng[0]? = some a) (hva : Vis sg a) (hF : PG.fns[gi]? = some F) (hFn : Ng.length = F.nsl) (hFp : F.ps = 1) (hFk : F.keep = false)
    (hH : Hears X c PG F n (k + 1) Ng x sg g cdv bg a)
    (TB : TabB X.base X.mg cP P) (hcode : X.env.code = .ref cP) (htab : ∀ z h s σ H, At c z H h s σ → (P, X.env.qual ++ "<lambda>") ∈ z.tab ∧ ∀ p ∈ z.tab, p.1 = P → p.2 = X.env.qual ++ "<lambda>") (hr : Room (k + 2) X.A) (hgd : X.A.guards = some []) (tk : Takes X W) (L : LamT X.N X.env.scope scope) (LP : LamP params body scope)
    (hbody : ∀ (A : Around) (outer : List Env) (s : Shared) (H : Hp) (E : XK) (f c' : Addr), A.guards = some [] → Room k (A.deeper (lmEnv X scope s.heap.objs.size f c')) → ∀ lm cd gn, PE (lmCx X A outer s H E scope f c') body (tE { c with lam := lm, cod := cd, gnd := gn } (fun cls d _ H' => E cls d H') fun s h => ev (envL PG n) eb s h))
    (hdb : (x == ("__debug__" : Str)) = false) (hd : (a == ("__debug__" : Str)) = false) (hcd : (a == ("__classdict__" : Str)) = false) :
    PE X (.Call (.Name x p) [.Lambda params body scope lpos] [] pos) (tE c W fun s h => run PG (n + 1) gi (fun fn h' => ev { (envN PG (n + 1) noCl) with fn := fn, hc := fun _ _ _ => .bad, cl := fun _ _ => .bad } eb s h') none h) := by
  refine ⟨fun pins s σ H Q I ⟨z, h, s0, at_, pp⟩ => ?_⟩
  obtain rfl := at_.H
  obtain ⟨tm, tu⟩ := htab z h s0 σ _ at_
  refine wpAny_Call_Name_kw (ld_glob I hg hm ?_ hdb)
  refine PySem.W.callWith_K (h₀ := X.base) I.ok.mod.kin hk ?_ (star_cons rfl) rfl
  show wpAny _ _ (spliced ((false, eval (.Lambda params body scope lpos) X.env) :: backTo pos (starEach [] X.env))) _ _ s
  refine Calls.spliced_cons (lam_mk I TB hcode tm tu at_.md.tb LP (L.has I.ok) fun f c' dV' doc' pm' ctv dv H1 s' I1 eN back tbk T1 hdv dfa dfn hf hfn hfr hco => ?_)
  refine Calls.spliced_nil ⟨I1.kIn, ?_⟩
  have zl : z.lam = none := at_.lam.trans hcl
  obtain ⟨e0, m1⟩ := lamd_md (f := f) at_.md zl eN tbk back T1 hco
  have hb' : BindsTo s' (PySem.W.fnOf x x pg bg sg dV kV doc pm an cdv ct) ⟨[.ref f], []⟩ ([a].zip [.ref f]) := by
    have := hb s' [.ref f] I1.kIn rfl
    exact this
  have rc : codeAny (model X.prog X.w) X.A (.call (.ref g) ⟨[.ref f], []⟩) (CR (L2.CX X.prog X.w) X.stack X.prog X.w H1 s' Q fun cls d H' => W cls d σ H') s' := by
    refine run_ofS (N := Ng) (ps := [a]) (us := [.ref f]) (vs := [.ref f]) lk hcg Sg hr I1.env0 hb' (.cons rfl .nil) rfl fun hr' => ?_
    have hear := hH s' H1 (fun cls d H' => W cls d σ H') f c' (X.env.qual ++ "<lambda>") (fun fn h' => ev { (envN PG (n + 1) noCl) with fn := fn, hc := fun _ _ _ => .bad, cl := fun _ _ => .bad } eb s0 h') (z.lamd H1 f c' (X.env.qual ++ "<lambda>")) hgd hr' fun W' pn xe p1 p2 tk' => ?_
    · refine ⟨_, hear, z.lamd H1 f c' (X.env.qual ++ "<lambda>"), h, startS F [.lam], ⟨at_.K, at_.ad, rfl, m1, startS_rel (z := z.lamd H1 f c' (X.env.qual ++ "<lambda>")) (vs := [.ref f]) hFn (by
        have := (List.getElem?_eq_some_iff.mp hNg).1
        show 1 ≤ F.nsl
        omega) ⟨_, _, rfl, ⟨rfl, f, rfl⟩, rfl⟩, rfl, fun p hp => ?_, fun g hg => ?_, at_.tab⟩, ?_⟩
      · exact List.mem_cons.mpr (.inl (by simpa using hp))
      · cases hg; exact (Ext.refl _).toExt0
      · unfold run at pp
        rw [hF] at pp
        dsimp only at pp
        rw [if_pos ⟨hFp, hFk⟩] at pp
        exact leaveL_ok hFk at_.md (fun z2 e => lamd_back at_.md eN tbk e) pp
    · refine (pe_ask (tb := fun E => tE { c with lam := some (.ref f), cod := [(c', X.env.qual ++ "<lambda>")], gnd := some (z.lamd H1 f c' (X.env.qual ++ "<lambda>")) } (fun cls d _ H' => E cls d H') fun s h => ev (envL PG n) eb s h) (i := 0) I1 L LP hdv dfa dfn hf hfn hfr tk' hgd hr' (fun A outer s H E hg2 hr2 => hbody A outer s H E f c' hg2 hr2 _ _ _) hNg hva hd hcd).imp fun σZ HZ Q' ⟨zz, hz, sz, atz, pz⟩ => ?_
      obtain rfl := atz.H
      unfold ev at pz
      dsimp only at pz
      split at pz
      · rename_i q0
        obtain ⟨y, e1, r1⟩ := atz.sl.2 0 .lam q0
        have ey : y = .ref f := Option.some.inj (r1.1.symm.trans atz.lam)
        subst ey
        refine ⟨e1, atz.md.cd _ (atz.cod _ List.mem_cons_self), zz, hz, s0, ⟨atz.K, atz.ad, rfl, atz.md, (at_.sl.mono0 e0).mono0 (atz.gnd _ rfl), atz.lam, atz.cod, atz.gnd, atz.tab⟩, pz⟩
      · exact pz.elim
  refine wpAny_call (codeAny_mono rc fun r s2 hq => ?_)
  cases r with
  | error e => exact tk e s2 (XE.of_call I1 (fun _ _ _ q => q) hq)
  | ok fl =>
    cases fl with
    | ret u => exact I1.after hq
    | next => exact False.elim hq
    | brk => exact False.elim hq
    | cont => exact False.elim hq
end
end Mini
end
section
set_option Elab.async false
set_option linter.all false
set_option maxRecDepth 100000
set_option maxHeartbeats 4000000
/-! Mini, part 22: try: x = e; except C as n: y = n. -/
namespace Mini
open PySem PySem.Spec PyProof.Rows L2
section
variable {X : Cx} {pins : List (Addr × Obj)} {σ : L2.St} {H : Hp} {s : Shared}
/-- an object that was not known is known from now on -/
theorem adopt {a : Addr} {oe : Obj} {vs : Array Value} {cls : Value} {d : Option Addr} (I : Inv X pins σ H s) (ha : s.heap.get? a = some oe) (hz : Zc cls d oe) (hd : oe.data = .fields vs) (na : H a = none) (n0 : X.s_0.heap.get? a = none) (nL : a ≠ X.env.locals) (np : ∀ p ∈ X.pn ++ pins, p.1 ≠ a) :
    Inv X pins σ (upd H a (ExH cls d a)) s := by
  have ncell : ∀ x c, X.env.cells.lookup x = some c → c ≠ a := fun x c e z => by
    obtain ⟨v, o, ho, hdd⟩ := I.cell x c e
    rw [z, ha] at ho
    cases ho
    rw [hd] at hdd; cases hdd
  have ne : ∀ b u, H b = some u → b ≠ a := fun b u e => ne_of_none e na
  refine ⟨I.ok, I.os, I.bare, ⟨I.base.keep, I.base.slot, fun b o e n hx => ?_, I.base.there, fun b xs e => ?_, fun b o u e => ?_, fun b ps e => ?_⟩, I.loc, I.cell, ?_, fun x c e => ?_, fun p hp => ?_, fun b u e => ?_, I.len⟩
  · rw [upd_ne fun z => by rw [z, n0] at e; cases e]
    exact I.base.free b o e n hx
  · exact (upd_ne (ne _ _ (I.base.tups b xs e))).trans (I.base.tups b xs e)
  · exact (upd_ne (ne _ _ (I.base.frzs b o u e))).trans (I.base.frzs b o u e)
  · obtain ⟨more, q⟩ := I.base.tbls b ps e
    exact ⟨more, (upd_ne (ne _ _ q)).trans q⟩
  · rw [upd_ne (Ne.symm nL)]; exact I.free
  · rw [upd_ne (ncell x c e)]; exact I.freeC x c e
  · obtain ⟨p1, p2, p3⟩ := I.pin p hp
    exact ⟨p1, by rw [upd_ne (np p hp)]; exact p2, p3⟩
  · by_cases q : b = a
    · rw [q, upd_same] at e
      cases e
      rw [q]
      exact ⟨⟨oe, ha, hz, vs, hd⟩, ⟨oe, ha⟩, fun h1 h2 ⟨o1, e1, z1, v1⟩ st => ⟨o1, st _ e1, z1, v1⟩⟩
    · rw [upd_ne q] at e
      exact (I.hok b u e).stay (fun _ _ _ z => z) (fun c w => (upd_ne (ne _ _ w)).trans w) fun c xs w => (upd_ne (ne _ _ w)).trans w
end
/-- what the clause wishes: the caught one is kept in slot j, the clause's own name (slot k) is gone -/
def wKeep (K : PySem.W.Frag) (c : Value) (j k : Nat) (Wout : WX) (D : Ends) : WX := fun cls d σ H => ∃ b, PySem.W.exmOne K cls c = some b ∧ (b = true → ∀ a, H a = none → D.nx (((σ.set k (some (.ref a))).set j (some (.ref a))).set k none) (upd H a (ExH cls d a))) ∧ (b = false → Wout cls d σ H)
section
variable {X : Cx} {x n y : Str} {c : Value} {j k : Nat} {body : List Stmt} {np p1 p2 p3 pos pos' : Pos} {tb : WX → TS} {Wout : WX}
theorem ps_keep (hex : X.ex = []) (hs : X.stack = X.env :: X.outer) (hf : X.env.frame = some X.env.locals) (hN : X.N.Nodup) (hk : X.N[k]? = some n) (hj : X.N[j]? = some y) (hln : X.env.kindOf n = some .local) (hly : X.env.kindOf y = some .local) (hdn : (n == ("__debug__" : Str)) = false) (hcn : (n == ("__classdict__" : Str)) = false) (hc : Names X x c) (tk : Takes X Wout)
    (hb : ∀ (W : WX) (pn : List (Addr × Obj)) (xe : Value → Shared → Prop), Takes (X.tr pn xe) W → PSs (X.tr pn xe) body (tb W)) :
    PS X (.Try body [.ExceptHandler (some (.Name x np)) (some n) [.Assign [.Name y p1] (.Name n p2) p3] pos'] [] [] pos) (fun D σ H => tb (wKeep X.K c j k Wout D) D σ H) := by
  refine ⟨fun pins s σ H D I h => ?_⟩
  have ok := I.ok
  have hfr : X.A.frames = some (X.env :: X.outer) := by rw [ok.frames, hs]
  have hloc : Loc X.env.scope n := .inl hln
  refine wpAny_Try_except ?_
  refine wpAny_mono ((hb (wKeep X.K c j k Wout D) (X.pn ++ pins) (fun e s₁ => wpAny (model X.prog X.w) X.A (noteFrame e X.env) (fun _ s₂ => wpAny (model X.prog X.w) X.A (setFlight e none) (fun _ s₃ =>
    wpAny (model X.prog X.w) X.A (handleBy e X.env [.ExceptHandler (some (.Name x np)) (some n) [.Assign [.Name y p1] (.Name n p2) p3] pos']) (SP X pins D) X.xe s₃) X.xe s₂) X.xe s₁) (fun u s' xx => ?_)).run [] s σ H D (I.toTry _) h) (fun f s1 hsp => ?_) (fun e s1 he => he)
  · -- what flies is caught
    obtain ⟨a, B, sI, pins', σ', H', cls, d, rfl, J', nb, up, sky, na, os, ag, b, hb1, hyes, hno⟩ := xx
    have J : Inv X pins σ' H' sI := J'.ofTry ok
    have sky' : Sky B (X.env :: X.outer) a (Zc cls d) X.env.locals s'.heap := by rw [← hs]; exact sky
    show wpAny (model X.prog X.w) X.A (noteFrame (.ref a) X.env) _ _ _
    refine Sky.land Zc.steady hfr hf sky' fun h3 fl3 up3 => ?_
    have J3 : Inv X pins σ' H' { s' with heap := h3 } := J.landed nb fl3.1 (up.trans up3) os ag
    obtain ⟨oe3, vs3, he3, hz3, hd3⟩ := fl3.there
    have notFr : ∀ {h : Heap} {o : Obj} {vs : Array Value}, h.FunFrames B (X.env :: X.outer) → h.get? a = some o → o.data = .fields vs → a ∉ frs (X.env :: X.outer) := fun {h o vs} ff e dd hm => by
      obtain ⟨_, o', e', hnf⟩ := ff.mem hm
      rw [e] at e'; cases e'
      exact hnf _ dd
    have nfr := notFr fl3.2.2.1 he3 hd3
    have nL : a ≠ X.env.locals := fun z => nfr (List.mem_filterMap.mpr ⟨X.env, List.mem_cons_self, by rw [hf, z]⟩)
    have nF : a ∉ X.fs := fun hm => by
      obtain ⟨e, he, q⟩ := List.mem_filterMap.mp hm
      exact nfr (List.mem_filterMap.mpr ⟨e, List.mem_cons_of_mem _ he, q⟩)
    -- it is younger than the frame, and none of the pins
    have nB : B.get? a = none := fl3.2.1
    have nI : ∀ o, sI.heap.get? a ≠ some o := fun o e => by
      have := nb a o e (by rw [hs]; exact nfr)
      rw [nB] at this; cases this
    have n0 : X.s_0.heap.get? a = none := by
      cases e : X.s_0.heap.get? a with
      | none => rfl
      | some o =>
        obtain ⟨o', e'⟩ := J.base.there a o e (by rw [hex]; simp)
        exact absurd e' (nI o')
    have np' : ∀ p ∈ X.pn ++ pins, p.1 ≠ a := fun p hp z => nI p.2 (by rw [← z]; exact (J'.pin p (List.mem_append_left _ hp)).1)
    have S3 := J3.suite he3 hd3 na nL nF
    refine wpAny_handleBy_cons (codeAny_handlers_test ?_) (by intro q; cases q)
    have LT : PySem.W.Looks (model X.prog X.w) h3 (typeOf (.ref a)) cls := fun A Q E s k q => wpAny_typeOf_ref (k _ _ he3) (by rw [hz3.1]; exact q)
    have LM := PySem.W.exm_one (M := model X.prog X.w) (J3.kIn) LT hb1
    have test : ∀ {Q : Value → Shared → Prop} {E : Value → Shared → Prop}, Q c { s' with heap := h3 } → wpAny (model X.prog X.w) (X.A.mark (some (.ref a))) (eval (.Name x np) X.env) Q E { s' with heap := h3 } := fun {Q E} q => by
      obtain ⟨hg, hdbg, hm | ⟨hm, hv, hnn⟩⟩ := hc
      · exact ld_glob (X := X.suite a ((a, oe3) :: (X.pn ++ pins))) S3 hg hm q hdbg
      · exact ld_blt (X := X.suite a ((a, oe3) :: (X.pn ++ pins))) S3 hg hm hv q hnn hdbg
    refine test (LM.here ?_)
    cases b with
    | true =>
      refine codeAny_handlers_suite_as ?_
      refine HandSPX.lands_againZ fl3 fun h4 fl4 up4 => ?_
      have J4 : Inv X pins σ' H' { s' with heap := h4 } := J.landed nb fl4.1 ((up.trans up3).trans up4) os ag
      obtain ⟨oe4, vs4, he4, hz4, hd4⟩ := fl4.there
      have S4 := J4.suite he4 hd4 na nL nF
      have hk' : (X.suite a ((a, oe4) :: (X.pn ++ pins))).N[k]? = some n := hk
      refine store_ok (X := X.suite a ((a, oe4) :: (X.pn ++ pins))) (v := .ref a) S4 hN hk hloc rfl (fun s5 S5 => ?_) (.inr hln)
      have lenk : k < σ'.length := by rw [J.len]; exact (List.getElem?_eq_some_iff.mp hk).1
      have suite : PSs (X.suite a ((a, oe4) :: (X.pn ++ pins))) [.Assign [.Name y p1] (.Name n p2) p3] (tAsg (tVar k) (gName j)) :=
        pss_one (ps_set (X := X.suite a ((a, oe4) :: (X.pn ++ pins))) hN hj (.inl hly) (pe_var (X := X.suite a ((a, oe4) :: (X.pn ++ pins))) hk (.inl hln) hdn hcn) (swaps_ok rfl) (.inr hly))
      refine wpAny_mono (suite.run [] s5 _ H' { nx := fun σ6 H6 => σ6 = (σ'.set k (some (.ref a))).set j (some (.ref a)) ∧ H6 = H', rt := fun _ _ => False, bk := fun _ _ => False, ct := fun _ _ => False } S5 ⟨.ref a, List.getElem?_set_self lenk, rfl, rfl⟩) (fun f s6 hsp => ?_) (fun _ _ z => False.elim z)
      cases f with
      | next =>
        obtain ⟨σ6, H6, S6, rfl, rfl⟩ := hsp
        obtain ⟨g1, _⟩ := S6.pin (a, oe4) (List.mem_append.mpr (.inl List.mem_cons_self))
        have J6 := adopt (S6.unsuite ok) g1 hz4 hd4 na n0 nL np'
        exact gone_ok J6 hN hk hln fun s7 J7 => ⟨_, _, J7, hyes rfl a na⟩
      | brk => obtain ⟨_, _, _, z⟩ := hsp; exact z.elim
      | cont => obtain ⟨_, _, _, z⟩ := hsp; exact z.elim
      | ret u => obtain ⟨_, _, _, _, _, z⟩ := hsp; exact z.elim
    | false =>
      show wpAny _ X.A (handleBy (.ref a) X.env []) _ _ _
      refine wpAny_handleBy_nil ?_
      obtain ⟨k1, k2, k3, oe, vs, T, oT, ts', he, hz, hd, h1, hr⟩ := id fl3
      unfold PySem.passOn
      refine wpAny_bind (wpAny_field he hd h1 ?_)
      rw [if_neg (show ¬ ((Value.ref T == Value.none) = true) from by simp)]
      have fin : wpAny (model X.prog X.w) X.A (setFlight (.ref a) X.env.frame) (fun _ s4 => wpAny (model X.prog X.w) X.A (throw (.ref a) : Sem Flow) (SP X pins D) X.xe s4) X.xe { s' with heap := h3 } := by
        rw [hf]
        refine HandSPX.setFlight_upZ fl3 fun h4 hh4 up4 => wpAny_throw (tk _ _ ?_)
        exact ⟨a, B, sI, pins, σ', H', cls, d, rfl, J, nb, (up.trans up3).trans up4, .inr (.inr (by rw [hs]; exact hh4)), na, os, ag, hno rfl⟩
      first
        | exact wpAny_bind (wpAny_pure (wpAny_bind fin))
        | exact wpAny_bind fin
  · cases f with
    | next =>
      obtain ⟨σ', H', J', q⟩ := hsp
      exact wpAny_execs_nil ⟨σ', H', J'.ofTry ok, q⟩
    | brk =>
      obtain ⟨σ', H', J', q⟩ := hsp
      exact ⟨σ', H', J'.ofTry ok, q⟩
    | cont =>
      obtain ⟨σ', H', J', q⟩ := hsp
      exact ⟨σ', H', J'.ofTry ok, q⟩
    | ret u =>
      obtain ⟨v, σ', H', J', r, q⟩ := hsp
      exact ⟨v, σ', H', J'.ofTry ok, r, q⟩
end
def tryS (cl : Nat → Option Bool) (sub : Nat → Nat → Bool) (i : Nat) (fa : Sl → VH → Rs VV) (c j k : Nat) : Sl → VH → Rs Fl := fun σ h => match fa σ h with
  | .ok x h1 => .ok (.nx (σ.set i (some x))) h1
  | .exc d ns vs h1 => if (cl d == some true) = true then (if sub d c = true then .ok (.nx ((σ.set k none).set j (some (.exc d ns vs)))) h1 else .exc d ns vs h1) else .bad
  | .bad => .bad
theorem keep_slots {z : Rz} {s : Sl} {σ : L2.St} {j k : Nat} {v : VV} {x : V} (hjk : j ≠ k) (h : RelS z s σ) (r : Rel z v x) (o : Option V) : RelS z ((s.set k none).set j (some v)) (((σ.set k o).set j (some x)).set k none) := by
  have h2 := ((h.unset k o).set r j).unset k none
  have e : ((s.set k none).set j (some v)).set k none = (s.set k none).set j (some v) := by
    rw [List.set_comm _ _ hjk, List.set_set]
  rwa [e] at h2
section
variable {X : Cx} {c : Cfg} {cl : Nat → Option Bool} {sub : Nat → Nat → Bool} {x n y xi : Str} {cc i j k : Nat} {e : Expr} {np p0 p00 p1 p2 p3 pos pos' : Pos} {Wout : WX} {fa : Sl → VH → Rs VV}
theorem ms_try (hK : X.K = c.K) (hex : X.ex = []) (hs : X.stack = X.env :: X.outer) (hf : X.env.frame = some X.env.locals) (hN : X.N.Nodup) (hi : X.N[i]? = some xi) (hk : X.N[k]? = some n) (hj : X.N[j]? = some y) (hjk : j ≠ k) (hlx : X.env.kindOf xi = some .local) (hln : X.env.kindOf n = some .local) (hly : X.env.kindOf y = some .local)
    (hdn : (n == ("__debug__" : Str)) = false) (hcn : (n == ("__classdict__" : Str)) = false) (hc : Names X x (.ref (c.ad cc))) (hx : ∀ d, cl d = some true → PySem.W.exmOne c.K (.ref (c.ad d)) (.ref (c.ad cc)) = some (sub d cc)) (tk : Takes X Wout) (hsc : isComp e = false)
    (he : ∀ (W : WX) (pn : List (Addr × Obj)) (xe : Value → Shared → Prop), Takes (X.tr pn xe) W → PE (X.tr pn xe) e (tE c W fa)) :
    PS X (.Try [.Assign [.Name xi p0] e p00] [.ExceptHandler (some (.Name x np)) (some n) [.Assign [.Name y p1] (.Name n p2) p3] pos'] [] [] pos) (tS c Wout (tryS cl sub i fa cc j k)) := by
  refine (ps_keep (tb := fun W => tAsg (tE c W fa) (gName i)) hex hs hf hN hk hj hln hly hdn hcn hc tk fun W pn xe tk' => pss_one (ps_set (X := X.tr pn xe) hN hi (.inl hlx) (he W pn xe tk') (swaps_ok hsc) (.inr hlx))).imp fun D σ H ⟨z, h, s, at_, p⟩ => ⟨z, h, s, at_, ?_⟩
  unfold tryS at p
  cases r : fa s h with
  | bad => rw [r] at p; exact p
  | ok v h1 =>
    rw [r] at p
    intro z' e' m x' rx
    exact p z' _ e' m ((at_.sl.mono e').set rx i)
  | exc d ns vs h1 =>
    rw [r] at p
    dsimp only at p
    split at p
    · rename_i hd
      have hd : cl d = some true := by simpa using hd
      intro z' dd fs e' m h2 fr hn rl
      have aK : z'.K = c.K := e'.K.trans at_.K
      have aA : z'.ad = c.ad := e'.ad.trans at_.ad
      refine ⟨sub d cc, by rw [aA, hK]; exact hx d hd, fun hb a ha => ?_, fun hb => ?_⟩
      · rw [if_pos hb] at p
        have e2 : Ext z' (z'.put a (ExH (.ref (z'.ad d)) (some dd) a)) := Ext.put ha m.rs
        have m2 := m.put (o := ExH (.ref (z'.ad d)) (some dd) a) ha
        have ne : dd ≠ a := ne_of_none h2 ha
        refine p _ _ (e'.trans e2) m2 (keep_slots hjk ((at_.sl.mono e').mono e2) (v := .exc d ns vs) (x := .ref a) ?_ _)
        exact ⟨a, dd, fs, rfl, upd_same, (m.fre ha).put, (upd_ne ne).trans h2, fr.put, hn, rl.mono e2⟩
      · rw [if_neg (by rw [hb]; exact Bool.false_ne_true)] at p
        exact p z' σ dd fs e' m h2 fr hn rl
    · exact p.elim
end
end Mini
end
section
set_option Elab.async false
set_option linter.all false
set_option maxRecDepth 100000
set_option maxHeartbeats 4000000
/-! Mini, part 23: from the text to the small language: expressions. -/
namespace Mini
open PySem PySem.Spec PyProof.Rows L2
/-- what a global name stands for -/
inductive G where
  | no | blt | fn (g : Nat) (ps : List Str) | cls (g : Nat) | cst (v : VV)
structure Kx where
  N : List Str
  sc : Scope
  gl : Str → G
  att : Str → Bool
  ask : Option Str
  hcl : Str → Option Nat
  st : Str → Bool
def Kx.lamd (k : Kx) (scope : Scope) : Kx := { k with sc := scope, ask := none, hcl := fun _ => none, st := fun _ => false }
def visB (sc : Scope) (x : Str) : Bool := match sc.names.lookup x with
  | some .local => true
  | some .cell => true
  | some .free => true
  | _ => false
def glB (sc : Scope) (x : Str) : Bool := match sc.names.lookup x with
  | some .globalImplicit => true
  | _ => false
def okN (x : Str) : Bool := !(x == ("__debug__" : Str)) && !(x == ("__classdict__" : Str))
theorem visB_of {sc : Scope} {x : Str} (h : visB sc x = true) : Vis sc x := by
  unfold visB at h
  split at h
  · exact .inl (by assumption)
  · exact .inr (.inl (by assumption))
  · exact .inr (.inr (by assumption))
  · cases h
theorem okN_of {x : Str} (h : okN x = true) : (x == ("__debug__" : Str)) = false ∧ (x == ("__classdict__" : Str)) = false := by
  unfold okN at h
  simpa using h
def slot : List Str → Str → Option Nat
  | [], _ => none
  | y :: ys, x => if x = y then some 0 else (slot ys x).map (· + 1)
theorem slot_of : ∀ {N : List Str} {x : Str} {i : Nat}, slot N x = some i → N[i]? = some x
  | [], x, i, h => by cases h
  | y :: ys, x, i, h => by
    unfold slot at h
    split at h
    · rename_i e
      cases h
      rw [e]
      rfl
    · cases e : slot ys x with
      | none => rw [e] at h; cases h
      | some j =>
        rw [e] at h
        cases h
        have w := slot_of e
        simpa using w
/-- f(k = v): the keyword's value is bound as if it were given by place -/
def KwB (K : PySem.W.Frag) (fd : FuncData) (ps : List Str) : Prop := ∀ (s : Shared) (us : List Value), K.In s.heap → us.length = ps.length → ps.length = 1 → BindsTo s fd ⟨[], ps.zip us⟩ (ps.zip us)
def CallOk (X : Cx) (c : Cfg) (En : Env') (x : Str) (g : Nat) (ps : List Str) : Prop :=
  ∃ kk n P f fd nl, FnG X.prog X.w X.K X.mg X.base kk f fd ps (spM c.K c.ad P n g ps.length nl) ∧ (nl = true → c.lam = none) ∧ Room kk X.A ∧ X.mg x = some (.ref f) ∧ PySem.W.keepIn X.K (.ref f) = true ∧ L2.Binds X.K fd ps [] ∧ KwB X.K fd ps ∧
    ∀ xs h, En.fn g xs h = argS ps.length (fun xs h => run P n g noCl (some xs) h) xs h
/-- the context answers to what the compiler knows -/
structure XB (X : Cx) (c : Cfg) (W : WX) (En : Env') (k : Kx) : Prop where
  K : X.K = c.K
  N : X.N = k.N
  nd : k.N.Nodup
  sc : X.env.scope = k.sc
  calm : X.calm = true
  gd : X.A.guards = some []
  un : X.A.units + 64 < cLine
  tk : Takes X W
  fnc : ∀ x, k.st x = true → X.fn x = true
  cst : ∀ x v, k.gl x = .cst v → ∃ u y, X.mg x = some u ∧ RelV y u ∧ ∀ z : Rz, z.K = c.K → z.ad = c.ad → Rel z v y
  blt : ∀ x, k.gl x = .blt → X.mg x = none
  cls : ∀ x g, k.gl x = .cls g → X.mg x = some (.ref (c.ad g)) ∧ (En.cls g).isSome = true
  fn : ∀ x g ps, k.gl x = .fn g ps → CallOk X c En x g ps
  kit : KitK c En.cls En.sub
  att : ∀ f, k.att f = true → AttK c En.cls f
  dg : X.base.NoDigits
/-- f(lambda: body) may be written here -/
def HclOk (X : Cx) (c : Cfg) (W : WX) (En : Env') (k : Kx) (x : Str) (g : Nat) : Prop :=
  ∃ (Enl : Env') (kk : Nat), ∀ (params : Arguments) (body : Expr) (scope : Scope) (p lpos pos : Pos) (eb : E), Lm.LamT X.N X.env.scope scope → Lm.LamP params body scope →
    (∀ (A : Around) (outer : List Env) (s : Shared) (H : Hp) (E : XK) (f c' : Addr) (lm : Option V) (cd : List (Addr × Str)) (gn : Option Rz), XB (Lm.lmCx X A outer s H E scope f c') { c with lam := lm, cod := cd, gnd := gn } (fun cls d _ H' => E cls d H') Enl (k.lamd scope) →
      PE (Lm.lmCx X A outer s H E scope f c') body (tE { c with lam := lm, cod := cd, gnd := gn } (fun cls d _ H' => E cls d H') fun s h => ev Enl eb s h)) →
    PE X (.Call (.Name x p) [.Lambda params body scope lpos] [] pos) (tE c W fun s h => ev En (.hcl g eb) s h)
structure XOk (X : Cx) (c : Cfg) (W : WX) (En : Env') (k : Kx) : Prop extends XB X c W En k where
  ask : ∀ a, k.ask = some a → ∀ p1 p2, PE X (.Call (.Name a p1) [] [] p2) (tE c W fun s h => ev En (.ask 0) s h)
  hcl : ∀ x g, k.hcl x = some g → HclOk X c W En k x g
theorem XB.ok {X : Cx} {c : Cfg} {W : WX} {En : Env'} {k : Kx} (o : XB X c W En k) (h1 : k.ask = none) (h2 : ∀ x, k.hcl x = none) : XOk X c W En k :=
  ⟨o, fun a e => (by rw [h1] at e; cases e), fun x g e => (by rw [h2] at e; cases e)⟩
variable {X : Cx} {c : Cfg} {W : WX} {En : Env'} {k : Kx}
theorem XOk.vis (o : XOk X c W En k) {x : Str} (h : visB k.sc x = true) : Vis X.env.scope x := by rw [o.sc]; exact visB_of h
theorem XOk.gl (o : XOk X c W En k) {x : Str} (h : glB k.sc x = true) : Gl X x := by
  show X.env.scope.names.lookup x = some .globalImplicit
  rw [o.sc]
  unfold glB at h
  split at h
  · assumption
  · cases h
theorem XOk.ix (o : XOk X c W En k) {x : Str} {i : Nat} (h : slot k.N x = some i) : X.N[i]? = some x := by rw [o.N]; exact slot_of h
abbrev GE (X : Cx) (c : Cfg) (W : WX) (En : Env') (fe : Expr → Option E) : Prop := ∀ e r, fe e = some r → PE X e (tE c W fun s h => ev En r s h)
abbrev GT (X : Cx) (c : Cfg) (W : WX) (En : Env') (ft : Expr → Option T) : Prop := ∀ e r, ft e = some r → PT X e (tT c W fun s h => evT En r s h)
/-! ### lists -/
def cL (fe : Expr → Option E) : List Expr → Option Es
  | [] => some .nil
  | e :: es => if isStar e = true then none else match fe e, cL fe es with
    | some r, some rs => some (.cons r rs)
    | _, _ => none
theorem cL_ok {fe : Expr → Option E} (h : GE X c W En fe) : ∀ {es : List Expr} {rs : Es}, cL fe es = some rs → PA X es (tA c W fun s h => evs En rs s h) ∧ es.all (fun e => !isStar e) = true
  | [], rs, q => by
    cases q
    exact ⟨ma_nil, rfl⟩
  | e :: es, rs, q => by
    unfold cL at q
    split at q
    · cases q
    · rename_i hs
      have hs : isStar e = false := by simpa using hs
      split at q
      · rename_i r rs' q1 q2
        cases q
        obtain ⟨a, b⟩ := cL_ok h q2
        exact ⟨ma_cons hs (h e r q1) a, by simp [hs, b]⟩
      · cases q
def cO (fe : Expr → Option E) : Option Expr → Option Es
  | none => some .nil
  | some e => (fe e).map fun r => .cons r .nil
theorem cO_ok {fe : Expr → Option E} (h : GE X c W En fe) : ∀ {o : Option Expr} {rs : Es}, cO fe o = some rs → PO X o (tO c W fun s h => evs En rs s h)
  | none, rs, q => by
    cases q
    exact mo_none
  | some e, rs, q => by
    replace q : (fe e).map (fun r => Es.cons r .nil) = some rs := q
    cases e1 : fe e with
    | none => rw [e1] at q; cases q
    | some r =>
      rw [e1] at q
      cases q
      exact mo_some (h e r e1)
/-! ### constants -/
def cC : Const → Option VV
  | .none => some .non
  | .bool b => some (.bl b)
  | .int i => some (.int i)
  | .str s => some (.str s)
  | _ => none
theorem cC_ok {v : Const} {x : VV} {j : Nat} {pos : Pos} (q : cC v = some x) : PE X (.Constant v j pos) (tE c W fun s h => ev En (.cst x) s h) := by
  cases v <;> first | cases q | skip
  all_goals first
    | exact me_cst pe_non fun _ _ _ => rfl
    | exact me_cst pe_bl fun _ _ _ => rfl
    | exact me_cst pe_int fun _ _ _ => rfl
    | exact me_cst pe_str fun _ _ _ => rfl
def cN (k : Kx) (x : Str) : Option E := if okN x = true then (match slot k.N x with
    | some i => if visB k.sc x = true then some (.var i) else none
    | none => if glB k.sc x = true then (match k.gl x with
      | .cst v => some (.cst v)
      | _ => none) else none) else none
theorem cN_ok (o : XOk X c W En k) {x : Str} {r : E} {pos : Pos} (q : cN k x = some r) : PE X (.Name x pos) (tE c W fun s h => ev En r s h) := by
  unfold cN at q
  split at q
  · rename_i hd
    obtain ⟨d1, d2⟩ := okN_of hd
    split at q
    · rename_i i hi
      split at q
      · rename_i hv
        cases q
        exact me_var (o.ix hi) (o.vis hv) d1 d2
      · cases q
    · split at q
      · rename_i hg
        split at q
        · rename_i v hv
          cases q
          obtain ⟨u, y, h1, h2, h3⟩ := o.cst x v hv
          exact me_cst (pe_glob (o.gl hg) h1 h2 d1) h3
        · cases q
      · cases q
  · cases q
/-! ### operators -/
def bopI : Operator → Option Bop
  | .Add => some .add | .Sub => some .sub | .Mult => some .mul | .FloorDiv => some .fdiv | .Mod => some .mod | .Pow => some .pow
  | _ => none
theorem bopI_of {o : Operator} {b : Bop} (h : bopI o = some b) : o = bopOf b := by
  cases o <;> cases h <;> rfl
def copI : CmpOp → Option Cop
  | .Eq => some .eq | .NotEq => some .ne | .Lt => some .lt | .LtE => some .le | .Gt => some .gt | .GtE => some .ge | .Is => some .isN | .IsNot => some .notN | .In => some .in_ | .NotIn => some .notIn
theorem copI_of {o : CmpOp} {b : Cop} (h : copI o = some b) : o = copOf b := by
  cases o <;> cases h <;> rfl
/-- a comparison, as it stands -/
def cCmp (fe : Expr → Option E) (a : Expr) : List CmpOp → List Expr → Option E
  | [o], [b] => if isSet b = true then none else match copI o, fe a, fe b with
    | some o, some a, some b => some (.cmp o a b)
    | _, _, _ => none
  | [o, p], [b, d] => if isSet d = true then none else match copI o, copI p, fe a, fe b, fe d with
    | some o, some p, some a, some b, some d => some (.chn o p a b d)
    | _, _, _, _, _ => none
  | _, _ => none
theorem cCmp_ok {fe : Expr → Option E} (o : XOk X c W En k) (h : GE X c W En fe) {a : Expr} {ops : List CmpOp} {bs : List Expr} {r : E} {pos : Pos} (q : cCmp fe a ops bs = some r) :
    PE X (.Compare a ops bs pos) (tE c W fun s h => ev En r s h) ∧ PT X (.Compare a ops bs pos) (tT c W fun s h => evT En (.val r) s h) := by
  unfold cCmp at q
  split at q
  · split at q
    · cases q
    · rename_i hs
      have hs := Bool.eq_false_iff.mpr hs
      split at q
      · rename_i o' a' b' q1 q2 q3
        cases q
        rw [copI_of q1]
        exact ⟨me_cmp o.K o.un o' hs (h _ _ q2) (h _ _ q3), mt_cmp o.K o.un o' hs (h _ _ q2) (h _ _ q3)⟩
      · cases q
  · split at q
    · cases q
    · rename_i hs
      have hs := Bool.eq_false_iff.mpr hs
      split at q
      · rename_i o' p' a' b' d' q1 q2 q3 q4 q5
        cases q
        rw [copI_of q1, copI_of q2]
        exact ⟨me_chn o.K o.un o' p' hs (h _ _ q3) (h _ _ q4) (h _ _ q5), mt_chn o.K o.un o' p' hs (h _ _ q3) (h _ _ q4) (h _ _ q5)⟩
      · cases q
  · cases q
/-- and, or: values -/
def cB (fe : Expr → Option E) (op : BoolOp) : List Expr → Option E
  | [] => none
  | [a] => fe a
  | a :: b :: rest => match fe a, cB fe op (b :: rest) with
    | some a, some r => some (match op with
      | .And => .and a r
      | .Or => .or a r)
    | _, _ => none
theorem cB_ok {fe : Expr → Option E} (o : XOk X c W En k) (h : GE X c W En fe) {op : BoolOp} {pos : Pos} : ∀ {es : List Expr} {r : E}, cB fe op es = some r → PE X (.BoolOp op es pos) (tE c W fun s h => ev En r s h)
  | [], r, q => by cases q
  | [a], r, q => pe_one (h a r q)
  | a :: b :: rest, r, q => by
    unfold cB at q
    split at q
    · rename_i a' r' q1 q2
      cases q
      cases op with
      | And => exact me_and o.K (h _ _ q1) (cB_ok o h q2)
      | Or => exact me_or o.K (h _ _ q1) (cB_ok o h q2)
    · cases q
def cBT (ft : Expr → Option T) (op : BoolOp) : List Expr → Option T
  | [] => none
  | [a] => ft a
  | a :: b :: rest => match ft a, cBT ft op (b :: rest) with
    | some a, some r => some (match op with
      | .And => .and a r
      | .Or => .or a r)
    | _, _ => none
theorem cBT_ok {ft : Expr → Option T} (h : GT X c W En ft) {op : BoolOp} {pos : Pos} : ∀ {es : List Expr} {r : T}, cBT ft op es = some r → PW X (.BoolOp op es pos) (tT c W fun s h => evT En r s h)
  | [], r, q => by cases q
  | [a], r, q => by
    cases op with
    | And => exact pw_and1 (h a r q)
    | Or => exact pw_or1 (h a r q)
  | a :: b :: rest, r, q => by
    unfold cBT at q
    split at q
    · rename_i a' r' q1 q2
      cases q
      cases op with
      | And => exact mt_and (h _ _ q1) (cBT_ok h q2)
      | Or => exact mt_or (h _ _ q1) (cBT_ok h q2)
    · cases q
/-- tests -/
def cTs (fe : Expr → Option E) (ft : Expr → Option T) : Expr → Option T
  | .UnaryOp .Not a _ => (ft a).map .not
  | .BoolOp op es _ => cBT ft op es
  | .Compare a ops bs _ => (cCmp fe a ops bs).map .val
  | e => if isTest e = true then none else (fe e).map .val
theorem cTs_ok {fe : Expr → Option E} {ft : Expr → Option T} (o : XOk X c W En k) (h : GE X c W En fe) (ht : GT X c W En ft) : GT X c W En (cTs fe ft) := by
  intro e r q
  unfold cTs at q
  split at q
  · rename_i a p
    cases e1 : ft a with
    | none => rw [e1] at q; cases q
    | some t =>
      rw [e1] at q
      cases q
      exact mt_not (ht _ _ e1)
  · exact (cBT_ok ht q).pt
  · rename_i a ops bs p
    cases e1 : cCmp fe a ops bs with
    | none => rw [e1] at q; cases q
    | some t =>
      rw [e1] at q
      cases q
      exact (cCmp_ok o h e1).2
  · split at q
    · cases q
    · rename_i hs
      have hs := Bool.eq_false_iff.mpr hs
      cases e1 : fe e with
      | none => rw [e1] at q; cases q
      | some t =>
        rw [e1] at q
        cases q
        exact mt_val o.K hs (h _ _ e1)
/-! ### subscripts, attributes, displays -/
def cIx (fe : Expr → Option E) (a : Expr) : Expr → Option E
  | .Slice lo hi none _ => match fe a, cO fe lo, cO fe hi with
    | some a, some l, some u => some (.slc a l u)
    | _, _, _ => none
  | b => if isSlice b = true then none else match fe a, fe b with
    | some a, some b => some (.idx a b)
    | _, _ => none
theorem cIx_ok {fe : Expr → Option E} (o : XOk X c W En k) (h : GE X c W En fe) {a b : Expr} {r : E} {pos : Pos} (q : cIx fe a b = some r) : PE X (.Subscript a b pos) (tE c W fun s h => ev En r s h) := by
  unfold cIx at q
  split at q
  · split at q
    · rename_i q1 q2 q3
      cases q
      exact me_slc o.K (h _ _ q1) (cO_ok h q2) (cO_ok h q3)
    · cases q
  · split at q
    · cases q
    · rename_i hs
      have hs := Bool.eq_false_iff.mpr hs
      split at q
      · rename_i q1 q2
        cases q
        exact me_idx o.K (by have := o.un; omega) hs (h _ _ q1) (h _ _ q2)
      · cases q
/-- a display's keys: texts -/
def cKs : List (Option Expr) → Option (List Key)
  | [] => some []
  | some (.Constant (.str s) _ _) :: r => (cKs r).map (Sum.inr s :: ·)
  | _ => none
def cD (fe : Expr → Option E) (keys : List (Option Expr)) (vals : List Expr) : Option E := match cKs keys, cL fe vals with
  | some ks, some es => if ks.length = vals.length ∧ ks.length ≤ 15 then some (.dct ks es) else none
  | _, _ => none
theorem cD_md {fe : Expr → Option E} (h : GE X c W En fe) {pos : Pos} : ∀ {keys : List (Option Expr)} {vals : List Expr} {ks : List Key} {es : Es}, cKs keys = some ks → cL fe vals = some es → ks.length = vals.length → MDc X c W pos keys vals ks fun s h => evs En es s h
  | [], vals, ks, es, q1, q2, hl => by
    cases q1
    cases vals with
    | cons v vs => cases hl
    | nil =>
      cases q2
      exact md_nil
  | k :: keys, vals, ks, es, q1, q2, hl => by
    unfold cKs at q1
    split at q1
    · rename_i e1
      cases e1
    · rename_i s i p r e1
      cases e1
      cases e2 : cKs keys with
      | none => rw [e2] at q1; cases q1
      | some ks' =>
        rw [e2] at q1
        cases q1
        cases vals with
        | nil => cases hl
        | cons v vs =>
          unfold cL at q2
          split at q2
          · cases q2
          · split at q2
            · rename_i r' rs' w1 w2
              cases q2
              exact md_cons pe_str (h _ _ w1) (cD_md h e2 w2 (by simpa using hl))
            · cases q2
    · cases q1
theorem cD_ok {fe : Expr → Option E} (h : GE X c W En fe) {keys : List (Option Expr)} {vals : List Expr} {r : E} {pos : Pos} (q : cD fe keys vals = some r) : PE X (.Dict keys vals pos) (tE c W fun s h => ev En r s h) := by
  unfold cD at q
  split at q
  · rename_i ks es q1 q2
    split at q
    · rename_i hl
      cases q
      cases keys with
      | nil =>
        cases q1
        cases vals with
        | cons v vs => cases hl.1
        | nil =>
          cases q2
          exact me_dct0
      | cons k keys => exact me_dct (cD_md h q1 q2 hl.1) (by simp) hl.2
    · cases q
  · cases q
/-! ### texts in parts -/
def cFs (fe : Expr → Option E) : List Expr → Option Es
  | [] => some .nil
  | .Constant (.str s) _ _ :: es => (cFs fe es).map (.cons (.cst (.str s)))
  | .FormattedValue e i none _ :: es => if i = -1 then (match fe e, cFs fe es with
    | some r, some rs => some (.cons r rs)
    | _, _ => none) else none
  | _ => none
theorem me_part {s : Str} {j : Nat} {pos : Pos} : PE X (.Constant (.str s) j pos) (tE c W (fmtS fun σ h => ev En (.cst (.str s)) σ h)) :=
  (pe_str (X := X)).imp fun σ H Q ⟨z, h, s', at_, p⟩ => by
    obtain rfl := at_.H
    have p : Post z (Rs.of ((if s.length ≤ sizeLine then some s else none).map VV.str) h) (QE Q) fun cls d H' => W cls d σ H' := p
    split at p
    · exact p z (Ext.refl z) at_.md (.str s) rfl
    · exact p.elim
theorem cFs_ok {fe : Expr → Option E} (h : GE X c W En fe) : ∀ {es : List Expr} {rs : Es}, cFs fe es = some rs → MJ X c W es fun acc s h => evF En rs acc s h
  | [], rs, q => by
    cases q
    exact mj_nil
  | e :: es, rs, q => by
    unfold cFs at q
    split at q
    · rename_i e1
      cases e1
    · rename_i s i p r e1
      cases e1
      cases e2 : cFs fe es with
      | none => rw [e2] at q; cases q
      | some rs' =>
        rw [e2] at q
        cases q
        exact mj_cons me_part (cFs_ok h e2)
    · rename_i a i p r e1
      cases e1
      split at q
      · rename_i hi
        subst hi
        split at q
        · rename_i w1 w2
          cases q
          exact mj_cons (me_fmt (h _ _ w1)) (cFs_ok h w2)
        · cases q
      · cases q
    · cases q
def cF (fe : Expr → Option E) : List Expr → Option E
  | a :: b :: es => (cFs fe (a :: b :: es)).map .fst
  | _ => none
theorem cF_ok {fe : Expr → Option E} (h : GE X c W En fe) {es : List Expr} {r : E} {pos : Pos} (q : cF fe es = some r) : PE X (.JoinedStr es pos) (tE c W fun s h => ev En r s h) := by
  unfold cF at q
  split at q
  · rename_i a b es
    cases e1 : cFs fe (a :: b :: es) with
    | none => rw [e1] at q; cases q
    | some t =>
      rw [e1] at q
      cases q
      exact me_fst (cFs_ok h e1)
  · cases q
end Mini
end
section
set_option Elab.async false
set_option linter.all false
set_option maxRecDepth 100000
set_option maxHeartbeats 4000000
/-! Mini, part 24: from the text to the small language: calls, comprehensions, all expressions. -/
namespace Mini
open PySem PySem.Spec PyProof.Rows L2
section
variable {X : Cx} {c : Cfg} {W : WX} {En : Env'} {k : Kx}
/-- a global's name, plainly -/
def glN (k : Kx) (x : Str) : Bool := okN x && (slot k.N x).isNone && glB k.sc x
theorem glN_of (o : XOk X c W En k) {x : Str} (h : glN k x = true) : Gl X x ∧ (x == ("__debug__" : Str)) = false := by
  unfold glN at h
  rw [Bool.and_eq_true, Bool.and_eq_true] at h
  exact ⟨o.gl h.2, (okN_of h.1.1).1⟩
def isBlt : G → Bool
  | .blt => true
  | _ => false
theorem isBlt_of {g : G} (h : isBlt g = true) : g = .blt := by cases g <;> first | rfl | cases h
/-! ### types -/
def tyI (x : Str) : Option String :=
  if x = "bool" then some "bool" else if x = "int" then some "int" else if x = "str" then some "str" else if x = "tuple" then some "tuple" else if x = "list" then some "list" else if x = "dict" then some "dict" else none
theorem tyI_of {x : Str} {n : String} (h : tyI x = some n) : bootBuiltins x = some (.type n) ∧ x ≠ "__name__" ∧ n ∈ ["NoneType", "bool", "int", "str", "tuple", "list", "dict"] := by
  unfold tyI at h
  repeat' split at h
  all_goals first
    | cases h; done
    | (rename_i e; cases h; subst e; refine ⟨by rfl, by decide, by decide⟩)
def cTy (k : Kx) : Expr → Option Ty
  | .Name x _ => if glN k x = true then (match k.gl x with
    | .cls g => some (.cls g)
    | .blt => (tyI x).map .bi
    | _ => none) else none
  | _ => none
theorem cTy_ok (o : XOk X c W En k) {e : Expr} {t : Ty} (q : cTy k e = some t) : PE X e (tC (tyC c t)) ∧ isStar e = false ∧ okTy En.cls t := by
  unfold cTy at q
  split at q
  · rename_i x p
    split at q
    · rename_i hg
      obtain ⟨g1, d1⟩ := glN_of o hg
      split at q
      · rename_i g hv
        cases q
        obtain ⟨h1, h2⟩ := o.cls x g hv
        exact ⟨pe_glob g1 h1 rfl d1, rfl, h2⟩
      · rename_i hv
        cases e1 : tyI x with
        | none => rw [e1] at q; cases q
        | some n =>
          rw [e1] at q
          cases q
          obtain ⟨h1, h2, h3⟩ := tyI_of e1
          exact ⟨pe_bltn g1 (o.blt x hv) h1 rfl h2 d1, rfl, h3⟩
      · cases q
    · cases q
  · cases q
def cTyL (k : Kx) : List Expr → Option (List Ty)
  | [] => some []
  | e :: es => match cTy k e, cTyL k es with
    | some t, some ts => some (t :: ts)
    | _, _ => none
theorem cTyL_ok (o : XOk X c W En k) : ∀ {es : List Expr} {ts : List Ty}, cTyL k es = some ts → PCs X c En.cls es ts
  | [], ts, q => by
    cases q
    exact .nil
  | e :: es, ts, q => by
    unfold cTyL at q
    split at q
    · rename_i q1 q2
      cases q
      obtain ⟨a, b, d⟩ := cTy_ok o q1
      exact .cons a b d (cTyL_ok o q2)
    · cases q
def cTys (k : Kx) : Expr → Option (List Ty)
  | .Tuple es _ _ => (cTyL k es).bind fun ts => if ts.length ≤ 1000 then some ts else none
  | e => (cTy k e).map fun t => [t]
theorem cIsi_ok (o : XOk X c W En k) {fe : Expr → Option E} (h : GE X c W En fe) {x : Str} (hx : x = "isinstance") (hg : glN k x = true) (hb : isBlt (k.gl x) = true) {a d : Expr} {a' : E} {ts : List Ty} {p pos : Pos} (ha : isStar a = false) (q1 : fe a = some a') (q2 : cTys k d = some ts) :
    PE X (.Call (.Name x p) [a, d] [] pos) (tE c W fun s h => ev En (.isi ts a') s h) := by
  subst hx
  obtain ⟨g1, d1⟩ := glN_of o hg
  have hm := o.blt _ (isBlt_of hb)
  unfold cTys at q2
  split at q2
  · cases e1 : cTyL k _ with
    | none => rw [e1] at q2; cases q2
    | some ts' =>
      rw [e1] at q2
      replace q2 : (if ts'.length ≤ 1000 then some ts' else none) = some ts := q2
      split at q2
      · rename_i hl
        cases q2
        exact me_isiT o.K o.kit g1 hm hl ha (h _ _ q1) (cTyL_ok o e1)
      · cases q2
  · cases e1 : cTy k d with
    | none => rw [e1] at q2; cases q2
    | some t =>
      rw [e1] at q2
      cases q2
      obtain ⟨w1, w2, w3⟩ := cTy_ok o e1
      exact me_isi1 o.K o.kit g1 hm w3 ha w2 (h _ _ q1) w1
/-! ### built-in functions and methods, by name -/
def bfnI (x : Str) : Option Bfn :=
  if x = "len" then some .len else if x = "int" then some .int else if x = "abs" then some .abs else if x = "repr" then some .repr else if x = "str" then some .str else if x = "list" then some .list else if x = "tuple" then some .tuple else if x = "all" then some .all else none
theorem bfnI_of {x : Str} {f : Bfn} (h : bfnI x = some f) : x = bfnN f := by
  unfold bfnI at h
  repeat' split at h
  all_goals first
    | cases h; done
    | (rename_i e; cases h; exact e)
def bmtI (x : Str) : Option Bmt :=
  if x = "append" then some .append else if x = "update" then some .update else if x = "join" then some .join else if x = "split" then some .split else if x = "partition" then some .partition else if x = "startswith" then some .startswith else none
theorem bmtI_of {x : Str} {f : Bmt} (h : bmtI x = some f) : x = bmtN f := by
  unfold bmtI at h
  repeat' split at h
  all_goals first
    | cases h; done
    | (rename_i e; cases h; exact e)
/-! ### own functions, by keyword -/
theorem me_fclK (o : XOk X c W En k) {x n : Str} {g : Nat} {p pos kp : Pos} {e : Expr} {fa : Sl → VH → Rs VV} (hg : glN k x = true) (hv : k.gl x = .fn g [n]) (he : PE X e (tE c W fa)) :
    PE X (.Call (.Name x p) [] [⟨some n, e, kp⟩] pos) (tE c W fun s h => (oneS fa s h).bind fun xs h1 => En.fn g xs h1) := by
  obtain ⟨g1, d1⟩ := glN_of o hg
  obtain ⟨kk, m, P, f, fd, nl, F, hnl, hr, hm, hk, hb, hkw, hfn⟩ := o.fn x g [n] hv
  refine ⟨fun pins s σ H Q I ⟨z, h, s0, at_, p⟩ => ?_⟩
  refine wpAny_Call_Name_kw (ld_glob I g1 hm ?_ d1)
  refine PySem.W.callWith_KW0 (h₀ := X.base) I.ok.mod.kin hk rfl (thn ((pk_cons (nm := some n) (kpos := kp) he pk_nil).run pos pins s σ H (fun ys H1 => ∃ z1 h1 v v', At c z1 H1 h1 s0 σ ∧ ys = [v'] ∧ Rel z1 v v' ∧ Post z1 (En.fn g [v] h1) (QE Q) fun cls d H' => W cls d σ H') I ⟨z, h, s0, at_, (Post.bind (Post.bind p)).mono (fun z1 v h1 e1 m1 p1 v' r1 => ?_) fun _ _ _ q => q⟩) fun us s1 ⟨ys, H1, I1, r, z1, h1, v, v', a1, ey, rv, p1⟩ => ⟨I1.kIn, ?_⟩) rfl
  · have p2 : Post z1 (Rs.ok [v] h1) (fun z2 xs h2 => Post z2 (En.fn g xs h2) (QE Q) fun cls d H' => W cls d σ H') fun cls d H' => W cls d σ H' := p1
    exact ⟨z1, h1, v, v', at_.next e1 m1, rfl, r1, p2 z1 (Ext.refl z1) m1⟩
  · subst ey
    refine wpAny_call (run_fnG F hr o.gd o.tk I1 (fun hl => ?_) r ⟨rfl, z1, h1, [v], a1.K, a1.ad, fun e => a1.lam.trans (hnl e), a1.H, a1.md, ⟨v', [], rfl, rv, rfl⟩, ?_⟩)
    · have := hkw s1 us I1.kIn hl rfl
      exact this
    · rw [hfn] at p1
      exact p1
/-! ### lambdas -/
def lamTB (N : List Str) (sc scope : Scope) : Bool :=
  (match scope.kind with | .function => true | _ => false) && !scope.isCoroutine && !scope.isGenerator &&
    (scope.names.all fun y => match y.2 with
      | .cell => false
      | .local => decide (y.1 ∉ N)
      | .free => (match sc.names.lookup y.1 with | some .cell => true | some .free => true | _ => false)
      | _ => true)
theorem lamTB_of {N : List Str} {sc scope : Scope} (h : lamTB N sc scope = true) : Lm.LamT N sc scope := by
  unfold lamTB at h
  simp only [Bool.and_eq_true, List.all_eq_true] at h
  obtain ⟨⟨⟨h1, h2⟩, h3⟩, h4⟩ := h
  refine ⟨?_, by simpa using h2, by simpa using h3, fun y hy => ⟨fun e => ?_, fun e => ?_⟩, fun y hy e => ?_⟩
  · split at h1
    · assumption
    · cases h1
  · have q := h4 y hy
    simp only [e] at q
    cases q
  · have q := h4 y hy
    simp only [e] at q
    simpa using q
  · have q := h4 y hy
    simp only [e] at q
    split at q
    · exact .inl (by assumption)
    · exact .inr (by assumption)
    · cases q
def lamPB (params : Arguments) (scope : Scope) : Bool := match params with
  | ⟨[], [], none, [], [], none, []⟩ => true
  | ⟨[], [a], none, [], [], none, [.Constant (.int _) _ _]⟩ => (match scope.names.lookup a.arg with | some .local => true | _ => false)
  | _ => false
theorem lamPB_of {params : Arguments} {body : Expr} {scope : Scope} (h : lamPB params scope = true) : Lm.LamP params body scope := by
  unfold lamPB at h
  split at h
  · refine ⟨rfl, .inl rfl, fun dv hd => ⟨[], (fun y hy => nomatch hy), fun q cl dV doc pm cv ctv s df => ?_⟩⟩
    have e : dv = [] := by
      rcases hd with ⟨_, e⟩ | ⟨i, j, p, t, e, _⟩
      · exact e
      · cases e
    subst e
    rcases df with ⟨_, rfl⟩ | ⟨T, rfl, ho⟩
    · exact BindsTo.of_eq rfl
    · exact BindsTo.of_defaults rfl ho rfl rfl rfl
  · rename_i a i j p
    refine ⟨rfl, .inr ⟨_, _, _, rfl⟩, fun dv hd => ?_⟩
    obtain ⟨t, rfl⟩ : ∃ t, dv = [.int i t] := by
      rcases hd with ⟨e, _⟩ | ⟨i', j', p', t, e, e2⟩
      · cases e
      · cases e
        exact ⟨t, e2⟩
    refine ⟨[(a.arg, .int i t)], fun y hy => ?_, fun q cl dV doc pm cv ctv s df => ?_⟩
    · obtain rfl : y = (a.arg, .int i t) := by simpa using hy
      split at h
      · assumption
      · cases h
    · rcases df with ⟨e, _⟩ | ⟨T, rfl, ho⟩
      · cases e
      · refine BindsTo.of_defaults rfl ho rfl rfl ?_
        simp [List.lookup]
  · cases h
def cLam (k : Kx) (fl : Scope → Expr → Option E) (g : Nat) : Expr → Option E
  | .Lambda params body scope _ => if (lamTB k.N k.sc scope && lamPB params scope) = true then (fl scope body).map (.hcl g) else none
  | _ => none
/-! ### all calls -/
def cCallN (k : Kx) (fe : Expr → Option E) (fl : Scope → Expr → Option E) (x : Str) (args : List Expr) (kws : List Keyword) : Option E := match args, kws with
  | [], [] => if k.ask = some x then some (.ask 0) else none
  | [], [⟨some n, e, _⟩] => match k.gl x, fe e with
    | .fn g [m], some e => if n = m ∧ glN k x = true then some (.fcl g (.cons e .nil)) else none
    | _, _ => none
  | a :: as, [] => if glN k x = true then (match k.gl x with
      | .fn g ps => (cL fe (a :: as)).map (.fcl g)
      | .no => (match k.hcl x, as with
        | some g', [] => cLam k fl g' a
        | _, _ => none)
      | .blt => if x = "isinstance" then (match as with
          | [t] => if isStar a = true then none else (match fe a, cTys k t with
            | some a, some ts => some (.isi ts a)
            | _, _ => none)
          | _ => none) else (match bfnI x, cL fe (a :: as) with
          | some f, some es => some (.bcl f es)
          | _, _ => none)
      | _ => none) else none
  | _, _ => none
theorem cCallN_ok (o : XOk X c W En k) {fe : Expr → Option E} {fl : Scope → Expr → Option E} (h : GE X c W En fe)
    (hl : ∀ {Y : Cx} {c' : Cfg} {W' : WX} {En' : Env'} {scope : Scope}, XB Y c' W' En' (k.lamd scope) → GE Y c' W' En' (fl scope)) {x : Str} {args : List Expr} {kws : List Keyword} {r : E} {p pos : Pos} (q : cCallN k fe fl x args kws = some r) :
    PE X (.Call (.Name x p) args kws pos) (tE c W fun s h => ev En r s h) := by
  unfold cCallN at q
  split at q
  · split at q
    · rename_i ha
      cases q
      exact o.ask x ha _ _
    · cases q
  · split at q
    · rename_i hv e1
      split at q
      · rename_i hn
        obtain ⟨rfl, hg⟩ := hn
        cases q
        exact me_fclK o hg hv (h _ _ e1)
      · cases q
    · cases q
  · split at q
    · rename_i hg
      obtain ⟨g1, d1⟩ := glN_of o hg
      split at q
      · rename_i g ps hv
        cases e1 : cL fe (_ :: _) with
        | none => rw [e1] at q; cases q
        | some es =>
          rw [e1] at q
          cases q
          obtain ⟨ha, hs⟩ := cL_ok h e1
          obtain ⟨kk, m, P, f, fd, nl, F, hnl, hr, hm, hk, hb, hkw, hfn⟩ := o.fn x g ps hv
          have w := me_fcl (p := p) (pos := pos) F hnl hr o.gd g1 hm hk hb o.tk d1 hs ha
          have e2 : (fun (s : Sl) (h : VH) => ev En (.fcl g es) s h) = fun s h => (evs En es s h).bind fun xs h1 => argS ps.length (fun xs h => run P m g noCl (some xs) h) xs h1 := by
            funext s h
            have : En.fn g = argS ps.length (fun xs h => run P m g noCl (some xs) h) := by funext xs h; exact hfn xs h
            show (evs En es s h).bind (fun xs h1 => En.fn g xs h1) = _
            rw [this]
          rw [e2]
          exact w
      · split at q
        · rename_i g' hh
          unfold cLam at q
          split at q
          · split at q
            · rename_i hb
              rw [Bool.and_eq_true] at hb
              rename_i params body scope lpos
              cases e1 : fl scope body with
              | none => rw [e1] at q; cases q
              | some eb =>
                rw [e1] at q
                cases q
                obtain ⟨Enl, kk, w⟩ := o.hcl x g' hh
                exact w params body scope p lpos pos eb (by rw [o.N, o.sc]; exact lamTB_of hb.1) (lamPB_of hb.2) fun A outer s H E f c' lm cd gn xb => hl xb body eb e1
            · cases q
          · cases q
        · cases q
      · rename_i hv
        split at q
        · rename_i hx
          split at q
          · split at q
            · cases q
            · rename_i hs
              have hs := Bool.eq_false_iff.mpr hs
              split at q
              · rename_i q1 q2
                cases q
                exact cIsi_ok o h hx hg (by rw [hv]; rfl) hs q1 q2
              · cases q
          · cases q
        · split at q
          · rename_i q1 q2
            cases q
            obtain ⟨ha, hs⟩ := cL_ok h q2
            rw [bfnI_of q1] at g1 hv ⊢
            exact me_bcl o.dg o.K o.calm o.gd o.un _ g1 (o.blt _ hv) hs ha
          · cases q
      · cases q
    · cases q
  · cases q
def cCall (k : Kx) (fe : Expr → Option E) (fl : Scope → Expr → Option E) (f : Expr) (args : List Expr) (kws : List Keyword) (pos : Pos) : Option E := match f with
  | .Name x _ => cCallN k fe fl x args kws
  | .Attribute ob m apos => match args, kws with
    | [a], [] => if isCall0 ob = true ∨ isStar a = true ∨ (apos.endLine == pos.line) = false then none else match bmtI m, fe ob, fe a with
      | some m, some ob, some a => some (.mcl m ob a)
      | _, _, _ => none
    | _, _ => none
  | _ => none
theorem cCall_ok (o : XOk X c W En k) {fe : Expr → Option E} {fl : Scope → Expr → Option E} (h : GE X c W En fe)
    (hl : ∀ {Y : Cx} {c' : Cfg} {W' : WX} {En' : Env'} {scope : Scope}, XB Y c' W' En' (k.lamd scope) → GE Y c' W' En' (fl scope)) {f : Expr} {args : List Expr} {kws : List Keyword} {r : E} {pos : Pos} (q : cCall k fe fl f args kws pos = some r) :
    PE X (.Call f args kws pos) (tE c W fun s h => ev En r s h) := by
  unfold cCall at q
  split at q
  · exact cCallN_ok o h hl q
  · split at q
    · split at q
      · cases q
      · rename_i hn
        have h1 : ¬ _ ∧ ¬ _ := not_or.mp hn
        have h2 : ¬ _ ∧ ¬ _ := not_or.mp h1.2
        split at q
        · rename_i q1 q2 q3
          cases q
          rw [bmtI_of q1]
          exact me_mcl o.K _ (Bool.eq_false_iff.mpr h1.1) (Bool.eq_false_iff.mpr h2.1) (by simpa using h2.2) (h _ _ q2) (h _ _ q3)
        · cases q
    · cases q
  · cases q
end
end Mini
end
section
set_option Elab.async false
set_option linter.all false
set_option maxRecDepth 100000
set_option maxHeartbeats 4000000
/-! Mini, part 25: from the text to the small language: comprehensions, all expressions. -/
namespace Mini
open PySem PySem.Spec PyProof.Rows L2
section
variable {X : Cx} {c : Cfg} {W : WX} {En : Env'} {k : Kx}
/-! ### targets -/
def locB (k : Kx) (x : Str) : Bool := match k.sc.names.lookup x with
  | some .local => true
  | some .cell => k.st x
  | _ => false
theorem locB_of (o : XB X c W En k) {x : Str} (h : locB k x = true) : Loc X.env.scope x ∧ (X.fn x = true ∨ X.env.scope.names.lookup x = some .local) := by
  unfold locB at h
  rw [o.sc]
  split at h
  · exact ⟨.inl (by assumption), .inr (by assumption)⟩
  · exact ⟨.inr (by assumption), .inl (o.fnc x h)⟩
  · cases h
def cTg1 (k : Kx) : Expr → Option Nat
  | .Name x _ => if locB k x = true then slot k.N x else none
  | _ => none
theorem cTg1_ok (o : XB X c W En k) {e : Expr} {i : Nat} (q : cTg1 k e = some i) : PG X e (gName i) := by
  unfold cTg1 at q
  split at q
  · split at q
    · rename_i hl
      obtain ⟨a, b⟩ := locB_of o hl
      exact pg_name (by rw [o.N]; exact o.nd) (by rw [o.N]; exact slot_of q) a b
    · cases q
  · cases q
def cTg (k : Kx) : Expr → Option Tg
  | .Tuple [a, b] _ _ => match cTg1 k a, cTg1 k b with
    | some i, some j => if isStar a = true ∨ isStar b = true then none else some (.two i j)
    | _, _ => none
  | e => (cTg1 k e).map .one
theorem cTg1_star {e : Expr} {i : Nat} (q : cTg1 k e = some i) : ∃ x p, e = .Name x p := by
  unfold cTg1 at q
  split at q
  · exact ⟨_, _, rfl⟩
  · cases q
theorem cTg_ok (o : XB X c W En k) {e : Expr} {g : Tg} (q : cTg k e = some g) : PG X e (gOf X.K g) := by
  unfold cTg at q
  split at q
  · split at q
    · rename_i q1 q2
      split at q
      · cases q
      · cases q
        obtain ⟨x, p, rfl⟩ := cTg1_star q1
        obtain ⟨y, p', rfl⟩ := cTg1_star q2
        exact pg_tup o.calm (pgs_cons (cTg1_ok o q1) (pgs_cons (cTg1_ok o q2) pgs_nil rfl) rfl) rfl rfl
    · cases q
  · cases e1 : cTg1 k e with
    | none => rw [e1] at q; cases q
    | some i =>
      rw [e1] at q
      cases q
      exact cTg1_ok o e1
def tgB : Tg → List Nat → Bool
  | .one i, l => decide (i ∈ l)
  | .two i j, l => decide (i ∈ l) && decide (j ∈ l)
theorem tgB_of : ∀ {g : Tg} {l : List Nat}, tgB g l = true → tgIn g l
  | .one i, l, h => by
    have h : decide (i ∈ l) = true := h
    exact (of_decide_eq_true h : i ∈ l)
  | .two i j, l, h => by
    unfold tgB at h
    rw [Bool.and_eq_true] at h
    exact ⟨of_decide_eq_true h.1, of_decide_eq_true h.2⟩
/-! ### what is walked -/
def isTupE : Expr → Bool
  | .Tuple .. => true
  | _ => false
def cSq (fe : Expr → Option E) (e : Expr) : Option (It × Es) := if isSet e = true then none else (fe e).map fun r => (.seq, .cons r .nil)
theorem cSq_ok {fe : Expr → Option E} (o : XB X c W En k) (h : GE X c W En fe) {tg e : Expr} {i : It} {es : Es} (q : cSq fe e = some (i, es)) : MI X c W tg e i (fun s h => evs En es s h) := by
  unfold cSq at q
  split at q
  · cases q
  · rename_i hs
    have hs := Bool.eq_false_iff.mpr hs
    cases e1 : fe e with
    | none => rw [e1] at q; cases q
    | some r =>
      rw [e1] at q
      cases q
      exact mi_seq o.K hs (h _ _ e1)
def cIt (k : Kx) (fe : Expr → Option E) (tg it : Expr) : Option (It × Es) := match it with
  | .Call (.Name x _) [a] [] _ => if (x = "range" ∧ glN k x = true ∧ isBlt (k.gl x) = true) then (if isStar a = true then none else (fe a).map fun r => (.range1, .cons r .nil))
    else if (x = "enumerate" ∧ glN k x = true ∧ isBlt (k.gl x) = true ∧ isTupE tg = true) then (if isStar a = true then none else (fe a).map fun r => (.enum, .cons r .nil)) else cSq fe it
  | .Call (.Name x _) [a, b] [] _ => if (x = "range" ∧ glN k x = true ∧ isBlt (k.gl x) = true) then (if isStar a = true ∨ isStar b = true then none else match fe a, fe b with
    | some r, some r2 => some (.range2, .cons r (.cons r2 .nil))
    | _, _ => none) else cSq fe it
  | _ => cSq fe it
theorem cIt_ok {fe : Expr → Option E} (o : XOk X c W En k) (h : GE X c W En fe) {tg it : Expr} {i : It} {es : Es} (q : cIt k fe tg it = some (i, es)) : MI X c W tg it i (fun s h => evs En es s h) := by
  unfold cIt at q
  split at q
  · split at q
    · rename_i hx
      obtain ⟨rfl, hg, hb⟩ := hx
      split at q
      · cases q
      · rename_i hs
        have hs := Bool.eq_false_iff.mpr hs
        cases e1 : fe _ with
        | none => rw [e1] at q; cases q
        | some r =>
          rw [e1] at q
          cases q
          exact mi_rng1 (glN_of o hg).1 (o.blt _ (isBlt_of hb)) hs (h _ _ e1)
    · split at q
      · rename_i hx
        obtain ⟨rfl, hg, hb, ht⟩ := hx
        split at q
        · cases q
        · rename_i hs
          have hs := Bool.eq_false_iff.mpr hs
          cases e1 : fe _ with
          | none => rw [e1] at q; cases q
          | some r =>
            rw [e1] at q
            cases q
            unfold isTupE at ht
            split at ht
            · exact mi_enum o.K (glN_of o hg).1 (o.blt _ (isBlt_of hb)) hs (h _ _ e1)
            · cases ht
      · exact cSq_ok o.toXB h q
  · split at q
    · rename_i hx
      obtain ⟨rfl, hg, hb⟩ := hx
      split at q
      · cases q
      · rename_i hs
        obtain ⟨h1, h2⟩ := not_or.mp hs
        split at q
        · rename_i q1 q2
          cases q
          exact mi_rng2 (glN_of o hg).1 (o.blt _ (isBlt_of hb)) (Bool.eq_false_iff.mpr h1) (Bool.eq_false_iff.mpr h2) (h _ _ q1) (h _ _ q2)
        · cases q
    · exact cSq_ok o.toXB h q
  · exact cSq_ok o.toXB h q
/-! ### comprehensions -/
def Kx.blk (k : Kx) (scope : Scope) : Kx := { k with sc := relS scope k.sc, ask := none, hcl := fun _ => none, st := fun x => scope.names.lookup x == some .cell }
def ownI (N : List Str) (scope : Scope) : List (Str × Nat) := scope.names.filterMap fun y => match y.2 with
  | .local => (slot N y.1).map fun i => (y.1, i)
  | .cell => (slot N y.1).map fun i => (y.1, i)
  | _ => none
theorem XB.blk (o : XB X c W En k) {scope : Scope} (s : Shared) (H : Hp) (C : Addr) (cl : List (Str × Addr)) (fp : List Addr) : XB (X.blk s H scope (compEnvC scope cl C X.env) fp) c wNo En (k.blk scope) :=
  ⟨o.K, o.N, o.nd, by show relS scope X.env.scope = relS scope k.sc; rw [o.sc], o.calm, o.gd, o.un, LamX.takes0, fun x h => h, o.cst, o.blt, o.cls, fun x g ps h => o.fn x g ps h, o.kit, o.att, o.dg⟩
def cIfs (ft : Expr → Option T) : List Expr → Option T
  | [] => some .yes
  | [e] => ft e
  | _ => none
theorem cIfs_ok {ft : Expr → Option T} (h : GT X c W En ft) {es : List Expr} {t : T} (q : cIfs ft es = some t) : PTs X es (tT c W fun s h => evT En t s h) := by
  unfold cIfs at q
  split at q
  · cases q
    exact ⟨fun pins s σ H Q I ⟨z, h, s1, at_, p⟩ => pts_nil.run pins s σ H Q I (by
      obtain rfl := at_.H
      exact p z (Ext.refl z) at_.md)⟩
  · exact pts_one (h _ _ q)
  · cases q
structure LcR where
  w : List Nat
  k : It
  g : Tg
  src : Es
  t : T
  elt : E
def cLc (k : Kx) (fe : Expr → Option E) (fi : Scope → Expr → Option E) (fti : Scope → Expr → Option T) (elt tg it : Expr) (ifs : List Expr) (scope : Scope) : Option LcR :=
  match cIt k fe tg it, cTg (k.blk scope) tg, cIfs (fti scope) ifs, fi scope elt with
  | some (i, src), some g, some t, some e => if (blkC k.N k.sc scope (ownI k.N scope) && tgB g ((ownI k.N scope).map (·.2))) = true then some ⟨(ownI k.N scope).map (·.2), i, g, src, t, e⟩ else none
  | _, _, _, _ => none
def LcR.e (r : LcR) : E := .lc r.w r.g r.k r.src r.t r.elt
def cSe (k : Kx) (fe : Expr → Option E) (ft : Expr → Option T) (fi : Scope → Expr → Option E) (fti : Scope → Expr → Option T) (fl : Scope → Expr → Option E) : Expr → Option E
  | .Name x _ => cN k x
  | .Constant v _ _ => (cC v).map .cst
  | .BinOp a op b _ => match bopI op, fe a, fe b with
    | some o, some a, some b => some (.bin o a b)
    | _, _, _ => none
  | .UnaryOp .USub a _ => (fe a).map .neg
  | .UnaryOp .Not a _ => (fe a).map .not
  | .BoolOp op es _ => cB fe op es
  | .Compare a ops bs _ => cCmp fe a ops bs
  | .IfExp t a b _ => match ft t, fe a, fe b with
    | some t, some a, some b => some (.ife t a b)
    | _, _, _ => none
  | .Tuple es _ _ => (cL fe es).map .tup
  | .List es _ => (cL fe es).map .lst
  | .Dict ks es _ => cD fe ks es
  | .Subscript a b _ => cIx fe a b
  | .Attribute e f _ => if (k.att f = true ∧ isCall0 e = false) then (fe e).map (.att f) else none
  | .JoinedStr es _ => cF fe es
  | .Call f args kws pos => cCall k fe fl f args kws pos
  | .ListComp elt [⟨tg, it, ifs, 0⟩] scope _ => (cLc k fe fi fti elt tg it ifs scope).map LcR.e
  | _ => none
theorem map_of {α β : Type} {o : Option α} {f : α → β} {b : β} (h : o.map f = some b) : ∃ a, o = some a ∧ f a = b := by
  cases o with
  | none => cases h
  | some a => exact ⟨a, rfl, Option.some.inj h⟩
theorem cSe_ok (o : XOk X c W En k) {fe : Expr → Option E} {ft : Expr → Option T} {fi : Scope → Expr → Option E} {fti : Scope → Expr → Option T} {fl : Scope → Expr → Option E} (h : GE X c W En fe) (ht : GT X c W En ft)
    (hi : ∀ {Y : Cx} {c' : Cfg} {W' : WX} {En' : Env'} {scope : Scope}, XB Y c' W' En' (k.blk scope) → GE Y c' W' En' (fi scope)) (hti : ∀ {Y : Cx} {c' : Cfg} {W' : WX} {En' : Env'} {scope : Scope}, XB Y c' W' En' (k.blk scope) → GT Y c' W' En' (fti scope))
    (hl : ∀ {Y : Cx} {c' : Cfg} {W' : WX} {En' : Env'} {scope : Scope}, XB Y c' W' En' (k.lamd scope) → GE Y c' W' En' (fl scope)) : GE X c W En (cSe k fe ft fi fti fl) := by
  intro e r q
  unfold cSe at q
  split at q
  · exact cN_ok o q
  · obtain ⟨v, e1, rfl⟩ := map_of q
    exact cC_ok e1
  · split at q
    · rename_i q1 q2 q3
      cases q
      rw [bopI_of q1]
      exact me_bin o.K _ (h _ _ q2) (h _ _ q3)
    · cases q
  · obtain ⟨v, e1, rfl⟩ := map_of q
    exact me_neg (h _ _ e1)
  · obtain ⟨v, e1, rfl⟩ := map_of q
    exact me_not o.K (h _ _ e1)
  · exact cB_ok o h q
  · exact (cCmp_ok o h q).1
  · split at q
    · rename_i q1 q2 q3
      cases q
      exact me_ife (ht _ _ q1) (h _ _ q2) (h _ _ q3)
    · cases q
  · obtain ⟨v, e1, rfl⟩ := map_of q
    exact me_tup (cL_ok h e1).1
  · obtain ⟨v, e1, rfl⟩ := map_of q
    exact me_lst (cL_ok h e1).1
  · exact cD_ok h q
  · exact cIx_ok o h q
  · split at q
    · rename_i hf
      obtain ⟨v, e1, rfl⟩ := map_of q
      exact me_att o.K o.kit (o.att _ hf.1) hf.2 (h _ _ e1)
    · cases q
  · exact cF_ok h q
  · exact cCall_ok o h hl q
  · obtain ⟨v, e1, rfl⟩ := map_of q
    unfold cLc at e1
    split at e1
    · rename_i q1 q2 q3 q4
      split at e1
      · rename_i hb
        rw [Bool.and_eq_true] at hb
        cases e1
        exact me_lc o.K o.calm (by rw [o.N]; exact o.nd) (cIt_ok o h q1) (by rw [o.N, o.sc]; exact blkOk_by hb.1) (fun s H C cl fp => cTg_ok (o.toXB.blk s H C cl fp) q2) (fun s H C cl fp => cIfs_ok (hti (o.toXB.blk s H C cl fp)) q3)
          (fun s H C cl fp => hi (o.toXB.blk s H C cl fp) _ _ q4) (tgB_of hb.2)
      · cases e1
    · cases e1
  · cases q
/-! ### to a depth -/
mutual
def cE : Nat → Kx → Expr → Option E
  | 0, _, _ => none
  | n + 1, k, e => cSe k (cE n k) (cT n k) (fun s => cE n (k.blk s)) (fun s => cT n (k.blk s)) (fun s => cE n (k.lamd s)) e
def cT : Nat → Kx → Expr → Option T
  | 0, _, _ => none
  | n + 1, k, e => cTs (cE n k) (cT n k) e
end
theorem cET_ok : ∀ n : Nat, (∀ {X : Cx} {c : Cfg} {W : WX} {En : Env'} {k : Kx}, XOk X c W En k → GE X c W En (cE n k)) ∧ (∀ {X : Cx} {c : Cfg} {W : WX} {En : Env'} {k : Kx}, XOk X c W En k → GT X c W En (cT n k))
  | 0 => ⟨fun o e r q => (by unfold cE at q; cases q), fun o e r q => (by unfold cT at q; cases q)⟩
  | n + 1 => by
    obtain ⟨ih, iht⟩ := cET_ok n
    refine ⟨fun {X c W En k} o => ?_, fun {X c W En k} o => ?_⟩
    · intro e r q
      unfold cE at q
      exact cSe_ok o (ih o) (iht o) (fun b => ih (b.ok rfl fun _ => rfl)) (fun b => iht (b.ok rfl fun _ => rfl)) (fun b => ih (b.ok rfl fun _ => rfl)) e r q
    · intro e r q
      unfold cT at q
      exact cTs_ok o (ih o) (iht o) e r q
end
end Mini
end
section
set_option Elab.async false
set_option linter.all false
set_option maxRecDepth 100000
set_option maxHeartbeats 4000000
/-! Mini, part 26: from the text to the small language: statements. -/
namespace Mini
open PySem PySem.Spec PyProof.Rows L2
section
variable {X : Cx} {c : Cfg} {W : WX} {En : Env'} {k : Kx} {rs : Nat → Bool}
/-- a def's body: what statements need beyond -/
structure SOk (X : Cx) (c : Cfg) (W : WX) (En : Env') (k : Kx) (rs : Nat → Bool) : Prop where
  tk : Takes X W
  all : ∀ (W' : WX) (pn : List (Addr × Obj)) (xe : Value → Shared → Prop), Takes (X.tr pn xe) W' → XOk (X.tr pn xe) c W' En k
  ps : PassesOwn (model X.prog X.w) X.A X.env X.xe
  ex : X.ex = []
  stk : X.stack = X.env :: X.outer
  frm : X.env.frame = some X.env.locals
  exc : ∀ g, rs g = true → ∃ fI kk, Ex.Txt X.K X.prog X.mg (c.ad g) fI (En.flds g) ∧ En.flds g ≠ [] ∧ (En.flds g).length ≤ 800 ∧ Room kk X.A
  cat : ∀ x g, k.gl x = .cls g → ∀ d, En.cls d = some true → PySem.W.exmOne c.K (.ref (c.ad d)) (.ref (c.ad g)) = some (En.sub d g)
theorem SOk.x (o : SOk X c W En k rs) : XOk X c W En k := o.all W X.pn X.xe o.tk
theorem swp_ok {env : Env} {a b : Expr} {x y : Str} {px py pt pt2 : Pos} {kt k2 : Nat} (hk : env.scope.kind = .function) (hx : env.scope.names.lookup x = some .local) (hy : env.scope.names.lookup y = some .local) (hl : (py.line == px.line) = true) (hxy : x ≠ y)
    (ha : isStar a = false) (hb : isStar b = false) (hf : [a, b].all (foldedForSure 8) = false) (hc : [a, b].all (constantsAlone 8) = false) :
    swappedStores [.Tuple [.Name x px, .Name y py] kt pt] (.Tuple [a, b] k2 pt2) env = pure (some [x, y]) := by
  have kx : env.kindOf x = some .local := hx
  have ky : env.kindOf y = some .local := hy
  have hbk : env.blockKind = .function := by unfold Env.blockKind; rw [hk]; rfl
  have hst : ([a, b].any fun | .Starred .. => true | _ => false) = false := by
    have e : ∀ a : Expr, isStar a = false → (match a with | .Starred .. => true | _ => false) = false := fun a h => by
      cases a <;> first | rfl | cases h
    simp [e a ha, e b hb]
  unfold swappedStores
  simp only [hbk, hst, hf, hc]
  have hl2 : py.line = px.line := by simpa using hl
  simp [kx, ky, Expr.pos, hl2, hxy, List.eraseDups, List.eraseDupsBy, List.eraseDupsBy.loop]
  have e2 : (y == x) = false := by simpa using fun e => hxy e.symm
  refine (if_neg fun h => ?_).trans ?_
  · rcases h with h | h
    · cases a <;> first | cases h; done | cases ha
    · cases b <;> first | cases h; done | cases hb
  · rw [e2]
    rfl
def cTgL (k : Kx) : List Expr → Option (List Nat)
  | [] => some []
  | e :: es => match cTg1 k e, cTgL k es with
    | some i, some is => some (i :: is)
    | _, _ => none
theorem cTgL_ok (o : XB X c W En k) : ∀ {es : List Expr} {is : List Nat}, cTgL k es = some is → PGs X es (gNames is) ∧ es.length = is.length ∧ es.all (fun t => !isStar t) = true
  | [], is, q => by
    cases q
    exact ⟨pgs_nil, rfl, rfl⟩
  | e :: es, is, q => by
    unfold cTgL at q
    split at q
    · rename_i q1 q2
      cases q
      obtain ⟨a, b, d⟩ := cTgL_ok o q2
      obtain ⟨x, p, rfl⟩ := cTg1_star q1
      exact ⟨pgs_cons (cTg1_ok o q1) a rfl, by simp [b], by simpa [isStar] using d⟩
    · cases q
def funB (sc : Scope) : Bool := match sc.kind with
  | .function => true
  | _ => false
theorem funB_of {sc : Scope} (h : funB sc = true) : sc.kind = .function := by
  unfold funB at h
  split at h
  · assumption
  · cases h
def lclB (sc : Scope) (x : Str) : Bool := match sc.names.lookup x with
  | some .local => true
  | _ => false
theorem lclB_of {sc : Scope} {x : Str} (h : lclB sc x = true) : sc.names.lookup x = some .local := by
  unfold lclB at h
  split at h
  · assumption
  · cases h
/-- x = [.. for ..] -/
def cSetLc (n : Nat) (k : Kx) (y : Str) (py : Pos) (elt tg it : Expr) (ifs : List Expr) (scope : Scope) (pos : Pos) : Option S :=
  match slot k.N y, cLc k (cE n k) (fun s => cE n (k.blk s)) (fun s => cT n (k.blk s)) elt tg it ifs scope with
  | some i, some r => if (funB k.sc && lclB k.sc y && (py.line == pos.line) && !(scope.names.any fun (n, k) => n == y && (k == .local || k == .cell))) = true then some (.set i r.e) else none
  | _, _ => none
theorem cSetLc_ok (o : SOk X c W En k rs) {n : Nat} {y : Str} {py pos spos : Pos} {elt tg it : Expr} {ifs : List Expr} {scope : Scope} {r : S} (q : cSetLc n k y py elt tg it ifs scope pos = some r) :
    PS X (.Assign [.Name y py] (.ListComp elt [⟨tg, it, ifs, 0⟩] scope pos) spos) (tS c W fun s h => ex En r s h) := by
  have ox := o.x
  unfold cSetLc at q
  split at q
  · rename_i i r' q0 e1
    split at q
    · rename_i hb
      simp only [Bool.and_eq_true, Bool.not_eq_true'] at hb
      obtain ⟨⟨⟨b1, b2⟩, b3⟩, b4⟩ := hb
      cases q
      unfold cLc at e1
      split at e1
      · rename_i q1 q2 q3 q4
        split at e1
        · rename_i hb
          rw [Bool.and_eq_true] at hb
          cases e1
          have f1 := funB_of b1
          have f2 := lclB_of b2
          rw [← ox.sc] at f1 f2
          exact ms_setLc ox.K ox.calm (by rw [ox.N]; exact ox.nd) (ox.ix q0) f2 (sw_true f1 f2 b3 b4) (cIt_ok ox ((cET_ok n).1 ox) q1) (by rw [ox.N, ox.sc]; exact blkOk_by hb.1) (fun s H C cl fp => cTg_ok (ox.toXB.blk s H C cl fp) q2)
            (fun s H C cl fp => cIfs_ok ((cET_ok n).2 ((ox.toXB.blk s H C cl fp).ok rfl fun _ => rfl)) q3) (fun s H C cl fp => (cET_ok n).1 ((ox.toXB.blk s H C cl fp).ok rfl fun _ => rfl) _ _ q4) (tgB_of hb.2)
        · cases e1
      · cases e1
    · cases q
  · cases q
/-! ### assignments -/
def cUnp (n : Nat) (k : Kx) (ts : List Expr) (v : Expr) : Option S := match cTgL k ts, cE n k v with
  | some is, some r => some (.unp is r)
  | _, _ => none
def cPar (n : Nat) (k : Kx) : List Expr → List Expr → Option S
  | [.Name x px, .Name y py], [a, b] => match slot k.N x, slot k.N y, cE n k a, cE n k b with
    | some i, some j, some ra, some rb => if (funB k.sc && lclB k.sc x && lclB k.sc y && (py.line == px.line) && decide (x ≠ y) && decide (i ≠ j) && !isStar a && !isStar b && !([a, b].all (foldedForSure 8)) && !([a, b].all (constantsAlone 8))) = true then some (.par i j ra rb) else none
    | _, _, _, _ => none
  | _, _ => none
def cTupA (n : Nat) (k : Kx) (ts : List Expr) : Expr → Option S
  | .Tuple vs a b => if vs.all (foldedForSure 8) = true then cUnp n k ts (.Tuple vs a b) else cPar n k ts vs
  | v => if isTup v = true ∨ isComp v = true then none else cUnp n k ts v
theorem cUnp_ok (o : SOk X c W En k rs) {n : Nat} {ts : List Expr} {v : Expr} {kk : Nat} {pos pos' : Pos} {r : S} (hs : isComp v = false) (hw : swappedStores [.Tuple ts kk pos'] v X.env = pure none) (q : cUnp n k ts v = some r) :
    PS X (.Assign [.Tuple ts kk pos'] v pos) (tS c W fun s h => ex En r s h) := by
  have ox := o.x
  unfold cUnp at q
  split at q
  · rename_i q1 q2
    cases q
    obtain ⟨a, b, d⟩ := cTgL_ok ox.toXB q1
    exact ms_unp ox.K ox.calm a b d hs hw ((cET_ok n).1 ox _ _ q2)
  · cases q
theorem cTupA_ok (o : SOk X c W En k rs) {n : Nat} {ts : List Expr} {v : Expr} {kk : Nat} {pos pos' : Pos} {r : S} (q : cTupA n k ts v = some r) :
    PS X (.Assign [.Tuple ts kk pos'] v pos) (tS c W fun s h => ex En r s h) := by
  have ox := o.x
  unfold cTupA at q
  split at q
  · split at q
    · rename_i hf
      exact cUnp_ok o rfl (sw_fold hf) q
    · unfold cPar at q
      split at q
      · split at q
        · rename_i q1 q2 q3 q4
          split at q
          · rename_i hb
            simp only [Bool.and_eq_true, Bool.not_eq_true', decide_eq_true_eq] at hb
            obtain ⟨⟨⟨⟨⟨⟨⟨⟨⟨b1, b2⟩, b3⟩, b4⟩, b5⟩, b6⟩, b7⟩, b8⟩, b9⟩, b10⟩ := hb
            cases q
            have f1 := funB_of b1
            have f2 := lclB_of b2
            have f3 := lclB_of b3
            rw [← ox.sc] at f1 f2 f3
            exact ms_par ox.calm (by rw [ox.N]; exact ox.nd) (ox.ix q1) (ox.ix q2) b6 f2 f3 b7 b8 ((cET_ok n).1 ox _ _ q3) ((cET_ok n).1 ox _ _ q4) (swp_ok f1 f2 f3 b4 b5 b7 b8 b9 b10)
          · cases q
        · cases q
      · cases q
  · split at q
    · cases q
    · rename_i hn
      obtain ⟨h1, h2⟩ := not_or.mp hn
      exact cUnp_ok o (Bool.eq_false_iff.mpr h2) (sw_plain (Bool.eq_false_iff.mpr h1)) q
def cSet (n : Nat) (k : Kx) (x : Str) (px : Pos) : Expr → Option S
  | .ListComp elt [⟨tg, it, ifs, 0⟩] scope pos => cSetLc n k x px elt tg it ifs scope pos
  | v => if isComp v = true then none else match slot k.N x, cE n k v with
    | some i, some r => if locB k x = true then some (.set i r) else none
    | _, _ => none
theorem cSet_ok (o : SOk X c W En k rs) {n : Nat} {x : Str} {px pos : Pos} {v : Expr} {r : S} (q : cSet n k x px v = some r) : PS X (.Assign [.Name x px] v pos) (tS c W fun s h => ex En r s h) := by
  have ox := o.x
  unfold cSet at q
  split at q
  · exact cSetLc_ok o q
  · split at q
    · cases q
    · rename_i hs
      have hs := Bool.eq_false_iff.mpr hs
      split at q
      · rename_i q1 q2
        split at q
        · rename_i hl
          cases q
          obtain ⟨a, b⟩ := locB_of ox.toXB hl
          exact ms_set (by rw [ox.N]; exact ox.nd) (ox.ix q1) a b hs ((cET_ok n).1 ox _ _ q2)
        · cases q
      · cases q
def cAsg (n : Nat) (k : Kx) : List Expr → Expr → Option S
  | [.Name x px], v => cSet n k x px v
  | [.Subscript ob i _], v => if isComp v = true ∨ isSlice i = true then none else match cE n k v, cE n k ob, cE n k i with
    | some v, some ob, some i => some (.sub ob i v)
    | _, _, _ => none
  | [.Tuple ts _ _], v => cTupA n k ts v
  | _, _ => none
theorem cAsg_ok (o : SOk X c W En k rs) {n : Nat} {ts : List Expr} {v : Expr} {pos : Pos} {r : S} (q : cAsg n k ts v = some r) : PS X (.Assign ts v pos) (tS c W fun s h => ex En r s h) := by
  have ox := o.x
  unfold cAsg at q
  split at q
  · exact cSet_ok o q
  · split at q
    · cases q
    · rename_i hn
      obtain ⟨h1, h2⟩ := not_or.mp hn
      split at q
      · rename_i q1 q2 q3
        cases q
        exact ms_sub (by have := ox.un; omega) (Bool.eq_false_iff.mpr h1) (Bool.eq_false_iff.mpr h2) ((cET_ok n).1 ox _ _ q1) ((cET_ok n).1 ox _ _ q2) ((cET_ok n).1 ox _ _ q3)
      · cases q
  · exact cTupA_ok o q
  · cases q
/-! ### all statements -/
def cSL (f : Stmt → Option S) : List Stmt → Option Ss
  | [] => some .nil
  | s :: ss => match f s, cSL f ss with
    | some r, some rs => some (.cons r rs)
    | _, _ => none
abbrev GS (X : Cx) (c : Cfg) (W : WX) (En : Env') (f : Stmt → Option S) : Prop := ∀ s r, f s = some r → PS X s (tS c W fun s h => ex En r s h)
theorem cSL_ok {f : Stmt → Option S} (h : GS X c W En f) : ∀ {ss : List Stmt} {r : Ss}, cSL f ss = some r → PSs X ss (tS c W fun s h => exs En r s h)
  | [], r, q => by
    cases q
    exact mss_nil
  | s :: ss, r, q => by
    unfold cSL at q
    split at q
    · rename_i q1 q2
      cases q
      exact mss_cons (h _ _ q1) (cSL_ok h q2)
    · cases q
def cSs1 (n : Nat) (k : Kx) (rs : Nat → Bool) (f : Stmt → Option S) : Stmt → Option S
  | .Assign ts v _ => cAsg n k ts v
  | .Expr v _ => if isComp v = true then none else (cE n k v).map .exp
  | .Return (some e) _ => (cE n k e).map .ret
  | .Return none _ => some (.ret (.cst .non))
  | .Pass _ => some (.exp (.cst .non))
  | .Break _ => some .brk
  | .Continue _ => some .cnt
  | .If t a b _ => match cT n k t, cSL f a, cSL f b with
    | some t, some a, some b => some (.ife t a b)
    | _, _, _ => none
  | .For tg it body [] _ => match cIt k (cE n k) tg it, cTg k tg, cSL f body with
    | some (i, src), some g, some b => some (.for g i src b)
    | _, _, _ => none
  | .Raise (some (.Call (.Name x _) (e :: es) [] _)) none _ => match k.gl x, cL (cE n k) (e :: es) with
    | .cls g, some r => if (glN k x && rs g) = true then some (.rse g r) else none
    | _, _ => none
  | .Try [.Assign [.Name xi _] e _] [.ExceptHandler (some (.Name x _)) (some nm) [.Assign [.Name y _] (.Name nm' _) _] _] [] [] _ =>
    match k.gl x, slot k.N xi, slot k.N y, slot k.N nm, cE n k e with
    | .cls g, some i, some j, some l, some r => if nm = nm' ∧ j ≠ l ∧ isComp e = false ∧ (glN k x && lclB k.sc xi && lclB k.sc y && lclB k.sc nm && okN nm) = true then some (.try i r g j l) else none
    | _, _, _, _, _ => none
  | _ => none
theorem cSs1_ok (o : SOk X c W En k rs) {n : Nat} {f : Stmt → Option S} (h : GS X c W En f) : GS X c W En (cSs1 n k rs f) := by
  have ox := o.x
  have ge := (cET_ok n).1 ox
  intro st r q
  unfold cSs1 at q
  split at q
  · exact cAsg_ok o q
  · split at q
    · cases q
    · rename_i hs
      obtain ⟨v, e1, rfl⟩ := map_of q
      exact ms_exp (Bool.eq_false_iff.mpr hs) (ge _ _ e1)
  · obtain ⟨v, e1, rfl⟩ := map_of q
    exact ms_ret (ge _ _ e1)
  · cases q
    exact ms_retN
  · cases q
    exact ms_pass
  · cases q
    exact ms_brk
  · cases q
    exact ms_cnt
  · split at q
    · rename_i q1 q2 q3
      cases q
      exact ms_if ((cET_ok n).2 ox _ _ q1) (cSL_ok h q2) (cSL_ok h q3)
    · cases q
  · split at q
    · rename_i q1 q2 q3
      cases q
      exact ms_for ox.K o.ps ox.calm (cIt_ok ox ge q1) (cTg_ok ox.toXB q2) (cSL_ok h q3)
    · cases q
  · split at q
    · rename_i hv q2
      split at q
      · rename_i hb
        rw [Bool.and_eq_true] at hb
        cases q
        obtain ⟨ha, hs⟩ := cL_ok ge q2
        obtain ⟨g1, d1⟩ := glN_of ox hb.1
        obtain ⟨fI, kk, T, f1, f2, hr⟩ := o.exc _ hb.2
        exact ms_rse (W0 := fun _ _ _ => False) T f1 f2 hr g1 (ox.cls _ _ hv).1 d1 hs ox.calm o.tk ha
      · cases q
    · cases q
  · split at q
    · rename_i hv q1 q2 q3 q4
      split at q
      · rename_i hb
        obtain ⟨rfl, hjl, hc, hb⟩ := hb
        simp only [Bool.and_eq_true] at hb
        obtain ⟨⟨⟨⟨b1, b2⟩, b3⟩, b4⟩, b5⟩ := hb
        cases q
        obtain ⟨g1, d1⟩ := glN_of ox b1
        obtain ⟨d2, d3⟩ := okN_of b5
        have f2 := lclB_of b2
        have f3 := lclB_of b3
        have f4 := lclB_of b4
        rw [← ox.sc] at f2 f3 f4
        exact ms_try ox.K o.ex o.stk o.frm (by rw [ox.N]; exact ox.nd) (ox.ix q1) (ox.ix q3) (ox.ix q2) hjl f2 f4 f3 d2 d3 ⟨g1, d1, .inl (ox.cls _ _ hv).1⟩ (o.cat _ _ hv) o.tk hc
          fun W' pn xe tk => (cET_ok n).1 (o.all W' pn xe tk) _ _ q4
      · cases q
    · cases q
  · cases q
def cS (n : Nat) (k : Kx) (rs : Nat → Bool) : Nat → Stmt → Option S
  | 0, _ => none
  | m + 1, s => cSs1 n k rs (cS n k rs m) s
theorem cS_ok (o : SOk X c W En k rs) {n : Nat} : ∀ m : Nat, GS X c W En (cS n k rs m)
  | 0, s, r, q => by cases q
  | m + 1, s, r, q => cSs1_ok o (cS_ok o m) s r q
end
end Mini
end
section
set_option Elab.async false
set_option linter.all false
set_option maxRecDepth 100000
set_option maxHeartbeats 4000000
/-! Mini, part 27: all defs of a program keep their promises, to any depth. -/
namespace Mini
open PySem PySem.Spec PyProof.Rows L2
section
variable {P : Program} {w : World} {K : PySem.W.Frag} {mg : Str → Option Value} {base : Heap} {ad : Nat → Addr} {PG : Prog} {gl : Str → G} {at' : Str → Bool} {rs : Nat → Bool} {le ls : Nat}
/-- what the head has made: constants, classes -/
structure Facts (P : Program) (K : PySem.W.Frag) (mg : Str → Option Value) (base : Heap) (ad : Nat → Addr) (PG : Prog) (gl : Str → G) (at' : Str → Bool) (rs : Nat → Bool) : Prop where
  cst : ∀ x v, gl x = .cst v → ∃ u y, mg x = some u ∧ RelV y u ∧ ∀ z : Rz, z.K = K → z.ad = ad → Rel z v y
  blt : ∀ x, gl x = .blt → mg x = none
  cls : ∀ x g, gl x = .cls g → mg x = some (.ref (ad g)) ∧ (PG.cls g).isSome = true
  kit : ∀ c : Cfg, c.K = K → c.ad = ad → KitK c PG.cls PG.sub
  att : ∀ c : Cfg, c.K = K → c.ad = ad → ∀ f, at' f = true → AttK c PG.cls f
  exc : ∀ g, rs g = true → ∃ fI, Ex.Txt K P mg (ad g) fI (PG.flds g) ∧ PG.flds g ≠ [] ∧ (PG.flds g).length ≤ 800
  cat : ∀ x g, gl x = .cls g → ∀ d, PG.cls d = some true → PySem.W.exmOne K (.ref (ad d)) (.ref (ad g)) = some (PG.sub d g)
  dig : base.NoDigits
/-- a def, called from elsewhere -/
def CallF (P : Program) (w : World) (K : PySem.W.Frag) (mg : Str → Option Value) (base : Heap) (ad : Nat → Addr) (PG : Prog) (n : Nat) (x : Str) (g : Nat) (ps : List Str) : Prop :=
  ∃ f fd, FnG P w K mg base n f fd ps (spM K ad PG n g ps.length false) ∧ mg x = some (.ref f) ∧ PySem.W.keepIn K (.ref f) = true ∧ L2.Binds K fd ps [] ∧ KwB K fd ps ∧ (PG.fns[g]?).map Fn.ps = some ps.length
theorem run_argS {n g m : Nat} (h : (PG.fns[g]?).map Fn.ps = some m) (xs : List VV) (hp : VH) : run PG n g noCl (some xs) hp = argS m (fun xs h => run PG n g noCl (some xs) h) xs hp := by
  unfold argS
  split
  · rfl
  · rename_i hl
    cases n with
    | zero => rfl
    | succ n =>
      unfold run
      cases e : PG.fns[g]? with
      | none => rfl
      | some F =>
        rw [e] at h
        have h : F.ps = m := Option.some.inj h
        dsimp only
        rw [if_neg (by rw [h]; exact hl)]
abbrev kxOf (N : List Str) (sc : Scope) (gl : Str → G) (at' : Str → Bool) : Kx := ⟨N, sc, gl, at', none, fun _ => none, fun _ => true⟩
abbrev envG (PG : Prog) (n : Nat) : Env' := ⟨fun g xs h => run PG n g noCl (some xs) h, fun g cl h => run PG n g cl none h, noCl, PG.sub, PG.flds, PG.cls⟩
/-- the context of a def's body answers -/
theorem xb_def (Fa : Facts P K mg base ad PG gl at' rs) {n : Nat} (hfn : ∀ x g ps, gl x = .fn g ps → CallF P w K mg base ad PG n x g ps) {En : Env'} (hE : En.fn = fun g xs h => run PG n g noCl (some xs) h) (hS : En.sub = PG.sub) (hC : En.cls = PG.cls) {N : List Str} {sc : Scope} (hN : N.Nodup) {c : Cfg} (cK : c.K = K) (ca : c.ad = ad)
    {W : WX} {k : Kx} (k1 : k.N = N) (k2 : k.sc = sc) (k3 : k.gl = gl) (k4 : k.att = at') {X : Cx} (xP : X.prog = P) (xw : X.w = w) (xK : X.K = K) (xm : X.mg = mg) (xb : X.base = base) (xN : X.N = N) (xs : X.env.scope = sc) (xc : X.calm = true) (hgd : X.A.guards = some []) (hr : Room n X.A) (tk : Takes X W) (hf : ∀ x, k.st x = true → X.fn x = true) : XB X c W En k := by
  subst xP xw xK xm xb
  refine ⟨cK.symm, xN.trans k1.symm, by rw [k1]; exact hN, xs.trans k2.symm, xc, hgd, by have := hr.un; omega, tk, hf, ?_, ?_, ?_, ?_, ?_, ?_, Fa.dig⟩
  · rw [k3, cK, ca]; exact Fa.cst
  · rw [k3]; exact Fa.blt
  · rw [k3, ca, hC]; exact Fa.cls
  · intro x g ps e
    rw [k3] at e
    obtain ⟨f, fd, F, h1, h2, h3, h4, h5⟩ := hfn x g ps e
    refine ⟨n, n, PG, f, fd, false, by rw [cK, ca]; exact F, (fun e => nomatch e), hr, h1, h2, h3, h4, fun xs h => ?_⟩
    rw [hE]
    exact run_argS h5 xs h
  · rw [hC, hS]; exact Fa.kit c cK ca
  · rw [hC, k4]; exact Fa.att c cK ca
theorem so_def (Fa : Facts P K mg base ad PG gl at' rs) {n : Nat} (hfn : ∀ x g ps, gl x = .fn g ps → CallF P w K mg base ad PG n x g ps) {En : Env'} (hE : En.fn = fun g xs h => run PG n g noCl (some xs) h) (hS : En.sub = PG.sub) (hC : En.cls = PG.cls) (hFl : En.flds = PG.flds) {N : List Str} {sc : Scope} (hN : N.Nodup) {c : Cfg} (cK : c.K = K) (ca : c.ad = ad)
    {k : Kx} (k1 : k.N = N) (k2 : k.sc = sc) (k3 : k.gl = gl) (k4 : k.att = at') {qual : Str} {f : Addr} {cdv : Value} {A : Around} {outer : List Env} {s : Shared} {H : Hp} {E : XK}
    (hgd : (A.deeper (envOfC qual sc s.heap.objs.size f cdv)).guards = some []) (hr : Room n (A.deeper (envOfC qual sc s.heap.objs.size f cdv)))
    (hask : ∀ (W' : WX) (pn : List (Addr × Obj)) (xe : Value → Shared → Prop), Takes ((cxOf (L2.CX P w) P w K mg base N qual sc f cdv A outer s H E).tr pn xe) W' → XB ((cxOf (L2.CX P w) P w K mg base N qual sc f cdv A outer s H E).tr pn xe) c W' En k → XOk ((cxOf (L2.CX P w) P w K mg base N qual sc f cdv A outer s H E).tr pn xe) c W' En k) :
    SOk (cxOf (L2.CX P w) P w K mg base N qual sc f cdv A outer s H E) c (fun cls d _ H => E cls d H) En k rs := by
  refine ⟨takes_of rfl rfl rfl rfl, fun W' pn xe tk => hask W' pn xe tk (xb_def Fa hfn hE hS hC hN cK ca k1 k2 k3 k4 rfl rfl rfl rfl rfl rfl rfl rfl hgd hr tk fun _ _ => rfl), passes_of rfl, rfl, rfl, rfl, ?_, ?_⟩
  · intro g hg
    obtain ⟨fI, T, h1, h2⟩ := Fa.exc g hg
    rw [hFl, ca]
    exact ⟨fI, n, T, h1, h2, hr⟩
  · rw [k3, cK, ca, hS, hC]; exact Fa.cat
/-- a def as the head has made it, and its text in the small language -/
def DefF (K : PySem.W.Frag) (mg : Str → Option Value) (PG : Prog) (gl : Str → G) (at' : Str → Bool) (rs : Nat → Bool) (le ls : Nat) (x : Str) (g : Nat) (ps : List Str) : Prop :=
  ∃ (f : Addr) (name qual : Str) (params : Arguments) (body : List Stmt) (scope : Scope) (dV kV doc pm cdv ct oc : Value) (an od : Option Addr) (osl : Array (Option Value)) (N : List Str) (F : Fn),
    mg x = some (.ref f) ∧ PySem.W.keepIn K (.ref f) = true ∧ K.lookup f = some ⟨oc, od, .func (PySem.W.fnOf name qual params body scope dV kV doc pm an cdv ct), osl⟩ ∧ PySem.W.codeIn K cdv qual = true ∧ FnScope N ps scope ∧ PG.fns[g]? = some F ∧
      N.length = F.nsl ∧ ps.length = F.ps ∧ N.Nodup ∧ L2.Binds K (PySem.W.fnOf name qual params body scope dV kV doc pm an cdv ct) ps [] ∧ KwB K (PySem.W.fnOf name qual params body scope dV kV doc pm an cdv ct) ps ∧
      cSL (cS le (kxOf N scope gl at') rs ls) body = some F.body
theorem defs_ok (Fa : Facts P K mg base ad PG gl at' rs) (hd : ∀ x g ps, gl x = .fn g ps → DefF K mg PG gl at' rs le ls x g ps) : ∀ n x g ps, gl x = .fn g ps → CallF P w K mg base ad PG n x g ps
  | 0, x, g, ps, e => by
    obtain ⟨f, name, qual, params, body, scope, dV, kV, doc, pm, cdv, ct, oc, an, od, osl, N, F, h1, h2, h3, h4, h5, h6, h7, h8, h9, h10, h11, h12⟩ := hd x g ps e
    refine ⟨f, _, ⟨fun vs H Q E h => h.1, fun A outer s H args us vs Q E hg hr e0 hb r h => ?_⟩, h1, h2, h10, h11, by rw [h6]; exact congrArg some h8.symm⟩
    obtain ⟨hl, z, hv, xs, zK, zA, zL, zH, md, rl, p⟩ := h
    exact (p : False).elim
  | n + 1, x, g, ps, e => by
    have ih := defs_ok Fa hd n
    obtain ⟨f, name, qual, params, body, scope, dV, kV, doc, pm, cdv, ct, oc, an, od, osl, N, F, h1, h2, h3, h4, h5, h6, h7, h8, h9, h10, h11, h12⟩ := hd x g ps e
    refine ⟨f, _, ?_, h1, h2, h10, h11, by rw [h6]; exact congrArg some h8.symm⟩
    have w2 := def_ok (P := P) (w := w) (K := K) (mg := mg) (base := base) (k := n) (c := ⟨K, ad, none, [], none, []⟩) (nl := false) (PG := PG) (F := F) (n := n) (g := g) h3 h4 h5 h6 h7 h8 rfl rfl rfl fun l _ A outer s H E hgd hr => ?_
    · exact w2
    · exact cSL_ok (cS_ok (so_def Fa ih (En := envG PG n) rfl rfl rfl rfl h9 rfl rfl (k := kxOf N scope gl at') rfl rfl rfl rfl hgd hr fun W' pn xe tk xb => xb.ok rfl fun _ => rfl) ls) h12
end
end Mini
end
section
set_option Elab.async false
set_option linter.all false
set_option maxRecDepth 100000
set_option maxHeartbeats 4000000
/-! Mini, part 28: the def that hears a lambda; the def that hands it. -/
namespace Mini
open PySem PySem.Spec PyProof.Rows L2 LamX Lm
section
variable {ad : Nat → Addr} {PG : Prog} {gl : Str → G} {at' : Str → Bool} {rs : Nat → Bool} {le ls : Nat} {X : Cx} {c : Cfg} {W : WX} {F : Fn} {n kk gi : Nat} {Ng : List Str} {x a : Str} {sg : Scope} {g cP P : Addr} {cdv : Value} {bg : List Stmt}
abbrev kxAsk (N : List Str) (sc : Scope) (gl : Str → G) (at' : Str → Bool) (a : Str) : Kx := ⟨N, sc, gl, at', some a, fun _ => none, fun _ => true⟩
theorem hears_ok (Fa : Facts X.prog X.K X.mg X.base ad PG gl at' rs) (hfn : ∀ x g ps, gl x = .fn g ps → CallF X.prog X.w X.K X.mg X.base ad PG n x g ps) (cK : c.K = X.K) (ca : c.ad = ad) (hN : Ng.Nodup) (hk : n ≤ kk) (hc : cSL (cS le (kxAsk Ng sg gl at' a) rs ls) bg = some F.body) : Hears X c PG F n kk Ng x sg g cdv bg a := by
  intro s H E f c' q cl gn hgd hr hpe
  refine cSL_ok (cS_ok (so_def Fa hfn (En := envN PG n cl) rfl rfl rfl rfl hN (c := { c with lam := some (.ref f), cod := [(c', q)], gnd := some gn }) cK ca (k := kxAsk Ng sg gl at' a) rfl rfl rfl rfl hgd (hr.mono hk) fun W' pn xe tk xb => ⟨xb, fun a' e p1 p2 => ?_, fun x g e => (nomatch e)⟩) ls) hc
  have e : some a = some a' := e
  cases e
  exact hpe W' pn xe p1 p2 tk
theorem hcl_ok {pg : Arguments} {dV kV doc pm ct oc : Value} {an od : Option Addr} {osl : Array (Option Value)} {k : Kx} (Fa : Facts X.prog X.K X.mg X.base ad PG gl at' rs) (hfn : ∀ x g ps, gl x = .fn g ps → CallF X.prog X.w X.K X.mg X.base ad PG n x g ps) (cK : c.K = X.K) (ca : c.ad = ad)
    (k1 : X.N = k.N) (k3 : k.gl = gl) (k4 : k.att = at') (hNd : k.N.Nodup) (hcl : c.lam = none) (hg : Gl X x) (hm : X.mg x = some (.ref g)) (hk : PySem.W.keepIn X.K (.ref g) = true) (lk : X.K.lookup g = some ⟨oc, od, .func (PySem.W.fnOf x x pg bg sg dV kV doc pm an cdv ct), osl⟩) (hcg : PySem.W.codeIn X.K cdv x = true)
    (hb : L2.Binds X.K (PySem.W.fnOf x x pg bg sg dV kV doc pm an cdv ct) [a] []) (Sg : FnScope Ng [a] sg) (hN : Ng.Nodup) (hNg : Ng[0]? = some a) (hva : Vis sg a) (hF : PG.fns[gi]? = some F) (hFn : Ng.length = F.nsl) (hFp : F.ps = 1) (hFk : F.keep = false) (hc : cSL (cS le (kxAsk Ng sg gl at' a) rs ls) bg = some F.body)
    (TB : TabB X.base X.mg cP P) (hcode : X.env.code = .ref cP) (htab : (P, X.env.qual ++ "<lambda>") ∈ c.tbs) (hr : Room (n + 2) X.A) (hgd : X.A.guards = some []) (hcalm : X.calm = true) (tk : Takes X W)
    (hdb : (x == ("__debug__" : Str)) = false) (hd : (a == ("__debug__" : Str)) = false) (hcd : (a == ("__classdict__" : Str)) = false) : HclOk X c W (envG PG (n + 1)) k x gi := by
  refine ⟨envL PG n, n, fun params body scope p lpos pos eb LT LP hbody => ?_⟩
  refine me_hcl (k := n) cK.symm hcl hg hm hk lk hcg hb Sg hNg hva hF hFn hFp hFk (hears_ok Fa hfn cK ca hN (Nat.le_succ n) hc) TB hcode (fun z h s σ H at_ => at_.tab _ htab) hr hgd tk LT LP (fun A outer s H E f c' hgd2 hr2 lm cd gn => hbody A outer s H E f c' lm cd gn ?_) hdb hd hcd
  exact xb_def Fa hfn rfl rfl rfl hNd (c := { c with lam := lm, cod := cd, gnd := gn }) cK ca (k := k.lamd scope) rfl rfl k3 k4 rfl rfl rfl rfl rfl k1 rfl rfl hgd2 hr2 (takes_of rfl rfl rfl rfl) fun _ e => nomatch e
end
end Mini
end
section
set_option Elab.async false
set_option linter.all false
set_option maxRecDepth 100000
set_option maxHeartbeats 4000000
/-! Mini, part 29: law is called, behind the head. -/
namespace Mini
open PySem PySem.Spec PyProof.Rows L2 LamX Lm
/-- the script's object -/
abbrev scrO (vs : List Value) : Obj := { cls := .type "list", data := .seq vs.toArray }
abbrev tabO : Obj := { cls := .none, data := .fields #[] }
/-- what is tracked when law is called: the tables; the script, unless it is the module's own -/
def topH (ts : List Addr) (K : PySem.W.Frag) (a : Addr) (vs : List Value) (ns : List Int) : Hp := fun b => if b ∈ ts then some (.tbl #[]) else if b = a ∧ K.lookup a = none then some (.frz (scrO vs) (.lst (ns.map V.int))) else none
section
variable {P : Program} {w : World} {K : PySem.W.Frag} {mg mb : Str → Option Value} {a : Addr} {cs : List (Addr × Addr)} {h : Heap} {vs : List Value} {ns : List Int}
theorem topH_tab {ts : List Addr} {b : Addr} (hb : b ∈ ts) : topH ts K a vs ns b = some (.tbl #[]) := if_pos hb
theorem topH_scr {ts : List Addr} (ha : a ∉ ts) (hk : K.lookup a = none) : topH ts K a vs ns a = some (.frz (scrO vs) (.lst (ns.map V.int))) := (if_neg ha).trans (if_pos ⟨rfl, hk⟩)
theorem topH_inv {ts : List Addr} {b : Addr} {u : HO} (e : topH ts K a vs ns b = some u) : (b ∈ ts ∧ u = .tbl #[]) ∨ (b = a ∧ K.lookup a = none ∧ u = .frz (scrO vs) (.lst (ns.map V.int))) := by
  unfold topH at e
  split at e
  · cases e; exact .inl ⟨by assumption, rfl⟩
  · split at e
    · rename_i q
      cases e; exact .inr ⟨q.1, q.2, rfl⟩
    · cases e
/-- the heap behind the head -/
structure Top (w : World) (K : PySem.W.Frag) (mg mb : Str → Option Value) (a : Addr) (ts : List Addr) (h : Heap) (vs : List Value) (ns : List Int) : Prop where
  kin : K.In h
  gn : h.Ns mainGlobals mg
  bl : h.Ns builtinsNs mb
  bb : ∀ x : Str, x ≠ "__name__" → mb x = bootBuiltins x
  lim : h.NoLimit
  ta : ∀ b ∈ ts, h.get? b = some tabO
  tn : ∀ b ∈ ts, K.lookup b = none
  sc : h.get? a = some (scrO vs)
  it : IntsAre vs ns
  ln : ns.length ≤ sizeLine
variable {ts : List Addr}
theorem Top.out (T : Top w K mg mb a ts h vs ns) : a ∉ ts := fun z => by
  have q := T.ta a z
  rw [T.sc] at q
  cases q
/-- what is neither a table nor a list stays in sight -/
theorem Top.see (T : Top w K mg mb a ts h vs ns) {b : Addr} {o : Obj} (e : h.get? b = some o) (h1 : ∀ us n, o.data ≠ .seq us n) (h2 : o.data ≠ .fields #[]) : (hidT h (topH ts K a vs ns)).get? b = some o := by
  refine hidT_get e ?_
  cases q : topH ts K a vs ns b with
  | none => rfl
  | some u =>
    rcases topH_inv q with ⟨m, _⟩ | ⟨rfl, _, _⟩
    · rw [T.ta b m] at e; cases e; exact (h2 rfl).elim
    · rw [T.sc] at e; cases e; exact (h1 _ _ rfl).elim
theorem Top.nsp (T : Top w K mg mb a ts h vs ns) {b : Addr} {m : Str → Option Value} (n : h.Ns b m) : (hidT h (topH ts K a vs ns)).Ns b m := by
  obtain ⟨o, es, ep, e, d, r⟩ := n
  exact ⟨o, es, ep, T.see e (fun us n z => by rw [d] at z; cases z) (fun z => by rw [d] at z; cases z), d, r⟩
theorem Top.kb (T : Top w K mg mb a ts h vs ns) : K.In (hidT h (topH ts K a vs ns)) := fun b o e => by
  refine hidT_get (T.kin b o e) ?_
  cases q : topH ts K a vs ns b with
  | none => rfl
  | some u =>
    rcases topH_inv q with ⟨m, _⟩ | ⟨rfl, n, _⟩
    · rw [T.tn b m] at e; cases e
    · rw [n] at e; cases e
theorem Top.mod (T : Top w K mg mb a ts h vs ns) : L2.Mod K mg (hidT h (topH ts K a vs ns)) := by
  obtain ⟨mc, l1, l2⟩ := T.lim
  exact ⟨T.kb, T.nsp T.gn, ⟨mb, T.nsp T.bl, T.bb⟩, ⟨mc, T.nsp l1, l2⟩⟩
theorem Top.ok (T : Top w K mg mb a ts h vs ns) : HOk P w (topH ts K a vs ns) h := fun b u e => by
  rcases topH_inv e with ⟨m, rfl⟩ | ⟨rfl, _, rfl⟩
  · exact T.ta b m
  · refine ⟨T.sc, ?_, vs, _, vals_ints T.it, T.sc⟩
    rw [List.length_map]; exact T.ln
theorem Top.scr (T : Top w K mg mb a ts h vs ns) : SqL K (topH ts K a vs ns) a (ns.map V.int) := by
  cases hk : K.lookup a with
  | none => exact .inl (.inr ⟨_, topH_scr T.out hk⟩)
  | some o =>
    have e := T.kin a o hk
    rw [T.sc] at e
    cases e
    refine .inr ⟨_, vs.toArray, _, hk, rfl, rfl, rfl, ?_, by simpa using vals_ints T.it⟩
    rw [List.size_toArray, T.it.length]; exact T.ln
theorem Top.env0 {s : Shared} (T : Top w K mg mb a ts s.heap vs ns) (hg : s.gens = #[]) : Env0 P w K mg (hidT s.heap (topH ts K a vs ns)) callerA [] s (topH ts K a vs ns) :=
  ⟨rfl, T.mod, fun b o e => of_hidT e, Nat.le_of_eq (hidT_size _ _), trivial, fun b hb => (nomatch hb), T.ok, .of_eq hg⟩
end
end Mini
end
section
set_option Elab.async false
set_option linter.all false
set_option maxRecDepth 100000
set_option maxHeartbeats 4000000
/-! Mini, part 30: what law hands back, and what it leaves. -/
namespace Mini
open PySem PySem.Spec PyProof.Rows L2 LamX Lm
/-- the reading at law's start -/
def topZ (K : PySem.W.Frag) (ad : Nat → Addr) (tabs : List (Addr × Str)) (H : Hp) : Rz := ⟨K, ad, fun _ => 0, 0, H, [], tabs, none, []⟩
section
variable {P : Program} {w : World} {K : PySem.W.Frag} {mg mb : Str → Option Value} {a : Addr} {vs : List Value} {ns : List Int} {ts : List Addr} {s : Shared} {ad : Nat → Addr} {tabs : List (Addr × Str)}
theorem topZ_md (ht : ∀ p ∈ tabs, p.1 ∈ ts) : Md (topZ K ad tabs (topH ts K a vs ns)) [] := by
  refine ⟨rfl, fun i j hi => absurd hi (Nat.not_lt_zero _), fun k o e => (by cases e), fun b hb => (nomatch hb), fun k hk => absurd hk (Nat.not_lt_zero _), fun p hp => ?_, fun p hp => ⟨fun k hk => absurd hk (Nat.not_lt_zero _), fun z => nomatch z⟩, fun p hp => (nomatch hp)⟩
  refine ⟨#[], topH_tab (ht p hp), trivial, fun pos cv hc => ?_⟩
  cases hc
theorem vals_rel {z : Rz} : ∀ ns : List Int, RelL z (ns.map VV.int) (ns.map V.int)
  | [] => rfl
  | n :: ns => ⟨_, _, rfl, rfl, vals_rel ns⟩
theorem topZ_rel (T : Top w K mg mb a ts s.heap vs ns) (ht : ∀ p ∈ tabs, p.1 ∈ ts) (ha : K.lookup a = none) : RelL (topZ K ad tabs (topH ts K a vs ns)) [.lst (ns.map VV.int)] [.ref a] := by
  refine ⟨_, _, rfl, ⟨a, ns.map V.int, rfl, ⟨.inr ⟨_, topH_scr T.out ha⟩, ⟨fun k hk => absurd hk (Nat.not_lt_zero _), fun z => (nomatch z), fun p hp e => T.out (by rw [← e]; exact ht p hp)⟩⟩, vals_rel ns⟩, rfl⟩
/-- what stood before law was called stands behind it; a table may have grown -/
theorem top_old {H' : Hp} {s' : Shared} (T : Top w K mg mb a ts s.heap vs ns) (hcd : ∀ b ∈ ts, PySem.isCodeTable s.heap b) (un : Un (frs []) [] (topH ts K a vs ns) H' s.heap s'.heap) (hok' : HOk P w H' s'.heap) (hok : HOk P w (topH ts K a vs ns) s.heap) : OldK s.heap s'.heap := by
  have grown : ∀ b ∈ ts, ∃ more : Array Value, s'.heap.get? b = some { cls := .none, data := .fields more } := fun b hb => by
    obtain ⟨more, e⟩ := un.tbls b #[] (topH_tab hb)
    exact ⟨_, hok' b _ e⟩
  have same : ∀ b o, b ∉ ts → s.heap.get? b = some o → s'.heap.get? b = some o := fun b o nb e => by
    cases q : topH ts K a vs ns b with
    | none => exact un.keep b o e q (fun z => nomatch z) (fun z => nomatch z)
    | some u =>
      rcases topH_inv q with ⟨m, _⟩ | ⟨rfl, _, rfl⟩
      · exact absurd m nb
      · obtain ⟨e1, _⟩ := hok b _ q
        obtain ⟨e2, _⟩ := hok' b _ (un.frzs b _ _ q)
        rw [e] at e1
        cases e1
        exact e2
  refine ⟨fun b o e => ?_, fun b o e => ?_⟩
  · by_cases hb : b ∈ ts
    · obtain ⟨more, hm⟩ := grown b hb
      rw [T.ta b hb] at e
      cases e
      exact .inr (.inl ⟨hcd b hb, rfl, #[], more, rfl, by rw [Array.empty_append]; exact hm⟩)
    · exact .inl (same b o hb e)
  · by_cases hb : b ∈ ts
    · obtain ⟨more, hm⟩ := grown b hb
      exact ⟨_, hm⟩
    · exact ⟨o, same b o hb e⟩
/-- THE CALL: law's body is compiled, its run gives True -/
theorem law_run {k : Nat} {fa : Addr} {name qual : Str} {params : Arguments} {body : List Stmt} {scope : Scope} {dV kV doc pm cdv ct oc : Value} {an od : Option Addr} {osl : Array (Option Value)} {N : List Str} {x : Str} {F : Fn} {En : Env'} {hE : VH}
    (T : Top w K mg mb a ts s.heap vs ns) (hg : s.gens = #[]) (hcd : ∀ b ∈ ts, PySem.isCodeTable s.heap b) (ht : ∀ p ∈ tabs, p.1 ∈ ts) (hu : ∀ p ∈ tabs, ∀ q ∈ tabs, q.1 = p.1 → q.2 = p.2) (ha : K.lookup a = none)
    (lk : K.lookup fa = some ⟨oc, od, .func (PySem.W.fnOf name qual params body scope dV kV doc pm an cdv ct), osl⟩) (hcc : PySem.W.codeIn K cdv qual = true) (S : FnScope N [x] scope) (hb : BindsTo s (PySem.W.fnOf name qual params body scope dV kV doc pm an cdv ct) ⟨[.ref a], []⟩ [(x, .ref a)]) (hr : Room (k + 1) callerA) (hN : N.length = F.nsl)
    (hbody : Room k (callerA.deeper (envOfC qual scope s.heap.objs.size fa cdv)) → PSs (cxOf (L2.CX P w) P w K mg (hidT s.heap (topH ts K a vs ns)) N qual scope fa cdv callerA [] s (topH ts K a vs ns) fun _ _ _ => False) body (tS ⟨K, ad, none, [], none, tabs⟩ (fun _ _ _ _ => False) fun s h => exs En F.body s h))
    (hrun : leave F 0 (exs En F.body (startS F [.lst (ns.map VV.int)]) []) = .ok (.bl true) hE) :
    codeAny (model P w) callerA (.call (.ref fa) ⟨[.ref a], []⟩) (fun r s' => r = .ok (.ret (.bool true)) ∧ OldK s.heap s'.heap ∧ s'.os = s.os ∧ AllBare s'.gens) s := by
  refine codeAny_mono (run_ofS (CX := L2.CX P w) (us := [.ref a]) (vs := [.ref a]) (Q := fun v _ => v = .bl true) (E := fun _ _ _ => False) lk hcc S hr (T.env0 hg) hb (.cons rfl .nil) rfl fun hr' => ⟨_, hbody hr', topZ K ad tabs (topH ts K a vs ns), [], startS F [.lst (ns.map VV.int)], ?_⟩) fun r s' h => ?_
  · refine ⟨⟨rfl, rfl, rfl, topZ_md ht, startS_rel (z := topZ K ad tabs (topH ts K a vs ns)) hN ?_ (topZ_rel T ht ha), rfl, fun p hp => (nomatch hp), fun g e => (nomatch e), fun p hp => ?_⟩, ?_⟩
    · have l := S.pre
      have l2 := congrArg List.length l
      rw [List.length_take] at l2
      simp only [List.length_cons, List.length_nil] at l2 ⊢
      omega
    · exact ⟨hp, fun q hq e => hu p hp q hq e⟩
    · refine leave_ok (c := ⟨K, ad, none, [], none, tabs⟩) (F := F) (h := []) (Q := fun v _ => v = V.bl true) (E := fun _ _ _ => False) (topZ_md ht) ?_
      show Post _ (leave F 0 _) _ _
      rw [hrun]
      intro z' e m x hx
      exact hx
  · cases r with
    | error e =>
      obtain ⟨_, _, _, _, _, _, _, _, _, _, _, _, z⟩ := h
      exact False.elim z
    | ok fl =>
      cases fl with
      | next => exact False.elim h
      | brk => exact False.elim h
      | cont => exact False.elim h
      | ret u =>
        obtain ⟨v, H', ho, hb', un, hok', r', q⟩ := h
        subst q
        obtain rfl : u = Value.bool true := r'
        exact ⟨rfl, top_old T hcd un hok' T.ok, ho, hb'⟩
end
end Mini
end
section
set_option Elab.async false
set_option linter.all false
set_option maxRecDepth 100000
set_option maxHeartbeats 4000000
/-! Mini, part 31: what is looked at behind the head. -/
namespace Mini
open PySem PySem.Spec PyProof.Rows L2
theorem lookup_zip : ∀ {ps : List Str} {us : List Value}, us.length = ps.length → ∀ n ∈ ps, ((ps.zip us).lookup n).isNone = false
  | [], us, h, n, hn => nomatch hn
  | p :: ps, [], h, n, hn => by simp at h
  | p :: ps, u :: us, h, n, hn => by
    rw [List.zip_cons_cons, List.lookup_cons]
    cases e : (n == p) with
    | true => rfl
    | false =>
      rcases List.mem_cons.mp hn with rfl | hn
      · simp at e
      · exact lookup_zip (by simpa using h) n hn
theorem binds_zip : ∀ {ps : List Str} {us : List Value}, ps.Nodup → us.length = ps.length → ps.filterMap (fun n => ((ps.zip us).lookup n).map (n, ·)) = ps.zip us := by
  intro ps us
  suffices h : ∀ (qs : List Str) (ps : List Str) (us : List Value) (m : List (Str × Value)), ps.Nodup → us.length = ps.length → (∀ q ∈ ps, m.lookup q = (ps.zip us).lookup q) → ps.filterMap (fun n => (m.lookup n).map (n, ·)) = ps.zip us from
    fun h1 h2 => h ps ps us _ h1 h2 fun _ _ => rfl
  intro qs ps
  induction ps with
  | nil => intro us m _ _ _; rfl
  | cons p ps ih =>
    intro us m nd hl hm
    cases us with
    | nil => simp at hl
    | cons u us =>
      have nd' := List.nodup_cons.mp nd
      rw [List.filterMap_cons, hm p List.mem_cons_self, List.zip_cons_cons, List.lookup_cons, beq_self_eq_true]
      simp only [Option.map]
      congr 1
      refine ih us m nd'.2 (by simpa using hl) fun q hq => ?_
      rw [hm q (List.mem_cons_of_mem _ hq), List.zip_cons_cons, List.lookup_cons]
      have : (q == p) = false := by simpa using fun e => nd'.1 (by rw [← e]; exact hq)
      rw [this]
theorem mem_zip : ∀ {ps : List Str} {us : List Value}, us.length = ps.length → ∀ n ∈ ps, ∃ v, (n, v) ∈ ps.zip us
  | [], us, h, n, hn => nomatch hn
  | p :: ps, [], h, n, hn => by simp at h
  | p :: ps, u :: us, h, n, hn => by
    rcases List.mem_cons.mp hn with rfl | hn
    · exact ⟨u, List.mem_cons_self⟩
    · obtain ⟨v, e⟩ := mem_zip (by simpa using h) n hn
      exact ⟨v, List.mem_cons_of_mem _ e⟩
theorem bind_plain {fd : FuncData} {args : List Arg} {us : List Value} (h1 : fd.params = ⟨[], args, none, [], [], none, []⟩) (hd : fd.defaults = .none) (nd : (args.map (·.arg)).Nodup) (hl : us.length = args.length) : bindArgs fd ⟨us, []⟩ = pure ((args.map (·.arg)).zip us) := by
  have hl' : us.length = (args.map (·.arg)).length := by rw [List.length_map]; exact hl
  have e1 : seqItems? fd.defaults = pure none := by rw [hd]; rfl
  have e2 : List.filter (fun n => (List.lookup n ((args.map (·.arg)).zip us)).isNone) (args.map (·.arg)) = [] := List.filter_eq_nil_iff.mpr fun n hn => by rw [lookup_zip hl' n hn]; simp
  have e3 := binds_zip nd hl'
  obtain ⟨n1, n2, n3, n4, n5, n6, n7, n8, n9, n10, n11, n12, n13, n14, n15⟩ := fd
  subst h1
  subst hd
  unfold bindArgs
  generalize q : args.map (·.arg) = ps at *
  have hl2 : us.length ≤ ps.length := Nat.le_of_eq hl'
  have hl3 : ps.length = args.length := hl'.symm.trans hl
  simp [q, e1, hl, hl2, hl3, e2, e3]
  rw [← hl3, List.take_length, e2]
  simp
  intro x hx hn
  obtain ⟨v, hv⟩ := mem_zip hl' x hx
  exact absurd hv (hn v)
theorem bind_kw1 {fd : FuncData} {a : Arg} {u : Value} (h1 : fd.params = ⟨[], [a], none, [], [], none, []⟩) (hd : fd.defaults = .none) : bindArgs fd ⟨[], [(a.arg, u)]⟩ = pure [(a.arg, u)] := by
  have e1 : seqItems? fd.defaults = pure none := by rw [hd]; rfl
  unfold bindArgs
  simp [h1, e1, List.lookup]
/-! ### defs as data -/
structure De where
  st : Stmt
  x : Str
  N : List Str
  keep : Bool
  body : Ss
def De.ps (d : De) : List Str := (defArgs d.st).args.map (·.arg)
def De.he (d : De) : He.DefD := ⟨(d.x, none), d.x, d.x, defArgs d.st, defBody d.st, defScope d.st, [], []⟩
def De.fn (d : De) : Fn := ⟨d.ps.length, d.N.length, d.keep, d.body⟩
def plainA (a : Arguments) : Bool := match a with
  | ⟨[], _, none, [], [], none, []⟩ => true
  | _ => false
theorem plainA_of {a : Arguments} (h : plainA a = true) : a = ⟨[], a.args, none, [], [], none, []⟩ := by
  unfold plainA at h
  split at h
  · rfl
  · cases h
def scopeB (N ps : List Str) (sc : Scope) : Bool := funB sc && (!sc.isCoroutine && (!sc.isGenerator && (decide N.Nodup && (decide (N.take ps.length = ps) && (ps.all (fun x => match sc.names.lookup x with
  | some .local => true
  | some .cell => true
  | _ => false) && sc.names.all fun y => match y.2 with
  | .free => false
  | _ => true)))))
theorem scopeB_of {N ps : List Str} {sc : Scope} (h : scopeB N ps sc = true) : FnScope N ps sc := by
  unfold scopeB at h
  simp only [Bool.and_eq_true, Bool.not_eq_true', decide_eq_true_eq, List.all_eq_true] at h
  obtain ⟨h1, h2, h3, h4, h5, h6, h7⟩ := h
  refine ⟨funB_of h1, h2, h3, h4, h5, fun x hx => ?_, fun y hy e => ?_⟩
  · have q := h6 x hx
    split at q
    · exact .inl (by assumption)
    · exact .inr (by assumption)
    · cases q
  · have q := h7 y hy
    rw [e] at q
    cases q
def De.ok (d : De) : Bool := plainA (defArgs d.st) && scopeB d.N d.ps (defScope d.st)
/-! ### the whole text as data -/
structure HS where
  names : List (Str × G)
  ds : List De
  cn : List (Str × Bool × List Str)
  sub : List (Nat × Nat)
  ats : List Str
namespace HS
variable (h : HS)
def gl (x : Str) : G := (h.names.lookup x).getD .no
def atB (f : Str) : Bool := h.ats.contains f
def cls (g : Nat) : Option Bool := (h.cn[g]?).map (·.2.1)
def flds (g : Nat) : List Str := ((h.cn[g]?).map (·.2.2)).getD []
def subB (g k : Nat) : Bool := h.sub.contains (g, k)
def prog : Prog := ⟨h.ds.map De.fn, h.subB, h.flds, h.cls⟩
def nm (g : Nat) : Str := ((h.cn[g]?).map (·.1)).getD Str.empty
def ad (K : PySem.W.Frag) (g : Nat) : Addr := He.ga K (h.nm g)
def rs (g : Nat) : Bool := (h.cls g == some true) && (!(h.flds g).isEmpty && decide ((h.flds g).length ≤ 800))
/-- the types that are known -/
def tys : List Ty := [.bi "NoneType", .bi "bool", .bi "int", .bi "str", .bi "tuple", .bi "list", .bi "dict"] ++ (List.range h.cn.length).map .cls
theorem tys_of {t : Ty} (q : okTy h.cls t) : t ∈ h.tys := by
  cases t with
  | bi n =>
    have q : n ∈ ["NoneType", "bool", "int", "str", "tuple", "list", "dict"] := q
    refine List.mem_append_left _ ?_
    simp only [List.mem_cons, List.not_mem_nil, or_false] at q ⊢
    rcases q with rfl | rfl | rfl | rfl | rfl | rfl | rfl <;> simp
  | cls g =>
    refine List.mem_append_right _ (List.mem_map.mpr ⟨g, List.mem_range.mpr ?_, rfl⟩)
    have q : ((h.cn[g]?).map (·.2.1)).isSome = true := q
    rw [Option.isSome_map] at q
    by_cases e : g < h.cn.length
    · exact e
    · rw [List.getElem?_eq_none (by omega)] at q
      cases q
theorem cls_lt {g : Nat} {b : Bool} (q : h.cls g = some b) : g ∈ List.range h.cn.length := by
  refine List.mem_range.mpr ?_
  unfold cls at q
  by_cases e : g < h.cn.length
  · exact e
  · rw [List.getElem?_eq_none (by omega)] at q
    cases q
/-! ### looks at the part -/
def cstB (u : Value) : VV → Bool
  | .non => (match u with
    | .none => true
    | _ => false)
  | .bl b => (match u with
    | .bool c => b == c
    | _ => false)
  | .int i => (match u with
    | .int j _ => decide (j = i)
    | _ => false)
  | .str s => (match u with
    | .str t _ => decide (t = s)
    | _ => false)
  | _ => false
theorem cstB_of {u : Value} {v : VV} (q : cstB u v = true) : ∃ y, RelV y u ∧ ∀ z : Rz, Rel z v y := by
  unfold cstB at q
  split at q
  · split at q
    · exact ⟨.non, rfl, fun _ => rfl⟩
    · cases q
  · rename_i b
    split at q
    · rename_i c
      have e : b = c := eq_of_beq q
      subst e
      exact ⟨.bl b, rfl, fun _ => rfl⟩
    · cases q
  · rename_i i
    split at q
    · rename_i j t
      have e : j = i := of_decide_eq_true q
      subst e
      exact ⟨.int j, ⟨t, rfl⟩, fun _ => rfl⟩
    · cases q
  · rename_i i
    split at q
    · rename_i j t
      have e : j = i := of_decide_eq_true q
      subst e
      exact ⟨.str j, ⟨t, rfl⟩, fun _ => rfl⟩
    · cases q
  · cases q
def nameB (K : PySem.W.Frag) (p : Str × G) : Bool := match p.2 with
  | .no => true
  | .blt => He.eqO (PySem.W.nsIn K mainGlobals p.1) (some none)
  | .cst v => (match PySem.W.nsIn K mainGlobals p.1 with
    | some (some u) => cstB u v
    | _ => false)
  | .cls g => He.eqO (PySem.W.nsIn K mainGlobals p.1) (some (some (.ref (h.ad K g))))
  | .fn _ _ => He.eqO (PySem.W.nsIn K mainGlobals p.1) (some (some (.ref (He.ga K p.1))))
/-- what needs no part -/
def nameS (p : Str × G) : Bool := match p.2 with
  | .cls g => (h.cls g).isSome
  | .fn g ps => (match h.ds[g]? with
    | some d => decide (d.x = p.1) && (decide (d.ps = ps) && d.ok)
    | none => false)
  | _ => true
def insB (K : PySem.W.Frag) (C : Addr) : Bool := (PySem.W.plainGet K C Str.empty && (PySem.W.hasDictIn K C && (PySem.W.plainOver K C && He.eqO (PySem.W.findIn K (.ref C) "__setattr__") (some (some (.builtin "object.__setattr__"))))))
  && (He.eqO (PySem.W.findIn K (.ref C) "__class__") (some (some (.builtin "object.__class__"))) && (He.eqO (PySem.W.specialIn K (.builtin "object.__class__") "__get__") (some (some (.builtin "getset_descriptor.__get__")))
  && (decide (PySem.W.takesIn K (.builtin "object.__class__") = some true) && decide (PySem.W.mroIn K C (.type "object") = some true))))
def excB (K : PySem.W.Frag) (C : Addr) : Bool := He.eqO (PySem.W.findIn K (.ref C) "__getattribute__") (some (some (.builtin "BaseException.__getattribute__"))) && (He.eqO (PySem.W.findIn K (.ref C) "__getattr__") (some none)
  && (decide (PySem.W.subIn K (.ref C) (.type "BaseException") = some true) && (PySem.W.hasDictIn K C && (He.eqO (PySem.W.findIn K (.ref C) "__class__") (some (some (.builtin "object.__class__"))) && (He.eqO (PySem.W.specialIn K (.builtin "object.__class__") "__get__") (some (some (.builtin "getset_descriptor.__get__")))
  && (decide (PySem.W.takesIn K (.builtin "object.__class__") = some true) && decide (PySem.W.mroIn K C (.type "object") = some true)))))))
theorem insB_of {K : PySem.W.Frag} {C : Addr} (q : insB K C = true) : InsK K C := by
  unfold insB at q
  simp only [Bool.and_eq_true, decide_eq_true_eq] at q
  obtain ⟨⟨a1, a2, a3, a4⟩, a5, a6, a7, a8⟩ := q
  exact ⟨⟨a1, a2, a3, He.eqO_ok a4⟩, He.eqO_ok a5, He.eqO_ok a6, a7, a8⟩
theorem excB_of {K : PySem.W.Frag} {C : Addr} (q : excB K C = true) : ExcC K C := by
  unfold excB at q
  simp only [Bool.and_eq_true, decide_eq_true_eq] at q
  obtain ⟨a1, a2, a3, a4, a5, a6, a7, a8⟩ := q
  exact ⟨He.eqO_ok a1, He.eqO_ok a2, a3, a4, He.eqO_ok a5, He.eqO_ok a6, a7, a8⟩
/-- an __init__ as Ex.Txt has it -/
def initB (K : PySem.W.Frag) (P : Program) (C : Addr) (fs : List Str) (fd : FuncData) : Bool := match fd.closure, fd.code, fd.body with
  | [(c0, cc)], .ref cda, .stmts body => decide (c0 = "__class__") && (PySem.W.codeIn K (.ref cda) fd.qualname && ((match K.lookup cda with
      | some ⟨_, _, .fields vs, _⟩ => (match (vs[2]? : Option Value) with
        | some (.str file _) => ((P.main.file : Str) == file)
        | _ => false)
      | _ => false) && ((match K.lookup cc with
      | some ⟨_, _, .cell (some (.ref c')), _⟩ => decide (c' = C)
      | _ => false) && (decide (Ex.supB body = some fs) && (funB fd.scope && (!fd.scope.isCoroutine && (!fd.scope.isGenerator && (fd.scope.names.all (fun y => match y.2 with
      | .cell => false
      | _ => true) && (glB fd.scope "super" && ((match fd.scope.names.lookup ("__class__" : Str) with
      | some .free => true
      | _ => false) && (lclB fd.scope "self" && (fs.all (fun f => lclB fd.scope f) && (plainA fd.params && (decide (fd.params.args.map (·.arg) = ("self" : Str) :: fs) && (decide ((("self" : Str) :: fs).Nodup) && (fs.all (fun f => !(f == ("__debug__" : Str))) && ((match fd.defaults with
      | .none => true
      | _ => false) && (decide (fd.globals = mainGlobals) && decide (fd.builtins = builtinsNs)))))))))))))))))))
  | _, _, _ => false
def txtB (K : PySem.W.Frag) (P : Program) (C fI : Addr) (fs : List Str) : Bool := ((match K.lookup C with
  | some ⟨.type t, _, .cls cd, sl⟩ => decide (t = "type") && (match cd.mro, sl.toList with
    | .ref C' :: bm, [_, _, _, _, some (.builtin n), _] => decide (C' = C) && (decide (n = "ValueError.__new__") && (!cd.hasDel && (cd.hasDict && HandSPX.refsVE bm)))
    | _, _ => false)
  | _ => false) && (He.eqO (PySem.W.findIn K (.ref C) "__setattr__") (some (some (.builtin "object.__setattr__"))) && (fs.all (fun f => He.eqO (PySem.W.findIn K (.ref C) f) (some none)) && (He.eqO (PySem.W.findIn K (.ref C) "__init__") (some (some (.ref fI)))
  && (decide (PySem.W.typeIn K (.ref fI) = some (.type "function")) && (PySem.W.keepIn K (.ref C) && (decide (PySem.W.subIn K (.ref C) (.type "BaseException") = some true) && (decide (PySem.W.typeIn K (.ref C) = some (.type "type")) && (decide (PySem.W.subIn K (.ref C) (.type "ValueError") = some true)
  && (He.eqO (PySem.W.ks_superIn K C C "__init__") (some (some (.builtin "ValueError.__init__"))) && (decide (PySem.W.mroIn K C (.ref C) = some true) && (He.eqO (PySem.W.nsIn K cStatics "thirdparty.any") (some none) && (He.eqO (PySem.W.nsIn K mainGlobals "super") (some none) && (decide fs.Nodup
  && (!(P.main.scope.names.lookup ("super" : Str)).isSome && (match K.lookup fI with
    | some ⟨_, _, .func fd, _⟩ => initB K P C fs fd
    | _ => false))))))))))))))))
theorem initB_of {K : PySem.W.Frag} {P : Program} {C fI : Addr} {fs : List Str} {oc : Value} {od : Option Addr} {fd : FuncData} {osl : Array (Option Value)} (lk : K.lookup fI = some ⟨oc, od, .func fd, osl⟩) (q : initB K P C fs fd = true) :
    ∃ (oc : Value) (od : Option Addr) (name qual : Str) (params : Arguments) (body : List Stmt) (scope : Scope) (dV kV doc pm : Value) (an : Option Addr) (cda cc : Addr) (ct : Value) (osl : Array (Option Value)) (ccl cl : Value) (cdd cld : Option Addr) (vs : Array Value) (ccs csl : Array (Option Value)) (file : Str) (tf : Tok),
    K.lookup fI = some ⟨oc, od, .func (PySem.W.fnX name qual params body scope [("__class__", cc)] dV kV doc pm an (.ref cda) ct), osl⟩ ∧ PySem.W.codeIn K (.ref cda) qual = true ∧
    K.lookup cda = some ⟨ccl, cdd, .fields vs, ccs⟩ ∧ vs[2]? = some (.str file tf) ∧ ((P.main.file : Str) == file) = true ∧ K.lookup cc = some ⟨cl, cld, .cell (some (.ref C)), csl⟩ ∧
    Ex.supB body = some fs ∧ scope.kind = .function ∧ scope.isCoroutine = false ∧ scope.isGenerator = false ∧ (∀ x ∈ scope.names, x.2 ≠ .cell) ∧ scope.names.lookup ("super" : Str) = some .globalImplicit ∧ scope.names.lookup ("__class__" : Str) = some .free ∧
    scope.names.lookup ("self" : Str) = some .local ∧ (∀ f ∈ fs, scope.names.lookup f = some .local) ∧ (∃ ar, (params.posonlyargs ++ params.args).head? = some ar ∧ ar.arg = "self") ∧
    (∀ us : List Value, us.length = fs.length + 1 → bindArgs (PySem.W.fnX name qual params body scope [("__class__", cc)] dV kV doc pm an (.ref cda) ct) ⟨us, []⟩ = pure ((("self" : Str) :: fs).zip us)) ∧ (("self" : Str) :: fs).Nodup ∧ (∀ f ∈ fs, (f == ("__debug__" : Str)) = false) := by
  unfold initB at q
  split at q
  · rename_i c0 cc cda body e1 e2 e3
    simp only [Bool.and_eq_true, Bool.not_eq_true', decide_eq_true_eq, List.all_eq_true] at q
    obtain ⟨q1, q2, q3, q4, q5, q6, q7, q8, q9, q10, q11, q12, q13, q14, q15, q16, q17, q18, q19, q20⟩ := q
    split at q3
    · rename_i ccl cdd vs ccs hcd
      split at q3
      · rename_i file tf hv
        split at q4
        · rename_i cl cld c' csl hcc
          obtain rfl : c' = C := of_decide_eq_true q4
          obtain ⟨n1, n2, n3, n4, n5, n6, n7, n8, n9, n10, n11, n12, n13, n14, n15⟩ := fd
          dsimp only at *
          subst e1 e2 e3 q1 q19 q20
          split at q18
          · refine ⟨oc, od, n1, n2, n3, body, n5, .none, n9, n10, n11, n12, cda, cc, n14, osl, ccl, cl, cdd, cld, vs, ccs, csl, file, tf, lk, q2, hcd, hv, q3, hcc, q5, funB_of q6, q7, q8, fun x hx e => ?_, ?_, ?_, lclB_of q12, fun f hf => lclB_of (q13 f hf), ?_, fun us hu => ?_, q16, q17⟩
            · have w := q9 x hx
              rw [e] at w
              cases w
            · unfold glB at q10
              split at q10
              · assumption
              · cases q10
            · split at q11
              · assumption
              · cases q11
            · rw [plainA_of q14]
              have w := q15
              cases hn : n3.args with
              | nil => rw [hn] at w; cases w
              | cons a r =>
                rw [hn] at w
                refine ⟨a, rfl, ?_⟩
                injection w
            · rw [← q15]
              refine bind_plain (plainA_of q14) rfl (by rw [q15]; exact q16) ?_
              have w := congrArg List.length q15
              rw [List.length_map] at w
              rw [hu, w]
              rfl
          · cases q18
        · cases q4
      · cases q3
    · cases q3
  · cases q
theorem txtB_of {K : PySem.W.Frag} {P : Program} {mg : Str → Option Value} {hp : Heap} (X : K.In hp) (Gn : hp.Ns mainGlobals mg) {C fI : Addr} {fs : List Str} (q : txtB K P C fI fs = true) : Ex.Txt K P mg C fI fs := by
  unfold txtB at q
  simp only [Bool.and_eq_true, Bool.not_eq_true', decide_eq_true_eq, List.all_eq_true] at q
  obtain ⟨q1, q2, q3, q4, q5, q6, q7, q8, q9, q10, q11, q12, q13, q14, q15, q16⟩ := q
  refine ⟨?_, He.eqO_ok q2, fun f hf => He.eqO_ok (q3 f hf), He.eqO_ok q4, q5, q6, q7, q8, q9, He.eqO_ok q10, q11, He.eqO_ok q12, PySem.W.mg_none_of X Gn (He.eqO_ok q13), q14, q15, ?_⟩
  · split at q1
    · rename_i t od cd sl hk
      rw [Bool.and_eq_true] at q1
      obtain ⟨a1, a2⟩ := q1
      obtain rfl : t = "type" := of_decide_eq_true a1
      split at a2
      · rename_i C' bm k0 k1 k2 k3 n k5 hm hs
        simp only [Bool.and_eq_true, Bool.not_eq_true', decide_eq_true_eq] at a2
        obtain ⟨b1, b2, b3, b4, b5⟩ := a2
        subst b1 b2
        obtain ⟨nm, bs, mro, ns, qn, hd, sn, sub, ab, col, del⟩ := cd
        dsimp only at *
        subst hm b3 b4
        have e : sl = #[k0, k1, k2, k3, some (.builtin "ValueError.__new__"), k5] := by
          obtain ⟨l⟩ := sl
          simp only at hs
          rw [hs]
        subst e
        exact ⟨nm, qn, ns, bs, bm, sn, sub, ab, col, od, k0, k1, k2, k3, k5, hk, b5⟩
      · cases a2
    · cases q1
  · split at q16
    · rename_i hk
      exact initB_of hk q16
    · cases q16
end HS
end Mini
end
section
set_option Elab.async false
set_option linter.all false
set_option maxRecDepth 100000
set_option maxHeartbeats 4000000
/-! Mini, part 32: the Hook; what it tells. -/
namespace Mini
open PySem PySem.Spec PyProof.Rows L2 LamX
/-- a list, a table that is empty: not in the part -/
def lstO (o : Obj) : Bool := match o.cls with
  | .type t => decide (t = "list")
  | _ => false
def frM (g : Addr → Option Obj) (as : List Addr) : PySem.W.Frag := (He.frG g as).filter fun q => !(He.emptyTab q.2) && !(lstO q.2)
theorem frM_mem {g : Addr → Option Obj} {as : List Addr} {a : Addr} {o : Obj} (h : (frM g as).lookup a = some o) : g a = some o ∧ He.emptyTab o = false ∧ lstO o = false := by
  obtain ⟨h1, h2⟩ := List.mem_filter.mp (He.lookup_mem h)
  simp only [Bool.and_eq_true, Bool.not_eq_true'] at h2
  exact ⟨He.frG_mem h1, h2⟩
theorem frM_in {as : List Addr} {h : Heap} : (frM h.get? as).In h := fun _ _ e => (frM_mem e).1
theorem frM_none {g : Addr → Option Obj} {as : List Addr} {a : Addr} {o : Obj} (h : g a = some o) (ht : He.emptyTab o = true ∨ lstO o = true) : (frM g as).lookup a = none := by
  cases e : (frM g as).lookup a with
  | none => rfl
  | some u =>
    obtain ⟨h1, h2, h3⟩ := frM_mem e
    rw [h] at h1
    cases h1
    rcases ht with ht | ht
    · rw [h2] at ht; cases ht
    · rw [h3] at ht; cases ht
namespace HS
variable (h : HS)
/-- all that is asked of the part -/
def look (P : Program) (K : PySem.W.Frag) : Bool := h.names.all (fun p => nameB h K p) && ((List.range h.cn.length).all (fun g => match h.cls g with
    | some true => excB K (h.ad K g) && (h.ats.all (fun f => He.eqO (PySem.W.findIn K (.ref (h.ad K g)) f) (some none)) && (!h.rs g || txtB K P (h.ad K g) (He.ma K (h.ad K g) "__init__") (h.flds g)))
    | some false => insB K (h.ad K g) && h.ats.all (fun f => He.eqO (PySem.W.findIn K (.ref (h.ad K g)) f) (some none))
    | none => true)
  && (h.tys.all (fun t => h.tys.all fun u => decide (PySem.W.kitOne K (tyW ⟨K, h.ad K, none, [], none, []⟩ t) (tyW ⟨K, h.ad K, none, [], none, []⟩ u) = some (isTy h.subB t u)))
  && h.names.all fun p => match p.2 with
    | .cls g => (List.range h.cn.length).all fun d => !(h.cls d == some true) || decide (PySem.W.exmOne K (.ref (h.ad K d)) (.ref (h.ad K g)) = some (h.subB d g))
    | _ => true))
theorem gl_mem {x : Str} {v : G} (q : h.gl x = v) (hv : v ≠ .no) : (x, v) ∈ h.names := by
  unfold gl at q
  cases e : h.names.lookup x with
  | none => rw [e] at q; exact absurd q.symm hv
  | some u =>
    rw [e] at q
    have q : u = v := q
    subst q
    revert e
    generalize h.names = l
    induction l with
    | nil => intro e; cases e
    | cons p l ih =>
      intro e
      obtain ⟨y, w⟩ := p
      rw [List.lookup_cons] at e
      cases k : (x == y) with
      | true =>
        rw [k] at e
        have e : some w = some u := e
        cases e
        rw [eq_of_beq k]
        exact List.mem_cons_self
      | false =>
        rw [k] at e
        exact List.mem_cons_of_mem _ (ih e)
section
variable {h} {P : Program} {w : World} {K : PySem.W.Frag} {mg : Str → Option Value} {hp base : Heap} (X : K.In hp) (Gn : hp.Ns mainGlobals mg) (L : h.look P K = true) (St : h.names.all (fun p => nameS h p) = true)
include X Gn L St
theorem facts (D : base.NoDigits) : Facts P K mg base (h.ad K) h.prog h.gl h.atB h.rs := by
  unfold look at L
  simp only [Bool.and_eq_true] at L
  obtain ⟨l1, l2, l3, l4⟩ := L
  rw [List.all_eq_true] at l1 l2 l3 l4 St
  have look2 : ∀ {g : Nat} {b : Bool}, h.cls g = some b → ∀ c : Cfg, c.K = K → c.ad = h.ad K → (match (some b : Option Bool) with
    | some true => excB K (h.ad K g) && (h.ats.all (fun f => He.eqO (PySem.W.findIn K (.ref (h.ad K g)) f) (some none)) && (!h.rs g || txtB K P (h.ad K g) (He.ma K (h.ad K g) "__init__") (h.flds g)))
    | some false => insB K (h.ad K g) && h.ats.all (fun f => He.eqO (PySem.W.findIn K (.ref (h.ad K g)) f) (some none))
    | none => true) = true := fun {g b} e c _ _ => by
    have q := l2 g (h.cls_lt e)
    rw [e] at q
    exact q
  have lookE : ∀ {g : Nat}, h.cls g = some true → excB K (h.ad K g) = true ∧ (∀ f ∈ h.ats, He.eqO (PySem.W.findIn K (.ref (h.ad K g)) f) (some none) = true) ∧ (h.rs g = true → txtB K P (h.ad K g) (He.ma K (h.ad K g) "__init__") (h.flds g) = true) := fun {g} e => by
    have q : (excB K (h.ad K g) && (h.ats.all (fun f => He.eqO (PySem.W.findIn K (.ref (h.ad K g)) f) (some none)) && (!h.rs g || txtB K P (h.ad K g) (He.ma K (h.ad K g) "__init__") (h.flds g)))) = true := look2 e ⟨K, h.ad K, none, [], none, []⟩ rfl rfl
    rw [Bool.and_eq_true, Bool.and_eq_true, List.all_eq_true] at q
    refine ⟨q.1, q.2.1, fun hr => ?_⟩
    have w := q.2.2
    rw [hr] at w
    simpa using w
  have lookI : ∀ {g : Nat}, h.cls g = some false → insB K (h.ad K g) = true ∧ (∀ f ∈ h.ats, He.eqO (PySem.W.findIn K (.ref (h.ad K g)) f) (some none) = true) := fun {g} e => by
    have q : (insB K (h.ad K g) && h.ats.all (fun f => He.eqO (PySem.W.findIn K (.ref (h.ad K g)) f) (some none))) = true := look2 e ⟨K, h.ad K, none, [], none, []⟩ rfl rfl
    rw [Bool.and_eq_true, List.all_eq_true] at q
    exact q
  have atm : ∀ {f : Str}, h.atB f = true → f ∈ h.ats := fun {f} q => List.contains_iff_mem.mp q
  refine ⟨fun x v e => ?_, fun x e => ?_, fun x g e => ?_, fun c cK ca => ⟨fun t u ht hu => ?_, fun g e => ?_, fun g e => ?_⟩, fun c cK ca f hf => ⟨fun g e => ?_, fun g e => ?_⟩, fun g hg => ?_, fun x g e d hd => ?_, D⟩
  · have q := l1 _ (h.gl_mem e (fun z => nomatch z))
    unfold nameB at q
    dsimp only at q
    split at q
    · rename_i u hu
      obtain ⟨y, r, k⟩ := cstB_of q
      exact ⟨u, y, PySem.W.mg_of X Gn hu, r, fun z _ _ => k z⟩
    · cases q
  · have q := l1 _ (h.gl_mem e (fun z => nomatch z))
    exact PySem.W.mg_none_of X Gn (He.eqO_ok q)
  · have m := h.gl_mem e (fun z => nomatch z)
    exact ⟨PySem.W.mg_of X Gn (He.eqO_ok (l1 _ m)), St _ m⟩
  · have q := List.all_eq_true.mp (l3 t (h.tys_of ht)) u (h.tys_of hu)
    have q := of_decide_eq_true q
    have e : ∀ t, tyW c t = tyW ⟨K, h.ad K, none, [], none, []⟩ t := fun t => by
      cases t with
      | bi n => rfl
      | cls g => show Value.ref (c.ad g) = _; rw [ca]; rfl
    rw [e, e, cK]
    exact q
  · rw [cK, ca]; exact insB_of (lookI e).1
  · rw [cK, ca]; exact excB_of (lookE e).1
  · rw [cK, ca]; exact He.eqO_ok ((lookE e).2.1 f (atm hf))
  · rw [cK, ca]; exact He.eqO_ok ((lookI e).2 f (atm hf))
  · have hr := hg
    unfold rs at hg
    rw [Bool.and_eq_true] at hg
    have e : h.cls g = some true := by simpa using hg.1
    have T := txtB_of X Gn ((lookE e).2.2 hr)
    refine ⟨_, T, ?_, ?_⟩
    · intro z
      have w := (Bool.and_eq_true_iff.mp hg.2).1
      rw [show h.flds g = h.prog.flds g from rfl] at w
      rw [z] at w
      cases w
    · have w := of_decide_eq_true ((Bool.and_eq_true_iff.mp hg.2).2)
      exact w
  · have m := h.gl_mem e (fun z => nomatch z)
    have q := List.all_eq_true.mp (l4 _ m) d (h.cls_lt hd)
    have hd : h.cls d = some true := hd
    rw [hd] at q
    have q2 : PySem.W.exmOne K (.ref (h.ad K d)) (.ref (h.ad K g)) = some (h.subB d g) := by simpa using q
    exact q2
/-- each def as the head has made it -/
theorem defF {le ls : Nat} (c : ∀ (i : Nat) (d : De), h.ds[i]? = some d → ∃ fd, FunD K d.x d.x (defArgs d.st) (defBody d.st) (defScope d.st) [] [] (He.ga K d.x) fd)
    (C : ∀ (i : Nat) (d : De), h.ds[i]? = some d → (∃ x ps, h.gl x = .fn i ps) → cSL (cS le (kxOf d.N (defScope d.st) h.gl h.atB) h.rs ls) (defBody d.st) = some d.body) : ∀ x g ps, h.gl x = .fn g ps → DefF K mg h.prog h.gl h.atB h.rs le ls x g ps := by
  intro x g ps e
  rw [List.all_eq_true] at St
  unfold look at L
  simp only [Bool.and_eq_true] at L
  have m := h.gl_mem e (fun z => nomatch z)
  have q := St _ m
  unfold nameS at q
  dsimp only at q
  split at q
  · rename_i d hd
    simp only [Bool.and_eq_true, decide_eq_true_eq] at q
    obtain ⟨rfl, rfl, ok⟩ := q
    unfold De.ok at ok
    rw [Bool.and_eq_true] at ok
    have S := scopeB_of ok.2
    have pa := plainA_of ok.1
    obtain ⟨fd, F⟩ := c g d hd
    obtain ⟨oc, od, dV, kV, doc, pm, an, cdv, ct, osl, rfl, lk, hcd, hD, hK⟩ := F.ex
    obtain rfl : dV = .none := by
      rcases hD with ⟨_, z⟩ | ⟨z, _⟩
      · exact z
      · exact absurd rfl z
    have nd : d.ps.Nodup := by
      have w := S.pre
      rw [← w]
      exact List.Sublist.nodup (List.take_sublist _ _) S.nd
    refine ⟨He.ga K d.x, d.x, d.x, defArgs d.st, defBody d.st, defScope d.st, .none, kV, doc, pm, cdv, ct, oc, an, od, osl, d.N, d.fn, PySem.W.mg_of X Gn (He.eqO_ok (List.all_eq_true.mp L.1 _ m)), F.kp, lk, hcd, S, ?_, rfl, rfl, S.nd, ?_, ?_, C g d hd ⟨_, _, e⟩⟩
    · show (h.ds.map De.fn)[g]? = _
      rw [List.getElem?_map, hd]
      rfl
    · refine Binds.all fun us hl => ?_
      exact bind_plain pa rfl nd (by rw [hl]; simp [De.ps])
    · intro s us _ hl h1
      have : ∃ a, (defArgs d.st).args = [a] := by
        have w : (defArgs d.st).args.length = 1 := by simpa [De.ps] using h1
        exact List.length_eq_one_iff.mp w
      obtain ⟨a, ea⟩ := this
      have eu : ∃ u, us = [u] := List.length_eq_one_iff.mp (by rw [hl, h1])
      obtain ⟨u, rfl⟩ := eu
      have ep : d.ps = [a.arg] := by unfold De.ps; rw [ea]; rfl
      rw [ep]
      exact .of_eq (bind_kw1 (by rw [pa, ea]) rfl)
  · cases q
end
end HS
end Mini
end
section
set_option Elab.async false
set_option linter.all false
set_option maxRecDepth 100000
set_option maxHeartbeats 4000000
/-! Mini, part 33: from a run of the small language to the law's walk. -/
namespace Mini
open PySem PySem.Spec PyProof.Rows L2 LamX
/-- law's code object, its table -/
abbrev lawT (K : PySem.W.Frag) (x : Str) : Addr × Addr := He.cT K (x, none)
def seeM (h : HS) (P : Program) (x y : Str) (g : Addr → Option Obj) (K : PySem.W.Frag) : Bool := h.look P K && (He.eqO (PySem.W.nsIn K mainGlobals x) (some (some (.ref (He.ga K x)))) && (He.eqO (PySem.W.nsIn K mainGlobals y) (some (some (.ref (He.ga K y)))) && (PySem.W.codeHdIn K (lawT K x).1 (lawT K x).2 && (!(mainGlobals == (lawT K x).2) && (match g (lawT K x).2 with
  | some o => He.emptyTab o
  | none => false)))))
def obsM (n : Nat) (h : HS) (P : Program) (x y : Str) (g : Addr → Option Obj) : He.AlD × Bool := (He.obsD [] (h.ds.map De.he) (frM g (cStatics :: He.asD g n)), seeM h P x y g (frM g (cStatics :: He.asD g n)))
structure SaysM (h : HS) (P : Program) (x y : Str) (hp : Heap) (K : PySem.W.Frag) : Prop where
  d : He.SaysD [] (h.ds.map De.he) K
  look : h.look P K = true
  gx : PySem.W.nsIn K mainGlobals x = some (some (.ref (He.ga K x)))
  gy : PySem.W.nsIn K mainGlobals y = some (some (.ref (He.ga K y)))
  hd : PySem.W.codeHdIn K (lawT K x).1 (lawT K x).2 = true
  ne : mainGlobals ≠ (lawT K x).2
  out : K.lookup (lawT K x).2 = none
  tab : hp.get? (lawT K x).2 = some tabO
  lst : ∀ a o, K.lookup a = some o → lstO o = false
theorem saysM_of {n : Nat} {h : HS} {P : Program} {x y : Str} {hp : Heap} (e : obsM n h P x y hp.get? = (He.valD (h.ds.map De.he), true)) : SaysM h P x y hp (frM hp.get? (cStatics :: He.asD hp.get? n)) := by
  unfold obsM at e
  generalize hK : frM hp.get? (cStatics :: He.asD hp.get? n) = K at e ⊢
  obtain ⟨e1, e2⟩ := Prod.mk.inj e
  unfold seeM at e2
  simp only [Bool.and_eq_true, Bool.not_eq_true', beq_eq_false_iff_ne] at e2
  obtain ⟨l, g1, g2, c1, c3, c4⟩ := e2
  split at c4
  · rename_i o ho
    refine ⟨e1, l, He.eqO_ok g1, He.eqO_ok g2, c1, c3, ?_, by rw [ho, He.emptyTab_eq c4], fun a o k => ?_⟩
    · rw [← hK]
      rw [← hK] at ho
      exact frM_none ho (.inl c4)
    · rw [← hK] at k
      exact (frM_mem k).2.2
  · cases c4
def hookM (n : Nat) (h : HS) (P : Program) (x y : Str) : PySem.W.Hook where
  α := He.AlD × Bool
  obs := fun s => obsM n h P x y s.heap.get?
  val := fun _ => (He.valD (h.ds.map De.he), true)
  says := fun _ hp => ∃ K : PySem.W.Frag, K.In hp ∧ SaysM h P x y hp K
  of := fun _ _ e => ⟨_, frM_in, saysM_of e⟩
  keeps := fun _ _ _ ⟨K, hK, c⟩ k => ⟨K, PySem.W.Frag.In.keeps hK k, ⟨c.d, c.look, c.gx, c.gy, c.hd, c.ne, c.out, k _ _ c.tab, c.lst⟩⟩
theorem obsM_eq {n : Nat} {h : HS} {P : Program} {x y : Str} {g : Addr → Option Obj} {s : Shared} (q : ∀ a, g a = s.heap.get? a) : obsM n h P x y g = (hookM n h P x y).obs s := by
  have e : g = s.heap.get? := funext q
  rw [e]
  rfl
/-- the run that a law's proof has to give -/
def RunOk (h : HS) (law : De) (n : Nat) : Prop := ∀ ns : List Int, ns.length ≤ 63 → (∀ z ∈ ns, Builtin.Int.intBits z ≤ 1048576) → ∃ hE, leave law.fn 0 (exs (envG h.prog (n + 1)) law.body (startS law.fn [.lst (ns.map VV.int)]) []) = .ok (.bl true) hE
/-- the texts are compiled -/
structure TextsOk (h : HS) (law heard : De) (gH le ls : Nat) : Prop where
  St : h.names.all (fun p => h.nameS p) = true
  C : ∀ (i : Nat) (d : De), h.ds[i]? = some d → (∃ x ps, h.gl x = .fn i ps) → cSL (cS le (kxOf d.N (defScope d.st) h.gl h.atB) h.rs ls) (defBody d.st) = some d.body
  CL : cSL (cS le { kxOf law.N (defScope law.st) h.gl h.atB with hcl := fun x => if x = heard.x then some gH else none } h.rs ls) (defBody law.st) = some law.body
  CH : cSL (cS le (kxAsk heard.N (defScope heard.st) h.gl h.atB "ask") h.rs ls) (defBody heard.st) = some heard.body
  okL : law.ok = true
  okH : heard.ok = true
  psL : law.ps = [("script" : Str)]
  psH : heard.ps = [("ask" : Str)]
  kH : heard.keep = false
  glH : glB (defScope law.st) heard.x = true
  vaH : visB (defScope heard.st) "ask" = true
  dbH : (heard.x == ("__debug__" : Str)) = false
theorem De.funN {K : PySem.W.Frag} {d : De} {fd : FuncData} (ok : d.ok = true) (F : FunD K d.x d.x (defArgs d.st) (defBody d.st) (defScope d.st) [] [] (He.ga K d.x) fd) :
    ∃ (oc : Value) (od : Option Addr) (kV doc pm : Value) (an : Option Addr) (cdv ct : Value) (osl : Array (Option Value)), K.lookup (He.ga K d.x) = some ⟨oc, od, .func (PySem.W.fnOf d.x d.x (defArgs d.st) (defBody d.st) (defScope d.st) .none kV doc pm an cdv ct), osl⟩ ∧ PySem.W.codeIn K cdv d.x = true ∧ FnScope d.N d.ps (defScope d.st) ∧
      ∀ us : List Value, us.length = d.ps.length → bindArgs (PySem.W.fnOf d.x d.x (defArgs d.st) (defBody d.st) (defScope d.st) .none kV doc pm an cdv ct) ⟨us, []⟩ = pure (d.ps.zip us) := by
  unfold De.ok at ok
  rw [Bool.and_eq_true] at ok
  have S := scopeB_of ok.2
  have pa := plainA_of ok.1
  obtain ⟨oc, od, dV, kV, doc, pm, an, cdv, ct, osl, rfl, lk, hcd, hD, hK⟩ := F.ex
  obtain rfl : dV = .none := by
    rcases hD with ⟨_, z⟩ | ⟨z, _⟩
    · exact z
    · exact absurd rfl z
  have nd : d.ps.Nodup := by
    have w := S.pre
    rw [← w]
    exact List.Sublist.nodup (List.take_sublist _ _) S.nd
  exact ⟨oc, od, kV, doc, pm, an, cdv, ct, osl, lk, hcd, S, fun us hl => bind_plain pa rfl nd (by rw [hl]; simp [De.ps])⟩
theorem walkM {n kn nL gH le ls : Nat} {h : HS} {l : PySem.W.OpenLaw} {q : Program} {loose : List Str} {Z : (Str → Option Value) → Heap → Prop} {d : DefRec} {law heard : De} (hn : l.most = some 63) (hdf : d.params.defaults = []) (hd : d.name = law.x)
    (hL : h.ds[nL]? = some law) (hH : h.ds[gH]? = some heard) (T : TextsOk h law heard gH le ls) (hr : Room (kn + 3) callerA) (hrun : RunOk h law kn) :
    PySem.W.WalkO q loose Z (hookM n h l.prog law.x heard.x).says l.row.toRowW d [] (fun f vs => PySem.call f vs) := by
  refine Att.attach_callB hn hdf fun w s₀ s₁ mg mb fa o pm cd doc a vs ns G Y ho hd' hcd hmg hobj hints hlen hbits hg => ?_
  obtain ⟨K, KX, Y⟩ := Y
  obtain ⟨oc, od, kV, doc', pm', an, cdv, ct, osl, lk, hcc, S, hb⟩ := De.funN T.okL (Y.d.def_ nL (d := law.he) (by rw [List.getElem?_map, hL]; rfl)).choose_spec
  obtain ⟨ocH, odH, kVH, docH, pmH, anH, cdvH, ctH, oslH, lkH, hccH, SH, hbH⟩ := De.funN T.okH (Y.d.def_ gH (d := heard.he) (by rw [List.getElem?_map, hH]; rfl)).choose_spec
  have kpH := (Y.d.def_ gH (d := heard.he) (by rw [List.getElem?_map, hH]; rfl)).choose_spec.kp
  have mgH : mg heard.x = some (.ref (He.ga K heard.x)) := PySem.W.mg_of KX G.T.g Y.gy
  obtain rfl : He.ga K law.x = fa := by
    have e := PySem.W.mg_of KX G.T.g Y.gx
    rw [hd] at hmg
    rw [hmg] at e
    cases e
    rfl
  have ha : K.lookup a = none := by
    cases e : K.lookup a with
    | none => rfl
    | some u =>
      have w := Y.lst a u e
      rw [KX a u e] at hobj
      cases hobj
      cases w
  have C : PySem.W.CodeHd s₁.heap (lawT K law.x).1 (lawT K law.x).2 := PySem.W.codeHd_of_K KX Y.hd
  have Tp : Top w K mg mb a [(lawT K law.x).2] s₁.heap vs ns := ⟨KX, G.T.g, G.T.b, G.T.builtins, G.T.nolimit, fun b hb => by rw [List.mem_singleton.mp hb]; exact Y.tab, fun b hb => by rw [List.mem_singleton.mp hb]; exact Y.out, hobj, hints, Nat.le_trans hlen (by decide)⟩
  have dig : (hidT s₁.heap (topH [(lawT K law.x).2] K a vs ns)).NoDigits := by
    obtain ⟨mc, e1, e2⟩ := G.T.nodigits
    exact ⟨mc, Tp.nsp e1, e2⟩
  have Fa := HS.facts (P := l.prog) KX G.T.g Y.look T.St dig
  have dF := HS.defF KX G.T.g Y.look T.St (fun i d hi => Y.d.def_ i (d := d.he) (by rw [List.getElem?_map, hi]; rfl)) T.C
  have cF := defs_ok (w := w) Fa dF
  obtain ⟨hE, hrunE⟩ := hrun ns hlen hbits
  have S1 : FnScope law.N [("script" : Str)] (defScope law.st) := by rw [← T.psL]; exact S
  have TB : TabB (hidT s₁.heap (topH [(lawT K law.x).2] K a vs ns)) mg (lawT K law.x).1 (lawT K law.x).2 := by
    obtain ⟨o, us, file, tf, flags, tg, inF, text, tt, e1, r1, r2, r3, r4⟩ := C
    refine ⟨⟨o, us, file, tf, flags, tg, inF, text, tt, Tp.see e1 (fun us n z => by rw [r2] at z; cases z) (fun z => ?_), r1, r2, r3, r4⟩, ?_, Y.ne⟩
    · rw [r2] at z
      cases z
      simp at r3
    · obtain ⟨bm, ob, b1, b2, b3, b4, b5, b6⟩ := G.T.bmain
      refine ⟨bm, ob, b1, b2, fun z => ?_, fun z => ?_, Tp.see b3 (fun us n z => by rw [b6] at z; cases z) (fun z => by rw [b6] at z; cases z), b4, b5, b6⟩
      · obtain ⟨og, es, ep, e, hdd, _⟩ := G.T.g
        rw [z, e] at b3
        cases b3
        rw [hdd] at b6
        cases b6
      · rw [z, Y.tab] at b3
        cases b3
        cases b6
  refine law_run (P := l.prog) (ad := h.ad K) (tabs := [((lawT K law.x).2, (envOfC law.x (defScope law.st) s₁.heap.objs.size (He.ga K law.x) cdv).qual ++ "<lambda>")]) (k := kn + 2) (N := law.N) (x := "script") (F := law.fn) (En := envG h.prog (kn + 1)) Tp hg (fun b hb => by rw [List.mem_singleton.mp hb]; exact (C.tab Y.tab).isCodeTable) (fun p hp => by rw [List.mem_singleton.mp hp]; exact List.mem_singleton_self _) (fun p hp q hq e => by rw [List.mem_singleton.mp hp, List.mem_singleton.mp hq]) ha lk hcc S1 (.of_eq ?_) hr rfl (fun hr' => ?_) hrunE
  · have w := hb [.ref a] (by rw [T.psL]; rfl)
    rw [T.psL] at w
    exact w
  · refine cSL_ok (cS_ok (so_def (n := kn + 1) Fa (cF (kn + 1)) rfl rfl rfl rfl S.nd rfl rfl (k := { kxOf law.N (defScope law.st) h.gl h.atB with hcl := fun x => if x = heard.x then some gH else none }) rfl rfl rfl rfl rfl (hr'.mono (Nat.le_succ _)) fun W' pn xe tk xb => ⟨xb, fun a' e => (nomatch e), fun x g e => ?_⟩) ls) T.CL
    have e : (if x = heard.x then some gH else none) = some g := e
    split at e
    · rename_i ex
      injection e with e
      subst e
      subst ex
      obtain ⟨cc, ecc⟩ := He.codeIn_ref hcc
      have ec : (lawT K law.x).1 = cc := He.codeOf_eq (p := (law.x, none)) lk ecc
      have SH1 : FnScope heard.N [("ask" : Str)] (defScope heard.st) := by rw [← T.psH]; exact SH
      refine hcl_ok (n := kn) (F := heard.fn) (Ng := heard.N) Fa (cF kn) rfl rfl rfl rfl rfl S.nd rfl ?_ mgH kpH lkH hccH ?_ SH1 SH.nd ?_ (visB_of T.vaH) ?_ rfl ?_ T.kH T.CH TB ?_ (List.mem_singleton_self _) hr' rfl rfl tk T.dbH (by decide) (by decide)
      · have w := T.glH
        unfold glB at w
        split at w
        · assumption
        · cases w
      · refine Binds.all fun us hl => ?_
        have w := hbH us (by rw [T.psH]; exact hl)
        rw [T.psH] at w
        exact w
      · have w := SH1.pre
        cases hN : heard.N with
        | nil => rw [hN] at w; cases w
        | cons y r =>
          rw [hN] at w
          injection w with w1 _
          rw [w1]
          rfl
      · show (h.ds.map De.fn)[gH]? = _
        rw [List.getElem?_map, hH]
        rfl
      · show heard.ps.length = 1
        rw [T.psH]
        rfl
      · show cdv = _
        rw [ecc, ec]
    · cases e
end Mini
end
section
set_option Elab.async false
set_option linter.all false
set_option maxRecDepth 100000
set_option maxHeartbeats 2000000
/-! Plain, part 1: a calculus for the small language's runs. -/
namespace Mini
open PySem L2
/-- how a run may end with an exception -/
abbrev XP := Nat → List Str → List VV → VH → Prop
/-- what is wanted of a run's end -/
def Rs.wp {β : Type} (r : Rs β) (Q : β → VH → Prop) (E : XP) : Prop := match r with
  | .ok b h => Q b h
  | .exc c ns vs h => E c ns vs h
  | .bad => False
/-- an option's content -/
def wpO {α : Type} (o : Option α) (Q : α → Prop) : Prop := match o with
  | some a => Q a
  | none => False
/-- a bool's way -/
def wpB (b : Bool) (P Q : Prop) : Prop := match b with
  | true => P
  | false => Q
/-- a guard -/
def wpG (c P : Prop) : Prop := c ∧ P




section
variable {α β : Type} {Q : β → VH → Prop} {E : XP} {h : VH}
theorem Rs.wp.mono {r : Rs β} {Q' : β → VH → Prop} {E' : XP} (w : r.wp Q E) (hq : ∀ b h, Q b h → Q' b h) (he : ∀ c ns vs h, E c ns vs h → E' c ns vs h) : r.wp Q' E' := by
  cases r with
  | ok b h => exact hq _ _ w
  | exc c ns vs h => exact he _ _ _ _ w
  | bad => exact w
theorem wpO_some {a : α} {Q : α → Prop} : wpO (some a) Q = Q a := rfl
theorem wpO_none {Q : α → Prop} : wpO none Q = False := rfl
theorem wpB_t {P Q : Prop} : wpB true P Q = P := rfl
theorem wpB_f {P Q : Prop} : wpB false P Q = Q := rfl
theorem wpG_t {P : Prop} : wpG True P = P := by unfold wpG; simp
theorem wp_ok {b : β} : (Rs.ok b h).wp Q E = Q b h := rfl
theorem wp_exc {c : Nat} {ns : List Str} {vs : List VV} : (Rs.exc (β := β) c ns vs h).wp Q E = E c ns vs h := rfl
theorem wp_bad : (Rs.bad (β := β)).wp Q E = False := rfl
theorem wp_bind {r : Rs α} {f : α → VH → Rs β} : (r.bind f).wp Q E = r.wp (fun a h' => (f a h').wp Q E) E := by cases r <;> rfl
theorem wp_calm {r : Rs β} : r.calm.wp Q E = r.wp Q fun _ _ _ _ => False := by cases r <;> rfl
theorem wp_of {o : Option β} : (Rs.of o h).wp Q E = wpO o fun b => Q b h := by cases o <;> rfl
theorem wp_of_map {γ : Type} {o : Option γ} {f : γ → β} : (Rs.of (o.map f) h).wp Q E = wpO o fun b => Q (f b) h := by cases o <;> rfl
theorem wp_iteb {b : Bool} {r r' : Rs β} : (if b = true then r else r').wp Q E = wpB b (r.wp Q E) (r'.wp Q E) := by cases b <;> rfl
theorem wp_iteg {c : Prop} [Decidable c] {r : Rs β} : (if c then r else .bad).wp Q E = wpG c (r.wp Q E) := by
  unfold wpG
  split
  · simp [*]
  · simp [*, Rs.wp]
theorem wp_matchO {γ : Type} {o : Option γ} {f : γ → Rs β} : (match o with | none => Rs.bad | some s => f s).wp Q E = wpO o fun s => (f s).wp Q E := by cases o <;> rfl
theorem wp_matchO' {γ : Type} {o : Option γ} {f : γ → Rs β} : (match o with | some s => f s | none => Rs.bad).wp Q E = wpO o fun s => (f s).wp Q E := by cases o <;> rfl
theorem wp_matchB {o : Option Bool} {r r' : Rs β} : (match o with | some true => r | some false => r' | none => Rs.bad).wp Q E = wpO o fun b => wpB b (r.wp Q E) (r'.wp Q E) := by
  cases o with
  | none => rfl
  | some b => cases b <;> rfl
theorem wpO_map {γ : Type} {o : Option γ} {f : γ → β} {Q : β → Prop} : wpO (o.map f) Q = wpO o fun c => Q (f c) := by cases o <;> rfl
end
section
variable {N : Env'} {σ : Sl} {h : VH} {Q : VV → VH → Prop} {QL : List VV → VH → Prop} {QT : Bool → VH → Prop} {QF : Fl → VH → Prop} {QS : Str → VH → Prop} {E : XP}
def slotV (σ : Sl) (i : Nat) : Option VV := match σ[i]? with
  | some (some v) => some v
  | _ => none
theorem we_var {i : Nat} : (ev N (.var i) σ h).wp Q E = wpO (slotV σ i) fun v => Q v h := by
  unfold ev slotV
  cases σ[i]? with
  | none => rfl
  | some o => cases o <;> rfl
theorem we_cst {v : VV} : (ev N (.cst v) σ h).wp Q E = Q v h := by unfold ev; rfl
theorem we_bin {o : Bop} {a b : Mini.E} : (ev N (.bin o a b) σ h).wp Q E = (ev N a σ h).wp (fun x h1 => (ev N b σ h1).wp (fun y h2 => (bopS o x y h2).wp Q E) E) E := by
  conv => lhs; unfold ev
  simp only [wp_bind]
def negO : VV → Option VV
  | .int i => some (.int (-i))
  | _ => none
theorem we_neg {a : Mini.E} : (ev N (.neg a) σ h).wp Q E = (ev N a σ h).wp (fun x h1 => wpO (negO x) fun v => Q v h1) E := by
  conv => lhs; unfold ev
  rw [wp_bind]
  congr 1
  funext x h1
  cases x <;> rfl
theorem we_cmp {o : Cop} {a b : Mini.E} : (ev N (.cmp o a b) σ h).wp Q E = (ev N a σ h).wp (fun x h1 => (ev N b σ h1).wp (fun y h2 => wpO (copS o x y h2) fun b => Q (.bl b) h2) E) E := by
  conv => lhs; unfold ev
  simp only [wp_bind, wp_of_map]
theorem we_chn {o p : Cop} {a b c : Mini.E} : (ev N (.chn o p a b c) σ h).wp Q E = (ev N a σ h).wp (fun x h1 => (ev N b σ h1).wp (fun y h2 => wpO (copS o x y h2) fun k => wpB k ((ev N c σ h2).wp (fun z h3 => wpO (copS p y z h3) fun b => Q (.bl b) h3) E) (Q (.bl false) h2)) E) E := by
  conv => lhs; unfold ev
  simp only [wp_bind]
  congr 1
  funext x h1
  congr 1
  funext y h2
  cases copS o x y h2 with
  | none => rfl
  | some k =>
    cases k
    · rfl
    · simp only [wp_bind, wp_of_map, wpO_some, wpB_t]
theorem we_and {a b : Mini.E} : (ev N (.and a b) σ h).wp Q E = (ev N a σ h).wp (fun x h1 => wpO (truO h1 x) fun k => wpB k ((ev N b σ h1).wp Q E) (Q x h1)) E := by
  conv => lhs; unfold ev
  rw [wp_bind]
  congr 1
  funext x h1
  cases truO h1 x with
  | none => rfl
  | some k => cases k <;> rfl
theorem we_or {a b : Mini.E} : (ev N (.or a b) σ h).wp Q E = (ev N a σ h).wp (fun x h1 => wpO (truO h1 x) fun k => wpB k (Q x h1) ((ev N b σ h1).wp Q E)) E := by
  conv => lhs; unfold ev
  rw [wp_bind]
  congr 1
  funext x h1
  cases truO h1 x with
  | none => rfl
  | some k => cases k <;> rfl
theorem we_not {a : Mini.E} : (ev N (.not a) σ h).wp Q E = (ev N a σ h).wp (fun x h1 => wpO (truO h1 x) fun k => Q (.bl (!k)) h1) E := by
  conv => lhs; unfold ev
  simp only [wp_bind, wp_of_map]
theorem we_ife {t : T} {a b : Mini.E} : (ev N (.ife t a b) σ h).wp Q E = (evT N t σ h).wp (fun c h1 => wpB c ((ev N a σ h1).wp Q E) ((ev N b σ h1).wp Q E)) E := by
  conv => lhs; unfold ev
  simp only [wp_bind, wp_iteb]
theorem we_tup {es : Es} : (ev N (.tup es) σ h).wp Q E = (evs N es σ h).wp (fun xs h1 => wpG (xs.length ≤ 1000) (Q (.tup xs) h1)) E := by
  conv => lhs; unfold ev
  simp only [wp_bind, wp_iteg, wp_ok]
theorem wp_new {o : Ob} : (new o h).wp Q E = Q (.ref h.length) (h ++ [o]) := rfl
theorem we_lst {es : Es} : (ev N (.lst es) σ h).wp Q E = (evs N es σ h).wp (fun xs h1 => wpG (xs.length ≤ 1000) (Q (.ref h1.length) (h1 ++ [.lst xs]))) E := by
  conv => lhs; unfold ev
  simp only [wp_bind, wp_iteg, wp_new]
theorem we_dct {ks : List Key} {es : Es} : (ev N (.dct ks es) σ h).wp Q E = (evs N es σ h).wp (fun xs h1 => wpG (xs.length = ks.length ∧ xs.length ≤ 15) (Q (.ref h1.length) (h1 ++ [.dic (putAllD ks xs ([], [])).1 (putAllD ks xs ([], [])).2]))) E := by
  conv => lhs; unfold ev
  simp only [wp_bind, wp_iteg, wp_new]
theorem we_idx {a b : Mini.E} : (ev N (.idx a b) σ h).wp Q E = (ev N a σ h).wp (fun x h1 => (ev N b σ h1).wp (fun y h2 => (idxS x y h2).wp Q E) E) E := by
  conv => lhs; unfold ev
  simp only [wp_bind]
theorem we_slc {a : Mini.E} {lo hi : Es} : (ev N (.slc a lo hi) σ h).wp Q E = (ev N a σ h).wp (fun x h1 => (evs N lo σ h1).wp (fun l h2 => wpO (optI l) fun l => (evs N hi σ h2).wp (fun u h3 => wpO (optI u) fun u => (slcS x l u h3).wp Q E) E) E) E := by
  conv => lhs; unfold ev
  simp only [wp_bind, wp_of]
theorem we_att {f : Str} {a : Mini.E} : (ev N (.att f a) σ h).wp Q E = (ev N a σ h).wp (fun x h1 => (attS N.cls f x h1).wp Q E) E := by
  conv => lhs; unfold ev
  simp only [wp_bind]
theorem we_isi {ts : List Ty} {a : Mini.E} : (ev N (.isi ts a) σ h).wp Q E = (ev N a σ h).wp (fun x h1 => (isiS N.sub N.cls ts x h1).wp Q E) E := by
  conv => lhs; unfold ev
  simp only [wp_bind]
theorem we_fcl {g : Nat} {es : Es} : (ev N (.fcl g es) σ h).wp Q E = (evs N es σ h).wp (fun xs h1 => (N.fn g xs h1).wp Q E) E := by
  conv => lhs; unfold ev
  simp only [wp_bind]
theorem we_bcl {b : Bfn} {es : Es} : (ev N (.bcl b es) σ h).wp Q E = (evs N es σ h).wp (fun xs h1 => (bfnS b xs h1).wp Q E) E := by
  conv => lhs; unfold ev
  simp only [wp_bind]
theorem we_mcl {m : Bmt} {o e : Mini.E} : (ev N (.mcl m o e) σ h).wp Q E = (ev N o σ h).wp (fun x h1 => wpG (rcvB m x h1 = true) ((ev N e σ h1).wp (fun y h2 => (bmt1 m x y h2).wp Q E) E)) E := by
  conv => lhs; unfold ev
  simp only [wp_bind, wp_iteg]
/-- a turn of a comprehension -/
def lcF (N : Env') (w : List Nat) (g : Tg) (t : T) (elt : Mini.E) (σ : Sl) (x : VV) (h2 : VH) : Rs (Option VV) := Rs.calm (match tgS g x (wipeS σ w) with
  | none => .bad
  | some σ' => (evT N t σ' h2).bind fun c h3 => if c = true then (ev N elt σ' h3).bind fun y h4 => .ok (some y) h4 else .ok none h3)
theorem wp_lcF {w : List Nat} {g : Tg} {t : T} {elt : Mini.E} {x : VV} {QO : Option VV → VH → Prop} : (lcF N w g t elt σ x h).wp QO E = wpO (tgS g x (wipeS σ w)) fun σ' => (evT N t σ' h).wp (fun c h3 => wpB c ((ev N elt σ' h3).wp (fun y h4 => QO (some y) h4) fun _ _ _ _ => False) (QO none h3)) fun _ _ _ _ => False := by
  unfold lcF
  rw [wp_calm]
  cases tgS g x (wipeS σ w) with
  | none => rfl
  | some σ' => simp only [wp_bind, wp_iteb, wp_ok, wpO_some]
theorem we_lc {w : List Nat} {g : Tg} {k : It} {src : Es} {t : T} {elt : Mini.E} : (ev N (.lc w g k src t elt) σ h).wp Q E = (evs N src σ h).wp (fun xs h1 => wpO (srcS k xs h1) fun s => (lcW (lcF N w g t elt σ) s h1).wp (fun ys h5 => Q (.ref h5.length) (h5 ++ [.lst ys])) E) E := by
  conv => lhs; unfold ev
  rw [wp_bind]
  congr 1
  funext xs h1
  cases srcS k xs h1 with
  | none => rfl
  | some s => simp only [wp_bind, wpO_some, wp_new]; rfl
theorem we_fst {es : Es} : (ev N (.fst es) σ h).wp Q E = (evF N es Str.empty σ h).wp (fun t h1 => Q (.str t) h1) E := by
  conv => lhs; unfold ev
  simp only [wp_bind, wp_ok]
theorem ws_nil : (evs N .nil σ h).wp QL E = QL [] h := by conv => lhs; unfold evs
                                                          rfl
theorem ws_cons {e : Mini.E} {es : Es} : (evs N (.cons e es) σ h).wp QL E = (ev N e σ h).wp (fun x h1 => (evs N es σ h1).wp (fun xs h2 => QL (x :: xs) h2) E) E := by
  conv => lhs; unfold evs
  simp only [wp_bind, wp_ok]
theorem wf_nil {a : Str} : (evF N .nil a σ h).wp QS E = QS a h := by conv => lhs; unfold evF
                                                                     rfl
theorem wf_cons {e : Mini.E} {es : Es} {a : Str} : (evF N (.cons e es) a σ h).wp QS E = (ev N e σ h).wp (fun x h1 => wpO (partS x) fun t => wpG ((a ++ t).length ≤ sizeLine) ((evF N es (a ++ t) σ h1).wp QS E)) E := by
  conv => lhs; unfold evF
  rw [wp_bind]
  congr 1
  funext x h1
  cases partS x with
  | none => rfl
  | some t => simp only [wp_iteg, wpO_some]
theorem wt_yes : (evT N .yes σ h).wp QT E = QT true h := by conv => lhs; unfold evT
                                                            rfl
theorem wt_val {e : Mini.E} : (evT N (.val e) σ h).wp QT E = (ev N e σ h).wp (fun x h1 => wpO (truO h1 x) fun b => QT b h1) E := by
  conv => lhs; unfold evT
  simp only [wp_bind, wp_of]
theorem wt_and {a b : T} : (evT N (.and a b) σ h).wp QT E = (evT N a σ h).wp (fun c h1 => wpB c ((evT N b σ h1).wp QT E) (QT false h1)) E := by
  conv => lhs; unfold evT
  simp only [wp_bind, wp_iteb, wp_ok]
theorem wt_or {a b : T} : (evT N (.or a b) σ h).wp QT E = (evT N a σ h).wp (fun c h1 => wpB c (QT true h1) ((evT N b σ h1).wp QT E)) E := by
  conv => lhs; unfold evT
  simp only [wp_bind, wp_iteb, wp_ok]
theorem wt_not {a : T} : (evT N (.not a) σ h).wp QT E = (evT N a σ h).wp (fun c h1 => QT (!c) h1) E := by
  conv => lhs; unfold evT
  simp only [wp_bind, wp_ok]
/-! statements -/
theorem wx_set {i : Nat} {e : Mini.E} : (ex N (.set i e) σ h).wp QF E = (ev N e σ h).wp (fun x h1 => QF (.nx (σ.set i (some x))) h1) E := by
  conv => lhs; unfold ex
  simp only [wp_bind, wp_ok]
def tupO : VV → Option (List VV)
  | .tup xs => some xs
  | _ => none
theorem wx_unp {is : List Nat} {e : Mini.E} : (ex N (.unp is e) σ h).wp QF E = (ev N e σ h).wp (fun x h1 => wpO (tupO x) fun xs => wpO (unpS is xs σ) fun σ' => QF (.nx σ') h1) E := by
  conv => lhs; unfold ex
  rw [wp_bind]
  congr 1
  funext x h1
  cases x <;> first | rfl | exact wp_of_map
theorem wx_par {i j : Nat} {a b : Mini.E} : (ex N (.par i j a b) σ h).wp QF E = (ev N a σ h).wp (fun x h1 => (ev N b σ h1).wp (fun y h2 => QF (.nx ((σ.set i (some x)).set j (some y))) h2) E) E := by
  conv => lhs; unfold ex
  simp only [wp_bind, wp_ok]
theorem wx_sub {o k e : Mini.E} : (ex N (.sub o k e) σ h).wp QF E = (ev N e σ h).wp (fun x h1 => (ev N o σ h1).wp (fun a h2 => (ev N k σ h2).wp (fun q h3 => wpO (subS a q x h3) fun h4 => QF (.nx σ) h4) E) E) E := by
  conv => lhs; unfold ex
  simp only [wp_bind]
  congr 1
  funext x h1
  congr 1
  funext a h2
  congr 1
  funext q h3
  cases subS a q x h3 <;> rfl
theorem wx_exp {e : Mini.E} : (ex N (.exp e) σ h).wp QF E = (ev N e σ h).wp (fun _ h1 => QF (.nx σ) h1) E := by
  conv => lhs; unfold ex
  simp only [wp_bind, wp_ok]
theorem wx_ret {e : Mini.E} : (ex N (.ret e) σ h).wp QF E = (ev N e σ h).wp (fun x h1 => QF (.rt x) h1) E := by
  conv => lhs; unfold ex
  simp only [wp_bind, wp_ok]
theorem wx_ife {t : T} {a b : Ss} : (ex N (.ife t a b) σ h).wp QF E = (evT N t σ h).wp (fun c h1 => wpB c ((exs N a σ h1).wp QF E) ((exs N b σ h1).wp QF E)) E := by
  conv => lhs; unfold ex
  simp only [wp_bind, wp_iteb]
/-- a turn of a loop -/
def forF (N : Env') (g : Tg) (body : Ss) (x : VV) (σ' : Sl) (h2 : VH) : Rs Fl := match tgS g x σ' with
  | none => .bad
  | some σ2 => exs N body σ2 h2
theorem wp_forF {g : Tg} {body : Ss} {x : VV} : (forF N g body x σ h).wp QF E = wpO (tgS g x σ) fun σ2 => (exs N body σ2 h).wp QF E := by
  unfold forF
  cases tgS g x σ <;> rfl
theorem wx_for {g : Tg} {k : It} {src : Es} {body : Ss} : (ex N (.for g k src body) σ h).wp QF E = (evs N src σ h).wp (fun xs h1 => wpO (srcS k xs h1) fun s => (forW (forF N g body) s σ h1).wp QF E) E := by
  conv => lhs; unfold ex
  rw [wp_bind]
  congr 1
  funext xs h1
  cases srcS k xs h1 <;> rfl
theorem wx_rse {c : Nat} {es : Es} : (ex N (.rse c es) σ h).wp QF E = (evs N es σ h).wp (fun xs h1 => wpG (xs.length = (N.flds c).length) (E c (N.flds c) xs h1)) E := by
  conv => lhs; unfold ex
  simp only [wp_bind, wp_iteg, wp_exc]
theorem wx_try {i c j k : Nat} {e : Mini.E} : (ex N (.try i e c j k) σ h).wp QF E = (ev N e σ h).wp (fun x h1 => QF (.nx (σ.set i (some x))) h1) fun d ns vs h1 => wpG ((N.cls d == some true) = true) (wpB (N.sub d c) (QF (.nx ((σ.set k none).set j (some (.exc d ns vs)))) h1) (E d ns vs h1)) := by
  conv => lhs; unfold ex
  cases ev N e σ h with
  | ok x h1 => rfl
  | bad => rfl
  | exc d ns vs h1 =>
    show (if _ then _ else _ : Rs Fl).wp QF E = wpG _ _
    rw [wp_iteg, wp_iteb]
    rfl
theorem wx_brk : (ex N .brk σ h).wp QF E = QF (.bk σ) h := by conv => lhs; unfold ex
                                                              rfl
theorem wx_cnt : (ex N .cnt σ h).wp QF E = QF (.ct σ) h := by conv => lhs; unfold ex
                                                              rfl
theorem wxs_nil : (exs N .nil σ h).wp QF E = QF (.nx σ) h := by conv => lhs; unfold exs
                                                                rfl
/-- what comes behind a statement -/
def nxt (N : Env') (ss : Ss) (QF : Fl → VH → Prop) (E : XP) : Fl → VH → Prop := fun r h1 => match r with
  | .nx σ' => (exs N ss σ' h1).wp QF E
  | r => QF r h1
theorem nxt_nx {ss : Ss} {σ' : Sl} : nxt N ss QF E (.nx σ') h = (exs N ss σ' h).wp QF E := rfl
theorem nxt_rt {ss : Ss} {v : VV} : nxt N ss QF E (.rt v) h = QF (.rt v) h := rfl
theorem nxt_bk {ss : Ss} {σ' : Sl} : nxt N ss QF E (.bk σ') h = QF (.bk σ') h := rfl
theorem nxt_ct {ss : Ss} {σ' : Sl} : nxt N ss QF E (.ct σ') h = QF (.ct σ') h := rfl
theorem wxs_cons {s : S} {ss : Ss} : (exs N (.cons s ss) σ h).wp QF E = (ex N s σ h).wp (nxt N ss QF E) E := by
  conv => lhs; unfold exs
  rw [wp_bind]
  congr 1
  funext r h1
  cases r <;> rfl
end
section
variable {N : Env'} {σ : Sl} {h : VH} {Q : VV → VH → Prop} {QL : List VV → VH → Prop} {QT : Bool → VH → Prop} {QF : Fl → VH → Prop} {QS : Str → VH → Prop} {E : XP}
theorem we_var' {i : Nat} (q : wpO (slotV σ i) fun v => Q v h) : (ev N (.var i) σ h).wp Q E := by
  rw [we_var]
  exact q
theorem we_cst' {v : VV} (q : Q v h) : (ev N (.cst v) σ h).wp Q E := by
  rw [we_cst]
  exact q
theorem we_bin' {o : Bop} {a b : Mini.E} (q : (ev N a σ h).wp (fun x h1 => (ev N b σ h1).wp (fun y h2 => (bopS o x y h2).wp Q E) E) E) : (ev N (.bin o a b) σ h).wp Q E := by
  rw [we_bin]
  exact q
theorem we_neg' {a : Mini.E} (q : (ev N a σ h).wp (fun x h1 => wpO (negO x) fun v => Q v h1) E) : (ev N (.neg a) σ h).wp Q E := by
  rw [we_neg]
  exact q
theorem we_cmp' {o : Cop} {a b : Mini.E} (q : (ev N a σ h).wp (fun x h1 => (ev N b σ h1).wp (fun y h2 => wpO (copS o x y h2) fun b => Q (.bl b) h2) E) E) : (ev N (.cmp o a b) σ h).wp Q E := by
  rw [we_cmp]
  exact q
theorem we_chn' {o p : Cop} {a b c : Mini.E} (q : (ev N a σ h).wp (fun x h1 => (ev N b σ h1).wp (fun y h2 => wpO (copS o x y h2) fun k => wpB k ((ev N c σ h2).wp (fun z h3 => wpO (copS p y z h3) fun b => Q (.bl b) h3) E) (Q (.bl false) h2)) E) E) : (ev N (.chn o p a b c) σ h).wp Q E := by
  rw [we_chn]
  exact q
theorem we_and' {a b : Mini.E} (q : (ev N a σ h).wp (fun x h1 => wpO (truO h1 x) fun k => wpB k ((ev N b σ h1).wp Q E) (Q x h1)) E) : (ev N (.and a b) σ h).wp Q E := by
  rw [we_and]
  exact q
theorem we_or' {a b : Mini.E} (q : (ev N a σ h).wp (fun x h1 => wpO (truO h1 x) fun k => wpB k (Q x h1) ((ev N b σ h1).wp Q E)) E) : (ev N (.or a b) σ h).wp Q E := by
  rw [we_or]
  exact q
theorem we_not' {a : Mini.E} (q : (ev N a σ h).wp (fun x h1 => wpO (truO h1 x) fun k => Q (.bl (!k)) h1) E) : (ev N (.not a) σ h).wp Q E := by
  rw [we_not]
  exact q
theorem we_ife' {t : T} {a b : Mini.E} (q : (evT N t σ h).wp (fun c h1 => wpB c ((ev N a σ h1).wp Q E) ((ev N b σ h1).wp Q E)) E) : (ev N (.ife t a b) σ h).wp Q E := by
  rw [we_ife]
  exact q
theorem we_tup' {es : Es} (q : (evs N es σ h).wp (fun xs h1 => wpG (xs.length ≤ 1000) (Q (.tup xs) h1)) E) : (ev N (.tup es) σ h).wp Q E := by
  rw [we_tup]
  exact q
theorem we_lst' {es : Es} (q : (evs N es σ h).wp (fun xs h1 => wpG (xs.length ≤ 1000) (Q (.ref h1.length) (h1 ++ [.lst xs]))) E) : (ev N (.lst es) σ h).wp Q E := by
  rw [we_lst]
  exact q
theorem we_dct' {ks : List Key} {es : Es} (q : (evs N es σ h).wp (fun xs h1 => wpG (xs.length = ks.length ∧ xs.length ≤ 15) (Q (.ref h1.length) (h1 ++ [.dic (putAllD ks xs ([], [])).1 (putAllD ks xs ([], [])).2]))) E) : (ev N (.dct ks es) σ h).wp Q E := by
  rw [we_dct]
  exact q
theorem we_idx' {a b : Mini.E} (q : (ev N a σ h).wp (fun x h1 => (ev N b σ h1).wp (fun y h2 => (idxS x y h2).wp Q E) E) E) : (ev N (.idx a b) σ h).wp Q E := by
  rw [we_idx]
  exact q
theorem we_slc' {a : Mini.E} {lo hi : Es} (q : (ev N a σ h).wp (fun x h1 => (evs N lo σ h1).wp (fun l h2 => wpO (optI l) fun l => (evs N hi σ h2).wp (fun u h3 => wpO (optI u) fun u => (slcS x l u h3).wp Q E) E) E) E) : (ev N (.slc a lo hi) σ h).wp Q E := by
  rw [we_slc]
  exact q
theorem we_att' {f : Str} {a : Mini.E} (q : (ev N a σ h).wp (fun x h1 => (attS N.cls f x h1).wp Q E) E) : (ev N (.att f a) σ h).wp Q E := by
  rw [we_att]
  exact q
theorem we_isi' {ts : List Ty} {a : Mini.E} (q : (ev N a σ h).wp (fun x h1 => (isiS N.sub N.cls ts x h1).wp Q E) E) : (ev N (.isi ts a) σ h).wp Q E := by
  rw [we_isi]
  exact q
theorem we_fcl' {g : Nat} {es : Es} (q : (evs N es σ h).wp (fun xs h1 => (N.fn g xs h1).wp Q E) E) : (ev N (.fcl g es) σ h).wp Q E := by
  rw [we_fcl]
  exact q
theorem we_bcl' {b : Bfn} {es : Es} (q : (evs N es σ h).wp (fun xs h1 => (bfnS b xs h1).wp Q E) E) : (ev N (.bcl b es) σ h).wp Q E := by
  rw [we_bcl]
  exact q
theorem we_mcl' {m : Bmt} {o e : Mini.E} (q : (ev N o σ h).wp (fun x h1 => wpG (rcvB m x h1 = true) ((ev N e σ h1).wp (fun y h2 => (bmt1 m x y h2).wp Q E) E)) E) : (ev N (.mcl m o e) σ h).wp Q E := by
  rw [we_mcl]
  exact q
theorem we_lc' {w : List Nat} {g : Tg} {k : It} {src : Es} {t : T} {elt : Mini.E} (q : (evs N src σ h).wp (fun xs h1 => wpO (srcS k xs h1) fun s => (lcW (lcF N w g t elt σ) s h1).wp (fun ys h5 => Q (.ref h5.length) (h5 ++ [.lst ys])) E) E) : (ev N (.lc w g k src t elt) σ h).wp Q E := by
  rw [we_lc]
  exact q
theorem we_fst' {es : Es} (q : (evF N es Str.empty σ h).wp (fun t h1 => Q (.str t) h1) E) : (ev N (.fst es) σ h).wp Q E := by
  rw [we_fst]
  exact q
theorem ws_nil' (q : QL [] h) : (evs N .nil σ h).wp QL E := by
  rw [ws_nil]
  exact q
theorem ws_cons' {e : Mini.E} {es : Es} (q : (ev N e σ h).wp (fun x h1 => (evs N es σ h1).wp (fun xs h2 => QL (x :: xs) h2) E) E) : (evs N (.cons e es) σ h).wp QL E := by
  rw [ws_cons]
  exact q
theorem wf_nil' {a : Str} (q : QS a h) : (evF N .nil a σ h).wp QS E := by
  rw [wf_nil]
  exact q
theorem wf_cons' {e : Mini.E} {es : Es} {a : Str} (q : (ev N e σ h).wp (fun x h1 => wpO (partS x) fun t => wpG ((a ++ t).length ≤ sizeLine) ((evF N es (a ++ t) σ h1).wp QS E)) E) : (evF N (.cons e es) a σ h).wp QS E := by
  rw [wf_cons]
  exact q
theorem wt_yes' (q : QT true h) : (evT N .yes σ h).wp QT E := by
  rw [wt_yes]
  exact q
theorem wt_val' {e : Mini.E} (q : (ev N e σ h).wp (fun x h1 => wpO (truO h1 x) fun b => QT b h1) E) : (evT N (.val e) σ h).wp QT E := by
  rw [wt_val]
  exact q
theorem wt_and' {a b : T} (q : (evT N a σ h).wp (fun c h1 => wpB c ((evT N b σ h1).wp QT E) (QT false h1)) E) : (evT N (.and a b) σ h).wp QT E := by
  rw [wt_and]
  exact q
theorem wt_or' {a b : T} (q : (evT N a σ h).wp (fun c h1 => wpB c (QT true h1) ((evT N b σ h1).wp QT E)) E) : (evT N (.or a b) σ h).wp QT E := by
  rw [wt_or]
  exact q
theorem wt_not' {a : T} (q : (evT N a σ h).wp (fun c h1 => QT (!c) h1) E) : (evT N (.not a) σ h).wp QT E := by
  rw [wt_not]
  exact q
theorem wx_set' {i : Nat} {e : Mini.E} (q : (ev N e σ h).wp (fun x h1 => QF (.nx (σ.set i (some x))) h1) E) : (ex N (.set i e) σ h).wp QF E := by
  rw [wx_set]
  exact q
theorem wx_unp' {is : List Nat} {e : Mini.E} (q : (ev N e σ h).wp (fun x h1 => wpO (tupO x) fun xs => wpO (unpS is xs σ) fun σ' => QF (.nx σ') h1) E) : (ex N (.unp is e) σ h).wp QF E := by
  rw [wx_unp]
  exact q
theorem wx_par' {i j : Nat} {a b : Mini.E} (q : (ev N a σ h).wp (fun x h1 => (ev N b σ h1).wp (fun y h2 => QF (.nx ((σ.set i (some x)).set j (some y))) h2) E) E) : (ex N (.par i j a b) σ h).wp QF E := by
  rw [wx_par]
  exact q
theorem wx_sub' {o k e : Mini.E} (q : (ev N e σ h).wp (fun x h1 => (ev N o σ h1).wp (fun a h2 => (ev N k σ h2).wp (fun q h3 => wpO (subS a q x h3) fun h4 => QF (.nx σ) h4) E) E) E) : (ex N (.sub o k e) σ h).wp QF E := by
  rw [wx_sub]
  exact q
theorem wx_exp' {e : Mini.E} (q : (ev N e σ h).wp (fun _ h1 => QF (.nx σ) h1) E) : (ex N (.exp e) σ h).wp QF E := by
  rw [wx_exp]
  exact q
theorem wx_ret' {e : Mini.E} (q : (ev N e σ h).wp (fun x h1 => QF (.rt x) h1) E) : (ex N (.ret e) σ h).wp QF E := by
  rw [wx_ret]
  exact q
theorem wx_ife' {t : T} {a b : Ss} (q : (evT N t σ h).wp (fun c h1 => wpB c ((exs N a σ h1).wp QF E) ((exs N b σ h1).wp QF E)) E) : (ex N (.ife t a b) σ h).wp QF E := by
  rw [wx_ife]
  exact q
theorem wx_for' {g : Tg} {k : It} {src : Es} {body : Ss} (q : (evs N src σ h).wp (fun xs h1 => wpO (srcS k xs h1) fun s => (forW (forF N g body) s σ h1).wp QF E) E) : (ex N (.for g k src body) σ h).wp QF E := by
  rw [wx_for]
  exact q
theorem wx_rse' {c : Nat} {es : Es} (q : (evs N es σ h).wp (fun xs h1 => wpG (xs.length = (N.flds c).length) (E c (N.flds c) xs h1)) E) : (ex N (.rse c es) σ h).wp QF E := by
  rw [wx_rse]
  exact q
theorem wx_try' {i c j k : Nat} {e : Mini.E} (q : (ev N e σ h).wp (fun x h1 => QF (.nx (σ.set i (some x))) h1) fun d ns vs h1 => wpG ((N.cls d == some true) = true) (wpB (N.sub d c) (QF (.nx ((σ.set k none).set j (some (.exc d ns vs)))) h1) (E d ns vs h1))) : (ex N (.try i e c j k) σ h).wp QF E := by
  rw [wx_try]
  exact q
theorem wx_brk' (q : QF (.bk σ) h) : (ex N .brk σ h).wp QF E := by
  rw [wx_brk]
  exact q
theorem wx_cnt' (q : QF (.ct σ) h) : (ex N .cnt σ h).wp QF E := by
  rw [wx_cnt]
  exact q
theorem wxs_nil' (q : QF (.nx σ) h) : (exs N .nil σ h).wp QF E := by
  rw [wxs_nil]
  exact q
theorem nxt_nx' {ss : Ss} {σ' : Sl} (q : (exs N ss σ' h).wp QF E) : nxt N ss QF E (.nx σ') h := by
  rw [nxt_nx]
  exact q
theorem nxt_rt' {ss : Ss} {v : VV} (q : QF (.rt v) h) : nxt N ss QF E (.rt v) h := by
  rw [nxt_rt]
  exact q
theorem nxt_bk' {ss : Ss} {σ' : Sl} (q : QF (.bk σ') h) : nxt N ss QF E (.bk σ') h := by
  rw [nxt_bk]
  exact q
theorem nxt_ct' {ss : Ss} {σ' : Sl} (q : QF (.ct σ') h) : nxt N ss QF E (.ct σ') h := by
  rw [nxt_ct]
  exact q
theorem wxs_cons' {s : S} {ss : Ss} (q : (ex N s σ h).wp (nxt N ss QF E) E) : (exs N (.cons s ss) σ h).wp QF E := by
  rw [wxs_cons]
  exact q
end
theorem wpB_t' {P Q : Prop} (q : P) : wpB true P Q := q
theorem wpB_f' {P Q : Prop} (q : Q) : wpB false P Q := q
theorem wpB_nt' {P Q : Prop} (q : Q) : wpB (!true) P Q := q
theorem wpB_nf' {P Q : Prop} (q : P) : wpB (!false) P Q := q
/-! ### walks -/
section
variable {E : XP}
/-- items that stand: an invariant over what was taken -/
theorem forL_inv {f : VV → Sl → VH → Rs Fl} {QF : Fl → VH → Prop} (I : List VV → List VV → Sl → VH → Prop) : ∀ (xs pre : List VV) (σ : Sl) (h : VH), I pre xs σ h →
    (∀ pre x post σ h, I pre (x :: post) σ h → (f x σ h).wp (fun r h' => match r with
      | .nx σ' => I (pre ++ [x]) post σ' h'
      | .ct σ' => I (pre ++ [x]) post σ' h'
      | .bk σ' => QF (.nx σ') h'
      | .rt v => QF (.rt v) h') E) → (∀ pre σ h, I pre [] σ h → QF (.nx σ) h) → (forL f xs σ h).wp QF E
  | [], pre, σ, h, i, st, en => en pre σ h i
  | x :: xs, pre, σ, h, i, st, en => by
    unfold forL
    rw [wp_bind]
    refine (st pre x xs σ h i).mono (fun r h' q => ?_) fun _ _ _ _ q => q
    cases r with
    | nx σ' => exact forL_inv I xs _ σ' h' q st en
    | ct σ' => exact forL_inv I xs _ σ' h' q st en
    | bk σ' => exact q
    | rt v => exact q
/-- a list's cell that stays as it is -/
theorem forC_inv {f : VV → Sl → VH → Rs Fl} {QF : Fl → VH → Prop} {k : Nat} {cnt : Bool} (I : List VV → List VV → Sl → VH → Prop) : ∀ (xs pre : List VV) (n : Nat) (σ : Sl) (h : VH), n = xs.length → I pre xs σ h →
    (∀ pre x post σ h, I pre (x :: post) σ h → (f (itemOf cnt pre.length x) σ h).wp (fun r h' => match r with
      | .nx σ' => I (pre ++ [x]) post σ' h'
      | .ct σ' => I (pre ++ [x]) post σ' h'
      | .bk σ' => QF (.nx σ') h'
      | .rt v => QF (.rt v) h') E) → (∀ pre post σ h, I pre post σ h → cellAt h k = some (pre ++ post)) → (∀ pre σ h, I pre [] σ h → QF (.nx σ) h) → (forC f k cnt n pre.length σ h).wp QF E
  | [], pre, n, σ, h, e, i, st, ce, en => by
    unfold forC
    rw [ce pre [] σ h i]
    simp only [List.append_nil]
    rw [List.getElem?_eq_none (Nat.le_refl _)]
    exact en pre σ h i
  | x :: xs, pre, n, σ, h, e, i, st, ce, en => by
    subst e
    unfold forC
    rw [ce pre _ σ h i]
    simp only [List.getElem?_append_right (Nat.le_refl _), Nat.sub_self, List.getElem?_cons_zero, List.length_cons]
    rw [wp_bind]
    refine (st pre x xs σ h i).mono (fun r h' q => ?_) fun _ _ _ _ q => q
    have go : ∀ σ', I (pre ++ [x]) xs σ' h' → (forC f k cnt xs.length (pre.length + 1) σ' h').wp QF E := fun σ' q => by
      have := forC_inv I xs (pre ++ [x]) xs.length σ' h' rfl q st ce en
      rwa [List.length_append, List.length_singleton] at this
    cases r with
    | nx σ' => exact go σ' q
    | ct σ' => exact go σ' q
    | bk σ' => exact q
    | rt v => exact q
theorem forW_inv {f : VV → Sl → VH → Rs Fl} {QF : Fl → VH → Prop} {k : Nat} {cnt : Bool} {σ : Sl} {h : VH} (I : List VV → List VV → Sl → VH → Prop) (xs : List VV) (hc : cellAt h k = some xs) (i : I [] xs σ h) 
    (st : ∀ pre x post σ h, I pre (x :: post) σ h → (f (itemOf cnt pre.length x) σ h).wp (fun r h' => match r with
      | .nx σ' => I (pre ++ [x]) post σ' h'
      | .ct σ' => I (pre ++ [x]) post σ' h'
      | .bk σ' => QF (.nx σ') h'
      | .rt v => QF (.rt v) h') E) (ce : ∀ pre post σ h, I pre post σ h → cellAt h k = some (pre ++ post)) (en : ∀ pre σ h, I pre [] σ h → QF (.nx σ) h) : (forW f (.cell k cnt) σ h).wp QF E := by
  unfold forW
  dsimp only
  rw [hc]
  exact forC_inv I xs [] xs.length σ h rfl i st ce en
/-- a comprehension over items that stand -/
theorem lcL_inv {f : VV → VH → Rs (Option VV)} {Q : List VV → VH → Prop} (I : List VV → List VV → List VV → VH → Prop) : ∀ (xs pre acc : List VV) (h : VH), I pre xs acc h →
    (∀ pre x post acc h, I pre (x :: post) acc h → acc.length < 100000 ∧ (f x h).wp (fun o h' => I (pre ++ [x]) post (acc ++ o.toList) h') E) → (∀ pre acc h, I pre [] acc h → Q acc h) → (lcL f xs acc h).wp Q E
  | [], pre, acc, h, i, st, en => en pre acc h i
  | x :: xs, pre, acc, h, i, st, en => by
    unfold lcL
    obtain ⟨a, b⟩ := st pre x xs acc h i
    rw [if_pos a, wp_bind]
    exact b.mono (fun o h' q => lcL_inv I xs _ _ h' q st en) fun _ _ _ _ q => q
theorem lcC_inv {f : VV → VH → Rs (Option VV)} {Q : List VV → VH → Prop} {k : Nat} {cnt : Bool} (I : List VV → List VV → List VV → VH → Prop) : ∀ (xs pre acc : List VV) (n : Nat) (h : VH), n = xs.length → I pre xs acc h →
    (∀ pre x post acc h, I pre (x :: post) acc h → acc.length < 100000 ∧ (f (itemOf cnt pre.length x) h).wp (fun o h' => I (pre ++ [x]) post (acc ++ o.toList) h') E) → (∀ pre post acc h, I pre post acc h → cellAt h k = some (pre ++ post)) → (∀ pre acc h, I pre [] acc h → Q acc h) → (lcC f k cnt n pre.length acc h).wp Q E
  | [], pre, acc, n, h, e, i, st, ce, en => by
    unfold lcC
    rw [ce pre [] acc h i]
    simp only [List.append_nil]
    rw [List.getElem?_eq_none (Nat.le_refl _)]
    exact en pre acc h i
  | x :: xs, pre, acc, n, h, e, i, st, ce, en => by
    subst e
    unfold lcC
    rw [ce pre _ acc h i]
    simp only [List.getElem?_append_right (Nat.le_refl _), Nat.sub_self, List.getElem?_cons_zero, List.length_cons]
    obtain ⟨a, b⟩ := st pre x xs acc h i
    rw [if_pos a, wp_bind]
    refine b.mono (fun o h' q => ?_) fun _ _ _ _ q => q
    have := lcC_inv I xs (pre ++ [x]) (acc ++ o.toList) xs.length h' rfl q st ce en
    rwa [List.length_append, List.length_singleton] at this
/-- a comprehension whose turns leave the heap as it is -/
theorem lcL_pure {f : VV → VH → Rs (Option VV)} {Q : List VV → VH → Prop} {g : VV → Option VV} {xs : List VV} {h : VH} (hl : xs.length ≤ 100000) (hf : ∀ x ∈ xs, f x h = .ok (g x) h) (q : Q (xs.filterMap g) h) : (lcL f xs [] h).wp Q E := by
  refine lcL_inv (fun pre post acc h' => h' = h ∧ xs = pre ++ post ∧ acc = pre.filterMap g) xs [] [] h ⟨rfl, rfl, rfl⟩ (fun pre x post acc h' ⟨e1, e2, e3⟩ => ?_) fun pre acc h' ⟨e1, e2, e3⟩ => ?_
  · subst e1 e3
    have hx : x ∈ xs := by rw [e2]; simp
    refine ⟨?_, ?_⟩
    · have h1 := List.length_filterMap_le g pre
      have h2 := congrArg List.length e2
      simp at h2
      omega
    · rw [hf x hx]
      refine ⟨rfl, by rw [e2]; simp, ?_⟩
      rw [List.filterMap_append]
      cases e : g x <;> simp [e]
  · subst e1 e3
    rw [List.append_nil] at e2
    subst e2
    exact q
theorem lcC_pure {f : VV → VH → Rs (Option VV)} {Q : List VV → VH → Prop} {g : VV → Option VV} {xs : List VV} {k : Nat} {h : VH} (hc : cellAt h k = some xs) (hl : xs.length ≤ 100000) (hf : ∀ x ∈ xs, f x h = .ok (g x) h) (q : Q (xs.filterMap g) h) : (lcW f (.cell k false) h).wp Q E := by
  unfold lcW
  dsimp only
  rw [hc]
  refine lcC_inv (fun pre post acc h' => h' = h ∧ xs = pre ++ post ∧ acc = pre.filterMap g) xs [] [] _ h rfl ⟨rfl, rfl, rfl⟩ (fun pre x post acc h' ⟨e1, e2, e3⟩ => ?_) (fun pre post acc h' ⟨e1, e2, e3⟩ => by rw [e1, hc, e2]) fun pre acc h' ⟨e1, e2, e3⟩ => ?_
  · subst e1 e3
    have hx : x ∈ xs := by rw [e2]; simp
    refine ⟨?_, ?_⟩
    · have h1 := List.length_filterMap_le g pre
      have h2 := congrArg List.length e2
      simp at h2
      omega
    · show (f x h').wp _ _
      rw [hf x hx]
      refine ⟨rfl, by rw [e2]; simp, ?_⟩
      rw [List.filterMap_append]
      cases e : g x <;> simp [e]
  · subst e1 e3
    rw [List.append_nil] at e2
    subst e2
    exact q
end
end Mini
end
section
set_option Elab.async false
set_option linter.all false
set_option maxRecDepth 100000
/-! k82: the defs in the small language (printed by a program of ours). -/
namespace Mini
namespace K82
open PySem L2
/-- 0 is_integer [value] -/
def b_is_integer : Ss :=
  (.cons (.ret (.and (.isi [(.bi "int")] (.var 0)) (.not (.isi [(.bi "bool")] (.var 0)))))
  .nil)
/-- 1 is_name [value, letter] -/
def b_is_name : Ss :=
  (.cons (.ife (.or (.not (.val (.isi [(.bi "str")] (.var 0)))) (.or (.val (.cmp .eq (.var 0) (.cst (.str "")))) (.val (.cmp .gt (.bcl .len (.cons (.var 0) .nil)) (.cst (.int 8)))))) (.cons (.ret (.cst (.bl false)))
  .nil) .nil)
  (.cons (.ret (.cmp .eq (.lc [1] (.one 1) .seq (.cons (.var 0) .nil) (.val (.cmp .notIn (.var 1) (.cst (.str "abcdefghijklmnopqrstuvwxyz")))) (.var 1)) (.lst .nil)))
  .nil))
/-- 2 is_output [value] -/
def b_is_output : Ss :=
  (.cons (.ife (.val (.isi [(.bi "tuple"), (.bi "list")] (.var 0))) (.cons (.ret (.and (.cmp .eq (.bcl .len (.cons (.var 0) .nil)) (.cst (.int 2))) (.and (.fcl 1 (.cons (.idx (.var 0) (.cst (.int 0))) .nil)) (.fcl 0 (.cons (.idx (.var 0) (.cst (.int 1))) .nil)))))
  .nil) .nil)
  (.cons (.ret (.fcl 1 (.cons (.var 0) .nil)))
  .nil))
/-- 3 need_row [row, at, output] -/
def b_need_row : Ss :=
  (.cons (.ife (.not (.val (.isi [(.bi "tuple"), (.bi "list")] (.var 0)))) (.cons (.rse 1 (.cons (.cst .non) .nil))
  .nil) .nil)
  (.cons (.for (.two 1 2) .enum (.cons (.var 0) .nil) (.cons (.ife (.not (.val (.fcl 2 (.cons (.var 2) .nil)))) (.cons (.rse 1 (.cons (.var 1) .nil))
  .nil) .nil)
  .nil))
  (.cons (.ret (.bcl .tuple (.cons (.lc [2] (.one 2) .seq (.cons (.var 0) .nil) .yes (.ife (.val (.isi [(.bi "str")] (.var 2))) (.var 2) (.tup (.cons (.idx (.var 2) (.cst (.int 0))) (.cons (.idx (.var 2) (.cst (.int 1))) .nil))))) .nil)))
  .nil)))
/-- 4 output_text [output] -/
def b_output_text : Ss :=
  (.cons (.ret (.ife (.val (.isi [(.bi "str")] (.var 0))) (.var 0) (.fst (.cons (.idx (.var 0) (.cst (.int 0))) (.cons (.cst (.str "=")) (.cons (.idx (.var 0) (.cst (.int 1))) .nil))))))
  .nil)
/-- 5 row_text [row, told, output] -/
def b_row_text : Ss :=
  (.cons (.set 1 (.fcl 3 (.cons (.var 0) .nil)))
  (.cons (.ret (.ife (.val (.cmp .ne (.var 1) (.tup .nil))) (.mcl .join (.cst (.str " ")) (.lc [2] (.one 2) .seq (.cons (.var 1) .nil) .yes (.fcl 4 (.cons (.var 2) .nil)))) (.cst (.str "-"))))
  .nil))
/-- 6 integer_of [word, body, sign] -/
def b_integer_of : Ss :=
  (.cons (.set 1 (.ife (.val (.mcl .startswith (.var 0) (.cst (.str "-")))) (.slc (.var 0) (.cons (.cst (.int 1)) .nil) .nil) (.var 0)))
  (.cons (.ife (.or (.val (.cmp .eq (.var 1) (.cst (.str "")))) (.or (.val (.cmp .gt (.bcl .len (.cons (.var 1) .nil)) (.cst (.int 4000)))) (.not (.val (.bcl .all (.cons (.lc [2] (.one 2) .seq (.cons (.var 1) .nil) .yes (.cmp .in_ (.var 2) (.cst (.str "0123456789")))) .nil)))))) (.cons (.ret (.cst .non))
  .nil) .nil)
  (.cons (.ife (.and (.val (.mcl .startswith (.var 1) (.cst (.str "0")))) (.val (.cmp .ne (.var 0) (.cst (.str "0"))))) (.cons (.ret (.cst .non))
  .nil) .nil)
  (.cons (.ret (.bcl .int (.cons (.var 0) .nil)))
  .nil))))
/-- 7 read_output [word, name, sign, number] -/
def b_read_output : Ss :=
  (.cons (.unp [1, 2, 3] (.mcl .partition (.var 0) (.cst (.str "="))))
  (.cons (.ife (.not (.val (.fcl 1 (.cons (.var 1) .nil)))) (.cons (.ret (.cst .non))
  .nil) .nil)
  (.cons (.ife (.val (.cmp .eq (.var 2) (.cst (.str "")))) (.cons (.ret (.var 1))
  .nil) .nil)
  (.cons (.ret (.ife (.val (.cmp .isN (.fcl 6 (.cons (.var 3) .nil)) (.cst .non))) (.cst .non) (.tup (.cons (.var 1) (.cons (.fcl 6 (.cons (.var 3) .nil)) .nil)))))
  .nil))))
/-- 8 read_row [text, words, found, at, word, output] -/
def b_read_row : Ss :=
  (.cons (.ife (.not (.val (.isi [(.bi "str")] (.var 0)))) (.cons (.rse 2 (.cons (.cst (.int 0)) (.cons (.cst (.int 0)) .nil)))
  .nil) .nil)
  (.cons (.set 1 (.mcl .split (.var 0) (.cst (.str " "))))
  (.cons (.ife (.val (.cmp .eq (.idx (.var 1) (.cst (.int 0))) (.cst (.str "-")))) (.cons (.ife (.val (.cmp .gt (.bcl .len (.cons (.var 1) .nil)) (.cst (.int 1)))) (.cons (.rse 2 (.cons (.cst (.int 0)) (.cons (.cst (.int 1)) .nil)))
  .nil) .nil)
  (.cons (.ret (.tup .nil))
  .nil)) .nil)
  (.cons (.set 2 (.lst .nil))
  (.cons (.for (.two 3 4) .enum (.cons (.var 1) .nil) (.cons (.set 5 (.fcl 7 (.cons (.var 4) .nil)))
  (.cons (.ife (.val (.cmp .isN (.var 5) (.cst .non))) (.cons (.rse 2 (.cons (.cst (.int 0)) (.cons (.var 3) .nil)))
  .nil) .nil)
  (.cons (.exp (.mcl .append (.var 2) (.var 5)))
  .nil))))
  (.cons (.ret (.bcl .tuple (.cons (.var 2) .nil)))
  .nil))))))
/-- 9 _law_pen [script, cell] -/
def b__law_pen : Ss :=
  (.cons (.ret (.lst (.cons (.lc [1] (.one 1) .seq (.cons (.slc (.var 0) .nil (.cons (.cst (.int 63)) .nil)) .nil) .yes (.bcl .int (.cons (.var 1) .nil))) (.cons (.cst (.int 0)) (.cons (.cst (.int 0)) .nil)))))
  .nil)
/-- 10 _law_draw [pen, many, digit, spot, cell, great, mixed] -/
def b__law_draw : Ss :=
  (.cons (.ife (.val (.cmp .gt (.idx (.var 0) (.cst (.int 2))) (.cst (.int 0)))) (.cons (.set 2 (.bin .mod (.bcl .int (.cons (.idx (.var 0) (.cst (.int 2))) .nil)) (.var 1)))
  (.cons (.sub (.var 0) (.cst (.int 2)) (.bin .fdiv (.bcl .int (.cons (.idx (.var 0) (.cst (.int 2))) .nil)) (.var 1)))
  (.cons (.ret (.var 2))
  .nil))) .nil)
  (.cons (.set 3 (.idx (.var 0) (.cst (.int 1))))
  (.cons (.sub (.var 0) (.cst (.int 1)) (.bin .add (.var 3) (.cst (.int 1))))
  (.cons (.set 4 (.bin .add (.bin .mul (.cst (.int 60435)) (.var 3)) (.cst (.int 7529))))
  (.cons (.ife (.val (.cmp .ne (.idx (.var 0) (.cst (.int 0))) (.lst .nil))) (.cons (.set 4 (.idx (.idx (.var 0) (.cst (.int 0))) (.bin .mod (.bcl .int (.cons (.var 3) .nil)) (.bcl .len (.cons (.idx (.var 0) (.cst (.int 0))) .nil)))))
  .nil) .nil)
  (.cons (.ife (.and (.val (.cmp .lt (.var 3) (.bcl .len (.cons (.idx (.var 0) (.cst (.int 0))) .nil)))) (.val (.cmp .ge (.bcl .abs (.cons (.var 4) .nil)) (.bin .pow (.cst (.int 10)) (.cst (.int 18)))))) (.cons (.set 5 (.bin .add (.bin .mul (.cst (.int 2)) (.bin .sub (.bcl .abs (.cons (.var 4) .nil)) (.bin .pow (.cst (.int 10)) (.cst (.int 18))))) (.bcl .int (.cons (.cmp .lt (.var 4) (.cst (.int 0))) .nil))))
  (.cons (.sub (.var 0) (.cst (.int 2)) (.bin .fdiv (.bcl .int (.cons (.var 5) .nil)) (.var 1)))
  (.cons (.ret (.bin .mod (.bcl .int (.cons (.var 5) .nil)) (.var 1)))
  .nil))) .nil)
  (.cons (.set 6 (.bin .mod (.bcl .int (.cons (.bin .pow (.bin .add (.bin .add (.bin .mod (.bcl .int (.cons (.var 4) .nil)) (.cst (.int 2147483549))) (.bin .mul (.cst (.int 7529)) (.var 3))) (.cst (.int 4405))) (.cst (.int 5))) .nil)) (.cst (.int 2147483629))))
  (.cons (.set 6 (.bin .mod (.bcl .int (.cons (.bin .pow (.bin .add (.bin .add (.bin .mul (.var 6) (.bin .add (.bin .mul (.cst (.int 2)) (.var 3)) (.cst (.int 4405)))) (.bin .mul (.bin .mul (.cst (.int 60435)) (.var 3)) (.var 3))) (.cst (.int 79))) (.cst (.int 3))) .nil)) (.cst (.int 2147483587))))
  (.cons (.ret (.bin .mod (.bcl .int (.cons (.bin .fdiv (.var 6) (.cst (.int 32))) .nil)) (.var 1)))
  .nil)))))))))
/-- 11 _law_pick [pen, some] -/
def b__law_pick : Ss :=
  (.cons (.ret (.idx (.var 1) (.fcl 10 (.cons (.var 0) (.cons (.bcl .len (.cons (.var 1) .nil)) .nil)))))
  .nil)
/-- 12 _law_row [pen, word, goals, bars, keep, tell] -/
def b__law_row : Ss :=
  (.cons (.set 4 (.ife (.val (.cmp .eq (.fcl 10 (.cons (.var 0) (.cons (.cst (.int 5)) .nil))) (.cst (.int 0)))) (.fcl 11 (.cons (.var 0) (.cons (.var 3) .nil))) (.cst .non)))
  (.cons (.set 5 (.ife (.val (.cmp .eq (.fcl 10 (.cons (.var 0) (.cons (.cst (.int 7)) .nil))) (.cst (.int 0)))) (.cst (.str "same")) (.ife (.val (.cmp .eq (.fcl 10 (.cons (.var 0) (.cons (.cst (.int 8)) .nil))) (.cst (.int 0)))) (.bin .add (.cst (.int 1)) (.fcl 10 (.cons (.var 0) (.cons (.cst (.int 2)) .nil)))) (.cst (.int 0)))))
  (.cons (.ret (.tup (.cons (.var 1) (.cons (.fcl 11 (.cons (.var 0) (.cons (.var 2) .nil))) (.cons (.var 4) (.cons (.var 5) .nil))))))
  .nil)))
/-- 13 _law_plan [pen, most, bars, places, names, goals, name, strength, way, bar, rows] -/
def b__law_plan : Ss :=
  (.cons (.par 2 3 (.slc (.lst (.cons (.cst (.str "b")) (.cons (.cst (.str "c")) (.cons (.cst (.str "d")) .nil)))) .nil (.cons (.fcl 11 (.cons (.var 0) (.cons (.lst (.cons (.cst (.int 1)) (.cons (.cst (.int 1)) (.cons (.cst (.int 1)) (.cons (.cst (.int 1)) (.cons (.cst (.int 1)) (.cons (.cst (.int 2)) (.cons (.cst (.int 2)) (.cons (.cst (.int 3)) .nil))))))))) .nil))) .nil)) (.dct [] .nil))
  (.cons (.set 4 (.ife (.val (.cmp .gt (.fcl 10 (.cons (.var 0) (.cons (.cst (.int 9)) .nil))) (.cst (.int 0)))) (.slc (.lst (.cons (.cst (.str "ask")) (.cons (.cst (.str "hear")) (.cons (.cst (.str "more")) .nil)))) .nil (.cons (.bin .add (.cst (.int 1)) (.fcl 10 (.cons (.var 0) (.cons (.var 1) .nil)))) .nil)) (.lst .nil)))
  (.cons (.set 5 (.ife (.val (.cmp .ne (.var 4) (.lst .nil))) (.bin .add (.var 4) (.lst (.cons (.cst .non) .nil))) (.lst (.cons (.cst .non) .nil))))
  (.cons (.ife (.val (.cmp .gt (.fcl 10 (.cons (.var 0) (.cons (.cst (.int 4)) .nil))) (.cst (.int 0)))) (.cons (.sub (.var 3) (.cst (.str "go")) (.tup (.cons (.cst (.str "sets")) (.cons (.bin .add (.cst (.int 1)) (.fcl 10 (.cons (.var 0) (.cons (.cst (.int 2)) .nil)))) (.cons (.cst (.str "b")) (.cons (.bin .sub (.fcl 10 (.cons (.var 0) (.cons (.cst (.int 5)) .nil))) (.cst (.int 2))) (.cons (.lst (.cons (.tup (.cons (.cst (.str "set")) (.cons (.ife (.val (.cmp .gt (.bcl .len (.cons (.var 2) .nil)) (.cst (.int 1)))) (.cst (.str "nextone")) (.idx (.var 5) (.cst (.int 0)))) (.cons (.cst (.str "b")) (.cons (.cst (.int 0)) .nil))))) .nil)) .nil)))))))
  .nil) (.cons (.sub (.var 3) (.cst (.str "go")) (.tup (.cons (.cst (.str "reads")) (.cons (.bin .add (.cst (.int 1)) (.fcl 10 (.cons (.var 0) (.cons (.cst (.int 2)) .nil)))) (.cons (.cst .non) (.cons (.cst .non) (.cons (.lst (.cons (.tup (.cons (.cst (.str "set")) (.cons (.ife (.val (.cmp .gt (.bcl .len (.cons (.var 2) .nil)) (.cst (.int 1)))) (.cst (.str "nextone")) (.idx (.var 5) (.cst (.int 0)))) (.cons (.cst (.str "b")) (.cons (.cst (.int 0)) .nil))))) .nil)) .nil)))))))
  .nil))
  (.cons (.ife (.val (.cmp .gt (.bcl .len (.cons (.var 2) .nil)) (.cst (.int 1)))) (.cons (.sub (.var 3) (.cst (.str "nextone")) (.tup (.cons (.cst (.str "sets")) (.cons (.bin .add (.cst (.int 1)) (.fcl 10 (.cons (.var 0) (.cons (.cst (.int 2)) .nil)))) (.cons (.cst (.str "c")) (.cons (.cst (.int 0)) (.cons (.lst (.cons (.tup (.cons (.cst (.str "then")) (.cons (.ife (.val (.cmp .gt (.bcl .len (.cons (.var 2) .nil)) (.cst (.int 2)))) (.cst (.str "third")) (.idx (.var 5) (.cst (.int 0)))) (.cons (.cst (.str "c")) (.cons (.cst (.int 0)) .nil))))) .nil)) .nil)))))))
  .nil) .nil)
  (.cons (.ife (.val (.cmp .gt (.bcl .len (.cons (.var 2) .nil)) (.cst (.int 2)))) (.cons (.sub (.var 3) (.cst (.str "third")) (.tup (.cons (.cst (.str "sets")) (.cons (.cst (.int 1)) (.cons (.cst (.str "d")) (.cons (.cst (.int 1)) (.cons (.lst (.cons (.tup (.cons (.cst (.str "so")) (.cons (.idx (.var 5) (.cst (.int 0))) (.cons (.cst (.str "d")) (.cons (.cst (.int 0)) .nil))))) .nil)) .nil)))))))
  .nil) .nil)
  (.cons (.for (.one 6) .seq (.cons (.var 4) .nil) (.cons (.par 7 8 (.bin .add (.cst (.int 1)) (.fcl 10 (.cons (.var 0) (.cons (.cst (.int 2)) .nil)))) (.fcl 10 (.cons (.var 0) (.cons (.cst (.int 9)) .nil))))
  (.cons (.ife (.val (.cmp .eq (.var 8) (.cst (.int 0)))) (.cons (.set 9 (.fcl 11 (.cons (.var 0) (.cons (.var 2) .nil))))
  (.cons (.sub (.var 3) (.var 6) (.tup (.cons (.cst (.str "sets")) (.cons (.var 7) (.cons (.var 9) (.cons (.neg (.cst (.int 1))) (.cons (.lst (.cons (.tup (.cons (.cst (.str "put")) (.cons (.fcl 11 (.cons (.var 0) (.cons (.var 5) .nil))) (.cons (.var 9) (.cons (.cst (.int 0)) .nil))))) .nil)) .nil)))))))
  .nil)) (.cons (.ife (.val (.cmp .lt (.var 8) (.cst (.int 7)))) (.cons (.set 10 (.lst (.cons (.fcl 12 (.cons (.var 0) (.cons (.cst (.str "no")) (.cons (.var 5) (.cons (.var 2) .nil))))) (.cons (.fcl 12 (.cons (.var 0) (.cons (.cst (.str "yes")) (.cons (.var 5) (.cons (.var 2) .nil))))) .nil))))
  (.cons (.sub (.var 3) (.var 6) (.tup (.cons (.cst (.str "tests")) (.cons (.var 7) (.cons (.fcl 11 (.cons (.var 0) (.cons (.var 2) .nil))) (.cons (.cst .non) (.cons (.var 10) .nil)))))))
  .nil)) (.cons (.sub (.var 3) (.var 6) (.tup (.cons (.cst (.str "reads")) (.cons (.var 7) (.cons (.cst .non) (.cons (.cst .non) (.cons (.lst (.cons (.fcl 12 (.cons (.var 0) (.cons (.cst (.str "hm")) (.cons (.var 5) (.cons (.var 2) .nil))))) .nil)) .nil)))))))
  .nil))
  .nil))
  .nil)))
  (.cons (.ret (.dct [.inr "base", .inr "places"] (.cons (.bin .add (.cst (.int 2)) (.fcl 10 (.cons (.var 0) (.cons (.cst (.int 2)) .nil)))) (.cons (.var 3) .nil))))
  .nil))))))))
/-- 14 _law_move [plan, name, side, kind, strength, bar, number, rows, word, goes, keep, tell, found] -/
def b__law_move : Ss :=
  (.cons (.unp [3, 4, 5, 6, 7] (.idx (.idx (.var 0) (.cst (.str "places"))) (.var 1)))
  (.cons (.unp [8, 9, 10, 11] (.idx (.var 7) (.var 2)))
  (.cons (.set 12 (.dct [.inr "word", .inr "to", .inr "keep", .inr "tell", .inr "strength", .inr "step", .inr "reads"] (.cons (.var 8) (.cons (.var 9) (.cons (.var 10) (.cons (.var 11) (.cons (.var 4) (.cons (.tup (.cons (.var 1) (.cons (.var 2) .nil))) (.cons (.cmp .ne (.var 3) (.cst (.str "sets"))) .nil)))))))))
  (.cons (.exp (.mcl .update (.var 12) (.dct [.inr "tested", .inr "low"] (.cons (.ife (.val (.cmp .eq (.var 3) (.cst (.str "tests")))) (.var 5) (.cst .non)) (.cons (.and (.cmp .eq (.var 3) (.cst (.str "tests"))) (.cmp .eq (.var 2) (.cst (.int 0)))) .nil)))))
  (.cons (.ret (.var 12))
  .nil)))))
/-- 15 _law_sides [plan, name, side] -/
def b__law_sides : Ss :=
  (.cons (.ret (.lc [2] (.one 2) .range1 (.cons (.bcl .len (.cons (.idx (.idx (.idx (.var 0) (.cst (.str "places"))) (.var 1)) (.cst (.int 4))) .nil)) .nil) .yes (.fcl 14 (.cons (.var 0) (.cons (.var 1) (.cons (.var 2) .nil))))))
  .nil)
/-- 16 _law_walk [pen, plan, most, found, name, turn] -/
def b__law_walk : Ss :=
  (.cons (.par 3 4 (.lst .nil) (.cst (.str "go")))
  (.cons (.for (.one 5) .range1 (.cons (.fcl 10 (.cons (.var 0) (.cons (.bin .add (.var 2) (.cst (.int 1))) .nil))) .nil) (.cons (.ife (.val (.cmp .notN (.var 4) (.cst .non))) (.cons (.exp (.mcl .append (.var 3) (.fcl 11 (.cons (.var 0) (.cons (.fcl 15 (.cons (.var 1) (.cons (.var 4) .nil))) .nil)))))
  (.cons (.set 4 (.idx (.idx (.var 3) (.neg (.cst (.int 1)))) (.cst (.str "to"))))
  .nil)) .nil)
  .nil))
  (.cons (.ret (.var 3))
  .nil)))
/-- 17 _law_outputs [pen, plan, found, move, number] -/
def b__law_outputs : Ss :=
  (.cons (.set 2 (.lst .nil))
  (.cons (.for (.one 3) .seq (.cons (.fcl 16 (.cons (.var 0) (.cons (.var 1) (.cons (.cst (.int 7)) .nil)))) .nil) (.cons (.set 4 (.fcl 11 (.cons (.var 0) (.cons (.lst (.cons (.cst (.int 0)) (.cons (.neg (.cst (.int 1))) (.cons (.cst (.int 12)) (.cons (.bin .pow (.cst (.int 10)) (.cst (.int 40))) (.cons (.neg (.bin .pow (.cst (.int 10)) (.cst (.int 40)))) (.cons (.bin .sub (.fcl 10 (.cons (.var 0) (.cons (.cst (.int 1000)) .nil))) (.cst (.int 500))) .nil))))))) .nil))))
  (.cons (.exp (.mcl .append (.var 2) (.ife (.val (.cmp .eq (.idx (.var 3) (.cst (.str "tell"))) (.cst (.int 0)))) (.idx (.var 3) (.cst (.str "word"))) (.tup (.cons (.idx (.var 3) (.cst (.str "word"))) (.cons (.var 4) .nil))))))
  .nil)))
  (.cons (.ret (.var 2))
  .nil)))
/-- 18 _law_is_output_word [word, parts, head, body, sign] -/
def b__law_is_output_word : Ss :=
  (.cons (.set 1 (.mcl .split (.var 0) (.cst (.str "="))))
  (.cons (.set 2 (.mcl .join (.cst (.str "=")) (.slc (.var 1) (.cons (.cst (.int 1)) .nil) .nil)))
  (.cons (.ife (.or (.not (.val (.chn .le .le (.cst (.int 1)) (.bcl .len (.cons (.idx (.var 1) (.cst (.int 0))) .nil)) (.cst (.int 8))))) (.val (.cmp .ne (.lc [4] (.one 4) .seq (.cons (.idx (.var 1) (.cst (.int 0))) .nil) (.val (.cmp .notIn (.var 4) (.cst (.str "abcdefghijklmnopqrstuvwxyz")))) (.var 4)) (.lst .nil)))) (.cons (.ret (.cst (.bl false)))
  .nil) .nil)
  (.cons (.set 3 (.ife (.val (.cmp .eq (.slc (.var 2) .nil (.cons (.cst (.int 1)) .nil)) (.cst (.str "-")))) (.slc (.var 2) (.cons (.cst (.int 1)) .nil) .nil) (.var 2)))
  (.cons (.ife (.val (.cmp .eq (.bcl .len (.cons (.var 1) .nil)) (.cst (.int 1)))) (.cons (.ret (.cst (.bl true)))
  .nil) .nil)
  (.cons (.ret (.and (.chn .le .le (.cst (.int 1)) (.bcl .len (.cons (.var 3) .nil)) (.cst (.int 4000))) (.and (.cmp .eq (.lc [4] (.one 4) .seq (.cons (.var 3) .nil) (.val (.cmp .notIn (.var 4) (.cst (.str "0123456789")))) (.var 4)) (.lst .nil)) (.or (.cmp .ne (.idx (.var 3) (.cst (.int 0))) (.cst (.str "0"))) (.cmp .eq (.var 2) (.cst (.str "0")))))))
  .nil))))))
/-- 19 _law_fault [words, bad, spot, word] -/
def b__law_fault : Ss :=
  (.cons (.ife (.val (.cmp .eq (.idx (.var 0) (.cst (.int 0))) (.cst (.str "-")))) (.cons (.ret (.ife (.val (.cmp .gt (.bcl .len (.cons (.var 0) .nil)) (.cst (.int 1)))) (.cst (.int 1)) (.cst .non)))
  .nil) .nil)
  (.cons (.set 1 (.lc [2, 3] (.two 2 3) .enum (.cons (.var 0) .nil) (.not (.val (.fcl 18 (.cons (.var 3) .nil)))) (.var 2)))
  (.cons (.ret (.ife (.val (.cmp .ne (.var 1) (.lst .nil))) (.idx (.var 1) (.cst (.int 0))) (.cst .non)))
  .nil)))
/-- 20 _law_heard [ask, found, caught, error] -/
def b__law_heard : Ss :=
  (.cons (.unp [1, 2] (.tup (.cons (.cst .non) (.cons (.cst .non) .nil))))
  (.cons (.try 1 (.ask 0) 0 2 3)
  (.cons (.ife (.val (.cmp .isN (.var 2) (.cst .non))) (.cons (.ret (.lst (.cons (.var 1) .nil)))
  .nil) .nil)
  (.cons (.ife (.val (.isi [(.cls 2)] (.var 2))) (.cons (.ret (.tup (.cons (.cst (.str "text")) (.cons (.att "line" (.var 2)) (.cons (.att "word" (.var 2)) .nil)))))
  .nil) .nil)
  (.cons (.ret (.ife (.val (.isi [(.cls 1)] (.var 2))) (.tup (.cons (.cst (.str "row")) (.cons (.att "at" (.var 2)) .nil))) (.tup (.cons (.cst (.str "odd")) .nil))))
  .nil)))))
/-- 21 law [script, turn, words, text, lists, lap, some, spot, odd, due, heard, bad, far, later, pen, row, one] -/
def b_law : Ss :=
  (.cons (.set 14 (.fcl 9 (.cons (.var 0) .nil)))
  (.cons (.for (.one 1) .range1 (.cons (.cst (.int 5)) .nil) (.cons (.set 15 (.bin .add (.fcl 17 (.cons (.var 14) (.cons (.fcl 13 (.cons (.var 14) (.cons (.cst (.int 3)) .nil))) .nil))) (.fcl 11 (.cons (.var 14) (.cons (.lst (.cons (.lst .nil) (.cons (.lst (.cons (.tup (.cons (.cst (.str "a")) (.cons (.cst (.int 0)) .nil))) .nil)) (.cons (.lst (.cons (.cst (.str "abcdefgh")) .nil)) .nil)))) .nil)))))
  (.cons (.set 2 (.lc [16] (.one 16) .seq (.cons (.var 15) .nil) .yes (.ife (.val (.isi [(.bi "str")] (.var 16))) (.var 16) (.bin .add (.bin .add (.idx (.var 16) (.cst (.int 0))) (.cst (.str "="))) (.bcl .str (.cons (.idx (.var 16) (.cst (.int 1))) .nil))))))
  (.cons (.set 3 (.ife (.val (.cmp .ne (.var 2) (.lst .nil))) (.mcl .join (.cst (.str " ")) (.var 2)) (.cst (.str "-"))))
  (.cons (.set 4 (.lc [16] (.one 16) .seq (.cons (.var 15) .nil) .yes (.ife (.val (.isi [(.bi "str")] (.var 16))) (.var 16) (.bcl .list (.cons (.var 16) .nil)))))
  (.cons (.ife (.or (.val (.cmp .ne (.bcl .repr (.cons (.fcl 5 (.cons (.var 15) .nil)) .nil)) (.bcl .repr (.cons (.var 3) .nil)))) (.or (.val (.cmp .ne (.fcl 5 (.cons (.bcl .tuple (.cons (.var 4) .nil)) .nil)) (.var 3))) (.or (.val (.cmp .ne (.lc [16] (.one 16) .seq (.cons (.var 15) .nil) .yes (.fcl 4 (.cons (.var 16) .nil))) (.var 2))) (.val (.cmp .ne (.fcl 5 (.cons (.var 4) .nil)) (.var 3)))))) (.cons (.ret (.cst (.bl false)))
  .nil) .nil)
  (.cons (.ife (.or (.val (.cmp .ne (.bcl .repr (.cons (.fcl 8 (.cons (.var 3) .nil)) .nil)) (.bcl .repr (.cons (.bcl .tuple (.cons (.var 15) .nil)) .nil)))) (.val (.cmp .ne (.fcl 8 (.cons (.var 3) .nil)) (.bcl .tuple (.cons (.var 15) .nil))))) (.cons (.ret (.cst (.bl false)))
  .nil) .nil)
  (.cons (.for (.one 5) .range1 (.cons (.cst (.int 6)) .nil) (.cons (.set 6 (.mcl .split (.var 3) (.cst (.str " "))))
  (.cons (.set 7 (.fcl 10 (.cons (.var 14) (.cons (.bcl .len (.cons (.var 6) .nil)) .nil))))
  (.cons (.set 8 (.fcl 11 (.cons (.var 14) (.cons (.lst (.cons (.cst (.str "")) (.cons (.cst (.str "-")) (.cons (.cst (.str "a=")) (.cons (.cst (.str "=1")) (.cons (.cst (.str "a=01")) (.cons (.cst (.str "a=-0")) (.cons (.cst (.str "a=1=2")) (.cons (.cst (.str "A")) (.cons (.cst (.str "a1")) (.cons (.cst (.str "abcdefghi")) (.cons (.cst (.str "a=+1")) (.cons (.cst (.str "no")) (.cons (.cst (.str "yes=-3")) (.cons (.bin .add (.cst (.str "a=")) (.bin .mul (.cst (.str "1")) (.cst (.int 30)))) .nil))))))))))))))) .nil))))
  (.cons (.set 13 (.fcl 11 (.cons (.var 14) (.cons (.lst (.cons (.bin .add (.bin .add (.slc (.var 6) .nil (.cons (.var 7) .nil)) (.lst (.cons (.var 8) .nil))) (.slc (.var 6) (.cons (.bin .add (.var 7) (.cst (.int 1))) .nil) .nil)) (.cons (.bin .add (.bin .add (.slc (.var 6) .nil (.cons (.var 7) .nil)) (.lst (.cons (.var 8) .nil))) (.slc (.var 6) (.cons (.var 7) .nil) .nil)) (.cons (.bin .add (.var 6) (.lst (.cons (.var 8) .nil))) .nil)))) .nil))))
  (.cons (.par 9 10 (.fcl 19 (.cons (.var 13) .nil)) (.hcl 20 (.fcl 8 (.cons (.mcl .join (.cst (.str " ")) (.var 13)) .nil))))
  (.cons (.ife (.or (.and (.val (.cmp .notN (.var 9) (.cst .non))) (.val (.cmp .ne (.var 10) (.tup (.cons (.cst (.str "text")) (.cons (.cst (.int 0)) (.cons (.var 9) .nil))))))) (.and (.val (.cmp .isN (.var 9) (.cst .non))) (.or (.not (.val (.isi [(.bi "list")] (.var 10)))) (.val (.cmp .ne (.fcl 5 (.cons (.idx (.var 10) (.cst (.int 0))) .nil)) (.mcl .join (.cst (.str " ")) (.var 13))))))) (.cons (.ret (.cst (.bl false)))
  .nil) .nil)
  .nil)))))))
  (.cons (.set 11 (.fcl 11 (.cons (.var 14) (.cons (.lst (.cons (.cst (.int 5)) (.cons (.cst .non) (.cons (.tup (.cons (.cst (.str "a")) (.cons (.cst (.bl true)) .nil))) (.cons (.tup (.cons (.cst (.str "a")) .nil)) (.cons (.tup (.cons (.cst (.str "A")) (.cons (.cst (.int 1)) .nil))) (.cons (.cst (.str "A")) (.cons (.cst (.str "")) (.cons (.tup (.cons (.cst (.str "a")) (.cons (.cst (.str "1")) .nil))) (.cons (.tup (.cons (.cst (.str "a")) (.cons (.cst (.int 1)) (.cons (.cst (.int 2)) .nil)))) .nil)))))))))) .nil))))
  (.cons (.set 10 (.lst (.cons (.hcl 20 (.fcl 5 (.cons (.bin .add (.bin .add (.var 15) (.lst (.cons (.var 11) .nil))) (.lst (.cons (.cst (.str "A")) .nil))) .nil))) (.cons (.hcl 20 (.fcl 5 (.cons (.fcl 11 (.cons (.var 14) (.cons (.lst (.cons (.cst .non) (.cons (.cst (.int 5)) (.cons (.cst (.str "no")) (.cons (.dct [] .nil) .nil))))) .nil))) .nil))) (.cons (.hcl 20 (.fcl 8 (.cons (.fcl 11 (.cons (.var 14) (.cons (.lst (.cons (.cst .non) (.cons (.cst (.int 5)) (.cons (.tup (.cons (.cst (.str "no")) .nil)) (.cons (.lst (.cons (.cst (.str "no")) .nil)) .nil))))) .nil))) .nil))) .nil)))))
  (.cons (.ife (.val (.cmp .ne (.var 10) (.lst (.cons (.tup (.cons (.cst (.str "row")) (.cons (.bcl .len (.cons (.var 15) .nil)) .nil))) (.cons (.tup (.cons (.cst (.str "row")) (.cons (.cst .non) .nil))) (.cons (.tup (.cons (.cst (.str "text")) (.cons (.cst (.int 0)) (.cons (.cst (.int 0)) .nil)))) .nil)))))) (.cons (.ret (.cst (.bl false)))
  .nil) .nil)
  .nil)))))))))))
  (.cons (.set 12 (.bin .add (.cst (.str "a=")) (.bin .mul (.cst (.str "1")) (.bin .add (.cst (.int 4000)) (.fcl 10 (.cons (.var 14) (.cons (.cst (.int 2)) .nil)))))))
  (.cons (.set 10 (.hcl 20 (.fcl 8 (.cons (.bin .add (.cst (.str "no ")) (.var 12)) .nil))))
  (.cons (.ret (.ife (.val (.cmp .gt (.bcl .len (.cons (.var 12) .nil)) (.cst (.int 4002)))) (.cmp .eq (.var 10) (.tup (.cons (.cst (.str "text")) (.cons (.cst (.int 0)) (.cons (.cst (.int 1)) .nil))))) (.and (.isi [(.bi "list")] (.var 10)) (.cmp .eq (.bin .mod (.idx (.idx (.idx (.var 10) (.cst (.int 0))) (.cst (.int 1))) (.cst (.int 1))) (.cst (.int 1000))) (.cst (.int 111))))))
  .nil)))))

end K82
end Mini
end
section
set_option Elab.async false
set_option linter.all false
set_option maxRecDepth 100000
set_option maxHeartbeats 0
/-! k82: the head. -/
namespace Mini
namespace K82
open PySem PySem.Spec PyProof.Rows L2
abbrev R : PySem.W.OpenRow := PySem.W.OpenLaw.row PySem.Challenge.rw_leastprice_k82_whole_texts_of_rows
def top (i : Nat) : Stmt := PySem.Challenge.pw_leastprice_k82_whole_texts_of_rows.main.body.getD i (.Pass ⟨0, 0, 0, 0⟩)
def d_is_integer : De := ⟨top 7, "is_integer", [("value" : Str)], false, b_is_integer⟩
def d_is_name : De := ⟨top 8, "is_name", [("value" : Str), ("letter" : Str)], false, b_is_name⟩
def d_is_output : De := ⟨top 10, "is_output", [("value" : Str)], false, b_is_output⟩
def d_need_row : De := ⟨top 11, "need_row", [("row" : Str), ("at" : Str), ("output" : Str)], false, b_need_row⟩
def d_output_text : De := ⟨top 14, "output_text", [("output" : Str)], false, b_output_text⟩
def d_row_text : De := ⟨top 15, "row_text", [("row" : Str), ("told" : Str), ("output" : Str)], false, b_row_text⟩
def d_integer_of : De := ⟨top 20, "integer_of", [("word" : Str), ("body" : Str), ("sign" : Str)], false, b_integer_of⟩
def d_read_output : De := ⟨top 21, "read_output", [("word" : Str), ("name" : Str), ("sign" : Str), ("number" : Str)], false, b_read_output⟩
def d_read_row : De := ⟨top 22, "read_row", [("text" : Str), ("words" : Str), ("found" : Str), ("at" : Str), ("word" : Str), ("output" : Str)], false, b_read_row⟩
def d__law_pen : De := ⟨top 24, "_law_pen", [("script" : Str), ("cell" : Str)], true, b__law_pen⟩
def d__law_draw : De := ⟨top 25, "_law_draw", [("pen" : Str), ("many" : Str), ("digit" : Str), ("spot" : Str), ("cell" : Str), ("great" : Str), ("mixed" : Str)], false, b__law_draw⟩
def d__law_pick : De := ⟨top 26, "_law_pick", [("pen" : Str), ("some" : Str)], false, b__law_pick⟩
def d__law_row : De := ⟨top 27, "_law_row", [("pen" : Str), ("word" : Str), ("goals" : Str), ("bars" : Str), ("keep" : Str), ("tell" : Str)], false, b__law_row⟩
def d__law_plan : De := ⟨top 28, "_law_plan", [("pen" : Str), ("most" : Str), ("bars" : Str), ("places" : Str), ("names" : Str), ("goals" : Str), ("name" : Str), ("strength" : Str), ("way" : Str), ("bar" : Str), ("rows" : Str)], false, b__law_plan⟩
def d__law_move : De := ⟨top 29, "_law_move", [("plan" : Str), ("name" : Str), ("side" : Str), ("kind" : Str), ("strength" : Str), ("bar" : Str), ("number" : Str), ("rows" : Str), ("word" : Str), ("goes" : Str), ("keep" : Str), ("tell" : Str), ("found" : Str)], false, b__law_move⟩
def d__law_sides : De := ⟨top 30, "_law_sides", [("plan" : Str), ("name" : Str), ("side" : Str)], false, b__law_sides⟩
def d__law_walk : De := ⟨top 31, "_law_walk", [("pen" : Str), ("plan" : Str), ("most" : Str), ("found" : Str), ("name" : Str), ("turn" : Str)], false, b__law_walk⟩
def d__law_outputs : De := ⟨top 32, "_law_outputs", [("pen" : Str), ("plan" : Str), ("found" : Str), ("move" : Str), ("number" : Str)], false, b__law_outputs⟩
def d__law_is_output_word : De := ⟨top 33, "_law_is_output_word", [("word" : Str), ("parts" : Str), ("head" : Str), ("body" : Str), ("sign" : Str)], false, b__law_is_output_word⟩
def d__law_fault : De := ⟨top 34, "_law_fault", [("words" : Str), ("bad" : Str), ("spot" : Str), ("word" : Str)], false, b__law_fault⟩
def d__law_heard : De := ⟨top 35, "_law_heard", [("ask" : Str), ("found" : Str), ("caught" : Str), ("error" : Str)], false, b__law_heard⟩
def d_law : De := ⟨top 36, "law", [("script" : Str), ("turn" : Str), ("words" : Str), ("text" : Str), ("lists" : Str), ("lap" : Str), ("some" : Str), ("spot" : Str), ("odd" : Str), ("due" : Str), ("heard" : Str), ("bad" : Str), ("far" : Str), ("later" : Str), ("pen" : Str), ("row" : Str), ("one" : Str)], false, b_law⟩
def dsL : List De := [d_is_integer, d_is_name, d_is_output, d_need_row, d_output_text, d_row_text, d_integer_of, d_read_output, d_read_row, d__law_pen, d__law_draw, d__law_pick, d__law_row, d__law_plan, d__law_move, d__law_sides, d__law_walk, d__law_outputs, d__law_is_output_word, d__law_fault, d__law_heard, d_law]
def fnL : List (Str × G) := [("is_integer", .fn 0 ["value"]), ("is_name", .fn 1 ["value"]), ("is_output", .fn 2 ["value"]), ("need_row", .fn 3 ["row"]), ("output_text", .fn 4 ["output"]), ("row_text", .fn 5 ["row"]), ("integer_of", .fn 6 ["word"]), ("read_output", .fn 7 ["word"]), ("read_row", .fn 8 ["text"]), ("_law_pen", .fn 9 ["script"]), ("_law_draw", .fn 10 ["pen", "many"]), ("_law_pick", .fn 11 ["pen", "some"]), ("_law_row", .fn 12 ["pen", "word", "goals", "bars"]), ("_law_plan", .fn 13 ["pen", "most"]), ("_law_move", .fn 14 ["plan", "name", "side"]), ("_law_sides", .fn 15 ["plan", "name"]), ("_law_walk", .fn 16 ["pen", "plan", "most"]), ("_law_outputs", .fn 17 ["pen", "plan"]), ("_law_is_output_word", .fn 18 ["word"]), ("_law_fault", .fn 19 ["words"])]

def nmL : List (Str × G) := [("isinstance", .blt), ("bool", .blt), ("int", .blt), ("str", .blt), ("tuple", .blt), ("list", .blt), ("dict", .blt), ("len", .blt), ("abs", .blt), ("repr", .blt), ("all", .blt), ("range", .blt), ("enumerate", .blt), ("FilterError", .cls 0), ("BadRow", .cls 1), ("BadText", .cls 2),
    ("LETTERS", .cst (.str "abcdefghijklmnopqrstuvwxyz")), ("MOST_LETTERS", .cst (.int 8)), ("NOTHING_texts", .cst (.str "-")), ("NOTHING_reader", .cst (.str "-")), ("DIGITS", .cst (.str "0123456789")), ("LONGEST", .cst (.int 4000))]
def hs : HS where
  names := nmL ++ fnL
  ds := dsL
  cn := [("FilterError", true, []), ("BadRow", true, ["at"]), ("BadText", true, ["line", "word"])]
  sub := [(0, 0), (1, 0), (1, 1), (2, 0), (2, 2)]
  ats := ["at", "line", "word"]
theorem c_0 : cSL (cS 60 (kxOf d_is_integer.N (defScope d_is_integer.st) hs.gl hs.atB) hs.rs 20) (defBody d_is_integer.st) = some d_is_integer.body := by kernel_rfl
theorem c_1 : cSL (cS 60 (kxOf d_is_name.N (defScope d_is_name.st) hs.gl hs.atB) hs.rs 20) (defBody d_is_name.st) = some d_is_name.body := by kernel_rfl
theorem c_2 : cSL (cS 60 (kxOf d_is_output.N (defScope d_is_output.st) hs.gl hs.atB) hs.rs 20) (defBody d_is_output.st) = some d_is_output.body := by kernel_rfl
theorem c_3 : cSL (cS 60 (kxOf d_need_row.N (defScope d_need_row.st) hs.gl hs.atB) hs.rs 20) (defBody d_need_row.st) = some d_need_row.body := by kernel_rfl
theorem c_4 : cSL (cS 60 (kxOf d_output_text.N (defScope d_output_text.st) hs.gl hs.atB) hs.rs 20) (defBody d_output_text.st) = some d_output_text.body := by kernel_rfl
theorem c_5 : cSL (cS 60 (kxOf d_row_text.N (defScope d_row_text.st) hs.gl hs.atB) hs.rs 20) (defBody d_row_text.st) = some d_row_text.body := by kernel_rfl
theorem c_6 : cSL (cS 60 (kxOf d_integer_of.N (defScope d_integer_of.st) hs.gl hs.atB) hs.rs 20) (defBody d_integer_of.st) = some d_integer_of.body := by kernel_rfl
theorem c_7 : cSL (cS 60 (kxOf d_read_output.N (defScope d_read_output.st) hs.gl hs.atB) hs.rs 20) (defBody d_read_output.st) = some d_read_output.body := by kernel_rfl
theorem c_8 : cSL (cS 60 (kxOf d_read_row.N (defScope d_read_row.st) hs.gl hs.atB) hs.rs 20) (defBody d_read_row.st) = some d_read_row.body := by kernel_rfl
theorem c_9 : cSL (cS 60 (kxOf d__law_pen.N (defScope d__law_pen.st) hs.gl hs.atB) hs.rs 20) (defBody d__law_pen.st) = some d__law_pen.body := by kernel_rfl
theorem c_10 : cSL (cS 60 (kxOf d__law_draw.N (defScope d__law_draw.st) hs.gl hs.atB) hs.rs 20) (defBody d__law_draw.st) = some d__law_draw.body := by kernel_rfl
theorem c_11 : cSL (cS 60 (kxOf d__law_pick.N (defScope d__law_pick.st) hs.gl hs.atB) hs.rs 20) (defBody d__law_pick.st) = some d__law_pick.body := by kernel_rfl
theorem c_12 : cSL (cS 60 (kxOf d__law_row.N (defScope d__law_row.st) hs.gl hs.atB) hs.rs 20) (defBody d__law_row.st) = some d__law_row.body := by kernel_rfl
theorem c_13 : cSL (cS 60 (kxOf d__law_plan.N (defScope d__law_plan.st) hs.gl hs.atB) hs.rs 20) (defBody d__law_plan.st) = some d__law_plan.body := by kernel_rfl
theorem c_14 : cSL (cS 60 (kxOf d__law_move.N (defScope d__law_move.st) hs.gl hs.atB) hs.rs 20) (defBody d__law_move.st) = some d__law_move.body := by kernel_rfl
theorem c_15 : cSL (cS 60 (kxOf d__law_sides.N (defScope d__law_sides.st) hs.gl hs.atB) hs.rs 20) (defBody d__law_sides.st) = some d__law_sides.body := by kernel_rfl
theorem c_16 : cSL (cS 60 (kxOf d__law_walk.N (defScope d__law_walk.st) hs.gl hs.atB) hs.rs 20) (defBody d__law_walk.st) = some d__law_walk.body := by kernel_rfl
theorem c_17 : cSL (cS 60 (kxOf d__law_outputs.N (defScope d__law_outputs.st) hs.gl hs.atB) hs.rs 20) (defBody d__law_outputs.st) = some d__law_outputs.body := by kernel_rfl
theorem c_18 : cSL (cS 60 (kxOf d__law_is_output_word.N (defScope d__law_is_output_word.st) hs.gl hs.atB) hs.rs 20) (defBody d__law_is_output_word.st) = some d__law_is_output_word.body := by kernel_rfl
theorem c_19 : cSL (cS 60 (kxOf d__law_fault.N (defScope d__law_fault.st) hs.gl hs.atB) hs.rs 20) (defBody d__law_fault.st) = some d__law_fault.body := by kernel_rfl
theorem few : hs.names.all (fun p => match p.2 with | .fn g _ => decide (g < 20) | _ => true) = true := by decide +kernel
theorem texts : TextsOk hs d_law d__law_heard 20 60 20 where
  St := by decide +kernel
  C := fun i d e ⟨x, ps, q⟩ => by
    have hi : i < 20 := by
      have w := List.all_eq_true.mp few _ (hs.gl_mem q fun z => nomatch z)
      exact of_decide_eq_true w
    match i, e, hi with
    | 0, e, _ => exact (Option.some.inj (show some d_is_integer = some d from e)) ▸ c_0
    | 1, e, _ => exact (Option.some.inj (show some d_is_name = some d from e)) ▸ c_1
    | 2, e, _ => exact (Option.some.inj (show some d_is_output = some d from e)) ▸ c_2
    | 3, e, _ => exact (Option.some.inj (show some d_need_row = some d from e)) ▸ c_3
    | 4, e, _ => exact (Option.some.inj (show some d_output_text = some d from e)) ▸ c_4
    | 5, e, _ => exact (Option.some.inj (show some d_row_text = some d from e)) ▸ c_5
    | 6, e, _ => exact (Option.some.inj (show some d_integer_of = some d from e)) ▸ c_6
    | 7, e, _ => exact (Option.some.inj (show some d_read_output = some d from e)) ▸ c_7
    | 8, e, _ => exact (Option.some.inj (show some d_read_row = some d from e)) ▸ c_8
    | 9, e, _ => exact (Option.some.inj (show some d__law_pen = some d from e)) ▸ c_9
    | 10, e, _ => exact (Option.some.inj (show some d__law_draw = some d from e)) ▸ c_10
    | 11, e, _ => exact (Option.some.inj (show some d__law_pick = some d from e)) ▸ c_11
    | 12, e, _ => exact (Option.some.inj (show some d__law_row = some d from e)) ▸ c_12
    | 13, e, _ => exact (Option.some.inj (show some d__law_plan = some d from e)) ▸ c_13
    | 14, e, _ => exact (Option.some.inj (show some d__law_move = some d from e)) ▸ c_14
    | 15, e, _ => exact (Option.some.inj (show some d__law_sides = some d from e)) ▸ c_15
    | 16, e, _ => exact (Option.some.inj (show some d__law_walk = some d from e)) ▸ c_16
    | 17, e, _ => exact (Option.some.inj (show some d__law_outputs = some d from e)) ▸ c_17
    | 18, e, _ => exact (Option.some.inj (show some d__law_is_output_word = some d from e)) ▸ c_18
    | 19, e, _ => exact (Option.some.inj (show some d__law_fault = some d from e)) ▸ c_19
    | k + 20, e, hi => exact absurd hi (by omega)
  CL := by kernel_rfl
  CH := by kernel_rfl
  okL := by decide +kernel
  okH := by decide +kernel
  psL := by kernel_rfl
  psH := by kernel_rfl
  kH := rfl
  glH := by decide +kernel
  vaH := by decide +kernel
  dbH := by decide +kernel
abbrev hk : PySem.W.Hook := hookM 6 hs PySem.Challenge.rw_leastprice_k82_whole_texts_of_rows.prog "law" "_law_heard"
def ob (s : PySem.W.SharedT) : He.AlD × Bool := obsM 6 hs PySem.Challenge.rw_leastprice_k82_whole_texts_of_rows.prog "law" "_law_heard" (HandSHeadRun.getT s)
theorem ob_eq (s : PySem.W.SharedT) : ob s = hk.obs s.abs := obsM_eq (HandSHeadRun.getT_eq s)
def nameOf : Stmt → Str
  | .FunctionDef n _ _ _ _ _ _ _ _ _ => n
  | .ClassDef n .. => n
  | .Assign [.Name n _] _ _ => if n == ("__name__" : Str) then "?" else n
  | _ => "?"
def other : List Str := (PySem.Challenge.pw_leastprice_k82_whole_texts_of_rows.main.body.map nameOf).filter fun x => !(x == ("law" : Str)) && !(x == ("?" : Str))
theorem run82 (w : World) : HandSHeadRun.RunEq R (PySem.W.view R.prog [36]) hk ob 4000 other w := by
  intro os
  kernel_rfl
end K82
end Mini
open PySem PySem.W PySem.Calls PyProof.Rows in
theorem Mini.K82.finale (hrun : Mini.RunOk Mini.K82.hs Mini.K82.d_law 60) : PySem.Challenge.rw_leastprice_k82_whole_texts_of_rows.Holds := by
  w_on; o_law
  refine HandSHeadRun.head_any (r := OpenLaw.row PySem.Challenge.rw_leastprice_k82_whole_texts_of_rows) (q := view (OpenLaw.row PySem.Challenge.rw_leastprice_k82_whole_texts_of_rows).prog [36]) (H := Mini.K82.hk) (ob := Mini.K82.ob) (M := 4000) (loose := Mini.K82.other) (d := HandSHeadRun.topDef (OpenLaw.row PySem.Challenge.rw_leastprice_k82_whole_texts_of_rows).prog 36) (kwd := []) Mini.K82.ob_eq
    (by kernel_rfl) (fun s => by kernel_rfl) Mini.K82.run82 (by kernel_rfl) (by kernel_rfl) (by kernel_rfl) (by rfl) (by first | assumption | decide +kernel) (by decide +kernel) ⟨rfl, rfl, rfl, rfl, rfl, by decide +kernel⟩ ?hw ?hc
  case hw => w_witness2
  case hc =>
    exact Mini.walkM (n := 6) (kn := 60) (nL := 21) (gH := 20) (le := 60) (ls := 20) (h := Mini.K82.hs) (l := PySem.Challenge.rw_leastprice_k82_whole_texts_of_rows) (law := Mini.K82.d_law) (heard := Mini.K82.d__law_heard) rfl (by kernel_rfl) (by kernel_rfl) rfl rfl Mini.K82.texts ⟨rfl, by decide, by decide⟩ hrun
end
section
set_option Elab.async false
set_option linter.all false
set_option maxRecDepth 100000
set_option maxHeartbeats 2000000
/-! Plain, part 2: closed heaps, what leaves a def, calls, operators. -/
namespace Mini
open PySem L2
/-! ### lists of looks -/
theorem mapO_consP {α β : Type} {f : α → Option β} {x : α} {xs : List α} {y : β} {ys : List β} (h1 : f x = some y) (h2 : mapO f xs = some ys) : mapO f (x :: xs) = some (y :: ys) := by
  unfold mapO
  rw [h1, h2]
theorem mapO_of {α β : Type} {f : α → Option β} : ∀ {xs : List α} {g : α → β}, (∀ x ∈ xs, f x = some (g x)) → mapO f xs = some (xs.map g)
  | [], g, h => rfl
  | x :: xs, g, h => mapO_consP (h x List.mem_cons_self) (mapO_of fun y hy => h y (List.mem_cons_of_mem _ hy))
theorem mapO_inv {α β : Type} {f : α → Option β} : ∀ {xs : List α} {ys : List β}, mapO f xs = some ys → ∀ x ∈ xs, ∃ y ∈ ys, f x = some y
  | [], ys, h, x, hx => nomatch hx
  | x :: xs, ys, h, z, hz => by
    unfold mapO at h
    split at h
    · rename_i y ys' h1 h2
      cases h
      rcases List.mem_cons.mp hz with rfl | hz
      · exact ⟨y, List.mem_cons_self, h1⟩
      · obtain ⟨w, hw, e⟩ := mapO_inv h2 z hz
        exact ⟨w, List.mem_cons_of_mem _ hw, e⟩
    · cases h
theorem mapO_imp {α β : Type} {f g : α → Option β} : ∀ {xs : List α} {ys : List β}, mapO f xs = some ys → (∀ x ∈ xs, ∀ y ∈ ys, f x = some y → g x = some y) → mapO g xs = some ys
  | [], ys, h, _ => h
  | x :: xs, ys, h, k => by
    unfold mapO at h
    split at h
    · rename_i y ys' h1 h2
      cases h
      exact mapO_consP (k x List.mem_cons_self y List.mem_cons_self h1) (mapO_imp h2 fun z hz w hw => k z (List.mem_cons_of_mem _ hz) w (List.mem_cons_of_mem _ hw))
    · cases h
/-! ### trees -/
mutual
def tr : Nat → VV → Bool
  | 0, _ => false
  | n + 1, v => match v with
    | .ref _ => false
    | .lam => false
    | .tup xs => trL n xs
    | .lst xs => trL n xs
    | .dic _ vs => trL n vs
    | .ins _ _ vs => trL n vs
    | .exc _ _ vs => trL n vs
    | _ => true
def trL : Nat → List VV → Bool
  | _, [] => true
  | n, x :: xs => tr n x && trL n xs
end
theorem trL_all {n : Nat} : ∀ {xs : List VV}, trL n xs = true ↔ ∀ x ∈ xs, tr n x = true
  | [] => by
    unfold trL
    simp
  | x :: xs => by
    unfold trL
    rw [Bool.and_eq_true, trL_all]
    simp
theorem tr_succ : ∀ {n : Nat} {v : VV}, tr n v = true → tr (n + 1) v = true
  | 0, v, h => by unfold tr at h; cases h
  | n + 1, v, h => by
    unfold tr at h ⊢
    cases v with
    | tup xs => exact trL_all.mpr fun x hx => tr_succ (trL_all.mp h x hx)
    | lst xs => exact trL_all.mpr fun x hx => tr_succ (trL_all.mp h x hx)
    | dic ks xs => exact trL_all.mpr fun x hx => tr_succ (trL_all.mp h x hx)
    | ins c ns xs => exact trL_all.mpr fun x hx => tr_succ (trL_all.mp h x hx)
    | exc c ns xs => exact trL_all.mpr fun x hx => tr_succ (trL_all.mp h x hx)
    | _ => first | exact h | rfl
theorem tr_le {n m : Nat} {v : VV} (h : tr n v = true) (l : n ≤ m) : tr m v = true := by
  induction l with
  | refl => exact h
  | step _ ih => exact tr_succ ih
theorem frz_tr {n0 : Nat} {h : VH} : ∀ {n : Nat} {v : VV}, tr n v = true → frz n0 n h v = some v
  | 0, v, q => by unfold tr at q; cases q
  | n + 1, v, q => by
    have key : ∀ xs : List VV, trL n xs = true → mapO (frz n0 n h) xs = some xs := fun xs w => by
      have := mapO_of (f := frz n0 n h) (xs := xs) (g := id) fun x hx => frz_tr (trL_all.mp w x hx)
      rwa [List.map_id] at this
    unfold tr at q
    unfold frz
    cases v with
    | tup xs => simp only [key xs q, Option.map]
    | lst xs => simp only [key xs q, Option.map]
    | dic ks xs => simp only [key xs q, Option.map]
    | ins c ns xs => simp only [key xs q, Option.map]
    | exc c ns xs => simp only [key xs q, Option.map]
    | ref k => cases q
    | lam => cases q
    | _ => rfl
mutual
theorem clo_tr {m : Nat} : ∀ {n : Nat} {v : VV}, tr n v = true → clo m v = true
  | 0, v, h => by unfold tr at h; cases h
  | n + 1, v, h => by
    unfold tr at h
    cases v with
    | tup xs => unfold clo; exact cloL_tr h
    | lst xs => unfold clo; exact cloL_tr h
    | dic ks xs => unfold clo; exact cloL_tr h
    | ins c ns xs => unfold clo; exact cloL_tr h
    | exc c ns xs => unfold clo; exact cloL_tr h
    | ref k => cases h
    | lam => cases h
    | non => unfold clo; rfl
    | bl b => unfold clo; rfl
    | int b => unfold clo; rfl
    | str b => unfold clo; rfl
    | glb b => unfold clo; rfl
theorem cloL_tr {m : Nat} : ∀ {n : Nat} {xs : List VV}, trL n xs = true → cloL m xs = true
  | n, [], h => by unfold cloL; rfl
  | n, x :: xs, h => by
    unfold trL at h
    unfold cloL
    rw [Bool.and_eq_true] at h ⊢
    exact ⟨clo_tr h.1, cloL_tr h.2⟩
end
theorem cloL_all {n : Nat} : ∀ {xs : List VV}, cloL n xs = true ↔ ∀ x ∈ xs, clo n x = true
  | [] => by
    unfold cloL
    simp
  | x :: xs => by
    unfold cloL
    rw [Bool.and_eq_true, cloL_all]
    simp
mutual
theorem clo_le {n m : Nat} (l : n ≤ m) : ∀ {v : VV}, clo n v = true → clo m v = true
  | .ref k, h => by
    unfold clo at h ⊢
    rw [Nat.blt_eq] at h ⊢
    omega
  | .lam, h => by unfold clo at h; cases h
  | .tup xs, h => by unfold clo at h ⊢; exact cloL_le l h
  | .lst xs, h => by unfold clo at h ⊢; exact cloL_le l h
  | .dic ks xs, h => by unfold clo at h ⊢; exact cloL_le l h
  | .ins c ns xs, h => by unfold clo at h ⊢; exact cloL_le l h
  | .exc c ns xs, h => by unfold clo at h ⊢; exact cloL_le l h
  | .non, h => by unfold clo; rfl
  | .bl b, h => by unfold clo; rfl
  | .int b, h => by unfold clo; rfl
  | .str b, h => by unfold clo; rfl
  | .glb b, h => by unfold clo; rfl
theorem cloL_le {n m : Nat} (l : n ≤ m) : ∀ {xs : List VV}, cloL n xs = true → cloL m xs = true
  | [], h => by unfold cloL; rfl
  | x :: xs, h => by
    unfold cloL at h ⊢
    rw [Bool.and_eq_true] at h ⊢
    exact ⟨clo_le l h.1, cloL_le l h.2⟩
end
theorem cloOb_le {n m : Nat} (l : n ≤ m) {o : Ob} (h : cloOb n o = true) : cloOb m o = true := by
  cases o <;> exact cloL_le l h
/-- all cells name cells that stand -/
def Clo (h : VH) : Prop := h.all (cloOb h.length) = true
theorem clo_nil : Clo [] := rfl
theorem Clo.at {h : VH} (c : Clo h) {k : Nat} {o : Ob} (e : h[k]? = some o) : cloOb h.length o = true := List.all_eq_true.mp c o (List.mem_of_getElem? e)
theorem Clo.snoc {h : VH} (c : Clo h) {o : Ob} (q : cloOb (h.length + 1) o = true) : Clo (h ++ [o]) := by
  unfold Clo
  rw [List.length_append, List.length_singleton, List.all_append, Bool.and_eq_true]
  refine ⟨List.all_eq_true.mpr fun x hx => cloOb_le (Nat.le_succ _) (List.all_eq_true.mp c x hx), by simp [q]⟩
theorem Clo.set {h : VH} (c : Clo h) {k : Nat} {o : Ob} (q : cloOb h.length o = true) : Clo (h.set k o) := by
  unfold Clo
  rw [List.length_set]
  refine List.all_eq_true.mpr fun x hx => ?_
  rcases List.mem_or_eq_of_mem_set hx with hx | rfl
  · exact List.all_eq_true.mp c x hx
  · exact q
/-! ### a def's end -/
theorem frz_fuel {n0 : Nat} {h : VH} : ∀ {n : Nat} {v t : VV}, frz n0 n h v = some t → frz n0 (n + 1) h v = some t
  | 0, v, t, q => by unfold frz at q; cases q
  | n + 1, v, t, q => by
    have key : ∀ (xs ts : List VV), mapO (frz n0 n h) xs = some ts → mapO (frz n0 (n + 1) h) xs = some ts := fun xs ts w => mapO_imp w fun x _ y _ e => frz_fuel e
    have key2 : ∀ (xs : List VV) (f : List VV → VV), (mapO (frz n0 n h) xs).map f = some t → (mapO (frz n0 (n + 1) h) xs).map f = some t := fun xs f w => by
      cases e : mapO (frz n0 n h) xs with
      | none => rw [e] at w; cases w
      | some ts => rw [e] at w; rw [key xs ts e]; exact w
    unfold frz at q
    unfold frz
    cases v with
    | ref k =>
      dsimp only at q ⊢
      split at q
      · rename_i c
        rw [if_pos c]
        exact q
      · rename_i c
        rw [if_neg c]
        cases hk : h[k]? with
        | none => rw [hk] at q; cases q
        | some o =>
          rw [hk] at q
          cases o with
          | lst xs => exact key2 _ _ q
          | dic ks vs => exact key2 _ _ q
          | ins c ns vs => exact key2 _ _ q
    | tup xs => exact key2 _ _ q
    | lst xs => exact key2 _ _ q
    | dic ks vs => exact key2 _ _ q
    | ins c ns vs => exact key2 _ _ q
    | exc c ns vs => exact key2 _ _ q
    | lam => exact q
    | _ => exact q
theorem frz_le {n0 : Nat} {h : VH} {n m : Nat} {v t : VV} (q : frz n0 n h v = some t) (l : n ≤ m) : frz n0 m h v = some t := by
  induction l with
  | refl => exact q
  | step _ ih => exact frz_fuel ih
section
variable {Q : VV → VH → Prop} {E : XP} {h1 l : VH} {n : Nat} {v t : VV}
theorem fin_wp (hl : h1.length = n) (c : Clo h1) (q : frz n 30 (h1 ++ l) v = some t) (w : Q t h1) : (fin false n v (h1 ++ l)).wp Q E := by
  subst hl
  unfold fin
  rw [if_neg Bool.false_ne_true, q]
  dsimp only
  rw [List.take_left]
  rw [if_pos (show h1.all (cloOb h1.length) = true from c)]
  exact w
/-- nothing was made -/
theorem fin_wp0 {h : VH} {m : Nat} (hl : h.length = n) (c : Clo h) (q : tr m v = true) (hm : m ≤ 30) (w : Q v h) : (fin false n v h).wp Q E := by
  have := fin_wp (Q := Q) (E := E) (l := []) hl c (by rw [List.append_nil]; exact frz_tr (tr_le q hm)) w
  rwa [List.append_nil] at this
theorem fin_wpT {h : VH} (w : Q v h) : (fin true n v h).wp Q E := w
theorem finX_wp {c : Nat} {ns : List Str} {vs ts : List VV} (hl : h1.length = n) (cl : Clo h1) (q : mapO (frz n 30 (h1 ++ l)) vs = some ts) (w : E c ns ts h1) : (finX c ns n vs (h1 ++ l)).wp Q E := by
  subst hl
  unfold finX
  rw [q]
  dsimp only
  rw [List.take_left]
  rw [if_pos (show h1.all (cloOb h1.length) = true from cl)]
  exact w
end
/-! ### a call -/
/-- what is wanted at a body's end -/
def endQ (k : Bool) (n : Nat) (Q : VV → VH → Prop) (E : XP) : Fl → VH → Prop := fun r h => match r with
  | .rt v => (fin k n v h).wp Q E
  | .nx _ => (fin k n .non h).wp Q E
  | _ => False
def endX (n : Nat) (Q : VV → VH → Prop) (E : XP) : XP := fun c ns vs h => (finX c ns n vs h).wp Q E
theorem leave_wp {F : Fn} {n : Nat} {r : Rs Fl} {Q : VV → VH → Prop} {E : XP} (w : r.wp (endQ F.keep n Q E) (endX n Q E)) : (leave F n r).wp Q E := by
  cases r with
  | ok f h => cases f <;> first | exact w | exact (w : False).elim
  | exc c ns vs h => exact w
  | bad => exact w
abbrev envP (P : Prog) (n : Nat) : Env' := ⟨fun g xs h => run P n g noCl (some xs) h, fun g cl h => run P n g cl none h, noCl, P.sub, P.flds, P.cls⟩
theorem run_wp {P : Prog} {n g p sl : Nat} {k : Bool} {b : Ss} {xs : List VV} {h : VH} {Q : VV → VH → Prop} {E : XP} (hF : P.fns[g]? = some ⟨p, sl, k, b⟩) (hl : xs.length = p) (w : (exs (envP P n) b (startS ⟨p, sl, k, b⟩ xs) h).wp (endQ k h.length Q E) (endX h.length Q E)) : (run P (n + 1) g noCl (some xs) h).wp Q E := by
  unfold run
  rw [hF]
  dsimp only
  rw [if_pos hl]
  exact leave_wp w
theorem endQ_rt {k : Bool} {n : Nat} {Q : VV → VH → Prop} {E : XP} {v : VV} {h : VH} : endQ k n Q E (.rt v) h = (fin k n v h).wp Q E := rfl
theorem endQ_nx {k : Bool} {n : Nat} {Q : VV → VH → Prop} {E : XP} {σ : Sl} {h : VH} : endQ k n Q E (.nx σ) h = (fin k n .non h).wp Q E := rfl
theorem wp_eq {β : Type} {r : Rs β} {b : β} {h : VH} {Q : β → VH → Prop} {E : XP} (e : r = .ok b h) (q : Q b h) : r.wp Q E := by
  rw [e]
  exact q
theorem wp_eqX {β : Type} {r : Rs β} {c : Nat} {ns : List Str} {vs : List VV} {h : VH} {Q : β → VH → Prop} {E : XP} (e : r = .exc c ns vs h) (q : E c ns vs h) : r.wp Q E := by
  rw [e]
  exact q
theorem eq_wp {β : Type} {r : Rs β} {b : β} {h : VH} (w : r.wp (fun b' h' => b' = b ∧ h' = h) fun _ _ _ _ => False) : r = .ok b h := by
  cases r with
  | ok b' h' => obtain ⟨rfl, rfl⟩ := w; rfl
  | exc c ns vs h' => exact (w : False).elim
  | bad => exact (w : False).elim
theorem eq_wpX {β : Type} {r : Rs β} {c : Nat} {ns : List Str} {vs : List VV} {h : VH} (w : r.wp (fun _ _ => False) fun c' ns' vs' h' => c' = c ∧ ns' = ns ∧ vs' = vs ∧ h' = h) : r = .exc c ns vs h := by
  cases r with
  | ok b' h' => exact (w : False).elim
  | exc c ns vs h' => obtain ⟨rfl, rfl, rfl, rfl⟩ := w; rfl
  | bad => exact (w : False).elim
/-! ### data -/
theorem dat_strs {n : Nat} {h : VH} (ss : List Str) : mapO (dat (n + 1) h) (ss.map VV.str) = some (ss.map PyData.str) := by
  have := mapO_of (f := dat (n + 1) h) (xs := ss.map VV.str) (g := fun v => match v with | .str s => PyData.str s | _ => .none) (fun x hx => by
    obtain ⟨s, _, rfl⟩ := List.mem_map.mp hx
    unfold dat
    rfl)
  rw [this, List.map_map]
  rfl
theorem lay_strs : ∀ {ss : List Str}, (∀ s ∈ ss, PyData.strOk s = true) → PyData.canLayAll0 (ss.map PyData.str) = true
  | [], _ => by simp only [List.map_nil, PyData.canLayAll0]
  | s :: ss, h => by
    simp only [List.map_cons, PyData.canLayAll0, PyData.canLay0, h s List.mem_cons_self, lay_strs fun t ht => h t (List.mem_cons_of_mem _ ht), Bool.and_self]
theorem dep_strs : ∀ {ss : List Str}, PyData.depthAll (ss.map PyData.str) = 0
  | [] => by simp only [List.map_nil, PyData.depthAll]
  | s :: ss => by simp only [List.map_cons, PyData.depthAll, PyData.depth, dep_strs, Nat.max_self]
theorem eqvAll_nil : ∀ ds : List PyData, PyData.eqvAll ds [] = ds.isEmpty
  | [] => by simp only [PyData.eqvAll]; rfl
  | d :: ds => by simp only [PyData.eqvAll]; rfl
theorem eqvAll_strs : ∀ {as bs : List Str}, PyData.eqvAll (as.map PyData.str) (bs.map PyData.str) = (as == bs)
  | [], [] => by simp only [List.map_nil, PyData.eqvAll]; rfl
  | [], b :: bs => by simp only [List.map_nil, List.map_cons, PyData.eqvAll]; rfl
  | a :: as, [] => by simp only [List.map_nil, List.map_cons, PyData.eqvAll]; rfl
  | a :: as, b :: bs => by simp only [List.map_cons, PyData.eqvAll, PyData.eqv, eqvAll_strs]; rfl
theorem eqS_of {h : VH} {x y : VV} {d e : PyData} (h1 : dat 8 h x = some d) (h2 : dat 8 h y = some e) (s1 : SeqAt.shaped d = true) (s2 : SeqAt.shaped e = true) : eqS h x y = some (PyData.eqv d e) := by
  unfold eqS
  rw [h1, h2]
  dsimp only
  rw [if_pos (by rw [s1, s2]; rfl)]
theorem shp_str {s : Str} (h : PyData.strOk s = true) : SeqAt.shaped (.str s) = true := by
  unfold SeqAt.shaped
  simp only [PyData.canLay0, h, PyData.depth]
  rfl
theorem shp_int {i : Int} : SeqAt.shaped (.int i) = true := by
  unfold SeqAt.shaped
  simp only [PyData.canLay0, PyData.depth]
  rfl
theorem shp_non : SeqAt.shaped .none = true := by
  unfold SeqAt.shaped
  simp only [PyData.canLay0, PyData.depth]
  rfl
theorem shp_lst {ds : List PyData} (h : PyData.canLayAll0 ds = true) (hd : PyData.depthAll ds ≤ 60) : SeqAt.shaped (.list ds) = true := by
  unfold SeqAt.shaped
  rw [Bool.and_eq_true, decide_eq_true_eq]
  refine ⟨by simp only [PyData.canLay0]; exact h, ?_⟩
  simp only [PyData.depth]
  omega
theorem shp_tup {ds : List PyData} (h : PyData.canLayAll0 ds = true) (hd : PyData.depthAll ds ≤ 60) : SeqAt.shaped (.tuple ds) = true := by
  unfold SeqAt.shaped
  rw [Bool.and_eq_true, decide_eq_true_eq]
  refine ⟨by simp only [PyData.canLay0]; exact h, ?_⟩
  simp only [PyData.depth]
  omega
theorem eq_str {h : VH} {a b : Str} (ha : PyData.strOk a = true) (hb : PyData.strOk b = true) : copS .eq (.str a) (.str b) h = some (a == b) := by
  unfold copS
  dsimp only
  rw [eqS_of (d := .str a) (e := .str b) (by unfold dat; rfl) (by unfold dat; rfl) (shp_str ha) (shp_str hb)]
  simp only [PyData.eqv]
theorem eq_int {h : VH} {a b : Int} : copS .eq (.int a) (.int b) h = some (a == b) := by
  unfold copS
  dsimp only
  rw [eqS_of (d := .int a) (e := .int b) (by unfold dat; rfl) (by unfold dat; rfl) shp_int shp_int]
  simp only [PyData.eqv]
theorem dat_ref {h : VH} {k n : Nat} {xs : List VV} {ds : List PyData} (hk : h[k]? = some (.lst xs)) (hd : mapO (dat n h) xs = some ds) : dat (n + 1) h (.ref k) = some (.list ds) := by
  unfold dat
  dsimp only
  rw [hk]
  dsimp only
  rw [hd]
  rfl
theorem dat_lst {h : VH} {n : Nat} {xs : List VV} {ds : List PyData} (hd : mapO (dat n h) xs = some ds) : dat (n + 1) h (.lst xs) = some (.list ds) := by
  unfold dat
  dsimp only
  rw [hd]
  rfl
theorem dat_tup {h : VH} {n : Nat} {xs : List VV} {ds : List PyData} (hd : mapO (dat n h) xs = some ds) : dat (n + 1) h (.tup xs) = some (.tuple ds) := by
  unfold dat
  dsimp only
  rw [hd]
  rfl
/-- a list, compared with the empty one -/
theorem eq_nil {h : VH} {x : VV} {k : Nat} {ds : List PyData} (h1 : dat 8 h x = some (.list ds)) (h2 : h[k]? = some (.lst [])) (s1 : PyData.canLayAll0 ds = true) (s2 : PyData.depthAll ds ≤ 60) : copS .eq x (.ref k) h = some ds.isEmpty := by
  unfold copS
  dsimp only
  rw [eqS_of h1 (dat_ref h2 rfl) (shp_lst s1 s2) (shp_lst (by simp only [PyData.canLayAll0]) (by simp only [PyData.depthAll]; omega))]
  simp only [PyData.eqv, eqvAll_nil]
theorem ne_of_eq {h : VH} {x y : VV} {b : Bool} (e : copS .eq x y h = some b) : copS .ne x y h = some (!b) := by
  have e : eqS h x y = some b := e
  show (eqS h x y).map (!·) = _
  rw [e]
  rfl
theorem at_snoc {h : VH} {o : Ob} : (h ++ [o])[h.length]? = some o := by simp
theorem at_keep {h : VH} {l : VH} {k : Nat} {o : Ob} (e : h[k]? = some o) : (h ++ l)[k]? = some o := by
  rw [List.getElem?_append_left (List.getElem?_eq_some_iff.mp e).1]
  exact e
/-! ### comprehensions over lists that are mapped -/
section
variable {α : Type} {F : VV → VH → Rs (Option VV)} {f : α → VV} {g : α → Option VV} {h : VH} {Q : List VV → VH → Prop} {E : XP}
theorem lcL_mapA : ∀ (l : List α) (acc : List VV), acc.length + l.length ≤ 100000 → (∀ a ∈ l, F (f a) h = .ok (g a) h) → Q (acc ++ l.filterMap g) h → (lcL F (l.map f) acc h).wp Q E
  | [], acc, _, _, q => by
    rw [List.filterMap_nil, List.append_nil] at q
    exact q
  | a :: l, acc, hl, hf, q => by
    rw [List.map_cons]
    unfold lcL
    rw [List.length_cons] at hl
    rw [if_pos (by omega), wp_bind, hf a List.mem_cons_self]
    refine lcL_mapA l (acc ++ (g a).toList) ?_ (fun b hb => hf b (List.mem_cons_of_mem _ hb)) ?_
    · cases g a <;> simp <;> omega
    · rw [List.filterMap_cons] at q
      cases e : g a with
      | none => rw [e] at q; simpa using q
      | some v => rw [e] at q; simpa using q
theorem lcL_map {l : List α} (hl : l.length ≤ 100000) (hf : ∀ a ∈ l, F (f a) h = .ok (g a) h) (q : Q (l.filterMap g) h) : (lcW F (.imm (l.map f)) h).wp Q E := lcL_mapA l [] (by simpa using hl) hf (by simpa using q)
theorem lcC_map {l : List α} {k : Nat} (hk : h[k]? = some (.lst (l.map f))) (hl : l.length ≤ 100000) (hf : ∀ a ∈ l, F (f a) h = .ok (g a) h) (q : Q (l.filterMap g) h) : (lcW F (.cell k false) h).wp Q E := by
  have hc : cellAt h k = some (l.map f) := by unfold cellAt; rw [hk]
  unfold lcW
  dsimp only
  rw [hc]
  refine lcC_inv (fun pre post acc h' => h' = h ∧ ∃ a b, l = a ++ b ∧ pre = a.map f ∧ post = b.map f ∧ acc = a.filterMap g) (l.map f) [] [] _ h rfl ⟨rfl, [], l, rfl, rfl, rfl, rfl⟩ (fun pre x post acc h' ⟨e1, a, b, e2, e3, e4, e5⟩ => ?_) (fun pre post acc h' ⟨e1, a, b, e2, e3, e4, e5⟩ => by rw [e1, hc, e3, e4, e2, List.map_append]) fun pre acc h' ⟨e1, a, b, e2, e3, e4, e5⟩ => ?_
  · subst e1
    cases b with
    | nil => cases e4
    | cons y b =>
      rw [List.map_cons] at e4
      injection e4 with e6 e7
      subst e6
      have hy : y ∈ l := by rw [e2]; simp
      refine ⟨?_, ?_⟩
      · have h1 := List.length_filterMap_le g a
        have h2 := congrArg List.length e2
        rw [e5]
        simp at h2
        omega
      · show (F (f y) h').wp _ _
        rw [hf y hy]
        refine ⟨rfl, a ++ [y], b, by rw [e2]; simp, by rw [e3]; simp, e7, ?_⟩
        rw [List.filterMap_append, e5]
        cases e : g y <;> simp [e]
  · subst e1
    have : b = [] := List.map_eq_nil_iff.mp e4.symm
    subst this
    rw [List.append_nil] at e2
    rw [e5, ← e2]
    exact q
end
/-! ### small rules -/
theorem wSlot {σ : Sl} {i : Nat} {v : VV} {Q : VV → Prop} (e : slotV σ i = some v) (q : Q v) : wpO (slotV σ i) Q := by rw [e]; exact q
theorem wOpt {l : List VV} {o : Option Int} {Q : Option Int → Prop} (e : optI l = some o) (q : Q o) : wpO (optI l) Q := by rw [e]; exact q
theorem wTup {x : VV} {o : List VV} {Q : List VV → Prop} (e : tupO x = some o) (q : Q o) : wpO (tupO x) Q := by rw [e]; exact q
theorem wUnp {is : List Nat} {xs : List VV} {σ : Sl} {o : Sl} {Q : Sl → Prop} (e : unpS is xs σ = some o) (q : Q o) : wpO (unpS is xs σ) Q := by rw [e]; exact q
theorem wTg {g : Tg} {x : VV} {σ : Sl} {o : Sl} {Q : Sl → Prop} (e : tgS g x σ = some o) (q : Q o) : wpO (tgS g x σ) Q := by rw [e]; exact q
theorem wNeg {x : VV} {o : VV} {Q : VV → Prop} (e : negO x = some o) (q : Q o) : wpO (negO x) Q := by rw [e]; exact q
theorem wTru {h : VH} {b : Bool} {Q : Bool → Prop} (q : Q b) : wpO (truO h (.bl b)) Q := q
theorem wBop {o : Bop} {i j : Int} {h h' : VH} {r : VV} {Q : VV → VH → Prop} {E : XP} (e : intB o i j h = .ok r h') (q : Q r h') : (bopS o (.int i) (.int j) h).wp Q E := wp_eq e q
theorem endQ_rt' {k : Bool} {n : Nat} {Q : VV → VH → Prop} {E : XP} {v : VV} {h : VH} (q : (fin k n v h).wp Q E) : endQ k n Q E (.rt v) h := q
theorem endQ_nx' {k : Bool} {n : Nat} {Q : VV → VH → Prop} {E : XP} {σ : Sl} {h : VH} (q : (fin k n .non h).wp Q E) : endQ k n Q E (.nx σ) h := q
theorem wGle {a b : Nat} {P : Prop} (e : Nat.ble a b = true) (q : P) : wpG (a ≤ b) P := ⟨Nat.le_of_ble_eq_true e, q⟩
theorem wGrc {m : Bmt} {x : VV} {h : VH} {P : Prop} (e : rcvB m x h = true) (q : P) : wpG (rcvB m x h = true) P := ⟨e, q⟩
theorem wGdc {a b c : Nat} {P : Prop} (e : a = b) (e2 : Nat.ble a c = true) (q : P) : wpG (a = b ∧ a ≤ c) P := ⟨⟨e, Nat.le_of_ble_eq_true e2⟩, q⟩
theorem wGeq {a b : Nat} {P : Prop} (e : a = b) (q : P) : wpG (a = b) P := ⟨e, q⟩
theorem wpB_nt {P Q : Prop} : wpB (!true) P Q = Q := rfl
theorem wpB_nf {P Q : Prop} : wpB (!false) P Q = P := rfl
theorem wIsi {b : Bool} {sub : Nat → Nat → Bool} {cl : Nat → Option Bool} {ts : List Ty} {t : Ty} {x : VV} {h : VH} {Q : VV → VH → Prop} {E : XP} (k : tyOf h x = some t) (k2 : knownTy cl x h = true) (e : (ts.any fun u => isTy sub t u) = b) (q : Q (.bl b) h) : (isiS sub cl ts x h).wp Q E := by
  unfold isiS
  rw [k]
  dsimp only
  rw [if_pos k2, e]
  exact q
theorem wO {α : Type} {o : Option α} {a : α} {Q : α → Prop} (e : o = some a) (q : Q a) : wpO o Q := by rw [e]; exact q
theorem wB {b : Bool} {P Q : Prop} (h1 : b = true → P) (h2 : b = false → Q) : wpB b P Q := by
  cases b with
  | true => exact h1 rfl
  | false => exact h2 rfl
theorem wBt {b : Bool} {P Q : Prop} (e : b = true) (h : P) : wpB b P Q := by rw [e]; exact h
theorem wBf {b : Bool} {P Q : Prop} (e : b = false) (h : Q) : wpB b P Q := by rw [e]; exact h
theorem wG {c P : Prop} (h1 : c) (h2 : P) : wpG c P := ⟨h1, h2⟩
theorem wok {β : Type} {r : Rs β} {b : β} {h : VH} {Q : β → VH → Prop} {E : XP} (q : Q b h) (e : r = .ok b h := by rfl) : r.wp Q E := wp_eq e q
/-! ### tuples and lists alike -/
structure SeqV (h : VH) (v : VV) (xs : List VV) (t : String) : Prop where
  ty : tyOf h v = some (.bi t)
  tt : t = "tuple" ∨ t = "list"
  kn : ∀ cl, knownTy cl v h = true
  ns : ∀ s, v ≠ .str s
  sq : seqOf h v = some xs
  cs : v = .tup xs ∨ v = .lst xs ∨ ∃ k, v = .ref k ∧ h[k]? = some (.lst xs)
theorem SeqV.tup {h : VH} {xs : List VV} : SeqV h (.tup xs) xs "tuple" := ⟨rfl, .inl rfl, fun _ => rfl, fun s e => (nomatch e), rfl, .inl rfl⟩
theorem SeqV.lst {h : VH} {xs : List VV} : SeqV h (.lst xs) xs "list" := ⟨rfl, .inr rfl, fun _ => rfl, fun s e => (nomatch e), rfl, .inr (.inl rfl)⟩
theorem SeqV.ref {h : VH} {k : Nat} {xs : List VV} (e : h[k]? = some (.lst xs)) : SeqV h (.ref k) xs "list" := ⟨by unfold tyOf; dsimp only; rw [e], .inr rfl, fun cl => by unfold knownTy; dsimp only; rw [e], fun s e => (nomatch e), by unfold seqOf; dsimp only; rw [e], .inr (.inr ⟨k, rfl, e⟩)⟩
theorem SeqV.keep {h l : VH} {v : VV} {xs : List VV} {t : String} (S : SeqV h v xs t) : SeqV (h ++ l) v xs t := by
  rcases S.cs with rfl | rfl | ⟨k, rfl, e⟩
  · have e : t = "tuple" := by have := S.ty; unfold tyOf at this; simpa using this.symm
    subst e
    exact .tup
  · have e : t = "list" := by have := S.ty; unfold tyOf at this; simpa using this.symm
    subst e
    exact .lst
  · have e' : t = "list" := by have := S.ty; unfold tyOf at this; dsimp only at this; rw [e] at this; simpa using this.symm
    subst e'
    exact .ref (at_keep e)
theorem SeqV.isi {h : VH} {v : VV} {xs : List VV} {t : String} {sub : Nat → Nat → Bool} {cl : Nat → Option Bool} {Q : VV → VH → Prop} {E : XP} (S : SeqV h v xs t) (q : Q (.bl true) h) : (isiS sub cl [.bi "tuple", .bi "list"] v h).wp Q E := by
  refine wIsi (b := true) S.ty (S.kn cl) ?_ q
  rcases S.tt with rfl | rfl <;> rfl
theorem SeqV.isiStr {h : VH} {v : VV} {xs : List VV} {t : String} {sub : Nat → Nat → Bool} {cl : Nat → Option Bool} {Q : VV → VH → Prop} {E : XP} (S : SeqV h v xs t) (q : Q (.bl false) h) : (isiS sub cl [.bi "str"] v h).wp Q E := by
  refine wIsi (b := false) S.ty (S.kn cl) ?_ q
  rcases S.tt with rfl | rfl <;> rfl
theorem SeqV.len {h : VH} {v : VV} {xs : List VV} {t : String} (S : SeqV h v xs t) : bfnS .len [v] h = .ok (.int (xs.length : Int)) h := by
  have : lenS v h = (seqOf h v).map List.length := by
    cases v with
    | str s => exact absurd rfl (S.ns s)
    | _ => rfl
  show Rs.of ((lenS v h).map fun (n : Nat) => VV.int (n : Int)) h = _
  rw [this, S.sq]
  rfl
theorem SeqV.idx {h : VH} {v x : VV} {xs : List VV} {t : String} {j : Int} (S : SeqV h v xs t) (e : atI xs j = some x) : idxS v (.int j) h = .ok x h := by
  have : idxS v (.int j) h = (match seqOf h v with
      | some ys => Rs.of (atI ys j) h
      | none => .bad) := by
    cases v with
    | str s => exact absurd rfl (S.ns s)
    | _ => rfl
  rw [this, S.sq]
  dsimp only
  rw [e]
  rfl
section
variable {h : VH} {v : VV} {xs : List VV} {t : String} {f : VV → Sl → VH → Rs Fl} {σ : Sl} {QF : Fl → VH → Prop} {E : XP} (S : SeqV h v xs t)
include S
/-- a loop over a tuple, a list: with the count in front, if counted -/
theorem SeqV.for (cnt : Bool) (I : List VV → List VV → Sl → VH → Prop) (i : I [] xs σ h) (st : ∀ pre x post σ h, I pre (x :: post) σ h → (f (itemOf cnt pre.length x) σ h).wp (fun r h' => match r with
      | .nx σ' => I (pre ++ [x]) post σ' h'
      | .ct σ' => I (pre ++ [x]) post σ' h'
      | .bk σ' => QF (.nx σ') h'
      | .rt v => QF (.rt v) h') E) (ce : ∀ pre post σ h', I pre post σ h' → ∀ k : Nat, h[k]? = some (.lst xs) → v = .ref k → h'[k]? = some (.lst (pre ++ post))) (en : ∀ pre σ h, I pre [] σ h → QF (.nx σ) h) :
    wpO (srcS (if cnt then .enum else .seq) [v] h) fun s => (forW f s σ h).wp QF E := by
  have cell : ∀ k : Nat, v = .ref k → h[k]? = some (.lst xs) → (forW f (.cell k cnt) σ h).wp QF E := fun k ev ek => forW_inv I xs (by unfold cellAt; rw [ek]) i st (fun pre post σ h' q => by
    unfold cellAt
    rw [ce pre post σ h' q k ek ev]) en
  have plain : (forL f (if cnt then countL 0 xs else xs) σ h).wp QF E := by
    have gen : ∀ (post pre : List VV) (σ : Sl) (h : VH), I pre post σ h → (forL f (if cnt then countL pre.length post else post) σ h).wp QF E := by
      intro post
      induction post with
      | nil =>
        intro pre σ h i
        have e : (if cnt then countL pre.length [] else []) = ([] : List VV) := by cases cnt <;> rfl
        rw [e]
        exact en pre σ h i
      | cons x post ih =>
        intro pre σ h i
        have e : (if cnt then countL pre.length (x :: post) else x :: post) = itemOf cnt pre.length x :: (if cnt then countL (pre ++ [x]).length post else post) := by
          cases cnt with
          | false => rfl
          | true => rw [List.length_append]; rfl
        rw [e]
        unfold forL
        rw [wp_bind]
        refine (st pre x post σ h i).mono (fun r h' q => ?_) fun _ _ _ _ q => q
        cases r with
        | nx σ' => exact ih (pre ++ [x]) σ' h' q
        | ct σ' => exact ih (pre ++ [x]) σ' h' q
        | bk σ' => exact q
        | rt v => exact q
    exact gen xs [] σ h i
  rcases S.cs with rfl | rfl | ⟨k, rfl, e⟩
  · cases cnt <;> exact plain
  · cases cnt <;> exact plain
  · cases cnt with
    | false =>
      unfold srcS
      simp only [e, Bool.false_eq_true, if_false]
      exact cell k rfl e
    | true =>
      unfold srcS
      simp only [e, if_true]
      exact cell k rfl e
theorem SeqV.lc {α : Type} {F : VV → VH → Rs (Option VV)} {f : α → VV} {g : α → Option VV} {l : List α} {Q : List VV → VH → Prop} (ex : xs = l.map f) (hl : l.length ≤ 100000) (hf : ∀ a ∈ l, F (f a) h = .ok (g a) h) (q : Q (l.filterMap g) h) : wpO (srcS .seq [v] h) fun s => (lcW F s h).wp Q E := by
  subst ex
  rcases S.cs with rfl | rfl | ⟨k, rfl, e⟩
  · exact lcL_map hl hf q
  · exact lcL_map hl hf q
  · unfold srcS
    simp only [e]
    exact lcC_map e hl hf q
end
end Mini
end
section
set_option Elab.async false
set_option linter.all false
set_option maxRecDepth 100000
set_option maxHeartbeats 2000000
/-! Plain, part 3 (k82): the program's defs. -/
namespace Mini
open PySem L2
local macro_rules | `(tactic| walk_at "go1") => `(tactic| first
  | with_reducible apply wxs_cons'
  | with_reducible apply wxs_nil'
  | with_reducible apply nxt_nx'
  | with_reducible apply nxt_rt'
  | with_reducible apply nxt_bk'
  | with_reducible apply nxt_ct'
  | with_reducible apply we_var'
  | with_reducible apply we_cst'
  | with_reducible apply ws_cons'
  | with_reducible apply ws_nil'
  | ((with_reducible apply wSlot); exact rfl)
  | with_reducible apply we_fcl'
  | with_reducible apply we_cmp'
  | with_reducible apply we_idx'
  | with_reducible apply we_bin'
  | with_reducible apply wt_val'
  | with_reducible apply we_tup'
  | with_reducible apply we_lst'
  | with_reducible apply we_bcl'
  | with_reducible apply wx_set'
  | with_reducible apply wx_ret'
  | with_reducible apply wx_ife'
  | with_reducible apply wx_exp'
  | with_reducible apply wx_unp'
  | with_reducible apply wx_par'
  | with_reducible apply wx_sub'
  | with_reducible apply wx_rse'
  | with_reducible apply wx_brk'
  | with_reducible apply wx_cnt'
  | with_reducible apply wx_for'
  | with_reducible apply we_and'
  | with_reducible apply we_or'
  | with_reducible apply we_not'
  | with_reducible apply we_ife'
  | with_reducible apply we_neg'
  | with_reducible apply we_chn'
  | with_reducible apply we_dct'
  | with_reducible apply we_slc'
  | with_reducible apply we_att'
  | with_reducible apply we_isi'
  | with_reducible apply we_mcl'
  | with_reducible apply we_lc'
  | with_reducible apply we_fst'
  | with_reducible apply wf_nil'
  | with_reducible apply wf_cons'
  | with_reducible apply wt_yes'
  | with_reducible apply wt_and'
  | with_reducible apply wt_or'
  | with_reducible apply wt_not'
  | with_reducible apply endQ_rt'
  | with_reducible apply endQ_nx'
  | with_reducible apply wpB_t'
  | with_reducible apply wpB_f'
  | with_reducible apply wpB_nt'
  | with_reducible apply wpB_nf'
  | (with_reducible apply wTru)
  | ((with_reducible apply wBt); with_reducible assumption)
  | ((with_reducible apply wBf); with_reducible assumption)
  | ((with_reducible apply wGle); exact rfl)
  | ((with_reducible apply wGrc); first | exact rfl | assumption)
  | ((with_reducible apply wGdc); exact rfl; exact rfl)
  | ((with_reducible apply wGeq); exact rfl)
  | ((with_reducible apply wOpt); exact rfl)
  | ((with_reducible apply wTup); exact rfl)
  | ((with_reducible apply wUnp); exact rfl)
  | ((with_reducible apply wTg); exact rfl)
  | ((with_reducible apply wNeg); exact rfl)
  | ((with_reducible apply wBop); exact rfl)
  | ((with_reducible apply wIsi (b := true)); (first | exact rfl | assumption); (first | exact rfl | assumption); focus (simp only [List.any_cons, List.any_nil, isTy, String.reduceBEq, String.reduceEq, beq_self_eq_true, Bool.and_false, Bool.false_and, Bool.or_false, Bool.false_or, Bool.or_true, Bool.true_or, Bool.and_self, Bool.or_self, Bool.true_and]; done))
  | ((with_reducible apply wIsi (b := false)); (first | exact rfl | assumption); (first | exact rfl | assumption); focus (simp only [List.any_cons, List.any_nil, isTy, String.reduceBEq, String.reduceEq, beq_self_eq_true, Bool.and_false, Bool.false_and, Bool.or_false, Bool.false_or, Bool.or_true, Bool.true_or, Bool.and_self, Bool.or_self, Bool.true_and]; done)))
local macro_rules | `(tactic| walk_at "go") => `(tactic| (repeat walk_at "go1"))
theorem len_str {s : Str} {h : VH} (hl : s.length ≤ sizeLine) : bfnS .len [.str s] h = .ok (.int (s.length : Int)) h := by
  show Rs.of ((lenS (.str s) h).map fun (n : Nat) => VV.int (n : Int)) h = _
  unfold lenS
  dsimp only
  rw [if_pos hl]
  rfl
theorem len_seq {x : VV} {ys : List VV} {h : VH} (hx : ∀ s, x ≠ .str s) (e : seqOf h x = some ys) : bfnS .len [x] h = .ok (.int (ys.length : Int)) h := by
  show Rs.of ((lenS x h).map fun (n : Nat) => VV.int (n : Int)) h = _
  have : lenS x h = (seqOf h x).map List.length := by
    cases x with
    | str s => exact absurd rfl (hx s)
    | _ => rfl
  rw [this, e]
  rfl
theorem seq_ref {h : VH} {k : Nat} {ys : List VV} (e : h[k]? = some (.lst ys)) : seqOf h (.ref k) = some ys := by
  unfold seqOf
  dsimp only
  rw [e]
theorem in_chr {h : VH} {c : Nat} {b : Str} : copS .in_ (.str ⟨#[c]⟩) (.str b) h = some (decide (c ∈ b.cps.toList)) := rfl
theorem notin_chr {h : VH} {c : Nat} {b : Str} : copS .notIn (.str ⟨#[c]⟩) (.str b) h = some (!decide (c ∈ b.cps.toList)) := rfl
namespace K82
def PK : Prog := ⟨[⟨1, 1, false, b_is_integer⟩, ⟨1, 2, false, b_is_name⟩, ⟨1, 1, false, b_is_output⟩, ⟨1, 3, false, b_need_row⟩, ⟨1, 1, false, b_output_text⟩, ⟨1, 3, false, b_row_text⟩, ⟨1, 3, false, b_integer_of⟩, ⟨1, 4, false, b_read_output⟩, ⟨1, 6, false, b_read_row⟩,
  ⟨1, 2, true, b__law_pen⟩, ⟨2, 7, false, b__law_draw⟩, ⟨2, 2, false, b__law_pick⟩, ⟨4, 6, false, b__law_row⟩, ⟨2, 11, false, b__law_plan⟩, ⟨3, 13, false, b__law_move⟩, ⟨2, 3, false, b__law_sides⟩, ⟨3, 6, false, b__law_walk⟩, ⟨2, 5, false, b__law_outputs⟩, ⟨1, 5, false, b__law_is_output_word⟩, ⟨1, 4, false, b__law_fault⟩, ⟨1, 4, false, b__law_heard⟩, ⟨1, 17, false, b_law⟩],
  fun g k => [(0, 0), (1, 0), (1, 1), (2, 0), (2, 2)].contains (g, k), fun g => (([("FilterError", true, []), ("BadRow", true, ["at"]), ("BadText", true, ["line", "word"])] : List (Str × Bool × List Str))[g]?.map (·.2.2)).getD [], fun g => ([("FilterError", true, []), ("BadRow", true, ["at"]), ("BadText", true, ["line", "word"])] : List (Str × Bool × List Str))[g]?.map (·.2.1)⟩
def isInt : VV → Bool
  | .int _ => true
  | _ => false
theorem is_integer_ok {n : Nat} {v : VV} {h : VH} (hv : isFlat v = true) (c : Clo h) : run PK (n + 1) 0 noCl (some [v]) h = .ok (.bl (isInt v)) h := by
  refine eq_wp (run_wp rfl rfl ?_)
  show (exs (envP PK n) b_is_integer [some v] h).wp _ _
  unfold b_is_integer
  cases v <;> first | cases hv; done | skip
  all_goals
    walk_at "go"
    exact fin_wp0 (m := 1) rfl c rfl (by decide) ⟨rfl, rfl⟩
abbrev abc : Str := "abcdefghijklmnopqrstuvwxyz"
def isName (s : Str) : Bool := !(s == ("" : Str)) && (!decide (8 < (s.length : Int)) && s.cps.toList.all fun c => decide (c ∈ abc.cps.toList))
def chrs (s : Str) : List Str := s.cps.toList.map fun c => ⟨#[c]⟩
theorem strL_eq (s : Str) : strL s = (chrs s).map VV.str := by
  unfold strL chrs
  rw [List.map_map]
  rfl
theorem ok_chr {s : Str} (h : PyData.strOk s = true) : ∀ c ∈ s.cps.toList, PyData.strOk ⟨#[c]⟩ = true := fun c hc => by
  unfold PyData.strOk at h ⊢
  rw [← Array.all_toList] at h
  have h2 := List.all_eq_true.mp h c hc
  simpa using h2
/-- the signs that are none of a name -/
def badOf (s : Str) : List Str := (s.cps.toList.filter fun k => !decide (k ∈ abc.cps.toList)).map fun k => ⟨#[k]⟩
theorem bad_eq {s : Str} : s.cps.toList.filterMap (fun k => if k ∈ abc.cps.toList then none else some (VV.str ⟨#[k]⟩)) = (badOf s).map VV.str := by
  unfold badOf
  generalize s.cps.toList = l
  induction l with
  | nil => rfl
  | cons k l ih =>
    by_cases hk : k ∈ abc.cps.toList
    · rw [List.filterMap_cons, List.filter_cons]
      simp only [hk, if_true, decide_true]
      exact ih
    · rw [List.filterMap_cons, List.filter_cons]
      simp only [hk, if_false, decide_false, Bool.not_false, if_true, List.map_cons, ih]
theorem bad_all {s : Str} : ((badOf s).map PyData.str).isEmpty = s.cps.toList.all fun c => decide (c ∈ abc.cps.toList) := by
  unfold badOf
  generalize s.cps.toList = l
  induction l with
  | nil => rfl
  | cons k l ih =>
    rw [List.filter_cons, List.all_cons, ← ih]
    by_cases hk : k ∈ abc.cps.toList
    · simp only [hk, decide_true, Bool.not_true, Bool.true_and]
      rfl
    · simp only [hk, decide_false, Bool.not_false, Bool.false_and]
      rfl
theorem ok_bad {s : Str} (h : PyData.strOk s = true) : ∀ t ∈ badOf s, PyData.strOk t = true := fun t ht => by
  obtain ⟨k, hk, rfl⟩ := List.mem_map.mp ht
  exact ok_chr h k (List.mem_filter.mp hk).1
theorem is_name_ok {n : Nat} {s : Str} {h : VH} (ho : PyData.strOk s = true) (hl : s.length ≤ sizeLine) (c : Clo h) : run PK (n + 1) 1 noCl (some [.str s]) h = .ok (.bl (isName s)) h := by
  refine eq_wp (run_wp rfl rfl ?_)
  show (exs (envP PK n) b_is_name [some (.str s), none] h).wp _ _
  unfold b_is_name
  have e0 : PyData.strOk ("" : Str) = true := by decide +kernel
  walk_at "go"
  refine wO (eq_str ho e0) ?_
  walk_at "go"
  refine wB (fun b => ?_) fun b => ?_
  · walk_at "go"
    refine fin_wp0 (m := 1) rfl c rfl (by decide) ⟨?_, rfl⟩
    unfold isName
    rw [b]
    rfl
  · walk_at "go"
    refine wp_eq (len_str hl) ?_
    walk_at "go"
    refine wO (show copS .gt (.int (s.length : Int)) (.int 8) h = some (decide (8 < (s.length : Int))) from rfl) ?_
    walk_at "go"
    refine wB (fun b2 => ?_) fun b2 => ?_
    · walk_at "go"
      refine fin_wp0 (m := 1) rfl c rfl (by decide) ⟨?_, rfl⟩
      unfold isName
      rw [b, b2]
      rfl
    · walk_at "go"
      refine wO rfl ?_
      refine lcL_map (g := fun k => if k ∈ abc.cps.toList then none else some (.str ⟨#[k]⟩)) ?_ (fun k _ => ?_) ?_
      · show s.cps.toList.length ≤ 100000
        have : ¬ (8 < (s.length : Int)) := by simpa using b2
        have e : s.length = s.cps.toList.length := TL.len_tl s
        omega
      · refine eq_wp ?_
        rw [wp_lcF]
        walk_at "go"
        refine wO notin_chr ?_
        walk_at "go"
        by_cases hk : k ∈ abc.cps.toList
        · rw [decide_eq_true hk, if_pos hk]
          walk_at "go"
          exact ⟨rfl, rfl⟩
        · rw [decide_eq_false hk, if_neg hk]
          walk_at "go"
          exact ⟨rfl, rfl⟩
      · walk_at "go"
        rw [bad_eq]
        refine wO (eq_nil (ds := (badOf s).map PyData.str) (dat_ref (at_keep at_snoc) (dat_strs (n := 6) _)) at_snoc (lay_strs (ok_bad ho)) (by rw [dep_strs]; decide)) ?_
        walk_at "go"
        rw [List.append_assoc]
        refine fin_wp (t := .bl ((badOf s).map PyData.str).isEmpty) rfl c (frz_tr (n := 30) rfl) ⟨?_, rfl⟩
        unfold isName
        rw [b, b2, bad_all]
        rfl
/-- texts that may be asked -/
def Ok (s : Str) : Prop := PyData.strOk s = true ∧ s.length ≤ 100000
theorem Ok.len {s : Str} (h : Ok s) : s.length ≤ sizeLine := Nat.le_trans h.2 (by decide)
def okF (v : VV) : Prop := isFlat v = true ∧ ∀ s, v = .str s → Ok s
def nameV : VV → Bool
  | .str s => isName s
  | _ => false
theorem is_name_v {n : Nat} {v : VV} {h : VH} (hv : okF v) (c : Clo h) : run PK (n + 1) 1 noCl (some [v]) h = .ok (.bl (nameV v)) h := by
  cases v with
  | str s => exact is_name_ok (hv.2 s rfl).1 (hv.2 s rfl).len c
  | non | bl | int =>
    refine eq_wp (run_wp rfl rfl ?_)
    show (exs (envP PK n) b_is_name [some _, none] h).wp _ _
    unfold b_is_name
    walk_at "go"
    exact fin_wp0 (m := 1) rfl c rfl (by decide) ⟨rfl, rfl⟩
  | _ => exact nomatch (show false = true from hv.1)
def out2 : List VV → Bool
  | [a, b] => nameV a && isInt b
  | _ => false
theorem is_output_seq {n : Nat} {v : VV} {xs : List VV} {t : String} {h : VH} (S : SeqV h v xs t) (hx : ∀ x ∈ xs, okF x) (hl : xs.length ≤ 1000) (c : Clo h) : run PK (n + 2) 2 noCl (some [v]) h = .ok (.bl (out2 xs)) h := by
  refine eq_wp (run_wp rfl rfl ?_)
  show (exs (envP PK (n + 1)) b_is_output [some v] h).wp _ _
  unfold b_is_output
  walk_at "go"
  refine S.isi ?_
  walk_at "go"
  refine wp_eq S.len ?_
  walk_at "go"
  refine wO eq_int ?_
  refine wTru ?_
  match xs, hx, S with
  | [a, b], hx, S =>
    refine wBt rfl ?_
    walk_at "go"
    refine wp_eq (S.idx rfl) ?_
    walk_at "go"
    refine wp_eq (is_name_v (hx a (by simp)) c) ?_
    walk_at "go"
    refine wB (fun e => ?_) fun e => ?_
    · walk_at "go"
      refine wp_eq (S.idx rfl) ?_
      walk_at "go"
      refine wp_eq (is_integer_ok (hx b (by simp)).1 c) ?_
      walk_at "go"
      refine fin_wp0 (m := 1) rfl c rfl (by decide) ⟨?_, rfl⟩
      show _ = VV.bl (nameV a && isInt b)
      rw [e]
      rfl
    · walk_at "go"
      refine fin_wp0 (m := 1) rfl c rfl (by decide) ⟨?_, rfl⟩
      show _ = VV.bl (nameV a && isInt b)
      rw [e]
      rfl
  | [], hx, S =>
    refine wBf rfl ?_
    walk_at "go"
    exact fin_wp0 (m := 1) rfl c rfl (by decide) ⟨rfl, rfl⟩
  | [a], hx, S =>
    refine wBf rfl ?_
    walk_at "go"
    exact fin_wp0 (m := 1) rfl c rfl (by decide) ⟨rfl, rfl⟩
  | a :: b :: d :: r, hx, S =>
    refine wBf ?_ ?_
    · show (((r.length + 1 + 1 + 1 : Nat) : Int) == 2) = false
      rw [beq_eq_false_iff_ne]
      omega
    · walk_at "go"
      refine fin_wp0 (m := 1) rfl c rfl (by decide) ⟨?_, rfl⟩
      show VV.bl (((r.length + 1 + 1 + 1 : Nat) : Int) == 2) = VV.bl false
      congr 1
theorem is_output_flat {n : Nat} {v : VV} {h : VH} (hv : okF v) (c : Clo h) : run PK (n + 2) 2 noCl (some [v]) h = .ok (.bl (nameV v)) h := by
  refine eq_wp (run_wp rfl rfl ?_)
  show (exs (envP PK (n + 1)) b_is_output [some v] h).wp _ _
  unfold b_is_output
  have hv' := hv
  cases v <;> first | (exact nomatch (show false = true from hv.1)) | skip
  all_goals
    walk_at "go"
    refine wp_eq (is_name_v (n := n) hv' c) ?_
    walk_at "go"
    exact fin_wp0 (m := 1) rfl c rfl (by decide) ⟨rfl, rfl⟩
/-! outputs -/
abbrev Out := Str × Option Int
def enc (o : Out) : VV := match o.2 with
  | none => .str o.1
  | some n => .tup [.str o.1, .int n]
/-- a thing that stands for an output: with a tuple or a list for the pair -/
def It (h : VH) (v : VV) (o : Out) : Prop := match o.2 with
  | none => v = .str o.1
  | some n => ∃ t, SeqV h v [.str o.1, .int n] t
theorem It.enc {h : VH} (o : Out) : It h (enc o) o := by
  obtain ⟨w, i⟩ := o
  cases i with
  | none => rfl
  | some n => exact ⟨_, .tup⟩
theorem is_output_it {n : Nat} {v : VV} {o : Out} {h : VH} (I : It h v o) (ho : Ok o.1) (c : Clo h) : run PK (n + 2) 2 noCl (some [v]) h = .ok (.bl (isName o.1)) h := by
  obtain ⟨w, i⟩ := o
  cases i with
  | none =>
    obtain rfl : v = .str w := I
    exact is_output_flat ⟨rfl, fun s e => by cases e; exact ho⟩ c
  | some k =>
    obtain ⟨t, S⟩ := I
    rw [is_output_seq S ?_ (by simp) c]
    · show Rs.ok (VV.bl (isName w && true)) h = _
      rw [Bool.and_true]
    · intro x hx
      simp only [List.mem_cons, List.not_mem_nil, or_false] at hx
      rcases hx with rfl | rfl
      · exact ⟨rfl, fun s e => by cases e; exact ho⟩
      · exact ⟨rfl, fun s e => by cases e⟩
end K82
end Mini
end
section
set_option Elab.async false
set_option linter.all false
set_option maxRecDepth 100000
set_option maxHeartbeats 2000000
/-! Plain, part 4 (k82): rows and their texts. -/
namespace Mini
open PySem L2
local macro_rules | `(tactic| walk_at "go1") => `(tactic| first
  | with_reducible apply wxs_cons'
  | with_reducible apply wxs_nil'
  | with_reducible apply nxt_nx'
  | with_reducible apply nxt_rt'
  | with_reducible apply nxt_bk'
  | with_reducible apply nxt_ct'
  | with_reducible apply we_var'
  | with_reducible apply we_cst'
  | with_reducible apply ws_cons'
  | with_reducible apply ws_nil'
  | ((with_reducible apply wSlot); exact rfl)
  | with_reducible apply we_fcl'
  | with_reducible apply we_cmp'
  | with_reducible apply we_idx'
  | with_reducible apply we_bin'
  | with_reducible apply wt_val'
  | with_reducible apply we_tup'
  | with_reducible apply we_lst'
  | with_reducible apply we_bcl'
  | with_reducible apply wx_set'
  | with_reducible apply wx_ret'
  | with_reducible apply wx_ife'
  | with_reducible apply wx_exp'
  | with_reducible apply wx_unp'
  | with_reducible apply wx_par'
  | with_reducible apply wx_sub'
  | with_reducible apply wx_rse'
  | with_reducible apply wx_brk'
  | with_reducible apply wx_cnt'
  | with_reducible apply wx_for'
  | with_reducible apply we_and'
  | with_reducible apply we_or'
  | with_reducible apply we_not'
  | with_reducible apply we_ife'
  | with_reducible apply we_neg'
  | with_reducible apply we_chn'
  | with_reducible apply we_dct'
  | with_reducible apply we_slc'
  | with_reducible apply we_att'
  | with_reducible apply we_isi'
  | with_reducible apply we_mcl'
  | with_reducible apply we_lc'
  | with_reducible apply we_fst'
  | with_reducible apply wf_nil'
  | with_reducible apply wf_cons'
  | with_reducible apply wt_yes'
  | with_reducible apply wt_and'
  | with_reducible apply wt_or'
  | with_reducible apply wt_not'
  | with_reducible apply endQ_rt'
  | with_reducible apply endQ_nx'
  | with_reducible apply wpB_t'
  | with_reducible apply wpB_f'
  | with_reducible apply wpB_nt'
  | with_reducible apply wpB_nf'
  | (with_reducible apply wTru)
  | ((with_reducible apply wBt); with_reducible assumption)
  | ((with_reducible apply wBf); with_reducible assumption)
  | ((with_reducible apply wGle); exact rfl)
  | ((with_reducible apply wGrc); first | exact rfl | assumption)
  | ((with_reducible apply wGdc); exact rfl; exact rfl)
  | ((with_reducible apply wGeq); exact rfl)
  | ((with_reducible apply wOpt); exact rfl)
  | ((with_reducible apply wTup); exact rfl)
  | ((with_reducible apply wUnp); exact rfl)
  | ((with_reducible apply wTg); exact rfl)
  | ((with_reducible apply wNeg); exact rfl)
  | ((with_reducible apply wBop); exact rfl)
  | ((with_reducible apply wIsi (b := true)); (first | exact rfl | assumption); (first | exact rfl | assumption); focus (simp only [List.any_cons, List.any_nil, isTy, String.reduceBEq, String.reduceEq, beq_self_eq_true, Bool.and_false, Bool.false_and, Bool.or_false, Bool.false_or, Bool.or_true, Bool.true_or, Bool.and_self, Bool.or_self, Bool.true_and]; done))
  | ((with_reducible apply wIsi (b := false)); (first | exact rfl | assumption); (first | exact rfl | assumption); focus (simp only [List.any_cons, List.any_nil, isTy, String.reduceBEq, String.reduceEq, beq_self_eq_true, Bool.and_false, Bool.false_and, Bool.or_false, Bool.false_or, Bool.or_true, Bool.true_or, Bool.and_self, Bool.or_self, Bool.true_and]; done)))
local macro_rules | `(tactic| walk_at "go") => `(tactic| (repeat walk_at "go1"))
theorem set_snoc {h : VH} {o o' : Ob} : (h ++ [o]).set h.length o' = h ++ [o'] := by
  rw [List.set_append_right _ _ (Nat.le_refl _), Nat.sub_self]
  rfl
namespace K82
def outText (o : Out) : Str := match o.2 with
  | none => o.1
  | some n => o.1 ++ ("=" : Str) ++ Str.ofString (toString n)
structure OutOk (o : Out) : Prop where
  ok : Ok o.1
  num : ∀ n, o.2 = some n → n.natAbs.log2 < 1920
  len : (outText o).length ≤ 5000
theorem output_text_ok {n : Nat} {v : VV} {o : Out} {h : VH} (I : It h v o) (ho : OutOk o) (c : Clo h) : run PK (n + 1) 4 noCl (some [v]) h = .ok (.str (outText o)) h := by
  obtain ⟨w, i⟩ := o
  refine eq_wp (run_wp rfl rfl ?_)
  show (exs (envP PK n) b_output_text [some v] h).wp _ _
  unfold b_output_text
  cases i with
  | none =>
    obtain rfl : v = .str w := I
    walk_at "go"
    exact fin_wp0 (m := 1) rfl c rfl (by decide) ⟨rfl, rfl⟩
  | some k =>
    obtain ⟨t, S⟩ := I
    have hk := ho.num k rfl
    have hl := ho.len
    have e1 : Str.empty ++ w = w := Str.empty_append w
    walk_at "go"
    refine S.isiStr ?_
    walk_at "go"
    refine wp_eq (S.idx rfl) ?_
    have l1 : (w ++ ("=" : Str) ++ Str.ofString (toString k)).length ≤ 5000 := hl
    have l2 := l1
    rw [Str.length_append, Str.length_append] at l2
    refine wO (a := w) (by unfold partS; dsimp only; rw [if_pos ho.ok.len]) ?_
    refine wG ?_ ?_
    · rw [e1]; exact ho.ok.len
    rw [e1]
    walk_at "go"
    refine wO (a := ("=" : Str)) (by unfold partS; dsimp only; rw [if_pos (by decide)]) ?_
    refine wG ?_ ?_
    · rw [Str.length_append]
      have : sizeLine = 16777216 := by decide
      omega
    walk_at "go"
    refine wp_eq (S.idx rfl) ?_
    refine wO (a := Str.ofString (toString k)) (by unfold partS; dsimp only; rw [if_pos hk]) ?_
    refine wG ?_ ?_
    · exact Nat.le_trans l1 (by decide)
    walk_at "go"
    exact fin_wp0 (m := 1) rfl c rfl (by decide) ⟨rfl, rfl⟩
theorem tuple_ref {h : VH} {k : Nat} {xs : List VV} (e : h[k]? = some (.lst xs)) : bfnS .tuple [.ref k] h = .ok (.tup xs) h := by
  show Rs.of ((tupS (.ref k) h).map VV.tup) h = _
  have : tupS (.ref k) h = some xs := by
    unfold tupS lstOf
    dsimp only
    rw [e]
  rw [this]
  rfl
theorem tr_enc (o : Out) : tr 2 (enc o) = true := by
  obtain ⟨w, i⟩ := o
  cases i <;> rfl
theorem tr_encs (os : List Out) : tr 3 (.tup (os.map enc)) = true := by
  unfold tr
  exact trL_all.mpr fun x hx => by
    obtain ⟨o, _, rfl⟩ := List.mem_map.mp hx
    exact tr_enc o
/-- a row's items -/
inductive Its (h : VH) : List VV → List Out → Prop where
  | nil : Its h [] []
  | cons {v : VV} {o : Out} {vs : List VV} {os : List Out} (a : It h v o) (b : Its h vs os) : Its h (v :: vs) (o :: os)
theorem Its.encs {h : VH} : ∀ os : List Out, Its h (os.map enc) os
  | [] => .nil
  | o :: os => .cons (It.enc o) (Its.encs os)
theorem Its.length {h : VH} {vs : List VV} {os : List Out} (I : Its h vs os) : vs.length = os.length := by
  induction I with
  | nil => rfl
  | cons _ _ ih => simp [ih]
theorem It.keep {h l : VH} {v : VV} {o : Out} (I : It h v o) : It (h ++ l) v o := by
  obtain ⟨w, i⟩ := o
  cases i with
  | none => exact I
  | some k => obtain ⟨t, S⟩ := I; exact ⟨t, S.keep⟩
theorem Its.keep {h l : VH} : ∀ {vs : List VV} {os : List Out}, Its h vs os → Its (h ++ l) vs os
  | _, _, .nil => .nil
  | _, _, .cons a b => .cons a.keep b.keep
theorem Its.zip {h : VH} {vs : List VV} {os : List Out} (I : Its h vs os) : ∃ l : List (VV × Out), vs = l.map (·.1) ∧ os = l.map (·.2) ∧ ∀ p ∈ l, It h p.1 p.2 := by
  induction I with
  | nil => exact ⟨[], rfl, rfl, fun p hp => nomatch hp⟩
  | cons a _ ih =>
    rename_i v o vs os _
    obtain ⟨l, e1, e2, e3⟩ := ih
    refine ⟨(v, o) :: l, by simp [e1], by simp [e2], fun p hp => ?_⟩
    rcases List.mem_cons.mp hp with rfl | hp
    · exact a
    · exact e3 p hp
def RowOk (os : List Out) : Prop := (∀ o ∈ os, OutOk o) ∧ os.length ≤ 1000
/-- need_row's list at the end: tuples for the pairs -/
theorem need_row_ok {n : Nat} {v : VV} {xs : List VV} {os : List Out} {t : String} {h : VH} (S : SeqV h v xs t) (I : Its h xs os) (ho : RowOk os) (hn : ∀ o ∈ os, isName o.1 = true) (c : Clo h) : run PK (n + 3) 3 noCl (some [v]) h = .ok (.tup (os.map enc)) h := by
  obtain ⟨l, e1, e2, e3⟩ := I.zip
  have ml : ∀ p ∈ l, It h p.1 p.2 ∧ OutOk p.2 ∧ isName p.2.1 = true := fun p hp => ⟨e3 p hp, ho.1 _ (by rw [e2]; exact List.mem_map_of_mem hp), hn _ (by rw [e2]; exact List.mem_map_of_mem hp)⟩
  have ll : l.length ≤ 1000 := by have := ho.2; rw [e2, List.length_map] at this; exact this
  refine eq_wp (run_wp rfl rfl ?_)
  show (exs (envP PK (n + 2)) b_need_row [some v, none, none] h).wp _ _
  unfold b_need_row
  walk_at "go"
  refine S.isi ?_
  walk_at "go"
  refine S.for true (fun pre post σ h' => h' = h ∧ (∃ a b, σ = [some v, a, b]) ∧ ∃ l1 l2, l = l1 ++ l2 ∧ pre = l1.map (·.1) ∧ post = l2.map (·.1)) ⟨rfl, ⟨_, _, rfl⟩, [], l, rfl, rfl, e1⟩ (fun pre x post σ h' ⟨q1, ⟨a, b, q2⟩, l1, l2, q3, q4, q5⟩ => ?_) (fun pre post σ h' ⟨q1, _, l1, l2, q3, q4, q5⟩ k ek ev => ?_) fun pre σ h' ⟨q1, ⟨a, b, q2⟩, _⟩ => ?_
  · subst q1 q2
    cases l2 with
    | nil => cases q5
    | cons p l2 =>
      rw [List.map_cons] at q5
      injection q5 with q6 q7
      subst q6
      obtain ⟨i1, i2, i3⟩ := ml p (by rw [q3]; simp)
      rw [wp_forF]
      refine wO rfl ?_
      walk_at "go"
      refine wp_eq (is_output_it (n := n) i1 i2.ok c) ?_
      rw [i3]
      walk_at "go"
      exact ⟨rfl, ⟨_, _, rfl⟩, l1 ++ [p], l2, by rw [q3]; simp, by rw [q4]; simp, q7⟩
  · rw [q1, ek, e1, q3, q4, q5, List.map_append]
  · subst q1 q2
    walk_at "go"
    refine S.lc (f := fun p : VV × Out => p.1) (g := fun p => some (enc p.2)) e1 (by omega) (fun p hp => ?_) ?_
    · obtain ⟨i1, i2, i3⟩ := ml p hp
      obtain ⟨y, w, i⟩ := p
      refine eq_wp ?_
      rw [wp_lcF]
      cases i with
      | none =>
        obtain rfl : y = .str w := i1
        walk_at "go"
        exact ⟨rfl, rfl⟩
      | some k =>
        obtain ⟨t', S'⟩ := i1
        walk_at "go"
        refine S'.isiStr ?_
        walk_at "go"
        refine wp_eq (S'.idx rfl) ?_
        walk_at "go"
        refine wp_eq (S'.idx rfl) ?_
        walk_at "go"
        exact ⟨rfl, rfl⟩
    · walk_at "go"
      have em : l.filterMap (fun p => some (enc p.2)) = os.map enc := by
        rw [e2, List.map_map, List.filterMap_eq_map']
        rfl
      rw [em]
      refine wp_eq (tuple_ref at_snoc) ?_
      walk_at "go"
      exact fin_wp rfl c (frz_tr (tr_le (tr_encs os) (by decide))) ⟨rfl, rfl⟩
end K82
end Mini
end
section
set_option Elab.async false
set_option linter.all false
set_option maxRecDepth 100000
set_option maxHeartbeats 2000000
/-! Plain, part 5 (k82): rows that are none; a row's text. -/
namespace Mini
open PySem L2
local macro_rules | `(tactic| walk_at "go1") => `(tactic| first
  | with_reducible apply wxs_cons'
  | with_reducible apply wxs_nil'
  | with_reducible apply nxt_nx'
  | with_reducible apply nxt_rt'
  | with_reducible apply nxt_bk'
  | with_reducible apply nxt_ct'
  | with_reducible apply we_var'
  | with_reducible apply we_cst'
  | with_reducible apply ws_cons'
  | with_reducible apply ws_nil'
  | ((with_reducible apply wSlot); exact rfl)
  | with_reducible apply we_fcl'
  | with_reducible apply we_cmp'
  | with_reducible apply we_idx'
  | with_reducible apply we_bin'
  | with_reducible apply wt_val'
  | with_reducible apply we_tup'
  | with_reducible apply we_lst'
  | with_reducible apply we_bcl'
  | with_reducible apply wx_set'
  | with_reducible apply wx_ret'
  | with_reducible apply wx_ife'
  | with_reducible apply wx_exp'
  | with_reducible apply wx_unp'
  | with_reducible apply wx_par'
  | with_reducible apply wx_sub'
  | with_reducible apply wx_rse'
  | with_reducible apply wx_brk'
  | with_reducible apply wx_cnt'
  | with_reducible apply wx_for'
  | with_reducible apply we_and'
  | with_reducible apply we_or'
  | with_reducible apply we_not'
  | with_reducible apply we_ife'
  | with_reducible apply we_neg'
  | with_reducible apply we_chn'
  | with_reducible apply we_dct'
  | with_reducible apply we_slc'
  | with_reducible apply we_att'
  | with_reducible apply we_isi'
  | with_reducible apply we_mcl'
  | with_reducible apply we_lc'
  | with_reducible apply we_fst'
  | with_reducible apply wf_nil'
  | with_reducible apply wf_cons'
  | with_reducible apply wt_yes'
  | with_reducible apply wt_and'
  | with_reducible apply wt_or'
  | with_reducible apply wt_not'
  | with_reducible apply endQ_rt'
  | with_reducible apply endQ_nx'
  | with_reducible apply wpB_t'
  | with_reducible apply wpB_f'
  | with_reducible apply wpB_nt'
  | with_reducible apply wpB_nf'
  | (with_reducible apply wTru)
  | ((with_reducible apply wBt); with_reducible assumption)
  | ((with_reducible apply wBf); with_reducible assumption)
  | ((with_reducible apply wGle); exact rfl)
  | ((with_reducible apply wGrc); first | exact rfl | assumption)
  | ((with_reducible apply wGdc); exact rfl; exact rfl)
  | ((with_reducible apply wGeq); exact rfl)
  | ((with_reducible apply wOpt); exact rfl)
  | ((with_reducible apply wTup); exact rfl)
  | ((with_reducible apply wUnp); exact rfl)
  | ((with_reducible apply wTg); exact rfl)
  | ((with_reducible apply wNeg); exact rfl)
  | ((with_reducible apply wBop); exact rfl)
  | ((with_reducible apply wIsi (b := true)); (first | exact rfl | assumption); (first | exact rfl | assumption); focus (simp only [List.any_cons, List.any_nil, isTy, String.reduceBEq, String.reduceEq, beq_self_eq_true, Bool.and_false, Bool.false_and, Bool.or_false, Bool.false_or, Bool.or_true, Bool.true_or, Bool.and_self, Bool.or_self, Bool.true_and]; done))
  | ((with_reducible apply wIsi (b := false)); (first | exact rfl | assumption); (first | exact rfl | assumption); focus (simp only [List.any_cons, List.any_nil, isTy, String.reduceBEq, String.reduceEq, beq_self_eq_true, Bool.and_false, Bool.false_and, Bool.or_false, Bool.false_or, Bool.or_true, Bool.true_or, Bool.and_self, Bool.or_self, Bool.true_and]; done)))
local macro_rules | `(tactic| walk_at "go") => `(tactic| (repeat walk_at "go1"))
namespace K82
/-- a thing that is no output -/
def Bad (h : VH) (v : VV) : Prop := (okF v ∧ nameV v = false) ∨ ∃ t xs, SeqV h v xs t ∧ (∀ x ∈ xs, okF x) ∧ xs.length ≤ 1000 ∧ out2 xs = false
theorem is_output_bad {n : Nat} {v : VV} {h : VH} (B : Bad h v) (c : Clo h) : run PK (n + 2) 2 noCl (some [v]) h = .ok (.bl false) h := by
  rcases B with ⟨b1, b2⟩ | ⟨t, xs, S, b1, b2, b3⟩
  · rw [is_output_flat b1 c, b2]
  · rw [is_output_seq S b1 b2 c, b3]
theorem need_row_flat {n : Nat} {v : VV} {h : VH} (hv : isFlat v = true ∨ ∃ k ks vs, v = .ref k ∧ h[k]? = some (.dic ks vs)) (c : Clo h) : run PK (n + 1) 3 noCl (some [v]) h = .exc 1 ["at"] [.non] h := by
  refine eq_wpX (run_wp rfl rfl ?_)
  show (exs (envP PK n) b_need_row [some v, none, none] h).wp _ _
  unfold b_need_row
  have fx : ∀ Q : VV → VH → Prop, endX h.length Q (fun c' ns' vs' h' => c' = 1 ∧ ns' = [("at" : Str)] ∧ vs' = [VV.non] ∧ h' = h) 1 [("at" : Str)] [.non] h := fun Q => by
    have := finX_wp (c := 1) (ns := [("at" : Str)]) (vs := [VV.non]) (ts := [VV.non]) (l := []) (h1 := h) (n := h.length) (Q := Q) (E := fun c' ns' vs' h' => c' = 1 ∧ ns' = [("at" : Str)] ∧ vs' = [VV.non] ∧ h' = h) rfl c rfl ⟨rfl, rfl, rfl, rfl⟩
    rw [List.append_nil] at this
    exact this
  rcases hv with hv | ⟨k, ks, vs, rfl, e⟩
  · cases v <;> first | (exact nomatch (show false = true from hv)) | skip
    all_goals
      walk_at "go"
      exact fx _
  · walk_at "go"
    refine wIsi (b := false) (t := .bi "dict") (by unfold tyOf; dsimp only; rw [e]) (by unfold knownTy; dsimp only; rw [e]) rfl ?_
    walk_at "go"
    exact fx _
/-- the first one that is none tells its place -/
theorem need_row_bad {n : Nat} {v x : VV} {xs ys : List VV} {os : List Out} {t : String} {h : VH} (S : SeqV h v (xs ++ x :: ys) t) (I : Its h xs os) (ho : ∀ o ∈ os, OutOk o) (hn : ∀ o ∈ os, isName o.1 = true) (B : Bad h x) (c : Clo h) :
    run PK (n + 3) 3 noCl (some [v]) h = .exc 1 ["at"] [.int (xs.length : Int)] h := by
  obtain ⟨l, e1, e2, e3⟩ := I.zip
  have ml : ∀ p ∈ l, It h p.1 p.2 ∧ OutOk p.2 ∧ isName p.2.1 = true := fun p hp => ⟨e3 p hp, ho _ (by rw [e2]; exact List.mem_map_of_mem hp), hn _ (by rw [e2]; exact List.mem_map_of_mem hp)⟩
  refine eq_wpX (run_wp rfl rfl ?_)
  show (exs (envP PK (n + 2)) b_need_row [some v, none, none] h).wp _ _
  unfold b_need_row
  walk_at "go"
  refine S.isi ?_
  walk_at "go"
  refine S.for true (fun pre post σ h' => h' = h ∧ (∃ a b, σ = [some v, a, b]) ∧ ∃ l1 l2, l = l1 ++ l2 ∧ pre = l1.map (·.1) ∧ post = l2.map (·.1) ++ x :: ys) ⟨rfl, ⟨_, _, rfl⟩, [], l, rfl, rfl, by rw [e1]⟩ (fun pre y post σ h' ⟨q1, ⟨a, b, q2⟩, l1, l2, q3, q4, q5⟩ => ?_) (fun pre post σ h' ⟨q1, _, l1, l2, q3, q4, q5⟩ k ek ev => ?_) fun pre σ h' ⟨q1, _, l1, l2, q3, q4, q5⟩ => ?_
  · subst q1 q2
    cases l2 with
    | nil =>
      rw [List.map_nil, List.nil_append] at q5
      injection q5 with q6 q7
      subst q6
      rw [wp_forF]
      refine wO rfl ?_
      walk_at "go"
      refine wp_eq (is_output_bad (n := n) B c) ?_
      walk_at "go"
      have ep : pre.length = xs.length := by rw [q4, e1, q3, List.append_nil]
      have := finX_wp (c := 1) (ns := [("at" : Str)]) (vs := [VV.int (pre.length : Int)]) (ts := [VV.int (pre.length : Int)]) (l := []) (h1 := h') (n := h'.length) (Q := fun _ _ => False) (E := fun c' ns' vs' h'' => c' = 1 ∧ ns' = [("at" : Str)] ∧ vs' = [VV.int (xs.length : Int)] ∧ h'' = h') rfl c rfl ⟨rfl, rfl, by rw [ep], rfl⟩
      rw [List.append_nil] at this
      exact this
    | cons p l2 =>
      rw [List.map_cons, List.cons_append] at q5
      injection q5 with q6 q7
      subst q6
      obtain ⟨i1, i2, i3⟩ := ml p (by rw [q3]; simp)
      rw [wp_forF]
      refine wO rfl ?_
      walk_at "go"
      refine wp_eq (is_output_it (n := n) i1 i2.ok c) ?_
      rw [i3]
      walk_at "go"
      exact ⟨rfl, ⟨_, _, rfl⟩, l1 ++ [p], l2, by rw [q3]; simp, by rw [q4]; simp, q7⟩
  · rw [q1, ek, e1, q3, q4, q5, List.map_append, List.append_assoc]
  · have := congrArg List.length q5
    simp at this
/-! ### a row's text -/
def rowText (os : List Out) : Str := if os.isEmpty = true then ("-" : Str) else Txt.join (" " : Str) (os.map outText)
def datOut (o : Out) : PyData := match o.2 with
  | none => .str o.1
  | some n => .tuple [.str o.1, .int n]
theorem dat_enc {n : Nat} {h : VH} (o : Out) : dat (n + 2) h (enc o) = some (datOut o) := by
  obtain ⟨w, i⟩ := o
  cases i with
  | none => unfold enc dat; rfl
  | some k => exact dat_tup (by unfold mapO dat; rfl)
theorem dat_encs {n : Nat} {h : VH} (os : List Out) : mapO (dat (n + 2) h) (os.map enc) = some (os.map datOut) := by
  induction os with
  | nil => rfl
  | cons o os ih => exact mapO_consP (dat_enc o) ih
theorem lay_out {o : Out} (h : Ok o.1) : PyData.canLay0 (datOut o) = true := by
  obtain ⟨w, i⟩ := o
  cases i <;> simp only [datOut, PyData.canLay0, PyData.canLayAll0, h.1, Bool.and_self]
theorem lay_outs : ∀ {os : List Out}, (∀ o ∈ os, Ok o.1) → PyData.canLayAll0 (os.map datOut) = true
  | [], _ => by simp only [List.map_nil, PyData.canLayAll0]
  | o :: os, h => by
    simp only [List.map_cons, PyData.canLayAll0, lay_out (h o List.mem_cons_self), lay_outs fun p hp => h p (List.mem_cons_of_mem _ hp), Bool.and_self]
theorem dep_outs : ∀ {os : List Out}, PyData.depthAll (os.map datOut) ≤ 1
  | [] => by simp only [List.map_nil, PyData.depthAll]; decide
  | o :: os => by
    have ih := dep_outs (os := os)
    obtain ⟨w, i⟩ := o
    cases i <;> simp only [List.map_cons, PyData.depthAll, datOut, PyData.depth] <;> omega
theorem ne_nil {h : VH} {os : List Out} (ho : ∀ o ∈ os, Ok o.1) : copS .ne (.tup (os.map enc)) (.tup []) h = some (!os.isEmpty) := by
  refine ne_of_eq ?_
  unfold copS
  dsimp only
  rw [eqS_of (dat_tup (dat_encs (n := 5) os)) (dat_tup (n := 7) (xs := []) rfl) (shp_tup (lay_outs ho) (Nat.le_trans dep_outs (by decide))) (shp_tup (by simp only [PyData.canLayAll0]) (by simp only [PyData.depthAll]; decide))]
  simp only [PyData.eqv, eqvAll_nil]
  cases os <;> rfl
theorem strs_of : ∀ ss : List Str, strsOf (ss.map VV.str) = some ss
  | [] => rfl
  | s :: ss => mapO_consP rfl (strs_of ss)
theorem join_ref {h : VH} {k : Nat} {a : Str} {ss : List Str} (e : h[k]? = some (.lst (ss.map VV.str))) (hl : (ss.map (·.length)).sum + ss.length * a.length ≤ 16777216) : bmt1 .join (.str a) (.ref k) h = .ok (.str (Txt.join a ss)) h := by
  show mJoin a (.ref k) h = _
  unfold mJoin
  rw [seq_ref e]
  simp only [Option.bind, strs_of]
  rw [if_pos hl]
theorem sum_le {α : Type} {f : α → Nat} {B : Nat} : ∀ {l : List α}, (∀ x ∈ l, f x ≤ B) → (l.map f).sum ≤ l.length * B
  | [], _ => by simp
  | x :: l, h => by
    have h1 := h x List.mem_cons_self
    have h2 := sum_le fun y hy => h y (List.mem_cons_of_mem (a := y) x hy)
    rw [List.map_cons, List.sum_cons, List.length_cons, Nat.add_mul]
    omega
theorem row_text_ok {n : Nat} {v : VV} {xs : List VV} {os : List Out} {t : String} {h : VH} (S : SeqV h v xs t) (I : Its h xs os) (ho : RowOk os) (hn : ∀ o ∈ os, isName o.1 = true) (c : Clo h) : run PK (n + 4) 5 noCl (some [v]) h = .ok (.str (rowText os)) h := by
  refine eq_wp (run_wp rfl rfl ?_)
  show (exs (envP PK (n + 3)) b_row_text [some v, none, none] h).wp _ _
  unfold b_row_text
  walk_at "go"
  refine wp_eq (need_row_ok S I ho hn c) ?_
  walk_at "go"
  refine wO (ne_nil fun o h => (ho.1 o h).ok) ?_
  walk_at "go"
  refine wB (fun e => ?_) fun e => ?_
  · have e : os.isEmpty = false := by simpa using e
    walk_at "go"
    refine SeqV.tup.lc (f := enc) (g := fun o => some (.str (outText o))) rfl (Nat.le_trans ho.2 (by decide)) (fun o hm => ?_) ?_
    · refine eq_wp ?_
      rw [wp_lcF]
      walk_at "go"
      refine wp_eq (output_text_ok (n := n + 2) (It.enc o) (ho.1 o hm) c) ?_
      exact ⟨rfl, rfl⟩
    · have em : os.filterMap (fun o => some (VV.str (outText o))) = (os.map outText).map VV.str := by
        rw [List.map_map, List.filterMap_eq_map']
        rfl
      rw [em]
      refine wp_eq (join_ref (ss := os.map outText) at_snoc ?_) ?_
      · have hs := sum_le (f := fun o => (outText o).length) (B := 5000) (l := os) fun o hm => (ho.1 o hm).len
        have h2 := ho.2
        have h3 : (" " : Str).length = 1 := by decide
        rw [List.map_map, List.length_map, h3]
        have h4 : (List.map ((fun x => x.length) ∘ outText) os).sum = (os.map fun o => (outText o).length).sum := rfl
        rw [h4]
        have h5 : os.length * 5000 ≤ 1000 * 5000 := Nat.mul_le_mul_right _ h2
        omega
      · walk_at "go"
        refine fin_wp rfl c (frz_tr (n := 30) rfl) ⟨?_, rfl⟩
        unfold rowText
        rw [e]
        rfl
  · have e : os.isEmpty = true := by simpa using e
    walk_at "go"
    refine fin_wp0 (m := 1) rfl c rfl (by decide) ⟨?_, rfl⟩
    unfold rowText
    rw [e]
    rfl
/-- what need_row raises, row_text lets out -/
theorem row_text_exc {n : Nat} {v : VV} {h : VH} {w : VV} (ht : tr 1 w = true) (e : run PK (n + 3) 3 noCl (some [v]) h = .exc 1 ["at"] [w] h) (c : Clo h) : run PK (n + 4) 5 noCl (some [v]) h = .exc 1 ["at"] [w] h := by
  refine eq_wpX (run_wp rfl rfl ?_)
  show (exs (envP PK (n + 3)) b_row_text [some v, none, none] h).wp _ _
  unfold b_row_text
  walk_at "go"
  refine wp_eqX e ?_
  have := finX_wp (c := 1) (ns := [("at" : Str)]) (vs := [w]) (ts := [w]) (l := []) (h1 := h) (n := h.length) (Q := fun _ _ => False) (E := fun c' ns' vs' h' => c' = 1 ∧ ns' = [("at" : Str)] ∧ vs' = [w] ∧ h' = h) rfl c (mapO_consP (frz_tr (tr_le ht (by decide))) rfl) ⟨rfl, rfl, rfl, rfl⟩
  rw [List.append_nil] at this
  exact this
end K82
end Mini
end
section
set_option Elab.async false
set_option linter.all false
set_option maxRecDepth 100000
set_option maxHeartbeats 2000000
/-! Plain, part 6: texts of numbers. -/
namespace Mini
open PySem L2
open TL (tl)
theorem start_one {s : Str} {c : Nat} : Txt.startswith s ⟨#[c]⟩ = ((tl s).head? == some c) := by
  unfold Txt.startswith
  rw [StrLaws.subAt_eq]
  have hl : s.length = (tl s).length := TL.len_tl s
  have h1 : (⟨#[c]⟩ : Str).length = 1 := rfl
  rw [h1, hl]
  show (decide (0 + 1 ≤ (tl s).length) && (((tl s).drop 0).take 1 == [c])) = _
  cases tl s with
  | nil => rfl
  | cons d r =>
    simp
theorem cut_one {s : Str} : tl (cutS s (some 1) none) = (tl s).drop 1 := by
  unfold cutS
  show ((tl s).drop (HT.sIx s.length 0 (some 1))).take (HT.sIx s.length s.length none - HT.sIx s.length 0 (some 1)) = _
  have hl : s.length = (tl s).length := TL.len_tl s
  have e1 : HT.sIx s.length 0 (some ((1 : Nat) : Int)) = min 1 s.length := HT.sIx_nat _ _ _
  have e2 : HT.sIx s.length s.length none = s.length := rfl
  have e1' : HT.sIx s.length 0 (some 1) = min 1 s.length := e1
  rw [e1', e2]
  by_cases h : 1 ≤ s.length
  · rw [Nat.min_eq_left h]
    rw [List.take_of_length_le]
    rw [List.length_drop]
    omega
  · have : (tl s) = [] := List.length_eq_zero_iff.mp (by omega)
    rw [this]
    simp
def digL (l : List Nat) : Bool := l.all fun c => decide (48 ≤ c) && decide (c ≤ 57)
theorem digL_all {l : List Nat} (h : digL l = true) : NumText.AllDigits l := fun c hc => by
  have := List.all_eq_true.mp h c hc
  simpa using this
def bodyL (l : List Nat) : List Nat := if (l.head? == some 45) = true then l.drop 1 else l
/-- a number as it is written, of at most 4,000 figures -/
def canL (l : List Nat) : Bool := !(bodyL l).isEmpty && (decide ((bodyL l).length ≤ 4000) && (digL (bodyL l) && !(((bodyL l).head? == some 48) && !(l == [48]))))
theorem char_back : ∀ {l : List Nat}, NumText.AllDigits l → (l.map Char.ofNat).map Char.toNat = l
  | [], _ => rfl
  | c :: l, h => by
    have hc := h.head
    rw [List.map_cons, List.map_cons, char_back h.tail]
    have : ∀ d, 48 ≤ d → d ≤ 57 → (Char.ofNat d).toNat = d := by
      intro d h1 h2
      have : d = 48 ∨ d = 49 ∨ d = 50 ∨ d = 51 ∨ d = 52 ∨ d = 53 ∨ d = 54 ∨ d = 55 ∨ d = 56 ∨ d = 57 := by omega
      rcases this with rfl | rfl | rfl | rfl | rfl | rfl | rfl | rfl | rfl | rfl <;> rfl
    rw [this c hc.1 hc.2]
theorem numL_val_back {l : List Nat} (h : NumText.AllDigits l) (hh : l.length = 1 ∨ ∃ c r, l = c :: r ∧ 49 ≤ c) (hne : l ≠ []) : TL.numL (NumText.digitsVal l) = l := by
  unfold TL.numL
  have hl : l.length = (l.length - 1) + 1 := by
    have := List.length_pos_iff.mpr hne
    omega
  rw [NumText.toDigits_digitsVal (l.length - 1) l hl h (by
    rcases hh with e | e
    · exact .inl (by omega)
    · exact .inr e)]
  exact char_back h
theorem toS_nat (n : Nat) : tl (Str.ofString (toString (n : Int))) = TL.numL n := TL.tl_num n
theorem toS_neg (n : Nat) (h : 0 < n) : tl (Str.ofString (toString (-(n : Int)))) = 45 :: TL.numL n := by
  obtain ⟨m, rfl⟩ : ∃ m, n = m + 1 := ⟨n - 1, by omega⟩
  have e : toString (-((m + 1 : Nat) : Int)) = "-" ++ toString ((m + 1 : Nat) : Int) := rfl
  rw [e, TL.tl_ofString, String.toList_append, List.map_append]
  have e2 := toS_nat (m + 1)
  rw [TL.tl_ofString] at e2
  rw [e2]
  rfl
/-- a number's text is as it is written -/
theorem can_read {s : Str} (h : canL (tl s) = true) : ∃ k : Int, intText? s = some k ∧ Str.ofString (toString k) = s := by
  unfold canL at h
  simp only [Bool.and_eq_true, Bool.not_eq_true', decide_eq_true_eq] at h
  obtain ⟨h1, h2, h3, h4⟩ := h
  have hb : bodyL (tl s) ≠ [] := fun e => by rw [e] at h1; cases h1
  have hd := digL_all h3
  have hls : s.length = (tl s).length := TL.len_tl s
  by_cases hm : ((tl s).head? == some 45) = true
  · have eb : bodyL (tl s) = (tl s).drop 1 := if_pos hm
    cases hs : tl s with
    | nil => rw [hs] at hm; cases hm
    | cons c r =>
      rw [hs] at hm eb
      have hc : c = 45 := by simpa using hm
      subst hc
      rw [List.drop_one, List.tail_cons] at eb
      rw [hs] at hb h2 hd h4
      rw [eb] at hb h2 hd h4
      refine ⟨_, intText_neg (cs := r) hs hd hb ?_, ?_⟩
      · rw [hls, hs, List.length_cons]; omega
      · have h49 : ∃ c t, r = c :: t ∧ 49 ≤ c := by
          cases hr : r with
          | nil => exact absurd hr hb
          | cons d t =>
            refine ⟨d, t, rfl, ?_⟩
            rw [hr] at hd h4
            have := hd.head
            have h5 : ¬ d = 48 := fun e => by
              rw [e] at h4
              simp at h4
            omega
        obtain ⟨d, t, er, hd49⟩ := h49
        refine TL.ext_tl ?_
        rw [toS_neg _ (by rw [er]; exact NumText.digitsVal_pos hd49), numL_val_back hd (.inr ⟨d, t, er, hd49⟩) hb, hs]
  · have eb : bodyL (tl s) = tl s := if_neg hm
    rw [eb] at hb h2 hd h4
    refine ⟨_, intText_digits hd hb (by omega), ?_⟩
    refine TL.ext_tl ?_
    rw [toS_nat]
    refine numL_val_back hd ?_ hb
    cases hs : tl s with
    | nil => exact absurd hs hb
    | cons d t =>
      rw [hs] at hd h4
      have := hd.head
      by_cases h5 : d = 48
      · subst h5
        cases t with
        | nil => exact .inl (congrArg List.length hs)
        | cons _ _ => simp at h4
      · exact .inr ⟨d, t, hs, by omega⟩
theorem numL_head {n : Nat} (h : 0 < n) : ∃ c r, TL.numL n = c :: r ∧ 49 ≤ c := by
  induction n using Nat.strongRecOn with
  | _ n ih =>
    by_cases h10 : n < 10
    · rw [TL.numL_lt h10]
      exact ⟨48 + n, [], rfl, by omega⟩
    · rw [TL.numL_step (by omega)]
      obtain ⟨c, r, e, hc⟩ := ih (n / 10) (by omega) (by omega)
      exact ⟨c, r ++ [48 + n % 10], by rw [e]; rfl, hc⟩
theorem numL_dig (n : Nat) : digL (TL.numL n) = true := List.all_eq_true.mpr fun c hc => by
  have := TL.numL_digits n c hc
  simp [this.1, this.2]
theorem can_toS {k : Int} (h : k.natAbs < 10 ^ 4000) : canL (tl (Str.ofString (toString k))) = true := by
  have key : ∀ n : Nat, n < 10 ^ 4000 → (TL.numL n).length ≤ 4000 := fun n hn => TL.numL_len (by decide) hn
  rcases Int.natAbs_eq k with e | e
  · rw [e, toS_nat]
    generalize hn : k.natAbs = n at *
    have h1 : bodyL (TL.numL n) = TL.numL n := by
      refine if_neg fun z => ?_
      have hd := TL.numL_digits n
      cases hl : TL.numL n with
      | nil => exact TL.numL_ne n hl
      | cons c r =>
        rw [hl] at z hd
        have : c = 45 := by simpa using z
        have := hd.head
        omega
    unfold canL
    rw [h1, numL_dig, decide_eq_true (key n h)]
    have h2 : (TL.numL n).isEmpty = false := by
      cases hl : TL.numL n with
      | nil => exact absurd hl (TL.numL_ne n)
      | cons _ _ => rfl
    rw [h2]
    by_cases h0 : n = 0
    · subst h0; rfl
    · obtain ⟨c, r, e, hc⟩ := numL_head (n := n) (by omega)
      rw [e]
      have : (c == 48) = false := by simp; omega
      simp [this]
  · by_cases h0 : k.natAbs = 0
    · rw [h0] at e
      have : k = 0 := by simpa using e
      subst this
      decide
    · rw [e, toS_neg _ (by omega)]
      generalize hn : k.natAbs = n at *
      have h1 : bodyL (45 :: TL.numL n) = TL.numL n := rfl
      unfold canL
      rw [h1, numL_dig, decide_eq_true (key n h)]
      obtain ⟨c, r, e, hc⟩ := numL_head (n := n) (by omega)
      rw [e]
      have : (c == 48) = false := by simp; omega
      simp [this]
end Mini
end
section
set_option Elab.async false
set_option linter.all false
set_option maxRecDepth 100000
set_option maxHeartbeats 2000000
/-! Plain, part 7 (k82): reading. -/
namespace Mini
open PySem L2
open TL (tl)
local macro_rules | `(tactic| walk_at "go1") => `(tactic| first
  | with_reducible apply wxs_cons'
  | with_reducible apply wxs_nil'
  | with_reducible apply nxt_nx'
  | with_reducible apply nxt_rt'
  | with_reducible apply nxt_bk'
  | with_reducible apply nxt_ct'
  | with_reducible apply we_var'
  | with_reducible apply we_cst'
  | with_reducible apply ws_cons'
  | with_reducible apply ws_nil'
  | ((with_reducible apply wSlot); exact rfl)
  | with_reducible apply we_fcl'
  | with_reducible apply we_cmp'
  | with_reducible apply we_idx'
  | with_reducible apply we_bin'
  | with_reducible apply wt_val'
  | with_reducible apply we_tup'
  | with_reducible apply we_lst'
  | with_reducible apply we_bcl'
  | with_reducible apply wx_set'
  | with_reducible apply wx_ret'
  | with_reducible apply wx_ife'
  | with_reducible apply wx_exp'
  | with_reducible apply wx_unp'
  | with_reducible apply wx_par'
  | with_reducible apply wx_sub'
  | with_reducible apply wx_rse'
  | with_reducible apply wx_brk'
  | with_reducible apply wx_cnt'
  | with_reducible apply wx_for'
  | with_reducible apply we_and'
  | with_reducible apply we_or'
  | with_reducible apply we_not'
  | with_reducible apply we_ife'
  | with_reducible apply we_neg'
  | with_reducible apply we_chn'
  | with_reducible apply we_dct'
  | with_reducible apply we_slc'
  | with_reducible apply we_att'
  | with_reducible apply we_isi'
  | with_reducible apply we_mcl'
  | with_reducible apply we_lc'
  | with_reducible apply we_fst'
  | with_reducible apply wf_nil'
  | with_reducible apply wf_cons'
  | with_reducible apply wt_yes'
  | with_reducible apply wt_and'
  | with_reducible apply wt_or'
  | with_reducible apply wt_not'
  | with_reducible apply endQ_rt'
  | with_reducible apply endQ_nx'
  | with_reducible apply wpB_t'
  | with_reducible apply wpB_f'
  | with_reducible apply wpB_nt'
  | with_reducible apply wpB_nf'
  | (with_reducible apply wTru)
  | ((with_reducible apply wBt); with_reducible assumption)
  | ((with_reducible apply wBf); with_reducible assumption)
  | ((with_reducible apply wGle); exact rfl)
  | ((with_reducible apply wGrc); first | exact rfl | assumption)
  | ((with_reducible apply wGdc); exact rfl; exact rfl)
  | ((with_reducible apply wGeq); exact rfl)
  | ((with_reducible apply wOpt); exact rfl)
  | ((with_reducible apply wTup); exact rfl)
  | ((with_reducible apply wUnp); exact rfl)
  | ((with_reducible apply wTg); exact rfl)
  | ((with_reducible apply wNeg); exact rfl)
  | ((with_reducible apply wBop); exact rfl)
  | ((with_reducible apply wIsi (b := true)); (first | exact rfl | assumption); (first | exact rfl | assumption); focus (simp only [List.any_cons, List.any_nil, isTy, String.reduceBEq, String.reduceEq, beq_self_eq_true, Bool.and_false, Bool.false_and, Bool.or_false, Bool.false_or, Bool.or_true, Bool.true_or, Bool.and_self, Bool.or_self, Bool.true_and]; done))
  | ((with_reducible apply wIsi (b := false)); (first | exact rfl | assumption); (first | exact rfl | assumption); focus (simp only [List.any_cons, List.any_nil, isTy, String.reduceBEq, String.reduceEq, beq_self_eq_true, Bool.and_false, Bool.false_and, Bool.or_false, Bool.false_or, Bool.or_true, Bool.true_or, Bool.and_self, Bool.or_self, Bool.true_and]; done)))
local macro_rules | `(tactic| walk_at "go") => `(tactic| (repeat walk_at "go1"))
theorem starts_okP {a b : Str} {h : VH} : bmt1 .startswith (.str a) (.str b) h = .ok (.bl (Txt.startswith a b)) h := rfl
theorem slc_one {s : Str} {h : VH} (hl : s.length ≤ sizeLine) : slcS (.str s) (some 1) none h = .ok (.str (cutS s (some 1) none)) h := by
  unfold slcS
  dsimp only
  rw [if_pos hl]
theorem bls_of : ∀ bs : List Bool, blsOf (bs.map VV.bl) = some bs
  | [] => rfl
  | b :: bs => mapO_consP rfl (bls_of bs)
theorem all_ref {h : VH} {k : Nat} {bs : List Bool} (e : h[k]? = some (.lst (bs.map VV.bl))) : bfnS .all [.ref k] h = .ok (.bl (bs.all id)) h := by
  show Rs.of (((lstOf h (.ref k)).bind blsOf).map fun bs => VV.bl (bs.all id)) h = _
  have : lstOf h (.ref k) = some (bs.map VV.bl) := by
    unfold lstOf
    dsimp only
    rw [e]
  rw [this]
  simp only [Option.bind, bls_of]
  rfl
theorem ok_cut {s : Str} (h : PyData.strOk s = true) : PyData.strOk (cutS s (some 1) none) = true := by
  unfold PyData.strOk at h ⊢
  rw [← Array.all_toList] at h ⊢
  have e : (cutS s (some 1) none).cps.toList = (tl s).drop 1 := cut_one
  rw [e]
  exact List.all_eq_true.mpr fun c hc => List.all_eq_true.mp h c (List.mem_of_mem_drop hc)
theorem str_beq {a b : Str} : (a == b) = (tl a == tl b) := by
  by_cases e : a = b
  · subst e; simp
  · have : ¬ tl a = tl b := fun z => e (TL.ext_tl z)
    rw [beq_eq_false_iff_ne.mpr e, beq_eq_false_iff_ne.mpr this]
namespace K82
abbrev digs : Str := "0123456789"
def bodyS (s : Str) : Str := if (Txt.startswith s ("-" : Str)) = true then cutS s (some 1) none else s
theorem tl_body (s : Str) : tl (bodyS s) = bodyL (tl s) := by
  unfold bodyS bodyL
  rw [show ("-" : Str) = ⟨#[45]⟩ from by decide, start_one]
  split
  · exact cut_one
  · rfl
theorem body_ok {s : Str} (h : Ok s) : Ok (bodyS s) := by
  unfold bodyS
  split
  · refine ⟨ok_cut h.1, ?_⟩
    rw [TL.len_tl, cut_one, List.length_drop, ← TL.len_tl]
    have := h.2
    omega
  · exact h
def canS (s : Str) : Bool := canL (tl s)
theorem dig_mem {c : Nat} : decide (c ∈ digs.cps.toList) = (decide (48 ≤ c) && decide (c ≤ 57)) := by
  have e : digs.cps.toList = [48, 49, 50, 51, 52, 53, 54, 55, 56, 57] := by decide
  rw [e]
  by_cases h : 48 ≤ c ∧ c ≤ 57
  · rw [decide_eq_true h.1, decide_eq_true h.2]
    have : c = 48 ∨ c = 49 ∨ c = 50 ∨ c = 51 ∨ c = 52 ∨ c = 53 ∨ c = 54 ∨ c = 55 ∨ c = 56 ∨ c = 57 := by omega
    rcases this with rfl | rfl | rfl | rfl | rfl | rfl | rfl | rfl | rfl | rfl <;> rfl
  · have h2 : c ∉ [48, 49, 50, 51, 52, 53, 54, 55, 56, 57] := fun z => h (by simp at z; omega)
    rw [decide_eq_false h2]
    rcases Nat.lt_or_ge c 48 with g | g
    · rw [decide_eq_false (by omega)]; rfl
    · rw [decide_eq_false (show ¬ c ≤ 57 by omega), Bool.and_false]
theorem len_can {s : Str} (h : canS s = true) : s.length ≤ 4300 := by
  unfold canS canL at h
  simp only [Bool.and_eq_true, decide_eq_true_eq] at h
  have h2 := h.2.1
  rw [TL.len_tl]
  unfold bodyL at h2
  split at h2
  · rw [List.length_drop] at h2; omega
  · omega
theorem int_str {s : Str} {k : Int} {h : VH} (hl : s.length ≤ 4300) (e : intText? s = some k) : bfnS .int [.str s] h = .ok (.int k) h := by
  show Rs.of ((intS (.str s)).map VV.int) h = _
  unfold intS
  dsimp only
  rw [if_pos hl, e]
  rfl
theorem integer_of_ok {n : Nat} {s : Str} {h : VH} (ho : Ok s) (c : Clo h) : run PK (n + 1) 6 noCl (some [.str s]) h = .ok (if canS s = true then (match intText? s with | some k => .int k | none => .non) else .non) h := by
  refine eq_wp (run_wp rfl rfl ?_)
  show (exs (envP PK n) b_integer_of [some (.str s), none, none] h).wp _ _
  unfold b_integer_of
  have hb := body_ok ho
  have key : ∀ K : VV → VH → Prop, K (.str (bodyS s)) h → (ev (envP PK n) (.ife (.val (.mcl .startswith (.var 0) (.cst (.str ("-" : Str))))) (.slc (.var 0) (.cons (.cst (.int 1)) .nil) .nil) (.var 0)) [some (.str s), none, none] h).wp K (endX h.length (fun b' h' => b' = (if canS s = true then (match intText? s with | some k => VV.int k | none => .non) else .non) ∧ h' = h) fun _ _ _ _ => False) := fun K q => by
    walk_at "go"
    refine wp_eq starts_okP ?_
    walk_at "go"
    unfold bodyS at q
    refine wB (fun e => ?_) fun e => ?_
    · rw [if_pos e] at q
      walk_at "go"
      refine wp_eq (slc_one ho.len) ?_
      exact q
    · rw [if_neg (by rw [e]; exact Bool.false_ne_true)] at q
      walk_at "go"
      exact q
  refine wxs_cons' (wx_set' (key _ ?_))
  have nn : ∀ (x : VV) (l : VH) (hx : tr 1 x = true), x = (if canS s = true then (match intText? s with | some k => VV.int k | none => .non) else .non) → endQ false h.length (fun b' h' => b' = (if canS s = true then (match intText? s with | some k => VV.int k | none => .non) else .non) ∧ h' = h) (fun _ _ _ _ => False) (.rt x) (h ++ l) := fun x l hx e => fin_wp rfl c (frz_tr (tr_le hx (by decide))) ⟨e, rfl⟩
  have nn0 : ∀ (x : VV) (hx : tr 1 x = true), x = (if canS s = true then (match intText? s with | some k => VV.int k | none => .non) else .non) → endQ false h.length (fun b' h' => b' = (if canS s = true then (match intText? s with | some k => VV.int k | none => .non) else .non) ∧ h' = h) (fun _ _ _ _ => False) (.rt x) h := fun x hx e => fin_wp0 rfl c hx (by decide) ⟨e, rfl⟩
  have ec : canS s = (!(bodyS s == ("" : Str)) && (!(decide (4000 < ((bodyS s).length : Int))) && (((bodyS s).cps.toList.all fun c => decide (c ∈ digs.cps.toList)) && !(Txt.startswith (bodyS s) ("0" : Str) && !(s == ("0" : Str)))))) := by
    unfold canS canL
    rw [show ("0" : Str) = ⟨#[48]⟩ from by decide, start_one, tl_body, str_beq, str_beq, tl_body]
    have e1 : (tl ("" : Str)) = [] := by decide
    have e2 : (bodyL (tl s) == []) = (bodyL (tl s)).isEmpty := by cases bodyL (tl s) <;> rfl
    have e3 : (bodyS s).length = (bodyL (tl s)).length := by rw [TL.len_tl, tl_body]
    have e4 : ((bodyS s).cps.toList.all fun c => decide (c ∈ digs.cps.toList)) = digL (bodyL (tl s)) := by
      rw [show (bodyS s).cps.toList = bodyL (tl s) from tl_body s]
      unfold digL
      congr 1
      funext c
      exact dig_mem
    rw [e1, e2, e3, e4]
    have e5 : (!decide (4000 < ((bodyL (tl s)).length : Int))) = decide ((bodyL (tl s)).length ≤ 4000) := by
      by_cases q : (bodyL (tl s)).length ≤ 4000
      · rw [decide_eq_true q, decide_eq_false (by omega)]; rfl
      · rw [decide_eq_false q, decide_eq_true (by omega)]; rfl
    rw [e5]
  walk_at "go"
  refine wO (eq_str hb.1 (by decide +kernel)) ?_
  walk_at "go"
  refine wB (fun b1 => ?_) fun b1 => ?_
  · walk_at "go"
    refine nn0 .non rfl ?_
    rw [if_neg (by rw [ec, b1]; simp)]
  · walk_at "go"
    refine wp_eq (len_str hb.len) ?_
    walk_at "go"
    refine wO (show copS .gt (.int ((bodyS s).length : Int)) (.int 4000) h = some (decide (4000 < ((bodyS s).length : Int))) from rfl) ?_
    walk_at "go"
    refine wB (fun b2 => ?_) fun b2 => ?_
    · walk_at "go"
      refine nn0 .non rfl ?_
      rw [if_neg (by rw [ec, b1, b2]; simp)]
    · walk_at "go"
      refine wO (a := .imm ((bodyS s).cps.toList.map fun c => VV.str ⟨#[c]⟩)) rfl ?_
      refine lcL_map (g := fun k => some (.bl (decide (k ∈ digs.cps.toList)))) ?_ (fun k _ => ?_) ?_
      · have := hb.2
        rw [TL.len_tl] at this
        exact this
      · refine eq_wp ?_
        rw [wp_lcF]
        walk_at "go"
        refine wO in_chr ?_
        exact ⟨rfl, rfl⟩
      · have em : (bodyS s).cps.toList.filterMap (fun k => some (VV.bl (decide (k ∈ digs.cps.toList)))) = ((bodyS s).cps.toList.map fun k => decide (k ∈ digs.cps.toList)).map VV.bl := by
          rw [List.map_map, List.filterMap_eq_map']
          rfl
        rw [em]
        walk_at "go"
        refine wp_eq (all_ref at_snoc) ?_
        have ea : ((bodyS s).cps.toList.map fun k => decide (k ∈ digs.cps.toList)).all id = (bodyS s).cps.toList.all fun c => decide (c ∈ digs.cps.toList) := by
          rw [List.all_map]
          rfl
        rw [ea]
        walk_at "go"
        refine wB (fun b3 => ?_) fun b3 => ?_
        · walk_at "go"
          refine nn .non _ rfl ?_
          rw [if_neg (by rw [ec, b1, b2, (Bool.not_eq_true' _).mp b3]; simp)]
        · have b3 : ((bodyS s).cps.toList.all fun c => decide (c ∈ digs.cps.toList)) = true := (Bool.not_eq_false' _).mp b3
          walk_at "go"
          refine wp_eq starts_okP ?_
          walk_at "go"
          refine wB (fun b4 => ?_) fun b4 => ?_
          · walk_at "go"
            refine wO (ne_of_eq (eq_str ho.1 (by decide +kernel))) ?_
            walk_at "go"
            refine wB (fun b5 => ?_) fun b5 => ?_
            · walk_at "go"
              refine nn .non _ rfl ?_
              rw [if_neg (by rw [ec, b1, b2, b3, b4, b5]; simp)]
            · walk_at "go"
              have hc : canS s = true := by rw [ec, b1, b2, b3, b4, b5]; rfl
              obtain ⟨k, hk, _⟩ := can_read hc
              refine wp_eq (int_str (len_can hc) hk) ?_
              refine nn _ _ ?_ ?_
              · rfl
              · rw [if_pos hc, hk]
          · walk_at "go"
            have hc : canS s = true := by rw [ec, b1, b2, b3, b4]; rfl
            obtain ⟨k, hk, _⟩ := can_read hc
            refine wp_eq (int_str (len_can hc) hk) ?_
            refine nn _ _ ?_ ?_
            · rfl
            · rw [if_pos hc, hk]
end K82
end Mini
end
section
set_option Elab.async false
set_option linter.all false
set_option maxRecDepth 100000
set_option maxHeartbeats 2000000
/-! Plain, part 8 (k82): read_output, read_row. -/
namespace Mini
open PySem L2
open TL (tl)
local macro_rules | `(tactic| walk_at "go1") => `(tactic| first
  | with_reducible apply wxs_cons'
  | with_reducible apply wxs_nil'
  | with_reducible apply nxt_nx'
  | with_reducible apply nxt_rt'
  | with_reducible apply nxt_bk'
  | with_reducible apply nxt_ct'
  | with_reducible apply we_var'
  | with_reducible apply we_cst'
  | with_reducible apply ws_cons'
  | with_reducible apply ws_nil'
  | ((with_reducible apply wSlot); exact rfl)
  | with_reducible apply we_fcl'
  | with_reducible apply we_cmp'
  | with_reducible apply we_idx'
  | with_reducible apply we_bin'
  | with_reducible apply wt_val'
  | with_reducible apply we_tup'
  | with_reducible apply we_lst'
  | with_reducible apply we_bcl'
  | with_reducible apply wx_set'
  | with_reducible apply wx_ret'
  | with_reducible apply wx_ife'
  | with_reducible apply wx_exp'
  | with_reducible apply wx_unp'
  | with_reducible apply wx_par'
  | with_reducible apply wx_sub'
  | with_reducible apply wx_rse'
  | with_reducible apply wx_brk'
  | with_reducible apply wx_cnt'
  | with_reducible apply wx_for'
  | with_reducible apply we_and'
  | with_reducible apply we_or'
  | with_reducible apply we_not'
  | with_reducible apply we_ife'
  | with_reducible apply we_neg'
  | with_reducible apply we_chn'
  | with_reducible apply we_dct'
  | with_reducible apply we_slc'
  | with_reducible apply we_att'
  | with_reducible apply we_isi'
  | with_reducible apply we_mcl'
  | with_reducible apply we_lc'
  | with_reducible apply we_fst'
  | with_reducible apply wf_nil'
  | with_reducible apply wf_cons'
  | with_reducible apply wt_yes'
  | with_reducible apply wt_and'
  | with_reducible apply wt_or'
  | with_reducible apply wt_not'
  | with_reducible apply endQ_rt'
  | with_reducible apply endQ_nx'
  | with_reducible apply wpB_t'
  | with_reducible apply wpB_f'
  | with_reducible apply wpB_nt'
  | with_reducible apply wpB_nf'
  | (with_reducible apply wTru)
  | ((with_reducible apply wBt); with_reducible assumption)
  | ((with_reducible apply wBf); with_reducible assumption)
  | ((with_reducible apply wGle); exact rfl)
  | ((with_reducible apply wGrc); first | exact rfl | assumption)
  | ((with_reducible apply wGdc); exact rfl; exact rfl)
  | ((with_reducible apply wGeq); exact rfl)
  | ((with_reducible apply wOpt); exact rfl)
  | ((with_reducible apply wTup); exact rfl)
  | ((with_reducible apply wUnp); exact rfl)
  | ((with_reducible apply wTg); exact rfl)
  | ((with_reducible apply wNeg); exact rfl)
  | ((with_reducible apply wBop); exact rfl)
  | ((with_reducible apply wIsi (b := true)); (first | exact rfl | assumption); (first | exact rfl | assumption); focus (simp only [List.any_cons, List.any_nil, isTy, String.reduceBEq, String.reduceEq, beq_self_eq_true, Bool.and_false, Bool.false_and, Bool.or_false, Bool.false_or, Bool.or_true, Bool.true_or, Bool.and_self, Bool.or_self, Bool.true_and]; done))
  | ((with_reducible apply wIsi (b := false)); (first | exact rfl | assumption); (first | exact rfl | assumption); focus (simp only [List.any_cons, List.any_nil, isTy, String.reduceBEq, String.reduceEq, beq_self_eq_true, Bool.and_false, Bool.false_and, Bool.or_false, Bool.false_or, Bool.or_true, Bool.true_or, Bool.and_self, Bool.or_self, Bool.true_and]; done)))
local macro_rules | `(tactic| walk_at "go") => `(tactic| (repeat walk_at "go1"))
abbrev eqC : Str := "="
theorem part_cases (s : Str) : (61 ∉ tl s ∧ Txt.partition s eqC = (s, Str.empty, Str.empty)) ∨ ∃ a b, s = a ++ eqC ++ b ∧ 61 ∉ tl a ∧ Txt.partition s eqC = (a, eqC, b) := by
  have e1 : tl eqC = 61 :: [] := by decide
  by_cases h : 61 ∈ tl s
  · obtain ⟨as, bs, e, hn⟩ := List.eq_append_cons_of_mem h
    refine .inr ⟨⟨as.toArray⟩, ⟨bs.toArray⟩, ?_, hn, ?_⟩
    · refine TL.ext_tl ?_
      rw [TL.tl_append, TL.tl_append, e, e1]
      simp
    · have : s = (⟨as.toArray⟩ : Str) ++ eqC ++ ⟨bs.toArray⟩ := by
        refine TL.ext_tl ?_
        rw [TL.tl_append, TL.tl_append, e, e1]
        simp
      rw [this]
      exact TL.partition_app e1 hn
  · exact .inl ⟨h, TL.partition_none e1 h⟩
theorem part_okP {a b : Str} {h : VH} (hb : (b.length == 0) = false) (hl : a.length ≤ sizeLine) : bmt1 .partition (.str a) (.str b) h = .ok (.tup [.str (Txt.partition a b).1, .str (Txt.partition a b).2.1, .str (Txt.partition a b).2.2]) h := by
  show mStr .partition a b h = _
  unfold mStr
  dsimp only
  rw [if_pos ⟨hb, hl⟩]
theorem split_okP {a b : Str} {h : VH} (hb : (b.length == 0) = false) (hl : a.length + 2 ≤ sizeLine) : bmt1 .split (.str a) (.str b) h = .ok (.ref h.length) (h ++ [.lst ((Txt.split a b).map .str)]) := by
  show mStr .split a b h = _
  unfold mStr
  dsimp only
  rw [if_pos ⟨hb, hl⟩]
  rfl
theorem append_ref {h : VH} {k : Nat} {ys : List VV} {x : VV} (e : h[k]? = some (.lst ys)) (hl : ys.length < 100000) : bmt1 .append (.ref k) x h = .ok .non (h.set k (.lst (ys ++ [x]))) := by
  show mAppend (.ref k) x h = _
  unfold mAppend
  dsimp only
  rw [e]
  dsimp only
  rw [if_pos hl]
theorem rcv_app {h : VH} {k : Nat} {ys : List VV} (e : h[k]? = some (.lst ys)) : rcvB .append (.ref k) h = true := by
  unfold rcvB
  dsimp only
  rw [e]
theorem atI_nat {xs : List VV} {j : Nat} {x : VV} (e : xs[j]? = some x) : atI xs (j : Int) = some x := by
  unfold atI ixN
  have h := (List.getElem?_eq_some_iff.mp e).1
  rw [if_pos (by omega), if_pos (by omega)]
  exact e
theorem is_non {x : VV} {h : VH} : copS .isN x .non h = some (isNon x) := rfl
namespace K82
theorem ok_app {a b : Str} (h : Ok (a ++ b)) : Ok a ∧ Ok b := by
  obtain ⟨h1, h2⟩ := h
  unfold PyData.strOk at h1
  rw [← Array.all_toList] at h1
  have e : (a ++ b).cps.toList = tl a ++ tl b := TL.tl_append a b
  rw [e, List.all_append, Bool.and_eq_true] at h1
  rw [Str.length_append] at h2
  refine ⟨⟨?_, by omega⟩, ⟨?_, by omega⟩⟩
  · unfold PyData.strOk
    rw [← Array.all_toList]
    exact h1.1
  · unfold PyData.strOk
    rw [← Array.all_toList]
    exact h1.2
theorem ok_empty : Ok Str.empty := ⟨by decide +kernel, by decide⟩
theorem part_oks {s : Str} (h : Ok s) : Ok (Txt.partition s eqC).1 ∧ Ok (Txt.partition s eqC).2.1 ∧ Ok (Txt.partition s eqC).2.2 := by
  rcases part_cases s with ⟨_, e⟩ | ⟨a, b, e1, _, e⟩
  · rw [e]
    exact ⟨h, ok_empty, ok_empty⟩
  · rw [e1] at h
    obtain ⟨h1, h2⟩ := ok_app h
    rw [e]
    exact ⟨(ok_app h1).1, ⟨(by decide +kernel : PyData.strOk eqC = true), (by decide : eqC.length ≤ 100000)⟩, h2⟩
def readOut (s : Str) : Option Out := if isName (Txt.partition s eqC).1 = true then (if ((Txt.partition s eqC).2.1 == ("" : Str)) = true then some ((Txt.partition s eqC).1, none) else if canS (Txt.partition s eqC).2.2 = true then (match intText? (Txt.partition s eqC).2.2 with
  | some k => some ((Txt.partition s eqC).1, some k)
  | none => none) else none) else none
def encO : Option Out → VV
  | some o => enc o
  | none => .non
theorem read_output_ok {n : Nat} {s : Str} {h : VH} (ho : Ok s) (c : Clo h) : run PK (n + 2) 7 noCl (some [.str s]) h = .ok (encO (readOut s)) h := by
  obtain ⟨o1, o2, o3⟩ := part_oks ho
  refine eq_wp (run_wp rfl rfl ?_)
  show (exs (envP PK (n + 1)) b_read_output [some (.str s), none, none, none] h).wp _ _
  unfold b_read_output
  walk_at "go"
  refine wp_eq (part_okP (by decide) ho.len) ?_
  unfold readOut
  generalize Txt.partition s eqC = p at *
  obtain ⟨a, q, b⟩ := p
  dsimp only at *
  walk_at "go"
  refine wp_eq (is_name_ok (n := n) o1.1 o1.len c) ?_
  walk_at "go"
  refine wB (fun b1 => ?_) fun b1 => ?_
  · have b1 := (Bool.not_eq_true' _).mp b1
    rw [b1]
    walk_at "go"
    exact fin_wp0 (m := 1) rfl c rfl (by decide) ⟨rfl, rfl⟩
  · have b1 := (Bool.not_eq_false' _).mp b1
    rw [b1]
    walk_at "go"
    refine wO (eq_str o2.1 (by decide +kernel)) ?_
    walk_at "go"
    refine wB (fun b2 => ?_) fun b2 => ?_
    · rw [b2]
      walk_at "go"
      exact fin_wp0 (m := 1) rfl c rfl (by decide) ⟨rfl, rfl⟩
    · rw [b2]
      walk_at "go"
      refine wp_eq (integer_of_ok (n := n) o3 c) ?_
      by_cases b3 : canS b = true
      · obtain ⟨k, hk, _⟩ := can_read b3
        rw [if_pos b3, hk]
        walk_at "go"
        refine wO is_non ?_
        walk_at "go"
        refine wBf rfl ?_
        walk_at "go"
        refine wp_eq (integer_of_ok (n := n) o3 c) ?_
        rw [if_pos b3, hk]
        walk_at "go"
        exact fin_wp0 (m := 2) rfl c rfl (by decide) ⟨by rw [if_pos b3]; rfl, rfl⟩
      · rw [if_neg b3]
        walk_at "go"
        refine wO is_non ?_
        walk_at "go"
        refine wBt rfl ?_
        walk_at "go"
        exact fin_wp0 (m := 1) rfl c rfl (by decide) ⟨by rw [if_neg b3]; rfl, rfl⟩
/-! ### read_row -/
abbrev spC : Str := " "
theorem finX2 {a b : Int} {h l : VH} {Q : VV → VH → Prop} (c : Clo h) (a' b' : Int) (ea : a = a') (eb : b = b') : endX h.length Q (fun c' ns' vs' h' => c' = 2 ∧ ns' = [("line" : Str), "word"] ∧ vs' = [VV.int a', VV.int b'] ∧ h' = h) 2 [("line" : Str), "word"] [.int a, .int b] (h ++ l) := by
  subst ea eb
  exact finX_wp rfl c rfl ⟨rfl, rfl, rfl, rfl⟩
theorem read_row_flat {n : Nat} {v : VV} {h : VH} (hv : tyOf h v ≠ some (.bi "str")) (hv2 : (∃ t xs, SeqV h v xs t) ∨ (isFlat v = true ∧ ∀ s, v ≠ .str s)) (c : Clo h) : run PK (n + 1) 8 noCl (some [v]) h = .exc 2 ["line", "word"] [.int 0, .int 0] h := by
  refine eq_wpX (run_wp rfl rfl ?_)
  show (exs (envP PK n) b_read_row [some v, none, none, none, none, none] h).wp _ _
  unfold b_read_row
  rcases hv2 with ⟨t, xs, S⟩ | ⟨hf, hs⟩
  · walk_at "go"
    refine S.isiStr ?_
    walk_at "go"
    have := finX2 (h := h) (l := []) (Q := fun _ _ => False) c 0 0 rfl rfl
    rw [List.append_nil] at this
    exact this
  · cases v <;> first | (exact nomatch (show false = true from hf)) | (exact absurd rfl (hs _)) | skip
    all_goals
      walk_at "go"
      have := finX2 (h := h) (l := []) (Q := fun _ _ => False) c 0 0 rfl rfl
      rw [List.append_nil] at this
      exact this
/-- the words of a text, read -/
structure Words (s : Str) (ws : List Str) : Prop where
  e : Txt.split s spC = ws
  ok : ∀ w ∈ ws, Ok w
  ln : ws.length ≤ 1000
section
variable {n : Nat} {s : Str} {h : VH}
theorem read_row_dash1 (ho : Ok s) (W : Words s ["-"]) (c : Clo h) : run PK (n + 1) 8 noCl (some [.str s]) h = .ok (.tup []) h := by
  refine eq_wp (run_wp rfl rfl ?_)
  show (exs (envP PK n) b_read_row [some (.str s), none, none, none, none, none] h).wp _ _
  unfold b_read_row
  have hz : s.length + 2 ≤ sizeLine := by have := ho.2; have : sizeLine = 16777216 := by decide
                                          omega
  walk_at "go"
  refine wp_eq (split_okP (by decide) hz) ?_
  rw [W.e]
  walk_at "go"
  refine wp_eq ((SeqV.ref at_snoc).idx (x := .str _) (atI_nat (j := 0) rfl)) ?_
  walk_at "go"
  refine wO (eq_str (by decide +kernel) (by decide +kernel)) ?_
  walk_at "go"
  refine wBt (by decide) ?_
  walk_at "go"
  refine wp_eq (SeqV.ref at_snoc).len ?_
  walk_at "go"
  refine wO (a := false) rfl ?_
  walk_at "go"
  exact fin_wp rfl c (frz_tr (n := 30) rfl) ⟨rfl, rfl⟩
theorem read_row_dash2 {w : Str} {ws : List Str} (ho : Ok s) (W : Words s (("-" : Str) :: w :: ws)) (c : Clo h) : run PK (n + 1) 8 noCl (some [.str s]) h = .exc 2 ["line", "word"] [.int 0, .int 1] h := by
  refine eq_wpX (run_wp rfl rfl ?_)
  show (exs (envP PK n) b_read_row [some (.str s), none, none, none, none, none] h).wp _ _
  unfold b_read_row
  have hz : s.length + 2 ≤ sizeLine := by have := ho.2; have : sizeLine = 16777216 := by decide
                                          omega
  walk_at "go"
  refine wp_eq (split_okP (by decide) hz) ?_
  rw [W.e]
  walk_at "go"
  refine wp_eq ((SeqV.ref at_snoc).idx (x := .str _) (atI_nat (j := 0) rfl)) ?_
  walk_at "go"
  refine wO (eq_str (by decide +kernel) (by decide +kernel)) ?_
  walk_at "go"
  refine wBt (by decide) ?_
  walk_at "go"
  refine wp_eq (SeqV.ref at_snoc).len ?_
  walk_at "go"
  refine wO (a := true) ?_ ?_
  · show some (decide (1 < (((ws.map VV.str).length + 1 + 1 : Nat) : Int))) = some true
    rw [decide_eq_true (by omega)]
  walk_at "go"
  exact finX2 c 0 1 rfl rfl
/-- the walk over the words -/
theorem read_row_walk {w0 : Str} {ws : List Str} {V : XP} {Q : VV → VH → Prop} (ho : Ok s) (W : Words s (w0 :: ws)) (h0 : w0 ≠ ("-" : Str)) (c : Clo h)
    (st : ∀ (pre : List Str) (w : Str) (post : List Str) (os : List Out), w0 :: ws = pre ++ w :: post → pre.map readOut = os.map some → readOut w = none → V 2 [("line" : Str), "word"] [.int 0, .int (pre.length : Int)] h)
    (en : ∀ os : List Out, (w0 :: ws).map readOut = os.map some → Q (.tup (os.map enc)) h) : (run PK (n + 3) 8 noCl (some [.str s]) h).wp Q V := by
  refine run_wp rfl rfl ?_
  show (exs (envP PK (n + 2)) b_read_row [some (.str s), none, none, none, none, none] h).wp _ _
  unfold b_read_row
  have hz : s.length + 2 ≤ sizeLine := by have := ho.2; have : sizeLine = 16777216 := by decide
                                          omega
  walk_at "go"
  refine wp_eq (split_okP (by decide) hz) ?_
  rw [W.e]
  walk_at "go"
  refine wp_eq ((SeqV.ref at_snoc).idx (x := .str _) (atI_nat (j := 0) rfl)) ?_
  walk_at "go"
  refine wO (eq_str (W.ok w0 List.mem_cons_self).1 (by decide +kernel)) ?_
  walk_at "go"
  refine wBf (beq_eq_false_iff_ne.mpr h0) ?_
  walk_at "go"
  refine (SeqV.ref (at_keep at_snoc)).for true (fun pre post σ h' => ∃ (l1 l2 : List Str) (os : List Out) (a b o : Option VV), w0 :: ws = l1 ++ l2 ∧ pre = l1.map VV.str ∧ post = l2.map VV.str ∧ l1.map readOut = os.map some ∧ σ = [some (.str s), some (.ref h.length), some (.ref (h.length + 1)), a, b, o] ∧ h' = h ++ [.lst ((w0 :: ws).map VV.str)] ++ [.lst (os.map enc)]) ⟨[], w0 :: ws, [], none, none, none, rfl, rfl, rfl, rfl, ?_, rfl⟩ (fun pre x post σ h' ⟨l1, l2, os, a, b, o, q1, q2, q3, q4, q5, q6⟩ => ?_) (fun pre post σ h' ⟨l1, l2, os, a, b, o, q1, q2, q3, q4, q5, q6⟩ k ek ev => ?_) fun pre σ h' ⟨l1, l2, os, a, b, o, q1, q2, q3, q4, q5, q6⟩ => ?_
  · show [some (VV.str s), some (.ref h.length), some (.ref (h ++ [Ob.lst (List.map VV.str (w0 :: ws))]).length), none, none, none] = _
    rw [List.length_append]
    rfl
  · subst q5 q6
    cases l2 with
    | nil => cases q3
    | cons w l2 =>
      rw [List.map_cons] at q3
      injection q3 with q7 q8
      subst q7
      have hw : w ∈ w0 :: ws := by rw [q1]; simp
      have hl : (h ++ [Ob.lst ((w0 :: ws).map VV.str)]).length = h.length + 1 := by rw [List.length_append]; rfl
      have c1 : Clo (h ++ [Ob.lst ((w0 :: ws).map VV.str)]) := c.snoc (cloL_tr (n := 1) (trL_all.mpr fun x hx => by
        obtain ⟨s, _, rfl⟩ := List.mem_map.mp hx
        rfl))
      have c2 : Clo (h ++ [Ob.lst ((w0 :: ws).map VV.str)] ++ [Ob.lst (os.map enc)]) := c1.snoc (cloL_tr (n := 2) (trL_all.mpr fun x hx => by
        obtain ⟨o, _, rfl⟩ := List.mem_map.mp hx
        exact tr_enc o))
      have ef : (h ++ [Ob.lst ((w0 :: ws).map VV.str)] ++ [Ob.lst (os.map enc)])[h.length + 1]? = some (.lst (os.map enc)) := by rw [← hl]; exact at_snoc
      rw [wp_forF]
      refine wO rfl ?_
      walk_at "go"
      refine wp_eq (read_output_ok (n := n) (W.ok w hw) c2) ?_
      cases er : readOut w with
      | none =>
        walk_at "go"
        refine wO is_non ?_
        walk_at "go"
        refine wBt rfl ?_
        walk_at "go"
        rw [List.append_assoc]
        refine finX_wp rfl c rfl ?_
        have := st l1 w l2 os q1 q4 er
        rw [q2, List.length_map]
        exact this
      | some o =>
        walk_at "go"
        refine wO is_non ?_
        walk_at "go"
        refine wBf (by obtain ⟨a, b⟩ := o; cases b <;> rfl) ?_
        walk_at "go"
        refine wG (rcv_app ef) ?_
        walk_at "go"
        refine wp_eq (append_ref ef ?_) ?_
        · have h1 := congrArg List.length q1
          have h2 := congrArg List.length q4
          have h3 := W.ln
          simp at h1 h2 h3 ⊢
          omega
        walk_at "go"
        refine ⟨l1 ++ [w], l2, os ++ [o], _, _, _, by rw [q1]; simp, by rw [q2]; simp, q8, by simp [q4, er], rfl, ?_⟩
        rw [← hl, set_snoc, List.map_append]
        rfl
  · rw [q6]
    cases ev
    rw [at_keep at_snoc, q2, q3, ← List.map_append, ← q1]
  · subst q5 q6
    have e2 : l2 = [] := List.map_eq_nil_iff.mp q3.symm
    subst e2
    rw [List.append_nil] at q1
    have hl : (h ++ [Ob.lst ((w0 :: ws).map VV.str)]).length = h.length + 1 := by rw [List.length_append]; rfl
    have ef : (h ++ [Ob.lst ((w0 :: ws).map VV.str)] ++ [Ob.lst (os.map enc)])[h.length + 1]? = some (.lst (os.map enc)) := by rw [← hl]; exact at_snoc
    walk_at "go"
    refine wp_eq (tuple_ref ef) ?_
    walk_at "go"
    rw [List.append_assoc]
    exact fin_wp rfl c (frz_tr (tr_le (tr_encs os) (by decide))) (en os (by rw [q1]; exact q4))
end
end K82
end Mini
end
section
set_option Elab.async false
set_option linter.all false
set_option maxRecDepth 100000
set_option maxHeartbeats 2000000
/-! Plain, part 9 (k82): drawing. -/
namespace Mini
open PySem L2
local macro_rules | `(tactic| walk_at "go1") => `(tactic| first
  | with_reducible apply wxs_cons'
  | with_reducible apply wxs_nil'
  | with_reducible apply nxt_nx'
  | with_reducible apply nxt_rt'
  | with_reducible apply nxt_bk'
  | with_reducible apply nxt_ct'
  | with_reducible apply we_var'
  | with_reducible apply we_cst'
  | with_reducible apply ws_cons'
  | with_reducible apply ws_nil'
  | ((with_reducible apply wSlot); exact rfl)
  | with_reducible apply we_fcl'
  | with_reducible apply we_cmp'
  | with_reducible apply we_idx'
  | with_reducible apply we_bin'
  | with_reducible apply wt_val'
  | with_reducible apply we_tup'
  | with_reducible apply we_lst'
  | with_reducible apply we_bcl'
  | with_reducible apply wx_set'
  | with_reducible apply wx_ret'
  | with_reducible apply wx_ife'
  | with_reducible apply wx_exp'
  | with_reducible apply wx_unp'
  | with_reducible apply wx_par'
  | with_reducible apply wx_sub'
  | with_reducible apply wx_rse'
  | with_reducible apply wx_brk'
  | with_reducible apply wx_cnt'
  | with_reducible apply wx_for'
  | with_reducible apply we_and'
  | with_reducible apply we_or'
  | with_reducible apply we_not'
  | with_reducible apply we_ife'
  | with_reducible apply we_neg'
  | with_reducible apply we_chn'
  | with_reducible apply we_dct'
  | with_reducible apply we_slc'
  | with_reducible apply we_att'
  | with_reducible apply we_isi'
  | with_reducible apply we_mcl'
  | with_reducible apply we_lc'
  | with_reducible apply we_fst'
  | with_reducible apply wf_nil'
  | with_reducible apply wf_cons'
  | with_reducible apply wt_yes'
  | with_reducible apply wt_and'
  | with_reducible apply wt_or'
  | with_reducible apply wt_not'
  | with_reducible apply endQ_rt'
  | with_reducible apply endQ_nx'
  | with_reducible apply wpB_t'
  | with_reducible apply wpB_f'
  | with_reducible apply wpB_nt'
  | with_reducible apply wpB_nf'
  | (with_reducible apply wTru)
  | ((with_reducible apply wBt); with_reducible assumption)
  | ((with_reducible apply wBf); with_reducible assumption)
  | ((with_reducible apply wGle); exact rfl)
  | ((with_reducible apply wGrc); first | exact rfl | assumption)
  | ((with_reducible apply wGdc); exact rfl; exact rfl)
  | ((with_reducible apply wGeq); exact rfl)
  | ((with_reducible apply wOpt); exact rfl)
  | ((with_reducible apply wTup); exact rfl)
  | ((with_reducible apply wUnp); exact rfl)
  | ((with_reducible apply wTg); exact rfl)
  | ((with_reducible apply wNeg); exact rfl)
  | ((with_reducible apply wBop); exact rfl)
  | ((with_reducible apply wIsi (b := true)); (first | exact rfl | assumption); (first | exact rfl | assumption); focus (simp only [List.any_cons, List.any_nil, isTy, String.reduceBEq, String.reduceEq, beq_self_eq_true, Bool.and_false, Bool.false_and, Bool.or_false, Bool.false_or, Bool.or_true, Bool.true_or, Bool.and_self, Bool.or_self, Bool.true_and]; done))
  | ((with_reducible apply wIsi (b := false)); (first | exact rfl | assumption); (first | exact rfl | assumption); focus (simp only [List.any_cons, List.any_nil, isTy, String.reduceBEq, String.reduceEq, beq_self_eq_true, Bool.and_false, Bool.false_and, Bool.or_false, Bool.false_or, Bool.or_true, Bool.true_or, Bool.and_self, Bool.or_self, Bool.true_and]; done)))
local macro_rules | `(tactic| walk_at "go") => `(tactic| (repeat walk_at "go1"))
/-- the one cell k may have changed -/
structure Upd (k : Nat) (h h' : VH) : Prop where
  len : h'.length = h.length
  oth : ∀ j, j ≠ k → h'[j]? = h[j]?
theorem Upd.trans {k : Nat} {h h1 h2 : VH} (a : Upd k h h1) (b : Upd k h1 h2) : Upd k h h2 := ⟨b.len.trans a.len, fun j hj => (b.oth j hj).trans (a.oth j hj)⟩
theorem Upd.set {k : Nat} {h : VH} {o : Ob} : Upd k h (h.set k o) := ⟨List.length_set, fun j hj => List.getElem?_set_ne (Ne.symm hj)⟩
theorem SeqV.upd {k : Nat} {h h' : VH} {v : VV} {xs : List VV} {t : String} (S : SeqV h v xs t) (u : Upd k h h') (hv : v ≠ .ref k) : SeqV h' v xs t := by
  rcases S.cs with rfl | rfl | ⟨j, rfl, e⟩
  · have e : t = "tuple" := by have := S.ty; unfold tyOf at this; simpa using this.symm
    subst e
    exact .tup
  · have e : t = "list" := by have := S.ty; unfold tyOf at this; simpa using this.symm
    subst e
    exact .lst
  · have e' : t = "list" := by have := S.ty; unfold tyOf at this; dsimp only at this; rw [e] at this; simpa using this.symm
    subst e'
    exact .ref (by rw [u.oth j fun z => hv (by rw [z])]; exact e)
theorem mul_ok {i j : Int} {h : VH} (g : (-18446744073709551616 < i ∧ i < 18446744073709551616) ∨ (-18446744073709551616 < j ∧ j < 18446744073709551616)) : bopS .mul (.int i) (.int j) h = .ok (.int (i * j)) h := by
  show (if (-(2 ^ 64) < i ∧ i < 2 ^ 64) ∨ (-(2 ^ 64) < j ∧ j < 2 ^ 64) then _ else _) = _
  exact if_pos g
theorem pow_ok {i j : Int} {h : VH} (g : 0 ≤ j ∧ j ≤ 1000000 ∧ i.natAbs < 18446744073709551616) : bopS .pow (.int i) (.int j) h = .ok (.int (i ^ j.toNat)) h := by
  show (if 0 ≤ j ∧ j ≤ 1000000 ∧ i.natAbs < 2 ^ 64 then _ else _) = _
  exact if_pos g
theorem mod_ok {i j : Int} {h : VH} (g : 0 < j) : bopS .mod (.int i) (.int j) h = .ok (.int (i % j)) h := if_pos g
theorem fdiv_ok {i j : Int} {h : VH} (g : 0 < j ∧ j < 1073741824) : bopS .fdiv (.int i) (.int j) h = .ok (.int (i / j)) h := if_pos g
theorem int_int {i : Int} {h : VH} : bfnS .int [.int i] h = .ok (.int i) h := rfl
theorem int_bl {b : Bool} {h : VH} : bfnS .int [.bl b] h = .ok (.int (if b then 1 else 0)) h := rfl
theorem abs_int {i : Int} {h : VH} : bfnS .abs [.int i] h = .ok (.int (if i < 0 then -i else i)) h := rfl
theorem sub_lst {h : VH} {k : Nat} {xs : List VV} {i : Nat} {x : VV} (e : h[k]? = some (.lst xs)) (hi : i < xs.length) : subS (.ref k) (.int (i : Int)) x h = some (h.set k (.lst (xs.set i x))) := by
  unfold subS
  simp only [e]
  have : ixN xs.length (i : Int) = some i := by
    unfold ixN
    rw [if_pos (by omega), if_pos (by omega)]
    rfl
  rw [this]
  rfl
theorem dat_ints {n : Nat} {h : VH} (ns : List Int) : mapO (dat (n + 1) h) (ns.map VV.int) = some (ns.map PyData.int) := by
  induction ns with
  | nil => rfl
  | cons i ns ih => exact mapO_consP (by unfold dat; rfl) ih
theorem lay_ints : ∀ {ns : List Int}, PyData.canLayAll0 (ns.map PyData.int) = true
  | [] => by simp only [List.map_nil, PyData.canLayAll0]
  | i :: ns => by simp only [List.map_cons, PyData.canLayAll0, PyData.canLay0, lay_ints, Bool.and_self]
theorem dep_ints : ∀ {ns : List Int}, PyData.depthAll (ns.map PyData.int) = 0
  | [] => by simp only [List.map_nil, PyData.depthAll]
  | i :: ns => by simp only [List.map_cons, PyData.depthAll, PyData.depth, dep_ints, Nat.max_self]
namespace K82
/-- the pen at k: its cells at c, at most m draws made -/
structure Pen (h : VH) (k c m : Nat) : Prop where
  ex : ∃ (cells : List Int) (i r : Int), h[k]? = some (.lst [.ref c, .int i, .int r]) ∧ h[c]? = some (.lst (cells.map VV.int)) ∧ 0 ≤ i ∧ i ≤ (m : Int) ∧ 0 ≤ r ∧ cells.length ≤ 63
  ne : c ≠ k
  lt : c < h.length
theorem Pen.set {h : VH} {k c m : Nat} {i r : Int} (P : Pen h k c m) (hi : 0 ≤ i) (hm : i ≤ (m : Int) + 1) (hr : 0 ≤ r) : Pen (h.set k (.lst [.ref c, .int i, .int r])) k c (m + 1) := by
  obtain ⟨⟨cells, i', r', e1, e2, e3⟩, ne, lt⟩ := P
  have hk := (List.getElem?_eq_some_iff.mp e1).1
  exact ⟨⟨cells, i, r, List.getElem?_set_self hk, by rw [List.getElem?_set_ne (Ne.symm ne)]; exact e2, hi, by omega, hr, e3.2.2.2⟩, ne, by rw [List.length_set]; exact lt⟩
theorem Pen.mono {h : VH} {k c m m' : Nat} (P : Pen h k c m) (l : m ≤ m') : Pen h k c m' := by
  obtain ⟨⟨cells, i, r, e1, e2, e3, e4, e5⟩, ne, lt⟩ := P
  exact ⟨⟨cells, i, r, e1, e2, e3, by omega, e5⟩, ne, lt⟩
theorem pen_clo {h : VH} {k c : Nat} {i r : Int} (C : Clo h) (lt : c < h.length) : Clo (h.set k (.lst [.ref c, .int i, .int r])) := by
  refine C.set ?_
  show cloL h.length [.ref c, .int i, .int r] = true
  rw [cloL_all]
  intro x hx
  simp only [List.mem_cons, List.not_mem_nil, or_false] at hx
  rcases hx with rfl | rfl | rfl
  · unfold clo; rw [Nat.blt_eq]; exact lt
  · unfold clo; rfl
  · unfold clo; rfl
theorem draw_wp {n : Nat} {h : VH} {k c m : Nat} {many : Int} {Q : VV → VH → Prop} {E : XP} (P : Pen h k c m) (hm : m ≤ 1000000) (C : Clo h) (h1 : 0 < many) (h2 : many < 1073741824)
    (q : ∀ d h', 0 ≤ d → d < many → Pen h' k c (m + 1) → Clo h' → Upd k h h' → Q (.int d) h') : (run PK (n + 1) 10 noCl (some [.ref k, .int many]) h).wp Q E := by
  have P' := P
  obtain ⟨⟨cells, i, r, e1, e2, e3, e4, e5, e6⟩, ne, lt⟩ := P'
  have hk := (List.getElem?_eq_some_iff.mp e1).1
  refine run_wp rfl rfl ?_
  show (exs (envP PK n) b__law_draw [some (.ref k), some (.int many), none, none, none, none, none] h).wp _ _
  unfold b__law_draw
  walk_at "go"
  refine wp_eq ((SeqV.ref e1).idx (atI_nat (j := 2) rfl)) ?_
  walk_at "go"
  refine wO (show copS .gt (.int r) (.int 0) h = some (decide (0 < r)) from rfl) ?_
  walk_at "go"
  refine wB (fun b => ?_) fun b => ?_
  · walk_at "go"
    refine wp_eq ((SeqV.ref e1).idx (atI_nat (j := 2) rfl)) ?_
    walk_at "go"
    refine wp_eq int_int ?_
    walk_at "go"
    refine wp_eq (mod_ok h1) ?_
    walk_at "go"
    refine wp_eq ((SeqV.ref e1).idx (atI_nat (j := 2) rfl)) ?_
    walk_at "go"
    refine wp_eq int_int ?_
    walk_at "go"
    refine wp_eq (fdiv_ok ⟨h1, h2⟩) ?_
    walk_at "go"
    refine wO (sub_lst (i := 2) e1 (by simp)) ?_
    walk_at "go"
    have d0 : 0 ≤ r / many := Int.ediv_nonneg e5 (by omega)
    refine fin_wp0 (m := 1) List.length_set (pen_clo C lt) rfl (by decide) ?_
    exact q _ _ (Int.emod_nonneg _ (by omega)) (Int.emod_lt_of_pos _ h1) (P.set e3 (by omega) d0) (pen_clo C lt) .set
  · walk_at "go"
    refine wp_eq ((SeqV.ref e1).idx (atI_nat (j := 1) rfl)) ?_
    walk_at "go"
    refine wO (sub_lst (i := 1) e1 (by simp)) ?_
    have C1 : Clo (h.set k (.lst [.ref c, .int (i + 1), .int r])) := pen_clo C lt
    have P1 : Pen (h.set k (.lst [.ref c, .int (i + 1), .int r])) k c (m + 1) := P.set (by omega) (by omega) e5
    have U1 : Upd k h (h.set k (.lst [.ref c, .int (i + 1), .int r])) := .set
    have p1 : (h.set k (.lst [.ref c, .int (i + 1), .int r]))[k]? = some (.lst [.ref c, .int (i + 1), .int r]) := List.getElem?_set_self hk
    have p2 : (h.set k (.lst [.ref c, .int (i + 1), .int r]))[c]? = some (.lst (cells.map VV.int)) := by rw [List.getElem?_set_ne (Ne.symm ne)]; exact e2
    show (exs _ _ _ (h.set k (.lst [.ref c, .int (i + 1), .int r]))).wp _ _
    generalize hh : h.set k (.lst [.ref c, .int (i + 1), .int r]) = hq at *
    have lt1 : c < hq.length := by rw [U1.len]; exact lt
    have hk1 : k < hq.length := by rw [U1.len]; exact hk
    -- the end, from any drawn cell
    have last : ∀ (cell : Int) (dg : Option VV) (gr : Option VV) (l : VH), (exs (envP PK n) (.cons (.set 6 (.bin .mod (.bcl .int (.cons (.bin .pow (.bin .add (.bin .add (.bin .mod (.bcl .int (.cons (.var 4) .nil)) (.cst (.int 2147483549))) (.bin .mul (.cst (.int 7529)) (.var 3))) (.cst (.int 4405))) (.cst (.int 5))) .nil)) (.cst (.int 2147483629)))) (.cons (.set 6 (.bin .mod (.bcl .int (.cons (.bin .pow (.bin .add (.bin .add (.bin .mul (.var 6) (.bin .add (.bin .mul (.cst (.int 2)) (.var 3)) (.cst (.int 4405)))) (.bin .mul (.bin .mul (.cst (.int 60435)) (.var 3)) (.var 3))) (.cst (.int 79))) (.cst (.int 3))) .nil)) (.cst (.int 2147483587)))) (.cons (.ret (.bin .mod (.bcl .int (.cons (.bin .fdiv (.var 6) (.cst (.int 32))) .nil)) (.var 1))) .nil))) [some (.ref k), some (.int many), dg, some (.int i), some (.int cell), gr, none] (hq ++ l)).wp (endQ false h.length Q E) (endX h.length Q E) := fun cell dg gr l => by
      have im : i ≤ 1000000 := by omega
      walk_at "go"
      refine wp_eq int_int ?_
      walk_at "go"
      have x0 : 0 ≤ cell % 2147483549 := Int.emod_nonneg _ (by decide)
      have x1 : cell % 2147483549 < 2147483549 := Int.emod_lt_of_pos _ (by decide)
      generalize cell % 2147483549 = x at x0 x1
      refine wp_eq (pow_ok (by omega)) ?_
      walk_at "go"
      refine wp_eq int_int ?_
      walk_at "go"
      generalize ((x + 7529 * i + 4405) ^ (5 : Int).toNat) = y
      have y0 : 0 ≤ y % 2147483629 := Int.emod_nonneg _ (by decide)
      have y1 : y % 2147483629 < 2147483629 := Int.emod_lt_of_pos _ (by decide)
      generalize y % 2147483629 = z at y0 y1
      refine wp_eq (mul_ok (by omega)) ?_
      walk_at "go"
      try (refine wp_eq (mul_ok (by omega)) ?_; walk_at "go")
      try (refine wp_eq (mul_ok (by omega)) ?_; walk_at "go")
      have b1 : 0 ≤ z * (2 * i + 4405) := Int.mul_nonneg y0 (by omega)
      have b2 : z * (2 * i + 4405) ≤ 2147483629 * 2004405 := Int.mul_le_mul (by omega) (by omega) (by omega) (by decide)
      have b3 : 0 ≤ 60435 * i * i := Int.mul_nonneg (by omega) e3
      have b4 : 60435 * i * i ≤ 60435000000 * 1000000 := Int.mul_le_mul (by omega) (by omega) (by omega) (by decide)
      generalize z * (2 * i + 4405) = u at b1 b2
      generalize 60435 * i * i = v at b3 b4
      refine wp_eq (pow_ok (by omega)) ?_
      walk_at "go"
      refine wp_eq int_int ?_
      walk_at "go"
      try (refine wp_eq (fdiv_ok (by decide)) ?_; walk_at "go")
      refine wp_eq int_int ?_
      walk_at "go"
      refine wp_eq (mod_ok h1) ?_
      walk_at "go"
      refine fin_wp U1.len C1 (frz_tr (n := 30) rfl) ?_
      exact q _ _ (Int.emod_nonneg _ (by omega)) (Int.emod_lt_of_pos _ h1) P1 C1 U1
    walk_at "go"
    refine wp_eq ((SeqV.ref p1).idx (atI_nat (j := 0) rfl)) ?_
    walk_at "go"
    refine wO (ne_of_eq (eq_nil (dat_ref (at_keep p2) (dat_ints (n := 6) cells)) at_snoc lay_ints (by rw [dep_ints]; decide))) ?_
    walk_at "go"
    have S1 := SeqV.ref (at_keep (l := [.lst []]) p1)
    have S2 := SeqV.ref (at_keep (l := [.lst []]) p2)
    -- the great one, or the mixed one
    have rest : ∀ (cell : Int), (exs (envP PK n) (.cons (.ife (.and (.val (.cmp .lt (.var 3) (.bcl .len (.cons (.idx (.var 0) (.cst (.int 0))) .nil)))) (.val (.cmp .ge (.bcl .abs (.cons (.var 4) .nil)) (.bin .pow (.cst (.int 10)) (.cst (.int 18)))))) (.cons (.set 5 (.bin .add (.bin .mul (.cst (.int 2)) (.bin .sub (.bcl .abs (.cons (.var 4) .nil)) (.bin .pow (.cst (.int 10)) (.cst (.int 18))))) (.bcl .int (.cons (.cmp .lt (.var 4) (.cst (.int 0))) .nil))))
  (.cons (.sub (.var 0) (.cst (.int 2)) (.bin .fdiv (.bcl .int (.cons (.var 5) .nil)) (.var 1)))
  (.cons (.ret (.bin .mod (.bcl .int (.cons (.var 5) .nil)) (.var 1)))
  .nil))) .nil) (.cons (.set 6 (.bin .mod (.bcl .int (.cons (.bin .pow (.bin .add (.bin .add (.bin .mod (.bcl .int (.cons (.var 4) .nil)) (.cst (.int 2147483549))) (.bin .mul (.cst (.int 7529)) (.var 3))) (.cst (.int 4405))) (.cst (.int 5))) .nil)) (.cst (.int 2147483629)))) (.cons (.set 6 (.bin .mod (.bcl .int (.cons (.bin .pow (.bin .add (.bin .add (.bin .mul (.var 6) (.bin .add (.bin .mul (.cst (.int 2)) (.var 3)) (.cst (.int 4405)))) (.bin .mul (.bin .mul (.cst (.int 60435)) (.var 3)) (.var 3))) (.cst (.int 79))) (.cst (.int 3))) .nil)) (.cst (.int 2147483587)))) (.cons (.ret (.bin .mod (.bcl .int (.cons (.bin .fdiv (.var 6) (.cst (.int 32))) .nil)) (.var 1))) .nil)))) [some (.ref k), some (.int many), none, some (.int i), some (.int cell), none, none] (hq ++ [.lst []])).wp (endQ false h.length Q E) (endX h.length Q E) := fun cell => by
      walk_at "go"
      refine wp_eq (S1.idx (atI_nat (j := 0) rfl)) ?_
      walk_at "go"
      refine wp_eq S2.len ?_
      walk_at "go"
      refine wO (show copS .lt (.int i) (.int (((cells.map VV.int).length : Nat) : Int)) _ = some (decide (i < (((cells.map VV.int).length : Nat) : Int))) from rfl) ?_
      walk_at "go"
      refine wB (fun g1 => ?_) fun g1 => ?_
      · walk_at "go"
        refine wp_eq abs_int ?_
        walk_at "go"
        refine wO (show copS .ge (.int (if cell < 0 then -cell else cell)) (.int (10 ^ (18 : Int).toNat)) _ = some (decide ((10 : Int) ^ (18 : Int).toNat ≤ (if cell < 0 then -cell else cell))) from rfl) ?_
        walk_at "go"
        refine wB (fun g2 => ?_) fun g2 => ?_
        · walk_at "go"
          refine wp_eq abs_int ?_
          walk_at "go"
          refine wO (show copS .lt (.int cell) (.int 0) _ = some (decide (cell < 0)) from rfl) ?_
          walk_at "go"
          refine wp_eq int_bl ?_
          walk_at "go"
          refine wp_eq int_int ?_
          walk_at "go"
          refine wp_eq (fdiv_ok ⟨h1, h2⟩) ?_
          walk_at "go"
          have g3 : (10 : Int) ^ (18 : Int).toNat ≤ (if cell < 0 then -cell else cell) := of_decide_eq_true g2
          have g4 : 0 ≤ (2 * ((if cell < 0 then -cell else cell) - (10 : Int) ^ (18 : Int).toNat) + (if (decide (cell < 0)) = true then 1 else 0)) := by
            generalize (if cell < 0 then -cell else cell) = a at g3
            generalize (10 : Int) ^ (18 : Int).toNat = b at g3
            split <;> omega
          generalize (2 * ((if cell < 0 then -cell else cell) - (10 : Int) ^ (18 : Int).toNat) + (if (decide (cell < 0)) = true then 1 else 0)) = w at g4
          refine wO (sub_lst (i := 2) (at_keep p1) (by simp)) ?_
          walk_at "go"
          refine wp_eq int_int ?_
          walk_at "go"
          refine wp_eq (mod_ok h1) ?_
          walk_at "go"
          have d0 : 0 ≤ w / many := Int.ediv_nonneg g4 (by omega)
          have es : ∀ o : Ob, (hq ++ [Ob.lst []]).set k o = hq.set k o ++ [.lst []] := fun o => by rw [List.set_append_left _ _ hk1]
          rw [es]
          have P2 : Pen (hq.set k (.lst [.ref c, .int (i + 1), .int (w / many)])) k c (m + 1) := ⟨⟨cells, i + 1, w / many, List.getElem?_set_self hk1, by rw [List.getElem?_set_ne (Ne.symm ne)]; exact p2, by omega, by omega, d0, e6⟩, ne, by rw [List.length_set]; exact lt1⟩
          refine fin_wp (by rw [List.length_set]; exact U1.len) (pen_clo C1 lt1) (frz_tr (n := 30) rfl) ?_
          exact q _ _ (Int.emod_nonneg _ (by omega)) (Int.emod_lt_of_pos _ h1) P2 (pen_clo C1 lt1) (U1.trans .set)
        · try with_reducible apply wpB_f'
          with_reducible apply wxs_nil'
          with_reducible apply nxt_nx'
          exact last cell none none [.lst []]
      · try with_reducible apply wpB_f'
        with_reducible apply wxs_nil'
        with_reducible apply nxt_nx'
        exact last cell none none [.lst []]
    refine wB (fun g => ?_) fun g => ?_
    · walk_at "go"
      refine wp_eq (S1.idx (atI_nat (j := 0) rfl)) ?_
      walk_at "go"
      refine wp_eq int_int ?_
      walk_at "go"
      refine wp_eq (S1.idx (atI_nat (j := 0) rfl)) ?_
      walk_at "go"
      refine wp_eq S2.len ?_
      have hc : 0 < cells.length := by
        cases cells with
        | nil => simp at g
        | cons _ _ => simp
      walk_at "go"
      refine wp_eq (mod_ok (by rw [List.length_map]; omega)) ?_
      rw [List.length_map]
      have j0 : 0 ≤ i % (cells.length : Int) := Int.emod_nonneg _ (by omega)
      have j1 : i % (cells.length : Int) < (cells.length : Int) := Int.emod_lt_of_pos _ (by omega)
      generalize i % (cells.length : Int) = j at j0 j1
      obtain ⟨j', rfl⟩ : ∃ j' : Nat, j = (j' : Int) := ⟨j.toNat, by omega⟩
      have ej : (cells.map VV.int)[j']? = some (.int (cells[j']'(by omega))) := by
        rw [List.getElem?_map, List.getElem?_eq_getElem (by omega)]
        rfl
      refine wp_eq (S2.idx (atI_nat ej)) ?_
      with_reducible apply nxt_nx'
      with_reducible apply wxs_nil'
      with_reducible apply nxt_nx'
      exact rest _
    · try with_reducible apply wpB_f'
      with_reducible apply wxs_nil'
      with_reducible apply nxt_nx'
      exact rest _
end K82
end Mini
end
section
set_option Elab.async false
set_option linter.all false
set_option maxRecDepth 100000
set_option maxHeartbeats 2000000
/-! Plain, part 10 (k82): picking; what grows. -/
namespace Mini
open PySem L2
local macro_rules | `(tactic| walk_at "go1") => `(tactic| first
  | with_reducible apply wxs_cons'
  | with_reducible apply wxs_nil'
  | with_reducible apply nxt_nx'
  | with_reducible apply nxt_rt'
  | with_reducible apply nxt_bk'
  | with_reducible apply nxt_ct'
  | with_reducible apply we_var'
  | with_reducible apply we_cst'
  | with_reducible apply ws_cons'
  | with_reducible apply ws_nil'
  | ((with_reducible apply wSlot); exact rfl)
  | with_reducible apply we_fcl'
  | with_reducible apply we_cmp'
  | with_reducible apply we_idx'
  | with_reducible apply we_bin'
  | with_reducible apply wt_val'
  | with_reducible apply we_tup'
  | with_reducible apply we_lst'
  | with_reducible apply we_bcl'
  | with_reducible apply wx_set'
  | with_reducible apply wx_ret'
  | with_reducible apply wx_ife'
  | with_reducible apply wx_exp'
  | with_reducible apply wx_unp'
  | with_reducible apply wx_par'
  | with_reducible apply wx_sub'
  | with_reducible apply wx_rse'
  | with_reducible apply wx_brk'
  | with_reducible apply wx_cnt'
  | with_reducible apply wx_for'
  | with_reducible apply we_and'
  | with_reducible apply we_or'
  | with_reducible apply we_not'
  | with_reducible apply we_ife'
  | with_reducible apply we_neg'
  | with_reducible apply we_chn'
  | with_reducible apply we_dct'
  | with_reducible apply we_slc'
  | with_reducible apply we_att'
  | with_reducible apply we_isi'
  | with_reducible apply we_mcl'
  | with_reducible apply we_lc'
  | with_reducible apply we_fst'
  | with_reducible apply wf_nil'
  | with_reducible apply wf_cons'
  | with_reducible apply wt_yes'
  | with_reducible apply wt_and'
  | with_reducible apply wt_or'
  | with_reducible apply wt_not'
  | with_reducible apply endQ_rt'
  | with_reducible apply endQ_nx'
  | with_reducible apply wpB_t'
  | with_reducible apply wpB_f'
  | with_reducible apply wpB_nt'
  | with_reducible apply wpB_nf'
  | (with_reducible apply wTru)
  | ((with_reducible apply wBt); with_reducible assumption)
  | ((with_reducible apply wBf); with_reducible assumption)
  | ((with_reducible apply wGle); exact rfl)
  | ((with_reducible apply wGrc); first | exact rfl | assumption)
  | ((with_reducible apply wGdc); exact rfl; exact rfl)
  | ((with_reducible apply wGeq); exact rfl)
  | ((with_reducible apply wOpt); exact rfl)
  | ((with_reducible apply wTup); exact rfl)
  | ((with_reducible apply wUnp); exact rfl)
  | ((with_reducible apply wTg); exact rfl)
  | ((with_reducible apply wNeg); exact rfl)
  | ((with_reducible apply wBop); exact rfl)
  | ((with_reducible apply wIsi (b := true)); (first | exact rfl | assumption); (first | exact rfl | assumption); focus (simp only [List.any_cons, List.any_nil, isTy, String.reduceBEq, String.reduceEq, beq_self_eq_true, Bool.and_false, Bool.false_and, Bool.or_false, Bool.false_or, Bool.or_true, Bool.true_or, Bool.and_self, Bool.or_self, Bool.true_and]; done))
  | ((with_reducible apply wIsi (b := false)); (first | exact rfl | assumption); (first | exact rfl | assumption); focus (simp only [List.any_cons, List.any_nil, isTy, String.reduceBEq, String.reduceEq, beq_self_eq_true, Bool.and_false, Bool.false_and, Bool.or_false, Bool.false_or, Bool.or_true, Bool.true_or, Bool.and_self, Bool.or_self, Bool.true_and]; done)))
local macro_rules | `(tactic| walk_at "go") => `(tactic| (repeat walk_at "go1"))
/-- what grew from h0: only the cell k of the old ones may have changed -/
structure Grow (k : Nat) (h0 h : VH) : Prop where
  len : h0.length ≤ h.length
  old : ∀ j, j < h0.length → j ≠ k → h[j]? = h0[j]?
theorem Grow.refl {k : Nat} {h : VH} : Grow k h h := ⟨Nat.le_refl _, fun _ _ _ => rfl⟩
theorem Grow.upd {k : Nat} {h0 h h' : VH} (g : Grow k h0 h) (u : Upd k h h') : Grow k h0 h' := ⟨by rw [u.len]; exact g.len, fun j hj hk => (u.oth j hk).trans (g.old j hj hk)⟩
theorem Grow.snoc {k : Nat} {h0 h : VH} (g : Grow k h0 h) (l : VH) : Grow k h0 (h ++ l) := ⟨by rw [List.length_append]; have := g.len; omega, fun j hj hk => by
  rw [List.getElem?_append_left (Nat.lt_of_lt_of_le hj g.len)]
  exact g.old j hj hk⟩
theorem Grow.set {k i : Nat} {h0 h : VH} (g : Grow k h0 h) (hi : h0.length ≤ i) (o : Ob) : Grow k h0 (h.set i o) := ⟨by rw [List.length_set]; exact g.len, fun j hj hk => by
  rw [List.getElem?_set_ne (by omega)]
  exact g.old j hj hk⟩
theorem Grow.trans {k : Nat} {h0 h1 h2 : VH} (a : Grow k h0 h1) (b : Grow k h1 h2) : Grow k h0 h2 := ⟨Nat.le_trans a.len b.len, fun j hj hk => (b.old j (Nat.lt_of_lt_of_le hj a.len) hk).trans (a.old j hj hk)⟩
theorem Upd.grow {k : Nat} {h h' : VH} (u : Upd k h h') : Grow k h h' := Grow.refl.upd u
/-- a value that leaves a def as it is -/
def Pk (h : VH) (x : VV) : Prop := tr 25 x = true ∨ ∃ j, x = .ref j ∧ j < h.length
theorem Pk.frz {h h' : VH} {x : VV} (p : Pk h x) : frz h.length 30 h' x = some x := by
  rcases p with p | ⟨j, rfl, hj⟩
  · exact frz_tr (tr_le p (by decide))
  · unfold Mini.frz
    dsimp only
    rw [if_pos (by rw [Nat.blt_eq]; exact hj)]
namespace K82
theorem Pen.upd_lt {h : VH} {k c m : Nat} (P : Pen h k c m) : k < h.length := by
  obtain ⟨⟨cells, i, r, e1, _⟩, _, _⟩ := P
  exact (List.getElem?_eq_some_iff.mp e1).1
theorem Pen.snoc {h : VH} {k c m : Nat} (P : Pen h k c m) (l : VH) : Pen (h ++ l) k c m := by
  obtain ⟨⟨cells, i, r, e1, e2, e3⟩, ne, lt⟩ := P
  exact ⟨⟨cells, i, r, at_keep e1, at_keep e2, e3⟩, ne, by rw [List.length_append]; omega⟩
theorem Pen.other {h : VH} {k c m j : Nat} {o : Ob} (P : Pen h k c m) (h1 : j ≠ k) (h2 : j ≠ c) : Pen (h.set j o) k c m := by
  obtain ⟨⟨cells, i, r, e1, e2, e3⟩, ne, lt⟩ := P
  exact ⟨⟨cells, i, r, by rw [List.getElem?_set_ne h1]; exact e1, by rw [List.getElem?_set_ne h2]; exact e2, e3⟩, ne, by rw [List.length_set]; exact lt⟩
/-- at a def's end: the old cells, the new ones -/
theorem grow_fin {h0 h : VH} {k c m : Nat} (g : Grow k h0 h) (P : Pen h k c m) (hk : k < h0.length) (hc : c < h0.length) (C : Clo h0) : ∃ h1 l, h = h1 ++ l ∧ Upd k h0 h1 ∧ Pen h1 k c m ∧ Clo h1 := by
  have hl : (h.take h0.length).length = h0.length := by rw [List.length_take]; have := g.len; omega
  have u : Upd k h0 (h.take h0.length) := ⟨hl, fun j hj => by
    by_cases q : j < h0.length
    · rw [List.getElem?_take_of_lt q]
      exact g.old j q hj
    · rw [List.getElem?_eq_none (by omega), List.getElem?_eq_none (by omega)]⟩
  obtain ⟨⟨cells, i, r, e1, e2, e3⟩, ne, lt⟩ := P
  have P1 : Pen (h.take h0.length) k c m := ⟨⟨cells, i, r, by rw [List.getElem?_take_of_lt hk]; exact e1, by rw [List.getElem?_take_of_lt hc]; exact e2, e3⟩, ne, by rw [hl]; exact hc⟩
  refine ⟨h.take h0.length, h.drop h0.length, (List.take_append_drop _ _).symm, u, P1, ?_⟩
  refine List.all_eq_true.mpr fun o ho => ?_
  obtain ⟨j, hj, e⟩ := List.mem_iff_getElem.mp ho
  have e' : (h.take h0.length)[j]? = some o := by rw [List.getElem?_eq_getElem hj, e]
  rw [hl]
  by_cases q : j = k
  · subst q
    rw [P1.ex.choose_spec.choose_spec.choose_spec.1] at e'
    cases e'
    show cloL h0.length _ = true
    rw [cloL_all]
    intro x hx
    simp only [List.mem_cons, List.not_mem_nil, or_false] at hx
    rcases hx with rfl | rfl | rfl
    · unfold clo; rw [Nat.blt_eq]; exact hc
    · unfold clo; rfl
    · unfold clo; rfl
  · rw [u.oth j q] at e'
    exact C.at e'
theorem pick_wp {n : Nat} {h : VH} {k c m : Nat} {v : VV} {xs : List VV} {t : String} {Q : VV → VH → Prop} {E : XP} (P : Pen h k c m) (hm : m ≤ 1000000) (C : Clo h) (S : SeqV h v xs t) (hv : v ≠ .ref k) (hx : xs ≠ []) (hl : xs.length ≤ 100000) (fz : ∀ x ∈ xs, Pk h x)
    (q : ∀ x ∈ xs, ∀ h', Pen h' k c (m + 1) → Clo h' → Upd k h h' → Q x h') : (run PK (n + 2) 11 noCl (some [.ref k, v]) h).wp Q E := by
  refine run_wp rfl rfl ?_
  show (exs (envP PK (n + 1)) b__law_pick [some (.ref k), some v] h).wp _ _
  unfold b__law_pick
  walk_at "go"
  refine wp_eq S.len ?_
  walk_at "go"
  have hp : 0 < xs.length := List.length_pos_iff.mpr hx
  refine draw_wp (n := n) P hm C (by omega) (by omega) fun d h' d0 d1 P' C' u => ?_
  obtain ⟨j, rfl⟩ : ∃ j : Nat, d = (j : Int) := ⟨d.toNat, by omega⟩
  have hj : j < xs.length := by omega
  refine wp_eq ((S.upd u hv).idx (atI_nat (List.getElem?_eq_getElem hj))) ?_
  walk_at "go"
  have hm' := List.getElem_mem hj
  have := fin_wp (Q := Q) (E := E) (l := []) u.len C' (by rw [List.append_nil]; exact (fz _ hm').frz) (q _ hm' h' P' C' u)
  rwa [List.append_nil] at this
end K82
end Mini
end
section
set_option Elab.async false
set_option linter.all false
set_option maxRecDepth 100000
set_option maxHeartbeats 2000000
/-! Plain, part 11 (k82): a drawn branch. -/
namespace Mini
open PySem L2
local macro_rules | `(tactic| walk_at "go1") => `(tactic| first
  | with_reducible apply wxs_cons'
  | with_reducible apply wxs_nil'
  | with_reducible apply nxt_nx'
  | with_reducible apply nxt_rt'
  | with_reducible apply nxt_bk'
  | with_reducible apply nxt_ct'
  | with_reducible apply we_var'
  | with_reducible apply we_cst'
  | with_reducible apply ws_cons'
  | with_reducible apply ws_nil'
  | ((with_reducible apply wSlot); exact rfl)
  | with_reducible apply we_fcl'
  | with_reducible apply we_cmp'
  | with_reducible apply we_idx'
  | with_reducible apply we_bin'
  | with_reducible apply wt_val'
  | with_reducible apply we_tup'
  | with_reducible apply we_lst'
  | with_reducible apply we_bcl'
  | with_reducible apply wx_set'
  | with_reducible apply wx_ret'
  | with_reducible apply wx_ife'
  | with_reducible apply wx_exp'
  | with_reducible apply wx_unp'
  | with_reducible apply wx_par'
  | with_reducible apply wx_sub'
  | with_reducible apply wx_rse'
  | with_reducible apply wx_brk'
  | with_reducible apply wx_cnt'
  | with_reducible apply wx_for'
  | with_reducible apply we_and'
  | with_reducible apply we_or'
  | with_reducible apply we_not'
  | with_reducible apply we_ife'
  | with_reducible apply we_neg'
  | with_reducible apply we_chn'
  | with_reducible apply we_dct'
  | with_reducible apply we_slc'
  | with_reducible apply we_att'
  | with_reducible apply we_isi'
  | with_reducible apply we_mcl'
  | with_reducible apply we_lc'
  | with_reducible apply we_fst'
  | with_reducible apply wf_nil'
  | with_reducible apply wf_cons'
  | with_reducible apply wt_yes'
  | with_reducible apply wt_and'
  | with_reducible apply wt_or'
  | with_reducible apply wt_not'
  | with_reducible apply endQ_rt'
  | with_reducible apply endQ_nx'
  | with_reducible apply wpB_t'
  | with_reducible apply wpB_f'
  | with_reducible apply wpB_nt'
  | with_reducible apply wpB_nf'
  | (with_reducible apply wTru)
  | ((with_reducible apply wBt); with_reducible assumption)
  | ((with_reducible apply wBf); with_reducible assumption)
  | ((with_reducible apply wGle); exact rfl)
  | ((with_reducible apply wGrc); first | exact rfl | assumption)
  | ((with_reducible apply wGdc); exact rfl; exact rfl)
  | ((with_reducible apply wGeq); exact rfl)
  | ((with_reducible apply wOpt); exact rfl)
  | ((with_reducible apply wTup); exact rfl)
  | ((with_reducible apply wUnp); exact rfl)
  | ((with_reducible apply wTg); exact rfl)
  | ((with_reducible apply wNeg); exact rfl)
  | ((with_reducible apply wBop); exact rfl)
  | ((with_reducible apply wIsi (b := true)); (first | exact rfl | assumption); (first | exact rfl | assumption); focus (simp only [List.any_cons, List.any_nil, isTy, String.reduceBEq, String.reduceEq, beq_self_eq_true, Bool.and_false, Bool.false_and, Bool.or_false, Bool.false_or, Bool.or_true, Bool.true_or, Bool.and_self, Bool.or_self, Bool.true_and]; done))
  | ((with_reducible apply wIsi (b := false)); (first | exact rfl | assumption); (first | exact rfl | assumption); focus (simp only [List.any_cons, List.any_nil, isTy, String.reduceBEq, String.reduceEq, beq_self_eq_true, Bool.and_false, Bool.false_and, Bool.or_false, Bool.false_or, Bool.or_true, Bool.true_or, Bool.and_self, Bool.or_self, Bool.true_and]; done)))
local macro_rules | `(tactic| walk_at "go") => `(tactic| (repeat walk_at "go1"))
theorem tr_pk {h : VH} {x : VV} {n : Nat} (t : tr n x = true) (hn : n ≤ 25 := by decide) : Pk h x := .inl (tr_le t hn)
namespace K82
def tellOk (t : VV) : Prop := t = .str ("same" : Str) ∨ ∃ i : Int, t = .int i
theorem tellOk.tr {t : VV} (h : tellOk t) : tr 1 t = true := by
  rcases h with rfl | ⟨i, rfl⟩ <;> rfl
theorem row_wp {n : Nat} {h : VH} {k c m : Nat} {w : Str} {vg vb : VV} {gs bs : List VV} {tg tb : String} {Q : VV → VH → Prop} {E : XP} (P : Pen h k c m) (hm : m + 10 ≤ 1000000) (C : Clo h) (Sg : SeqV h vg gs tg) (hg : vg ≠ .ref k) (Sb : SeqV h vb bs tb) (hb : vb ≠ .ref k)
    (g0 : gs ≠ []) (b0 : bs ≠ []) (gl : gs.length ≤ 1000) (bl : bs.length ≤ 1000) (gt : ∀ x ∈ gs, tr 1 x = true) (bt : ∀ x ∈ bs, tr 1 x = true)
    (q : ∀ g ∈ gs, ∀ kp tl h', tr 1 kp = true → tellOk tl → Pen h' k c (m + 6) → Clo h' → Upd k h h' → Q (.tup [.str w, g, kp, tl]) h') : (run PK (n + 3) 12 noCl (some [.ref k, .str w, vg, vb]) h).wp Q E := by
  refine run_wp rfl rfl ?_
  show (exs (envP PK (n + 2)) b__law_row [some (.ref k), some (.str w), some vg, some vb, none, none] h).wp _ _
  unfold b__law_row
  walk_at "go"
  refine draw_wp (n := n + 1) P (by omega) C (by decide) (by decide) fun d h1 _ _ P1 C1 u1 => ?_
  walk_at "go"
  refine wO eq_int ?_
  refine wTru ?_
  have last : ∀ (kp tl : VV) (h' : VH) (m' : Nat), m' ≤ m + 5 → tr 1 kp = true → tellOk tl → Pen h' k c m' → Clo h' → Upd k h h' → (exs (envP PK (n + 2)) (.cons (.ret (.tup (.cons (.var 1) (.cons (.fcl 11 (.cons (.var 0) (.cons (.var 2) .nil))) (.cons (.var 4) (.cons (.var 5) .nil)))))) .nil) [some (.ref k), some (.str w), some vg, some vb, some kp, some tl] h').wp (endQ false h.length Q E) (endX h.length Q E) := fun kp tl h' m' hm' tk tt P' C' u' => by
    walk_at "go"
    refine pick_wp (n := n) P' (by omega) C' (Sg.upd u' hg) hg g0 (by omega) (fun x hx => tr_pk (gt x hx)) fun g hg' h2 P2 C2 u2 => ?_
    walk_at "go"
    refine fin_wp0 (m := 2) (u'.trans u2).len C2 ?_ (by decide) (q g hg' kp tl h2 tk tt (P2.mono (by omega)) C2 (u'.trans u2))
    show trL 1 [.str w, g, kp, tl] = true
    rw [trL_all]
    intro x hx
    simp only [List.mem_cons, List.not_mem_nil, or_false] at hx
    rcases hx with rfl | rfl | rfl | rfl
    · rfl
    · exact gt _ hg'
    · exact tk
    · exact tt.tr
  have mid : ∀ (kp : VV) (h' : VH) (m' : Nat), m' ≤ m + 2 → tr 1 kp = true → Pen h' k c m' → Clo h' → Upd k h h' → (exs (envP PK (n + 2)) (.cons (.set 5 (.ife (.val (.cmp .eq (.fcl 10 (.cons (.var 0) (.cons (.cst (.int 7)) .nil))) (.cst (.int 0)))) (.cst (.str "same")) (.ife (.val (.cmp .eq (.fcl 10 (.cons (.var 0) (.cons (.cst (.int 8)) .nil))) (.cst (.int 0)))) (.bin .add (.cst (.int 1)) (.fcl 10 (.cons (.var 0) (.cons (.cst (.int 2)) .nil)))) (.cst (.int 0))))) (.cons (.ret (.tup (.cons (.var 1) (.cons (.fcl 11 (.cons (.var 0) (.cons (.var 2) .nil))) (.cons (.var 4) (.cons (.var 5) .nil)))))) .nil)) [some (.ref k), some (.str w), some vg, some vb, some kp, none] h').wp (endQ false h.length Q E) (endX h.length Q E) := fun kp h' m' hm' tk P' C' u' => by
    walk_at "go"
    refine draw_wp (n := n + 1) P' (by omega) C' (by decide) (by decide) fun d2 h2 _ _ P2 C2 u2 => ?_
    walk_at "go"
    refine wO eq_int ?_
    refine wTru ?_
    refine wB (fun _ => ?_) fun _ => ?_
    · with_reducible apply we_cst'
      with_reducible apply nxt_nx'
      exact last kp _ h2 _ (by omega) tk (.inl rfl) P2 C2 (u'.trans u2)
    · walk_at "go"
      refine draw_wp (n := n + 1) P2 (by omega) C2 (by decide) (by decide) fun d3 h3 _ _ P3 C3 u3 => ?_
      walk_at "go"
      refine wO eq_int ?_
      refine wTru ?_
      refine wB (fun _ => ?_) fun _ => ?_
      · walk_at "go"
        refine draw_wp (n := n + 1) P3 (by omega) C3 (by decide) (by decide) fun d4 h4 _ _ P4 C4 u4 => ?_
        refine wBop rfl ?_
        with_reducible apply nxt_nx'
        exact last kp _ h4 _ (by omega) tk (.inr ⟨_, rfl⟩) P4 C4 (((u'.trans u2).trans u3).trans u4)
      · with_reducible apply we_cst'
        with_reducible apply nxt_nx'
        exact last kp _ h3 _ (by omega) tk (.inr ⟨_, rfl⟩) P3 C3 ((u'.trans u2).trans u3)
  refine wB (fun _ => ?_) fun _ => ?_
  · walk_at "go"
    refine pick_wp (n := n) P1 (by omega) C1 (Sb.upd u1 hb) hb b0 (by omega) (fun x hx => tr_pk (bt x hx)) fun b hb' h2 P2 C2 u2 => ?_
    with_reducible apply nxt_nx'
    exact mid b h2 _ (by omega) (bt b hb') P2 C2 (u1.trans u2)
  · with_reducible apply we_cst'
    with_reducible apply nxt_nx'
    exact mid .non h1 _ (by omega) rfl P1 C1 u1
end K82
end Mini
end
section
set_option Elab.async false
set_option linter.all false
set_option maxRecDepth 100000
set_option maxHeartbeats 2000000
/-! Plain, part 12 (k82): a drawn filter. -/
namespace Mini
open PySem L2
local macro_rules | `(tactic| walk_at "go1") => `(tactic| first
  | with_reducible apply wxs_cons'
  | with_reducible apply wxs_nil'
  | with_reducible apply nxt_nx'
  | with_reducible apply nxt_rt'
  | with_reducible apply nxt_bk'
  | with_reducible apply nxt_ct'
  | with_reducible apply we_var'
  | with_reducible apply we_cst'
  | with_reducible apply ws_cons'
  | with_reducible apply ws_nil'
  | ((with_reducible apply wSlot); exact rfl)
  | with_reducible apply we_fcl'
  | with_reducible apply we_cmp'
  | with_reducible apply we_idx'
  | with_reducible apply we_bin'
  | with_reducible apply wt_val'
  | with_reducible apply we_tup'
  | with_reducible apply we_lst'
  | with_reducible apply we_bcl'
  | with_reducible apply wx_set'
  | with_reducible apply wx_ret'
  | with_reducible apply wx_ife'
  | with_reducible apply wx_exp'
  | with_reducible apply wx_unp'
  | with_reducible apply wx_par'
  | with_reducible apply wx_sub'
  | with_reducible apply wx_rse'
  | with_reducible apply wx_brk'
  | with_reducible apply wx_cnt'
  | with_reducible apply wx_for'
  | with_reducible apply we_and'
  | with_reducible apply we_or'
  | with_reducible apply we_not'
  | with_reducible apply we_ife'
  | with_reducible apply we_neg'
  | with_reducible apply we_chn'
  | with_reducible apply we_dct'
  | with_reducible apply we_slc'
  | with_reducible apply we_att'
  | with_reducible apply we_isi'
  | with_reducible apply we_mcl'
  | with_reducible apply we_lc'
  | with_reducible apply we_fst'
  | with_reducible apply wf_nil'
  | with_reducible apply wf_cons'
  | with_reducible apply wt_yes'
  | with_reducible apply wt_and'
  | with_reducible apply wt_or'
  | with_reducible apply wt_not'
  | with_reducible apply endQ_rt'
  | with_reducible apply endQ_nx'
  | with_reducible apply wpB_t'
  | with_reducible apply wpB_f'
  | with_reducible apply wpB_nt'
  | with_reducible apply wpB_nf'
  | (with_reducible apply wTru)
  | ((with_reducible apply wBt); with_reducible assumption)
  | ((with_reducible apply wBf); with_reducible assumption)
  | ((with_reducible apply wGle); exact rfl)
  | ((with_reducible apply wGrc); first | exact rfl | assumption)
  | ((with_reducible apply wGdc); exact rfl; exact rfl)
  | ((with_reducible apply wGeq); exact rfl)
  | ((with_reducible apply wOpt); exact rfl)
  | ((with_reducible apply wTup); exact rfl)
  | ((with_reducible apply wUnp); exact rfl)
  | ((with_reducible apply wTg); exact rfl)
  | ((with_reducible apply wNeg); exact rfl)
  | ((with_reducible apply wBop); exact rfl)
  | ((with_reducible apply wIsi (b := true)); (first | exact rfl | assumption); (first | exact rfl | assumption); focus (simp only [List.any_cons, List.any_nil, isTy, String.reduceBEq, String.reduceEq, beq_self_eq_true, Bool.and_false, Bool.false_and, Bool.or_false, Bool.false_or, Bool.or_true, Bool.true_or, Bool.and_self, Bool.or_self, Bool.true_and]; done))
  | ((with_reducible apply wIsi (b := false)); (first | exact rfl | assumption); (first | exact rfl | assumption); focus (simp only [List.any_cons, List.any_nil, isTy, String.reduceBEq, String.reduceEq, beq_self_eq_true, Bool.and_false, Bool.false_and, Bool.or_false, Bool.false_or, Bool.or_true, Bool.true_or, Bool.and_self, Bool.or_self, Bool.true_and]; done)))
local macro_rules | `(tactic| walk_at "go") => `(tactic| (repeat walk_at "go1"))
def tailS : Nat → Ss → Ss
  | 0, s => s
  | n + 1, .cons _ s => tailS n s
  | _ + 1, .nil => .nil
theorem putD_mem {k : Key} {x : VV} : ∀ {ks : List Key} {vs : List VV}, (∀ v ∈ (putD k x ks vs).2, v = x ∨ v ∈ vs) := by
  have putV_mem : ∀ (ks : List Key) (vs : List VV), ∀ v ∈ putV k x ks vs, v = x ∨ v ∈ vs := by
    intro ks
    induction ks with
    | nil => intro vs v hv; cases vs <;> cases hv
    | cons q ks ih =>
      intro vs v hv
      cases vs with
      | nil => cases hv
      | cons w vs =>
        unfold putV at hv
        rcases List.mem_cons.mp hv with e | hv
        · split at e
          · exact .inl e
          · exact .inr (by rw [e]; exact List.mem_cons_self)
        · rcases ih vs v hv with e | e
          · exact .inl e
          · exact .inr (List.mem_cons_of_mem _ e)
  intro ks vs v hv
  unfold putD at hv
  split at hv
  · exact putV_mem ks vs v hv
  · rcases List.mem_append.mp hv with e | e
    · exact .inr e
    · exact .inl (List.mem_singleton.mp e)
theorem putD_keys {k : Key} {x : VV} {ks : List Key} {vs : List VV} : k ∈ (putD k x ks vs).1 ∧ (∀ q ∈ ks, q ∈ (putD k x ks vs).1) ∧ (putD k x ks vs).1.length ≤ ks.length + 1 := by
  unfold putD
  split
  · rename_i h
    obtain ⟨q, hq, e⟩ := List.any_eq_true.mp h
    have e : q = k := of_decide_eq_true e
    exact ⟨by rw [← e]; exact hq, fun q hq => hq, Nat.le_succ _⟩
  · exact ⟨by simp, fun q hq => List.mem_append_left _ hq, by simp⟩
theorem putD_len {k : Key} {x : VV} {ks : List Key} {vs : List VV} (h : ks.length = vs.length) : (putD k x ks vs).1.length = (putD k x ks vs).2.length := by
  have pl : ∀ (ks : List Key) (vs : List VV), ks.length = vs.length → (putV k x ks vs).length = vs.length := by
    intro ks
    induction ks with
    | nil => intro vs h; cases vs with
      | nil => rfl
      | cons _ _ => cases h
    | cons q ks ih => intro vs h; cases vs with
      | nil => cases h
      | cons w vs =>
        unfold putV
        simp only [List.length_cons]
        rw [ih vs (by simpa using h)]
  unfold putD
  split
  · exact (h.trans (pl ks vs h).symm)
  · simp [h]
theorem sub_dic {h : VH} {k : Nat} {ks : List Key} {vs : List VV} {s : Str} {x : VV} (e : h[k]? = some (.dic ks vs)) (hl : ks.length < 1000) : subS (.ref k) (.str s) x h = some (h.set k (.dic (putD (.inr s) x ks vs).1 (putD (.inr s) x ks vs).2)) := by
  unfold subS
  simp only [e, keyOf]
  rw [if_pos hl]
theorem slc_ref {h : VH} {k : Nat} {ys : List VV} {lo hi : Option Int} (e : h[k]? = some (.lst ys)) : slcS (.ref k) lo hi h = .ok (.ref h.length) (h ++ [.lst (cutL ys lo hi)]) := by
  unfold slcS lstOf
  dsimp only
  rw [e]
  rfl
theorem add_ref {h : VH} {a b : Nat} {xs ys : List VV} (e1 : h[a]? = some (.lst xs)) (e2 : h[b]? = some (.lst ys)) (hl : xs.length + ys.length ≤ 100000) : bopS .add (.ref a) (.ref b) h = .ok (.ref h.length) (h ++ [.lst (xs ++ ys)]) := by
  show lstB .add (.ref a) (.ref b) h = _
  unfold lstB lstOf
  simp only [e1, e2]
  rw [if_pos hl]
  rfl
namespace K82
abbrev wordsL : List Str := ["set", "then", "so", "put", "no", "yes", "hm"]
abbrev kindsL : List Str := ["sets", "reads", "tests"]
def BranchOk (T : List Str) (r : VV) : Prop := ∃ w g kp tl, r = .tup [.str w, g, kp, tl] ∧ w ∈ wordsL ∧ (g = .non ∨ ∃ nm ∈ T, g = .str nm) ∧ tr 1 kp = true ∧ tellOk tl
def RowsOk (T : List Str) (rows : List VV) : Prop := rows ≠ [] ∧ rows.length ≤ 2 ∧ ∀ r ∈ rows, BranchOk T r
def PlaceOk (T : List Str) (v : VV) : Prop := ∃ kind st bar num rows, v = .tup [.str kind, st, bar, num, .lst rows] ∧ kind ∈ kindsL ∧ tr 1 st = true ∧ tr 1 bar = true ∧ tr 1 num = true ∧ RowsOk T rows
def PlanOk (v : VV) : Prop := ∃ (T : List Str) (b : Int) (ks : List Key) (vs : List VV), v = .dic [.inr "base", .inr "places"] [.int b, .dic ks vs] ∧ ks.length = vs.length ∧ (∀ x ∈ T, (Sum.inr x : Key) ∈ ks) ∧ (∀ p ∈ vs, PlaceOk T p) ∧ ("go" : Str) ∈ T ∧ ∀ x ∈ T, Ok x
/-- a place while the plan is made: its rows in a cell -/
def PlaceC (T : List Str) (n0 kp : Nat) (h : VH) (v : VV) : Prop := ∃ kind st bar num kr rows, v = .tup [.str kind, st, bar, num, .ref kr] ∧ n0 ≤ kr ∧ kr ≠ kp ∧ h[kr]? = some (.lst rows) ∧ kind ∈ kindsL ∧ tr 1 st = true ∧ tr 1 bar = true ∧ tr 1 num = true ∧ RowsOk T rows
theorem BranchOk.tr {T : List Str} {r : VV} (b : BranchOk T r) : tr 2 r = true := by
  obtain ⟨w, g, kp, tl, rfl, _, hg, hk, ht⟩ := b
  show trL 1 [.str w, g, kp, tl] = true
  rw [trL_all]
  intro x hx
  simp only [List.mem_cons, List.not_mem_nil, or_false] at hx
  rcases hx with rfl | rfl | rfl | rfl
  · rfl
  · rcases hg with rfl | ⟨nm, _, rfl⟩ <;> rfl
  · exact hk
  · exact ht.tr
/-- the state while the plan is made; D: the places that stand -/
structure PlS (T D : List Str) (k c m kp kb kn kg : Nat) (h0 h : VH) (bs nms : List Str) : Prop where
  pen : Pen h k c m
  clo : Clo h
  grow : Grow k h0 h
  k0 : k < h0.length
  c0 : c < h0.length
  p0 : h0.length ≤ kp
  b0 : h0.length ≤ kb ∧ kb ≠ kp
  n0 : h0.length ≤ kn ∧ kn ≠ kp
  g0 : h0.length ≤ kg ∧ kg ≠ kp
  hb : h[kb]? = some (.lst (bs.map VV.str))
  hn : h[kn]? = some (.lst (nms.map VV.str))
  hg : h[kg]? = some (.lst (nms.map VV.str ++ [.non]))
  dic : ∃ ks vs, h[kp]? = some (.dic ks vs) ∧ ks.length = vs.length ∧ ks.length ≤ D.length ∧ (∀ x ∈ D, (Sum.inr x : Key) ∈ ks) ∧ ∀ v ∈ vs, PlaceC T h0.length kp h v
section
variable {T D : List Str} {k c m m' kp kb kn kg : Nat} {h0 h h' : VH} {bs nms : List Str}
theorem PlS.upd (S : PlS T D k c m kp kb kn kg h0 h bs nms) (P : Pen h' k c m') (C : Clo h') (u : Upd k h h') : PlS T D k c m' kp kb kn kg h0 h' bs nms := by
  have nk : ∀ j, h0.length ≤ j → j ≠ k := fun j hj e => by have := S.k0; omega
  obtain ⟨ks, vs, d1, d2, d3, d4, d5⟩ := S.dic
  refine ⟨P, C, S.grow.upd u, S.k0, S.c0, S.p0, S.b0, S.n0, S.g0, ?_, ?_, ?_, ks, vs, ?_, d2, d3, d4, fun v hv => ?_⟩
  · rw [u.oth _ (nk _ S.b0.1)]; exact S.hb
  · rw [u.oth _ (nk _ S.n0.1)]; exact S.hn
  · rw [u.oth _ (nk _ S.g0.1)]; exact S.hg
  · rw [u.oth _ (nk _ S.p0)]; exact d1
  · obtain ⟨kind, st, bar, num, kr, rows, e1, e2, e3, e4, e5⟩ := d5 v hv
    exact ⟨kind, st, bar, num, kr, rows, e1, e2, e3, by rw [u.oth _ (nk _ e2)]; exact e4, e5⟩
theorem PlS.snoc (S : PlS T D k c m kp kb kn kg h0 h bs nms) {o : Ob} (ho : cloOb (h.length + 1) o = true) : PlS T D k c m kp kb kn kg h0 (h ++ [o]) bs nms := by
  obtain ⟨ks, vs, d1, d2, d3, d4, d5⟩ := S.dic
  refine ⟨S.pen.snoc _, S.clo.snoc ho, S.grow.snoc _, S.k0, S.c0, S.p0, S.b0, S.n0, S.g0, at_keep S.hb, at_keep S.hn, at_keep S.hg, ks, vs, at_keep d1, d2, d3, d4, fun v hv => ?_⟩
  obtain ⟨kind, st, bar, num, kr, rows, e1, e2, e3, e4, e5⟩ := d5 v hv
  exact ⟨kind, st, bar, num, kr, rows, e1, e2, e3, at_keep e4, e5⟩
theorem PlS.mono (S : PlS T D k c m kp kb kn kg h0 h bs nms) (l : m ≤ m') : PlS T D k c m' kp kb kn kg h0 h bs nms :=
  ⟨S.pen.mono l, S.clo, S.grow, S.k0, S.c0, S.p0, S.b0, S.n0, S.g0, S.hb, S.hn, S.hg, S.dic⟩
/-- a place is put -/
theorem PlS.put (S : PlS T D k c m kp kb kn kg h0 h bs nms) (hD : D.length < 900) {x : Str} {v : VV} (p : PlaceC T h0.length kp h v) : ∃ h', subS (.ref kp) (.str x) v h = some h' ∧ PlS T (x :: D) k c m kp kb kn kg h0 h' bs nms := by
  obtain ⟨ks, vs, d1, d2, d3, d4, d5⟩ := S.dic
  have hp := (List.getElem?_eq_some_iff.mp d1).1
  have clv : cloOb h.length (.dic (putD (.inr x) v ks vs).1 (putD (.inr x) v ks vs).2) = true := by
    show cloL h.length _ = true
    rw [cloL_all]
    intro y hy
    have one : ∀ y, PlaceC T h0.length kp h y → Mini.clo h.length y = true := fun y ⟨kind, st, bar, num, kr, rows, e1, e2, e3, e4, e5, t1, t2, t3, e6⟩ => by
      subst e1
      show cloL h.length [.str kind, st, bar, num, .ref kr] = true
      rw [cloL_all]
      intro z hz
      simp only [List.mem_cons, List.not_mem_nil, or_false] at hz
      rcases hz with rfl | rfl | rfl | rfl | rfl
      · unfold Mini.clo; rfl
      · exact clo_tr t1
      · exact clo_tr t2
      · exact clo_tr t3
      · unfold Mini.clo; rw [Nat.blt_eq]; exact (List.getElem?_eq_some_iff.mp e4).1
    rcases putD_mem y hy with rfl | hy
    · exact one _ p
    · exact one _ (d5 y hy)
  have np : kp ≠ k := fun e => by have := S.k0; have := S.p0; omega
  have nc : kp ≠ c := fun e => by have := S.c0; have := S.p0; omega
  have pc : ∀ y, PlaceC T h0.length kp h y → PlaceC T h0.length kp (h.set kp (.dic (putD (.inr x) v ks vs).1 (putD (.inr x) v ks vs).2)) y := fun y ⟨kind, st, bar, num, kr, rows, e1, e2, e3, e4, e5⟩ =>
    ⟨kind, st, bar, num, kr, rows, e1, e2, e3, by rw [List.getElem?_set_ne (Ne.symm e3)]; exact e4, e5⟩
  refine ⟨_, sub_dic d1 (by omega), S.pen.other np nc, S.clo.set clv, S.grow.set S.p0 _, S.k0, S.c0, S.p0, S.b0, S.n0, S.g0, ?_, ?_, ?_, _, _, List.getElem?_set_self hp, putD_len d2, ?_, fun y hy => ?_, fun y hy => ?_⟩
  · rw [List.getElem?_set_ne (Ne.symm S.b0.2)]; exact S.hb
  · rw [List.getElem?_set_ne (Ne.symm S.n0.2)]; exact S.hn
  · rw [List.getElem?_set_ne (Ne.symm S.g0.2)]; exact S.hg
  · have := (putD_keys (k := .inr x) (x := v) (ks := ks) (vs := vs)).2.2
    rw [List.length_cons]
    omega
  · rcases List.mem_cons.mp hy with rfl | hy
    · exact putD_keys.1
    · exact putD_keys.2.1 _ (d4 y hy)
  · rcases putD_mem y hy with rfl | hy
    · exact pc _ p
    · exact pc _ (d5 y hy)
/-- what leaves at the end -/
theorem PlS.fin {b : Int} {Q : VV → VH → Prop} {E : XP} (S : PlS T D k c m kp kb kn kg h0 h bs nms) (C0 : Clo h0) (hT : ∀ x ∈ T, x ∈ D) (hgo : ("go" : Str) ∈ T) (hok : ∀ x ∈ T, Ok x) (q : ∀ t h', PlanOk t → Pen h' k c m → Clo h' → Upd k h0 h' → Q t h') :
    (fin false h0.length (.ref h.length) (h ++ [.dic [.inr "base", .inr "places"] [.int b, .ref kp]])).wp Q E := by
  obtain ⟨ks, vs, d1, d2, d3, d4, d5⟩ := S.dic
  have S' := S.snoc (o := .dic [.inr "base", .inr "places"] [.int b, .ref kp]) (by
    show cloL (h.length + 1) [.int b, .ref kp] = true
    rw [cloL_all]
    intro z hz
    simp only [List.mem_cons, List.not_mem_nil, or_false] at hz
    rcases hz with rfl | rfl
    · unfold Mini.clo; rfl
    · unfold Mini.clo; rw [Nat.blt_eq]; have := (List.getElem?_eq_some_iff.mp d1).1; omega)
  obtain ⟨h1, l, e, u, P1, C1⟩ := grow_fin S'.grow S'.pen S.k0 S.c0 C0
  have k1 : (h ++ [Ob.dic [.inr "base", .inr "places"] [.int b, .ref kp]])[h.length]? = some (.dic [.inr "base", .inr "places"] [.int b, .ref kp]) := at_snoc
  have k2 : (h ++ [Ob.dic [.inr "base", .inr "places"] [.int b, .ref kp]])[kp]? = some (.dic ks vs) := at_keep d1
  have fr : ∀ v ∈ vs, ∃ t, frz h0.length 28 (h ++ [Ob.dic [.inr "base", .inr "places"] [.int b, .ref kp]]) v = some t ∧ PlaceOk T t := fun v hv => by
    obtain ⟨kind, st, bar, num, kr, rows, e1, e2, e3, e4, e5, t1, t2, t3, e6⟩ := d5 v hv
    subst e1
    have k3 : (h ++ [Ob.dic [.inr "base", .inr "places"] [.int b, .ref kp]])[kr]? = some (.lst rows) := at_keep e4
    generalize h ++ [Ob.dic [.inr "base", .inr "places"] [.int b, .ref kp]] = H at k3
    refine ⟨.tup [.str kind, st, bar, num, .lst rows], ?_, kind, st, bar, num, rows, rfl, e5, t1, t2, t3, e6⟩
    have fr1 : frz h0.length 27 H (.ref kr) = some (.lst rows) := by
      unfold frz
      dsimp only
      rw [if_neg (by rw [Nat.blt_eq]; omega), k3]
      dsimp only
      have := mapO_of (f := frz h0.length 26 H) (xs := rows) (g := id) fun r hr => frz_tr (tr_le (e6.2.2 r hr).tr (by decide))
      rw [this, List.map_id]
      rfl
    have : mapO (frz h0.length 27 H) [.str kind, st, bar, num, .ref kr] = some [.str kind, st, bar, num, .lst rows] :=
      mapO_consP (frz_tr (n := 27) rfl) (mapO_consP (frz_tr (tr_le t1 (by decide))) (mapO_consP (frz_tr (tr_le t2 (by decide))) (mapO_consP (frz_tr (tr_le t3 (by decide))) (mapO_consP fr1 rfl))))
    show (mapO (frz h0.length 27 H) [.str kind, st, bar, num, .ref kr]).map VV.tup = _
    rw [this]
    rfl
  obtain ⟨ts, ht1, ht2⟩ : ∃ ts, mapO (frz h0.length 28 (h ++ [Ob.dic [.inr "base", .inr "places"] [.int b, .ref kp]])) vs = some ts ∧ (∀ t ∈ ts, PlaceOk T t) ∧ ts.length = vs.length := by
    revert fr
    generalize h ++ [Ob.dic [.inr "base", .inr "places"] [.int b, .ref kp]] = H
    clear d2 d5 d1 k2
    induction vs with
    | nil => intro _; exact ⟨[], rfl, (fun t ht => nomatch ht), rfl⟩
    | cons v vs ih =>
      intro fr
      obtain ⟨t, a1, a2⟩ := fr v List.mem_cons_self
      obtain ⟨ts, b1, b2, b3⟩ := ih fun w hw => fr w (List.mem_cons_of_mem _ hw)
      refine ⟨t :: ts, mapO_consP a1 b1, fun x hx => ?_, by simp [b3]⟩
      rcases List.mem_cons.mp hx with rfl | hx
      · exact a2
      · exact b2 x hx
  have hlen := S.grow.len
  have f2 : frz h0.length 29 (h ++ [Ob.dic [.inr "base", .inr "places"] [.int b, .ref kp]]) (.ref kp) = some (.dic ks ts) := by
    unfold frz
    dsimp only
    rw [if_neg (by rw [Nat.blt_eq]; have := S.p0; omega), k2]
    dsimp only
    rw [ht1]
    rfl
  have f1 : frz h0.length 30 (h ++ [Ob.dic [.inr "base", .inr "places"] [.int b, .ref kp]]) (.ref h.length) = some (.dic [.inr "base", .inr "places"] [.int b, .dic ks ts]) := by
    unfold frz
    dsimp only
    rw [if_neg (by rw [Nat.blt_eq]; omega), k1]
    dsimp only
    have : mapO (frz h0.length 29 (h ++ [Ob.dic [.inr "base", .inr "places"] [.int b, .ref kp]])) [.int b, .ref kp] = some [.int b, .dic ks ts] := mapO_consP (frz_tr (n := 29) rfl) (mapO_consP f2 rfl)
    rw [this]
    rfl
  rw [e] at f1 ⊢
  refine fin_wp u.len C1 f1 (q _ h1 ⟨T, b, ks, ts, rfl, by rw [ht2.2]; exact d2, fun x hx => d4 x (hT x hx), ht2.1, hgo, hok⟩ P1 C1 u)
end
end K82
end Mini
end
section
set_option Elab.async false
set_option linter.all false
set_option maxRecDepth 100000
set_option maxHeartbeats 2000000
/-! Plain, part 13 (k82): a drawn filter, step by step. -/
namespace Mini
open PySem L2
local macro_rules | `(tactic| walk_at "go1") => `(tactic| first
  | with_reducible apply wxs_cons'
  | with_reducible apply wxs_nil'
  | with_reducible apply nxt_nx'
  | with_reducible apply nxt_rt'
  | with_reducible apply nxt_bk'
  | with_reducible apply nxt_ct'
  | with_reducible apply we_var'
  | with_reducible apply we_cst'
  | with_reducible apply ws_cons'
  | with_reducible apply ws_nil'
  | ((with_reducible apply wSlot); exact rfl)
  | with_reducible apply we_fcl'
  | with_reducible apply we_cmp'
  | with_reducible apply we_idx'
  | with_reducible apply we_bin'
  | with_reducible apply wt_val'
  | with_reducible apply we_tup'
  | with_reducible apply we_lst'
  | with_reducible apply we_bcl'
  | with_reducible apply wx_set'
  | with_reducible apply wx_ret'
  | with_reducible apply wx_ife'
  | with_reducible apply wx_exp'
  | with_reducible apply wx_unp'
  | with_reducible apply wx_par'
  | with_reducible apply wx_sub'
  | with_reducible apply wx_rse'
  | with_reducible apply wx_brk'
  | with_reducible apply wx_cnt'
  | with_reducible apply wx_for'
  | with_reducible apply we_and'
  | with_reducible apply we_or'
  | with_reducible apply we_not'
  | with_reducible apply we_ife'
  | with_reducible apply we_neg'
  | with_reducible apply we_chn'
  | with_reducible apply we_dct'
  | with_reducible apply we_slc'
  | with_reducible apply we_att'
  | with_reducible apply we_isi'
  | with_reducible apply we_mcl'
  | with_reducible apply we_lc'
  | with_reducible apply we_fst'
  | with_reducible apply wf_nil'
  | with_reducible apply wf_cons'
  | with_reducible apply wt_yes'
  | with_reducible apply wt_and'
  | with_reducible apply wt_or'
  | with_reducible apply wt_not'
  | with_reducible apply endQ_rt'
  | with_reducible apply endQ_nx'
  | with_reducible apply wpB_t'
  | with_reducible apply wpB_f'
  | with_reducible apply wpB_nt'
  | with_reducible apply wpB_nf'
  | (with_reducible apply wTru)
  | ((with_reducible apply wBt); with_reducible assumption)
  | ((with_reducible apply wBf); with_reducible assumption)
  | ((with_reducible apply wGle); exact rfl)
  | ((with_reducible apply wGrc); first | exact rfl | assumption)
  | ((with_reducible apply wGdc); exact rfl; exact rfl)
  | ((with_reducible apply wGeq); exact rfl)
  | ((with_reducible apply wOpt); exact rfl)
  | ((with_reducible apply wTup); exact rfl)
  | ((with_reducible apply wUnp); exact rfl)
  | ((with_reducible apply wTg); exact rfl)
  | ((with_reducible apply wNeg); exact rfl)
  | ((with_reducible apply wBop); exact rfl)
  | ((with_reducible apply wIsi (b := true)); (first | exact rfl | assumption); (first | exact rfl | assumption); focus (simp only [List.any_cons, List.any_nil, isTy, String.reduceBEq, String.reduceEq, beq_self_eq_true, Bool.and_false, Bool.false_and, Bool.or_false, Bool.false_or, Bool.or_true, Bool.true_or, Bool.and_self, Bool.or_self, Bool.true_and]; done))
  | ((with_reducible apply wIsi (b := false)); (first | exact rfl | assumption); (first | exact rfl | assumption); focus (simp only [List.any_cons, List.any_nil, isTy, String.reduceBEq, String.reduceEq, beq_self_eq_true, Bool.and_false, Bool.false_and, Bool.or_false, Bool.false_or, Bool.or_true, Bool.true_or, Bool.and_self, Bool.or_self, Bool.true_and]; done)))
local macro_rules | `(tactic| walk_at "go") => `(tactic| (repeat walk_at "go1"))
namespace K82
section
variable {T D : List Str} {k c m m' kp kb kn kg : Nat} {h0 h h' : VH} {bs nms : List Str}
theorem PlS.place (S : PlS T D k c m kp kb kn kg h0 h bs nms) {kind : Str} {st bar num : VV} {rows : List VV} (h1 : kind ∈ kindsL) (h2 : tr 1 st = true) (h3 : tr 1 bar = true) (h4 : tr 1 num = true) (h5 : RowsOk T rows) : PlS T D k c m kp kb kn kg h0 (h ++ [.lst rows]) bs nms ∧ PlaceC T h0.length kp (h ++ [.lst rows]) (.tup [.str kind, st, bar, num, .ref h.length]) := by
  refine ⟨S.snoc (cloL_tr (n := 2) (trL_all.mpr fun r hr => (h5.2.2 r hr).tr)), kind, st, bar, num, h.length, rows, rfl, S.grow.len, ?_, at_snoc, h1, h2, h3, h4, h5⟩
  obtain ⟨ks, vs, d1, _⟩ := S.dic
  have := (List.getElem?_eq_some_iff.mp d1).1
  omega
theorem goals_ok (hnT : ∀ x ∈ nms, x ∈ T) : ∀ g ∈ nms.map VV.str ++ [.non], tr 1 g = true ∧ (g = .non ∨ ∃ nm ∈ T, g = .str nm) := fun g hg => by
  rcases List.mem_append.mp hg with hg | hg
  · obtain ⟨x, hx, rfl⟩ := List.mem_map.mp hg
    exact ⟨rfl, .inr ⟨x, hnT x hx, rfl⟩⟩
  · rw [List.mem_singleton.mp hg]
    exact ⟨rfl, .inl rfl⟩
theorem strs_tr {ss : List Str} : ∀ x ∈ ss.map VV.str, tr 1 x = true := fun x hx => by
  obtain ⟨s, _, rfl⟩ := List.mem_map.mp hx
  rfl
/-- what stands for the filter's own sizes -/
structure Fit (T bs nms : List Str) : Prop where
  nT : ∀ x ∈ nms, x ∈ T
  b0 : bs ≠ []
  bl : bs.length ≤ 3
  nl : nms.length ≤ 3
  go : ("go" : Str) ∈ T
  ok : ∀ x ∈ T, Ok x
theorem PlS.nk (S : PlS T D k c m kp kb kn kg h0 h bs nms) {j : Nat} (hj : h0.length ≤ j) : VV.ref j ≠ .ref k := fun e => by
  have := S.k0
  injection e with e
  omega
abbrev sl (k kb kp kn kg : Nat) (a b d e f : Option VV) : Sl := [some (.ref k), some (.int 3), some (.ref kb), some (.ref kp), some (.ref kn), some (.ref kg), a, b, d, e, f]
/-- a turn of the loop over the names -/
theorem plan_turn {n : Nat} {Q : Fl → VH → Prop} {E : XP} {x : Str} {b d e f : Option VV} (S : PlS T D k c m kp kb kn kg h0 h bs nms) (hm : m + 100 ≤ 1000000) (hD : D.length < 800) (F : Fit T bs nms)
    (q : ∀ b d e f h' m', m' ≤ m + 20 → PlS T (x :: D) k c m' kp kb kn kg h0 h' bs nms → Q (.nx (sl k kb kp kn kg (some (.str x)) b d e f)) h') :
    (exs (envP PK (n + 3)) (.cons (.par 7 8 (.bin .add (.cst (.int 1)) (.fcl 10 (.cons (.var 0) (.cons (.cst (.int 2)) .nil)))) (.fcl 10 (.cons (.var 0) (.cons (.cst (.int 9)) .nil))))
  (.cons (.ife (.val (.cmp .eq (.var 8) (.cst (.int 0)))) (.cons (.set 9 (.fcl 11 (.cons (.var 0) (.cons (.var 2) .nil))))
  (.cons (.sub (.var 3) (.var 6) (.tup (.cons (.cst (.str "sets")) (.cons (.var 7) (.cons (.var 9) (.cons (.neg (.cst (.int 1))) (.cons (.lst (.cons (.tup (.cons (.cst (.str "put")) (.cons (.fcl 11 (.cons (.var 0) (.cons (.var 5) .nil))) (.cons (.var 9) (.cons (.cst (.int 0)) .nil))))) .nil)) .nil)))))))
  .nil)) (.cons (.ife (.val (.cmp .lt (.var 8) (.cst (.int 7)))) (.cons (.set 10 (.lst (.cons (.fcl 12 (.cons (.var 0) (.cons (.cst (.str "no")) (.cons (.var 5) (.cons (.var 2) .nil))))) (.cons (.fcl 12 (.cons (.var 0) (.cons (.cst (.str "yes")) (.cons (.var 5) (.cons (.var 2) .nil))))) .nil))))
  (.cons (.sub (.var 3) (.var 6) (.tup (.cons (.cst (.str "tests")) (.cons (.var 7) (.cons (.fcl 11 (.cons (.var 0) (.cons (.var 2) .nil))) (.cons (.cst .non) (.cons (.var 10) .nil)))))))
  .nil)) (.cons (.sub (.var 3) (.var 6) (.tup (.cons (.cst (.str "reads")) (.cons (.var 7) (.cons (.cst .non) (.cons (.cst .non) (.cons (.lst (.cons (.fcl 12 (.cons (.var 0) (.cons (.cst (.str "hm")) (.cons (.var 5) (.cons (.var 2) .nil))))) .nil)) .nil)))))))
  .nil))
  .nil))
  .nil)) (sl k kb kp kn kg (some (.str x)) b d e f) h).wp Q E := by
  have gt := goals_ok F.nT
  have gl : (nms.map VV.str ++ [VV.non]).length ≤ 1000 := by have := F.nl; simp; omega
  have g0 : nms.map VV.str ++ [VV.non] ≠ [] := by simp
  have bm0 : bs.map VV.str ≠ [] := by have := F.b0; simpa using this
  have bml : (bs.map VV.str).length ≤ 1000 := by have := F.bl; simp; omega
  walk_at "go"
  refine draw_wp (n := n + 2) S.pen (by omega) S.clo (by decide) (by decide) fun d1 h1 _ _ P1 C1 u1 => ?_
  have S1 := S.upd P1 C1 u1
  refine wBop rfl ?_
  walk_at "go"
  refine draw_wp (n := n + 2) P1 (by omega) C1 (by decide) (by decide) fun d2 h2 _ _ P2 C2 u2 => ?_
  have S2 := S1.upd P2 C2 u2
  walk_at "go"
  refine wO eq_int ?_
  walk_at "go"
  refine wB (fun _ => ?_) fun _ => ?_
  · walk_at "go"
    refine pick_wp (n := n + 1) P2 (by omega) C2 (.ref S2.hb) (S.nk S.b0.1) bm0 (by omega) (fun y hy => tr_pk (strs_tr y hy)) fun bar hbar h3 P3 C3 u3 => ?_
    have S3 := S2.upd P3 C3 u3
    walk_at "go"
    refine pick_wp (n := n + 1) P3 (by omega) C3 (.ref S3.hg) (S.nk S.g0.1) g0 (by omega) (fun y hy => tr_pk (gt y hy).1) fun g hg h4 P4 C4 u4 => ?_
    have S4 := S3.upd P4 C4 u4
    walk_at "go"
    have tb := strs_tr bar hbar
    obtain ⟨S5, pc⟩ := S4.place (kind := "sets") (st := .int (1 + d1)) (bar := bar) (num := .int (-1)) (rows := [.tup [.str "put", g, bar, .int 0]]) (by simp) rfl tb rfl ⟨by simp, by simp, fun r hr => by
      rw [List.mem_singleton.mp hr]
      exact ⟨"put", g, bar, .int 0, rfl, by decide, (gt g hg).2, tb, .inr ⟨0, rfl⟩⟩⟩
    obtain ⟨h5, e5, S6⟩ := S5.put (x := x) (by omega) pc
    refine wO e5 ?_
    walk_at "go"
    exact q _ _ _ _ _ _ (by omega) S6
  · walk_at "go"
    refine wO (show copS .lt (.int d2) (.int 7) h2 = some (decide (d2 < 7)) from rfl) ?_
    walk_at "go"
    refine wB (fun _ => ?_) fun _ => ?_
    · walk_at "go"
      refine row_wp (n := n) P2 (by omega) C2 (.ref S2.hg) (S.nk S.g0.1) (.ref S2.hb) (S.nk S.b0.1) g0 bm0 gl bml (fun y hy => (gt y hy).1) strs_tr fun g1 hg1 kp1 tl1 h3 tk1 tt1 P3 C3 u3 => ?_
      have S3 := S2.upd P3 C3 u3
      walk_at "go"
      refine row_wp (n := n) P3 (by omega) C3 (.ref S3.hg) (S.nk S.g0.1) (.ref S3.hb) (S.nk S.b0.1) g0 bm0 gl bml (fun y hy => (gt y hy).1) strs_tr fun g2 hg2 kp2 tl2 h4 tk2 tt2 P4 C4 u4 => ?_
      have S4 := S3.upd P4 C4 u4
      walk_at "go"
      have ro : RowsOk T [.tup [.str "no", g1, kp1, tl1], .tup [.str "yes", g2, kp2, tl2]] := ⟨by simp, by simp, fun r hr => by
        simp only [List.mem_cons, List.not_mem_nil, or_false] at hr
        rcases hr with rfl | rfl
        · exact ⟨"no", g1, kp1, tl1, rfl, by decide, (gt g1 hg1).2, tk1, tt1⟩
        · exact ⟨"yes", g2, kp2, tl2, rfl, by decide, (gt g2 hg2).2, tk2, tt2⟩⟩
      have S5 := (S4.place (kind := "tests") (st := .int 0) (bar := .non) (num := .non) (by simp) rfl rfl rfl ro).1
      have kr : (h4 ++ [Ob.lst [.tup [.str "no", g1, kp1, tl1], .tup [.str "yes", g2, kp2, tl2]]])[h4.length]? = some (.lst [.tup [.str "no", g1, kp1, tl1], .tup [.str "yes", g2, kp2, tl2]]) := at_snoc
      refine pick_wp (n := n + 1) S5.pen (by omega) S5.clo (.ref S5.hb) (S.nk S.b0.1) bm0 (by omega) (fun y hy => tr_pk (strs_tr y hy)) fun bar hbar h5 P5 C5 u5 => ?_
      have S6 := S5.upd P5 C5 u5
      walk_at "go"
      have pc : PlaceC T h0.length kp h5 (.tup [.str "tests", .int (1 + d1), bar, .non, .ref h4.length]) := by
        obtain ⟨_, _, _, _, _, _, e1, e2, e3, _⟩ := (S4.place (kind := "tests") (st := .int 0) (bar := .non) (num := .non) (by simp) rfl rfl rfl ro).2
        cases e1
        refine ⟨"tests", .int (1 + d1), bar, .non, h4.length, _, rfl, e2, e3, ?_, by simp, rfl, strs_tr bar hbar, rfl, ro⟩
        rw [u5.oth _ (by have := S.k0; omega)]
        exact kr
      obtain ⟨h6, e6, S7⟩ := S6.put (x := x) (by omega) pc
      refine wO e6 ?_
      walk_at "go"
      exact q _ _ _ _ _ _ (by omega) S7
    · walk_at "go"
      refine row_wp (n := n) P2 (by omega) C2 (.ref S2.hg) (S.nk S.g0.1) (.ref S2.hb) (S.nk S.b0.1) g0 bm0 gl bml (fun y hy => (gt y hy).1) strs_tr fun g1 hg1 kp1 tl1 h3 tk1 tt1 P3 C3 u3 => ?_
      have S3 := S2.upd P3 C3 u3
      walk_at "go"
      obtain ⟨S4, pc⟩ := S3.place (kind := "reads") (st := .int (1 + d1)) (bar := .non) (num := .non) (rows := [.tup [.str "hm", g1, kp1, tl1]]) (by simp) rfl rfl rfl ⟨by simp, by simp, fun r hr => by
        rw [List.mem_singleton.mp hr]
        exact ⟨"hm", g1, kp1, tl1, rfl, by decide, (gt g1 hg1).2, tk1, tt1⟩⟩
      obtain ⟨h5, e5, S5⟩ := S4.put (x := x) (by omega) pc
      refine wO e5 ?_
      walk_at "go"
      exact q _ _ _ _ _ _ (by omega) S5
end
end K82
end Mini
end
section
set_option Elab.async false
set_option linter.all false
set_option maxRecDepth 100000
set_option maxHeartbeats 2000000
/-! Plain, part 14 (k82): a drawn filter, the whole. -/
namespace Mini
open PySem L2
local macro_rules | `(tactic| walk_at "go1") => `(tactic| first
  | with_reducible apply wxs_cons'
  | with_reducible apply wxs_nil'
  | with_reducible apply nxt_nx'
  | with_reducible apply nxt_rt'
  | with_reducible apply nxt_bk'
  | with_reducible apply nxt_ct'
  | with_reducible apply we_var'
  | with_reducible apply we_cst'
  | with_reducible apply ws_cons'
  | with_reducible apply ws_nil'
  | ((with_reducible apply wSlot); exact rfl)
  | with_reducible apply we_fcl'
  | with_reducible apply we_cmp'
  | with_reducible apply we_idx'
  | with_reducible apply we_bin'
  | with_reducible apply wt_val'
  | with_reducible apply we_tup'
  | with_reducible apply we_lst'
  | with_reducible apply we_bcl'
  | with_reducible apply wx_set'
  | with_reducible apply wx_ret'
  | with_reducible apply wx_ife'
  | with_reducible apply wx_exp'
  | with_reducible apply wx_unp'
  | with_reducible apply wx_par'
  | with_reducible apply wx_sub'
  | with_reducible apply wx_rse'
  | with_reducible apply wx_brk'
  | with_reducible apply wx_cnt'
  | with_reducible apply wx_for'
  | with_reducible apply we_and'
  | with_reducible apply we_or'
  | with_reducible apply we_not'
  | with_reducible apply we_ife'
  | with_reducible apply we_neg'
  | with_reducible apply we_chn'
  | with_reducible apply we_dct'
  | with_reducible apply we_slc'
  | with_reducible apply we_att'
  | with_reducible apply we_isi'
  | with_reducible apply we_mcl'
  | with_reducible apply we_lc'
  | with_reducible apply we_fst'
  | with_reducible apply wf_nil'
  | with_reducible apply wf_cons'
  | with_reducible apply wt_yes'
  | with_reducible apply wt_and'
  | with_reducible apply wt_or'
  | with_reducible apply wt_not'
  | with_reducible apply endQ_rt'
  | with_reducible apply endQ_nx'
  | with_reducible apply wpB_t'
  | with_reducible apply wpB_f'
  | with_reducible apply wpB_nt'
  | with_reducible apply wpB_nf'
  | (with_reducible apply wTru)
  | ((with_reducible apply wBt); with_reducible assumption)
  | ((with_reducible apply wBf); with_reducible assumption)
  | ((with_reducible apply wGle); exact rfl)
  | ((with_reducible apply wGrc); first | exact rfl | assumption)
  | ((with_reducible apply wGdc); exact rfl; exact rfl)
  | ((with_reducible apply wGeq); exact rfl)
  | ((with_reducible apply wOpt); exact rfl)
  | ((with_reducible apply wTup); exact rfl)
  | ((with_reducible apply wUnp); exact rfl)
  | ((with_reducible apply wTg); exact rfl)
  | ((with_reducible apply wNeg); exact rfl)
  | ((with_reducible apply wBop); exact rfl)
  | ((with_reducible apply wIsi (b := true)); (first | exact rfl | assumption); (first | exact rfl | assumption); focus (simp only [List.any_cons, List.any_nil, isTy, String.reduceBEq, String.reduceEq, beq_self_eq_true, Bool.and_false, Bool.false_and, Bool.or_false, Bool.false_or, Bool.or_true, Bool.true_or, Bool.and_self, Bool.or_self, Bool.true_and]; done))
  | ((with_reducible apply wIsi (b := false)); (first | exact rfl | assumption); (first | exact rfl | assumption); focus (simp only [List.any_cons, List.any_nil, isTy, String.reduceBEq, String.reduceEq, beq_self_eq_true, Bool.and_false, Bool.false_and, Bool.or_false, Bool.false_or, Bool.or_true, Bool.true_or, Bool.and_self, Bool.or_self, Bool.true_and]; done)))
local macro_rules | `(tactic| walk_at "go") => `(tactic| (repeat walk_at "go1"))
namespace K82
structure Fit2 (T bs nms : List Str) : Prop extends Fit T bs nms where
  t3 : 2 < bs.length → ("third" : Str) ∈ T
  t2 : 1 < bs.length → ("nextone" : Str) ∈ T
  sub : ∀ x ∈ T, x = "go" ∨ (x = "nextone" ∧ 1 < bs.length) ∨ (x = "third" ∧ 2 < bs.length) ∨ x ∈ nms
section
variable {T D : List Str} {k c m m' kp kb kn kg : Nat} {h0 h h' : VH} {bs nms : List Str} {n : Nat} {Q : VV → VH → Prop} {E : XP}
theorem plan_loop {b d e f a : Option VV} (C0 : Clo h0) (S : PlS T D k c m kp kb kn kg h0 h bs nms) (hm : m + 200 ≤ 1000000) (hD : D.length < 700) (F : Fit2 T bs nms) (hT : ∀ x ∈ T, x ∈ D ∨ x ∈ nms)
    (q : ∀ t h', PlanOk t → Pen h' k c (m + 61) → Clo h' → Upd k h0 h' → Q t h') : (exs (envP PK (n + 3)) (tailS 6 b__law_plan) (sl k kb kp kn kg a b d e f) h).wp (endQ false h0.length Q E) (endX h0.length Q E) := by
  unfold b__law_plan
  simp only [tailS]
  walk_at "go"
  refine (SeqV.ref S.hn).for false (fun pre post σ h' => ∃ (l1 l2 : List Str) (m' : Nat) (D' : List Str) (a b d e f : Option VV), nms = l1 ++ l2 ∧ pre = l1.map VV.str ∧ post = l2.map VV.str ∧ m' ≤ m + 20 * l1.length ∧ PlS T D' k c m' kp kb kn kg h0 h' bs nms ∧ σ = sl k kb kp kn kg a b d e f ∧ (∀ x ∈ D, x ∈ D') ∧ (∀ x ∈ l1, x ∈ D') ∧ D'.length ≤ D.length + l1.length)
    ⟨[], nms, m, D, a, b, d, e, f, rfl, rfl, rfl, Nat.le_refl _, S, rfl, fun x hx => hx, fun x hx => (nomatch hx), Nat.le_refl _⟩ (fun pre x post σ h' ⟨l1, l2, m', D', a, b, d, e, f, q1, q2, q3, q4, q5, q6, q7, q8, q9⟩ => ?_) (fun pre post σ h' ⟨l1, l2, m', D', a, b, d, e, f, q1, q2, q3, q4, q5, q6, q7, q8, q9⟩ kk ek ev => ?_) fun pre σ h' ⟨l1, l2, m', D', a, b, d, e, f, q1, q2, q3, q4, q5, q6, q7, q8, q9⟩ => ?_
  · subst q6
    cases l2 with
    | nil => cases q3
    | cons w l2 =>
      rw [List.map_cons] at q3
      injection q3 with r1 r2
      subst r1
      have hl : l1.length + (l2.length + 1) = nms.length := by rw [q1]; simp
      have := F.nl
      rw [wp_forF]
      refine wO rfl ?_
      refine plan_turn (n := n) (x := w) q5 (by omega) (by omega) F.toFit fun b d e f h2 m2 hm2 S2 => ?_
      refine ⟨l1 ++ [w], l2, m2, w :: D', _, b, d, e, f, by rw [q1]; simp, by rw [q2]; simp, r2, ?_, S2, rfl, fun x hx => List.mem_cons_of_mem _ (q7 x hx), fun x hx => ?_, ?_⟩
      · rw [List.length_append, List.length_singleton]; omega
      · rcases List.mem_append.mp hx with hx | hx
        · exact List.mem_cons_of_mem _ (q8 x hx)
        · rw [List.mem_singleton.mp hx]; exact List.mem_cons_self
      · rw [List.length_append, List.length_singleton, List.length_cons]; omega
  · cases ev
    rw [q5.hn, q2, q3, ← List.map_append, ← q1]
  · subst q6
    have e2 : l2 = [] := List.map_eq_nil_iff.mp q3.symm
    subst e2
    rw [List.append_nil] at q1
    subst q1
    have := F.nl
    walk_at "go"
    refine draw_wp (n := n + 2) q5.pen (by omega) q5.clo (by decide) (by decide) fun d1 h1 _ _ P1 C1 u1 => ?_
    have S1 := q5.upd P1 C1 u1
    refine wBop rfl ?_
    walk_at "go"
    refine S1.fin C0 (fun x hx => (hT x hx).elim (q7 x) (q8 x)) F.go F.ok fun t h2 p1 P2 C2 u2 => q t h2 p1 (P2.mono (by omega)) C2 u2
theorem goal0 (F : Fit T bs nms) : ∃ g, atI (nms.map VV.str ++ [VV.non]) 0 = some g ∧ tr 1 g = true ∧ (g = .non ∨ ∃ nm ∈ T, g = .str nm) := by
  have gt := goals_ok F.nT
  cases hn : nms.map VV.str ++ [VV.non] with
  | nil => simp at hn
  | cons g r =>
    rw [hn] at gt
    exact ⟨g, atI_nat (j := 0) rfl, gt g List.mem_cons_self⟩
/-- the third place -/
theorem plan_third (C0 : Clo h0) (S : PlS T D k c m kp kb kn kg h0 h bs nms) (hm : m + 200 ≤ 1000000) (hD : D.length < 600) (F : Fit2 T bs nms) (hT : ∀ x ∈ T, x ∈ D ∨ x ∈ nms ∨ (x = "third" ∧ 2 < bs.length))
    (q : ∀ t h', PlanOk t → Pen h' k c (m + 61) → Clo h' → Upd k h0 h' → Q t h') : (exs (envP PK (n + 3)) (tailS 5 b__law_plan) (sl k kb kp kn kg none none none none none) h).wp (endQ false h0.length Q E) (endX h0.length Q E) := by
  obtain ⟨g, eg, tg, hg⟩ := goal0 F.toFit
  unfold b__law_plan
  simp only [tailS]
  walk_at "go"
  refine wp_eq (SeqV.ref S.hb).len ?_
  walk_at "go"
  rw [List.length_map]
  refine wO (show copS .gt (.int (bs.length : Int)) (.int 2) h = some (decide (2 < (bs.length : Int))) from rfl) ?_
  refine wTru ?_
  refine wB (fun b => ?_) fun b => ?_
  · have b : 2 < bs.length := by have := of_decide_eq_true b; omega
    walk_at "go"
    refine wp_eq ((SeqV.ref S.hg).idx eg) ?_
    walk_at "go"
    obtain ⟨S2, pc⟩ := S.place (kind := "sets") (st := .int 1) (bar := .str "d") (num := .int 1) (rows := [.tup [.str "so", g, .str "d", .int 0]]) (by simp) rfl rfl rfl ⟨by simp, by simp, fun r hr => by
      rw [List.mem_singleton.mp hr]
      exact ⟨"so", g, .str "d", .int 0, rfl, by decide, hg, rfl, .inr ⟨0, rfl⟩⟩⟩
    obtain ⟨h3, e3, S3⟩ := S2.put (x := "third") (by omega) pc
    refine wO e3 ?_
    with_reducible apply nxt_nx'
    with_reducible apply wxs_nil'
    with_reducible apply nxt_nx'
    exact plan_loop C0 S3 hm (by rw [List.length_cons]; omega) F (fun x hx => by
      rcases hT x hx with h | h | ⟨rfl, _⟩
      · exact .inl (List.mem_cons_of_mem _ h)
      · exact .inr h
      · exact .inl List.mem_cons_self) q
  · have b : ¬ 2 < bs.length := by have := of_decide_eq_false b; omega
    with_reducible apply wxs_nil'
    with_reducible apply nxt_nx'
    exact plan_loop C0 S hm (by omega) F (fun x hx => by
      rcases hT x hx with h | h | ⟨rfl, h⟩
      · exact .inl h
      · exact .inr h
      · exact absurd h b) q
theorem plan_next (C0 : Clo h0) (S : PlS T D k c m kp kb kn kg h0 h bs nms) (hm : m + 300 ≤ 1000000) (hD : D.length < 500) (F : Fit2 T bs nms) (hT : ∀ x ∈ T, x ∈ D ∨ x ∈ nms ∨ (x = "third" ∧ 2 < bs.length) ∨ (x = "nextone" ∧ 1 < bs.length))
    (q : ∀ t h', PlanOk t → Pen h' k c (m + 62) → Clo h' → Upd k h0 h' → Q t h') : (exs (envP PK (n + 3)) (tailS 4 b__law_plan) (sl k kb kp kn kg none none none none none) h).wp (endQ false h0.length Q E) (endX h0.length Q E) := by
  obtain ⟨g, eg, tg, hg⟩ := goal0 F.toFit
  unfold b__law_plan
  simp only [tailS]
  walk_at "go"
  refine wp_eq (SeqV.ref S.hb).len ?_
  walk_at "go"
  rw [List.length_map]
  refine wO (show copS .gt (.int (bs.length : Int)) (.int 1) h = some (decide (1 < (bs.length : Int))) from rfl) ?_
  refine wTru ?_
  refine wB (fun b => ?_) fun b => ?_
  · have b : 1 < bs.length := by have := of_decide_eq_true b; omega
    walk_at "go"
    refine draw_wp (n := n + 2) S.pen (by omega) S.clo (by decide) (by decide) fun d1 h1 _ _ P1 C1 u1 => ?_
    have S1 := S.upd P1 C1 u1
    refine wBop rfl ?_
    walk_at "go"
    refine wp_eq (SeqV.ref S1.hb).len ?_
    walk_at "go"
    rw [List.length_map]
    refine wO (show copS .gt (.int (bs.length : Int)) (.int 2) h1 = some (decide (2 < (bs.length : Int))) from rfl) ?_
    refine wTru ?_
    have fin2 : ∀ g : VV, tr 1 g = true → (g = .non ∨ ∃ nm ∈ T, g = .str nm) → ∃ h3, subS (.ref kp) (.str "nextone") (.tup [.str "sets", .int (1 + d1), .str "c", .int 0, .ref h1.length]) (h1 ++ [.lst [.tup [.str "then", g, .str "c", .int 0]]]) = some h3 ∧ PlS T ("nextone" :: D) k c (m + 1) kp kb kn kg h0 h3 bs nms := fun g tg hg => by
      obtain ⟨S2, pc⟩ := S1.place (kind := "sets") (st := .int (1 + d1)) (bar := .str "c") (num := .int 0) (rows := [.tup [.str "then", g, .str "c", .int 0]]) (by simp) rfl rfl rfl ⟨by simp, by simp, fun r hr => by
        rw [List.mem_singleton.mp hr]
        exact ⟨"then", g, .str "c", .int 0, rfl, by decide, hg, rfl, .inr ⟨0, rfl⟩⟩⟩
      exact S2.put (x := "nextone") (by omega) pc
    have hT' : ∀ x ∈ T, x ∈ (("nextone" : Str) :: D) ∨ x ∈ nms ∨ (x = "third" ∧ 2 < bs.length) := fun x hx => by
      rcases hT x hx with h | h | h | ⟨rfl, _⟩
      · exact .inl (List.mem_cons_of_mem _ h)
      · exact .inr (.inl h)
      · exact .inr (.inr h)
      · exact .inl List.mem_cons_self
    have q' : ∀ t h', PlanOk t → Pen h' k c (m + 1 + 61) → Clo h' → Upd k h0 h' → Q t h' := fun t h' a b => q t h' a (b.mono (by omega))
    refine wB (fun b3 => ?_) fun b3 => ?_
    · have b3 : 2 < bs.length := by have := of_decide_eq_true b3; omega
      walk_at "go"
      obtain ⟨h3, e3, S3⟩ := fin2 (.str "third") rfl (.inr ⟨_, F.t3 b3, rfl⟩)
      refine wO e3 ?_
      with_reducible apply nxt_nx'
      with_reducible apply wxs_nil'
      with_reducible apply nxt_nx'
      exact plan_third C0 S3 (by omega) (by rw [List.length_cons]; omega) F hT' q'
    · walk_at "go"
      refine wp_eq ((SeqV.ref S1.hg).idx eg) ?_
      walk_at "go"
      obtain ⟨h3, e3, S3⟩ := fin2 g tg hg
      refine wO e3 ?_
      with_reducible apply nxt_nx'
      with_reducible apply wxs_nil'
      with_reducible apply nxt_nx'
      exact plan_third C0 S3 (by omega) (by rw [List.length_cons]; omega) F hT' q'
  · have b : ¬ 1 < bs.length := by have := of_decide_eq_false b; omega
    with_reducible apply wxs_nil'
    with_reducible apply nxt_nx'
    exact plan_third C0 S (by omega) (by omega) F (fun x hx => by
      rcases hT x hx with h | h | h | ⟨rfl, h⟩
      · exact .inl h
      · exact .inr (.inl h)
      · exact .inr (.inr h)
      · exact absurd h b) fun t h' a b => q t h' a (b.mono (by omega))
theorem plan_go (C0 : Clo h0) (S : PlS T [] k c m kp kb kn kg h0 h bs nms) (hm : m + 400 ≤ 1000000) (F : Fit2 T bs nms)
    (q : ∀ t h', PlanOk t → Pen h' k c (m + 65) → Clo h' → Upd k h0 h' → Q t h') : (exs (envP PK (n + 3)) (tailS 3 b__law_plan) (sl k kb kp kn kg none none none none none) h).wp (endQ false h0.length Q E) (endX h0.length Q E) := by
  obtain ⟨g, eg, tg, hg⟩ := goal0 F.toFit
  have hT' : ∀ x ∈ T, x ∈ [("go" : Str)] ∨ x ∈ nms ∨ (x = "third" ∧ 2 < bs.length) ∨ (x = "nextone" ∧ 1 < bs.length) := fun x hx => by
    rcases F.sub x hx with rfl | h | h | h
    · exact .inl (by simp)
    · exact .inr (.inr (.inr h))
    · exact .inr (.inr (.inl h))
    · exact .inr (.inl h)
  -- the branch's goal, whatever stands
  have fin2 : ∀ (m' : Nat) (h1 : VH), PlS T [] k c m' kp kb kn kg h0 h1 bs nms → ∀ (kind : Str) (st bar num g : VV), kind ∈ kindsL → tr 1 st = true → tr 1 bar = true → tr 1 num = true → (g = .non ∨ ∃ nm ∈ T, g = .str nm) →
      ∃ h3, subS (.ref kp) (.str "go") (.tup [.str kind, st, bar, num, .ref h1.length]) (h1 ++ [.lst [.tup [.str "set", g, .str "b", .int 0]]]) = some h3 ∧ PlS T ["go"] k c m' kp kb kn kg h0 h3 bs nms := fun m' h1 S1 kind st bar num g k1 k2 k3 k4 hg => by
    obtain ⟨S2, pc⟩ := S1.place (kind := kind) (st := st) (bar := bar) (num := num) (rows := [.tup [.str "set", g, .str "b", .int 0]]) k1 k2 k3 k4 ⟨by simp, by simp, fun r hr => by
      rw [List.mem_singleton.mp hr]
      exact ⟨"set", g, .str "b", .int 0, rfl, by decide, hg, rfl, .inr ⟨0, rfl⟩⟩⟩
    exact S2.put (x := "go") (by simp) pc
  have q' : ∀ m', m' ≤ m + 3 → ∀ t h', PlanOk t → Pen h' k c (m' + 62) → Clo h' → Upd k h0 h' → Q t h' := fun m' l t h' a b => q t h' a (b.mono (by omega))
  unfold b__law_plan
  simp only [tailS]
  walk_at "go"
  refine draw_wp (n := n + 2) S.pen (by omega) S.clo (by decide) (by decide) fun d1 h1 _ _ P1 C1 u1 => ?_
  have S1 := S.upd P1 C1 u1
  walk_at "go"
  refine wO (show copS .gt (.int d1) (.int 0) h1 = some (decide (0 < d1)) from rfl) ?_
  refine wTru ?_
  refine wB (fun b => ?_) fun b => ?_
  · walk_at "go"
    refine draw_wp (n := n + 2) S1.pen (by omega) S1.clo (by decide) (by decide) fun d2 h2 _ _ P2 C2 u2 => ?_
    have S2 := S1.upd P2 C2 u2
    refine wBop rfl ?_
    walk_at "go"
    refine draw_wp (n := n + 2) S2.pen (by omega) S2.clo (by decide) (by decide) fun d3 h3 _ _ P3 C3 u3 => ?_
    have S3 := S2.upd P3 C3 u3
    walk_at "go"
    refine wp_eq (SeqV.ref S3.hb).len ?_
    walk_at "go"
    rw [List.length_map]
    refine wO (show copS .gt (.int (bs.length : Int)) (.int 1) h3 = some (decide (1 < (bs.length : Int))) from rfl) ?_
    refine wTru ?_
    refine wB (fun b3 => ?_) fun b3 => ?_
    · have b3 : 1 < bs.length := by have := of_decide_eq_true b3; omega
      walk_at "go"
      obtain ⟨h4, e4, S4⟩ := fin2 _ h3 S3 "sets" (.int (1 + d2)) (.str "b") (.int (d3 - 2)) (.str "nextone") (by simp) rfl rfl rfl (.inr ⟨_, F.t2 b3, rfl⟩)
      refine wO e4 ?_
      with_reducible apply nxt_nx'
      with_reducible apply wxs_nil'
      with_reducible apply nxt_nx'
      exact plan_next C0 S4 (by omega) (by decide) F hT' (q' _ (by omega))
    · walk_at "go"
      refine wp_eq ((SeqV.ref S3.hg).idx eg) ?_
      walk_at "go"
      obtain ⟨h4, e4, S4⟩ := fin2 _ h3 S3 "sets" (.int (1 + d2)) (.str "b") (.int (d3 - 2)) g (by simp) rfl rfl rfl hg
      refine wO e4 ?_
      with_reducible apply nxt_nx'
      with_reducible apply wxs_nil'
      with_reducible apply nxt_nx'
      exact plan_next C0 S4 (by omega) (by decide) F hT' (q' _ (by omega))
  · walk_at "go"
    refine draw_wp (n := n + 2) S1.pen (by omega) S1.clo (by decide) (by decide) fun d2 h2 _ _ P2 C2 u2 => ?_
    have S2 := S1.upd P2 C2 u2
    refine wBop rfl ?_
    walk_at "go"
    refine wp_eq (SeqV.ref S2.hb).len ?_
    walk_at "go"
    rw [List.length_map]
    refine wO (show copS .gt (.int (bs.length : Int)) (.int 1) h2 = some (decide (1 < (bs.length : Int))) from rfl) ?_
    refine wTru ?_
    refine wB (fun b3 => ?_) fun b3 => ?_
    · have b3 : 1 < bs.length := by have := of_decide_eq_true b3; omega
      walk_at "go"
      obtain ⟨h4, e4, S4⟩ := fin2 _ h2 S2 "reads" (.int (1 + d2)) .non .non (.str "nextone") (by simp) rfl rfl rfl (.inr ⟨_, F.t2 b3, rfl⟩)
      refine wO e4 ?_
      with_reducible apply nxt_nx'
      with_reducible apply wxs_nil'
      with_reducible apply nxt_nx'
      exact plan_next C0 S4 (by omega) (by decide) F hT' (q' _ (by omega))
    · walk_at "go"
      refine wp_eq ((SeqV.ref S2.hg).idx eg) ?_
      walk_at "go"
      obtain ⟨h4, e4, S4⟩ := fin2 _ h2 S2 "reads" (.int (1 + d2)) .non .non g (by simp) rfl rfl rfl hg
      refine wO e4 ?_
      with_reducible apply nxt_nx'
      with_reducible apply wxs_nil'
      with_reducible apply nxt_nx'
      exact plan_next C0 S4 (by omega) (by decide) F hT' (q' _ (by omega))
end
end K82
end Mini
end
section
set_option Elab.async false
set_option linter.all false
set_option maxRecDepth 100000
set_option maxHeartbeats 2000000
/-! Plain, part 15 (k82): a drawn filter, from its start. -/
namespace Mini
open PySem L2
local macro_rules | `(tactic| walk_at "go1") => `(tactic| first
  | with_reducible apply wxs_cons'
  | with_reducible apply wxs_nil'
  | with_reducible apply nxt_nx'
  | with_reducible apply nxt_rt'
  | with_reducible apply nxt_bk'
  | with_reducible apply nxt_ct'
  | with_reducible apply we_var'
  | with_reducible apply we_cst'
  | with_reducible apply ws_cons'
  | with_reducible apply ws_nil'
  | ((with_reducible apply wSlot); exact rfl)
  | with_reducible apply we_fcl'
  | with_reducible apply we_cmp'
  | with_reducible apply we_idx'
  | with_reducible apply we_bin'
  | with_reducible apply wt_val'
  | with_reducible apply we_tup'
  | with_reducible apply we_lst'
  | with_reducible apply we_bcl'
  | with_reducible apply wx_set'
  | with_reducible apply wx_ret'
  | with_reducible apply wx_ife'
  | with_reducible apply wx_exp'
  | with_reducible apply wx_unp'
  | with_reducible apply wx_par'
  | with_reducible apply wx_sub'
  | with_reducible apply wx_rse'
  | with_reducible apply wx_brk'
  | with_reducible apply wx_cnt'
  | with_reducible apply wx_for'
  | with_reducible apply we_and'
  | with_reducible apply we_or'
  | with_reducible apply we_not'
  | with_reducible apply we_ife'
  | with_reducible apply we_neg'
  | with_reducible apply we_chn'
  | with_reducible apply we_dct'
  | with_reducible apply we_slc'
  | with_reducible apply we_att'
  | with_reducible apply we_isi'
  | with_reducible apply we_mcl'
  | with_reducible apply we_lc'
  | with_reducible apply we_fst'
  | with_reducible apply wf_nil'
  | with_reducible apply wf_cons'
  | with_reducible apply wt_yes'
  | with_reducible apply wt_and'
  | with_reducible apply wt_or'
  | with_reducible apply wt_not'
  | with_reducible apply endQ_rt'
  | with_reducible apply endQ_nx'
  | with_reducible apply wpB_t'
  | with_reducible apply wpB_f'
  | with_reducible apply wpB_nt'
  | with_reducible apply wpB_nf'
  | (with_reducible apply wTru)
  | ((with_reducible apply wBt); with_reducible assumption)
  | ((with_reducible apply wBf); with_reducible assumption)
  | ((with_reducible apply wGle); exact rfl)
  | ((with_reducible apply wGrc); first | exact rfl | assumption)
  | ((with_reducible apply wGdc); exact rfl; exact rfl)
  | ((with_reducible apply wGeq); exact rfl)
  | ((with_reducible apply wOpt); exact rfl)
  | ((with_reducible apply wTup); exact rfl)
  | ((with_reducible apply wUnp); exact rfl)
  | ((with_reducible apply wTg); exact rfl)
  | ((with_reducible apply wNeg); exact rfl)
  | ((with_reducible apply wBop); exact rfl)
  | ((with_reducible apply wIsi (b := true)); (first | exact rfl | assumption); (first | exact rfl | assumption); focus (simp only [List.any_cons, List.any_nil, isTy, String.reduceBEq, String.reduceEq, beq_self_eq_true, Bool.and_false, Bool.false_and, Bool.or_false, Bool.false_or, Bool.or_true, Bool.true_or, Bool.and_self, Bool.or_self, Bool.true_and]; done))
  | ((with_reducible apply wIsi (b := false)); (first | exact rfl | assumption); (first | exact rfl | assumption); focus (simp only [List.any_cons, List.any_nil, isTy, String.reduceBEq, String.reduceEq, beq_self_eq_true, Bool.and_false, Bool.false_and, Bool.or_false, Bool.false_or, Bool.or_true, Bool.true_or, Bool.and_self, Bool.or_self, Bool.true_and]; done)))
local macro_rules | `(tactic| walk_at "go") => `(tactic| (repeat walk_at "go1"))
namespace K82
abbrev b1L : List Str := ["b"]
abbrev b2L : List Str := ["b", "c"]
abbrev b3L : List Str := ["b", "c", "d"]
abbrev n1L : List Str := ["ask"]
abbrev n2L : List Str := ["ask", "hear"]
abbrev n3L : List Str := ["ask", "hear", "more"]
/-- pen and cells, grown from h0 -/
structure PenG (k c m : Nat) (h0 h : VH) : Prop where
  pen : Pen h k c m
  clo : Clo h
  grow : Grow k h0 h
theorem PenG.refl {k c m : Nat} {h : VH} (P : Pen h k c m) (C : Clo h) : PenG k c m h h := ⟨P, C, .refl⟩
theorem PenG.upd {k c m m' : Nat} {h0 h h' : VH} (g : PenG k c m h0 h) (P : Pen h' k c m') (C : Clo h') (u : Upd k h h') : PenG k c m' h0 h' := ⟨P, C, g.grow.upd u⟩
theorem PenG.snoc {k c m : Nat} {h0 h : VH} (g : PenG k c m h0 h) {o : Ob} (ho : cloOb (h.length + 1) o = true) : PenG k c m h0 (h ++ [o]) := ⟨g.pen.snoc _, g.clo.snoc ho, g.grow.snoc _⟩
theorem PenG.lst {k c m n : Nat} {h0 h : VH} (g : PenG k c m h0 h) {xs : List VV} (ht : ∀ x ∈ xs, tr n x = true) : PenG k c m h0 (h ++ [.lst xs]) := g.snoc (cloL_tr (n := n) (trL_all.mpr ht))
theorem PenG.lt {k c m : Nat} {h0 h : VH} (g : PenG k c m h0 h) : k < h.length ∧ c < h.length := ⟨g.pen.upd_lt, g.pen.lt⟩
theorem plan_wp {n : Nat} {h : VH} {k c m : Nat} {Q : VV → VH → Prop} {E : XP} (P : Pen h k c m) (hm : m + 500 ≤ 1000000) (C : Clo h) (q : ∀ t h', PlanOk t → Pen h' k c (m + 70) → Clo h' → Upd k h h' → Q t h') : (run PK (n + 4) 13 noCl (some [.ref k, .int 3]) h).wp Q E := by
  have k0 : k < h.length := P.upd_lt
  have c0 : c < h.length := P.lt
  refine run_wp rfl rfl ?_
  show (exs (envP PK (n + 3)) b__law_plan (some (.ref k) :: some (.int 3) :: List.replicate 9 none) h).wp _ _
  -- from bars, names, goals on
  have go : ∀ (h' : VH) (m' kb kp kn kg : Nat) (bs nms : List Str), m' ≤ m + 4 → PenG k c m' h h' → (bs = b1L ∨ bs = b2L ∨ bs = b3L) → (nms = [] ∨ nms = n1L ∨ nms = n2L ∨ nms = n3L) → h.length ≤ kp → (h.length ≤ kb ∧ kb ≠ kp) → (h.length ≤ kn ∧ kn ≠ kp) → (h.length ≤ kg ∧ kg ≠ kp) →
      h'[kb]? = some (.lst (bs.map VV.str)) → h'[kn]? = some (.lst (nms.map VV.str)) → h'[kg]? = some (.lst (nms.map VV.str ++ [.non])) → h'[kp]? = some (.dic [] []) → (exs (envP PK (n + 3)) (tailS 3 b__law_plan) (sl k kb kp kn kg none none none none none) h').wp (endQ false h.length Q E) (endX h.length Q E) := fun h' m' kb kp kn kg bs nms hm' G hb hn x1 x2 x3 x4 y1 y2 y3 y4 => by
    have okT : ∀ x ∈ ("go" : Str) :: "nextone" :: "third" :: "ask" :: "hear" :: "more" :: [], Ok x := fun x hx => by
      have : (("go" : Str) :: "nextone" :: "third" :: "ask" :: "hear" :: "more" :: []).all (fun x => PyData.strOk x && decide (x.length ≤ 100000)) = true := by decide +kernel
      have := List.all_eq_true.mp this x hx
      rw [Bool.and_eq_true, decide_eq_true_eq] at this
      exact this
    obtain ⟨T, F⟩ : ∃ T, Fit2 T bs nms := by
      refine ⟨("go" : Str) :: ((if 1 < bs.length then [("nextone" : Str)] else []) ++ ((if 2 < bs.length then [("third" : Str)] else []) ++ nms)), ⟨⟨fun x hx => by simp [hx], ?_, ?_, ?_, by simp, fun x hx => okT x ?_⟩, fun hb => by simp [hb], fun hb => by simp [hb], fun x hx => ?_⟩⟩
      · rcases hb with rfl | rfl | rfl <;> simp
      · rcases hb with rfl | rfl | rfl <;> simp
      · rcases hn with rfl | rfl | rfl | rfl <;> simp
      · simp only [List.mem_cons, List.mem_append] at hx ⊢
        rcases hx with h | h | h | h
        · exact .inl h
        · split at h
          · simp at h; exact .inr (.inl h)
          · cases h
        · split at h
          · simp at h; exact .inr (.inr (.inl h))
          · cases h
        · rcases hn with rfl | rfl | rfl | rfl
          · cases h
          · simp at h; simp [h]
          · simp at h; rcases h with rfl | rfl <;> simp
          · simp at h; rcases h with rfl | rfl | rfl <;> simp
      · simp only [List.mem_cons, List.mem_append] at hx
        rcases hx with h | h | h | h
        · exact .inl h
        · split at h
          · rename_i q; simp at h; exact .inr (.inl ⟨h, q⟩)
          · cases h
        · split at h
          · rename_i q; simp at h; exact .inr (.inr (.inl ⟨h, q⟩))
          · cases h
        · exact .inr (.inr (.inr h))
    exact plan_go (n := n) (T := T) (m := m') C ⟨G.pen, G.clo, G.grow, k0, c0, x1, x2, x3, x4, y1, y2, y3, [], [], y4, rfl, by simp, fun x hx => (nomatch hx), fun v hv => (nomatch hv)⟩ (by omega) F fun t h2 a b => q t h2 a (b.mono (by omega))
  -- the bars
  refine wxs_cons' (wx_par' ?_)
  walk_at "go"
  have G0 := PenG.refl P C
  have G1 := G0.lst (xs := [.str "b", .str "c", .str "d"]) (n := 1) (by simp [tr])
  have G2 := G1.lst (xs := [.int 1, .int 1, .int 1, .int 1, .int 1, .int 2, .int 2, .int 3]) (n := 1) (by simp [tr])
  refine pick_wp (n := n + 1) G2.pen (by omega) G2.clo (.ref at_snoc) (fun e => by injection e with e; have := G1.lt.1; omega) (by simp) (by simp) (fun x hx => .inl (by simp at hx; rcases hx with rfl | rfl | rfl <;> rfl)) fun x hx h1 P1 C1 u1 => ?_
  have G3 := G2.upd P1 C1 u1
  have kA : h1[h.length]? = some (.lst [.str "b", .str "c", .str "d"]) := by rw [u1.oth _ (by omega)]; exact at_keep at_snoc
  obtain ⟨j, bs, rfl, hb, ec⟩ : ∃ (j : Int) (bs : List Str), x = .int j ∧ (bs = b1L ∨ bs = b2L ∨ bs = b3L) ∧ cutL [VV.str "b", .str "c", .str "d"] none (some j) = bs.map VV.str := by
    simp only [List.mem_cons, List.not_mem_nil, or_false] at hx
    rcases hx with rfl | rfl | rfl | rfl | rfl | rfl | rfl | rfl
    · exact ⟨1, b1L, rfl, .inl rfl, rfl⟩
    · exact ⟨1, b1L, rfl, .inl rfl, rfl⟩
    · exact ⟨1, b1L, rfl, .inl rfl, rfl⟩
    · exact ⟨1, b1L, rfl, .inl rfl, rfl⟩
    · exact ⟨1, b1L, rfl, .inl rfl, rfl⟩
    · exact ⟨2, b2L, rfl, .inr (.inl rfl), rfl⟩
    · exact ⟨2, b2L, rfl, .inr (.inl rfl), rfl⟩
    · exact ⟨3, b3L, rfl, .inr (.inr rfl), rfl⟩
  walk_at "go"
  refine wp_eq (slc_ref kA) ?_
  rw [ec]
  have G4 := G3.lst (xs := bs.map VV.str) (n := 1) strs_tr
  walk_at "go"
  have G5 := G4.snoc (o := .dic (putAllD [] [] ([], [])).1 (putAllD [] [] ([], [])).2) rfl
  have l1 : h.length ≤ h1.length := G3.grow.len
  have l5 : (h1 ++ [Ob.lst (bs.map VV.str)]).length = h1.length + 1 := by rw [List.length_append]; rfl
  have ab : (h1 ++ [Ob.lst (bs.map VV.str)] ++ [Ob.dic (putAllD [] [] ([], [])).1 (putAllD [] [] ([], [])).2])[h1.length]? = some (.lst (bs.map VV.str)) := at_keep at_snoc
  have ap : (h1 ++ [Ob.lst (bs.map VV.str)] ++ [Ob.dic (putAllD [] [] ([], [])).1 (putAllD [] [] ([], [])).2])[h1.length + 1]? = some (.dic [] []) := by rw [← l5]; exact at_snoc
  have l6 : (h1 ++ [Ob.lst (bs.map VV.str)] ++ [Ob.dic (putAllD [] [] ([], [])).1 (putAllD [] [] ([], [])).2]).length = h1.length + 2 := by rw [List.length_append, l5]; rfl
  rw [l5]
  generalize h1 ++ [Ob.lst (bs.map VV.str)] ++ [Ob.dic (putAllD [] [] ([], [])).1 (putAllD [] [] ([], [])).2] = h5 at *
  -- the names
  refine draw_wp (n := n + 2) G5.pen (by omega) G5.clo (by decide) (by decide) fun d h6 _ _ P6 C6 u6 => ?_
  have G6 := G5.upd P6 C6 u6
  have ab6 : h6[h1.length]? = some (.lst (bs.map VV.str)) := by rw [u6.oth _ (by omega)]; exact ab
  have ap6 : h6[h1.length + 1]? = some (.dic [] []) := by rw [u6.oth _ (by omega)]; exact ap
  walk_at "go"
  refine wO (show copS .gt (.int d) (.int 0) h6 = some (decide (0 < d)) from rfl) ?_
  refine wTru ?_
  -- from the names on
  have fin2 : ∀ (h7 : VH) (m' kn : Nat) (nms : List Str), m' ≤ m + 3 → PenG k c m' h h7 → (nms = [] ∨ nms = n1L ∨ nms = n2L ∨ nms = n3L) → h1.length + 2 ≤ kn → h7[h1.length]? = some (.lst (bs.map VV.str)) → h7[h1.length + 1]? = some (.dic [] []) → h7[kn]? = some (.lst (nms.map VV.str)) →
      (exs (envP PK (n + 3)) (tailS 2 b__law_plan) [some (.ref k), some (.int 3), some (.ref h1.length), some (.ref (h1.length + 1)), some (.ref kn), none, none, none, none, none, none] h7).wp (endQ false h.length Q E) (endX h.length Q E) := fun h7 m' kn nms hm' G7 hn hkn z1 z2 z3 => by
    have oks : ∀ s ∈ nms, PyData.strOk s = true := fun s hs => by
      have : (n3L.all fun x => PyData.strOk x) = true := by decide +kernel
      refine List.all_eq_true.mp this s ?_
      rcases hn with rfl | rfl | rfl | rfl
      · cases hs
      · simp at hs; simp [hs]
      · simp at hs; rcases hs with rfl | rfl <;> simp
      · exact hs
    have hk7 := (List.getElem?_eq_some_iff.mp z3).1
    unfold b__law_plan
    simp only [tailS]
    walk_at "go"
    refine wO (ne_of_eq (eq_nil (dat_ref (at_keep z3) (dat_strs (n := 6) nms)) at_snoc (lay_strs oks) (by rw [dep_strs]; decide))) ?_
    refine wTru ?_
    have G8 := G7.lst (xs := []) (n := 1) (fun x hx => nomatch hx)
    have G9 := G8.lst (xs := [.non]) (n := 1) (by simp [tr])
    have e9 : (h7 ++ [Ob.lst []]).length = h7.length + 1 := by rw [List.length_append]; rfl
    refine wB (fun b => ?_) fun b => ?_
    · walk_at "go"
      refine wp_eq (add_ref (at_keep (at_keep z3)) at_snoc (by have := hn; rcases hn with rfl | rfl | rfl | rfl <;> simp)) ?_
      with_reducible apply nxt_nx'
      have G10 := G9.lst (xs := nms.map VV.str ++ [.non]) (n := 1) (fun x hx => (List.mem_append.mp hx).elim (strs_tr x) fun h => by rw [List.mem_singleton.mp h]; rfl)
      have e10 : (h7 ++ [Ob.lst []] ++ [Ob.lst [VV.non]]).length = h7.length + 2 := by rw [List.length_append, e9]; rfl
      exact go _ m' h1.length (h1.length + 1) kn _ bs nms (by omega) G10 hb hn (by omega) ⟨l1, by omega⟩ ⟨by omega, by omega⟩ ⟨by omega, by omega⟩ (at_keep (at_keep (at_keep z1))) (at_keep (at_keep (at_keep z3))) at_snoc (at_keep (at_keep (at_keep z2)))
    · have hn0 : nms = [] := by
        cases nms with
        | nil => rfl
        | cons _ _ => simp at b
      subst hn0
      have w := go (h7 ++ [.lst []] ++ [.lst [.non]]) m' h1.length (h1.length + 1) kn (h7 ++ [Ob.lst []]).length bs [] (by omega) G9 hb (.inl rfl) (by omega) ⟨l1, by omega⟩ ⟨by omega, by omega⟩ ⟨by omega, by omega⟩ (at_keep (at_keep z1)) (at_keep (at_keep z3)) at_snoc (at_keep (at_keep z2))
      refine we_lst' (ws_cons' (we_cst' (ws_nil' (wG (by simp) ?_))))
      with_reducible apply nxt_nx'
      exact w
  have l6' : h6.length = h1.length + 2 := by rw [u6.len, l6]
  refine wB (fun b => ?_) fun b => ?_
  · walk_at "go"
    have G7 := G6.lst (xs := [.str "ask", .str "hear", .str "more"]) (n := 1) (by simp [tr])
    refine draw_wp (n := n + 2) G7.pen (by omega) G7.clo (by decide) (by decide) fun d2 h8 d20 d21 P8 C8 u8 => ?_
    have G8 := G7.upd P8 C8 u8
    refine wBop rfl ?_
    have kC : h8[h6.length]? = some (.lst [.str "ask", .str "hear", .str "more"]) := by
      rw [u8.oth _ (by omega)]
      exact at_snoc
    have l8 : h8.length = h6.length + 1 := by rw [u8.len, List.length_append]; rfl
    obtain ⟨nms, hn, en⟩ : ∃ nms : List Str, (nms = [] ∨ nms = n1L ∨ nms = n2L ∨ nms = n3L) ∧ cutL [VV.str "ask", .str "hear", .str "more"] none (some (1 + d2)) = nms.map VV.str := by
      have : d2 = 0 ∨ d2 = 1 ∨ d2 = 2 := by omega
      rcases this with rfl | rfl | rfl
      · exact ⟨n1L, .inr (.inl rfl), rfl⟩
      · exact ⟨n2L, .inr (.inr (.inl rfl)), rfl⟩
      · exact ⟨n3L, .inr (.inr (.inr rfl)), rfl⟩
    walk_at "go"
    refine wp_eq (slc_ref kC) ?_
    rw [en]
    have G9 := G8.lst (xs := nms.map VV.str) (n := 1) strs_tr
    with_reducible apply nxt_nx'
    exact fin2 _ _ h8.length nms (by omega) G9 hn (by omega) (at_keep (by rw [u8.oth _ (by omega)]; exact at_keep ab6)) (at_keep (by rw [u8.oth _ (by omega)]; exact at_keep ap6)) at_snoc
  · refine we_lst' (ws_nil' (wG (by simp) ?_))
    have G7 := G6.lst (xs := []) (n := 1) (fun x hx => nomatch hx)
    with_reducible apply nxt_nx'
    exact fin2 _ _ h6.length [] (by omega) G7 (.inl rfl) (by omega) (at_keep ab6) (at_keep ap6) at_snoc
end K82
end Mini
end
section
set_option Elab.async false
set_option linter.all false
set_option maxRecDepth 100000
set_option maxHeartbeats 2000000
/-! Plain, part 16 (k82): steps of a drawn filter. -/
namespace Mini
open PySem L2
theorem wGrs {m : Bmt} {s : Str} {h : VH} {P : Prop} (e : rcvB m (.str s) h = true) (q : P) : wpG (rcvB m (.str s) h = true) P := ⟨e, q⟩
theorem nxtN {N : Env'} {ss : Ss} {σ σ' : Sl} {h : VH} {QF : Fl → VH → Prop} {E : XP} (e : σ = σ') (q : (exs N ss σ' h).wp QF E) : nxt N ss QF E (.nx σ) h := by subst e; exact q
local macro_rules | `(tactic| walk_at "go1") => `(tactic| first
  | with_reducible apply wxs_cons'
  | with_reducible apply wxs_nil'
  | ((with_reducible apply nxtN); focus (first | (simp only [List.set_cons_zero, List.set_cons_succ]; done) | (simp only [List.set_cons_zero, List.set_cons_succ]; exact rfl) | exact rfl))
  | with_reducible apply nxt_rt'
  | with_reducible apply nxt_bk'
  | with_reducible apply nxt_ct'
  | with_reducible apply we_var'
  | with_reducible apply we_cst'
  | with_reducible apply ws_cons'
  | with_reducible apply ws_nil'
  | ((with_reducible apply wSlot); exact rfl)
  | with_reducible apply we_fcl'
  | with_reducible apply we_cmp'
  | with_reducible apply we_idx'
  | with_reducible apply we_bin'
  | with_reducible apply wt_val'
  | with_reducible apply we_tup'
  | with_reducible apply we_lst'
  | with_reducible apply we_bcl'
  | with_reducible apply wx_set'
  | with_reducible apply wx_ret'
  | with_reducible apply wx_ife'
  | with_reducible apply wx_exp'
  | with_reducible apply wx_unp'
  | with_reducible apply wx_par'
  | with_reducible apply wx_sub'
  | with_reducible apply wx_rse'
  | with_reducible apply wx_brk'
  | with_reducible apply wx_cnt'
  | with_reducible apply wx_for'
  | with_reducible apply we_and'
  | with_reducible apply we_or'
  | with_reducible apply we_not'
  | with_reducible apply we_ife'
  | with_reducible apply we_neg'
  | with_reducible apply we_chn'
  | with_reducible apply we_dct'
  | with_reducible apply we_slc'
  | with_reducible apply we_att'
  | with_reducible apply we_isi'
  | with_reducible apply we_mcl'
  | with_reducible apply we_lc'
  | with_reducible apply we_fst'
  | with_reducible apply wf_nil'
  | with_reducible apply wf_cons'
  | with_reducible apply wt_yes'
  | with_reducible apply wt_and'
  | with_reducible apply wt_or'
  | with_reducible apply wt_not'
  | with_reducible apply endQ_rt'
  | with_reducible apply endQ_nx'
  | with_reducible apply wpB_t'
  | with_reducible apply wpB_f'
  | with_reducible apply wpB_nt'
  | with_reducible apply wpB_nf'
  | (with_reducible apply wTru)
  | ((with_reducible apply wBt); with_reducible assumption)
  | ((with_reducible apply wBf); with_reducible assumption)
  | ((with_reducible apply wGle); exact rfl)
  | ((with_reducible apply wGrs); exact rfl) | ((with_reducible apply wGrc); assumption)
  | ((with_reducible apply wGdc); exact rfl; exact rfl)
  | ((with_reducible apply wGeq); exact rfl)
  | ((with_reducible apply wOpt); exact rfl)
  | ((with_reducible apply wTup); exact rfl)
  | ((with_reducible apply wUnp); exact rfl)
  | ((with_reducible apply wTg); exact rfl)
  | ((with_reducible apply wNeg); exact rfl)
  | ((with_reducible apply wBop); exact rfl)
  | ((with_reducible apply wIsi (b := true)); (first | exact rfl | assumption); (first | exact rfl | assumption); focus (simp only [List.any_cons, List.any_nil, isTy, String.reduceBEq, String.reduceEq, beq_self_eq_true, Bool.and_false, Bool.false_and, Bool.or_false, Bool.false_or, Bool.or_true, Bool.true_or, Bool.and_self, Bool.or_self, Bool.true_and]; done))
  | ((with_reducible apply wIsi (b := false)); (first | exact rfl | assumption); (first | exact rfl | assumption); focus (simp only [List.any_cons, List.any_nil, isTy, String.reduceBEq, String.reduceEq, beq_self_eq_true, Bool.and_false, Bool.false_and, Bool.or_false, Bool.false_or, Bool.or_true, Bool.true_or, Bool.and_self, Bool.or_self, Bool.true_and]; done)))
local macro_rules | `(tactic| walk_at "go") => `(tactic| (repeat walk_at "go1"))
theorem look_in {k : Key} : ∀ {ks : List Key} {vs : List VV}, k ∈ ks → ks.length = vs.length → ∃ v ∈ vs, lookK k ks vs = some v
  | [], vs, h, _ => nomatch h
  | q :: ks, [], _, h => by simp at h
  | q :: ks, v :: vs, h, hl => by
    unfold lookK
    by_cases e : k = q
    · rw [if_pos (decide_eq_true e)]
      exact ⟨v, List.mem_cons_self, rfl⟩
    · rw [if_neg (by rw [decide_eq_false e]; exact Bool.false_ne_true)]
      rcases List.mem_cons.mp h with h | h
      · exact absurd h e
      · obtain ⟨w, hw, e2⟩ := look_in h (by simpa using hl)
        exact ⟨w, List.mem_cons_of_mem _ hw, e2⟩
theorem idx_dic {h : VH} {ks : List Key} {vs : List VV} {s : Str} {v : VV} (e : lookK (.inr s) ks vs = some v) : idxS (.dic ks vs) (.str s) h = .ok v h := by
  show Rs.of (lookK (.inr s) ks vs) h = _
  rw [e]
  rfl
namespace K82
abbrev mks7 : List Key := [.inr "word", .inr "to", .inr "keep", .inr "tell", .inr "strength", .inr "step", .inr "reads"]
abbrev mks9 : List Key := [.inr "word", .inr "to", .inr "keep", .inr "tell", .inr "strength", .inr "step", .inr "reads", .inr "tested", .inr "low"]
theorem put7 (a b c d e f g : VV) : putAllD mks7 [a, b, c, d, e, f, g] ([], []) = (mks7, [a, b, c, d, e, f, g]) := by kernel_rfl
theorem put2 (a b : VV) : putAllD [.inr "tested", .inr "low"] [a, b] ([], []) = ([.inr "tested", .inr "low"], [a, b]) := by kernel_rfl
theorem put9 (a b c d e f g x y : VV) : putAllD [.inr "tested", .inr "low"] [x, y] (mks7, [a, b, c, d, e, f, g]) = (mks9, [a, b, c, d, e, f, g, x, y]) := by kernel_rfl
theorem look_word (a : VV) (r : List VV) : lookK (.inr "word") mks9 (a :: r) = some a := by kernel_rfl
theorem look_to (a b : VV) (r : List VV) : lookK (.inr "to") mks9 (a :: b :: r) = some b := by kernel_rfl
theorem look_tell (a b c d : VV) (r : List VV) : lookK (.inr "tell") mks9 (a :: b :: c :: d :: r) = some d := by kernel_rfl
theorem look_places (a b : VV) : lookK (.inr "places") [.inr "base", .inr "places"] [a, b] = some b := by kernel_rfl
def MoveOk (T : List Str) (v : VV) : Prop := ∃ w g kp tl st p rd ts lo, v = .dic mks9 [.str w, g, kp, tl, st, p, rd, ts, lo] ∧ w ∈ wordsL ∧ (g = .non ∨ ∃ nm ∈ T, g = .str nm) ∧ tellOk tl ∧ trL 3 [.str w, g, kp, tl, st, p, rd, ts, lo] = true
theorem MoveOk.tr {T : List Str} {v : VV} (m : MoveOk T v) : tr 4 v = true := by
  obtain ⟨w, g, kp, tl, st, p, rd, ts, lo, rfl, _, _, _, ht⟩ := m
  exact ht
theorem upd_ref {h : VH} {k k2 : Nat} {ks k2s : List Key} {vs v2s : List VV} (e1 : h[k]? = some (.dic ks vs)) (e2 : h[k2]? = some (.dic k2s v2s)) (ne : k2 ≠ k) (hl : ks.length + k2s.length ≤ 1000) : bmt1 .update (.ref k) (.ref k2) h = .ok .non (h.set k (.dic (putAllD k2s v2s (ks, vs)).1 (putAllD k2s v2s (ks, vs)).2)) := by
  show mUpd (.ref k) (.ref k2) h = _
  unfold mUpd dicOf
  simp only [e1, e2]
  rw [if_pos ⟨decide_eq_true ne, hl⟩]
theorem rcv_upd {h : VH} {k : Nat} {ks : List Key} {vs : List VV} (e : h[k]? = some (.dic ks vs)) : rcvB .update (.ref k) h = true := by
  unfold rcvB
  dsimp only
  rw [e]
theorem kinds_ok : ∀ s ∈ kindsL, PyData.strOk s = true := fun s hs => by
  have : (kindsL.all fun x => PyData.strOk x) = true := by decide +kernel
  exact List.all_eq_true.mp this s hs
theorem move_wp {n : Nat} {h : VH} {T : List Str} {b : Int} {ks : List Key} {vs : List VV} {nm : Str} {kind : Str} {st bar num : VV} {rows : List VV} {r : VV} {i : Nat} {Q : VV → VH → Prop} {E : XP} (C : Clo h) (el : lookK (.inr nm) ks vs = some (.tup [.str kind, st, bar, num, .lst rows])) (hk : kind ∈ kindsL) (t1 : tr 1 st = true) (t2 : tr 1 bar = true) (hr : rows[i]? = some r) (br : BranchOk T r)
    (q : ∀ t, MoveOk T t → Q t h) : (run PK (n + 1) 14 noCl (some [.dic [.inr "base", .inr "places"] [.int b, .dic ks vs], .str nm, .int (i : Int)]) h).wp Q E := by
  obtain ⟨w, g, kp, tl, rfl, hw, hg, tk, ht⟩ := br
  have tg : tr 1 g = true := by rcases hg with rfl | ⟨x, _, rfl⟩ <;> rfl
  refine run_wp rfl rfl ?_
  show (exs (envP PK n) b__law_move [some _, some (.str nm), some (.int (i : Int)), none, none, none, none, none, none, none, none, none, none] h).wp _ _
  unfold b__law_move
  walk_at "go"
  refine wp_eq (idx_dic (look_places _ _)) ?_
  walk_at "go"
  refine wp_eq (idx_dic el) ?_
  walk_at "go"
  refine wp_eq (SeqV.lst.idx (atI_nat hr)) ?_
  walk_at "go"
  refine wO (ne_of_eq (eq_str (kinds_ok kind hk) (by decide +kernel))) ?_
  walk_at "go"
  rw [put7]
  generalize (!(kind == Str.ofString "sets")) = rd
  have tl7 : trL 3 [.str w, g, kp, tl, st, .tup [.str nm, .int (i : Int)], .bl rd] = true := by
    rw [trL_all]
    intro x hx
    simp only [List.mem_cons, List.not_mem_nil, or_false] at hx
    rcases hx with rfl | rfl | rfl | rfl | rfl | rfl | rfl
    · rfl
    · exact tr_le tg (by decide)
    · exact tr_le tk (by decide)
    · exact tr_le ht.tr (by decide)
    · exact tr_le t1 (by decide)
    · rfl
    · rfl
  have e1 : (h ++ [Ob.dic mks7 [.str w, g, kp, tl, st, .tup [.str nm, .int (i : Int)], .bl rd]])[h.length]? = some (.dic mks7 [.str w, g, kp, tl, st, .tup [.str nm, .int (i : Int)], .bl rd]) := at_snoc
  refine wG (rcv_upd e1) ?_
  walk_at "go"
  refine wO (eq_str (kinds_ok kind hk) (by decide +kernel)) ?_
  refine wTru ?_
  have fin2 : ∀ (ts lo : VV), tr 1 ts = true → tr 1 lo = true → (exs (envP PK n) (tailS 4 b__law_move) [some (.dic [.inr "base", .inr "places"] [.int b, .dic ks vs]), some (.str nm), some (.int (i : Int)), some (.str kind), some st, some bar, some num, some (.lst rows), some (.str w), some g, some kp, some tl, some (.ref h.length)]
      ((h ++ [Ob.dic mks7 [.str w, g, kp, tl, st, .tup [.str nm, .int (i : Int)], .bl rd]]  ++ [Ob.dic [.inr "tested", .inr "low"] [ts, lo]]).set h.length (Ob.dic mks9 [.str w, g, kp, tl, st, .tup [.str nm, .int (i : Int)], .bl rd, ts, lo]))).wp (endQ false h.length Q E) (endX h.length Q E) := fun ts lo y1 y2 => by
    unfold b__law_move
    simp only [tailS]
    walk_at "go"
    have es : (h ++ [Ob.dic mks7 [.str w, g, kp, tl, st, .tup [.str nm, .int (i : Int)], .bl rd]]  ++ [Ob.dic [.inr "tested", .inr "low"] [ts, lo]]).set h.length (Ob.dic mks9 [.str w, g, kp, tl, st, .tup [.str nm, .int (i : Int)], .bl rd, ts, lo]) = h ++ [Ob.dic mks9 [.str w, g, kp, tl, st, .tup [.str nm, .int (i : Int)], .bl rd, ts, lo], Ob.dic [.inr "tested", .inr "low"] [ts, lo]] := by
      rw [List.set_append_left _ _ (by simp), set_snoc, List.append_assoc]
      rfl
    rw [es]
    have tl9 : trL 3 [.str w, g, kp, tl, st, .tup [.str nm, .int (i : Int)], .bl rd, ts, lo] = true := by
      rw [trL_all] at tl7 ⊢
      intro x hx
      have : x ∈ [.str w, g, kp, tl, st, .tup [.str nm, .int (i : Int)], .bl rd] ∨ x = ts ∨ x = lo := by
        simp only [List.mem_cons, List.not_mem_nil, or_false] at hx ⊢
        rcases hx with h | h | h | h | h | h | h | h | h <;> simp [h]
      rcases this with h | rfl | rfl
      · exact tl7 x h
      · exact tr_le y1 (by decide)
      · exact tr_le y2 (by decide)
    refine fin_wp (t := .dic mks9 [.str w, g, kp, tl, st, .tup [.str nm, .int (i : Int)], .bl rd, ts, lo]) rfl C ?_ (q _ ⟨w, g, kp, tl, st, _, _, ts, lo, rfl, hw, hg, ht, tl9⟩)
    have kk : (h ++ [Ob.dic mks9 [.str w, g, kp, tl, st, .tup [.str nm, .int (i : Int)], .bl rd, ts, lo], Ob.dic [.inr "tested", .inr "low"] [ts, lo]])[h.length]? = some (.dic mks9 [.str w, g, kp, tl, st, .tup [.str nm, .int (i : Int)], .bl rd, ts, lo]) := by
      rw [List.getElem?_append_right (Nat.le_refl _), Nat.sub_self]
      rfl
    generalize (h ++ [Ob.dic mks9 [.str w, g, kp, tl, st, .tup [.str nm, .int (i : Int)], .bl rd, ts, lo], Ob.dic [.inr "tested", .inr "low"] [ts, lo]]) = H at kk
    unfold frz
    dsimp only
    rw [if_neg (by rw [Nat.blt_eq]; omega), kk]
    dsimp only
    have := mapO_of (f := frz h.length 29 H) (xs := [.str w, g, kp, tl, st, .tup [.str nm, .int (i : Int)], .bl rd, ts, lo]) (g := id) fun r hr => frz_tr (tr_le (trL_all.mp tl9 r hr) (by decide))
    rw [this, List.map_id]
    rfl
  have upd : ∀ (ts lo : VV), bmt1 .update (.ref h.length) (.ref (h ++ [Ob.dic mks7 [.str w, g, kp, tl, st, .tup [.str nm, .int (i : Int)], .bl rd]]).length) (h ++ [Ob.dic mks7 [.str w, g, kp, tl, st, .tup [.str nm, .int (i : Int)], .bl rd]]  ++ [Ob.dic (putAllD [.inr "tested", .inr "low"] [ts, lo] ([], [])).1 (putAllD [.inr "tested", .inr "low"] [ts, lo] ([], [])).2]) =
      .ok .non ((h ++ [Ob.dic mks7 [.str w, g, kp, tl, st, .tup [.str nm, .int (i : Int)], .bl rd]]  ++ [Ob.dic [.inr "tested", .inr "low"] [ts, lo]]).set h.length (Ob.dic mks9 [.str w, g, kp, tl, st, .tup [.str nm, .int (i : Int)], .bl rd, ts, lo])) := fun ts lo => by
    rw [put2, upd_ref (at_keep e1) at_snoc (by simp) (by simp), put9]
  refine wB (fun b1 => ?_) fun b1 => ?_
  · walk_at "go"
    refine wO (eq_str (kinds_ok kind hk) (by decide +kernel)) ?_
    rw [b1]
    walk_at "go"
    refine wO eq_int ?_
    walk_at "go"
    refine wp_eq (upd _ _) ?_
    with_reducible apply nxt_nx'
    exact fin2 bar _ t2 rfl
  · walk_at "go"
    refine wO (eq_str (kinds_ok kind hk) (by decide +kernel)) ?_
    rw [b1]
    walk_at "go"
    refine wp_eq (upd _ _) ?_
    with_reducible apply nxt_nx'
    exact fin2 .non _ rfl rfl
end K82
end Mini
end
section
set_option Elab.async false
set_option linter.all false
set_option maxRecDepth 100000
set_option maxHeartbeats 2000000
/-! Plain, part 17 (k82): a drawn way, its outputs. -/
namespace Mini
open PySem L2
local macro_rules | `(tactic| walk_at "go1") => `(tactic| first
  | with_reducible apply wxs_cons'
  | with_reducible apply wxs_nil'
  | ((with_reducible apply nxtN); focus (first | (simp only [List.set_cons_zero, List.set_cons_succ]; done) | (simp only [List.set_cons_zero, List.set_cons_succ]; exact rfl) | exact rfl))
  | with_reducible apply nxt_rt'
  | with_reducible apply nxt_bk'
  | with_reducible apply nxt_ct'
  | with_reducible apply we_var'
  | with_reducible apply we_cst'
  | with_reducible apply ws_cons'
  | with_reducible apply ws_nil'
  | ((with_reducible apply wSlot); exact rfl)
  | with_reducible apply we_fcl'
  | with_reducible apply we_cmp'
  | with_reducible apply we_idx'
  | with_reducible apply we_bin'
  | with_reducible apply wt_val'
  | with_reducible apply we_tup'
  | with_reducible apply we_lst'
  | with_reducible apply we_bcl'
  | with_reducible apply wx_set'
  | with_reducible apply wx_ret'
  | with_reducible apply wx_ife'
  | with_reducible apply wx_exp'
  | with_reducible apply wx_unp'
  | with_reducible apply wx_par'
  | with_reducible apply wx_sub'
  | with_reducible apply wx_rse'
  | with_reducible apply wx_brk'
  | with_reducible apply wx_cnt'
  | with_reducible apply wx_for'
  | with_reducible apply we_and'
  | with_reducible apply we_or'
  | with_reducible apply we_not'
  | with_reducible apply we_ife'
  | with_reducible apply we_neg'
  | with_reducible apply we_chn'
  | with_reducible apply we_dct'
  | with_reducible apply we_slc'
  | with_reducible apply we_att'
  | with_reducible apply we_isi'
  | with_reducible apply we_mcl'
  | with_reducible apply we_lc'
  | with_reducible apply we_fst'
  | with_reducible apply wf_nil'
  | with_reducible apply wf_cons'
  | with_reducible apply wt_yes'
  | with_reducible apply wt_and'
  | with_reducible apply wt_or'
  | with_reducible apply wt_not'
  | with_reducible apply endQ_rt'
  | with_reducible apply endQ_nx'
  | with_reducible apply wpB_t'
  | with_reducible apply wpB_f'
  | with_reducible apply wpB_nt'
  | with_reducible apply wpB_nf'
  | (with_reducible apply wTru)
  | ((with_reducible apply wBt); with_reducible assumption)
  | ((with_reducible apply wBf); with_reducible assumption)
  | ((with_reducible apply wGle); exact rfl)
  | ((with_reducible apply wGrs); exact rfl) | ((with_reducible apply wGrc); assumption)
  | ((with_reducible apply wGdc); exact rfl; exact rfl)
  | ((with_reducible apply wGeq); exact rfl)
  | ((with_reducible apply wOpt); exact rfl)
  | ((with_reducible apply wTup); exact rfl)
  | ((with_reducible apply wUnp); exact rfl)
  | ((with_reducible apply wTg); exact rfl)
  | ((with_reducible apply wNeg); exact rfl)
  | ((with_reducible apply wBop); exact rfl)
  | ((with_reducible apply wIsi (b := true)); (first | exact rfl | assumption); (first | exact rfl | assumption); focus (simp only [List.any_cons, List.any_nil, isTy, String.reduceBEq, String.reduceEq, beq_self_eq_true, Bool.and_false, Bool.false_and, Bool.or_false, Bool.false_or, Bool.or_true, Bool.true_or, Bool.and_self, Bool.or_self, Bool.true_and]; done))
  | ((with_reducible apply wIsi (b := false)); (first | exact rfl | assumption); (first | exact rfl | assumption); focus (simp only [List.any_cons, List.any_nil, isTy, String.reduceBEq, String.reduceEq, beq_self_eq_true, Bool.and_false, Bool.false_and, Bool.or_false, Bool.false_or, Bool.or_true, Bool.true_or, Bool.and_self, Bool.or_self, Bool.true_and]; done)))
local macro_rules | `(tactic| walk_at "go") => `(tactic| (repeat walk_at "go1"))
theorem atI_last {xs : List VV} {x : VV} : atI (xs ++ [x]) (-1) = some x := by
  unfold atI ixN
  rw [if_neg (by decide), if_pos (by simp; omega)]
  show (xs ++ [x])[(-1 + ((xs ++ [x]).length : Int)).toNat]? = some x
  have : (-1 + ((xs ++ [x]).length : Int)).toNat = xs.length := by simp; omega
  rw [this]
  simp
theorem src_range {h : VH} {n : Int} (g : -(2 ^ 62) ≤ n ∧ n < 2 ^ 62) : srcS .range1 [.int n] h = some (.imm (rangeL 0 n)) := by
  unfold srcS
  dsimp only
  rw [if_pos g]
namespace K82
/-- a filter's tree -/
structure PlanT (T : List Str) (b : Int) (ks : List Key) (vs : List VV) : Prop where
  len : ks.length = vs.length
  sub : ∀ x ∈ T, (Sum.inr x : Key) ∈ ks
  pl : ∀ p ∈ vs, PlaceOk T p
  go : ("go" : Str) ∈ T
  ok : ∀ x ∈ T, Ok x
abbrev planV (b : Int) (ks : List Key) (vs : List VV) : VV := .dic [.inr "base", .inr "places"] [.int b, .dic ks vs]
section
variable {n : Nat} {h : VH} {T : List Str} {b : Int} {ks : List Key} {vs : List VV} {nm : Str} {Q : VV → VH → Prop} {E : XP}
theorem sides_wp (C : Clo h) (F : PlanT T b ks vs) (hn : nm ∈ T) (q : ∀ ms, ms ≠ [] → ms.length ≤ 2 → (∀ m ∈ ms, MoveOk T m) → Q (.lst ms) h) : (run PK (n + 2) 15 noCl (some [planV b ks vs, .str nm]) h).wp Q E := by
  obtain ⟨v, hv, el⟩ := look_in (F.sub nm hn) F.len
  obtain ⟨kind, st, bar, num, rows, ev, hk, t1, t2, t3, r1, r2, r3⟩ := F.pl v hv
  have Sv : SeqV h v [.str kind, st, bar, num, .lst rows] "tuple" := by rw [ev]; exact .tup
  refine run_wp rfl rfl ?_
  show (exs (envP PK (n + 1)) b__law_sides [some (planV b ks vs), some (.str nm), none] h).wp _ _
  unfold b__law_sides
  walk_at "go"
  refine wp_eq (idx_dic (look_places _ _)) ?_
  walk_at "go"
  refine wp_eq (idx_dic el) ?_
  walk_at "go"
  obtain ⟨vr, hvr⟩ : ∃ vr, vr = VV.lst rows := ⟨_, rfl⟩
  obtain ⟨rl, hrl⟩ : ∃ rl : Int, rl = (rows.length : Int) := ⟨_, rfl⟩
  have e4 : idxS v (.int 4) h = .ok vr h := by rw [hvr]; exact Sv.idx (atI_nat (j := 4) rfl)
  have e5 : bfnS .len [vr] h = .ok (.int rl) h := by rw [hvr, hrl]; exact SeqV.lst.len
  refine wp_eq e4 ?_
  walk_at "go"
  refine wp_eq e5 ?_
  walk_at "go"
  refine wO (src_range (by omega)) ?_
  rw [hrl]
  have er : rangeL 0 (rows.length : Int) = (List.range rows.length).map fun (i : Nat) => VV.int (i : Int) := by
    unfold rangeL
    rw [show ((rows.length : Int) - 0).toNat = rows.length by omega]
    congr 1
    funext i
    congr 1
    omega
  rw [er]
  unfold lcW
  dsimp only
  refine lcL_inv (fun pre post acc h' => h' = h ∧ (∃ l1 l2, List.range rows.length = l1 ++ l2 ∧ post = l2.map (fun (i : Nat) => VV.int (i : Int)) ∧ acc.length = l1.length) ∧ ∀ m ∈ acc, MoveOk T m) _ [] [] h ⟨rfl, ⟨[], _, rfl, rfl, rfl⟩, fun m hm => nomatch hm⟩ (fun pre x post acc h' ⟨q1, ⟨l1, l2, q2, q3, q4⟩, q5⟩ => ?_) fun pre acc h' ⟨q1, ⟨l1, l2, q2, q3, q4⟩, q5⟩ => ?_
  · subst q1
    cases l2 with
    | nil => cases q3
    | cons i l2 =>
      rw [List.map_cons] at q3
      injection q3 with e1 e2
      subst e1
      have hi : i < rows.length := List.mem_range.mp (by rw [q2]; simp)
      have hl := congrArg List.length q2
      simp at hl
      refine ⟨by omega, ?_⟩
      rw [wp_lcF]
      walk_at "go"
      rw [ev] at el
      refine move_wp (n := n) C el hk t1 t2 (List.getElem?_eq_getElem hi) (r3 _ (List.getElem_mem hi)) fun t ht => ?_
      exact ⟨rfl, ⟨l1 ++ [i], l2, by rw [q2]; simp, e2, by simp [q4]⟩, fun m hm => by
        rcases List.mem_append.mp hm with hm | hm
        · exact q5 m hm
        · simp at hm
          rw [hm]
          exact ht⟩
  · subst q1
    have e2 : l2 = [] := List.map_eq_nil_iff.mp q3.symm
    subst e2
    have hl := congrArg List.length q2
    simp at hl
    have hr := List.length_pos_iff.mpr r1
    walk_at "go"
    refine fin_wp (t := .lst acc) rfl C ?_ (q acc (fun e => by rw [e] at q4; simp at q4; omega) (by omega) q5)
    have kk : (h' ++ [Ob.lst acc])[h'.length]? = some (.lst acc) := at_snoc
    generalize h' ++ [Ob.lst acc] = H at kk
    unfold frz
    dsimp only
    rw [if_neg (by rw [Nat.blt_eq]; omega), kk]
    dsimp only
    have := mapO_of (f := frz h'.length 29 H) (xs := acc) (g := id) fun r hr => frz_tr (tr_le (q5 r hr).tr (by decide))
    rw [this, List.map_id]
    rfl
/-- what a list's cell is, when a def is left -/
theorem frz_cell {n0 k m j : Nat} {H : VH} {xs : List VV} (hk : n0 ≤ k) (e : H[k]? = some (.lst xs)) (ht : ∀ x ∈ xs, tr j x = true) (hj : j ≤ m) : frz n0 (m + 1) H (.ref k) = some (.lst xs) := by
  unfold frz
  dsimp only
  rw [if_neg (by rw [Nat.blt_eq]; omega), e]
  dsimp only
  have := mapO_of (f := frz n0 m H) (xs := xs) (g := id) fun r hr => frz_tr (tr_le (ht r hr) hj)
  rw [this, List.map_id]
  rfl
variable {k c m : Nat}
theorem PenG.setL {h0 : VH} {j n : Nat} {xs : List VV} (g : PenG k c m h0 h) (hj : h0.length ≤ j) (hk : k < h0.length) (hc : c < h0.length) (ht : ∀ x ∈ xs, tr n x = true) : PenG k c m h0 (h.set j (.lst xs)) :=
  ⟨g.pen.other (by omega) (by omega), g.clo.set (cloL_tr (n := n) (trL_all.mpr ht)), g.grow.set hj _⟩
theorem walk_wp (P : Pen h k c m) (hm : m + 100 ≤ 1000000) (C : Clo h) (F : PlanT T b ks vs) (q : ∀ ms h', ms.length ≤ 7 → (∀ x ∈ ms, MoveOk T x) → Pen h' k c (m + 10) → Clo h' → Upd k h h' → Q (.lst ms) h') : (run PK (n + 3) 16 noCl (some [.ref k, planV b ks vs, .int 7]) h).wp Q E := by
  have k0 : k < h.length := P.upd_lt
  have c0 : c < h.length := P.lt
  refine run_wp rfl rfl ?_
  show (exs (envP PK (n + 2)) b__law_walk [some (.ref k), some (planV b ks vs), some (.int 7), none, none, none] h).wp _ _
  unfold b__law_walk
  walk_at "go"
  have G1 := (PenG.refl P C).lst (xs := []) (n := 1) (fun x hx => nomatch hx)
  refine draw_wp (n := n + 1) G1.pen (by omega) G1.clo (by decide) (by decide) fun d h1 d0 d1 P1 C1 u1 => ?_
  have G2 := G1.upd P1 C1 u1
  have kf : h1[h.length]? = some (.lst []) := by rw [u1.oth _ (by omega)]; exact at_snoc
  walk_at "go"
  have d1' : d < 8 := d1
  refine wO (src_range (by omega)) ?_
  obtain ⟨dn, rfl⟩ : ∃ dn : Nat, d = (dn : Int) := ⟨d.toNat, by omega⟩
  refine forL_inv (fun pre post σ h' => pre.length + post.length ≤ 7 ∧ ∃ (ms : List VV) (nv : VV) (m' : Nat) (a : Option VV), PenG k c m' h h' ∧ m' ≤ m + 1 + pre.length ∧ h'[h.length]? = some (.lst ms) ∧ (∀ x ∈ ms, MoveOk T x) ∧ ms.length ≤ pre.length ∧ (nv = .non ∨ ∃ nm ∈ T, nv = .str nm) ∧ σ = [some (.ref k), some (planV b ks vs), some (.int 7), some (.ref h.length), some nv, a]) _ [] _ _ ⟨?_, [], .str "go", m + 1, none, G2, by simp, kf, (fun x hx => nomatch hx), by simp, .inr ⟨_, F.go, rfl⟩, rfl⟩ (fun pre x post σ h' ⟨hl, ms, nv, m', a, G, hm', hf, q1, q2, q3, q4⟩ => ?_) fun pre σ h' ⟨hl, ms, nv, m', a, G, hm', hf, q1, q2, q3, q4⟩ => ?_
  · unfold rangeL
    simp
    omega
  · subst q4
    rw [List.length_cons] at hl
    rw [wp_forF]
    refine wO rfl ?_
    rcases q3 with rfl | ⟨nm, hnm, rfl⟩
    · walk_at "go"
      refine wO (show copS .notN .non .non h' = some false from rfl) ?_
      walk_at "go"
      exact ⟨by rw [List.length_append, List.length_singleton]; omega, ms, .non, m', _, G, by rw [List.length_append, List.length_singleton]; omega, hf, q1, by rw [List.length_append, List.length_singleton]; omega, .inl rfl, rfl⟩
    · walk_at "go"
      refine wO (show copS .notN (.str nm) .non h' = some true from rfl) ?_
      walk_at "go"
      refine wG (rcv_app hf) ?_
      walk_at "go"
      refine sides_wp (n := n) G.clo F hnm fun ss s0 sl s1 => ?_
      walk_at "go"
      refine pick_wp (n := n) G.pen (by omega) G.clo SeqV.lst (fun e => nomatch e) s0 (by omega) (fun y hy => tr_pk (s1 y hy).tr) fun mv hmv h2 P2 C2 u2 => ?_
      have G3 := G.upd P2 C2 u2
      have hf2 : h2[h.length]? = some (.lst ms) := by rw [u2.oth _ (by omega)]; exact hf
      have hlt := (List.getElem?_eq_some_iff.mp hf2).1
      refine wp_eq (append_ref hf2 (by omega)) ?_
      have hall : ∀ x ∈ ms ++ [mv], MoveOk T x := fun x hx => by
        rcases List.mem_append.mp hx with hx | hx
        · exact q1 x hx
        · rw [List.mem_singleton.mp hx]; exact s1 mv hmv
      have G4 := G3.setL (j := h.length) (xs := ms ++ [mv]) (n := 4) (Nat.le_refl _) k0 c0 fun x hx => (hall x hx).tr
      have hf4 : (h2.set h.length (.lst (ms ++ [mv])))[h.length]? = some (.lst (ms ++ [mv])) := List.getElem?_set_self hlt
      walk_at "go"
      refine wp_eq ((SeqV.ref hf4).idx atI_last) ?_
      obtain ⟨w, g, kp, tl, st, p, rd, ts, lo, rfl, hw, hg, ht, htr⟩ := s1 mv hmv
      walk_at "go"
      refine wp_eq (idx_dic (look_to _ _ _)) ?_
      walk_at "go"
      exact ⟨by rw [List.length_append, List.length_singleton]; omega, _, g, _, _, G4, by rw [List.length_append, List.length_singleton]; omega, hf4, hall, by rw [List.length_append, List.length_append, List.length_singleton, List.length_singleton]; omega, hg, rfl⟩
  · subst q4
    simp at hl
    walk_at "go"
    obtain ⟨h9, l9, e9, u9, P9, C9⟩ := grow_fin G.grow G.pen k0 c0 C
    have fz : frz h.length 30 h' (.ref h.length) = some (.lst ms) := frz_cell (j := 4) (Nat.le_refl _) hf (fun x hx => (q1 x hx).tr) (by decide)
    rw [e9] at fz ⊢
    exact fin_wp u9.len C9 fz (q ms h9 (by omega) q1 (P9.mono (by omega)) C9 u9)
end
end K82
end Mini
end
section
set_option Elab.async false
set_option linter.all false
set_option maxRecDepth 100000
set_option maxHeartbeats 2000000
/-! Plain, part 18 (k82): a drawn row. -/
namespace Mini
open PySem L2
local macro_rules | `(tactic| walk_at "go1") => `(tactic| first
  | with_reducible apply wxs_cons'
  | with_reducible apply wxs_nil'
  | ((with_reducible apply nxtN); focus (first | (simp only [List.set_cons_zero, List.set_cons_succ]; done) | (simp only [List.set_cons_zero, List.set_cons_succ]; exact rfl) | exact rfl))
  | with_reducible apply nxt_rt'
  | with_reducible apply nxt_bk'
  | with_reducible apply nxt_ct'
  | with_reducible apply we_var'
  | with_reducible apply we_cst'
  | with_reducible apply ws_cons'
  | with_reducible apply ws_nil'
  | ((with_reducible apply wSlot); exact rfl)
  | with_reducible apply we_fcl'
  | with_reducible apply we_cmp'
  | with_reducible apply we_idx'
  | with_reducible apply we_bin'
  | with_reducible apply wt_val'
  | with_reducible apply we_tup'
  | with_reducible apply we_lst'
  | with_reducible apply we_bcl'
  | with_reducible apply wx_set'
  | with_reducible apply wx_ret'
  | with_reducible apply wx_ife'
  | with_reducible apply wx_exp'
  | with_reducible apply wx_unp'
  | with_reducible apply wx_par'
  | with_reducible apply wx_sub'
  | with_reducible apply wx_rse'
  | with_reducible apply wx_brk'
  | with_reducible apply wx_cnt'
  | with_reducible apply wx_for'
  | with_reducible apply we_and'
  | with_reducible apply we_or'
  | with_reducible apply we_not'
  | with_reducible apply we_ife'
  | with_reducible apply we_neg'
  | with_reducible apply we_chn'
  | with_reducible apply we_dct'
  | with_reducible apply we_slc'
  | with_reducible apply we_att'
  | with_reducible apply we_isi'
  | with_reducible apply we_mcl'
  | with_reducible apply we_lc'
  | with_reducible apply we_fst'
  | with_reducible apply wf_nil'
  | with_reducible apply wf_cons'
  | with_reducible apply wt_yes'
  | with_reducible apply wt_and'
  | with_reducible apply wt_or'
  | with_reducible apply wt_not'
  | with_reducible apply endQ_rt'
  | with_reducible apply endQ_nx'
  | with_reducible apply wpB_t'
  | with_reducible apply wpB_f'
  | with_reducible apply wpB_nt'
  | with_reducible apply wpB_nf'
  | (with_reducible apply wTru)
  | ((with_reducible apply wBt); with_reducible assumption)
  | ((with_reducible apply wBf); with_reducible assumption)
  | ((with_reducible apply wGle); exact rfl)
  | ((with_reducible apply wGrs); exact rfl) | ((with_reducible apply wGrc); assumption)
  | ((with_reducible apply wGdc); exact rfl; exact rfl)
  | ((with_reducible apply wGeq); exact rfl)
  | ((with_reducible apply wOpt); exact rfl)
  | ((with_reducible apply wTup); exact rfl)
  | ((with_reducible apply wUnp); exact rfl)
  | ((with_reducible apply wTg); exact rfl)
  | ((with_reducible apply wNeg); exact rfl)
  | ((with_reducible apply wBop); exact rfl)
  | ((with_reducible apply wIsi (b := true)); (first | exact rfl | assumption); (first | exact rfl | assumption); focus (simp only [List.any_cons, List.any_nil, isTy, String.reduceBEq, String.reduceEq, beq_self_eq_true, Bool.and_false, Bool.false_and, Bool.or_false, Bool.false_or, Bool.or_true, Bool.true_or, Bool.and_self, Bool.or_self, Bool.true_and]; done))
  | ((with_reducible apply wIsi (b := false)); (first | exact rfl | assumption); (first | exact rfl | assumption); focus (simp only [List.any_cons, List.any_nil, isTy, String.reduceBEq, String.reduceEq, beq_self_eq_true, Bool.and_false, Bool.false_and, Bool.or_false, Bool.false_or, Bool.or_true, Bool.true_or, Bool.and_self, Bool.or_self, Bool.true_and]; done)))
local macro_rules | `(tactic| walk_at "go") => `(tactic| (repeat walk_at "go1"))
theorem eq_str_int {h : VH} {a : Str} {i : Int} (ha : PyData.strOk a = true) : copS .eq (.str a) (.int i) h = some false := by
  unfold copS
  dsimp only
  rw [eqS_of (d := .str a) (e := .int i) (by unfold dat; rfl) (by unfold dat; rfl) (shp_str ha) shp_int]
  simp only [PyData.eqv]
namespace K82
def LawOut (o : Out) : Prop := o.1 ∈ wordsL ∧ ∀ n, o.2 = some n → n.natAbs ≤ 10 ^ 40
/-- between two turns -/
def OutI (k c m : Nat) (h : VH) (pv : VV) (ms pre post : List VV) (σ : Sl) (h' : VH) : Prop := pre ++ post = ms ∧ ∃ (os : List Out) (m' : Nat) (a e : Option VV), PenG k c m' h h' ∧ m' ≤ m + 10 + 2 * pre.length ∧ h'[h.length]? = some (.lst (os.map enc)) ∧ (∀ o ∈ os, LawOut o) ∧ os.length = pre.length ∧ σ = [some (.ref k), some pv, some (.ref h.length), a, e]
section
variable {n : Nat} {h : VH} {T : List Str} {b : Int} {ks : List Key} {vs : List VV} {Q : VV → VH → Prop} {E : XP} {k c m : Nat}
theorem pow_big {h : VH} : bopS .pow (.int 10) (.int 40) h = .ok (.int (10 ^ 40)) h := by kernel_rfl
theorem outputs_wp (P : Pen h k c m) (hm : m + 200 ≤ 1000000) (C : Clo h) (F : PlanT T b ks vs) (q : ∀ (os : List Out) (h' : VH), os.length ≤ 7 → (∀ o ∈ os, LawOut o) → Pen h' k c (m + 40) → Clo h' → Upd k h h' → Q (.lst (os.map enc)) h') : (run PK (n + 4) 17 noCl (some [.ref k, planV b ks vs]) h).wp Q E := by
  have k0 : k < h.length := P.upd_lt
  have c0 : c < h.length := P.lt
  obtain ⟨pv, hpv⟩ : ∃ pv, pv = planV b ks vs := ⟨_, rfl⟩
  refine run_wp rfl rfl ?_
  show (exs (envP PK (n + 3)) b__law_outputs [some (.ref k), some (planV b ks vs), none, none, none] h).wp _ _
  rw [← hpv]
  unfold b__law_outputs
  walk_at "go"
  have G1 := (PenG.refl P C).lst (xs := []) (n := 1) (fun x hx => nomatch hx)
  rw [hpv]
  refine walk_wp (n := n) G1.pen (by omega) G1.clo F fun ms h1 ml mo P1 C1 u1 => ?_
  rw [← hpv]
  have G2 := G1.upd P1 C1 u1
  have kf : h1[h.length]? = some (.lst []) := by rw [u1.oth _ (by omega)]; exact at_snoc
  walk_at "go"
  refine (SeqV.lst (xs := ms)).for false (OutI k c m h pv ms) ⟨rfl, [], m + 10, none, none, G2, by simp, kf, (fun o ho => nomatch ho), rfl, rfl⟩ (fun pre x post σ h' ⟨qp, os, m', a, e, G, hm', hf, q1, q2, q3⟩ => ?_) (fun pre post σ h' _ kk ek ev => nomatch ev) fun pre σ h' ⟨qp, os, m', a, e, G, hm', hf, q1, q2, q3⟩ => ?_
  · subst q3
    have hl : pre.length + (post.length + 1) = ms.length := by rw [← qp]; simp
    obtain ⟨w, g, kp, tl, st, p, rd, ts, lo, rfl, hw, hg, ht, htr⟩ := mo x (by rw [← qp]; simp)
    obtain ⟨mv, hmv⟩ : ∃ mv, mv = VV.dic mks9 [.str w, g, kp, tl, st, p, rd, ts, lo] := ⟨_, rfl⟩
    rw [← hmv]
    rw [wp_forF]
    refine wO rfl ?_
    refine wxs_cons' (wx_set' (we_fcl' (ws_cons' (we_var' (wSlot rfl (ws_cons' ?_))))))
    refine we_lst' (ws_cons' (we_cst' (ws_cons' (we_neg' (we_cst' (wNeg rfl (ws_cons' (we_cst' (ws_cons' (we_bin' (we_cst' (we_cst' (wp_eq pow_big ?_)))))))))))))
    refine ws_cons' (we_neg' (we_bin' (we_cst' (we_cst' (wp_eq pow_big (wNeg rfl ?_))))))
    obtain ⟨B, hB⟩ : ∃ B : Int, B = 10 ^ 40 := ⟨_, rfl⟩
    rw [← hB]
    walk_at "go"
    refine draw_wp (n := n + 2) G.pen (by omega) G.clo (by decide) (by decide) fun d h2 d0 d1 P2 C2 u2 => ?_
    have G3 := G.upd P2 C2 u2
    walk_at "go"
    have G4 := G3.lst (xs := [.int 0, .int (-1), .int 12, .int B, .int (-B), .int (d - 500)]) (n := 1) (by simp [tr])
    refine pick_wp (n := n + 1) G4.pen (by omega) G4.clo (.ref at_snoc) (fun z => by injection z with z; have := G3.lt.1; omega) (by simp) (by simp) (fun y hy => .inl (by simp at hy; rcases hy with rfl | rfl | rfl | rfl | rfl | rfl <;> rfl)) fun y hy h3 P3 C3 u3 => ?_
    have G5 := G4.upd P3 C3 u3
    obtain ⟨num, rfl, hnum⟩ : ∃ num : Int, y = .int num ∧ num.natAbs ≤ 10 ^ 40 := by
      simp only [List.mem_cons, List.not_mem_nil, or_false] at hy
      rcases hy with rfl | rfl | rfl | rfl | rfl | rfl
      · exact ⟨_, rfl, by decide⟩
      · exact ⟨_, rfl, by decide⟩
      · exact ⟨_, rfl, by decide⟩
      · exact ⟨_, rfl, by rw [hB]; decide⟩
      · exact ⟨_, rfl, by rw [hB]; decide⟩
      · exact ⟨_, rfl, by omega⟩
    have l3 : h.length ≤ h'.length := G.grow.len
    have hlt := (List.getElem?_eq_some_iff.mp hf).1
    have hf3 : h3[h.length]? = some (.lst (os.map enc)) := by
      rw [u3.oth _ (by omega)]
      refine at_keep ?_
      rw [u2.oth _ (by omega)]
      exact hf
    walk_at "go"
    refine wG (rcv_app hf3) ?_
    have done : ∀ (o : Out), LawOut o → ∀ (K : VV → VH → Prop) (V : XP), (∀ h'', OutI k c m h pv ms (pre ++ [mv]) post [some (.ref k), some pv, some (.ref h.length), some mv, some (.int num)] h'' → K .non h'') → (bmt1 .append (.ref h.length) (enc o) h3).wp K V := fun o ho K V kk => by
      have e3 : (os ++ [o]).map enc = os.map enc ++ [enc o] := by simp
      refine wp_eq (append_ref hf3 (by simp; omega)) (kk _ ?_)
      have G6 := G5.setL (j := h.length) (xs := (os ++ [o]).map enc) (n := 2) (Nat.le_refl _) k0 c0 (fun x hx => by
        obtain ⟨o', _, rfl⟩ := List.mem_map.mp hx
        exact tr_enc o')
      rw [e3] at G6
      refine ⟨by rw [← qp, ← hmv]; simp, os ++ [o], _, _, _, G6, by rw [List.length_append, List.length_singleton]; omega, ?_, fun o' ho' => ?_, by simp [q2], rfl⟩
      · rw [List.getElem?_set_self (List.getElem?_eq_some_iff.mp hf3).1, e3]
      · rcases List.mem_append.mp ho' with h | h
        · exact q1 o' h
        · rw [List.mem_singleton.mp h]; exact ho
    have wd : idxS mv (.str "word") h3 = .ok (.str w) h3 := by rw [hmv]; exact idx_dic (look_word _ _)
    have wt : idxS mv (.str "tell") h3 = .ok tl h3 := by rw [hmv]; exact idx_dic (look_tell _ _ _ _ _)
    walk_at "go"
    refine wp_eq wt ?_
    walk_at "go"
    have two : ∀ (K : VV → VH → Prop) (V : XP), (∀ h'', OutI k c m h pv ms (pre ++ [mv]) post [some (.ref k), some pv, some (.ref h.length), some mv, some (.int num)] h'' → K .non h'') → (bmt1 .append (.ref h.length) (.tup [.str w, .int num]) h3).wp K V := done (w, some num) ⟨hw, fun n e => by cases e; exact hnum⟩
    have one : ∀ (K : VV → VH → Prop) (V : XP), (∀ h'', OutI k c m h pv ms (pre ++ [mv]) post [some (.ref k), some pv, some (.ref h.length), some mv, some (.int num)] h'' → K .non h'') → (bmt1 .append (.ref h.length) (.str w) h3).wp K V := done (w, none) ⟨hw, fun n e => nomatch e⟩
    have hb : ∃ bb, copS .eq tl (.int 0) h3 = some bb := by
      rcases ht with rfl | ⟨i, rfl⟩
      · exact ⟨_, eq_str_int (by decide +kernel)⟩
      · exact ⟨_, eq_int⟩
    obtain ⟨bb, ebb⟩ := hb
    refine wO ebb (wTru ?_)
    refine wB (fun _ => ?_) fun _ => ?_
    · walk_at "go"
      refine wp_eq wd ?_
      refine one _ _ fun h'' hI => ?_
      walk_at "go"
      exact hI
    · walk_at "go"
      refine wp_eq wd ?_
      walk_at "go"
      refine two _ _ fun h'' hI => ?_
      walk_at "go"
      exact hI
  · subst q3
    rw [List.append_nil] at qp
    subst qp
    walk_at "go"
    obtain ⟨h9, l9, e9, u9, P9, C9⟩ := grow_fin G.grow G.pen k0 c0 C
    have fz : frz h.length 30 h' (.ref h.length) = some (.lst (os.map enc)) := frz_cell (j := 2) (Nat.le_refl _) hf (fun x hx => by
      obtain ⟨o', _, rfl⟩ := List.mem_map.mp hx
      exact tr_enc o') (by decide)
    rw [e9] at fz ⊢
    exact fin_wp u9.len C9 fz (q os h9 (by omega) q1 (P9.mono (by omega)) C9 u9)
end
end K82
end Mini
end
section
set_option Elab.async false
set_option linter.all false
set_option maxRecDepth 100000
set_option maxHeartbeats 2000000
/-! Plain, part 19 (k82): the law's own reading. -/
namespace Mini
open PySem L2
open TL (tl)
local macro_rules | `(tactic| walk_at "go1") => `(tactic| first
  | with_reducible apply wxs_cons'
  | with_reducible apply wxs_nil'
  | ((with_reducible apply nxtN); focus (first | (simp only [List.set_cons_zero, List.set_cons_succ]; done) | (simp only [List.set_cons_zero, List.set_cons_succ]; exact rfl) | exact rfl))
  | with_reducible apply nxt_rt'
  | with_reducible apply nxt_bk'
  | with_reducible apply nxt_ct'
  | with_reducible apply we_var'
  | with_reducible apply we_cst'
  | with_reducible apply ws_cons'
  | with_reducible apply ws_nil'
  | ((with_reducible apply wSlot); exact rfl)
  | with_reducible apply we_fcl'
  | with_reducible apply we_cmp'
  | with_reducible apply we_idx'
  | with_reducible apply we_bin'
  | with_reducible apply wt_val'
  | with_reducible apply we_tup'
  | with_reducible apply we_lst'
  | with_reducible apply we_bcl'
  | with_reducible apply wx_set'
  | with_reducible apply wx_ret'
  | with_reducible apply wx_ife'
  | with_reducible apply wx_exp'
  | with_reducible apply wx_unp'
  | with_reducible apply wx_par'
  | with_reducible apply wx_sub'
  | with_reducible apply wx_rse'
  | with_reducible apply wx_brk'
  | with_reducible apply wx_cnt'
  | with_reducible apply wx_for'
  | with_reducible apply we_and'
  | with_reducible apply we_or'
  | with_reducible apply we_not'
  | with_reducible apply we_ife'
  | with_reducible apply we_neg'
  | with_reducible apply we_chn'
  | with_reducible apply we_dct'
  | with_reducible apply we_slc'
  | with_reducible apply we_att'
  | with_reducible apply we_isi'
  | with_reducible apply we_mcl'
  | with_reducible apply we_lc'
  | with_reducible apply we_fst'
  | with_reducible apply wf_nil'
  | with_reducible apply wf_cons'
  | with_reducible apply wt_yes'
  | with_reducible apply wt_and'
  | with_reducible apply wt_or'
  | with_reducible apply wt_not'
  | with_reducible apply endQ_rt'
  | with_reducible apply endQ_nx'
  | with_reducible apply wpB_t'
  | with_reducible apply wpB_f'
  | with_reducible apply wpB_nt'
  | with_reducible apply wpB_nf'
  | (with_reducible apply wTru)
  | ((with_reducible apply wBt); with_reducible assumption)
  | ((with_reducible apply wBf); with_reducible assumption)
  | ((with_reducible apply wGle); exact rfl)
  | ((with_reducible apply wGrs); exact rfl) | ((with_reducible apply wGrc); assumption)
  | ((with_reducible apply wGdc); exact rfl; exact rfl)
  | ((with_reducible apply wGeq); exact rfl)
  | ((with_reducible apply wOpt); exact rfl)
  | ((with_reducible apply wTup); exact rfl)
  | ((with_reducible apply wUnp); exact rfl)
  | ((with_reducible apply wTg); exact rfl)
  | ((with_reducible apply wNeg); exact rfl)
  | ((with_reducible apply wBop); exact rfl)
  | ((with_reducible apply wIsi (b := true)); (first | exact rfl | assumption); (first | exact rfl | assumption); focus (simp only [List.any_cons, List.any_nil, isTy, String.reduceBEq, String.reduceEq, beq_self_eq_true, Bool.and_false, Bool.false_and, Bool.or_false, Bool.false_or, Bool.or_true, Bool.true_or, Bool.and_self, Bool.or_self, Bool.true_and]; done))
  | ((with_reducible apply wIsi (b := false)); (first | exact rfl | assumption); (first | exact rfl | assumption); focus (simp only [List.any_cons, List.any_nil, isTy, String.reduceBEq, String.reduceEq, beq_self_eq_true, Bool.and_false, Bool.false_and, Bool.or_false, Bool.false_or, Bool.or_true, Bool.true_or, Bool.and_self, Bool.or_self, Bool.true_and]; done)))
local macro_rules | `(tactic| walk_at "go") => `(tactic| (repeat walk_at "go1"))
theorem cut_to1 {s : Str} : tl (cutS s none (some 1)) = (tl s).take 1 := by
  unfold cutS
  show ((tl s).drop 0).take (HT.sIx s.length s.length (some 1) - 0) = _
  have e1 : HT.sIx s.length s.length (some ((1 : Nat) : Int)) = min 1 s.length := HT.sIx_nat _ _ _
  have e1' : HT.sIx s.length s.length (some 1) = min 1 s.length := e1
  have hl : s.length = (tl s).length := TL.len_tl s
  rw [e1', List.drop_zero, Nat.sub_zero, hl]
  cases tl s with
  | nil => rfl
  | cons c r => simp
theorem slc_to1 {s : Str} {h : VH} (hl : s.length ≤ sizeLine) : slcS (.str s) none (some 1) h = .ok (.str (cutS s none (some 1))) h := by
  unfold slcS
  dsimp only
  rw [if_pos hl]
theorem split_none {s : Str} (h : 61 ∉ tl s) : Txt.split s eqC = [s] := by
  have e1 : tl eqC = 61 :: [] := by decide
  refine TL.map_tl_inj ?_
  rw [TL.split_spl _ eqC (by rw [e1]; simp) (TL.kind_ok (by decide +kernel)), e1, TL.spl_last1 h]
  rfl
theorem split_cons {a b : Str} (h : 61 ∉ tl a) : Txt.split (a ++ eqC ++ b) eqC = a :: Txt.split b eqC := by
  have e1 : tl eqC = 61 :: [] := by decide
  refine TL.map_tl_inj ?_
  rw [TL.split_spl _ eqC (by rw [e1]; simp) (TL.kind_ok (by decide +kernel)), List.map_cons, TL.split_spl b eqC (by rw [e1]; simp) (TL.kind_ok (by decide +kernel)), TL.tl_append, TL.tl_append, e1, List.append_assoc, TL.spl_part1 h]
  rfl
theorem join_back {b : Str} : Txt.join eqC (Txt.split b eqC) = b := by
  rw [TL.join_eq]
  exact StrLaws.join_split b eqC
theorem idx_chr {s : Str} {c : Nat} {r : List Nat} {h : VH} (hl : s.length ≤ sizeLine) (e : tl s = c :: r) : idxS (.str s) (.int 0) h = .ok (.str ⟨#[c]⟩) h := by
  unfold idxS
  dsimp only
  rw [if_pos hl]
  have : atI s.cps.toList 0 = some c := by
    rw [show s.cps.toList = c :: r from e]
    unfold atI ixN
    rw [if_pos (by decide), if_pos (by simp)]
    rfl
  rw [this]
  rfl
theorem le_int {i j : Int} {h : VH} : copS .le (.int i) (.int j) h = some (decide (i ≤ j)) := rfl
namespace K82
theorem canS_eq (s : Str) : canS s = (!(bodyS s == ("" : Str)) && (!(decide (4000 < ((bodyS s).length : Int))) && (((bodyS s).cps.toList.all fun c => decide (c ∈ digs.cps.toList)) && !(Txt.startswith (bodyS s) ("0" : Str) && !(s == ("0" : Str)))))) := by
  unfold canS canL
  rw [show ("0" : Str) = ⟨#[48]⟩ from by decide, start_one, tl_body, str_beq, str_beq, tl_body]
  have e1 : (tl ("" : Str)) = [] := by decide
  have e2 : (bodyL (tl s) == []) = (bodyL (tl s)).isEmpty := by cases bodyL (tl s) <;> rfl
  have e3 : (bodyS s).length = (bodyL (tl s)).length := by rw [TL.len_tl, tl_body]
  have e4 : ((bodyS s).cps.toList.all fun c => decide (c ∈ digs.cps.toList)) = digL (bodyL (tl s)) := by
    rw [show (bodyS s).cps.toList = bodyL (tl s) from tl_body s]
    unfold digL
    congr 1
    funext c
    exact dig_mem
  rw [e1, e2, e3, e4]
  have e5 : (!decide (4000 < ((bodyL (tl s)).length : Int))) = decide ((bodyL (tl s)).length ≤ 4000) := by
    by_cases q : (bodyL (tl s)).length ≤ 4000
    · rw [decide_eq_true q, decide_eq_false (by omega)]; rfl
    · rw [decide_eq_false q, decide_eq_true (by omega)]; rfl
  rw [e5]
/-- the signs of a text that are not in another -/
def outOf (z s : Str) : List Str := (s.cps.toList.filter fun k => !decide (k ∈ z.cps.toList)).map fun k => ⟨#[k]⟩
theorem out_eq {z s : Str} : s.cps.toList.filterMap (fun k => if k ∈ z.cps.toList then none else some (VV.str ⟨#[k]⟩)) = (outOf z s).map VV.str := by
  unfold outOf
  generalize s.cps.toList = l
  induction l with
  | nil => rfl
  | cons k l ih =>
    by_cases hk : k ∈ z.cps.toList
    · rw [List.filterMap_cons, List.filter_cons]
      simp only [hk, if_true, decide_true]
      exact ih
    · rw [List.filterMap_cons, List.filter_cons]
      simp only [hk, if_false, decide_false, Bool.not_false, if_true, List.map_cons, ih]
theorem out_all {z s : Str} : ((outOf z s).map PyData.str).isEmpty = s.cps.toList.all fun c => decide (c ∈ z.cps.toList) := by
  unfold outOf
  generalize s.cps.toList = l
  induction l with
  | nil => rfl
  | cons k l ih =>
    rw [List.filter_cons, List.all_cons, ← ih]
    by_cases hk : k ∈ z.cps.toList
    · simp only [hk, decide_true, Bool.not_true, Bool.true_and]
      rfl
    · simp only [hk, decide_false, Bool.not_false, Bool.false_and]
      rfl
theorem ok_out {z s : Str} (h : PyData.strOk s = true) : ∀ t ∈ outOf z s, PyData.strOk t = true := fun t ht => by
  obtain ⟨k, hk, rfl⟩ := List.mem_map.mp ht
  exact ok_chr h k (List.mem_filter.mp hk).1
/-- [sign for sign in s if sign not in z] -/
theorem lc_out {N : Env'} {w : List Nat} {i : Nat} {σ : Sl} {z s : Str} {h : VH} {Q : List VV → VH → Prop} {E : XP} (hs : Ok s) (hσ : ∀ v, slotV ((wipeS σ w).set i (some v)) i = some v) (q : Q ((outOf z s).map VV.str) h) :
    wpO (srcS .seq [.str s] h) fun src => (lcW (lcF N w (.one i) (.val (.cmp .notIn (.var i) (.cst (.str z)))) (.var i) σ) src h).wp Q E := by
  refine wO rfl ?_
  refine lcL_map (g := fun k => if k ∈ z.cps.toList then none else some (.str ⟨#[k]⟩)) ?_ (fun k _ => ?_) ?_
  · have := hs.2
    rw [TL.len_tl] at this
    exact this
  · refine eq_wp ?_
    rw [wp_lcF]
    refine wTg rfl ?_
    refine wt_val' (we_cmp' (we_var' (wSlot (hσ _) (we_cst' (wO notin_chr (wTru ?_))))))
    by_cases hk : k ∈ z.cps.toList
    · rw [decide_eq_true hk, if_pos hk]
      exact ⟨rfl, rfl⟩
    · rw [decide_eq_false hk, if_neg hk]
      exact we_var' (wSlot (hσ _) ⟨rfl, rfl⟩)
  · rw [out_eq]
    exact q
/-- [..] == [], behind it -/
theorem cmp_out {z s : Str} {h : VH} {k k2 : Nat} (ho : Ok s) (e1 : h[k]? = some (.lst ((outOf z s).map VV.str))) (e2 : h[k2]? = some (.lst [])) : copS .eq (.ref k) (.ref k2) h = some (s.cps.toList.all fun c => decide (c ∈ z.cps.toList)) := by
  rw [eq_nil (ds := (outOf z s).map PyData.str) (dat_ref e1 (dat_strs (n := 6) _)) e2 (lay_strs (ok_out ho.1)) (by rw [dep_strs]; decide), out_all]
def parts3 (s : Str) (ps : List Str) (p0 head : Str) : Prop := Txt.split s eqC = ps ∧ ps[0]? = some p0 ∧ Txt.join eqC (ps.drop 1) = head ∧ Ok p0 ∧ Ok head ∧ ((ps.length = 1 ∧ readOut s = if isName p0 = true then some (p0, none) else none) ∨ (1 < ps.length ∧ (readOut s).isSome = (isName p0 && canS head)))
theorem parts_of {s : Str} (ho : Ok s) : ∃ ps p0 head, parts3 s ps p0 head := by
  rcases part_cases s with ⟨hn, e⟩ | ⟨a, b, e1, hn, e⟩
  · refine ⟨[s], s, Txt.join eqC [], split_none hn, rfl, rfl, ho, ok_empty, .inl ⟨rfl, ?_⟩⟩
    unfold readOut
    rw [e]
    dsimp only
    split
    · rw [if_pos (by decide)]
    · rfl
  · have hh := ho
    rw [e1] at hh
    obtain ⟨h1, h2⟩ := ok_app hh
    have hs : Txt.split s eqC = a :: Txt.split b eqC := by rw [e1]; exact split_cons hn
    refine ⟨_, a, b, hs, rfl, join_back, (ok_app h1).1, h2, .inr ⟨?_, ?_⟩⟩
    · have : Txt.split b eqC ≠ [] := fun z => by
        have := congrArg (Txt.join eqC) z
        rw [join_back] at this
        have hb : b = Txt.join eqC [] := this
        rw [hb] at z
        exact absurd z (by decide +kernel)
      have := List.length_pos_iff.mpr this
      rw [List.length_cons]
      omega
    · unfold readOut
      rw [e]
      dsimp only
      cases isName a with
      | false => rfl
      | true =>
        rw [if_pos rfl, if_neg (by decide +kernel)]
        cases hc : canS b with
        | false => rfl
        | true =>
          obtain ⟨k, hk, _⟩ := can_read hc
          rw [if_pos rfl, hk]
          rfl
theorem iow_ok {n : Nat} {s : Str} {h : VH} (ho : Ok s) (c : Clo h) : run PK (n + 1) 18 noCl (some [.str s]) h = .ok (.bl (readOut s).isSome) h := by
  obtain ⟨ps, p0, head, e1, e2, e3, o0, oh, er⟩ := parts_of ho
  have pl : 1 ≤ ps.length := by
    rcases er with ⟨h1, _⟩ | ⟨h1, _⟩ <;> omega
  have sw := PyProof.Rows.split_weight s eqC (by decide)
  rw [e1] at sw
  have hsz := ho.2
  refine eq_wp (run_wp rfl rfl ?_)
  show (exs (envP PK n) b__law_is_output_word [some (.str s), none, none, none, none] h).wp _ _
  unfold b__law_is_output_word
  have s24 : sizeLine = 16777216 := by decide
  walk_at "go"
  refine wp_eq (split_okP (by decide) (by omega)) ?_
  rw [e1]
  walk_at "go"
  refine wp_eq (slc_ref at_snoc) ?_
  have ec : cutL (ps.map VV.str) (some 1) none = (ps.drop 1).map VV.str := by
    unfold cutL
    have q1 : HT.sIx (ps.map VV.str).length 0 (some ((1 : Nat) : Int)) = min 1 (ps.map VV.str).length := HT.sIx_nat _ _ _
    have q1' : HT.sIx (ps.map VV.str).length 0 (some 1) = min 1 (ps.map VV.str).length := q1
    rw [q1', HT.sIx_none, List.length_map, Nat.min_eq_left pl, List.map_drop, List.take_of_length_le (by rw [List.length_drop, List.length_map]; omega)]
  rw [ec]
  have hj : ((ps.drop 1).map (·.length)).sum + (ps.drop 1).length * eqC.length ≤ 16777216 := by
    have h3 : eqC.length = 1 := by decide
    have h4 : ((ps.drop 1).map (·.length)).sum ≤ (ps.map (·.length)).sum := by
      cases ps with
      | nil => simp
      | cons a r => simp
    rw [h3, List.length_drop]
    omega
  refine wp_eq (join_ref at_snoc hj) ?_
  rw [e3]
  have l1 : (h ++ [Ob.lst (ps.map VV.str)]).length = h.length + 1 := by rw [List.length_append]; rfl
  have k1 : (h ++ [Ob.lst (ps.map VV.str)] ++ [Ob.lst ((ps.drop 1).map VV.str)])[h.length]? = some (.lst (ps.map VV.str)) := at_keep at_snoc
  -- the heap, grown
  obtain ⟨H, hH⟩ : ∃ H, H = h ++ [Ob.lst (ps.map VV.str)] ++ [Ob.lst ((ps.drop 1).map VV.str)] := ⟨_, rfl⟩
  obtain ⟨l, hl⟩ : ∃ l, H = h ++ l := ⟨[Ob.lst (ps.map VV.str)] ++ [Ob.lst ((ps.drop 1).map VV.str)], by rw [hH, List.append_assoc]⟩
  rw [← hH] at k1 ⊢
  have fin2 : ∀ (bb : Bool) (l2 : VH), bb = (readOut s).isSome → endQ false h.length (fun b' h' => b' = VV.bl (readOut s).isSome ∧ h' = h) (fun _ _ _ _ => False) (.rt (.bl bb)) (H ++ l2) := fun bb l2 e => by
    rw [hl, List.append_assoc]
    exact fin_wp rfl c (frz_tr (n := 30) rfl) ⟨by rw [e], rfl⟩
  have i0 : ∀ l2 : VH, idxS (.ref h.length) (.int 0) (H ++ l2) = .ok (.str p0) (H ++ l2) := fun l2 => (SeqV.ref (at_keep k1)).idx (atI_nat (j := 0) (by rw [List.getElem?_map, e2]; rfl))
  have i0' : idxS (.ref h.length) (.int 0) H = .ok (.str p0) H := by have := i0 []; rwa [List.append_nil] at this
  have en : isName p0 = (decide (1 ≤ (p0.length : Int)) && (decide ((p0.length : Int) ≤ 8) && p0.cps.toList.all fun c => decide (c ∈ abc.cps.toList))) := by
    unfold isName
    rw [str_beq]
    have q1 : (tl p0 == tl ("" : Str)) = !decide (1 ≤ (p0.length : Int)) := by
      have : tl ("" : Str) = [] := by decide
      rw [this, TL.len_tl]
      cases tl p0 with
      | nil => rfl
      | cons a r =>
        rw [decide_eq_true (by simp; omega)]
        rfl
    have q2 : (!decide (8 < (p0.length : Int))) = decide ((p0.length : Int) ≤ 8) := by
      by_cases q : (p0.length : Int) ≤ 8
      · rw [decide_eq_true q, decide_eq_false (by omega)]; rfl
      · rw [decide_eq_false q, decide_eq_true (by omega)]; rfl
    rw [q1, q2, Bool.not_not]
  have bad : isName p0 = false → (readOut s).isSome = false := fun e => by
    rcases er with ⟨_, h2⟩ | ⟨_, h2⟩
    · rw [h2, e]; rfl
    · rw [h2, e]; rfl
  walk_at "go"
  refine wp_eq i0' ?_
  walk_at "go"
  refine wp_eq (len_str o0.len) ?_
  refine wO le_int ?_
  refine wB (fun b1 => ?_) fun b1 => ?_
  · walk_at "go"
    refine wO le_int ?_
    walk_at "go"
    refine wB (fun b2 => ?_) fun b2 => ?_
    · have b2 := (Bool.not_eq_true' _).mp b2
      walk_at "go"
      have := fin2 false [] (by rw [bad (by rw [en, b1, b2]; rfl)])
      rw [List.append_nil] at this
      exact this
    · have b2 := (Bool.not_eq_false' _).mp b2
      walk_at "go"
      refine wp_eq i0' ?_
      walk_at "go"
      refine lc_out (z := abc) o0 (fun v => rfl) ?_
      walk_at "go"
      refine wO (ne_of_eq (cmp_out o0 (at_keep at_snoc) at_snoc)) ?_
      walk_at "go"
      refine wB (fun b3 => ?_) fun b3 => ?_
      · have b3 := (Bool.not_eq_true' _).mp b3
        walk_at "go"
        rw [List.append_assoc]
        exact fin2 false _ (by rw [bad (by rw [en, b1, b2, b3]; rfl)])
      · have b3 := (Bool.not_eq_false' _).mp b3
        have hn : isName p0 = true := by rw [en, b1, b2, b3]; rfl
        rw [List.append_assoc]
        obtain ⟨L, hL⟩ : ∃ L, L = [Ob.lst ((outOf abc p0).map VV.str)] ++ [Ob.lst []] := ⟨_, rfl⟩
        rw [← hL]
        have hb := body_ok oh
        -- the body, then the rest
        have rest : (exs (envP PK n) (tailS 4 b__law_is_output_word) [some (.str s), some (.ref h.length), some (.str head), some (.str (bodyS head)), none] (H ++ L)).wp (endQ false h.length (fun b' h' => b' = VV.bl (readOut s).isSome ∧ h' = h) fun _ _ _ _ => False) (endX h.length (fun b' h' => b' = VV.bl (readOut s).isSome ∧ h' = h) fun _ _ _ _ => False) := by
          unfold b__law_is_output_word
          simp only [tailS]
          walk_at "go"
          have e5 : bfnS .len [.ref h.length] (H ++ L) = .ok (.int ((ps.map VV.str).length : Int)) (H ++ L) := (SeqV.ref (at_keep k1)).len
          rw [List.length_map] at e5
          refine wp_eq e5 ?_
          refine we_cst' ?_
          refine wO eq_int (wTru ?_)
          rcases er with ⟨r1, r2⟩ | ⟨r1, r2⟩
          · refine wBt (by rw [r1]; rfl) ?_
            walk_at "go"
            exact fin2 true L (by rw [r2, hn]; rfl)
          · refine wBf (by rw [beq_eq_false_iff_ne]; omega) ?_
            have ce := canS_eq head
            have hd : (readOut s).isSome = canS head := by rw [r2, hn]; rfl
            walk_at "go"
            refine wp_eq (len_str hb.len) ?_
            have f1 : decide (1 ≤ ((bodyS head).length : Int)) = !(bodyS head == ("" : Str)) := by
              rw [str_beq]
              have : tl ("" : Str) = [] := by decide
              rw [this, TL.len_tl]
              cases tl (bodyS head) with
              | nil => rfl
              | cons a r =>
                rw [decide_eq_true (by simp; omega)]
                rfl
            have f2 : decide (((bodyS head).length : Int) ≤ 4000) = !decide (4000 < ((bodyS head).length : Int)) := by
              by_cases q : ((bodyS head).length : Int) ≤ 4000
              · rw [decide_eq_true q, decide_eq_false (by omega)]; rfl
              · rw [decide_eq_false q, decide_eq_true (by omega)]; rfl
            refine wO le_int ?_
            rw [f1]
            refine wB (fun c1 => ?_) fun c1 => ?_
            · walk_at "go"
              refine wO le_int ?_
              rw [f2]
              refine wTru ?_
              refine wB (fun c2 => ?_) fun c2 => ?_
              · walk_at "go"
                refine lc_out (z := digs) hb (fun v => rfl) ?_
                walk_at "go"
                refine wO (cmp_out hb (at_keep at_snoc) at_snoc) ?_
                refine wTru ?_
                have h6 : ∀ l3 : VH, H ++ L ++ l3 = H ++ (L ++ l3) := fun l3 => List.append_assoc _ _ _
                rw [List.append_assoc, h6]
                refine wB (fun c3 => ?_) fun c3 => ?_
                · obtain ⟨c0, r0, er0⟩ : ∃ c0 r0, tl (bodyS head) = c0 :: r0 := by
                    cases q : tl (bodyS head) with
                    | nil =>
                      have : bodyS head = ("" : Str) := TL.ext_tl (by rw [q]; decide)
                      rw [this] at c1
                      exact absurd c1 (by decide +kernel)
                    | cons a r => exact ⟨a, r, rfl⟩
                  have st : Txt.startswith (bodyS head) ("0" : Str) = (c0 == 48) := by
                    rw [show ("0" : Str) = ⟨#[48]⟩ from by decide, start_one, er0]
                    rfl
                  have ok0 : PyData.strOk ⟨#[c0]⟩ = true := ok_chr hb.1 c0 (by rw [show (bodyS head).cps.toList = c0 :: r0 from er0]; exact List.mem_cons_self)
                  have e0 : ((⟨#[c0]⟩ : Str) == ("0" : Str)) = (c0 == 48) := by
                    rw [str_beq]
                    have : tl ("0" : Str) = [48] := by decide
                    rw [this]
                    show ([c0] == [48]) = _
                    simp
                  walk_at "go"
                  refine wp_eq (idx_chr hb.len er0) ?_
                  walk_at "go"
                  refine wO (ne_of_eq (eq_str ok0 (by decide +kernel))) (wTru ?_)
                  rw [e0]
                  refine wB (fun c4 => ?_) fun c4 => ?_
                  · walk_at "go"
                    have c4' := (Bool.not_eq_true' _).mp c4
                    refine fin2 _ _ ?_
                    rw [hd, ce, c1, c2, c3, st, c4']
                    rfl
                  · walk_at "go"
                    have c4' := (Bool.not_eq_false' _).mp c4
                    refine wO (eq_str oh.1 (by decide +kernel)) ?_
                    walk_at "go"
                    refine fin2 _ _ ?_
                    rw [hd, ce, c1, c2, c3, st, c4']
                    cases head == ("0" : Str) <;> rfl
                · walk_at "go"
                  refine fin2 _ _ ?_
                  rw [hd, ce, c1, c2, c3]
                  rfl
              · walk_at "go"
                refine fin2 _ _ ?_
                rw [hd, ce, c1, c2]
                rfl
            · refine wTru ?_
              walk_at "go"
              refine fin2 _ _ ?_
              rw [hd, ce, c1]
              rfl
        have sb : (cutS head none (some 1) == ("-" : Str)) = Txt.startswith head ("-" : Str) := by
          rw [show ("-" : Str) = ⟨#[45]⟩ from by decide, start_one, str_beq, cut_to1]
          show ((tl head).take 1 == [45]) = _
          cases tl head with
          | nil => rfl
          | cons a r => simp
        have okc : PyData.strOk (cutS head none (some 1)) = true := by
          have := oh.1
          unfold PyData.strOk at this ⊢
          rw [← Array.all_toList] at this ⊢
          rw [show (cutS head none (some 1)).cps.toList = (tl head).take 1 from cut_to1]
          exact List.all_eq_true.mpr fun c hc => List.all_eq_true.mp this c (List.mem_of_mem_take hc)
        walk_at "go"
        refine wp_eq (slc_to1 oh.len) ?_
        walk_at "go"
        refine wO (eq_str okc (by decide +kernel)) (wTru ?_)
        rw [sb]
        refine wB (fun b4 => ?_) fun b4 => ?_
        · have eb : bodyS head = cutS head (some 1) none := if_pos b4
          walk_at "go"
          refine wp_eq (slc_one oh.len) ?_
          rw [← eb]
          refine nxtN rfl ?_
          exact rest
        · have eb : bodyS head = head := if_neg (by rw [b4]; exact Bool.false_ne_true)
          rw [eb] at rest
          refine we_var' (wSlot rfl ?_)
          refine nxtN rfl ?_
          exact rest
  · walk_at "go"
    have := fin2 false [] (by rw [bad (by rw [en, b1]; rfl)])
    rw [List.append_nil] at this
    exact this
end K82
end Mini
end
section
set_option Elab.async false
set_option linter.all false
set_option maxRecDepth 100000
set_option maxHeartbeats 2000000
/-! Plain, part 20 (k82): the first fault; hearing. -/
namespace Mini
open PySem L2
local macro_rules | `(tactic| walk_at "go1") => `(tactic| first
  | with_reducible apply wxs_cons'
  | with_reducible apply wxs_nil'
  | ((with_reducible apply nxtN); focus (first | (simp only [List.set_cons_zero, List.set_cons_succ]; done) | (simp only [List.set_cons_zero, List.set_cons_succ]; exact rfl) | exact rfl))
  | with_reducible apply nxt_rt'
  | with_reducible apply nxt_bk'
  | with_reducible apply nxt_ct'
  | with_reducible apply we_var'
  | with_reducible apply we_cst'
  | with_reducible apply ws_cons'
  | with_reducible apply ws_nil'
  | ((with_reducible apply wSlot); exact rfl)
  | with_reducible apply we_fcl'
  | with_reducible apply we_cmp'
  | with_reducible apply we_idx'
  | with_reducible apply we_bin'
  | with_reducible apply wt_val'
  | with_reducible apply we_tup'
  | with_reducible apply we_lst'
  | with_reducible apply we_bcl'
  | with_reducible apply wx_set'
  | with_reducible apply wx_ret'
  | with_reducible apply wx_ife'
  | with_reducible apply wx_exp'
  | with_reducible apply wx_unp'
  | with_reducible apply wx_par'
  | with_reducible apply wx_sub'
  | with_reducible apply wx_rse'
  | with_reducible apply wx_brk'
  | with_reducible apply wx_cnt'
  | with_reducible apply wx_for'
  | with_reducible apply we_and'
  | with_reducible apply we_or'
  | with_reducible apply we_not'
  | with_reducible apply we_ife'
  | with_reducible apply we_neg'
  | with_reducible apply we_chn'
  | with_reducible apply we_dct'
  | with_reducible apply we_slc'
  | with_reducible apply we_att'
  | with_reducible apply we_isi'
  | with_reducible apply we_mcl'
  | with_reducible apply we_lc'
  | with_reducible apply we_fst'
  | with_reducible apply wf_nil'
  | with_reducible apply wf_cons'
  | with_reducible apply wt_yes'
  | with_reducible apply wt_and'
  | with_reducible apply wt_or'
  | with_reducible apply wt_not'
  | with_reducible apply endQ_rt'
  | with_reducible apply endQ_nx'
  | with_reducible apply wpB_t'
  | with_reducible apply wpB_f'
  | with_reducible apply wpB_nt'
  | with_reducible apply wpB_nf'
  | (with_reducible apply wTru)
  | ((with_reducible apply wBt); with_reducible assumption)
  | ((with_reducible apply wBf); with_reducible assumption)
  | ((with_reducible apply wGle); exact rfl)
  | ((with_reducible apply wGrs); exact rfl) | ((with_reducible apply wGrc); assumption)
  | ((with_reducible apply wGdc); exact rfl; exact rfl)
  | ((with_reducible apply wGeq); exact rfl)
  | ((with_reducible apply wOpt); exact rfl)
  | ((with_reducible apply wTup); exact rfl)
  | ((with_reducible apply wUnp); exact rfl)
  | ((with_reducible apply wTg); exact rfl)
  | ((with_reducible apply wNeg); exact rfl)
  | ((with_reducible apply wBop); exact rfl)
  | ((with_reducible apply wIsi (b := true)); (first | exact rfl | assumption); (first | exact rfl | assumption); focus (simp only [List.any_cons, List.any_nil, isTy, String.reduceBEq, String.reduceEq, beq_self_eq_true, Bool.and_false, Bool.false_and, Bool.or_false, Bool.false_or, Bool.or_true, Bool.true_or, Bool.and_self, Bool.or_self, Bool.true_and]; done))
  | ((with_reducible apply wIsi (b := false)); (first | exact rfl | assumption); (first | exact rfl | assumption); focus (simp only [List.any_cons, List.any_nil, isTy, String.reduceBEq, String.reduceEq, beq_self_eq_true, Bool.and_false, Bool.false_and, Bool.or_false, Bool.false_or, Bool.or_true, Bool.true_or, Bool.and_self, Bool.or_self, Bool.true_and]; done)))
local macro_rules | `(tactic| walk_at "go") => `(tactic| (repeat walk_at "go1"))
/-- a comprehension with the count in front, over a list's cell -/
theorem lcC_cnt {α : Type} {F : VV → VH → Rs (Option VV)} {f : α → VV} {g : Nat → α → Option VV} {l : List α} {k : Nat} {h : VH} {Q : List VV → VH → Prop} {E : XP} (hk : h[k]? = some (.lst (l.map f))) (hl : l.length ≤ 100000) (hf : ∀ (i : Nat) (a : α), l[i]? = some a → F (.tup [.int (i : Int), f a]) h = .ok (g i a) h)
    (q : Q (l.zipIdx.filterMap fun p => g p.2 p.1) h) : (lcW F (.cell k true) h).wp Q E := by
  have hc : cellAt h k = some (l.map f) := by unfold cellAt; rw [hk]
  unfold lcW
  dsimp only
  rw [hc]
  refine lcC_inv (fun pre post acc h' => h' = h ∧ ∃ a b, l = a ++ b ∧ pre = a.map f ∧ post = b.map f ∧ acc = a.zipIdx.filterMap fun p => g p.2 p.1) (l.map f) [] [] _ h rfl ⟨rfl, [], l, rfl, rfl, rfl, rfl⟩ (fun pre x post acc h' ⟨e1, a, b, e2, e3, e4, e5⟩ => ?_) (fun pre post acc h' ⟨e1, a, b, e2, e3, e4, e5⟩ => by rw [e1, hc, e3, e4, e2, List.map_append]) fun pre acc h' ⟨e1, a, b, e2, e3, e4, e5⟩ => ?_
  · subst e1
    cases b with
    | nil => cases e4
    | cons y b =>
      rw [List.map_cons] at e4
      injection e4 with e6 e7
      subst e6
      refine ⟨?_, ?_⟩
      · have h1 := List.length_filterMap_le (fun p : α × Nat => g p.2 p.1) a.zipIdx
        have h2 := congrArg List.length e2
        rw [e5]
        simp at h2 h1
        omega
      · have el : pre.length = a.length := by rw [e3, List.length_map]
        have ey : l[a.length]? = some y := by simp [e2]
        show (F (.tup [.int (pre.length : Int), f y]) h').wp _ _
        rw [el, hf a.length y ey]
        refine ⟨rfl, a ++ [y], b, by rw [e2]; simp, by rw [e3]; simp, e7, ?_⟩
        rw [List.zipIdx_append, List.filterMap_append, e5]
        cases e : g a.length y <;> simp [e]
  · subst e1
    have : b = [] := List.map_eq_nil_iff.mp e4.symm
    subst this
    rw [List.append_nil] at e2
    rw [e5, ← e2]
    exact q
theorem src_enum {h : VH} {k : Nat} {xs : List VV} (e : h[k]? = some (.lst xs)) : srcS .enum [.ref k] h = some (.cell k true) := by
  unfold srcS
  simp only [e]
theorem isn_non {x : VV} {h : VH} : copS .notN x .non h = some (!isNon x) := rfl
namespace K82
/-- the indexes of the words that are none, from i on -/
def badIx (i : Nat) : List Str → List Int
  | [] => []
  | w :: ws => if (readOut w).isSome = true then badIx (i + 1) ws else (i : Int) :: badIx (i + 1) ws
theorem badIx_eq : ∀ (i : Nat) (ws : List Str), (ws.zipIdx i).filterMap (fun p => if (readOut p.1).isSome = true then none else some (VV.int (p.2 : Int))) = (badIx i ws).map VV.int
  | i, [] => rfl
  | i, w :: ws => by
    rw [List.zipIdx_cons, List.filterMap_cons]
    unfold badIx
    by_cases e : (readOut w).isSome = true
    · simp only [e, if_true]
      exact badIx_eq (i + 1) ws
    · simp only [if_neg e]
      rw [badIx_eq (i + 1) ws]
      rfl
theorem badIx_good : ∀ {i : Nat} {ws : List Str}, (∀ w ∈ ws, (readOut w).isSome = true) → badIx i ws = []
  | i, [], _ => rfl
  | i, w :: ws, h => by
    unfold badIx
    rw [if_pos (h w List.mem_cons_self)]
    exact badIx_good fun x hx => h x (List.mem_cons_of_mem _ hx)
theorem badIx_first : ∀ {i : Nat} {pre : List Str} {w : Str} {post : List Str}, (∀ w ∈ pre, (readOut w).isSome = true) → readOut w = none → ∃ r, badIx i (pre ++ w :: post) = ((i + pre.length : Nat) : Int) :: r
  | i, [], w, post, _, hw => by
    show ∃ r, badIx i (w :: post) = _
    unfold badIx
    rw [if_neg (by rw [hw]; exact Bool.false_ne_true)]
    exact ⟨_, rfl⟩
  | i, p :: pre, w, post, h, hw => by
    show ∃ r, badIx i (p :: (pre ++ w :: post)) = _
    unfold badIx
    rw [if_pos (h p List.mem_cons_self)]
    obtain ⟨r, e⟩ := badIx_first (i := i + 1) (pre := pre) (w := w) (post := post) (fun x hx => h x (List.mem_cons_of_mem _ hx)) hw
    exact ⟨r, by rw [e, List.length_cons]; congr 1; omega⟩
/-- what law_fault answers -/
def faultV (ws : List Str) : VV := match ws with
  | [] => .non
  | w :: r => if (w == ("-" : Str)) = true then (if r.isEmpty = true then .non else .int 1) else match badIx 0 (w :: r) with
    | [] => .non
    | i :: _ => .int i
theorem fault_ok {n : Nat} {h : VH} {kw : Nat} {w0 : Str} {ws : List Str} (hk : h[kw]? = some (.lst ((w0 :: ws).map VV.str))) (hl : ws.length ≤ 1000) (ok : ∀ w ∈ w0 :: ws, Ok w) (c : Clo h) : run PK (n + 2) 19 noCl (some [.ref kw]) h = .ok (faultV (w0 :: ws)) h := by
  refine eq_wp (run_wp rfl rfl ?_)
  show (exs (envP PK (n + 1)) b__law_fault [some (.ref kw), none, none, none] h).wp _ _
  unfold b__law_fault
  walk_at "go"
  refine wp_eq ((SeqV.ref hk).idx (x := .str w0) (atI_nat (j := 0) rfl)) ?_
  walk_at "go"
  refine wO (eq_str (ok w0 List.mem_cons_self).1 (by decide +kernel)) (wTru ?_)
  refine wB (fun b1 => ?_) fun b1 => ?_
  · walk_at "go"
    have el : bfnS .len [.ref kw] h = .ok (.int ((ws.length + 1 : Nat) : Int)) h := by
      have := (SeqV.ref hk).len
      rwa [List.length_map, List.length_cons] at this
    refine wp_eq el ?_
    walk_at "go"
    refine wO (show copS .gt (.int ((ws.length + 1 : Nat) : Int)) (.int 1) h = some (decide ((1 : Int) < ((ws.length + 1 : Nat) : Int))) from rfl) (wTru ?_)
    have ef : faultV (w0 :: ws) = if ws.isEmpty = true then .non else .int 1 := if_pos b1
    cases ws with
    | nil =>
      refine wBf (by decide) ?_
      walk_at "go"
      exact fin_wp0 (m := 1) rfl c rfl (by decide) ⟨by rw [ef]; rfl, rfl⟩
    | cons a r =>
      refine wBt (decide_eq_true (by rw [List.length_cons]; omega)) ?_
      walk_at "go"
      exact fin_wp0 (m := 1) rfl c rfl (by decide) ⟨by rw [ef]; rfl, rfl⟩
  · have ef : faultV (w0 :: ws) = (match badIx 0 (w0 :: ws) with
        | [] => VV.non
        | i :: _ => .int i) := if_neg (by rw [b1]; exact Bool.false_ne_true)
    walk_at "go"
    refine wO (src_enum hk) ?_
    refine lcC_cnt (f := VV.str) (g := fun i w => if (readOut w).isSome = true then none else some (.int (i : Int))) hk (by rw [List.length_cons]; omega) (fun i w hw => ?_) ?_
    · refine eq_wp ?_
      rw [wp_lcF]
      refine wTg rfl ?_
      have hm : w ∈ w0 :: ws := List.mem_of_getElem? hw
      refine wt_not' (wt_val' (we_fcl' (ws_cons' (we_var' (wSlot rfl (ws_nil' ?_))))))
      refine wp_eq (iow_ok (n := n) (ok w hm) c) (wTru ?_)
      by_cases e : (readOut w).isSome = true
      · rw [e, if_pos rfl]
        exact ⟨rfl, rfl⟩
      · rw [if_neg e]
        rw [Bool.not_eq_true] at e
        rw [e]
        refine wpB_nf' ?_
        exact we_var' (wSlot rfl ⟨rfl, rfl⟩)
    · rw [badIx_eq]
      walk_at "go"
      refine wO (ne_of_eq (eq_nil (ds := (badIx 0 (w0 :: ws)).map PyData.int) (dat_ref (at_keep at_snoc) (dat_ints (n := 6) _)) at_snoc lay_ints (by rw [dep_ints]; decide))) (wTru ?_)
      cases e : badIx 0 (w0 :: ws) with
      | nil =>
        rw [e] at ef
        refine wBf rfl ?_
        walk_at "go"
        rw [List.append_assoc]
        exact fin_wp rfl c (frz_tr (n := 30) rfl) ⟨by rw [ef], rfl⟩
      | cons i r =>
        rw [e] at ef
        refine wBt rfl ?_
        walk_at "go"
        refine wp_eq ((SeqV.ref (at_keep at_snoc)).idx (x := .int i) (atI_nat (j := 0) rfl)) ?_
        walk_at "go"
        rw [List.append_assoc]
        exact fin_wp rfl c (frz_tr (n := 30) rfl) ⟨by rw [ef], rfl⟩
/-! ### hearing -/
theorem runL_wp {P : Prog} {n g sl : Nat} {b : Ss} {cl : (Nat → List VV → VH → Rs VV) → VH → Rs VV} {h : VH} {Q : VV → VH → Prop} {E : XP} (hF : P.fns[g]? = some ⟨1, sl, false, b⟩) (w : (exs ⟨fun g xs h => run P n g noCl (some xs) h, fun g cl h => run P n g cl none h, cl, P.sub, P.flds, P.cls⟩ b (startS ⟨1, sl, false, b⟩ [.lam]) h).wp (endQ false h.length Q E) (endX h.length Q E)) : (run P (n + 1) g cl none h).wp Q E := by
  unfold run
  rw [hF]
  dsimp only
  rw [if_pos ⟨rfl, rfl⟩]
  exact leave_wp w
theorem we_ask' {N : Env'} {i : Nat} {σ : Sl} {h : VH} {Q : VV → VH → Prop} {E : XP} (e : slotV σ i = some .lam) (q : (N.cl N.fn h).wp Q E) : (ev N (.ask i) σ h).wp Q E := by
  unfold ev
  unfold slotV at e
  cases hs : σ[i]? with
  | none => rw [hs] at e; cases e
  | some o =>
    rw [hs] at e
    cases o with
    | none => cases e
    | some v =>
      have e : v = .lam := by cases e; rfl
      subst e
      exact q
/-- what heard makes of a call's end -/
def HeardE (k c m : Nat) (h : VH) (Q : VV → VH → Prop) : XP := fun d ns vs h' => PenG k c m h h' ∧
  ((d = 2 ∧ ns = [("line" : Str), "word"] ∧ ∃ a b, vs = [a, b] ∧ tr 1 a = true ∧ tr 1 b = true ∧ ∀ h1, Pen h1 k c m → Clo h1 → Upd k h h1 → Q (.tup [.str "text", a, b]) h1) ∨
   (d = 1 ∧ ns = [("at" : Str)] ∧ ∃ a, vs = [a] ∧ tr 1 a = true ∧ ∀ h1, Pen h1 k c m → Clo h1 → Upd k h h1 → Q (.tup [.str "row", a]) h1))
theorem heard_wp {n : Nat} {k c m : Nat} {cl : (Nat → List VV → VH → Rs VV) → VH → Rs VV} {h : VH} {Q : VV → VH → Prop} {E : XP} (P : Pen h k c m) (C : Clo h)
    (w : (cl (fun g xs h => run PK n g noCl (some xs) h) h).wp (fun v h' => PenG k c m h h' ∧ tr 8 v = true ∧ ∀ h1, Pen h1 k c m → Clo h1 → Upd k h h1 → Q (.lst [v]) h1) (HeardE k c m h Q)) : (run PK (n + 1) 20 cl none h).wp Q E := by
  have k0 : k < h.length := P.upd_lt
  have c0 : c < h.length := P.lt
  refine runL_wp rfl ?_
  show (exs _ b__law_heard [some .lam, none, none, none] h).wp _ _
  unfold b__law_heard
  walk_at "go"
  refine wx_try' (we_ask' rfl ?_)
  have fin3 : ∀ (v : VV) (h' : VH), PenG k c m h h' → tr 9 v = true → (∀ h1, Pen h1 k c m → Clo h1 → Upd k h h1 → Q v h1) → (fin false h.length v h').wp Q E := fun v h' G ht q => by
    obtain ⟨h9, l9, e9, u9, P9, C9⟩ := grow_fin G.grow G.pen k0 c0 C
    rw [e9]
    exact fin_wp u9.len C9 (frz_tr (tr_le ht (by decide))) (q h9 P9 C9 u9)
  refine w.mono (fun v h' ⟨G, ht, q⟩ => ?_) fun d ns vs h' ⟨G, q⟩ => ?_
  · refine nxtN rfl ?_
    walk_at "go"
    refine wO is_non (wTru ?_)
    refine wBt rfl ?_
    walk_at "go"
    have fz : frz h.length 30 (h' ++ [Ob.lst [v]]) (.ref h'.length) = some (.lst [v]) := frz_cell (j := 8) G.grow.len at_snoc (fun x hx => by rw [List.mem_singleton.mp hx]; exact ht) (by decide)
    have G2 := G.lst (xs := [v]) (n := 8) (fun x hx => by rw [List.mem_singleton.mp hx]; exact ht)
    obtain ⟨h9, l9, e9, u9, P9, C9⟩ := grow_fin G2.grow G2.pen k0 c0 C
    rw [e9] at fz ⊢
    exact fin_wp u9.len C9 fz (q h9 P9 C9 u9)
  · rcases q with ⟨rfl, rfl, a, b, rfl, ta, tb, q⟩ | ⟨rfl, rfl, a, rfl, ta, q⟩
    · refine wG rfl (wBt rfl ?_)
      refine nxtN rfl ?_
      walk_at "go"
      refine wO is_non (wTru ?_)
      refine wBf rfl ?_
      walk_at "go"
      refine wIsi (b := true) (t := .cls 2) rfl rfl rfl ?_
      walk_at "go"
      refine wp_eq (b := a) (h := h') rfl ?_
      walk_at "go"
      refine wp_eq (b := b) (h := h') rfl ?_
      walk_at "go"
      refine fin3 _ h' G ?_ q
      show trL 8 [.str "text", a, b] = true
      rw [trL_all]
      intro x hx
      simp only [List.mem_cons, List.not_mem_nil, or_false] at hx
      rcases hx with rfl | rfl | rfl
      · rfl
      · exact tr_le ta (by decide)
      · exact tr_le tb (by decide)
    · refine wG rfl (wBt rfl ?_)
      refine nxtN rfl ?_
      walk_at "go"
      refine wO is_non (wTru ?_)
      refine wBf rfl ?_
      walk_at "go"
      refine wIsi (b := false) (t := .cls 1) rfl rfl rfl ?_
      walk_at "go"
      refine wIsi (b := true) (t := .cls 1) rfl rfl rfl ?_
      walk_at "go"
      refine wp_eq (b := a) (h := h') rfl ?_
      walk_at "go"
      refine fin3 _ h' G ?_ q
      show trL 8 [.str "row", a] = true
      rw [trL_all]
      intro x hx
      simp only [List.mem_cons, List.not_mem_nil, or_false] at hx
      rcases hx with rfl | rfl
      · rfl
      · exact tr_le ta (by decide)
end K82
end Mini
end
section
set_option Elab.async false
set_option linter.all false
set_option maxRecDepth 100000
set_option maxHeartbeats 2000000
/-! Plain, part 21 (k82): texts of good outputs. -/
namespace Mini
open PySem L2
open TL (tl)
local macro_rules | `(tactic| walk_at "go1") => `(tactic| first
  | with_reducible apply wxs_cons'
  | with_reducible apply wxs_nil'
  | ((with_reducible apply nxtN); focus (first | (simp only [List.set_cons_zero, List.set_cons_succ]; done) | (simp only [List.set_cons_zero, List.set_cons_succ]; exact rfl) | exact rfl))
  | with_reducible apply nxt_rt'
  | with_reducible apply nxt_bk'
  | with_reducible apply nxt_ct'
  | with_reducible apply we_var'
  | with_reducible apply we_cst'
  | with_reducible apply ws_cons'
  | with_reducible apply ws_nil'
  | ((with_reducible apply wSlot); exact rfl)
  | with_reducible apply we_fcl'
  | with_reducible apply we_cmp'
  | with_reducible apply we_idx'
  | with_reducible apply we_bin'
  | with_reducible apply wt_val'
  | with_reducible apply we_tup'
  | with_reducible apply we_lst'
  | with_reducible apply we_bcl'
  | with_reducible apply wx_set'
  | with_reducible apply wx_ret'
  | with_reducible apply wx_ife'
  | with_reducible apply wx_exp'
  | with_reducible apply wx_unp'
  | with_reducible apply wx_par'
  | with_reducible apply wx_sub'
  | with_reducible apply wx_rse'
  | with_reducible apply wx_brk'
  | with_reducible apply wx_cnt'
  | with_reducible apply wx_for'
  | with_reducible apply we_and'
  | with_reducible apply we_or'
  | with_reducible apply we_not'
  | with_reducible apply we_ife'
  | with_reducible apply we_neg'
  | with_reducible apply we_chn'
  | with_reducible apply we_dct'
  | with_reducible apply we_slc'
  | with_reducible apply we_att'
  | with_reducible apply we_isi'
  | with_reducible apply we_mcl'
  | with_reducible apply we_lc'
  | with_reducible apply we_fst'
  | with_reducible apply wf_nil'
  | with_reducible apply wf_cons'
  | with_reducible apply wt_yes'
  | with_reducible apply wt_and'
  | with_reducible apply wt_or'
  | with_reducible apply wt_not'
  | with_reducible apply endQ_rt'
  | with_reducible apply endQ_nx'
  | with_reducible apply wpB_t'
  | with_reducible apply wpB_f'
  | with_reducible apply wpB_nt'
  | with_reducible apply wpB_nf'
  | (with_reducible apply wTru)
  | ((with_reducible apply wBt); with_reducible assumption)
  | ((with_reducible apply wBf); with_reducible assumption)
  | ((with_reducible apply wGle); exact rfl)
  | ((with_reducible apply wGrs); exact rfl) | ((with_reducible apply wGrc); assumption)
  | ((with_reducible apply wGdc); exact rfl; exact rfl)
  | ((with_reducible apply wGeq); exact rfl)
  | ((with_reducible apply wOpt); exact rfl)
  | ((with_reducible apply wTup); exact rfl)
  | ((with_reducible apply wUnp); exact rfl)
  | ((with_reducible apply wTg); exact rfl)
  | ((with_reducible apply wNeg); exact rfl)
  | ((with_reducible apply wBop); exact rfl)
  | ((with_reducible apply wIsi (b := true)); (first | exact rfl | assumption); (first | exact rfl | assumption); focus (simp only [List.any_cons, List.any_nil, isTy, String.reduceBEq, String.reduceEq, beq_self_eq_true, Bool.and_false, Bool.false_and, Bool.or_false, Bool.false_or, Bool.or_true, Bool.true_or, Bool.and_self, Bool.or_self, Bool.true_and]; done))
  | ((with_reducible apply wIsi (b := false)); (first | exact rfl | assumption); (first | exact rfl | assumption); focus (simp only [List.any_cons, List.any_nil, isTy, String.reduceBEq, String.reduceEq, beq_self_eq_true, Bool.and_false, Bool.false_and, Bool.or_false, Bool.false_or, Bool.or_true, Bool.true_or, Bool.and_self, Bool.or_self, Bool.true_and]; done)))
local macro_rules | `(tactic| walk_at "go") => `(tactic| (repeat walk_at "go1"))
def Asc (s : Str) : Prop := ∀ c ∈ tl s, c < 128
theorem Asc.ok {s : Str} (h : Asc s) : PyData.strOk s = true := by
  unfold PyData.strOk
  rw [← Array.all_toList]
  exact List.all_eq_true.mpr fun c hc => by
    have := h c hc
    simp
    omega
theorem Asc.app {a b : Str} (h1 : Asc a) (h2 : Asc b) : Asc (a ++ b) := fun c hc => by
  rw [TL.tl_append] at hc
  rcases List.mem_append.mp hc with h | h
  · exact h1 c h
  · exact h2 c h
theorem asc_join {y : Str} (hy : Asc y) : ∀ {ps : List Str}, (∀ p ∈ ps, Asc p) → Asc (Str.join y ps)
  | [], _ => fun c hc => (nomatch hc)
  | [p], h => h p List.mem_cons_self
  | p :: q :: r, h => (Asc.app (h p List.mem_cons_self) hy).app (asc_join hy fun x hx => h x (List.mem_cons_of_mem _ hx))
theorem asc_lit {s : Str} (h : (s.cps.toList.all fun c => decide (c < 128)) = true) : Asc s := fun c hc => by
  have := List.all_eq_true.mp h c hc
  simpa using this
theorem tl_toS (n : Int) : (0 ≤ n ∧ tl (Str.ofString (toString n)) = TL.numL n.natAbs) ∨ (n < 0 ∧ 0 < n.natAbs ∧ tl (Str.ofString (toString n)) = 45 :: TL.numL n.natAbs) := by
  rcases Int.natAbs_eq n with e | e
  · exact .inl ⟨by omega, by
      generalize hk : n.natAbs = k at *
      rw [e, toS_nat]⟩
  · by_cases h0 : n.natAbs = 0
    · refine .inl ⟨by omega, ?_⟩
      have : n = 0 := by omega
      subst this
      rfl
    · refine .inr ⟨by omega, by omega, ?_⟩
      generalize hk : n.natAbs = k at *
      rw [e, toS_neg _ (by omega)]
theorem asc_toS (n : Int) : Asc (Str.ofString (toString n)) := fun c hc => by
  rcases tl_toS n with ⟨_, e⟩ | ⟨_, _, e⟩
  · rw [e] at hc
    have := TL.numL_digits _ c hc
    omega
  · rw [e] at hc
    rcases List.mem_cons.mp hc with rfl | hc
    · decide
    · have := TL.numL_digits _ c hc
      omega
theorem int_toS {n : Int} (h : n.natAbs < 10 ^ 4000) : intText? (Str.ofString (toString n)) = some n := by
  have hl : (TL.numL n.natAbs).length ≤ 4000 := TL.numL_len (by decide) h
  rcases tl_toS n with ⟨h0, e⟩ | ⟨h0, hp, e⟩
  · have := intText_digits (x := Str.ofString (toString n)) (by rw [show (Str.ofString (toString n)).cps.toList = _ from e]; exact TL.numL_digits _) (by rw [show (Str.ofString (toString n)).cps.toList = _ from e]; exact TL.numL_ne _) (by rw [TL.len_tl, e]; omega)
    rw [this, show (Str.ofString (toString n)).cps.toList = _ from e, TL.numL_val]
    congr 1
    omega
  · have := intText_neg (x := Str.ofString (toString n)) (cs := TL.numL n.natAbs) e (TL.numL_digits _) (TL.numL_ne _) (by rw [TL.len_tl, e, List.length_cons]; omega)
    rw [this, TL.numL_val]
    congr 1
    omega
theorem rep_small : ∀ c < 128, ∀ q, q = 34 ∨ q = 39 → ((Builtin.Str.reprChar q c).all fun d => decide (d < 128)) = true := by
  have : ((List.range 128).all fun c => ((Builtin.Str.reprChar 34 c).all fun d => decide (d < 128)) && ((Builtin.Str.reprChar 39 c).all fun d => decide (d < 128))) = true := by decide +kernel
  intro c hc q hq
  have w := List.all_eq_true.mp this c (List.mem_range.mpr hc)
  rw [Bool.and_eq_true] at w
  rcases hq with rfl | rfl
  · exact w.1
  · exact w.2
theorem quote_two (x : Str) : reprQuote x = 34 ∨ reprQuote x = 39 := by
  unfold reprQuote
  split <;> simp
theorem asc_repr {s : Str} (h : Asc s) : Asc (reprText s) := by
  have hq := quote_two s
  have hq2 : reprQuote s < 128 := by omega
  have key : ∀ (l : List Nat) (acc : Array Nat), (∀ c ∈ l, c < 128) → (∀ c ∈ acc.toList, c < 128) → ∀ c ∈ (l.foldl (fun out c => out ++ (Builtin.Str.reprChar (reprQuote s) c).toArray) acc).toList, c < 128 := by
    intro l
    induction l with
    | nil => intro acc _ ha; exact ha
    | cons d l ih =>
      intro acc hl ha
      refine ih _ (fun c hc => hl c (List.mem_cons_of_mem _ hc)) fun c hc => ?_
      rw [Array.toList_append] at hc
      rcases List.mem_append.mp hc with hc | hc
      · exact ha c hc
      · have := List.all_eq_true.mp (rep_small d (hl d List.mem_cons_self) _ hq) c hc
        simpa using this
  intro c hc
  unfold reprText at hc
  have hc : c ∈ ((s.cps.foldl (fun out c => out ++ (Builtin.Str.reprChar (reprQuote s) c).toArray) #[reprQuote s]).push (reprQuote s)).toList := hc
  rw [Array.toList_push, ← Array.foldl_toList] at hc
  rcases List.mem_append.mp hc with hc | hc
  · refine key s.cps.toList _ h (fun c hc => ?_) c hc
    have : c = reprQuote s := by simpa using hc
    omega
  · rw [List.mem_singleton.mp hc]
    exact hq2
namespace K82
theorem name_chr {w : Str} (h : isName w = true) : (∀ c ∈ tl w, 97 ≤ c ∧ c ≤ 122) ∧ 1 ≤ (tl w).length ∧ (tl w).length ≤ 8 := by
  unfold isName at h
  simp only [Bool.and_eq_true, Bool.not_eq_true', decide_eq_false_iff_not, List.all_eq_true, decide_eq_true_eq] at h
  obtain ⟨h1, h2, h3⟩ := h
  refine ⟨fun c hc => ?_, ?_, ?_⟩
  · have := h3 c hc
    have e : abc.cps.toList = (List.range 26).map (· + 97) := by decide +kernel
    rw [e] at this
    obtain ⟨i, hi, rfl⟩ := List.mem_map.mp this
    have := List.mem_range.mp hi
    omega
  · rw [str_beq, show tl ("" : Str) = [] from by decide] at h1
    cases hs : tl w with
    | nil => rw [hs] at h1; cases h1
    | cons a r => simp
  · rw [TL.len_tl] at h2
    omega
/-- an output with a name and a number that can be told -/
structure GoodO (o : Out) : Prop where
  nm : isName o.1 = true
  num : ∀ n, o.2 = some n → n.natAbs ≤ 10 ^ 40
section
variable {o : Out} (g : GoodO o)
include g
theorem GoodO.asc1 : Asc o.1 := fun c hc => by
  have := (name_chr g.nm).1 c hc
  omega
theorem GoodO.num_len {n : Int} (e : o.2 = some n) : (tl (Str.ofString (toString n))).length ≤ 42 := by
  have h := g.num n e
  have hl : (TL.numL n.natAbs).length ≤ 41 := TL.numL_len (by decide) (Nat.lt_of_le_of_lt h (by decide +kernel))
  rcases tl_toS n with ⟨_, e⟩ | ⟨_, _, e⟩
  · rw [e]; omega
  · rw [e, List.length_cons]; omega
theorem GoodO.len : (outText o).length ≤ 51 := by
  have h1 := (name_chr g.nm).2.2
  obtain ⟨w, i⟩ := o
  cases i with
  | none =>
    show w.length ≤ 51
    rw [TL.len_tl]
    exact Nat.le_trans h1 (by decide)
  | some n =>
    have h2 := g.num_len rfl
    show (w ++ ("=" : Str) ++ Str.ofString (toString n)).length ≤ 51
    rw [TL.len_tl, TL.tl_append, TL.tl_append, List.length_append, List.length_append]
    have h3 : (tl ("=" : Str)).length = 1 := by decide
    have h1 : (tl w).length ≤ 8 := h1
    rw [h3]
    omega
theorem GoodO.asc : Asc (outText o) := by
  have a1 := g.asc1
  obtain ⟨w, i⟩ := o
  cases i with
  | none => exact a1
  | some n => exact (a1.app (asc_lit (by decide +kernel))).app (asc_toS n)
theorem GoodO.ok : OutOk o := ⟨⟨g.asc1.ok, by rw [TL.len_tl]; have := (name_chr g.nm).2.2; omega⟩, fun n e => by
  have h := g.num n e
  by_cases h0 : n.natAbs = 0
  · rw [h0]; decide
  · exact (Nat.log2_lt h0).mpr (Nat.lt_of_le_of_lt h (by decide +kernel)), Nat.le_trans g.len (by decide)⟩
theorem GoodO.sp : 32 ∉ tl (outText o) := by
  have h1 := (name_chr g.nm).1
  obtain ⟨w, i⟩ := o
  have hw : 32 ∉ tl w := fun z => by
    have := h1 32 z
    omega
  cases i with
  | none => exact hw
  | some n =>
    show 32 ∉ tl (w ++ ("=" : Str) ++ Str.ofString (toString n))
    rw [TL.tl_append, TL.tl_append]
    intro z
    rcases List.mem_append.mp z with z | z
    · rcases List.mem_append.mp z with z | z
      · exact hw z
      · revert z; decide
    · rcases tl_toS n with ⟨_, e⟩ | ⟨_, _, e⟩
      · rw [e] at z
        have := TL.numL_digits _ 32 z
        omega
      · rw [e] at z
        rcases List.mem_cons.mp z with z | z
        · cases z
        · have := TL.numL_digits _ 32 z
          omega
theorem GoodO.read : readOut (outText o) = some o := by
  have h1 := name_chr g.nm
  have hnm := g.nm
  obtain ⟨w, i⟩ := o
  have hw : 61 ∉ tl w := fun z => by
    have := h1.1 61 z
    omega
  have e1 : tl eqC = 61 :: [] := by decide
  have hnm : isName w = true := hnm
  cases i with
  | none =>
    show readOut w = _
    unfold readOut
    rw [TL.partition_none e1 hw]
    dsimp only
    rw [if_pos hnm, if_pos (by decide +kernel)]
  | some n =>
    have hb := g.num n rfl
    have hlt : n.natAbs < 10 ^ 4000 := Nat.lt_of_le_of_lt hb (by decide +kernel)
    show readOut (w ++ eqC ++ Str.ofString (toString n)) = _
    unfold readOut
    rw [TL.partition_app e1 hw]
    dsimp only
    rw [if_pos hnm, if_neg (by decide +kernel), if_pos (show canS (Str.ofString (toString n)) = true from can_toS hlt), int_toS hlt]
theorem GoodO.dash : outText o ≠ ("-" : Str) := fun e => by
  have h1 := name_chr g.nm
  obtain ⟨w, i⟩ := o
  have ed : tl ("-" : Str) = [45] := by decide
  obtain ⟨a, r, ew⟩ : ∃ a r, tl w = a :: r := by
    have h2 : 1 ≤ (tl w).length := h1.2.1
    cases hw : tl w with
    | nil => rw [hw] at h2; cases h2
    | cons a r => exact ⟨a, r, rfl⟩
  have ha := h1.1 a (by rw [show tl w = a :: r from ew]; exact List.mem_cons_self)
  have e2 := congrArg tl e
  rw [ed] at e2
  cases i with
  | none =>
    have e2 : tl w = [45] := e2
    rw [ew] at e2
    injection e2 with e3
    omega
  | some n =>
    have e2 : tl (w ++ ("=" : Str) ++ Str.ofString (toString n)) = [45] := e2
    rw [TL.tl_append, TL.tl_append, ew] at e2
    injection e2 with e3
    omega
end
/-! rows of them -/
def GoodR (os : List Out) : Prop := (∀ o ∈ os, GoodO o) ∧ os.length ≤ 50
section
variable {os : List Out} (g : GoodR os)
include g
theorem GoodR.ok : RowOk os := ⟨fun o h => (g.1 o h).ok, by have := g.2; omega⟩
theorem GoodR.nm : ∀ o ∈ os, isName o.1 = true := fun o h => (g.1 o h).nm
theorem GoodR.asc : Asc (rowText os) := by
  unfold rowText
  split
  · exact asc_lit (by decide +kernel)
  · rw [TL.join_eq]
    refine asc_join (asc_lit (by decide +kernel)) fun p hp => ?_
    obtain ⟨o, ho, rfl⟩ := List.mem_map.mp hp
    exact (g.1 o ho).asc
theorem GoodR.len : (rowText os).length ≤ 3000 := by
  unfold rowText
  split
  · decide
  · rw [TL.join_eq]
    have h1 := StrLaws.join_length_le (" " : Str) (os.map outText)
    have h2 := sum_le (f := fun o => (outText o).length) (B := 51) (l := os) fun o ho => (g.1 o ho).len
    have h3 : (" " : Str).length = 1 := by decide
    rw [List.map_map, List.length_map, h3] at h1
    have h4 : (List.map ((fun x => x.length) ∘ outText) os).sum = (os.map fun o => (outText o).length).sum := rfl
    rw [h4] at h1
    have := g.2
    have h5 : os.length * 51 ≤ 50 * 51 := Nat.mul_le_mul_right _ this
    omega
theorem GoodR.okT : Ok (rowText os) := ⟨g.asc.ok, by have := g.len; omega⟩
def rowWords (os : List Out) : List Str := if os.isEmpty = true then [("-" : Str)] else os.map outText
theorem GoodR.words : Words (rowText os) (rowWords os) := by
  have e1 : tl spC = 32 :: [] := by decide
  cases os with
  | nil =>
    refine ⟨?_, fun w hw => ?_, by decide⟩
    · show Txt.split ("-" : Str) spC = [("-" : Str)]
      decide +kernel
    · rw [List.mem_singleton.mp hw]
      exact ⟨by decide +kernel, by decide⟩
  | cons o os =>
    refine ⟨?_, fun w hw => ?_, ?_⟩
    · show Txt.split (Txt.join spC ((o :: os).map outText)) spC = (o :: os).map outText
      refine TL.split_join e1 (by decide +kernel) (by simp) fun p hp => ?_
      obtain ⟨o', ho', rfl⟩ := List.mem_map.mp hp
      exact (g.1 o' ho').sp
    · obtain ⟨o', ho', rfl⟩ := List.mem_map.mp (show w ∈ (o :: os).map outText from hw)
      exact ⟨(g.1 o' ho').asc.ok, by have := (g.1 o' ho').len; omega⟩
    · show ((o :: os).map outText).length ≤ 1000
      rw [List.length_map]
      have := g.2
      omega
theorem GoodR.read : os.map (fun o => readOut (outText o)) = os.map some := List.map_congr_left fun o ho => (g.1 o ho).read
end
end K82
end Mini
end
section
set_option Elab.async false
set_option linter.all false
set_option maxRecDepth 100000
set_option maxHeartbeats 2000000
/-! Plain, part 22 (k82): the law's pen; what repr shows. -/
namespace Mini
open PySem L2
open TL (tl)
local macro_rules | `(tactic| walk_at "go1") => `(tactic| first
  | with_reducible apply wxs_cons'
  | with_reducible apply wxs_nil'
  | ((with_reducible apply nxtN); focus (first | (simp only [List.set_cons_zero, List.set_cons_succ]; done) | (simp only [List.set_cons_zero, List.set_cons_succ]; exact rfl) | exact rfl))
  | with_reducible apply nxt_rt'
  | with_reducible apply nxt_bk'
  | with_reducible apply nxt_ct'
  | with_reducible apply we_var'
  | with_reducible apply we_cst'
  | with_reducible apply ws_cons'
  | with_reducible apply ws_nil'
  | ((with_reducible apply wSlot); exact rfl)
  | with_reducible apply we_fcl'
  | with_reducible apply we_cmp'
  | with_reducible apply we_idx'
  | with_reducible apply we_bin'
  | with_reducible apply wt_val'
  | with_reducible apply we_tup'
  | with_reducible apply we_lst'
  | with_reducible apply we_bcl'
  | with_reducible apply wx_set'
  | with_reducible apply wx_ret'
  | with_reducible apply wx_ife'
  | with_reducible apply wx_exp'
  | with_reducible apply wx_unp'
  | with_reducible apply wx_par'
  | with_reducible apply wx_sub'
  | with_reducible apply wx_rse'
  | with_reducible apply wx_brk'
  | with_reducible apply wx_cnt'
  | with_reducible apply wx_for'
  | with_reducible apply we_and'
  | with_reducible apply we_or'
  | with_reducible apply we_not'
  | with_reducible apply we_ife'
  | with_reducible apply we_neg'
  | with_reducible apply we_chn'
  | with_reducible apply we_dct'
  | with_reducible apply we_slc'
  | with_reducible apply we_att'
  | with_reducible apply we_isi'
  | with_reducible apply we_mcl'
  | with_reducible apply we_lc'
  | with_reducible apply we_fst'
  | with_reducible apply wf_nil'
  | with_reducible apply wf_cons'
  | with_reducible apply wt_yes'
  | with_reducible apply wt_and'
  | with_reducible apply wt_or'
  | with_reducible apply wt_not'
  | with_reducible apply endQ_rt'
  | with_reducible apply endQ_nx'
  | with_reducible apply wpB_t'
  | with_reducible apply wpB_f'
  | with_reducible apply wpB_nt'
  | with_reducible apply wpB_nf'
  | (with_reducible apply wTru)
  | ((with_reducible apply wBt); with_reducible assumption)
  | ((with_reducible apply wBf); with_reducible assumption)
  | ((with_reducible apply wGle); exact rfl)
  | ((with_reducible apply wGrs); exact rfl) | ((with_reducible apply wGrc); assumption)
  | ((with_reducible apply wGdc); exact rfl; exact rfl)
  | ((with_reducible apply wGeq); exact rfl)
  | ((with_reducible apply wOpt); exact rfl)
  | ((with_reducible apply wTup); exact rfl)
  | ((with_reducible apply wUnp); exact rfl)
  | ((with_reducible apply wTg); exact rfl)
  | ((with_reducible apply wNeg); exact rfl)
  | ((with_reducible apply wBop); exact rfl)
  | ((with_reducible apply wIsi (b := true)); (first | exact rfl | assumption); (first | exact rfl | assumption); focus (simp only [List.any_cons, List.any_nil, isTy, String.reduceBEq, String.reduceEq, beq_self_eq_true, Bool.and_false, Bool.false_and, Bool.or_false, Bool.false_or, Bool.or_true, Bool.true_or, Bool.and_self, Bool.or_self, Bool.true_and]; done))
  | ((with_reducible apply wIsi (b := false)); (first | exact rfl | assumption); (first | exact rfl | assumption); focus (simp only [List.any_cons, List.any_nil, isTy, String.reduceBEq, String.reduceEq, beq_self_eq_true, Bool.and_false, Bool.false_and, Bool.or_false, Bool.false_or, Bool.or_true, Bool.true_or, Bool.and_self, Bool.or_self, Bool.true_and]; done)))
local macro_rules | `(tactic| walk_at "go") => `(tactic| (repeat walk_at "go1"))
theorem repr_of {h : VH} {v : VV} {d : PyData} (e : dat 8 h v = some d) (h1 : d.showable = true) (h2 : d.shown.length ≤ sizeLine) (h3 : d.depth ≤ 60) : bfnS .repr [v] h = .ok (.str d.shown) h := by
  show Rs.of ((reprS v h).map VV.str) h = _
  have : reprS v h = some d.shown := by
    unfold reprS
    rw [e]
    dsimp only
    rw [h1, decide_eq_true h2, decide_eq_true h3]
    rfl
  rw [this]
  rfl
theorem repr_str {h : VH} {s : Str} (hs : Asc s) (hl : s.length ≤ 100000) : bfnS .repr [.str s] h = .ok (.str (reprText s)) h := by
  have e : (PyData.str s).shown = reprText s := by simp only [PyData.shown]
  rw [← e]
  refine repr_of (by unfold dat; rfl) (by simp only [PyData.showable]) ?_ (by simp only [PyData.depth]; decide)
  rw [e]
  refine Nat.le_trans (StrLaws.reprText_len s fun c hc => Nat.lt_trans (hs c hc) (by decide)) ?_
  have : sizeLine = 16777216 := by decide
  omega
namespace K82
theorem pen_wp {n : Nat} {ns : List Int} {Q : VV → VH → Prop} {E : XP} (q : ∀ h, Pen h 2 1 0 → Clo h → Q (.ref 2) h) : (run PK (n + 1) 9 noCl (some [.lst (ns.map VV.int)]) []).wp Q E := by
  refine run_wp rfl rfl ?_
  show (exs (envP PK n) b__law_pen [some (.lst (ns.map VV.int)), none] []).wp _ _
  unfold b__law_pen
  walk_at "go"
  have ec : slcS (.lst (ns.map VV.int)) none (some 63) [] = .ok (.ref 0) [.lst ((cutL ns none (some 63)).map VV.int)] := by
    show new (.lst (cutL (ns.map VV.int) none (some 63))) [] = _
    have : cutL (ns.map VV.int) none (some 63) = (cutL ns none (some 63)).map VV.int := by
      unfold cutL
      rw [List.length_map, List.map_take, List.map_drop]
    rw [this]
    rfl
  have el : (cutL ns none (some 63)).length ≤ 63 := by
    unfold cutL
    have e1 : HT.sIx ns.length ns.length (some ((63 : Nat) : Int)) = min 63 ns.length := HT.sIx_nat _ _ _
    have e1' : HT.sIx ns.length ns.length (some 63) = min 63 ns.length := e1
    rw [e1', List.length_take]
    omega
  generalize cutL ns none (some 63) = cs at ec el
  refine wp_eq ec ?_
  refine (SeqV.ref (h := [.lst (cs.map VV.int)]) (k := 0) (xs := cs.map VV.int) rfl).lc (f := VV.int) (g := fun i => some (.int i)) rfl (by omega) (fun i _ => ?_) ?_
  · refine eq_wp ?_
    rw [wp_lcF]
    walk_at "go"
    refine wp_eq int_int ?_
    exact ⟨rfl, rfl⟩
  · have em : cs.filterMap (fun i => some (VV.int i)) = cs.map VV.int := by rw [List.filterMap_eq_map']
    rw [em]
    walk_at "go"
    refine fin_wpT (q _ ?_ ?_)
    · exact ⟨⟨cs, 0, 0, rfl, rfl, by decide, by decide, by decide, el⟩, by simp, by simp⟩
    · have c1 : Clo ([.lst (cs.map VV.int)] : VH) := clo_nil.snoc (o := .lst (cs.map VV.int)) (cloL_tr (n := 1) (trL_all.mpr fun x hx => by
        obtain ⟨i, _, rfl⟩ := List.mem_map.mp hx
        rfl))
      have c2 := c1.snoc (o := .lst (cs.map VV.int)) (cloL_tr (n := 1) (trL_all.mpr fun x hx => by
        obtain ⟨i, _, rfl⟩ := List.mem_map.mp hx
        rfl))
      exact c2.snoc (o := .lst [.ref 1, .int 0, .int 0]) rfl
/-! ### what repr shows of a row -/
theorem out_facts {o : Out} (g : GoodO o) : (datOut o).showable = true ∧ (datOut o).leavesShort 44 = true ∧ (datOut o).bulk ≤ 10 ∧ Asc (datOut o).shown ∧ (datOut o).depth ≤ 1 := by
  have a1 := g.asc1
  have l1 := (name_chr g.nm).2.2
  have hn := g.num
  have hk := g.ok
  have hnl := fun n (e : o.2 = some n) => g.num_len e
  obtain ⟨w, i⟩ := o
  have a1 : Asc w := a1
  have l1 : (tl w).length ≤ 8 := l1
  have l2 : w.cps.size ≤ 8 := by rw [← Array.length_toList]; exact l1
  have lw : (w.cps.toList.all fun c => decide (c < 16 ^ 8)) = true := List.all_eq_true.mpr fun c hc => decide_eq_true (Nat.lt_trans (a1 c hc) (by decide))
  cases i with
  | none =>
    show (PyData.str w).showable = true ∧ (PyData.str w).leavesShort 44 = true ∧ (PyData.str w).bulk ≤ 10 ∧ Asc (PyData.str w).shown ∧ (PyData.str w).depth ≤ 1
    simp only [PyData.showable, PyData.leavesShort, PyData.bulk, PyData.shown, PyData.depth]
    exact ⟨trivial, lw, by omega, asc_repr a1, by omega⟩
  | some n =>
    show (PyData.tuple [.str w, .int n]).showable = true ∧ (PyData.tuple [.str w, .int n]).leavesShort 44 = true ∧ (PyData.tuple [.str w, .int n]).bulk ≤ 10 ∧ Asc (PyData.tuple [.str w, .int n]).shown ∧ (PyData.tuple [.str w, .int n]).depth ≤ 1
    have e9 : (PyData.int n).shown = Str.ofString (toString n) := by simp only [PyData.shown]
    have e8 : (PyData.int n).leavesShort 44 = true := by
      unfold PyData.leavesShort
      rw [e9]
      refine decide_eq_true ?_
      have := hnl n rfl
      rw [TL.len_tl]
      omega
    have h1 := hk.num n rfl
    refine ⟨?_, ?_, ?_, ?_, ?_⟩
    · simp only [PyData.showable, PyData.showableAll, decide_eq_true h1, Bool.and_self]
    · simp only [PyData.leavesShort, PyData.leavesShortAll, Bool.and_true]
      exact (congrArg (· && PyData.leavesShort 44 (.int n)) lw).trans e8
    · simp only [PyData.bulk, PyData.bulkAll]
      omega
    · simp only [PyData.shown, PyData.shownAll]
      unfold tupleText
      refine ((asc_lit (by decide +kernel)).app (asc_join (asc_lit (by decide +kernel)) fun p hp => ?_)).app (asc_lit (s := ")") (by decide +kernel))
      simp only [List.mem_cons, List.not_mem_nil, or_false] at hp
      rcases hp with rfl | rfl
      · exact asc_repr a1
      · exact asc_toS n
    · simp only [PyData.depth, PyData.depthAll]
      omega
theorem outs_facts : ∀ {os : List Out}, (∀ o ∈ os, GoodO o) → PyData.showableAll (os.map datOut) = true ∧ PyData.leavesShortAll 44 (os.map datOut) = true ∧ PyData.bulkAll (os.map datOut) ≤ 11 * os.length ∧ ∀ t ∈ PyData.shownAll (os.map datOut), Asc t
  | [], _ => by
    simp only [List.map_nil, PyData.showableAll, PyData.leavesShortAll, PyData.bulkAll, PyData.shownAll]
    exact ⟨trivial, trivial, Nat.zero_le _, fun t ht => nomatch ht⟩
  | o :: os, h => by
    obtain ⟨a1, a2, a3, a4, _⟩ := out_facts (h o List.mem_cons_self)
    obtain ⟨b1, b2, b3, b4⟩ := outs_facts fun p hp => h p (List.mem_cons_of_mem (a := p) o hp)
    simp only [List.map_cons, PyData.showableAll, PyData.leavesShortAll, PyData.bulkAll, PyData.shownAll, List.length_cons]
    refine ⟨by rw [a1, b1]; rfl, by rw [a2, b2]; rfl, by omega, fun t ht => ?_⟩
    rcases List.mem_cons.mp ht with rfl | ht
    · exact a4
    · exact b4 t ht
def rowRepr (os : List Out) : Str := (PyData.tuple (os.map datOut)).shown
section
variable {os : List Out} (g : GoodR os)
include g
theorem GoodR.ascR : Asc (rowRepr os) := by
  obtain ⟨_, _, _, b4⟩ := outs_facts g.1
  unfold rowRepr
  simp only [PyData.shown]
  unfold tupleText
  refine ((asc_lit (by decide +kernel)).app (asc_join (asc_lit (by decide +kernel)) b4)).app ?_
  split <;> exact asc_lit (by decide +kernel)
theorem GoodR.repr {h : VH} : bfnS .repr [.tup (os.map enc)] h = .ok (.str (rowRepr os)) h := by
  obtain ⟨b1, b2, b3, b4⟩ := outs_facts g.1
  refine repr_of (dat_tup (dat_encs (n := 5) os)) (by simp only [PyData.showable]; exact b1) ?_ ?_
  · refine Nat.le_trans (PyData.shown_le_bulk 44 (by decide) _ (by simp only [PyData.leavesShort]; exact b2)) ?_
    have hl := g.2
    have hz : sizeLine = 16777216 := by decide
    simp only [PyData.bulk]
    have : PyData.bulkAll (os.map datOut) ≤ 550 := by omega
    omega
  · have := dep_outs (os := os)
    simp only [PyData.depth]
    omega
theorem GoodR.eqv : PyData.eqvAll (os.map datOut) (os.map datOut) = true := by
  clear g
  induction os with
  | nil => simp only [List.map_nil, PyData.eqvAll]
  | cons o os ih =>
    simp only [List.map_cons, PyData.eqvAll, ih, Bool.and_true]
    obtain ⟨w, i⟩ := o
    cases i <;> simp [datOut, PyData.eqv, PyData.eqvAll]
theorem GoodR.same {h : VH} : copS .eq (.tup (os.map enc)) (.tup (os.map enc)) h = some true := by
  have ho : ∀ o ∈ os, Ok o.1 := fun o h => (g.1 o h).ok.ok
  unfold copS
  dsimp only
  have sh := shp_tup (lay_outs ho) (Nat.le_trans dep_outs (by decide))
  rw [eqS_of (dat_tup (dat_encs (n := 5) os)) (dat_tup (dat_encs (n := 5) os)) sh sh]
  simp only [PyData.eqv, g.eqv]
end
end K82
end Mini
end
section
set_option Elab.async false
set_option linter.all false
set_option maxRecDepth 100000
set_option maxHeartbeats 2000000
/-! Plain, part 23 (k82): the law's row, its words, its checks. -/
namespace Mini
open PySem L2
open TL (tl)
local macro_rules | `(tactic| walk_at "go1") => `(tactic| first
  | with_reducible apply wxs_cons'
  | with_reducible apply wxs_nil'
  | ((with_reducible apply nxtN); focus (first | (simp only [List.set_cons_zero, List.set_cons_succ]; done) | (simp only [List.set_cons_zero, List.set_cons_succ]; exact rfl) | exact rfl))
  | with_reducible apply nxt_rt'
  | with_reducible apply nxt_bk'
  | with_reducible apply nxt_ct'
  | with_reducible apply we_var'
  | with_reducible apply we_cst'
  | with_reducible apply ws_cons'
  | with_reducible apply ws_nil'
  | ((with_reducible apply wSlot); exact rfl)
  | with_reducible apply we_fcl'
  | with_reducible apply we_cmp'
  | with_reducible apply we_idx'
  | with_reducible apply we_bin'
  | with_reducible apply wt_val'
  | with_reducible apply we_tup'
  | with_reducible apply we_lst'
  | with_reducible apply we_bcl'
  | with_reducible apply wx_set'
  | with_reducible apply wx_ret'
  | with_reducible apply wx_ife'
  | with_reducible apply wx_exp'
  | with_reducible apply wx_unp'
  | with_reducible apply wx_par'
  | with_reducible apply wx_sub'
  | with_reducible apply wx_rse'
  | with_reducible apply wx_brk'
  | with_reducible apply wx_cnt'
  | with_reducible apply wx_for'
  | with_reducible apply we_and'
  | with_reducible apply we_or'
  | with_reducible apply we_not'
  | with_reducible apply we_ife'
  | with_reducible apply we_neg'
  | with_reducible apply we_chn'
  | with_reducible apply we_dct'
  | with_reducible apply we_slc'
  | with_reducible apply we_att'
  | with_reducible apply we_isi'
  | with_reducible apply we_mcl'
  | with_reducible apply we_lc'
  | with_reducible apply we_fst'
  | with_reducible apply wf_nil'
  | with_reducible apply wf_cons'
  | with_reducible apply wt_yes'
  | with_reducible apply wt_and'
  | with_reducible apply wt_or'
  | with_reducible apply wt_not'
  | with_reducible apply endQ_rt'
  | with_reducible apply endQ_nx'
  | with_reducible apply wpB_t'
  | with_reducible apply wpB_f'
  | with_reducible apply wpB_nt'
  | with_reducible apply wpB_nf'
  | (with_reducible apply wTru)
  | ((with_reducible apply wBt); with_reducible assumption)
  | ((with_reducible apply wBf); with_reducible assumption)
  | ((with_reducible apply wGle); exact rfl)
  | ((with_reducible apply wGrs); exact rfl) | ((with_reducible apply wGrc); assumption)
  | ((with_reducible apply wGdc); exact rfl; exact rfl)
  | ((with_reducible apply wGeq); exact rfl)
  | ((with_reducible apply wOpt); exact rfl)
  | ((with_reducible apply wTup); exact rfl)
  | ((with_reducible apply wUnp); exact rfl)
  | ((with_reducible apply wTg); exact rfl)
  | ((with_reducible apply wNeg); exact rfl)
  | ((with_reducible apply wBop); exact rfl)
  | ((with_reducible apply wIsi (b := true)); (first | exact rfl | assumption); (first | exact rfl | assumption); focus (simp only [List.any_cons, List.any_nil, isTy, String.reduceBEq, String.reduceEq, beq_self_eq_true, Bool.and_false, Bool.false_and, Bool.or_false, Bool.false_or, Bool.or_true, Bool.true_or, Bool.and_self, Bool.or_self, Bool.true_and]; done))
  | ((with_reducible apply wIsi (b := false)); (first | exact rfl | assumption); (first | exact rfl | assumption); focus (simp only [List.any_cons, List.any_nil, isTy, String.reduceBEq, String.reduceEq, beq_self_eq_true, Bool.and_false, Bool.false_and, Bool.or_false, Bool.false_or, Bool.or_true, Bool.true_or, Bool.and_self, Bool.or_self, Bool.true_and]; done)))
local macro_rules | `(tactic| walk_at "go") => `(tactic| (repeat walk_at "go1"))
theorem add_lst_ref {h : VH} {b : Nat} {xs ys : List VV} (e2 : h[b]? = some (.lst ys)) (hl : xs.length + ys.length ≤ 100000) : bopS .add (.lst xs) (.ref b) h = .ok (.ref h.length) (h ++ [.lst (xs ++ ys)]) := by
  show lstB .add (.lst xs) (.ref b) h = _
  unfold lstB lstOf
  simp only [e2]
  rw [if_pos hl]
  rfl
theorem add_str {h : VH} {a b : Str} (hl : a.length + b.length ≤ sizeLine) : bopS .add (.str a) (.str b) h = .ok (.str (a ++ b)) h := by
  show strB .add a b h = _
  unfold strB
  dsimp only
  rw [if_pos hl]
theorem str_int {h : VH} {n : Int} (hn : n.natAbs.log2 < 1920) : bfnS .str [.int n] h = .ok (.str (Str.ofString (toString n))) h := by
  show Rs.of ((strS (.int n)).map VV.str) h = _
  have : strS (.int n) = some (Str.ofString (toString n)) := by
    unfold strS
    dsimp only
    rw [if_pos hn]
  rw [this]
  rfl
theorem ne_strs {h : VH} {a b : Nat} {ss : List Str} (e1 : h[a]? = some (.lst (ss.map VV.str))) (e2 : h[b]? = some (.lst (ss.map VV.str))) (ok : ∀ s ∈ ss, PyData.strOk s = true) : copS .ne (.ref a) (.ref b) h = some false := by
  have sh : SeqAt.shaped (.list (ss.map PyData.str)) = true := shp_lst (lay_strs ok) (by rw [dep_strs]; decide)
  have : copS .eq (.ref a) (.ref b) h = some true := by
    unfold copS
    dsimp only
    rw [eqS_of (dat_ref e1 (dat_strs (n := 6) _)) (dat_ref e2 (dat_strs (n := 6) _)) sh sh]
    simp only [PyData.eqv, eqvAll_strs, beq_self_eq_true]
  exact ne_of_eq this
theorem ne_str {h : VH} {a : Str} (ha : PyData.strOk a = true) : copS .ne (.str a) (.str a) h = some false := by
  have := ne_of_eq (eq_str (h := h) ha ha)
  rw [beq_self_eq_true] at this
  exact this
theorem list_seq {h : VH} {v : VV} {xs : List VV} {t : String} (S : SeqV h v xs t) : bfnS .list [v] h = .ok (.ref h.length) (h ++ [.lst xs]) := by
  show bfn1 .list v h = _
  unfold bfn1
  dsimp only
  rw [show seqOf h v = some xs from S.sq]
  rfl
theorem map_some_inj {α : Type} : ∀ {a b : List α}, a.map some = b.map some → a = b
  | [], [], _ => rfl
  | x :: a, y :: b, e => by
    rw [List.map_cons, List.map_cons] at e
    injection e with e1 e2
    injection e1 with e3
    rw [e3, map_some_inj e2]
  | [], _ :: _, e => nomatch e
  | _ :: _, [], e => nomatch e
namespace K82
def forB : Ss → Ss
  | .cons (.for _ _ _ b) _ => b
  | _ => .nil
/-- the law's walk, the walk in it -/
def b_out : Ss := forB (tailS 1 b_law)
def b_inn : Ss := forB (tailS 6 b_out)
theorem good_law {o : Out} (h : LawOut o) : GoodO o := ⟨by
  have : ∀ w ∈ wordsL, isName w = true := by decide +kernel
  exact this _ h.1, h.2⟩
theorem GoodR.read_row {n : Nat} {h : VH} {os : List Out} (g : GoodR os) (c : Clo h) : run PK (n + 3) 8 noCl (some [.str (rowText os)]) h = .ok (.tup (os.map enc)) h := by
  have W := g.words
  cases os with
  | nil => exact read_row_dash1 (n := n + 2) g.okT W c
  | cons o os =>
    refine eq_wp (read_row_walk (w0 := outText o) (ws := os.map outText) g.okT W (g.1 o List.mem_cons_self).dash c (fun pre w post os' e1 e2 e3 => ?_) fun os' e => ?_)
    · have hm : w ∈ (o :: os).map outText := by
        show w ∈ outText o :: os.map outText
        rw [e1]
        simp
      obtain ⟨o', ho', rfl⟩ := List.mem_map.mp hm
      rw [(g.1 o' ho').read] at e3
      cases e3
    · have e9 := g.read
      have e : ((o :: os).map outText).map readOut = os'.map some := e
      rw [List.map_map] at e
      have e8 : (o :: os).map some = os'.map some := e9.symm.trans e
      have : o :: os = os' := map_some_inj e8
      rw [← this]
      exact ⟨rfl, rfl⟩
section
variable {h : VH} {QF : Fl → VH → Prop} {E : XP} {k c m : Nat} {a0 a1 a2 a3 a4 a5 a6 a7 a8 a9 a10 a11 a12 a13 a15 a16 : Option VV}
theorem draw_part (P : Pen h k c m) (hm : m + 700 ≤ 1000000) (C : Clo h)
    (q : ∀ (os : List Out) (h' : VH) (r : Nat), GoodR os → Pen h' k c (m + 111) → Clo h' → h'[r]? = some (.lst (os.map enc)) → r ≠ k → (exs (envP PK 61) (tailS 1 b_out) [a0, a1, a2, a3, a4, a5, a6, a7, a8, a9, a10, a11, a12, a13, some (.ref k), some (.ref r), a16] h').wp QF E) :
    (exs (envP PK 61) b_out [a0, a1, a2, a3, a4, a5, a6, a7, a8, a9, a10, a11, a12, a13, some (.ref k), a15, a16] h).wp QF E := by
  unfold b_out b_law
  simp only [tailS, forB]
  walk_at "go"
  refine plan_wp (n := 57) P (by omega) C fun t h1 ⟨T, b, ks, vs, et, p1, p2, p3, p4, p5⟩ P1 C1 u1 => ?_
  subst et
  refine outputs_wp (n := 57) P1 (by omega) C1 ⟨p1, p2, p3, p4, p5⟩ fun os h2 l1 lo P2 C2 u2 => ?_
  walk_at "go"
  have k2 := P2.upd_lt
  have G0 := PenG.refl P2 C2
  have G1 := G0.lst (xs := []) (n := 1) (fun x hx => nomatch hx)
  have G2 := G1.lst (xs := [.tup [.str "a", .int 0]]) (n := 3) (by simp [tr, trL])
  have G3 := G2.lst (xs := [.str "abcdefgh"]) (n := 3) (by simp [tr])
  have wa : (h2 ++ [Ob.lst []]).length = h2.length + 1 := by simp
  have wb : (h2 ++ [Ob.lst []] ++ [Ob.lst [.tup [.str "a", .int 0]]]).length = h2.length + 2 := by simp
  have wc : (h2 ++ [Ob.lst []] ++ [Ob.lst [.tup [.str "a", .int 0]]] ++ [Ob.lst [.str "abcdefgh"]]).length = h2.length + 3 := by simp
  have G4 := G3.snoc (o := .lst [.ref h2.length, .ref (h2 ++ [Ob.lst []]).length, .ref (h2 ++ [Ob.lst []] ++ [Ob.lst [.tup [.str "a", .int 0]]]).length]) (by
    show cloL _ _ = true
    rw [cloL_all]
    intro x hx
    simp only [List.mem_cons, List.not_mem_nil, or_false] at hx
    rcases hx with rfl | rfl | rfl <;> (unfold clo; rw [Nat.blt_eq]; omega))
  have w0 : (h2 ++ [Ob.lst []] ++ [Ob.lst [.tup [.str "a", .int 0]]] ++ [Ob.lst [.str "abcdefgh"]] ++ [Ob.lst [.ref h2.length, .ref (h2 ++ [Ob.lst []]).length, .ref (h2 ++ [Ob.lst []] ++ [Ob.lst [.tup [.str "a", .int 0]]]).length]])[h2.length]? = some (.lst []) := at_keep (at_keep (at_keep at_snoc))
  have w1 : (h2 ++ [Ob.lst []] ++ [Ob.lst [.tup [.str "a", .int 0]]] ++ [Ob.lst [.str "abcdefgh"]] ++ [Ob.lst [.ref h2.length, .ref (h2 ++ [Ob.lst []]).length, .ref (h2 ++ [Ob.lst []] ++ [Ob.lst [.tup [.str "a", .int 0]]]).length]])[(h2 ++ [Ob.lst []]).length]? = some (.lst [.tup [.str "a", .int 0]]) := at_keep (at_keep at_snoc)
  have w2 : (h2 ++ [Ob.lst []] ++ [Ob.lst [.tup [.str "a", .int 0]]] ++ [Ob.lst [.str "abcdefgh"]] ++ [Ob.lst [.ref h2.length, .ref (h2 ++ [Ob.lst []]).length, .ref (h2 ++ [Ob.lst []] ++ [Ob.lst [.tup [.str "a", .int 0]]]).length]])[(h2 ++ [Ob.lst []] ++ [Ob.lst [.tup [.str "a", .int 0]]]).length]? = some (.lst [.str "abcdefgh"]) := at_keep at_snoc
  refine pick_wp (n := 59) G4.pen (by omega) G4.clo (.ref at_snoc) (fun z => by injection z with z; omega) (by simp) (by simp) (fun y hy => .inr ?_) fun y hy h3 P3 C3 u3 => ?_
  · simp only [List.mem_cons, List.not_mem_nil, or_false] at hy
    rcases hy with rfl | rfl | rfl
    · exact ⟨_, rfl, (List.getElem?_eq_some_iff.mp w0).1⟩
    · exact ⟨_, rfl, (List.getElem?_eq_some_iff.mp w1).1⟩
    · exact ⟨_, rfl, (List.getElem?_eq_some_iff.mp w2).1⟩
  · obtain ⟨j, ex, rfl, ej, ge, le⟩ : ∃ (j : Nat) (ex : List Out), y = .ref j ∧ h3[j]? = some (.lst (ex.map enc)) ∧ (∀ o ∈ ex, GoodO o) ∧ ex.length ≤ 1 := by
      have nn : ∀ o ∈ ([] : List Out), GoodO o := fun o ho => nomatch ho
      have na : GoodO ("a", some 0) := ⟨by decide +kernel, fun n e => by cases e; decide⟩
      have nb : GoodO ("abcdefgh", none) := ⟨by decide +kernel, fun n e => nomatch e⟩
      simp only [List.mem_cons, List.not_mem_nil, or_false] at hy
      rcases hy with rfl | rfl | rfl
      · exact ⟨_, [], rfl, by rw [u3.oth _ (by omega)]; exact w0, nn, Nat.zero_le _⟩
      · exact ⟨_, [("a", some 0)], rfl, by rw [u3.oth _ (by omega)]; exact w1, fun o ho => by rw [List.mem_singleton.mp ho]; exact na, by decide⟩
      · exact ⟨_, [("abcdefgh", none)], rfl, by rw [u3.oth _ (by omega)]; exact w2, fun o ho => by rw [List.mem_singleton.mp ho]; exact nb, by decide⟩
    clear w0 w1 w2
    refine wp_eq (add_lst_ref (xs := os.map enc) ej (by simp; omega)) ?_
    rw [← List.map_append]
    with_reducible apply nxt_nx'
    have G5 := G4.upd P3 C3 u3
    have G6 := G5.lst (xs := (os ++ ex).map enc) (n := 2) (fun x hx => by
      obtain ⟨o', _, rfl⟩ := List.mem_map.mp hx
      exact tr_enc o')
    exact q (os ++ ex) _ h3.length ⟨fun o ho => by
      rcases List.mem_append.mp ho with ho | ho
      · exact good_law (lo o ho)
      · exact ge o ho, by rw [List.length_append]; omega⟩ (G6.pen.mono (by omega)) G6.clo at_snoc (by have := P3.upd_lt; omega)
end
end K82
end Mini
end
section
set_option Elab.async false
set_option linter.all false
set_option maxRecDepth 100000
set_option maxHeartbeats 2000000
/-! Plain, part 24 (k82): the law's words, lists and first checks. -/
namespace Mini
open PySem L2
open TL (tl)
local macro_rules | `(tactic| walk_at "go1") => `(tactic| first
  | with_reducible apply wxs_cons'
  | with_reducible apply wxs_nil'
  | ((with_reducible apply nxtN); focus (first | (simp only [List.set_cons_zero, List.set_cons_succ]; done) | (simp only [List.set_cons_zero, List.set_cons_succ]; exact rfl) | exact rfl))
  | with_reducible apply nxt_rt'
  | with_reducible apply nxt_bk'
  | with_reducible apply nxt_ct'
  | with_reducible apply we_var'
  | with_reducible apply we_cst'
  | with_reducible apply ws_cons'
  | with_reducible apply ws_nil'
  | ((with_reducible apply wSlot); exact rfl)
  | with_reducible apply we_fcl'
  | with_reducible apply we_cmp'
  | with_reducible apply we_idx'
  | with_reducible apply we_bin'
  | with_reducible apply wt_val'
  | with_reducible apply we_tup'
  | with_reducible apply we_lst'
  | with_reducible apply we_bcl'
  | with_reducible apply wx_set'
  | with_reducible apply wx_ret'
  | with_reducible apply wx_ife'
  | with_reducible apply wx_exp'
  | with_reducible apply wx_unp'
  | with_reducible apply wx_par'
  | with_reducible apply wx_sub'
  | with_reducible apply wx_rse'
  | with_reducible apply wx_brk'
  | with_reducible apply wx_cnt'
  | with_reducible apply wx_for'
  | with_reducible apply we_and'
  | with_reducible apply we_or'
  | with_reducible apply we_not'
  | with_reducible apply we_ife'
  | with_reducible apply we_neg'
  | with_reducible apply we_chn'
  | with_reducible apply we_dct'
  | with_reducible apply we_slc'
  | with_reducible apply we_att'
  | with_reducible apply we_isi'
  | with_reducible apply we_mcl'
  | with_reducible apply we_lc'
  | with_reducible apply we_fst'
  | with_reducible apply wf_nil'
  | with_reducible apply wf_cons'
  | with_reducible apply wt_yes'
  | with_reducible apply wt_and'
  | with_reducible apply wt_or'
  | with_reducible apply wt_not'
  | with_reducible apply endQ_rt'
  | with_reducible apply endQ_nx'
  | with_reducible apply wpB_t'
  | with_reducible apply wpB_f'
  | with_reducible apply wpB_nt'
  | with_reducible apply wpB_nf'
  | (with_reducible apply wTru)
  | ((with_reducible apply wBt); with_reducible assumption)
  | ((with_reducible apply wBf); with_reducible assumption)
  | ((with_reducible apply wGle); exact rfl)
  | ((with_reducible apply wGrs); exact rfl) | ((with_reducible apply wGrc); assumption)
  | ((with_reducible apply wGdc); exact rfl; exact rfl)
  | ((with_reducible apply wGeq); exact rfl)
  | ((with_reducible apply wOpt); exact rfl)
  | ((with_reducible apply wTup); exact rfl)
  | ((with_reducible apply wUnp); exact rfl)
  | ((with_reducible apply wTg); exact rfl)
  | ((with_reducible apply wNeg); exact rfl)
  | ((with_reducible apply wBop); exact rfl)
  | ((with_reducible apply wIsi (b := true)); (first | exact rfl | assumption); (first | exact rfl | assumption); focus (simp only [List.any_cons, List.any_nil, isTy, String.reduceBEq, String.reduceEq, beq_self_eq_true, Bool.and_false, Bool.false_and, Bool.or_false, Bool.false_or, Bool.or_true, Bool.true_or, Bool.and_self, Bool.or_self, Bool.true_and]; done))
  | ((with_reducible apply wIsi (b := false)); (first | exact rfl | assumption); (first | exact rfl | assumption); focus (simp only [List.any_cons, List.any_nil, isTy, String.reduceBEq, String.reduceEq, beq_self_eq_true, Bool.and_false, Bool.false_and, Bool.or_false, Bool.false_or, Bool.or_true, Bool.true_or, Bool.and_self, Bool.or_self, Bool.true_and]; done)))
local macro_rules | `(tactic| walk_at "go") => `(tactic| (repeat walk_at "go1"))
namespace K82
theorem its_snoc {h : VH} {o : Out} {v : VV} : ∀ {vs : List VV} {os : List Out}, Its h vs os → It h v o → Its h (vs ++ [v]) (os ++ [o])
  | _, _, .nil, i => .cons i .nil
  | _, _, .cons a b, i => .cons a (its_snoc b i)
theorem its_clo {h : VH} {n : Nat} : ∀ {vs : List VV} {os : List Out}, Its h vs os → ∀ x ∈ vs, clo (h.length + n) x = true
  | _, _, .nil, x, hx => nomatch hx
  | _, _, .cons (o := o) a b, x, hx => by
    rcases List.mem_cons.mp hx with rfl | hx
    · obtain ⟨w, i⟩ := o
      cases i with
      | none =>
        obtain rfl : x = .str w := a
        unfold clo
        rfl
      | some k =>
        obtain ⟨t, S⟩ := a
        rcases S.cs with rfl | rfl | ⟨j, rfl, e⟩
        · exact clo_tr (n := 2) rfl
        · exact clo_tr (n := 2) rfl
        · have := (List.getElem?_eq_some_iff.mp e).1
          unfold clo
          rw [Nat.blt_eq]
          omega
    · exact its_clo b x hx
section
variable {h : VH} {QF : Fl → VH → Prop} {E : XP} {k c m r : Nat} {os : List Out} {a0 a1 a2 a3 a4 a5 a6 a7 a8 a9 a10 a11 a12 a13 a15 a16 : Option VV}
theorem word_part (P : Pen h k c m) (C : Clo h) (g : GoodR os) (hr : h[r]? = some (.lst (os.map enc)))
    (q : ∀ (h' : VH) (kw kl : Nat) (xs : List VV), Pen h' k c m → Clo h' → h'[r]? = some (.lst (os.map enc)) → h'[kw]? = some (.lst ((os.map outText).map VV.str)) → h'[kl]? = some (.lst xs) → Its h' xs os →
      (exs (envP PK 61) (tailS 4 b_out) [a0, a1, some (.ref kw), some (.str (rowText os)), some (.ref kl), a5, a6, a7, a8, a9, a10, a11, a12, a13, some (.ref k), some (.ref r), a16] h').wp QF E) :
    (exs (envP PK 61) (tailS 1 b_out) [a0, a1, a2, a3, a4, a5, a6, a7, a8, a9, a10, a11, a12, a13, some (.ref k), some (.ref r), a16] h).wp QF E := by
  have ho : RowOk os := g.ok
  have G0 := PenG.refl P C
  unfold b_out b_law
  simp only [tailS, forB]
  walk_at "go"
  refine (SeqV.ref hr).lc (f := enc) (g := fun o => some (.str (outText o))) rfl (Nat.le_trans ho.2 (by decide)) (fun o hm => ?_) ?_
  · have hk := ho.1 o hm
    obtain ⟨w, i⟩ := o
    refine eq_wp ?_
    rw [wp_lcF]
    cases i with
    | none =>
      walk_at "go"
      exact ⟨rfl, rfl⟩
    | some n =>
      have S : SeqV h (enc (w, some n)) [.str w, .int n] "tuple" := .tup
      have hl : (w ++ ("=" : Str) ++ Str.ofString (toString n)).length ≤ 5000 := hk.len
      have hl1 := hl
      rw [Str.length_append, Str.length_append] at hl1
      have hz : sizeLine = 16777216 := by decide
      walk_at "go"
      refine wp_eq (S.idx rfl) ?_
      walk_at "go"
      refine wp_eq (add_str (by omega)) ?_
      walk_at "go"
      refine wp_eq (S.idx rfl) ?_
      walk_at "go"
      refine wp_eq (str_int (hk.num n rfl)) ?_
      walk_at "go"
      refine wp_eq (add_str (by rw [Str.length_append]; omega)) ?_
      exact ⟨rfl, rfl⟩
  · have em : os.filterMap (fun o => some (VV.str (outText o))) = (os.map outText).map VV.str := by
      rw [List.map_map, List.filterMap_eq_map']
      rfl
    rw [em]
    have G1 := G0.lst (xs := (os.map outText).map VV.str) (n := 1) (fun x hx => by
      obtain ⟨s, _, rfl⟩ := List.mem_map.mp hx
      rfl)
    walk_at "go"
    have okw : ∀ s ∈ os.map outText, PyData.strOk s = true := fun s hs => by
      obtain ⟨o, ho, rfl⟩ := List.mem_map.mp hs
      exact (g.1 o ho).asc.ok
    have G2 := G1.lst (xs := []) (n := 1) (fun x hx => nomatch hx)
    refine wO (ne_of_eq (eq_nil (ds := (os.map outText).map PyData.str) (dat_ref (at_keep at_snoc) (dat_strs (n := 6) _)) at_snoc (lay_strs okw) (by rw [dep_strs]; decide))) (wTru ?_)
    -- the text's end
    have rest : ∀ (h1 : VH), PenG k c m h h1 → h1[r]? = some (.lst (os.map enc)) → h1[h.length]? = some (.lst ((os.map outText).map VV.str)) → (exs (envP PK 61) (tailS 3 b_out) [a0, a1, some (.ref h.length), some (.str (rowText os)), a4, a5, a6, a7, a8, a9, a10, a11, a12, a13, some (.ref k), some (.ref r), a16] h1).wp QF E := fun h1 G r1 w1 => by
      clear hr em
      unfold b_out b_law
      simp only [tailS, forB]
      walk_at "go"
      refine wO (show srcS .seq [.ref r] h1 = some (.cell r false) by unfold srcS; simp only [r1]) ?_
      unfold lcW
      dsimp only
      have hc : cellAt h1 r = some (os.map enc) := by unfold cellAt; rw [r1]
      rw [hc]
      refine lcC_inv (fun pre post acc h' => ∃ (l : VH) (o1 o2 : List Out), h' = h1 ++ l ∧ PenG k c m h h' ∧ os = o1 ++ o2 ∧ pre = o1.map enc ∧ post = o2.map enc ∧ Its h' acc o1) (os.map enc) [] [] _ h1 rfl ⟨[], [], os, by rw [List.append_nil], G, rfl, rfl, rfl, .nil⟩ (fun pre x post acc h' ⟨l, o1, o2, e1, G', e2, e3, e4, I⟩ => ?_) (fun pre post acc h' ⟨l, o1, o2, e1, G', e2, e3, e4, I⟩ => ?_) fun pre acc h' ⟨l, o1, o2, e1, G', e2, e3, e4, I⟩ => ?_
      · clear q
        cases o2 with
        | nil => cases e4
        | cons o o2 =>
          rw [List.map_cons] at e4
          injection e4 with e5 e6
          subst e5
          have hl := I.length
          have hx := g.2
          rw [e2, List.length_append, List.length_cons] at hx
          refine ⟨by omega, ?_⟩
          rw [wp_lcF]
          obtain ⟨w, i⟩ := o
          cases i with
          | none =>
            walk_at "go"
            exact ⟨l, o1 ++ [(w, none)], o2, e1, G', by rw [e2]; simp, by rw [e3]; simp, e6, its_snoc I rfl⟩
          | some n =>
            have S : SeqV h' (enc (w, some n)) [.str w, .int n] "tuple" := .tup
            walk_at "go"
            refine wp_eq (list_seq S) ?_
            refine ⟨l ++ [.lst [.str w, .int n]], o1 ++ [(w, some n)], o2, by rw [e1, List.append_assoc], G'.lst (n := 1) (by simp [tr]), by rw [e2]; simp, by rw [e3]; simp, e6, its_snoc I.keep ⟨_, .ref at_snoc⟩⟩
      · rw [e1, e3, e4, ← List.map_append, ← e2]
        unfold cellAt
        rw [at_keep r1]
      · have : o2 = [] := List.map_eq_nil_iff.mp e4.symm
        subst this
        rw [List.append_nil] at e2
        subst e2
        subst e1
        with_reducible apply nxt_nx'
        have ca : cloOb ((h1 ++ l).length + 1) (.lst acc) = true := by
          show cloL _ _ = true
          rw [cloL_all]
          intro x hx
          exact its_clo I x hx
        have G9 := G'.snoc ca
        exact q _ _ _ acc G9.pen G9.clo (at_keep (at_keep r1)) (at_keep (at_keep w1)) at_snoc I.keep
    refine wB (fun b => ?_) fun b => ?_
    · have e : os.isEmpty = false := by cases os with
        | nil => cases b
        | cons _ _ => rfl
      walk_at "go"
      refine wp_eq (join_ref (ss := os.map outText) (at_keep at_snoc) ?_) ?_
      · have hs := sum_le (f := fun o => (outText o).length) (B := 5000) (l := os) fun o hm => (ho.1 o hm).len
        have h2 := ho.2
        have h3 : (" " : Str).length = 1 := by decide
        rw [List.map_map, List.length_map, h3]
        have h4 : (List.map ((fun x => x.length) ∘ outText) os).sum = (os.map fun o => (outText o).length).sum := rfl
        rw [h4]
        have h5 : os.length * 5000 ≤ 1000 * 5000 := Nat.mul_le_mul_right _ h2
        omega
      · have et : Txt.join (" " : Str) (os.map outText) = rowText os := by
          unfold rowText
          rw [e]
          rfl
        with_reducible apply nxt_nx'
        rw [et]
        exact rest _ G2 (at_keep (at_keep hr)) (at_keep at_snoc)
    · have e : os.isEmpty = true := by cases os with
        | nil => rfl
        | cons _ _ => cases b
      with_reducible apply we_cst'
      have et : ("-" : Str) = rowText os := by
        unfold rowText
        rw [e]
        rfl
      with_reducible apply nxt_nx'
      have fin := rest _ G2 (at_keep (at_keep hr)) (at_keep at_snoc)
      rw [← et] at fin
      exact fin
end
end K82
end Mini
end
section
set_option Elab.async false
set_option linter.all false
set_option maxRecDepth 100000
set_option maxHeartbeats 2000000
/-! Plain, part 25 (k82): the law's checks of a row. -/
namespace Mini
open PySem L2
open TL (tl)
local macro_rules | `(tactic| walk_at "go1") => `(tactic| first
  | with_reducible apply wxs_cons'
  | with_reducible apply wxs_nil'
  | ((with_reducible apply nxtN); focus (first | (simp only [List.set_cons_zero, List.set_cons_succ]; done) | (simp only [List.set_cons_zero, List.set_cons_succ]; exact rfl) | exact rfl))
  | with_reducible apply nxt_rt'
  | with_reducible apply nxt_bk'
  | with_reducible apply nxt_ct'
  | with_reducible apply we_var'
  | with_reducible apply we_cst'
  | with_reducible apply ws_cons'
  | with_reducible apply ws_nil'
  | ((with_reducible apply wSlot); exact rfl)
  | with_reducible apply we_fcl'
  | with_reducible apply we_cmp'
  | with_reducible apply we_idx'
  | with_reducible apply we_bin'
  | with_reducible apply wt_val'
  | with_reducible apply we_tup'
  | with_reducible apply we_lst'
  | with_reducible apply we_bcl'
  | with_reducible apply wx_set'
  | with_reducible apply wx_ret'
  | with_reducible apply wx_ife'
  | with_reducible apply wx_exp'
  | with_reducible apply wx_unp'
  | with_reducible apply wx_par'
  | with_reducible apply wx_sub'
  | with_reducible apply wx_rse'
  | with_reducible apply wx_brk'
  | with_reducible apply wx_cnt'
  | with_reducible apply wx_for'
  | with_reducible apply we_and'
  | with_reducible apply we_or'
  | with_reducible apply we_not'
  | with_reducible apply we_ife'
  | with_reducible apply we_neg'
  | with_reducible apply we_chn'
  | with_reducible apply we_dct'
  | with_reducible apply we_slc'
  | with_reducible apply we_att'
  | with_reducible apply we_isi'
  | with_reducible apply we_mcl'
  | with_reducible apply we_lc'
  | with_reducible apply we_fst'
  | with_reducible apply wf_nil'
  | with_reducible apply wf_cons'
  | with_reducible apply wt_yes'
  | with_reducible apply wt_and'
  | with_reducible apply wt_or'
  | with_reducible apply wt_not'
  | with_reducible apply endQ_rt'
  | with_reducible apply endQ_nx'
  | with_reducible apply wpB_t'
  | with_reducible apply wpB_f'
  | with_reducible apply wpB_nt'
  | with_reducible apply wpB_nf'
  | (with_reducible apply wTru)
  | ((with_reducible apply wBt); with_reducible assumption)
  | ((with_reducible apply wBf); with_reducible assumption)
  | ((with_reducible apply wGle); exact rfl)
  | ((with_reducible apply wGrs); exact rfl) | ((with_reducible apply wGrc); assumption)
  | ((with_reducible apply wGdc); exact rfl; exact rfl)
  | ((with_reducible apply wGeq); exact rfl)
  | ((with_reducible apply wOpt); exact rfl)
  | ((with_reducible apply wTup); exact rfl)
  | ((with_reducible apply wUnp); exact rfl)
  | ((with_reducible apply wTg); exact rfl)
  | ((with_reducible apply wNeg); exact rfl)
  | ((with_reducible apply wBop); exact rfl)
  | ((with_reducible apply wIsi (b := true)); (first | exact rfl | assumption); (first | exact rfl | assumption); focus (simp only [List.any_cons, List.any_nil, isTy, String.reduceBEq, String.reduceEq, beq_self_eq_true, Bool.and_false, Bool.false_and, Bool.or_false, Bool.false_or, Bool.or_true, Bool.true_or, Bool.and_self, Bool.or_self, Bool.true_and]; done))
  | ((with_reducible apply wIsi (b := false)); (first | exact rfl | assumption); (first | exact rfl | assumption); focus (simp only [List.any_cons, List.any_nil, isTy, String.reduceBEq, String.reduceEq, beq_self_eq_true, Bool.and_false, Bool.false_and, Bool.or_false, Bool.false_or, Bool.or_true, Bool.true_or, Bool.and_self, Bool.or_self, Bool.true_and]; done)))
local macro_rules | `(tactic| walk_at "go") => `(tactic| (repeat walk_at "go1"))
namespace K82
section
variable {h : VH} {QF : Fl → VH → Prop} {E : XP} {k c m r kw kl : Nat} {xs : List VV} {os : List Out} {a0 a1 a5 a6 a7 a8 a9 a10 a11 a12 a13 a16 : Option VV}
theorem check_part (P : Pen h k c m) (C : Clo h) (g : GoodR os) (hr : h[r]? = some (.lst (os.map enc))) (hw : h[kw]? = some (.lst ((os.map outText).map VV.str))) (hl : h[kl]? = some (.lst xs)) (I : Its h xs os)
    (q : ∀ (h' : VH), Pen h' k c m → Clo h' → h'[r]? = some (.lst (os.map enc)) →
      (exs (envP PK 61) (tailS 6 b_out) [a0, a1, some (.ref kw), some (.str (rowText os)), some (.ref kl), a5, a6, a7, a8, a9, a10, a11, a12, a13, some (.ref k), some (.ref r), a16] h').wp QF E) :
    (exs (envP PK 61) (tailS 4 b_out) [a0, a1, some (.ref kw), some (.str (rowText os)), some (.ref kl), a5, a6, a7, a8, a9, a10, a11, a12, a13, some (.ref k), some (.ref r), a16] h).wp QF E := by
  have ho : RowOk os := g.ok
  have G0 := PenG.refl P C
  have hlen : (rowText os).length ≤ 100000 := by have := g.len; omega
  unfold b_out b_law
  simp only [tailS, forB]
  walk_at "go"
  refine wp_eq (row_text_ok (n := 57) (.ref hr) (Its.encs os) ho g.nm C) ?_
  walk_at "go"
  refine wp_eq (repr_str g.asc hlen) ?_
  walk_at "go"
  refine wp_eq (repr_str g.asc hlen) ?_
  refine wO (ne_str (asc_repr g.asc).ok) (wTru ?_)
  walk_at "go"
  refine wp_eq (tuple_ref hl) ?_
  walk_at "go"
  refine wp_eq (row_text_ok (n := 57) .tup I ho g.nm C) ?_
  walk_at "go"
  refine wO (ne_str g.asc.ok) (wTru ?_)
  walk_at "go"
  have okw : ∀ s ∈ os.map outText, PyData.strOk s = true := fun s hs => by
    obtain ⟨o, ho, rfl⟩ := List.mem_map.mp hs
    exact (g.1 o ho).asc.ok
  refine (SeqV.ref hr).lc (f := enc) (g := fun o => some (.str (outText o))) rfl (Nat.le_trans ho.2 (by decide)) (fun o hm => ?_) ?_
  · refine eq_wp ?_
    rw [wp_lcF]
    walk_at "go"
    refine wp_eq (output_text_ok (n := 60) (It.enc o) (ho.1 o hm) C) ?_
    exact ⟨rfl, rfl⟩
  · have em : os.filterMap (fun o => some (VV.str (outText o))) = (os.map outText).map VV.str := by
      rw [List.map_map, List.filterMap_eq_map']
      rfl
    rw [em]
    have G1 := G0.lst (xs := (os.map outText).map VV.str) (n := 1) (fun x hx => by
      obtain ⟨s, _, rfl⟩ := List.mem_map.mp hx
      rfl)
    walk_at "go"
    refine wO (ne_strs at_snoc (at_keep hw) okw) (wTru ?_)
    walk_at "go"
    refine wp_eq (row_text_ok (n := 57) (.ref (at_keep hl)) I.keep ho g.nm G1.clo) ?_
    walk_at "go"
    refine wO (ne_str g.asc.ok) (wTru ?_)
    walk_at "go"
    refine wp_eq (g.read_row (n := 58) G1.clo) ?_
    walk_at "go"
    refine wp_eq g.repr ?_
    walk_at "go"
    refine wp_eq (tuple_ref (at_keep hr)) ?_
    walk_at "go"
    refine wp_eq g.repr ?_
    refine wO (ne_str g.ascR.ok) (wTru ?_)
    walk_at "go"
    refine wp_eq (g.read_row (n := 58) G1.clo) ?_
    walk_at "go"
    refine wp_eq (tuple_ref (at_keep hr)) ?_
    refine wO (ne_of_eq g.same) (wTru ?_)
    with_reducible apply wpB_nt'
    with_reducible apply wxs_nil'
    with_reducible apply nxt_nx'
    exact q _ G1.pen G1.clo (at_keep hr)
end
end K82
end Mini
end
section
set_option Elab.async false
set_option linter.all false
set_option maxRecDepth 100000
set_option maxHeartbeats 2000000
/-! Plain, part 26 (k82): bent rows, read. -/
namespace Mini
open PySem L2
open TL (tl)
local macro_rules | `(tactic| walk_at "go1") => `(tactic| first
  | with_reducible apply wxs_cons'
  | with_reducible apply wxs_nil'
  | ((with_reducible apply nxtN); focus (first | (simp only [List.set_cons_zero, List.set_cons_succ]; done) | (simp only [List.set_cons_zero, List.set_cons_succ]; exact rfl) | exact rfl))
  | with_reducible apply nxt_rt'
  | with_reducible apply nxt_bk'
  | with_reducible apply nxt_ct'
  | with_reducible apply we_var'
  | with_reducible apply we_cst'
  | with_reducible apply ws_cons'
  | with_reducible apply ws_nil'
  | ((with_reducible apply wSlot); exact rfl)
  | with_reducible apply we_fcl'
  | with_reducible apply we_cmp'
  | with_reducible apply we_idx'
  | with_reducible apply we_bin'
  | with_reducible apply wt_val'
  | with_reducible apply we_tup'
  | with_reducible apply we_lst'
  | with_reducible apply we_bcl'
  | with_reducible apply wx_set'
  | with_reducible apply wx_ret'
  | with_reducible apply wx_ife'
  | with_reducible apply wx_exp'
  | with_reducible apply wx_unp'
  | with_reducible apply wx_par'
  | with_reducible apply wx_sub'
  | with_reducible apply wx_rse'
  | with_reducible apply wx_brk'
  | with_reducible apply wx_cnt'
  | with_reducible apply wx_for'
  | with_reducible apply we_and'
  | with_reducible apply we_or'
  | with_reducible apply we_not'
  | with_reducible apply we_ife'
  | with_reducible apply we_neg'
  | with_reducible apply we_chn'
  | with_reducible apply we_dct'
  | with_reducible apply we_slc'
  | with_reducible apply we_att'
  | with_reducible apply we_isi'
  | with_reducible apply we_mcl'
  | with_reducible apply we_lc'
  | with_reducible apply we_fst'
  | with_reducible apply wf_nil'
  | with_reducible apply wf_cons'
  | with_reducible apply wt_yes'
  | with_reducible apply wt_and'
  | with_reducible apply wt_or'
  | with_reducible apply wt_not'
  | with_reducible apply endQ_rt'
  | with_reducible apply endQ_nx'
  | with_reducible apply wpB_t'
  | with_reducible apply wpB_f'
  | with_reducible apply wpB_nt'
  | with_reducible apply wpB_nf'
  | (with_reducible apply wTru)
  | ((with_reducible apply wBt); with_reducible assumption)
  | ((with_reducible apply wBf); with_reducible assumption)
  | ((with_reducible apply wGle); exact rfl)
  | ((with_reducible apply wGrs); exact rfl) | ((with_reducible apply wGrc); assumption)
  | ((with_reducible apply wGdc); exact rfl; exact rfl)
  | ((with_reducible apply wGeq); exact rfl)
  | ((with_reducible apply wOpt); exact rfl)
  | ((with_reducible apply wTup); exact rfl)
  | ((with_reducible apply wUnp); exact rfl)
  | ((with_reducible apply wTg); exact rfl)
  | ((with_reducible apply wNeg); exact rfl)
  | ((with_reducible apply wBop); exact rfl)
  | ((with_reducible apply wIsi (b := true)); (first | exact rfl | assumption); (first | exact rfl | assumption); focus (simp only [List.any_cons, List.any_nil, isTy, String.reduceBEq, String.reduceEq, beq_self_eq_true, Bool.and_false, Bool.false_and, Bool.or_false, Bool.false_or, Bool.or_true, Bool.true_or, Bool.and_self, Bool.or_self, Bool.true_and]; done))
  | ((with_reducible apply wIsi (b := false)); (first | exact rfl | assumption); (first | exact rfl | assumption); focus (simp only [List.any_cons, List.any_nil, isTy, String.reduceBEq, String.reduceEq, beq_self_eq_true, Bool.and_false, Bool.false_and, Bool.or_false, Bool.false_or, Bool.or_true, Bool.true_or, Bool.and_self, Bool.or_self, Bool.true_and]; done)))
local macro_rules | `(tactic| walk_at "go") => `(tactic| (repeat walk_at "go1"))
theorem numL_bound : ∀ n : Nat, n < 10 ^ (TL.numL n).length := by
  intro n
  induction n using Nat.strongRecOn with
  | ind n ih =>
    by_cases h : n < 10
    · rw [TL.numL_lt h]
      exact h
    · have h : 10 ≤ n := by omega
      have := ih (n / 10) (by omega)
      rw [TL.numL_step h, List.length_append, List.length_singleton, Nat.pow_succ]
      omega
namespace K82
/-- a word of a bent row -/
def GoodW (w : Str) : Prop := Asc w ∧ (tl w).length ≤ 100 ∧ 32 ∉ tl w
theorem read_word {w : Str} {o : Out} (h : readOut w = some o) : outText o = w ∧ isName o.1 = true := by
  unfold readOut at h
  rcases part_cases w with ⟨hn, e⟩ | ⟨a, b, e1, hn, e⟩
  · rw [e] at h
    dsimp only at h
    by_cases q : isName w = true
    · rw [if_pos q, if_pos (by decide)] at h
      cases h
      exact ⟨rfl, q⟩
    · rw [if_neg q] at h
      cases h
  · rw [e] at h
    dsimp only at h
    by_cases q : isName a = true
    · rw [if_pos q, if_neg (by decide +kernel)] at h
      by_cases qc : canS b = true
      · obtain ⟨k, hk, hs⟩ := can_read (s := b) qc
        rw [if_pos qc, hk] at h
        cases h
        refine ⟨?_, q⟩
        show a ++ ("=" : Str) ++ Str.ofString (toString k) = w
        rw [hs, e1]
      · rw [if_neg qc] at h
        cases h
    · rw [if_neg q] at h
      cases h
theorem GoodW.ok {w : Str} (g : GoodW w) : Ok w := ⟨g.1.ok, by rw [TL.len_tl]; have := g.2.1; omega⟩
theorem read_okW {w : Str} {o : Out} (g : GoodW w) (h : readOut w = some o) : OutOk o := by
  obtain ⟨e, hn⟩ := read_word h
  have hl := g.2.1
  obtain ⟨v, i⟩ := o
  have hv := name_chr hn
  have av : Asc v := fun c hc => by have := hv.1 c hc; omega
  refine ⟨⟨av.ok, by rw [TL.len_tl]; have := hv.2.2; omega⟩, fun n en => ?_, by rw [e, TL.len_tl]; omega⟩
  have en : i = some n := en
  subst en
  have e2 := congrArg tl e
  have e2 : tl (v ++ ("=" : Str) ++ Str.ofString (toString n)) = tl w := e2
  rw [TL.tl_append, TL.tl_append] at e2
  have e3 := congrArg List.length e2
  rw [List.length_append, List.length_append] at e3
  have hd : (TL.numL n.natAbs).length ≤ 100 := by
    rcases tl_toS n with ⟨_, e4⟩ | ⟨_, _, e4⟩
    · rw [e4] at e3; omega
    · rw [e4, List.length_cons] at e3; omega
  have hb := Nat.lt_of_lt_of_le (numL_bound n.natAbs) (Nat.pow_le_pow_right (by decide) hd)
  by_cases h0 : n.natAbs = 0
  · rw [h0]; decide
  · exact (Nat.log2_lt h0).mpr (Nat.lt_of_lt_of_le hb (by decide +kernel))
theorem split_all : ∀ ws : List Str, (∃ os : List Out, ws.map readOut = os.map some) ∨ ∃ pre w post, ws = pre ++ w :: post ∧ (∀ w ∈ pre, (readOut w).isSome = true) ∧ readOut w = none
  | [] => .inl ⟨[], rfl⟩
  | w :: ws => by
    cases e : readOut w with
    | none => exact .inr ⟨[], w, ws, rfl, (fun x hx => nomatch hx), e⟩
    | some o =>
      rcases split_all ws with ⟨os, h⟩ | ⟨pre, w', post, h1, h2, h3⟩
      · exact .inl ⟨o :: os, by rw [List.map_cons, List.map_cons, e, h]⟩
      · refine .inr ⟨w :: pre, w', post, by rw [h1]; rfl, fun x hx => ?_, h3⟩
        rcases List.mem_cons.mp hx with rfl | hx
        · rw [e]; rfl
        · exact h2 x hx
theorem pre_some {pre : List Str} {os : List Out} (h : pre.map readOut = os.map some) : ∀ w ∈ pre, (readOut w).isSome = true := fun w hw => by
  have h1 : readOut w ∈ pre.map readOut := List.mem_map_of_mem hw
  rw [h] at h1
  obtain ⟨o, _, e⟩ := List.mem_map.mp h1
  rw [← e]
  rfl
theorem fault_at {w0 : Str} {ws pre post : List Str} {w : Str} (h0 : w0 ≠ ("-" : Str)) (e : w0 :: ws = pre ++ w :: post) (h1 : ∀ w ∈ pre, (readOut w).isSome = true) (h2 : readOut w = none) : faultV (w0 :: ws) = .int ((pre.length : Nat) : Int) := by
  obtain ⟨r, er⟩ := badIx_first (i := 0) (post := post) h1 h2
  unfold faultV
  dsimp only
  rw [if_neg (by rw [beq_eq_false_iff_ne.mpr h0]; exact Bool.false_ne_true), e, er]
  show VV.int ((0 + pre.length : Nat) : Int) = _
  rw [Nat.zero_add]
theorem bent {n : Nat} {h : VH} {w0 : Str} {ws : List Str} (g : ∀ w ∈ w0 :: ws, GoodW w) (hl : ws.length ≤ 100) (c : Clo h) :
    (faultV (w0 :: ws) = .non ∧ ∃ os, RowOk os ∧ (∀ o ∈ os, isName o.1 = true) ∧ rowText os = Txt.join spC (w0 :: ws) ∧ run PK (n + 3) 8 noCl (some [.str (Txt.join spC (w0 :: ws))]) h = .ok (.tup (os.map enc)) h) ∨
    ∃ j : Nat, faultV (w0 :: ws) = .int (j : Int) ∧ run PK (n + 3) 8 noCl (some [.str (Txt.join spC (w0 :: ws))]) h = .exc 2 ["line", "word"] [.int 0, .int (j : Int)] h := by
  have e1 : tl spC = 32 :: [] := by decide
  obtain ⟨s, es⟩ : ∃ s, s = Txt.join spC (w0 :: ws) := ⟨_, rfl⟩
  have ha : Asc s := by
    rw [es, TL.join_eq]
    exact asc_join (asc_lit (by decide +kernel)) fun p hp => (g p hp).1
  have hs : s.length ≤ 100000 := by
    rw [es, TL.join_eq]
    have h1 := StrLaws.join_length_le spC (w0 :: ws)
    have h2 := sum_le (f := fun w : Str => w.length) (B := 100) (l := w0 :: ws) fun w hw => by
      show w.length ≤ 100
      rw [TL.len_tl]
      exact (g w hw).2.1
    have h3 : spC.length = 1 := by decide
    rw [List.length_cons, h3] at h1
    have h5 : (w0 :: ws).length * 100 ≤ 101 * 100 := Nat.mul_le_mul_right _ (by rw [List.length_cons]; omega)
    have h6 : (List.map (fun x => x.length) (w0 :: ws)).sum = ((w0 :: ws).map fun w : Str => w.length).sum := rfl
    omega
  have ho : Ok s := ⟨ha.ok, hs⟩
  have W : Words s (w0 :: ws) := ⟨by
    rw [es]
    exact TL.split_join e1 (by decide +kernel) (by simp) fun p hp => (g p hp).2.2, fun w hw => (g w hw).ok, by rw [List.length_cons]; omega⟩
  rw [← es]
  by_cases h0 : w0 = ("-" : Str)
  · subst h0
    cases ws with
    | nil =>
      have n1 : ∀ o ∈ ([] : List Out), OutOk o := fun o ho => nomatch ho
      have n2 : ∀ o ∈ ([] : List Out), isName o.1 = true := fun o ho => nomatch ho
      refine .inl ⟨?_, [], ⟨n1, Nat.zero_le _⟩, n2, ?_, read_row_dash1 (n := n + 2) ho W c⟩
      · unfold faultV
        dsimp only
        rw [if_pos (by decide)]
        rfl
      · rw [es]
        decide +kernel
    | cons w ws =>
      refine .inr ⟨1, ?_, read_row_dash2 (n := n + 2) ho W c⟩
      unfold faultV
      dsimp only
      rw [if_pos (by decide)]
      rfl
  · rcases split_all (w0 :: ws) with ⟨os, e⟩ | ⟨pre, w, post, q1, q2, q3⟩
    · have al := pre_some e
      have bk : os.map outText = w0 :: ws ∧ (∀ o ∈ os, OutOk o ∧ isName o.1 = true) := by
        clear al W ha hs ho es hl h0
        revert os
        generalize w0 :: ws = l at g
        induction l with
        | nil =>
          intro os e
          cases os with
          | nil => exact ⟨rfl, fun o ho => nomatch ho⟩
          | cons _ _ => cases e
        | cons w l ih =>
          intro os e
          cases os with
          | nil => cases e
          | cons o os =>
            rw [List.map_cons, List.map_cons] at e
            injection e with e2 e3
            obtain ⟨i1, i2⟩ := ih (fun x hx => g x (List.mem_cons_of_mem _ hx)) os e3
            refine ⟨by rw [List.map_cons, i1, (read_word e2).1], fun p hp => ?_⟩
            rcases List.mem_cons.mp hp with rfl | hp
            · exact ⟨read_okW (g w List.mem_cons_self) e2, (read_word e2).2⟩
            · exact i2 p hp
      have ll : os.length = ws.length + 1 := by
        have := congrArg List.length bk.1
        rw [List.length_map] at this
        exact this
      refine .inl ⟨?_, os, ⟨fun o ho => (bk.2 o ho).1, by omega⟩, fun o ho => (bk.2 o ho).2, ?_, eq_wp (read_row_walk ho W h0 c (fun pre w post os' e1 e2 e3 => ?_) fun os' e' => ?_)⟩
      · unfold faultV
        dsimp only
        rw [if_neg (by rw [beq_eq_false_iff_ne.mpr h0]; exact Bool.false_ne_true), badIx_good al]
      · unfold rowText
        cases os with
        | nil => cases ll
        | cons o os => rw [bk.1, es]; rfl
      · have := al w (by rw [e1]; simp)
        rw [e3] at this
        cases this
      · have := map_some_inj (e.symm.trans e')
        rw [this]
        exact ⟨rfl, rfl⟩
    · have hf := fault_at h0 q1 q2 q3
      refine .inr ⟨pre.length, hf, eq_wpX (read_row_walk ho W h0 c (fun pre' w' post' os' e1 e2 e3 => ?_) fun os' e' => ?_)⟩
      · have hf' := fault_at h0 e1 (pre_some e2) e3
        rw [hf] at hf'
        injection hf' with hf'
        exact ⟨rfl, rfl, by rw [hf'], rfl⟩
      · have := pre_some e' w (by rw [q1]; simp)
        rw [q3] at this
        cases this
end K82
end Mini
end
section
set_option Elab.async false
set_option linter.all false
set_option maxRecDepth 100000
set_option maxHeartbeats 2000000
/-! Plain, part 27 (k82): a bent row's turn. -/
namespace Mini
open PySem L2
open TL (tl)
local macro_rules | `(tactic| walk_at "go1") => `(tactic| first
  | with_reducible apply wxs_cons'
  | with_reducible apply wxs_nil'
  | ((with_reducible apply nxtN); focus (first | (simp only [List.set_cons_zero, List.set_cons_succ]; done) | (simp only [List.set_cons_zero, List.set_cons_succ]; exact rfl) | exact rfl))
  | with_reducible apply nxt_rt'
  | with_reducible apply nxt_bk'
  | with_reducible apply nxt_ct'
  | with_reducible apply we_var'
  | with_reducible apply we_cst'
  | with_reducible apply ws_cons'
  | with_reducible apply ws_nil'
  | ((with_reducible apply wSlot); exact rfl)
  | with_reducible apply we_fcl'
  | with_reducible apply we_cmp'
  | with_reducible apply we_idx'
  | with_reducible apply we_bin'
  | with_reducible apply wt_val'
  | with_reducible apply we_tup'
  | with_reducible apply we_lst'
  | with_reducible apply we_bcl'
  | with_reducible apply wx_set'
  | with_reducible apply wx_ret'
  | with_reducible apply wx_ife'
  | with_reducible apply wx_exp'
  | with_reducible apply wx_unp'
  | with_reducible apply wx_par'
  | with_reducible apply wx_sub'
  | with_reducible apply wx_rse'
  | with_reducible apply wx_brk'
  | with_reducible apply wx_cnt'
  | with_reducible apply wx_for'
  | with_reducible apply we_and'
  | with_reducible apply we_or'
  | with_reducible apply we_not'
  | with_reducible apply we_ife'
  | with_reducible apply we_neg'
  | with_reducible apply we_chn'
  | with_reducible apply we_dct'
  | with_reducible apply we_slc'
  | with_reducible apply we_att'
  | with_reducible apply we_isi'
  | with_reducible apply we_mcl'
  | with_reducible apply we_lc'
  | with_reducible apply we_fst'
  | with_reducible apply wf_nil'
  | with_reducible apply wf_cons'
  | with_reducible apply wt_yes'
  | with_reducible apply wt_and'
  | with_reducible apply wt_or'
  | with_reducible apply wt_not'
  | with_reducible apply endQ_rt'
  | with_reducible apply endQ_nx'
  | with_reducible apply wpB_t'
  | with_reducible apply wpB_f'
  | with_reducible apply wpB_nt'
  | with_reducible apply wpB_nf'
  | (with_reducible apply wTru)
  | ((with_reducible apply wBt); with_reducible assumption)
  | ((with_reducible apply wBf); with_reducible assumption)
  | ((with_reducible apply wGle); exact rfl)
  | ((with_reducible apply wGrs); exact rfl) | ((with_reducible apply wGrc); assumption)
  | ((with_reducible apply wGdc); exact rfl; exact rfl)
  | ((with_reducible apply wGeq); exact rfl)
  | ((with_reducible apply wOpt); exact rfl)
  | ((with_reducible apply wTup); exact rfl)
  | ((with_reducible apply wUnp); exact rfl)
  | ((with_reducible apply wTg); exact rfl)
  | ((with_reducible apply wNeg); exact rfl)
  | ((with_reducible apply wBop); exact rfl)
  | ((with_reducible apply wIsi (b := true)); (first | exact rfl | assumption); (first | exact rfl | assumption); focus (simp only [List.any_cons, List.any_nil, isTy, String.reduceBEq, String.reduceEq, beq_self_eq_true, Bool.and_false, Bool.false_and, Bool.or_false, Bool.false_or, Bool.or_true, Bool.true_or, Bool.and_self, Bool.or_self, Bool.true_and]; done))
  | ((with_reducible apply wIsi (b := false)); (first | exact rfl | assumption); (first | exact rfl | assumption); focus (simp only [List.any_cons, List.any_nil, isTy, String.reduceBEq, String.reduceEq, beq_self_eq_true, Bool.and_false, Bool.false_and, Bool.or_false, Bool.false_or, Bool.or_true, Bool.true_or, Bool.and_self, Bool.or_self, Bool.true_and]; done)))
local macro_rules | `(tactic| walk_at "go") => `(tactic| (repeat walk_at "go1"))
theorem cut_map {α β : Type} {f : α → β} {l : List α} {lo hi : Option Int} : cutL (l.map f) lo hi = (cutL l lo hi).map f := by
  unfold cutL
  rw [List.length_map, List.map_take, List.map_drop]
theorem cut_mem {α : Type} {l : List α} {lo hi : Option Int} {x : α} (h : x ∈ cutL l lo hi) : x ∈ l := List.mem_of_mem_drop (List.mem_of_mem_take h)
theorem cut_len {α : Type} {l : List α} {lo hi : Option Int} : (cutL l lo hi).length ≤ l.length := by
  unfold cutL
  rw [List.length_take, List.length_drop]
  omega
theorem slc_strs {h : VH} {k : Nat} {ws : List Str} {lo hi : Option Int} (e : h[k]? = some (.lst (ws.map VV.str))) : slcS (.ref k) lo hi h = .ok (.ref h.length) (h ++ [.lst ((cutL ws lo hi).map VV.str)]) := by
  rw [slc_ref e, cut_map]
theorem add_strs {h : VH} {a b : Nat} {xs ys : List Str} (e1 : h[a]? = some (.lst (xs.map VV.str))) (e2 : h[b]? = some (.lst (ys.map VV.str))) (hl : xs.length + ys.length ≤ 100000) : bopS .add (.ref a) (.ref b) h = .ok (.ref h.length) (h ++ [.lst ((xs ++ ys).map VV.str)]) := by
  rw [add_ref e1 e2 (by rw [List.length_map, List.length_map]; exact hl), List.map_append]
theorem mul_txt {h : VH} {a : Str} {j : Int} (g : 1 < j ∧ j ≤ 100000 ∧ a.length = 1) : bopS .mul (.str a) (.int j) h = .ok (.str (Txt.mul a j)) h := by
  show repB .mul a j h = _
  unfold repB
  dsimp only
  rw [if_pos g]
theorem we_hcl' {N : Env'} {g : Nat} {body : Mini.E} {σ : Sl} {h : VH} {Q : VV → VH → Prop} {E : XP} (q : (N.hc g (fun fn h' => ev { N with fn := fn, hc := fun _ _ _ => .bad, cl := fun _ _ => .bad } body σ h') h).wp Q E) : (ev N (.hcl g body) σ h).wp Q E := by
  unfold ev
  exact q
theorem add_one {h : VH} {p : Nat} : bopS .add (.int (p : Int)) (.int 1) h = .ok (.int ((p : Int) + 1)) h := rfl
namespace K82
def odds : List Str := ["", "-", "a=", "=1", "a=01", "a=-0", "a=1=2", "A", "a1", "abcdefghi", "a=+1", "no", "yes=-3", ("a=" : Str) ++ Txt.mul "1" 30]
theorem odds_ok : ∀ w ∈ odds, GoodW w := by
  have : (odds.all fun w => ((tl w).all fun c => decide (c < 128)) && (decide ((tl w).length ≤ 100) && !decide (32 ∈ tl w))) = true := by decide +kernel
  intro w hw
  have h := List.all_eq_true.mp this w hw
  simp only [Bool.and_eq_true, List.all_eq_true, decide_eq_true_eq, Bool.not_eq_true', decide_eq_false_iff_not] at h
  exact h
theorem GoodR.wgood {os : List Out} (g : GoodR os) : ∀ w ∈ rowWords os, GoodW w := fun w hw => by
  unfold rowWords at hw
  split at hw
  · rw [List.mem_singleton.mp hw]
    exact ⟨asc_lit (by decide +kernel), by decide, by decide⟩
  · obtain ⟨o, ho, rfl⟩ := List.mem_map.mp hw
    have := (g.1 o ho).len
    exact ⟨(g.1 o ho).asc, by rw [← TL.len_tl]; omega, (g.1 o ho).sp⟩
theorem GoodR.wlen {os : List Out} (g : GoodR os) : 0 < (rowWords os).length ∧ (rowWords os).length ≤ 50 := by
  unfold rowWords
  cases os with
  | nil => exact ⟨by decide, by decide⟩
  | cons o os =>
    have := g.2
    show 0 < ((o :: os).map outText).length ∧ ((o :: os).map outText).length ≤ 50
    rw [List.length_map]
    exact ⟨by simp, this⟩
section
variable {h : VH} {QF : Fl → VH → Prop} {E : XP} {k c m r kw : Nat} {os : List Out} {ws : List Str} {a0 a1 a2 a3 a4 a5 a6 a7 a8 a9 a10 a11 a12 a13 a15 a16 : Option VV}
theorem odd_part (P : Pen h k c m) (hm : m + 700 ≤ 1000000) (C : Clo h) (g : GoodR os) (hr : h[r]? = some (.lst (os.map enc))) (rk : r ≠ k)
    (q : ∀ (h' : VH) (kw p : Nat) (odd : Str), odd ∈ odds → Pen h' k c (m + 2) → Clo h' → h'[r]? = some (.lst (os.map enc)) → h'[kw]? = some (.lst ((rowWords os).map VV.str)) →
      (exs (envP PK 61) (tailS 3 b_inn) [a0, a1, a2, some (.str (rowText os)), a4, a5, some (.ref kw), some (.int (p : Int)), some (.str odd), a9, a10, a11, a12, a13, some (.ref k), a15, a16] h').wp QF E) :
    (exs (envP PK 61) b_inn [a0, a1, a2, some (.str (rowText os)), a4, a5, a6, a7, a8, a9, a10, a11, a12, a13, some (.ref k), a15, a16] h).wp QF E := by
  have G0 := PenG.refl P C
  have k0 := P.upd_lt
  have hz : (rowText os).length + 2 ≤ sizeLine := by
    have := g.len
    have : sizeLine = 16777216 := by decide
    omega
  have wl := g.wlen
  unfold b_inn b_out b_law
  simp only [tailS, forB]
  walk_at "go"
  refine wp_eq (split_okP (by decide) hz) ?_
  rw [g.words.e]
  have G1 := G0.lst (xs := (rowWords os).map VV.str) (n := 1) (fun x hx => by
    obtain ⟨s, _, rfl⟩ := List.mem_map.mp hx
    rfl)
  walk_at "go"
  refine wp_eq (SeqV.ref at_snoc).len ?_
  walk_at "go"
  refine draw_wp (n := 60) G1.pen (by omega) G1.clo (by rw [List.length_map]; omega) (by rw [List.length_map]; omega) fun d h2 d0 d1 P2 C2 u2 => ?_
  obtain ⟨p, rfl⟩ : ∃ p : Nat, d = (p : Int) := ⟨d.toNat, by omega⟩
  walk_at "go"
  refine wp_eq (mul_txt (by decide)) ?_
  refine wp_eq (add_str (by decide +kernel)) ?_
  walk_at "go"
  have r2 : h2[r]? = some (.lst (os.map enc)) := by rw [u2.oth _ rk]; exact at_keep hr
  have w2 : h2[h.length]? = some (.lst ((rowWords os).map VV.str)) := by rw [u2.oth _ (by omega)]; exact at_snoc
  have G2 := (G1.upd P2 C2 u2).lst (xs := odds.map VV.str) (n := 1) (fun x hx => by
    obtain ⟨s, _, rfl⟩ := List.mem_map.mp hx
    rfl)
  have l2 : h2.length = h.length + 1 := by rw [u2.len]; simp
  refine pick_wp (n := 59) (xs := odds.map VV.str) G2.pen (by omega) G2.clo (.ref at_snoc) (fun z => by injection z with z; omega) (by simp [odds]) (by simp [odds]) (fun y hy => .inl ?_) fun y hy h3 P3 C3 u3 => ?_
  · obtain ⟨s, _, rfl⟩ := List.mem_map.mp hy
    rfl
  · obtain ⟨s, hs, rfl⟩ := List.mem_map.mp hy
    with_reducible apply nxt_nx'
    exact q h3 h.length p s hs P3 C3 (by rw [u3.oth _ rk]; exact at_keep r2) (by rw [u3.oth _ (by omega)]; exact at_keep w2)
end
end K82
end Mini
end
section
set_option Elab.async false
set_option linter.all false
set_option maxRecDepth 100000
set_option maxHeartbeats 2000000
/-! Plain, part 28 (k82): the bent row. -/
namespace Mini
open PySem L2
open TL (tl)
local macro_rules | `(tactic| walk_at "go1") => `(tactic| first
  | with_reducible apply wxs_cons'
  | with_reducible apply wxs_nil'
  | ((with_reducible apply nxtN); focus (first | (simp only [List.set_cons_zero, List.set_cons_succ]; done) | (simp only [List.set_cons_zero, List.set_cons_succ]; exact rfl) | exact rfl))
  | with_reducible apply nxt_rt'
  | with_reducible apply nxt_bk'
  | with_reducible apply nxt_ct'
  | with_reducible apply we_var'
  | with_reducible apply we_cst'
  | with_reducible apply ws_cons'
  | with_reducible apply ws_nil'
  | ((with_reducible apply wSlot); exact rfl)
  | with_reducible apply we_fcl'
  | with_reducible apply we_cmp'
  | with_reducible apply we_idx'
  | with_reducible apply we_bin'
  | with_reducible apply wt_val'
  | with_reducible apply we_tup'
  | with_reducible apply we_lst'
  | with_reducible apply we_bcl'
  | with_reducible apply wx_set'
  | with_reducible apply wx_ret'
  | with_reducible apply wx_ife'
  | with_reducible apply wx_exp'
  | with_reducible apply wx_unp'
  | with_reducible apply wx_par'
  | with_reducible apply wx_sub'
  | with_reducible apply wx_rse'
  | with_reducible apply wx_brk'
  | with_reducible apply wx_cnt'
  | with_reducible apply wx_for'
  | with_reducible apply we_and'
  | with_reducible apply we_or'
  | with_reducible apply we_not'
  | with_reducible apply we_ife'
  | with_reducible apply we_neg'
  | with_reducible apply we_chn'
  | with_reducible apply we_dct'
  | with_reducible apply we_slc'
  | with_reducible apply we_att'
  | with_reducible apply we_isi'
  | with_reducible apply we_mcl'
  | with_reducible apply we_lc'
  | with_reducible apply we_fst'
  | with_reducible apply wf_nil'
  | with_reducible apply wf_cons'
  | with_reducible apply wt_yes'
  | with_reducible apply wt_and'
  | with_reducible apply wt_or'
  | with_reducible apply wt_not'
  | with_reducible apply endQ_rt'
  | with_reducible apply endQ_nx'
  | with_reducible apply wpB_t'
  | with_reducible apply wpB_f'
  | with_reducible apply wpB_nt'
  | with_reducible apply wpB_nf'
  | (with_reducible apply wTru)
  | ((with_reducible apply wBt); with_reducible assumption)
  | ((with_reducible apply wBf); with_reducible assumption)
  | ((with_reducible apply wGle); exact rfl)
  | ((with_reducible apply wGrs); exact rfl) | ((with_reducible apply wGrc); assumption)
  | ((with_reducible apply wGdc); exact rfl; exact rfl)
  | ((with_reducible apply wGeq); exact rfl)
  | ((with_reducible apply wOpt); exact rfl)
  | ((with_reducible apply wTup); exact rfl)
  | ((with_reducible apply wUnp); exact rfl)
  | ((with_reducible apply wTg); exact rfl)
  | ((with_reducible apply wNeg); exact rfl)
  | ((with_reducible apply wBop); exact rfl)
  | ((with_reducible apply wIsi (b := true)); (first | exact rfl | assumption); (first | exact rfl | assumption); focus (simp only [List.any_cons, List.any_nil, isTy, String.reduceBEq, String.reduceEq, beq_self_eq_true, Bool.and_false, Bool.false_and, Bool.or_false, Bool.false_or, Bool.or_true, Bool.true_or, Bool.and_self, Bool.or_self, Bool.true_and]; done))
  | ((with_reducible apply wIsi (b := false)); (first | exact rfl | assumption); (first | exact rfl | assumption); focus (simp only [List.any_cons, List.any_nil, isTy, String.reduceBEq, String.reduceEq, beq_self_eq_true, Bool.and_false, Bool.false_and, Bool.or_false, Bool.false_or, Bool.or_true, Bool.true_or, Bool.and_self, Bool.or_self, Bool.true_and]; done)))
local macro_rules | `(tactic| walk_at "go") => `(tactic| (repeat walk_at "go1"))
namespace K82
section
variable {h : VH} {QF : Fl → VH → Prop} {E : XP} {k c m r kw p : Nat} {os : List Out} {ws : List Str} {odd : Str} {a0 a1 a2 a3 a4 a5 a6 a7 a8 a9 a10 a11 a12 a13 a15 a16 : Option VV}
theorem tr_strs {ss : List Str} : ∀ x ∈ ss.map VV.str, tr 1 x = true := fun x hx => by
  obtain ⟨s, _, rfl⟩ := List.mem_map.mp hx
  rfl
theorem mid_ev {N : Env'} {lo : Mini.E} {σ : Sl} {i : Int} {h0 : VH} {Q : VV → VH → Prop} (e6 : slotV σ 6 = some (.ref kw)) (e7 : slotV σ 7 = some (.int (p : Int))) (e8 : slotV σ 8 = some (.str odd)) (hlo : ∀ h', ev N lo σ h' = .ok (.int i) h') (hw : h[kw]? = some (.lst (ws.map VV.str))) (G : PenG k c m h0 h) (hl : ws.length ≤ 1000)
    (q : ∀ (l : VH) (j : Nat), PenG k c m h0 (h ++ l) → (h ++ l)[j]? = some (.lst ((cutL ws none (some (p : Int)) ++ [odd] ++ cutL ws (some i) none).map VV.str)) → Q (.ref j) (h ++ l)) :
    (ev N (.bin .add (.bin .add (.slc (.var 6) .nil (.cons (.var 7) .nil)) (.lst (.cons (.var 8) .nil))) (.slc (.var 6) (.cons lo .nil) .nil)) σ h).wp Q E := by
  have l1 := cut_len (l := ws) (lo := none) (hi := some (p : Int))
  have l2 := cut_len (l := ws) (lo := some i) (hi := none)
  refine we_bin' (we_bin' (we_slc' (we_var' (wSlot e6 ?_))))
  refine ws_nil' (wOpt rfl (ws_cons' (we_var' (wSlot e7 (ws_nil' (wOpt rfl ?_))))))
  refine wp_eq (slc_strs hw) ?_
  refine we_lst' (ws_cons' (we_var' (wSlot e8 (ws_nil' (wGle rfl ?_)))))
  refine wp_eq (add_strs (ys := [odd]) (at_keep at_snoc) at_snoc (by rw [List.length_singleton]; omega)) ?_
  refine we_slc' (we_var' (wSlot e6 ?_))
  refine ws_cons' (wp_eq (hlo _) (ws_nil' (wOpt rfl (ws_nil' (wOpt rfl ?_)))))
  refine wp_eq (slc_strs (at_keep (at_keep (at_keep hw)))) ?_
  refine wp_eq (add_strs (at_keep at_snoc) at_snoc (by rw [List.length_append, List.length_singleton]; omega)) ?_
  have G1 := (((((G.lst (tr_strs (ss := cutL ws none (some (p : Int))))).lst (tr_strs (ss := [odd]))).lst (tr_strs (ss := cutL ws none (some (p : Int)) ++ [odd]))).lst (tr_strs (ss := cutL ws (some i) none))).lst (tr_strs (ss := cutL ws none (some (p : Int)) ++ [odd] ++ cutL ws (some i) none)))
  have key := q ([.lst ((cutL ws none (some (p : Int))).map VV.str)] ++ [.lst ([odd].map VV.str)] ++ [.lst ((cutL ws none (some (p : Int)) ++ [odd]).map VV.str)] ++ [.lst ((cutL ws (some i) none).map VV.str)] ++ [.lst ((cutL ws none (some (p : Int)) ++ [odd] ++ cutL ws (some i) none).map VV.str)])
  simp only [← List.append_assoc] at key
  refine key _ ?_ ?_
  · exact G1
  · exact at_snoc
theorem later_part (P : Pen h k c m) (hm : m + 700 ≤ 1000000) (C : Clo h) (hr : h[r]? = some (.lst (os.map enc))) (rk : r ≠ k) (hw : h[kw]? = some (.lst (ws.map VV.str))) (gw : ∀ w ∈ ws, GoodW w) (hl : ws.length ≤ 50) (go : GoodW odd)
    (q : ∀ (h' : VH) (j : Nat) (w0 : Str) (wz : List Str), (∀ w ∈ w0 :: wz, GoodW w) → wz.length ≤ 100 → Pen h' k c (m + 1) → Clo h' → h'[r]? = some (.lst (os.map enc)) → h'[j]? = some (.lst ((w0 :: wz).map VV.str)) →
      (exs (envP PK 61) (tailS 4 b_inn) [a0, a1, a2, a3, a4, a5, some (.ref kw), some (.int (p : Int)), some (.str odd), a9, a10, a11, a12, some (.ref j), some (.ref k), a15, a16] h').wp QF E) :
    (exs (envP PK 61) (tailS 3 b_inn) [a0, a1, a2, a3, a4, a5, some (.ref kw), some (.int (p : Int)), some (.str odd), a9, a10, a11, a12, a13, some (.ref k), a15, a16] h).wp QF E := by
  have G0 := PenG.refl P C
  have k0 := P.upd_lt
  unfold b_inn b_out b_law
  simp only [tailS, forB]
  refine wxs_cons' (wx_set' (we_fcl' (ws_cons' (we_var' (wSlot rfl (ws_cons' (we_lst' (ws_cons' ?_))))))))
  refine mid_ev (i := (p : Int) + 1) rfl rfl rfl (fun h' => eq_wp (we_bin' (we_var' (wSlot rfl (we_cst' (wp_eq add_one ⟨rfl, rfl⟩)))))) hw G0 (by omega) fun l1 j1 G1 w1 => ?_
  refine ws_cons' ?_
  refine mid_ev (i := (p : Int)) rfl rfl rfl (fun h' => eq_wp (we_var' (wSlot rfl ⟨rfl, rfl⟩))) (at_keep hw) G1 (by omega) fun l2 j2 G2 w2 => ?_
  refine ws_cons' (we_bin' (we_var' (wSlot rfl (we_lst' (ws_cons' (we_var' (wSlot rfl (ws_nil' (wGle rfl ?_)))))))))
  refine wp_eq (add_strs (ys := [odd]) (at_keep (at_keep (at_keep hw))) at_snoc (by rw [List.length_singleton]; omega)) ?_
  have G4 := (G2.lst (tr_strs (ss := [odd]))).lst (tr_strs (ss := ws ++ [odd]))
  refine ws_nil' (wGle rfl (ws_nil' ?_))
  obtain ⟨z, ez⟩ : ∃ z, z = h ++ l1 ++ l2 ++ [Ob.lst ([odd].map VV.str)] ++ [Ob.lst ((ws ++ [odd]).map VV.str)] := ⟨_, rfl⟩
  obtain ⟨j3, e3⟩ : ∃ j3, j3 = (h ++ l1 ++ l2 ++ [Ob.lst ([odd].map VV.str)]).length := ⟨_, rfl⟩
  have q1 : z[j1]? = some (.lst ((cutL ws none (some (p : Int)) ++ [odd] ++ cutL ws (some ((p : Int) + 1)) none).map VV.str)) := by rw [ez]; exact at_keep (at_keep (at_keep w1))
  have q2 : z[j2]? = some (.lst ((cutL ws none (some (p : Int)) ++ [odd] ++ cutL ws (some (p : Int)) none).map VV.str)) := by rw [ez]; exact at_keep (at_keep w2)
  have q3 : z[j3]? = some (.lst ((ws ++ [odd]).map VV.str)) := by rw [ez, e3]; exact at_snoc
  have qr : z[r]? = some (.lst (os.map enc)) := by rw [ez]; exact at_keep (at_keep (at_keep (at_keep hr)))
  show (run PK 61 11 noCl (some [.ref k, .ref (h ++ l1 ++ l2 ++ [Ob.lst ([odd].map VV.str)] ++ [Ob.lst ((ws ++ [odd]).map VV.str)]).length]) (h ++ l1 ++ l2 ++ [Ob.lst ([odd].map VV.str)] ++ [Ob.lst ((ws ++ [odd]).map VV.str)] ++ [Ob.lst [.ref j1, .ref j2, .ref (h ++ l1 ++ l2 ++ [Ob.lst ([odd].map VV.str)]).length]])).wp _ _
  rw [← ez] at G4 ⊢
  rw [← e3]
  have d1 := (List.getElem?_eq_some_iff.mp q1).1
  have d2 := (List.getElem?_eq_some_iff.mp q2).1
  have d3 := (List.getElem?_eq_some_iff.mp q3).1
  have zk := G4.lt.1
  have G5 := G4.snoc (o := .lst [.ref j1, .ref j2, .ref j3]) (by
    show cloL _ _ = true
    rw [cloL_all]
    intro x hx
    simp only [List.mem_cons, List.not_mem_nil, or_false] at hx
    rcases hx with rfl | rfl | rfl <;> (unfold clo; rw [Nat.blt_eq]; omega))
  refine pick_wp (n := 59) G5.pen (by omega) G5.clo (.ref at_snoc) (fun z => by injection z with z; omega) (by simp) (by simp) (fun y hy => .inr ?_) fun y hy h3 P3 C3 u3 => ?_
  · simp only [List.mem_cons, List.not_mem_nil, or_false] at hy
    rcases hy with rfl | rfl | rfl <;> exact ⟨_, rfl, by rw [List.length_append]; omega⟩
  · have lm : ∀ x : List Str, (∀ w ∈ x, w ∈ ws ∨ w = odd) → x ≠ [] → x.length ≤ 101 → ∀ j, j ≠ k → z[j]? = some (.lst (x.map VV.str)) → y = .ref j → (exs (envP PK 61) (tailS 4 b_inn) [a0, a1, a2, a3, a4, a5, some (.ref kw), some (.int (p : Int)), some (.str odd), a9, a10, a11, a12, some y, some (.ref k), a15, a16] h3).wp QF E := fun x hx hn hxl j jk ej ey => by
      subst ey
      cases x with
      | nil => exact absurd rfl hn
      | cons w0 wz =>
        refine q h3 j w0 wz (fun w hw => ?_) (by rw [List.length_cons] at hxl; omega) P3 C3 (by rw [u3.oth _ rk]; exact at_keep qr) (by rw [u3.oth _ jk]; exact at_keep ej)
        rcases hx w hw with hw | rfl
        · exact gw w hw
        · exact go
    have pk : ∀ (j : Nat) (x : List Str), z[j]? = some (.lst (x.map VV.str)) → j ≠ k := fun j x ej e => by
      obtain ⟨⟨cells, i, r', e1, _⟩, _, _⟩ := G4.pen
      subst e
      rw [ej] at e1
      injection e1 with e1
      injection e1 with e1
      cases x with
      | nil => cases e1
      | cons a x => 
        rw [List.map_cons] at e1
        injection e1 with e2 e3
        cases e2
    have mm : ∀ i : Int, (∀ w ∈ cutL ws none (some (p : Int)) ++ [odd] ++ cutL ws (some i) none, w ∈ ws ∨ w = odd) ∧ (cutL ws none (some (p : Int)) ++ [odd] ++ cutL ws (some i) none) ≠ [] ∧ (cutL ws none (some (p : Int)) ++ [odd] ++ cutL ws (some i) none).length ≤ 101 := fun i => by
      have l1 := cut_len (l := ws) (lo := none) (hi := some (p : Int))
      have l2 := cut_len (l := ws) (lo := some i) (hi := none)
      refine ⟨fun w hw => ?_, by simp, by rw [List.length_append, List.length_append, List.length_singleton]; omega⟩
      rcases List.mem_append.mp hw with hw | hw
      · rcases List.mem_append.mp hw with hw | hw
        · exact .inl (cut_mem hw)
        · exact .inr (List.mem_singleton.mp hw)
      · exact .inl (cut_mem hw)
    with_reducible apply nxt_nx'
    simp only [List.mem_cons, List.not_mem_nil, or_false] at hy
    rcases hy with hy | hy | hy
    · exact lm _ (mm _).1 (mm _).2.1 (mm _).2.2 j1 (pk _ _ q1) q1 hy
    · exact lm _ (mm _).1 (mm _).2.1 (mm _).2.2 j2 (pk _ _ q2) q2 hy
    · exact lm (ws ++ [odd]) (fun w hw => by
        rcases List.mem_append.mp hw with hw | hw
        · exact .inl hw
        · exact .inr (List.mem_singleton.mp hw)) (by simp) (by rw [List.length_append, List.length_singleton]; omega) j3 (pk _ _ q3) q3 hy
end
end K82
end Mini
end
section
set_option Elab.async false
set_option linter.all false
set_option maxRecDepth 100000
set_option maxHeartbeats 2000000
/-! Plain, part 29 (k82): a bent row, heard. -/
namespace Mini
open PySem L2
open TL (tl)
local macro_rules | `(tactic| walk_at "go1") => `(tactic| first
  | with_reducible apply wxs_cons'
  | with_reducible apply wxs_nil'
  | ((with_reducible apply nxtN); focus (first | (simp only [List.set_cons_zero, List.set_cons_succ]; done) | (simp only [List.set_cons_zero, List.set_cons_succ]; exact rfl) | exact rfl))
  | with_reducible apply nxt_rt'
  | with_reducible apply nxt_bk'
  | with_reducible apply nxt_ct'
  | with_reducible apply we_var'
  | with_reducible apply we_cst'
  | with_reducible apply ws_cons'
  | with_reducible apply ws_nil'
  | ((with_reducible apply wSlot); exact rfl)
  | with_reducible apply we_fcl'
  | with_reducible apply we_cmp'
  | with_reducible apply we_idx'
  | with_reducible apply we_bin'
  | with_reducible apply wt_val'
  | with_reducible apply we_tup'
  | with_reducible apply we_lst'
  | with_reducible apply we_bcl'
  | with_reducible apply wx_set'
  | with_reducible apply wx_ret'
  | with_reducible apply wx_ife'
  | with_reducible apply wx_exp'
  | with_reducible apply wx_unp'
  | with_reducible apply wx_par'
  | with_reducible apply wx_sub'
  | with_reducible apply wx_rse'
  | with_reducible apply wx_brk'
  | with_reducible apply wx_cnt'
  | with_reducible apply wx_for'
  | with_reducible apply we_and'
  | with_reducible apply we_or'
  | with_reducible apply we_not'
  | with_reducible apply we_ife'
  | with_reducible apply we_neg'
  | with_reducible apply we_chn'
  | with_reducible apply we_dct'
  | with_reducible apply we_slc'
  | with_reducible apply we_att'
  | with_reducible apply we_isi'
  | with_reducible apply we_mcl'
  | with_reducible apply we_lc'
  | with_reducible apply we_fst'
  | with_reducible apply wf_nil'
  | with_reducible apply wf_cons'
  | with_reducible apply wt_yes'
  | with_reducible apply wt_and'
  | with_reducible apply wt_or'
  | with_reducible apply wt_not'
  | with_reducible apply endQ_rt'
  | with_reducible apply endQ_nx'
  | with_reducible apply wpB_t'
  | with_reducible apply wpB_f'
  | with_reducible apply wpB_nt'
  | with_reducible apply wpB_nf'
  | (with_reducible apply wTru)
  | ((with_reducible apply wBt); with_reducible assumption)
  | ((with_reducible apply wBf); with_reducible assumption)
  | ((with_reducible apply wGle); exact rfl)
  | ((with_reducible apply wGrs); exact rfl) | ((with_reducible apply wGrc); assumption)
  | ((with_reducible apply wGdc); exact rfl; exact rfl)
  | ((with_reducible apply wGeq); exact rfl)
  | ((with_reducible apply wOpt); exact rfl)
  | ((with_reducible apply wTup); exact rfl)
  | ((with_reducible apply wUnp); exact rfl)
  | ((with_reducible apply wTg); exact rfl)
  | ((with_reducible apply wNeg); exact rfl)
  | ((with_reducible apply wBop); exact rfl)
  | ((with_reducible apply wIsi (b := true)); (first | exact rfl | assumption); (first | exact rfl | assumption); focus (simp only [List.any_cons, List.any_nil, isTy, String.reduceBEq, String.reduceEq, beq_self_eq_true, Bool.and_false, Bool.false_and, Bool.or_false, Bool.false_or, Bool.or_true, Bool.true_or, Bool.and_self, Bool.or_self, Bool.true_and]; done))
  | ((with_reducible apply wIsi (b := false)); (first | exact rfl | assumption); (first | exact rfl | assumption); focus (simp only [List.any_cons, List.any_nil, isTy, String.reduceBEq, String.reduceEq, beq_self_eq_true, Bool.and_false, Bool.false_and, Bool.or_false, Bool.false_or, Bool.or_true, Bool.true_or, Bool.and_self, Bool.or_self, Bool.true_and]; done)))
local macro_rules | `(tactic| walk_at "go") => `(tactic| (repeat walk_at "go1"))
theorem ne_tup3 {h : VH} {a : Str} {i j : Int} (ha : PyData.strOk a = true) : copS .ne (.tup [.str a, .int i, .int j]) (.tup [.str a, .int i, .int j]) h = some false := by
  have sh : SeqAt.shaped (.tuple [.str a, .int i, .int j]) = true := shp_tup (by simp only [PyData.canLayAll0, PyData.canLay0, ha, Bool.and_self]) (by simp only [PyData.depthAll, PyData.depth]; decide)
  have : copS .eq (.tup [.str a, .int i, .int j]) (.tup [.str a, .int i, .int j]) h = some true := by
    unfold copS
    dsimp only
    rw [eqS_of (d := .tuple [.str a, .int i, .int j]) (e := .tuple [.str a, .int i, .int j]) (by unfold dat mapO; simp [dat, mapO]) (by unfold dat mapO; simp [dat, mapO]) sh sh]
    simp [PyData.eqv, PyData.eqvAll]
  exact ne_of_eq this
namespace K82
section
variable {h : VH} {QF : Fl → VH → Prop} {E : XP} {k c m r j : Nat} {os : List Out} {w0 : Str} {wz : List Str} {a0 a1 a2 a3 a4 a5 a6 a7 a8 a9 a10 a11 a12 a13 a15 a16 : Option VV}
theorem str_pen {x : List Str} (P : Pen h k c m) (e : h[j]? = some (.lst (x.map VV.str))) : j ≠ k := fun q => by
  obtain ⟨⟨cells, i, r', e1, _⟩, _, _⟩ := P
  subst q
  rw [e] at e1
  injection e1 with e1
  injection e1 with e1
  cases x with
  | nil => cases e1
  | cons a x =>
    rw [List.map_cons] at e1
    injection e1 with e2 e3
    cases e2
theorem hear_part (P : Pen h k c m) (C : Clo h) (hr : h[r]? = some (.lst (os.map enc))) (rk : r ≠ k) (hj : h[j]? = some (.lst ((w0 :: wz).map VV.str))) (gw : ∀ w ∈ w0 :: wz, GoodW w) (hl : wz.length ≤ 100)
    (q : ∀ (h' : VH) (b9 b10 : Option VV), Pen h' k c m → Clo h' → h'[r]? = some (.lst (os.map enc)) → QF (.nx [a0, a1, a2, a3, a4, a5, a6, a7, a8, b9, b10, a11, a12, some (.ref j), some (.ref k), a15, a16]) h') :
    (exs (envP PK 61) (tailS 4 b_inn) [a0, a1, a2, a3, a4, a5, a6, a7, a8, a9, a10, a11, a12, some (.ref j), some (.ref k), a15, a16] h).wp QF E := by
  have jk := str_pen P hj
  obtain ⟨s, es⟩ : ∃ s, s = Txt.join spC (w0 :: wz) := ⟨_, rfl⟩
  have bt := fun h1 (C1 : Clo h1) => bent (n := 57) (h := h1) gw hl C1
  rw [← es] at bt
  have jn : ∀ h1 : VH, h1[j]? = some (.lst ((w0 :: wz).map VV.str)) → bmt1 .join (.str (" " : Str)) (.ref j) h1 = .ok (.str s) h1 := fun h1 e => by
    rw [es]
    refine join_ref e ?_
    have h2 := sum_le (f := fun w : Str => w.length) (B := 100) (l := w0 :: wz) fun w hw => by
      show w.length ≤ 100
      rw [TL.len_tl]
      exact (gw w hw).2.1
    have h3 : (" " : Str).length = 1 := by decide
    have h6 : (List.map (fun x => x.length) (w0 :: wz)).sum = ((w0 :: wz).map fun w : Str => w.length).sum := rfl
    have h5 : (w0 :: wz).length * 100 ≤ 101 * 100 := Nat.mul_le_mul_right _ (by rw [List.length_cons]; omega)
    rw [h3, List.length_cons]
    omega
  have hs : PyData.strOk s = true := by
    refine Asc.ok ?_
    rw [es, TL.join_eq]
    exact asc_join (asc_lit (by decide +kernel)) fun p hp => (gw p hp).1
  have fk := fault_ok (n := 59) hj (by omega) (fun w hw => (gw w hw).ok) C
  unfold b_inn b_out b_law
  simp only [tailS, forB]
  walk_at "go"
  refine wp_eq fk ?_
  refine we_hcl' ?_
  refine heard_wp (n := 60) (k := k) (c := c) (m := m) P C ?_
  walk_at "go"
  refine wp_eq (jn h hj) ?_
  walk_at "go"
  rcases bt h C with ⟨f1, os', f2, f3, f4, f5⟩ | ⟨i, f1, f5⟩
  · refine wp_eq f5 ⟨.refl P C, tr_le (tr_encs os') (by decide), fun h1 P1 C1 u1 => ?_⟩
    rw [f1]
    with_reducible apply nxt_nx'
    have j1 : h1[j]? = _ := (u1.oth _ jk).trans hj
    refine wxs_cons' (wx_ife' (wt_or' (wt_and' (wt_val' (we_cmp' (we_var' (wSlot rfl (we_cst' (wO isn_non (wTru ?_)))))))))) 
    refine wBf rfl ?_
    walk_at "go"
    refine wO is_non (wTru ?_)
    refine wBt rfl ?_
    walk_at "go"
    refine wp_eq (SeqV.lst.idx (x := .tup (os'.map enc)) (atI_nat (j := 0) rfl)) ?_
    walk_at "go"
    refine wp_eq (row_text_ok (n := 57) .tup (Its.encs os') f2 f3 C1) ?_
    rw [f4]
    walk_at "go"
    refine wp_eq (jn h1 j1) ?_
    refine wO (ne_str hs) (wTru ?_)
    walk_at "go"
    exact q h1 _ _ P1 C1 ((u1.oth _ rk).trans hr)
  · refine wp_eqX f5 ⟨.refl P C, .inl ⟨rfl, rfl, _, _, rfl, rfl, rfl, fun h1 P1 C1 u1 => ?_⟩⟩
    rw [f1]
    with_reducible apply nxt_nx'
    refine wxs_cons' (wx_ife' (wt_or' (wt_and' (wt_val' (we_cmp' (we_var' (wSlot rfl (we_cst' (wO isn_non (wTru ?_)))))))))) 
    refine wBt rfl ?_
    walk_at "go"
    refine wO (ne_tup3 (by decide +kernel)) (wTru ?_)
    refine wBf rfl ?_
    walk_at "go"
    refine wO is_non (wTru ?_)
    refine wBf rfl ?_
    walk_at "go"
    exact q h1 _ _ P1 C1 ((u1.oth _ rk).trans hr)
end
end K82
end Mini
end
section
set_option Elab.async false
set_option linter.all false
set_option maxRecDepth 100000
set_option maxHeartbeats 2000000
/-! Plain, part 30 (k82): the bent rows' walk; what is no output. -/
namespace Mini
open PySem L2
open TL (tl)
local macro_rules | `(tactic| walk_at "go1") => `(tactic| first
  | with_reducible apply wxs_cons'
  | with_reducible apply wxs_nil'
  | ((with_reducible apply nxtN); focus (first | (simp only [List.set_cons_zero, List.set_cons_succ]; done) | (simp only [List.set_cons_zero, List.set_cons_succ]; exact rfl) | exact rfl))
  | with_reducible apply nxt_rt'
  | with_reducible apply nxt_bk'
  | with_reducible apply nxt_ct'
  | with_reducible apply we_var'
  | with_reducible apply we_cst'
  | with_reducible apply ws_cons'
  | with_reducible apply ws_nil'
  | ((with_reducible apply wSlot); exact rfl)
  | with_reducible apply we_fcl'
  | with_reducible apply we_cmp'
  | with_reducible apply we_idx'
  | with_reducible apply we_bin'
  | with_reducible apply wt_val'
  | with_reducible apply we_tup'
  | with_reducible apply we_lst'
  | with_reducible apply we_bcl'
  | with_reducible apply wx_set'
  | with_reducible apply wx_ret'
  | with_reducible apply wx_ife'
  | with_reducible apply wx_exp'
  | with_reducible apply wx_unp'
  | with_reducible apply wx_par'
  | with_reducible apply wx_sub'
  | with_reducible apply wx_rse'
  | with_reducible apply wx_brk'
  | with_reducible apply wx_cnt'
  | with_reducible apply wx_for'
  | with_reducible apply we_and'
  | with_reducible apply we_or'
  | with_reducible apply we_not'
  | with_reducible apply we_ife'
  | with_reducible apply we_neg'
  | with_reducible apply we_chn'
  | with_reducible apply we_dct'
  | with_reducible apply we_slc'
  | with_reducible apply we_att'
  | with_reducible apply we_isi'
  | with_reducible apply we_mcl'
  | with_reducible apply we_lc'
  | with_reducible apply we_fst'
  | with_reducible apply wf_nil'
  | with_reducible apply wf_cons'
  | with_reducible apply wt_yes'
  | with_reducible apply wt_and'
  | with_reducible apply wt_or'
  | with_reducible apply wt_not'
  | with_reducible apply endQ_rt'
  | with_reducible apply endQ_nx'
  | with_reducible apply wpB_t'
  | with_reducible apply wpB_f'
  | with_reducible apply wpB_nt'
  | with_reducible apply wpB_nf'
  | (with_reducible apply wTru)
  | ((with_reducible apply wBt); with_reducible assumption)
  | ((with_reducible apply wBf); with_reducible assumption)
  | ((with_reducible apply wGle); exact rfl)
  | ((with_reducible apply wGrs); exact rfl) | ((with_reducible apply wGrc); assumption)
  | ((with_reducible apply wGdc); exact rfl; exact rfl)
  | ((with_reducible apply wGeq); exact rfl)
  | ((with_reducible apply wOpt); exact rfl)
  | ((with_reducible apply wTup); exact rfl)
  | ((with_reducible apply wUnp); exact rfl)
  | ((with_reducible apply wTg); exact rfl)
  | ((with_reducible apply wNeg); exact rfl)
  | ((with_reducible apply wBop); exact rfl)
  | ((with_reducible apply wIsi (b := true)); (first | exact rfl | assumption); (first | exact rfl | assumption); focus (simp only [List.any_cons, List.any_nil, isTy, String.reduceBEq, String.reduceEq, beq_self_eq_true, Bool.and_false, Bool.false_and, Bool.or_false, Bool.false_or, Bool.or_true, Bool.true_or, Bool.and_self, Bool.or_self, Bool.true_and]; done))
  | ((with_reducible apply wIsi (b := false)); (first | exact rfl | assumption); (first | exact rfl | assumption); focus (simp only [List.any_cons, List.any_nil, isTy, String.reduceBEq, String.reduceEq, beq_self_eq_true, Bool.and_false, Bool.false_and, Bool.or_false, Bool.false_or, Bool.or_true, Bool.true_or, Bool.and_self, Bool.or_self, Bool.true_and]; done)))
local macro_rules | `(tactic| walk_at "go") => `(tactic| (repeat walk_at "go1"))
theorem ne_same {h : VH} {x y : VV} {d : PyData} (e1 : dat 8 h x = some d) (e2 : dat 8 h y = some d) (sh : SeqAt.shaped d = true) (ev : PyData.eqv d d = true) : copS .ne x y h = some false := by
  have : copS .eq x y h = some true := by
    unfold copS
    dsimp only
    rw [eqS_of e1 e2 sh sh, ev]
  exact ne_of_eq this
theorem range_len {n : Nat} : (rangeL 0 (n : Int)).length = n := by
  unfold rangeL
  simp
namespace K82
section
variable {h : VH} {QF : Fl → VH → Prop} {E : XP} {k c m r : Nat} {os : List Out} {a0 a1 a2 a3 a4 a5 a6 a7 a8 a9 a10 a11 a12 a13 a15 a16 : Option VV}
theorem loop_part (P : Pen h k c m) (hm : m + 800 ≤ 1000000) (C : Clo h) (g : GoodR os) (hr : h[r]? = some (.lst (os.map enc))) (rk : r ≠ k)
    (q : ∀ (h' : VH) (a5 a6 a7 a8 a9 a10 a13 : Option VV), Pen h' k c (m + 18) → Clo h' → h'[r]? = some (.lst (os.map enc)) →
      (exs (envP PK 61) (tailS 7 b_out) [a0, a1, a2, some (.str (rowText os)), a4, a5, a6, a7, a8, a9, a10, a11, a12, a13, some (.ref k), some (.ref r), a16] h').wp QF E) :
    (exs (envP PK 61) (tailS 6 b_out) [a0, a1, a2, some (.str (rowText os)), a4, a5, a6, a7, a8, a9, a10, a11, a12, a13, some (.ref k), some (.ref r), a16] h).wp QF E := by
  have e6 : tailS 6 b_out = .cons (.for (.one 5) .range1 (.cons (.cst (.int 6)) .nil) b_inn) (tailS 7 b_out) := by
    unfold b_inn b_out b_law
    simp only [tailS, forB]
  rw [e6]
  refine wxs_cons' (wx_for' (ws_cons' (we_cst' (ws_nil' (wO (src_range (by decide)) ?_)))))
  unfold forW
  dsimp only
  refine forL_inv (fun pre post σ h' => pre.length + post.length = 6 ∧ ∃ (m' : Nat) (a5 a6 a7 a8 a9 a10 a13 : Option VV), Pen h' k c m' ∧ m' ≤ m + 3 * pre.length ∧ Clo h' ∧ h'[r]? = some (.lst (os.map enc)) ∧ σ = [a0, a1, a2, some (.str (rowText os)), a4, a5, a6, a7, a8, a9, a10, a11, a12, a13, some (.ref k), some (.ref r), a16]) _ [] _ _ ⟨range_len (n := 6), m, _, _, _, _, _, _, _, P, Nat.le_refl _, C, hr, rfl⟩ (fun pre x post σ h' ⟨hl, m', a5, a6, a7, a8, a9, a10, a13, P', hm', C', hr', eσ⟩ => ?_) fun pre σ h' ⟨hl, m', a5, a6, a7, a8, a9, a10, a13, P', hm', C', hr', eσ⟩ => ?_
  · subst eσ
    rw [List.length_cons] at hl
    rw [wp_forF]
    refine wO rfl ?_
    refine odd_part P' (by omega) C' g hr' rk fun h1 kw p odd hodd P1 C1 r1 w1 => ?_
    refine later_part P1 (by omega) C1 r1 rk w1 g.wgood g.wlen.2 (odds_ok odd hodd) fun h2 j w0 wz gw wl P2 C2 r2 j2 => ?_
    refine hear_part P2 C2 r2 rk j2 gw wl fun h3 b9 b10 P3 C3 r3 => ?_
    exact ⟨by rw [List.length_append, List.length_singleton]; omega, _, _, _, _, _, _, _, _, P3, by rw [List.length_append, List.length_singleton]; omega, C3, r3, rfl⟩
  · subst eσ
    rw [List.length_nil] at hl
    with_reducible apply nxt_nx'
    exact q h' _ _ _ _ _ _ _ (P'.mono (by omega)) C' hr'
end
/-! ### things that are no output -/
def bads : List VV := [.int 5, .non, .tup [.str "a", .bl true], .tup [.str "a"], .tup [.str "A", .int 1], .str "A", .str "", .tup [.str "a", .str "1"], .tup [.str "a", .int 1, .int 2]]
theorem bads_ok : ∀ x ∈ bads, tr 2 x = true ∧ ∀ h, Bad h x := by
  have ok : ∀ s : Str, PyData.strOk s = true → s.length ≤ 100000 → okF (.str s) := fun s h1 h2 => ⟨rfl, fun s' e => by cases e; exact ⟨h1, h2⟩⟩
  have oki : ∀ i : Int, okF (.int i) := fun i => ⟨rfl, fun s' e => nomatch e⟩
  have okb : ∀ i : Bool, okF (.bl i) := fun i => ⟨rfl, fun s' e => nomatch e⟩
  have okn : okF .non := ⟨rfl, fun s' e => nomatch e⟩
  have ka := ok "a" (by decide +kernel) (by decide)
  have kA := ok "A" (by decide +kernel) (by decide)
  have k1 := ok "1" (by decide +kernel) (by decide)
  have k0 := ok "" (by decide +kernel) (by decide)
  intro x hx
  simp only [bads, List.mem_cons, List.not_mem_nil, or_false] at hx
  rcases hx with rfl | rfl | rfl | rfl | rfl | rfl | rfl | rfl | rfl
  · exact ⟨rfl, fun h => .inl ⟨oki _, rfl⟩⟩
  · exact ⟨rfl, fun h => .inl ⟨okn, rfl⟩⟩
  · exact ⟨rfl, fun h => .inr ⟨_, _, .tup, fun y hy => by
      simp only [List.mem_cons, List.not_mem_nil, or_false] at hy
      rcases hy with rfl | rfl
      · exact ka
      · exact okb _, by decide, rfl⟩⟩
  · exact ⟨rfl, fun h => .inr ⟨_, _, .tup, fun y hy => by
      simp only [List.mem_cons, List.not_mem_nil, or_false] at hy
      subst hy
      exact ka, by decide, rfl⟩⟩
  · exact ⟨rfl, fun h => .inr ⟨_, _, .tup, fun y hy => by
      simp only [List.mem_cons, List.not_mem_nil, or_false] at hy
      rcases hy with rfl | rfl
      · exact kA
      · exact oki _, by decide, by decide +kernel⟩⟩
  · exact ⟨rfl, fun h => .inl ⟨kA, by decide +kernel⟩⟩
  · exact ⟨rfl, fun h => .inl ⟨k0, by decide +kernel⟩⟩
  · exact ⟨rfl, fun h => .inr ⟨_, _, .tup, fun y hy => by
      simp only [List.mem_cons, List.not_mem_nil, or_false] at hy
      rcases hy with rfl | rfl
      · exact ka
      · exact k1, by decide, rfl⟩⟩
  · exact ⟨rfl, fun h => .inr ⟨_, _, .tup, fun y hy => by
      simp only [List.mem_cons, List.not_mem_nil, or_false] at hy
      rcases hy with rfl | rfl | rfl
      · exact ka
      · exact oki _
      · exact oki _, by decide, rfl⟩⟩
end K82
end Mini
end
section
set_option Elab.async false
set_option linter.all false
set_option maxRecDepth 100000
set_option maxHeartbeats 2000000
/-! Plain, part 31 (k82): rows that are none, heard. -/
namespace Mini
open PySem L2
open TL (tl)
local macro_rules | `(tactic| walk_at "go1") => `(tactic| first
  | with_reducible apply wxs_cons'
  | with_reducible apply wxs_nil'
  | ((with_reducible apply nxtN); focus (first | (simp only [List.set_cons_zero, List.set_cons_succ]; done) | (simp only [List.set_cons_zero, List.set_cons_succ]; exact rfl) | exact rfl))
  | with_reducible apply nxt_rt'
  | with_reducible apply nxt_bk'
  | with_reducible apply nxt_ct'
  | with_reducible apply we_var'
  | with_reducible apply we_cst'
  | with_reducible apply ws_cons'
  | with_reducible apply ws_nil'
  | ((with_reducible apply wSlot); exact rfl)
  | with_reducible apply we_fcl'
  | with_reducible apply we_cmp'
  | with_reducible apply we_idx'
  | with_reducible apply we_bin'
  | with_reducible apply wt_val'
  | with_reducible apply we_tup'
  | with_reducible apply we_lst'
  | with_reducible apply we_bcl'
  | with_reducible apply wx_set'
  | with_reducible apply wx_ret'
  | with_reducible apply wx_ife'
  | with_reducible apply wx_exp'
  | with_reducible apply wx_unp'
  | with_reducible apply wx_par'
  | with_reducible apply wx_sub'
  | with_reducible apply wx_rse'
  | with_reducible apply wx_brk'
  | with_reducible apply wx_cnt'
  | with_reducible apply wx_for'
  | with_reducible apply we_and'
  | with_reducible apply we_or'
  | with_reducible apply we_not'
  | with_reducible apply we_ife'
  | with_reducible apply we_neg'
  | with_reducible apply we_chn'
  | with_reducible apply we_dct'
  | with_reducible apply we_slc'
  | with_reducible apply we_att'
  | with_reducible apply we_isi'
  | with_reducible apply we_mcl'
  | with_reducible apply we_lc'
  | with_reducible apply we_fst'
  | with_reducible apply wf_nil'
  | with_reducible apply wf_cons'
  | with_reducible apply wt_yes'
  | with_reducible apply wt_and'
  | with_reducible apply wt_or'
  | with_reducible apply wt_not'
  | with_reducible apply endQ_rt'
  | with_reducible apply endQ_nx'
  | with_reducible apply wpB_t'
  | with_reducible apply wpB_f'
  | with_reducible apply wpB_nt'
  | with_reducible apply wpB_nf'
  | (with_reducible apply wTru)
  | ((with_reducible apply wBt); with_reducible assumption)
  | ((with_reducible apply wBf); with_reducible assumption)
  | ((with_reducible apply wGle); exact rfl)
  | ((with_reducible apply wGrs); exact rfl) | ((with_reducible apply wGrc); assumption)
  | ((with_reducible apply wGdc); exact rfl; exact rfl)
  | ((with_reducible apply wGeq); exact rfl)
  | ((with_reducible apply wOpt); exact rfl)
  | ((with_reducible apply wTup); exact rfl)
  | ((with_reducible apply wUnp); exact rfl)
  | ((with_reducible apply wTg); exact rfl)
  | ((with_reducible apply wNeg); exact rfl)
  | ((with_reducible apply wBop); exact rfl)
  | ((with_reducible apply wIsi (b := true)); (first | exact rfl | assumption); (first | exact rfl | assumption); focus (simp only [List.any_cons, List.any_nil, isTy, String.reduceBEq, String.reduceEq, beq_self_eq_true, Bool.and_false, Bool.false_and, Bool.or_false, Bool.false_or, Bool.or_true, Bool.true_or, Bool.and_self, Bool.or_self, Bool.true_and]; done))
  | ((with_reducible apply wIsi (b := false)); (first | exact rfl | assumption); (first | exact rfl | assumption); focus (simp only [List.any_cons, List.any_nil, isTy, String.reduceBEq, String.reduceEq, beq_self_eq_true, Bool.and_false, Bool.false_and, Bool.or_false, Bool.false_or, Bool.or_true, Bool.true_or, Bool.and_self, Bool.or_self, Bool.true_and]; done)))
local macro_rules | `(tactic| walk_at "go") => `(tactic| (repeat walk_at "go1"))
namespace K82
theorem PenG.mono {k c m m' : Nat} {h0 h : VH} (g : PenG k c m h0 h) (l : m ≤ m') : PenG k c m' h0 h := ⟨g.pen.mono l, g.clo, g.grow⟩
section
variable {h : VH} {QF : Fl → VH → Prop} {E : XP} {k c m r : Nat} {os : List Out} {a0 a1 a2 a3 a4 a5 a6 a7 a8 a9 a10 a11 a12 a13 a15 a16 : Option VV}
theorem eqv_heard {L : Int} : PyData.eqv (.list [.tuple [.str "row", .int L], .tuple [.str "row", .none], .tuple [.str "text", .int 0, .int 0]]) (.list [.tuple [.str "row", .int L], .tuple [.str "row", .none], .tuple [.str "text", .int 0, .int 0]]) = true := by
  simp [PyData.eqv, PyData.eqvAll]
theorem shp_heard {L : Int} : SeqAt.shaped (.list [.tuple [.str "row", .int L], .tuple [.str "row", .none], .tuple [.str "text", .int 0, .int 0]]) = true := by
  have e1 : PyData.strOk "row" = true := by decide +kernel
  have e2 : PyData.strOk "text" = true := by decide +kernel
  exact shp_lst (by simp only [PyData.canLayAll0, PyData.canLay0, e1, e2, Bool.and_self]) (by simp only [PyData.depthAll, PyData.depth]; decide)
theorem dat_heard {L : Int} {h : VH} {j : Nat} (e : h[j]? = some (.lst [.tup [.str "row", .int L], .tup [.str "row", .non], .tup [.str "text", .int 0, .int 0]])) : dat 8 h (.ref j) = some (.list [.tuple [.str "row", .int L], .tuple [.str "row", .none], .tuple [.str "text", .int 0, .int 0]]) :=
  dat_ref e (by simp [dat, mapO])
theorem bad_part (P : Pen h k c m) (hm : m + 800 ≤ 1000000) (C : Clo h) (g : GoodR os) (hr : h[r]? = some (.lst (os.map enc))) (rk : r ≠ k)
    (q : ∀ (h' : VH) (a10 a11 : Option VV), Pen h' k c (m + 3) → Clo h' → QF (.nx [a0, a1, a2, a3, a4, a5, a6, a7, a8, a9, a10, a11, a12, a13, some (.ref k), some (.ref r), a16]) h') :
    (exs (envP PK 61) (tailS 7 b_out) [a0, a1, a2, a3, a4, a5, a6, a7, a8, a9, a10, a11, a12, a13, some (.ref k), some (.ref r), a16] h).wp QF E := by
  have G0 := PenG.refl P C
  have k0 := P.upd_lt
  unfold b_out b_law
  simp only [tailS, forB]
  walk_at "go"
  have Gb := G0.lst (xs := bads) (n := 2) (fun x hx => (bads_ok x hx).1)
  refine pick_wp (n := 59) (xs := bads) Gb.pen (by omega) Gb.clo (.ref at_snoc) (fun z => by injection z with z; omega) (by simp [bads]) (by simp [bads]) (fun y hy => .inl (tr_le (bads_ok y hy).1 (by decide))) fun bad hb h1 P1 C1 u1 => ?_
  have r1 : h1[r]? = some (.lst (os.map enc)) := by rw [u1.oth _ rk]; exact at_keep hr
  obtain ⟨tb, Bb⟩ := bads_ok bad hb
  have ol := g.2
  walk_at "go"
  refine we_hcl' ?_
  refine heard_wp (n := 60) (k := k) (c := c) (m := m + 1) P1 C1 ?_
  walk_at "go"
  refine wp_eq (add_ref (at_keep r1) at_snoc (by simp; omega)) ?_
  walk_at "go"
  refine wp_eq (add_ref (at_keep at_snoc) at_snoc (by simp; omega)) ?_
  walk_at "go"
  have H1 := PenG.refl P1 C1
  have tro : ∀ x ∈ os.map enc, tr 2 x = true := fun x hx => by
    obtain ⟨o', _, rfl⟩ := List.mem_map.mp hx
    exact tr_enc o'
  have trb : ∀ x ∈ os.map enc ++ [bad], tr 2 x = true := fun x hx => by
    rcases List.mem_append.mp hx with hx | hx
    · exact tro x hx
    · rw [List.mem_singleton.mp hx]; exact tb
  have trc : ∀ x ∈ os.map enc ++ [bad] ++ [VV.str "A"], tr 2 x = true := fun x hx => by
    rcases List.mem_append.mp hx with hx | hx
    · exact trb x hx
    · rw [List.mem_singleton.mp hx]; rfl
  have H5 := (((H1.lst (xs := [bad]) (n := 2) (fun x hx => by rw [List.mem_singleton.mp hx]; exact tb)).lst trb).lst (xs := [.str "A"]) (n := 2) (fun x hx => by rw [List.mem_singleton.mp hx]; rfl)).lst trc
  have eL : os.map enc ++ [bad] ++ [VV.str "A"] = os.map enc ++ bad :: [VV.str "A"] := by simp
  have x5 : ∀ (hz : VH) (j : Nat), Clo hz → hz[j]? = some (.lst (os.map enc ++ [bad] ++ [VV.str "A"])) → run PK 60 5 noCl (some [.ref j]) hz = .exc 1 ["at"] [.int ((os.map enc).length : Int)] hz := fun hz j cz ej => by
    rw [eL] at ej
    exact row_text_exc (n := 56) rfl (need_row_bad (n := 56) (.ref ej) (Its.encs os) g.ok.1 g.nm (Bb _) cz) cz
  refine wp_eqX (x5 _ _ H5.clo at_snoc) ⟨H5, .inr ⟨rfl, rfl, _, rfl, rfl, fun h2 P2 C2 u2 => ?_⟩⟩
  have r2 : h2[r]? = some (.lst (os.map enc)) := (u2.oth _ rk).trans r1
  clear x5 eL H5 trc trb
  walk_at "go"
  refine we_hcl' ?_
  refine heard_wp (n := 60) (k := k) (c := c) (m := m + 2) (P2.mono (by omega)) C2 ?_
  walk_at "go"
  have H2 := PenG.refl P2 C2
  have ed : Ob.dic (putAllD [] [] ([], [])).1 (putAllD [] [] ([], [])).2 = .dic [] [] := by kernel_rfl
  rw [ed]
  have K1 := H2.snoc (o := .dic [] []) rfl
  have K2 := K1.snoc (o := .lst [.non, .int 5, .str "no", .ref h2.length]) (by
    show cloL _ _ = true
    rw [cloL_all]
    intro x hx
    simp only [List.mem_cons, List.not_mem_nil, or_false] at hx
    rcases hx with rfl | rfl | rfl | rfl
    · rfl
    · rfl
    · rfl
    · unfold clo; rw [Nat.blt_eq]; simp; omega)
  have k2 := P2.upd_lt
  refine pick_wp (n := 58) K2.pen (by omega) K2.clo (.ref at_snoc) (fun z => by injection z with z; simp at z; omega) (by simp) (by simp) (fun y hy => ?_) fun y hy h3 P3 C3 u3 => ?_
  · simp only [List.mem_cons, List.not_mem_nil, or_false] at hy
    rcases hy with rfl | rfl | rfl | rfl
    · exact .inl rfl
    · exact .inl rfl
    · exact .inl rfl
    · exact .inr ⟨_, rfl, by simp⟩
  have K3 := K2.upd P3 C3 u3
  have f3 : isFlat y = true ∨ ∃ k ks vs, y = .ref k ∧ h3[k]? = some (.dic ks vs) := by
    simp only [List.mem_cons, List.not_mem_nil, or_false] at hy
    rcases hy with rfl | rfl | rfl | rfl
    · exact .inl rfl
    · exact .inl rfl
    · exact .inl rfl
    · exact .inr ⟨_, _, _, rfl, by rw [u3.oth _ (by omega)]; exact at_keep at_snoc⟩
  walk_at "go"
  refine wp_eqX (show run PK 60 5 noCl (some [y]) h3 = .exc 1 ["at"] [.non] h3 from row_text_exc (n := 56) rfl (need_row_flat (n := 58) f3 C3) C3) ⟨K3.mono (by omega), .inr ⟨rfl, rfl, _, rfl, rfl, fun h4 P4 C4 u4 => ?_⟩⟩
  have r4 : h4[r]? = some (.lst (os.map enc)) := (u4.oth _ rk).trans r2
  clear f3 K3 K2 K1 H2 u3 P3 C3 hy
  walk_at "go"
  refine we_hcl' ?_
  refine heard_wp (n := 60) (k := k) (c := c) (m := m + 3) (P4.mono (by omega)) C4 ?_
  walk_at "go"
  have H4 := PenG.refl P4 C4
  have J1 := H4.lst (xs := [.str "no"]) (n := 2) (by simp [tr])
  have J2 := J1.snoc (o := .lst [.non, .int 5, .tup [.str "no"], .ref h4.length]) (by
    show cloL _ _ = true
    rw [cloL_all]
    intro x hx
    simp only [List.mem_cons, List.not_mem_nil, or_false] at hx
    rcases hx with rfl | rfl | rfl | rfl
    · rfl
    · rfl
    · exact clo_tr (n := 2) rfl
    · unfold clo; rw [Nat.blt_eq]; simp; omega)
  have k4 := P4.upd_lt
  refine pick_wp (n := 58) J2.pen (by omega) J2.clo (.ref at_snoc) (fun z => by injection z with z; simp at z; omega) (by simp) (by simp) (fun y hy => ?_) fun y hy h5 P5 C5 u5 => ?_
  · simp only [List.mem_cons, List.not_mem_nil, or_false] at hy
    rcases hy with rfl | rfl | rfl | rfl
    · exact .inl rfl
    · exact .inl rfl
    · exact .inl rfl
    · exact .inr ⟨_, rfl, by simp⟩
  have J3 := J2.upd P5 C5 u5
  have f5 : run PK 60 8 noCl (some [y]) h5 = .exc 2 ["line", "word"] [.int 0, .int 0] h5 := by
    simp only [List.mem_cons, List.not_mem_nil, or_false] at hy
    rcases hy with rfl | rfl | rfl | rfl
    · exact read_row_flat (n := 59) (by unfold tyOf; simp) (.inr ⟨rfl, fun s e => nomatch e⟩) C5
    · exact read_row_flat (n := 59) (by unfold tyOf; simp) (.inr ⟨rfl, fun s e => nomatch e⟩) C5
    · exact read_row_flat (n := 59) (by unfold tyOf; simp) (.inl ⟨_, _, .tup⟩) C5
    · have S : SeqV h5 (.ref h4.length) [.str "no"] "list" := .ref (by rw [u5.oth _ (by omega)]; exact at_keep at_snoc)
      exact read_row_flat (n := 59) (by rw [S.ty]; simp) (.inl ⟨_, _, S⟩) C5
  walk_at "go"
  refine wp_eqX f5 ⟨J3.mono (by omega), .inl ⟨rfl, rfl, _, _, rfl, rfl, rfl, fun h6 P6 C6 u6 => ?_⟩⟩
  have r6 : h6[r]? = some (.lst (os.map enc)) := (u6.oth _ rk).trans r4
  clear f5 J3 J2 J1 H4 u5 P5 C5 hy
  walk_at "go"
  refine wp_eq (SeqV.ref (at_keep r6)).len ?_
  walk_at "go"
  refine wO (ne_same (dat_heard (at_keep at_snoc)) (dat_heard at_snoc) shp_heard eqv_heard) (wTru ?_)
  walk_at "go"
  have H6 := PenG.refl P6 C6
  have tl3 : ∀ L : Int, ∀ x ∈ [VV.tup [.str "row", .int L], .tup [.str "row", .non], .tup [.str "text", .int 0, .int 0]], tr 3 x = true := fun L x hx => by
    simp only [List.mem_cons, List.not_mem_nil, or_false] at hx
    rcases hx with rfl | rfl | rfl <;> rfl
  have H8 := (H6.lst (tl3 ((os.map enc).length : Int))).lst (tl3 ((os.map enc).length : Int))
  exact q _ _ _ (H8.pen.mono (by omega)) H8.clo
end
end K82
end Mini
end
section
set_option Elab.async false
set_option linter.all false
set_option maxRecDepth 100000
set_option maxHeartbeats 2000000
/-! Plain, part 32 (k82): the law, whole. -/
namespace Mini
open PySem L2
open TL (tl)
local macro_rules | `(tactic| walk_at "go1") => `(tactic| first
  | with_reducible apply wxs_cons'
  | with_reducible apply wxs_nil'
  | ((with_reducible apply nxtN); focus (first | (simp only [List.set_cons_zero, List.set_cons_succ]; done) | (simp only [List.set_cons_zero, List.set_cons_succ]; exact rfl) | exact rfl))
  | with_reducible apply nxt_rt'
  | with_reducible apply nxt_bk'
  | with_reducible apply nxt_ct'
  | with_reducible apply we_var'
  | with_reducible apply we_cst'
  | with_reducible apply ws_cons'
  | with_reducible apply ws_nil'
  | ((with_reducible apply wSlot); exact rfl)
  | with_reducible apply we_fcl'
  | with_reducible apply we_cmp'
  | with_reducible apply we_idx'
  | with_reducible apply we_bin'
  | with_reducible apply wt_val'
  | with_reducible apply we_tup'
  | with_reducible apply we_lst'
  | with_reducible apply we_bcl'
  | with_reducible apply wx_set'
  | with_reducible apply wx_ret'
  | with_reducible apply wx_ife'
  | with_reducible apply wx_exp'
  | with_reducible apply wx_unp'
  | with_reducible apply wx_par'
  | with_reducible apply wx_sub'
  | with_reducible apply wx_rse'
  | with_reducible apply wx_brk'
  | with_reducible apply wx_cnt'
  | with_reducible apply wx_for'
  | with_reducible apply we_and'
  | with_reducible apply we_or'
  | with_reducible apply we_not'
  | with_reducible apply we_ife'
  | with_reducible apply we_neg'
  | with_reducible apply we_chn'
  | with_reducible apply we_dct'
  | with_reducible apply we_slc'
  | with_reducible apply we_att'
  | with_reducible apply we_isi'
  | with_reducible apply we_mcl'
  | with_reducible apply we_lc'
  | with_reducible apply we_fst'
  | with_reducible apply wf_nil'
  | with_reducible apply wf_cons'
  | with_reducible apply wt_yes'
  | with_reducible apply wt_and'
  | with_reducible apply wt_or'
  | with_reducible apply wt_not'
  | with_reducible apply endQ_rt'
  | with_reducible apply endQ_nx'
  | with_reducible apply wpB_t'
  | with_reducible apply wpB_f'
  | with_reducible apply wpB_nt'
  | with_reducible apply wpB_nf'
  | (with_reducible apply wTru)
  | ((with_reducible apply wBt); with_reducible assumption)
  | ((with_reducible apply wBf); with_reducible assumption)
  | ((with_reducible apply wGle); exact rfl)
  | ((with_reducible apply wGrs); exact rfl) | ((with_reducible apply wGrc); assumption)
  | ((with_reducible apply wGdc); exact rfl; exact rfl)
  | ((with_reducible apply wGeq); exact rfl)
  | ((with_reducible apply wOpt); exact rfl)
  | ((with_reducible apply wTup); exact rfl)
  | ((with_reducible apply wUnp); exact rfl)
  | ((with_reducible apply wTg); exact rfl)
  | ((with_reducible apply wNeg); exact rfl)
  | ((with_reducible apply wBop); exact rfl)
  | ((with_reducible apply wIsi (b := true)); (first | exact rfl | assumption); (first | exact rfl | assumption); focus (simp only [List.any_cons, List.any_nil, isTy, String.reduceBEq, String.reduceEq, beq_self_eq_true, Bool.and_false, Bool.false_and, Bool.or_false, Bool.false_or, Bool.or_true, Bool.true_or, Bool.and_self, Bool.or_self, Bool.true_and]; done))
  | ((with_reducible apply wIsi (b := false)); (first | exact rfl | assumption); (first | exact rfl | assumption); focus (simp only [List.any_cons, List.any_nil, isTy, String.reduceBEq, String.reduceEq, beq_self_eq_true, Bool.and_false, Bool.false_and, Bool.or_false, Bool.false_or, Bool.or_true, Bool.true_or, Bool.and_self, Bool.or_self, Bool.true_and]; done)))
local macro_rules | `(tactic| walk_at "go") => `(tactic| (repeat walk_at "go1"))
theorem tl_injS {a b : Str} (h : tl a = tl b) : a = b := by
  have : [a].map tl = [b].map tl := by rw [List.map_cons, List.map_cons, h]
  have := TL.map_tl_inj this
  injection this
theorem reps_tl : ∀ (k : Nat) (acc : Array Nat), ((List.replicate k (#[49] : Array Nat)).foldl (fun x1 x2 => x1 ++ x2) acc).toList = acc.toList ++ List.replicate k 49
  | 0, acc => by simp
  | k + 1, acc => by
    rw [List.replicate_succ, List.foldl_cons, reps_tl k, Array.toList_append, List.append_assoc, List.replicate_succ]
    rfl
theorem tl_ones {n : Nat} (h : 2 ≤ n) : tl (Txt.mul ("1" : Str) (n : Int)) = List.replicate n 49 := by
  unfold Txt.mul
  rw [if_neg (by omega), if_neg (by
    have : ("1" : Str).length = 1 := by decide
    rw [this]
    simp
    omega)]
  show (List.foldl (fun x1 x2 => x1 ++ x2) #[] (List.replicate ((n : Int)).toNat ("1" : Str).cps)).toList = _
  rw [show ("1" : Str).cps = #[49] by decide, Int.toNat_natCast, reps_tl]
  rfl
theorem rep_back {n : Nat} : List.replicate (n + 1) 49 = List.replicate n 49 ++ [49] := by
  rw [List.replicate_succ']
theorem ones_mod (n : Nat) : NumText.digitsVal (List.replicate (n + 3) 49) % 1000 = 111 := by
  rw [rep_back, NumText.digitsVal_snoc, rep_back, NumText.digitsVal_snoc, rep_back, NumText.digitsVal_snoc]
  omega
theorem eq_tup3 {h : VH} {a : Str} {i j : Int} (ha : PyData.strOk a = true) : copS .eq (.tup [.str a, .int i, .int j]) (.tup [.str a, .int i, .int j]) h = some true := by
  have := ne_tup3 (h := h) (i := i) (j := j) ha
  have e : copS .ne (.tup [.str a, .int i, .int j]) (.tup [.str a, .int i, .int j]) h = (copS .eq (.tup [.str a, .int i, .int j]) (.tup [.str a, .int i, .int j]) h).map (!·) := rfl
  rw [e] at this
  cases hb : copS .eq (.tup [.str a, .int i, .int j]) (.tup [.str a, .int i, .int j]) h with
  | none => rw [hb] at this; cases this
  | some b =>
    rw [hb] at this
    cases b with
    | true => rfl
    | false => cases this
namespace K82
def farS (n : Nat) : Str := ("a=" : Str) ++ Txt.mul ("1" : Str) (n : Int)
theorem tl_far {n : Nat} (h : 2 ≤ n) : tl (farS n) = 97 :: 61 :: List.replicate n 49 := by
  unfold farS
  rw [TL.tl_append, tl_ones h]
  rfl
theorem far_asc {n : Nat} (h : 2 ≤ n) : Asc (farS n) := fun c hc => by
  rw [tl_far h] at hc
  rcases List.mem_cons.mp hc with rfl | hc
  · decide
  · rcases List.mem_cons.mp hc with rfl | hc
    · decide
    · rw [(List.mem_replicate.mp hc).2]; decide
theorem far_len {n : Nat} (h : 2 ≤ n) : (farS n).length = n + 2 := by
  rw [TL.len_tl, tl_far h]
  simp
theorem far_sp {n : Nat} (h : 2 ≤ n) : 32 ∉ tl (farS n) := fun hc => by
  rw [tl_far h] at hc
  rcases List.mem_cons.mp hc with hc | hc
  · cases hc
  · rcases List.mem_cons.mp hc with hc | hc
    · cases hc
    · cases (List.mem_replicate.mp hc).2
theorem ones_can {n : Nat} (h : 2 ≤ n) : canS (Txt.mul ("1" : Str) (n : Int)) = decide (n ≤ 4000) := by
  unfold canS
  rw [tl_ones h]
  obtain ⟨k, rfl⟩ : ∃ k, n = k + 1 := ⟨n - 1, by omega⟩
  have eb : bodyL (List.replicate (k + 1) 49) = List.replicate (k + 1) 49 := by
    unfold bodyL
    rw [List.replicate_succ]
    rfl
  have ed : digL (List.replicate (k + 1) 49) = true := by
    unfold digL
    rw [List.all_eq_true]
    intro c hc
    rw [(List.mem_replicate.mp hc).2]
    rfl
  unfold canL
  rw [eb, ed, List.length_replicate]
  rw [List.replicate_succ]
  simp
theorem far_part {n : Nat} (h : 2 ≤ n) : Txt.partition (farS n) eqC = (("a" : Str), eqC, Txt.mul ("1" : Str) (n : Int)) := by
  have e : farS n = ("a" : Str) ++ eqC ++ Txt.mul ("1" : Str) (n : Int) := by
    refine tl_injS ?_
    rw [tl_far h, TL.tl_append, TL.tl_append, tl_ones h]
    rfl
  rw [e]
  have e1 : tl eqC = 61 :: [] := by decide
  exact TL.partition_app e1 (by decide)
theorem far_good {n : Nat} (h : 3 ≤ n) (h2 : n ≤ 4000) : ∃ v : Int, readOut (farS n) = some (("a" : Str), some v) ∧ v % 1000 = 111 := by
  have h' : 2 ≤ n := by omega
  refine ⟨((NumText.digitsVal (List.replicate n 49) : Nat) : Int), ?_, ?_⟩
  · unfold readOut
    rw [far_part h']
    dsimp only
    have hd : NumText.AllDigits (List.replicate n 49) := fun c hc => by
      rw [(List.mem_replicate.mp hc).2]
      decide
    have et : (Txt.mul ("1" : Str) (n : Int)).cps.toList = List.replicate n 49 := tl_ones h'
    have ei := intText_digits (x := Txt.mul ("1" : Str) (n : Int)) (by rw [et]; exact hd) (by rw [et]; exact fun z => by have := congrArg List.length z; rw [List.length_replicate] at this; have : n = 0 := this; omega) (by rw [TL.len_tl, tl_ones h', List.length_replicate]; omega)
    rw [if_pos (by decide +kernel), if_neg (by decide +kernel), if_pos (by rw [ones_can h']; exact decide_eq_true h2), ei]
    rw [et]
  · obtain ⟨k, rfl⟩ : ∃ k, n = k + 3 := ⟨n - 3, by omega⟩
    have := ones_mod k
    omega
theorem far_bad {n : Nat} (h : 4000 < n) : readOut (farS n) = none := by
  have h' : 2 ≤ n := by omega
  unfold readOut
  rw [far_part h']
  dsimp only
  rw [if_pos (by decide +kernel), if_neg (by decide +kernel), if_neg (by rw [ones_can h', decide_eq_false (by omega)]; exact Bool.false_ne_true)]
end K82
end Mini
end
section
set_option Elab.async false
set_option linter.all false
set_option maxRecDepth 100000
set_option maxHeartbeats 2000000
/-! Plain, part 33 (k82): the law's run. -/
namespace Mini
open PySem L2
open TL (tl)
local macro_rules | `(tactic| walk_at "go1") => `(tactic| first
  | with_reducible apply wxs_cons'
  | with_reducible apply wxs_nil'
  | ((with_reducible apply nxtN); focus (first | (simp only [List.set_cons_zero, List.set_cons_succ]; done) | (simp only [List.set_cons_zero, List.set_cons_succ]; exact rfl) | exact rfl))
  | with_reducible apply nxt_rt'
  | with_reducible apply nxt_bk'
  | with_reducible apply nxt_ct'
  | with_reducible apply we_var'
  | with_reducible apply we_cst'
  | with_reducible apply ws_cons'
  | with_reducible apply ws_nil'
  | ((with_reducible apply wSlot); exact rfl)
  | with_reducible apply we_fcl'
  | with_reducible apply we_cmp'
  | with_reducible apply we_idx'
  | with_reducible apply we_bin'
  | with_reducible apply wt_val'
  | with_reducible apply we_tup'
  | with_reducible apply we_lst'
  | with_reducible apply we_bcl'
  | with_reducible apply wx_set'
  | with_reducible apply wx_ret'
  | with_reducible apply wx_ife'
  | with_reducible apply wx_exp'
  | with_reducible apply wx_unp'
  | with_reducible apply wx_par'
  | with_reducible apply wx_sub'
  | with_reducible apply wx_rse'
  | with_reducible apply wx_brk'
  | with_reducible apply wx_cnt'
  | with_reducible apply wx_for'
  | with_reducible apply we_and'
  | with_reducible apply we_or'
  | with_reducible apply we_not'
  | with_reducible apply we_ife'
  | with_reducible apply we_neg'
  | with_reducible apply we_chn'
  | with_reducible apply we_dct'
  | with_reducible apply we_slc'
  | with_reducible apply we_att'
  | with_reducible apply we_isi'
  | with_reducible apply we_mcl'
  | with_reducible apply we_lc'
  | with_reducible apply we_fst'
  | with_reducible apply wf_nil'
  | with_reducible apply wf_cons'
  | with_reducible apply wt_yes'
  | with_reducible apply wt_and'
  | with_reducible apply wt_or'
  | with_reducible apply wt_not'
  | with_reducible apply endQ_rt'
  | with_reducible apply endQ_nx'
  | with_reducible apply wpB_t'
  | with_reducible apply wpB_f'
  | with_reducible apply wpB_nt'
  | with_reducible apply wpB_nf'
  | (with_reducible apply wTru)
  | ((with_reducible apply wBt); with_reducible assumption)
  | ((with_reducible apply wBf); with_reducible assumption)
  | ((with_reducible apply wGle); exact rfl)
  | ((with_reducible apply wGrs); exact rfl) | ((with_reducible apply wGrc); assumption)
  | ((with_reducible apply wGdc); exact rfl; exact rfl)
  | ((with_reducible apply wGeq); exact rfl)
  | ((with_reducible apply wOpt); exact rfl)
  | ((with_reducible apply wTup); exact rfl)
  | ((with_reducible apply wUnp); exact rfl)
  | ((with_reducible apply wTg); exact rfl)
  | ((with_reducible apply wNeg); exact rfl)
  | ((with_reducible apply wBop); exact rfl)
  | ((with_reducible apply wIsi (b := true)); (first | exact rfl | assumption); (first | exact rfl | assumption); focus (simp only [List.any_cons, List.any_nil, isTy, String.reduceBEq, String.reduceEq, beq_self_eq_true, Bool.and_false, Bool.false_and, Bool.or_false, Bool.false_or, Bool.or_true, Bool.true_or, Bool.and_self, Bool.or_self, Bool.true_and]; done))
  | ((with_reducible apply wIsi (b := false)); (first | exact rfl | assumption); (first | exact rfl | assumption); focus (simp only [List.any_cons, List.any_nil, isTy, String.reduceBEq, String.reduceEq, beq_self_eq_true, Bool.and_false, Bool.false_and, Bool.or_false, Bool.false_or, Bool.or_true, Bool.true_or, Bool.and_self, Bool.or_self, Bool.true_and]; done)))
local macro_rules | `(tactic| walk_at "go") => `(tactic| (repeat walk_at "go1"))
theorem len_far {s : Str} {h : VH} (hl : s.length ≤ 100000) : bfnS .len [.str s] h = .ok (.int (s.length : Int)) h := len_str (Nat.le_trans hl (by decide))
namespace K82
theorem far_join {n : Nat} : ("no " : Str) ++ farS n = Txt.join spC [("no" : Str), farS n] := by
  rw [TL.join_eq]
  show _ = (("no" : Str) ++ spC) ++ farS n
  rw [show ("no" : Str) ++ spC = ("no " : Str) by decide]
theorem far_read {i n : Nat} {h : VH} (h2 : 3 ≤ n) (h3 : n ≤ 90000) (c : Clo h) :
    (n ≤ 4000 ∧ ∃ v : Int, v % 1000 = 111 ∧ run PK (i + 3) 8 noCl (some [.str (("no " : Str) ++ farS n)]) h = .ok (.tup [.str "no", .tup [.str "a", .int v]]) h) ∨
    (4000 < n ∧ run PK (i + 3) 8 noCl (some [.str (("no " : Str) ++ farS n)]) h = .exc 2 ["line", "word"] [.int 0, .int 1] h) := by
  have h' : 2 ≤ n := by omega
  have fl := far_len h'
  have okf : Ok (farS n) := ⟨(far_asc h').ok, by omega⟩
  have okn : Ok ("no" : Str) := ⟨by decide +kernel, by decide⟩
  obtain ⟨s, es⟩ : ∃ s, s = ("no " : Str) ++ farS n := ⟨_, rfl⟩
  have e1 : tl spC = 32 :: [] := by decide
  have W : Words s ["no", farS n] := ⟨by
    rw [es, far_join]
    refine TL.split_join e1 (by decide +kernel) (by simp) fun p hp => ?_
    simp only [List.mem_cons, List.not_mem_nil, or_false] at hp
    rcases hp with rfl | rfl
    · decide
    · exact far_sp h', fun w hw => by
    simp only [List.mem_cons, List.not_mem_nil, or_false] at hw
    rcases hw with rfl | rfl
    · exact okn
    · exact okf, by simp⟩
  have ho : Ok s := by
    rw [es]
    refine ⟨((asc_lit (by decide +kernel)).app (far_asc h')).ok, ?_⟩
    rw [Str.length_append, fl, show ("no " : Str).length = 3 by decide]
    omega
  have hno : readOut ("no" : Str) = some (("no" : Str), none) := by decide +kernel
  rw [← es]
  by_cases hn : n ≤ 4000
  · obtain ⟨v, hv, hm⟩ := far_good h2 hn
    refine .inl ⟨hn, v, hm, eq_wp (read_row_walk ho W (by decide) c (fun pre w post os' e1 e2 e3 => ?_) fun os' e' => ?_)⟩
    · have hw : w ∈ [("no" : Str), farS n] := by rw [e1]; simp
      simp only [List.mem_cons, List.not_mem_nil, or_false] at hw
      rcases hw with rfl | rfl
      · rw [hno] at e3; cases e3
      · rw [hv] at e3; cases e3
    · have e9 : os' = [(("no" : Str), none), (("a" : Str), some v)] := by
        refine map_some_inj ?_
        rw [← e', List.map_cons, List.map_cons, hno, hv]
        rfl
      rw [e9]
      exact ⟨rfl, rfl⟩
  · have hb := far_bad (n := n) (by omega)
    refine .inr ⟨by omega, eq_wpX (read_row_walk ho W (by decide) c (fun pre w post os' e1 e2 e3 => ?_) fun os' e' => ?_)⟩
    · have e4 : pre.length = 1 := by
        match pre, e1, e2 with
        | [], e1, e2 =>
          injection e1 with e5 e6
          rw [← e5, hno] at e3
          cases e3
        | [a], e1, e2 => rfl
        | a :: b :: pre, e1, e2 =>
          injection e1 with e5 e6
          injection e6 with e7 e8
          have := pre_some e2 b (by simp)
          rw [← e7, hb] at this
          cases this
      exact ⟨rfl, rfl, by rw [e4]; rfl, rfl⟩
    · have := pre_some e' (farS n) (by simp)
      rw [hb] at this
      cases this
section
variable {h : VH} {k c m : Nat} {a0 a1 a2 a3 a4 a5 a6 a7 a8 a9 a10 a11 a12 a13 a15 a16 : Option VV}
abbrev FQ : Fl → VH → Prop := endQ false 0 (fun v _ => v = .bl true) fun _ _ _ _ => False
abbrev FE : XP := endX 0 (fun v _ => v = .bl true) fun _ _ _ _ => False
theorem law_end (P : Pen h k c m) (hm : m + 800 ≤ 1000000) (C : Clo h) : (exs (envP PK 61) (tailS 2 b_law) [a0, a1, a2, a3, a4, a5, a6, a7, a8, a9, a10, a11, a12, a13, some (.ref k), a15, a16] h).wp FQ FE := by
  unfold b_law
  simp only [tailS]
  walk_at "go"
  refine draw_wp (n := 60) P (by omega) C (by decide) (by decide) fun d h1 d0 d1 P1 C1 u1 => ?_
  obtain ⟨n, hn⟩ : ∃ n : Nat, (4000 : Int) + d = (n : Int) := ⟨(4000 + d).toNat, by omega⟩
  have n1 : 3 ≤ n := by omega
  have n2 : n ≤ 90000 := by omega
  refine wp_eq (b := .int (n : Int)) (h := h1) (show bopS .add (.int 4000) (.int d) h1 = _ from by rw [← hn]; rfl) ?_
  refine wp_eq (mul_txt (by rw [show ("1" : Str).length = 1 by decide]; omega)) ?_
  have fl := far_len (n := n) (by omega)
  have f2 : (("a=" : Str) ++ Txt.mul ("1" : Str) (n : Int)).length = n + 2 := fl
  refine wp_eq (add_str (by rw [← Str.length_append, f2]; have : sizeLine = 16777216 := by decide
                            omega)) ?_
  rw [show ("a=" : Str) ++ Txt.mul ("1" : Str) (n : Int) = farS n from rfl]
  have fin9 : ∀ hz : VH, (fin false 0 (.bl true) hz).wp (fun v _ => v = VV.bl true) (fun _ _ _ _ => False) := fun hz =>
    fin_wp (h1 := []) (l := hz) rfl clo_nil (frz_tr (n := 30) rfl) rfl
  walk_at "go"
  refine we_hcl' ?_
  refine heard_wp (n := 60) (k := k) (c := c) (m := m + 1) P1 C1 ?_
  walk_at "go"
  refine wp_eq (add_str (by rw [fl, show ("no " : Str).length = 3 by decide]; have : sizeLine = 16777216 := by decide
                            omega)) ?_
  walk_at "go"
  rcases far_read (i := 57) n1 n2 C1 with ⟨q1, v, q2, q3⟩ | ⟨q1, q3⟩
  · refine wp_eq q3 ⟨.refl P1 C1, rfl, fun h2 P2 C2 u2 => ?_⟩
    walk_at "go"
    refine wp_eq (len_far (by omega)) ?_
    walk_at "go"
    refine wO (show copS .gt (.int ((farS n).length : Int)) (.int 4002) h2 = some (decide ((4002 : Int) < ((farS n).length : Int))) from rfl) (wTru ?_)
    refine wBf (decide_eq_false (by rw [fl]; omega)) ?_
    walk_at "go"
    refine wp_eq (SeqV.lst.idx (x := .tup [.str "no", .tup [.str "a", .int v]]) (atI_nat (j := 0) rfl)) ?_
    walk_at "go"
    refine wp_eq (SeqV.tup.idx (x := .tup [.str "a", .int v]) (atI_nat (j := 1) rfl)) ?_
    walk_at "go"
    refine wp_eq (SeqV.tup.idx (x := .int v) (atI_nat (j := 1) rfl)) ?_
    walk_at "go"
    rw [q2]
    refine wO eq_int ?_
    walk_at "go"
    exact fin9 h2
  · refine wp_eqX q3 ⟨.refl P1 C1, .inl ⟨rfl, rfl, _, _, rfl, rfl, rfl, fun h2 P2 C2 u2 => ?_⟩⟩
    walk_at "go"
    refine wp_eq (len_far (by omega)) ?_
    walk_at "go"
    refine wO (show copS .gt (.int ((farS n).length : Int)) (.int 4002) h2 = some (decide ((4002 : Int) < ((farS n).length : Int))) from rfl) (wTru ?_)
    refine wBt (decide_eq_true (by rw [fl]; omega)) ?_
    walk_at "go"
    refine wO (eq_tup3 (by decide +kernel)) ?_
    walk_at "go"
    exact fin9 h2
end
/-- the law, from its first statement -/
theorem law_wp {ns : List Int} : (exs (envP PK 61) b_law [some (.lst (ns.map VV.int)), none, none, none, none, none, none, none, none, none, none, none, none, none, none, none, none] []).wp FQ FE := by
  have e0 : b_law = .cons (.set 14 (.fcl 9 (.cons (.var 0) .nil))) (.cons (.for (.one 1) .range1 (.cons (.cst (.int 5)) .nil) b_out) (tailS 2 b_law)) := by
    unfold b_out b_law
    simp only [tailS, forB]
  rw [e0]
  refine wxs_cons' (wx_set' (we_fcl' (ws_cons' (we_var' (wSlot rfl (ws_nil' ?_))))))
  refine pen_wp (n := 60) fun h P C => ?_
  with_reducible apply nxt_nx'
  refine wxs_cons' (wx_for' (ws_cons' (we_cst' (ws_nil' (wO (src_range (by decide)) ?_)))))
  unfold forW
  dsimp only
  refine forL_inv (fun pre post σ h' => pre.length + post.length = 5 ∧ ∃ (m' : Nat) (a0 a1 a2 a3 a4 a5 a6 a7 a8 a9 a10 a11 a12 a13 a15 a16 : Option VV), Pen h' 2 1 m' ∧ m' ≤ 200 * pre.length ∧ Clo h' ∧ σ = [a0, a1, a2, a3, a4, a5, a6, a7, a8, a9, a10, a11, a12, a13, some (.ref 2), a15, a16]) _ [] _ _ ⟨range_len (n := 5), 0, _, _, _, _, _, _, _, _, _, _, _, _, _, _, _, _, P, Nat.zero_le _, C, rfl⟩ (fun pre x post σ h' ⟨hl, m', a0, a1, a2, a3, a4, a5, a6, a7, a8, a9, a10, a11, a12, a13, a15, a16, P', hm', C', eσ⟩ => ?_) fun pre σ h' ⟨hl, m', a0, a1, a2, a3, a4, a5, a6, a7, a8, a9, a10, a11, a12, a13, a15, a16, P', hm', C', eσ⟩ => ?_
  · subst eσ
    rw [List.length_cons] at hl
    rw [wp_forF]
    refine wO rfl ?_
    refine draw_part P' (by omega) C' fun os h1 r g P1 C1 r1 rk => ?_
    refine word_part P1 C1 g r1 fun h2 kw kl xs P2 C2 r2 w2 l2 I => ?_
    refine check_part P2 C2 g r2 w2 l2 I fun h3 P3 C3 r3 => ?_
    refine loop_part P3 (by omega) C3 g r3 rk fun h4 b5 b6 b7 b8 b9 b10 b13 P4 C4 r4 => ?_
    refine bad_part P4 (by omega) C4 g r4 rk fun h5 c10 c11 P5 C5 => ?_
    exact ⟨by rw [List.length_append, List.length_singleton]; omega, _, _, _, _, _, _, _, _, _, _, _, _, _, _, _, _, _, P5, by rw [List.length_append, List.length_singleton]; omega, C5, rfl⟩
  · subst eσ
    rw [List.length_nil] at hl
    with_reducible apply nxt_nx'
    exact law_end P' (by omega) C'
theorem wp_ok {r : Rs VV} {v : VV} (w : r.wp (fun v' _ => v' = v) fun _ _ _ _ => False) : ∃ h, r = .ok v h := by
  cases r with
  | ok a h => exact ⟨h, by rw [show a = v from w]⟩
  | exc _ _ _ _ => exact (w : False).elim
  | bad => exact (w : False).elim
end K82
end Mini
end
section
set_option Elab.async false
set_option linter.all false
set_option maxRecDepth 100000
set_option maxHeartbeats 2000000
/-! k82: the end. -/
namespace Mini
open PySem L2
namespace K82
theorem congrArgs4 {a a' : List Fn} {b b' : Nat → Nat → Bool} {c c' : Nat → List Str} {d d' : Nat → Option Bool} (h1 : a = a') (h2 : b = b') (h3 : c = c') (h4 : d = d') : (⟨a, b, c, d⟩ : Prog) = ⟨a', b', c', d'⟩ := by
  subst h1 h2 h3 h4
  rfl
theorem prog_eq : hs.prog = PK := by
  unfold HS.prog
  refine congrArgs4 ?_ ?_ ?_ ?_
  · kernel_rfl
  · rfl
  · rfl
  · rfl
theorem runs : RunOk hs d_law 60 := fun ns _ _ => by
  have e : d_law.fn = ⟨1, 17, false, b_law⟩ := by kernel_rfl
  rw [prog_eq, e]
  refine wp_ok (leave_wp ?_)
  exact law_wp (ns := ns)
end K82
end Mini
theorem PySem.Challenge.cw_leastprice_k82_whole_texts_of_rows_holds : PySem.Challenge.rw_leastprice_k82_whole_texts_of_rows.Holds := by
  exact Mini.K82.finale Mini.K82.runs
end
