import PyProof.Rows.All
import Wide.All
import OpenK.AllK
import Wide.FinOn
import KE.KStateDown
import HandS.ForMost
import HandS.Codes
import HandS.ForExc
import HandS.Defaults
import HandS.Walk
import HandS.ExcInit
import HandS.ExcSuper
import HandS.ExcField
import HandS.Conv
import HandS.SortInts
import HandS.Head0
import HandS.Head1
import HandS.Head2
import HandS.HeadEnd
import HandS.HeadHook1
import HandS.HeadHook2
import HandS.HeadHook3
import HandS.HeadHook4
import PySem.Challenge.RW_duewrits_k14_whole_totals_of_parts
set_option Elab.async false
set_option maxRecDepth 100000
set_option maxHeartbeats 4000000
/-! the data: trees of amounts and conditions, entries, decisions; what a text, a tuple of each is -/
namespace K14
open PySem L2

/-! ### names -/
def isLow (c : Nat) : Bool := decide (97 ≤ c) && decide (c ≤ 122)
def isDig (c : Nat) : Bool := decide (48 ≤ c) && decide (c ≤ 57)
def kept : List Str := ["fact", "known", "due", "or", "plus", "minus", "times", "least", "most", "percent", "if", "below", "same", "not", "both", "either"]
/-- what is_name takes -/
structure NameOk (z : Str) : Prop where
  pos : 1 ≤ z.length
  len : z.length ≤ 12
  free : z ∉ kept
  first : ∃ c r, z.cps.toList = c :: r ∧ isLow c = true
  all : ∀ c ∈ z.cps.toList, (isLow c || isDig c) = true

/-! ### trees -/
inductive Op5 where
  | plus | minus | times | least | most
  deriving DecidableEq
def Op5.w : Op5 → Str
  | .plus => "plus"
  | .minus => "minus"
  | .times => "times"
  | .least => "least"
  | .most => "most"
inductive Jn where
  | both | either
  deriving DecidableEq
def Jn.w : Jn → Str
  | .both => "both"
  | .either => "either"
inductive Cm where
  | below | same
  deriving DecidableEq
def Cm.w : Cm → Str
  | .below => "below"
  | .same => "same"
/-- an amount or a condition -/
inductive Nd where
  | num (n : Int)
  | fact (x : Str)
  | factOr (x : Str) (p : Nd)
  | due (x : Str)
  | pct (n : Int) (p : Nd)
  | ite (c a b : Nd)
  | op (k : Op5) (a b : Nd)
  | known (x : Str)
  | neg (c : Nd)
  | jn (k : Jn) (a b : Nd)
  | cmp (k : Cm) (a b : Nd)
/-- the tuple of a tree -/
def pd : Nd → PyData
  | .num n => .tuple [.str "number", .int n]
  | .fact x => .tuple [.str "fact", .str x, .none]
  | .factOr x p => .tuple [.str "fact", .str x, pd p]
  | .due x => .tuple [.str "due", .str x]
  | .pct n p => .tuple [.str "percent", .int n, pd p]
  | .ite c a b => .tuple [.str "if", pd c, pd a, pd b]
  | .op k a b => .tuple [.str k.w, pd a, pd b]
  | .known x => .tuple [.str "known", .str x]
  | .neg c => .tuple [.str "not", pd c]
  | .jn k a b => .tuple [.str k.w, pd a, pd b]
  | .cmp k a b => .tuple [.str k.w, pd a, pd b]
/-- its words -/
def wds : Nd → List Str
  | .num n => [Str.ofString (toString n)]
  | .fact x => ["fact", x]
  | .factOr x p => "fact" :: x :: "or" :: wds p
  | .due x => ["due", x]
  | .pct n p => "percent" :: Str.ofString (toString n) :: wds p
  | .ite c a b => "if" :: (wds c ++ (wds a ++ wds b))
  | .op k a b => k.w :: (wds a ++ wds b)
  | .known x => ["known", x]
  | .neg c => "not" :: wds c
  | .jn k a b => k.w :: (wds a ++ wds b)
  | .cmp k a b => k.w :: (wds a ++ wds b)
/-- a well made amount (true), condition (false) -/
def ok : Bool → Nd → Prop
  | true, .num n => -1000000000 < n ∧ n < 1000000000
  | true, .fact x => NameOk x
  | true, .factOr x p => NameOk x ∧ ok true p
  | true, .due x => NameOk x
  | true, .pct n p => 0 ≤ n ∧ n ≤ 1000 ∧ ok true p
  | true, .ite c a b => ok false c ∧ ok true a ∧ ok true b
  | true, .op _ a b => ok true a ∧ ok true b
  | false, .known x => NameOk x
  | false, .neg c => ok false c
  | false, .jn _ a b => ok false a ∧ ok false b
  | false, .cmp _ a b => ok true a ∧ ok true b
  | _, _ => False
/-- its height -/
def hgt : Nd → Nat
  | .num _ => 1
  | .fact _ => 1
  | .factOr _ p => hgt p + 1
  | .due _ => 1
  | .pct _ p => hgt p + 1
  | .ite c a b => max (hgt c) (max (hgt a) (hgt b)) + 1
  | .op _ a b => max (hgt a) (hgt b) + 1
  | .known _ => 1
  | .neg c => hgt c + 1
  | .jn _ a b => max (hgt a) (hgt b) + 1
  | .cmp _ a b => max (hgt a) (hgt b) + 1
theorem hgt_pos (p : Nd) : 1 ≤ hgt p := by cases p <;> simp only [hgt] <;> omega
theorem wds_ne (p : Nd) : wds p ≠ [] := by cases p <;> simp [wds]
theorem wds_pos (p : Nd) : 1 ≤ (wds p).length := List.length_pos_iff.mpr (wds_ne p)

/-! ### entries -/
inductive Ent where
  | report (came : Int) (person fact : Str) (value first after : Int)
  | enact (came : Int) (rule : Str) (p : Nd) (first after : Int)
  | strike (came : Int) (i : Nat)
def txt (p : Nd) : Str := Txt.join (" " : Str) (wds p)
def Ent.came : Ent → Int
  | .report c _ _ _ _ _ => c
  | .enact c _ _ _ _ => c
  | .strike c _ => c
def entD : Ent → PyData
  | .report c ps fc v f a => .tuple [.str "report", .int c, .str ps, .str fc, .int v, .tuple [.int f, .int a]]
  | .enact c r p f a => .tuple [.str "enact", .int c, .str r, .str (txt p), .tuple [.int f, .int a]]
  | .strike c i => .tuple [.str "strike", .int c, .int (i : Int)]
def spanOk (f a : Int) : Prop := 0 ≤ f ∧ f < a ∧ a ≤ 10000
/-- what an entry must be by itself -/
def Ent.ok : Ent → Prop
  | .report c ps fc v f a => (0 ≤ c ∧ c ≤ 9999) ∧ NameOk ps ∧ NameOk fc ∧ (-1000000000 < v ∧ v < 1000000000) ∧ spanOk f a
  | .enact c r p f a => (0 ≤ c ∧ c ≤ 9999) ∧ NameOk r ∧ (K14.ok true p ∧ hgt p ≤ 4 ∧ (wds p).length ≤ 40) ∧ spanOk f a
  | .strike c _ => 0 ≤ c ∧ c ≤ 9999
def Ent.isStrike : Ent → Bool
  | .strike _ _ => true
  | _ => false
/-- the day on which entry i was struck -/
def struckOn (es : List Ent) (i : Nat) : Option Int := es.findSome? fun e => match e with
  | .strike c j => if j = i then some c else none
  | _ => none
/-- what an entry must be behind those ahead of it -/
def Fits (es : List Ent) (e : Ent) : Prop := e.ok ∧ (∀ d, es.getLast? = some d → d.came ≤ e.came) ∧ (∀ c i, e = .strike c i → (∃ d, es[i]? = some d ∧ d.isStrike = false) ∧ struckOn es i = none)
inductive BookOk : List Ent → Prop
  | nil : BookOk []
  | snoc {es : List Ent} {e : Ent} : BookOk es → Fits es e → BookOk (es ++ [e])
end K14

set_option Elab.async false
set_option maxRecDepth 100000
set_option maxHeartbeats 4000000
/-! the text by places; what a def of it is; calls by bundles -/
namespace K14
open PySem PySem.Spec PyProof.Rows L2
open C8 (Cal Met Mak pe_c pe_mk pe_mt pe_mt0)
def top (i : Nat) : Stmt := PySem.Challenge.pw_duewrits_k14_whole_totals_of_parts.main.body.getD i (.Pass ⟨0, 0, 0, 0⟩)
/-- a def (or a method) as it stands behind the top -/
abbrev FnP (K : PySem.W.Frag) (x q : Str) (st : Stmt) (f : Addr) (fd : FuncData) : Prop := FunD K x q (defArgs st) (defBody st) (defScope st) [] [] f fd
/-- the global def x -/
structure Gf (K : PySem.W.Frag) (mg : Str → Option Value) (x : Str) (st : Stmt) (ps : List Str) : Prop where
  ex : ∃ (f : Addr) (fd : FuncData), FnP K x x st f fd ∧ mg x = some (.ref f) ∧ Binds K fd ps []
/-- the method m of the class at C -/
structure Mf (K : PySem.W.Frag) (C : Addr) (m q : Str) (st : Stmt) (ps : List Str) : Prop where
  ex : ∃ (f : Addr) (fd : FuncData), FnP K m q st f fd ∧ Cls K C ∧ Meth K C m f ∧ Binds K fd ps []
/-- the class x at C with an own __init__ -/
structure If (K : PySem.W.Frag) (mg : Str → Option Value) (x : Str) (C : Addr) (q : Str) (st : Stmt) (ps : List Str) : Prop where
  ex : ∃ (f : Addr) (fd : FuncData), FnP K "__init__" q st f fd ∧ Mk K C f ∧ mg x = some (.ref C) ∧ Binds K fd ps []
section
variable {P : Program} {w : World} {K : PySem.W.Frag} {mg : Str → Option Value} {base : Heap}
theorem fnP_ok {x q : Str} {st : Stmt} {f : Addr} {fd : FuncData} {N ps : List Str} {k : Nat} {sp : Sp} (F : FnP K x q st f fd) (S : FnScope N ps (defScope st)) (len : ∀ vs H Q E, sp vs H Q E → vs.length = ps.length)
    (body : ∀ (cdv : Value) (A : Around) (outer : List Env) (s : Shared) (H : Hp) (vs : List V) (Q : VK) (E : XK), Room k (A.deeper (envOfC q (defScope st) s.heap.objs.size f cdv)) → sp vs H Q E →
      ∃ t, PSs (cxOf CX0 P w K mg base N q (defScope st) f cdv A outer s H E).nox (defBody st) t ∧ t { nx := fun _ H' => Q .non H', rt := Q } (start N vs) H) : FnOk P w K mg base CX0 (k + 1) f fd ps sp := by
  refine F.ok S len fun cdv A outer s H vs Q E hr h => ?_
  obtain ⟨t, h1, h2⟩ := body cdv A outer s H vs Q E hr h
  exact ⟨t, PSs.nox h1, h2⟩
/-- a def that lets nothing out -/
theorem Gf.cal {x : Str} {st : Stmt} {N ps : List Str} {k : Nat} {sp : Sp} (G : Gf K mg x st ps) (S : FnScope N ps (defScope st)) (len : ∀ vs H Q E, sp vs H Q E → vs.length = ps.length)
    (body : ∀ (f : Addr) (cdv : Value) (A : Around) (outer : List Env) (s : Shared) (H : Hp) (vs : List V) (Q : VK) (E : XK), Room k (A.deeper (envOfC x (defScope st) s.heap.objs.size f cdv)) → sp vs H Q E →
      ∃ t, PSs (cxOf CX0 P w K mg base N x (defScope st) f cdv A outer s H E).nox (defBody st) t ∧ t { nx := fun _ H' => Q .non H', rt := Q } (start N vs) H) : Cal P w K mg base (k + 1) x sp [] := by
  obtain ⟨f, fd, F, hm, hb⟩ := G.ex
  exact ⟨f, fd, ps, [], fnP_ok F S len (body f), hm, F.kp, hb, .nil⟩
theorem Mf.met {C : Addr} {m q : Str} {st : Stmt} {N ps : List Str} {k : Nat} {sp : Sp} (G : Mf K C m q st ps) (S : FnScope N ps (defScope st)) (len : ∀ vs H Q E, sp vs H Q E → vs.length = ps.length)
    (body : ∀ (f : Addr) (cdv : Value) (A : Around) (outer : List Env) (s : Shared) (H : Hp) (vs : List V) (Q : VK) (E : XK), Room k (A.deeper (envOfC q (defScope st) s.heap.objs.size f cdv)) → sp vs H Q E →
      ∃ t, PSs (cxOf CX0 P w K mg base N q (defScope st) f cdv A outer s H E).nox (defBody st) t ∧ t { nx := fun _ H' => Q .non H', rt := Q } (start N vs) H) : Met P w K mg base (k + 1) C m sp [] := by
  obtain ⟨f, fd, F, hc, hm, hb⟩ := G.ex
  exact ⟨f, fd, ps, [], hc, hm, fnP_ok F S len (body f), hb, .nil⟩
theorem If.mak {x : Str} {C : Addr} {q : Str} {st : Stmt} {N ps : List Str} {k : Nat} {sp : Sp} (G : If K mg x C q st ps) (S : FnScope N ps (defScope st)) (len : ∀ vs H Q E, sp vs H Q E → vs.length = ps.length)
    (body : ∀ (f : Addr) (cdv : Value) (A : Around) (outer : List Env) (s : Shared) (H : Hp) (vs : List V) (Q : VK) (E : XK), Room k (A.deeper (envOfC q (defScope st) s.heap.objs.size f cdv)) → sp vs H Q E →
      ∃ t, PSs (cxOf CX0 P w K mg base N q (defScope st) f cdv A outer s H E).nox (defBody st) t ∧ t { nx := fun _ H' => Q .non H', rt := Q } (start N vs) H) : Mak P w K mg base (k + 1) x C sp [] := by
  obtain ⟨f, fd, F, hk, hm, hb⟩ := G.ex
  exact ⟨f, fd, ps, [], hk, fnP_ok F S len (body f), hm, hb, .nil⟩
/-- defs that may let an error out -/
structure CalX (P : Program) (w : World) (K : PySem.W.Frag) (mg : Str → Option Value) (base : Heap) (k : Nat) (x : Str) (sp : Sp) : Prop where
  ex : ∃ (f : Addr) (fd : FuncData) (ps : List Str), FnOk P w K mg base (L2.CX P w) k f fd ps sp ∧ mg x = some (.ref f) ∧ PySem.W.keepIn K (.ref f) = true ∧ Binds K fd ps []
structure MetX (P : Program) (w : World) (K : PySem.W.Frag) (mg : Str → Option Value) (base : Heap) (k : Nat) (C : Addr) (m : Str) (sp : Sp) : Prop where
  ex : ∃ (f : Addr) (fd : FuncData) (ps : List Str), Cls K C ∧ Meth K C m f ∧ FnOk P w K mg base (L2.CX P w) k f fd ps sp ∧ Binds K fd ps []
theorem Gf.calX {x : Str} {st : Stmt} {N ps : List Str} {k : Nat} {sp : Sp} (G : Gf K mg x st ps) (S : FnScope N ps (defScope st)) (len : ∀ vs H Q E, sp vs H Q E → vs.length = ps.length)
    (body : ∀ (f : Addr) (cdv : Value) (A : Around) (outer : List Env) (s : Shared) (H : Hp) (vs : List V) (Q : VK) (E : XK), Room k (A.deeper (envOfC x (defScope st) s.heap.objs.size f cdv)) → sp vs H Q E →
      ∃ t, PSs (cxOf (L2.CX P w) P w K mg base N x (defScope st) f cdv A outer s H E) (defBody st) t ∧ t { nx := fun _ H' => Q .non H', rt := Q } (start N vs) H) : CalX P w K mg base (k + 1) x sp := by
  obtain ⟨f, fd, F, hm, hb⟩ := G.ex
  exact ⟨f, fd, ps, F.ok S len (body f), hm, F.kp, hb⟩
theorem Mf.metX {C : Addr} {m q : Str} {st : Stmt} {N ps : List Str} {k : Nat} {sp : Sp} (G : Mf K C m q st ps) (S : FnScope N ps (defScope st)) (len : ∀ vs H Q E, sp vs H Q E → vs.length = ps.length)
    (body : ∀ (f : Addr) (cdv : Value) (A : Around) (outer : List Env) (s : Shared) (H : Hp) (vs : List V) (Q : VK) (E : XK), Room k (A.deeper (envOfC q (defScope st) s.heap.objs.size f cdv)) → sp vs H Q E →
      ∃ t, PSs (cxOf (L2.CX P w) P w K mg base N q (defScope st) f cdv A outer s H E) (defBody st) t ∧ t { nx := fun _ H' => Q .non H', rt := Q } (start N vs) H) : MetX P w K mg base (k + 1) C m sp := by
  obtain ⟨f, fd, F, hc, hm, hb⟩ := G.ex
  exact ⟨f, fd, ps, hc, hm, F.ok S len (body f), hb⟩
end
section
variable {X : Cx} {k j : Nat} {C : Addr} {x m : Str} {sp : Sp} {p pos apos : Pos} {e o : Expr} {es : List Expr} {ta : TE} {t : TA} {E : XK}
theorem pe_cx (c : CalX X.prog X.w X.K X.mg X.base k x sp) (hr : Room j X.A) (hk : k ≤ j) (hx : Passes (L2.CX X.prog X.w) X E) (hg : Gl X x) (ha : PA X (e :: es) t)
    (hdb : (x == ("__debug__" : Str)) = false := by decide) (he : starEach (e :: es) X.env = (false, eval e X.env) :: starEach es X.env := by rfl) (hpl : (backTo pos (starEach es X.env)).any (·.1) = false := by rfl) :
    PE X (.Call (.Name x p) (e :: es) [] pos) (tCall sp [] E t) := by
  obtain ⟨f, fd, ps, F, hm, kp, b⟩ := c.ex
  exact pe_call F (hr.mono hk) hg hm kp b .nil hx ha hdb he hpl
end
end K14

set_option Elab.async false
set_option maxRecDepth 100000
set_option maxHeartbeats 4000000
/-! words: is_day, is_span, word_at, is_name -/
namespace K14
open PySem PySem.Spec PyProof.Rows L2
open C8 (Cal Met Mak pe_c pe_mk pe_mt pe_mt0)
theorem ifT {c A B : Prop} [Decidable c] (hc : c) (h : A) : if decide c = true then A else B := by
  rw [decide_eq_true hc]
  exact iteT h
theorem ifF {c A B : Prop} [Decidable c] (hc : ¬ c) (h : B) : if decide c = true then A else B := by
  rw [decide_eq_false hc]
  exact iteF h
theorem ifNT {c A B : Prop} [Decidable c] (hc : ¬ c) (h : A) : if (!decide c) = true then A else B := by
  rw [decide_eq_false hc]
  exact iteT h
theorem ifB {b : Bool} {A B : Prop} (h1 : b = true → A) (h2 : b = false → B) : if b = true then A else B := by
  cases b with
  | true => exact iteT (h1 rfl)
  | false => exact iteF (h2 rfl)
theorem blT {c : Prop} [Decidable c] {Q : VK} {H : Hp} (hc : c) (h : Q (.bl true) H) : Q (.bl (decide c)) H := by
  rw [decide_eq_true hc]
  exact h
theorem blF {c : Prop} [Decidable c] {Q : VK} {H : Hp} (hc : ¬ c) (h : Q (.bl false) H) : Q (.bl (decide c)) H := by
  rw [decide_eq_false hc]
  exact h
theorem sl1000 {n : Nat} (h : n ≤ 1000) : n ≤ sizeLine := Nat.le_of_lt (small1000 h)
/-- the globals: built-ins that nothing hides, the program's constants -/
structure Tx (K : PySem.W.Frag) (mg : Str → Option Value) : Prop where
  len : mg "len" = none
  int : mg "int" = none
  abs : mg "abs" = none
  range : mg "range" = none
  list : mg "list" = none
  sorted : mg "sorted" = none
  min : mg "min" = none
  max : mg "max" = none
  str : mg "str" = none
  mChars : ∃ t, mg "MOST_CHARACTERS" = some (.int 12 t)
  mDigits : ∃ t, mg "MOST_DIGITS" = some (.int 9 t)
  lastDay : ∃ t, mg "LAST_DAY" = some (.int 9999 t)
  mWords : ∃ t, mg "MOST_WORDS" = some (.int 40 t)
  mPct : ∃ t, mg "MOST_PERCENT" = some (.int 1000 t)
  mEnt : ∃ t, mg "MOST_ENTRIES" = some (.int 100 t)
  mOpen : ∃ t, mg "MOST_OPEN" = some (.int 6 t)
  mLook : ∃ t, mg "MOST_LOOKUPS" = some (.int 100 t)
  large : ∃ t, mg "LARGEST" = some (.int 1000000000000000 t)
  letters : ∃ t, mg "LETTERS" = some (.str "abcdefghijklmnopqrstuvwxyz" t)
  digits : ∃ t, mg "DIGITS" = some (.str "0123456789" t)
  kept : ∃ a, mg "KEPT" = some (.ref a) ∧ ∀ H, SqT K H a (kept.map V.str)
  pairs : ∃ a, mg "PAIRS" = some (.ref a) ∧ ∀ H, SqT K H a ((["plus", "minus", "times", "least", "most"] : List Str).map V.str)
  tests : ∃ a, mg "TESTS" = some (.ref a) ∧ ∀ H, SqT K H a ((["below", "same"] : List Str).map V.str)
  joints : ∃ a, mg "JOINTS" = some (.ref a) ∧ ∀ H, SqT K H a ((["both", "either"] : List Str).map V.str)
section
variable {X : Cx} {x : Str} {p : Pos} {i : Int} {z : Str}
theorem gInt (h : ∃ t, X.mg x = some (.int i t)) (hg : Gl X x := by rfl) (hd : (x == ("__debug__" : Str)) = false := by decide) : PE X (.Name x p) (tC (.int i)) := by
  obtain ⟨t, h⟩ := h
  exact pe_glob hg h ⟨t, rfl⟩ hd
theorem gStr (h : ∃ t, X.mg x = some (.str z t)) (hg : Gl X x := by rfl) (hd : (x == ("__debug__" : Str)) = false := by decide) : PE X (.Name x p) (tC (.str z)) := by
  obtain ⟨t, h⟩ := h
  exact pe_glob hg h ⟨t, rfl⟩ hd
end
section
variable {P : Program} {w : World} {K : PySem.W.Frag} {mg : Str → Option Value} {base : Heap}
def spIsDay : Sp := fun vs H Q _ => ∃ d : Int, vs = [.int d] ∧ 0 ≤ d ∧ d ≤ 9999 ∧ Q (.bl true) H
theorem scDay : FnScope ["day"] ["day"] (defScope (top 15)) := ⟨rfl, rfl, rfl, by decide +kernel, rfl, by decide +kernel, by decide +kernel⟩
theorem c_is_day (G : Gf K mg "is_day" (top 15) ["day"]) (T : Tx K mg) : Cal P w K mg base 1 "is_day" spIsDay [] := by
  refine G.cal scDay (fun vs H Q E h => ?_) (fun f cdv A outer s H vs Q E hr h => ?_)
  · obtain ⟨d, rfl, _⟩ := h
    rfl
  · obtain ⟨d, rfl, h0, h1, q⟩ := h
    refine ⟨_, pss_one (ps_ret (pe_chain op_le op_le pe_int (pv 0) (gInt T.lastDay))), ?_⟩
    exact ⟨_, rfl, _, _, rfl, rfl, _, rfl, ifT h0 ⟨_, _, rfl, rfl, blT h1 q⟩⟩
end
/-- a op1 b op2 c op3 d -/
def tChain3 (r1 r2 r3 : R2) (ta tb tc td : TE) : TE := fun σ H Q => ta σ H fun x H1 => tb σ H1 fun y H2 => r1 x y H2 fun z H3 => ∃ k, z = .bl k ∧
  (if k = true then tc σ H3 fun u H4 => r2 y u H4 fun z' H5 => ∃ k', z' = .bl k' ∧ (if k' = true then td σ H5 fun v H6 => r3 u v H6 Q else Q (.bl false) H5) else Q (.bl false) H3)
section
variable {X : Cx} {a b c d : Expr} {ta tb tc td : TE} {pos : Pos} {o1 o2 o3 : CmpOp} {r1 r2 r3 : R2}
theorem pe_chain3 (h1 : OpR X (compareOp o1) r1) (h2 : OpR X (compareOp o2) r2) (h3 : OpR X (compareOp o3) r3) (ha : PE X a ta) (hb : PE X b tb) (hc : PE X c tc) (hd : PE X d td)
    (hm : lastMarks [o1, o2, o3] [b, c, d] = false := by with_unfolding_all rfl) : PE X (.Compare a [o1, o2, o3] [b, c, d] pos) (tChain3 r1 r2 r3 ta tb tc td) := by
  refine ⟨fun pins s σ H Q I h => ?_⟩
  refine Compare_chain (thn (ha.run pins s σ H _ I h) fun v s1 ⟨x, H1, I1, e1, q1⟩ => chain_link (thn (hb.run pins s1 σ H1 _ I1 q1) fun u s2 ⟨y, H2, I2, e2, q2⟩ =>
    thn (h1 pins s2 σ H2 x y v u _ I2 e1 e2 q2) fun k1 s3 ⟨z, H3, I3, e3, k, ek, q3⟩ => ?_)) hm
  subst ek
  cases e3
  refine wpAny_truthy_bool ?_
  cases k with
  | false => exact ite_ff ⟨.bl false, H3, I3, rfl, q3⟩
  | true =>
    refine ite_tt (chain_link (thn (hc.run pins s3 σ H3 _ I3 q3) fun u2 s4 ⟨y2, H4, I4, e4, q4⟩ => thn (h2 pins s4 σ H4 y y2 u u2 _ I4 e2 e4 q4) fun k2 s5 ⟨z', H5, I5, e5, k', ek', q5⟩ => ?_))
    subst ek'
    cases e5
    refine wpAny_truthy_bool ?_
    cases k' with
    | false => exact ite_ff ⟨.bl false, H5, I5, rfl, q5⟩
    | true => exact ite_tt (chain_last (thn (hd.run pins s5 σ H5 _ I5 q5) fun u3 s6 ⟨y3, H6, I6, e6, q6⟩ => h3 pins s6 σ H6 y2 y3 u2 u3 Q I6 e4 e6 q6))
end
section
variable {P : Program} {w : World} {K : PySem.W.Frag} {mg : Str → Option Value} {base : Heap}
def spIsSpan (K : PySem.W.Frag) : Sp := fun vs H Q _ => ∃ (a : Addr) (f t : Int), vs = [.ref a] ∧ SqT K H a [.int f, .int t] ∧ spanOk f t ∧ Q (.bl true) H
theorem scSpan : FnScope ["span", "first", "after"] ["span"] (defScope (top 16)) := ⟨rfl, rfl, rfl, by decide +kernel, rfl, by decide +kernel, by decide +kernel⟩
theorem c_is_span (G : Gf K mg "is_span" (top 16) ["span"]) (T : Tx K mg) : Cal P w K mg base 1 "is_span" (spIsSpan K) [] := by
  refine G.cal scSpan (fun vs H Q E h => ?_) (fun f cdv A outer s H vs Q E hr h => ?_)
  · obtain ⟨a, f, t, rfl, _⟩ := h
    rfl
  · obtain ⟨a, f, t, rfl, hs, ⟨h0, h1, h2⟩, q⟩ := h
    refine ⟨_, pss_cons (ps_asg (pv 0) (pg_tup rfl (pgs_cons (pg_name (i := 1) scSpan.nd rfl (.inl rfl)) (pgs_cons (pg_name (i := 2) scSpan.nd rfl (.inl rfl)) pgs_nil))))
      (pss_one (ps_ret (pe_chain3 op_le op_lt op_le pe_int (pv 1) (pv 2) (pe_op op_add (gInt T.lastDay) pe_int)))), ?_⟩
    refine ⟨_, rfl, a, _, rfl, hs, rfl, _, _, rfl, _, _, rfl, rfl, ?_⟩
    exact ⟨_, rfl, _, _, rfl, rfl, _, rfl, ifT h0 ⟨_, rfl, _, _, rfl, rfl, _, rfl, ifT h1 ⟨_, _, rfl, rfl, _, _, rfl, rfl, blT (by omega) q⟩⟩⟩
/-- the word at a place, or an empty one -/
def wordAt (ws : List Str) (k : Nat) : Str := ws.getD k ""
def spWordAt (K : PySem.W.Frag) : Sp := fun vs H Q _ => ∃ (a : Addr) (ws : List Str) (k : Nat), vs = [.ref a, .int (k : Int)] ∧ SqL K H a (ws.map V.str) ∧ Q (.str (wordAt ws k)) H
theorem scWordAt : FnScope ["words", "at"] ["words", "at"] (defScope (top 14)) := ⟨rfl, rfl, rfl, by decide +kernel, rfl, by decide +kernel, by decide +kernel⟩
theorem c_word_at (G : Gf K mg "word_at" (top 14) ["words", "at"]) (T : Tx K mg) : Cal P w K mg base 1 "word_at" (spWordAt K) [] := by
  refine G.cal scWordAt (fun vs H Q E h => ?_) (fun f cdv A outer s H vs Q E hr h => ?_)
  · obtain ⟨a, ws, k, rfl, _⟩ := h
    rfl
  · obtain ⟨a, ws, k, rfl, hs, q⟩ := h
    refine ⟨_, pss_cons (ps_if (pt_cmpR op_lt (pv 1) (pe_callB call_len_seq (by rfl) T.len PySem.boot_len (pa_cons (pv 0) pa_nil)) (nomark _)) (pss_one (ps_ret (pe_ix ix_list (pv 0) (pv 1) (fun _ _ => rfl)))) pss_nil)
      (pss_one (ps_ret pe_str)), ?_⟩
    refine ⟨_, rfl, _, rfl, a, _, rfl, .inl hs, _, _, rfl, rfl, _, rfl, ?_⟩
    rw [List.length_map]
    refine ite2 (fun c => ?_) (fun c => ?_)
    · have c' : k < ws.length := Int.ofNat_lt.mp (of_decide_eq_true c)
      refine ⟨_, rfl, _, rfl, a, _, _, _, rfl, rfl, hs, atI_nat (v := .str (wordAt ws k)) ?_, q⟩
      rw [List.getElem?_map, List.getElem?_eq_getElem c']
      unfold wordAt
      rw [List.getD_eq_getElem?_getD, List.getElem?_eq_getElem c']
      rfl
    · have c' : ¬ k < ws.length := fun z => c (decide_eq_true (Int.ofNat_lt.mpr z))
      have e : wordAt ws k = "" := by
        unfold wordAt
        rw [List.getD_eq_getElem?_getD, List.getElem?_eq_none (by omega)]
        rfl
      rw [e] at q
      exact q
/-! ### is_name -/
theorem lettersL : ("abcdefghijklmnopqrstuvwxyz" : Str).cps.toList = [97, 98, 99, 100, 101, 102, 103, 104, 105, 106, 107, 108, 109, 110, 111, 112, 113, 114, 115, 116, 117, 118, 119, 120, 121, 122] := by decide +kernel
theorem digitsL : ("0123456789" : Str).cps.toList = [48, 49, 50, 51, 52, 53, 54, 55, 56, 57] := by decide +kernel
theorem mem_letters {c : Nat} : c ∈ ("abcdefghijklmnopqrstuvwxyz" : Str).cps.toList ↔ isLow c = true := by
  rw [lettersL]
  unfold isLow
  rw [Bool.and_eq_true, decide_eq_true_iff, decide_eq_true_iff]
  simp only [List.mem_cons, List.not_mem_nil, or_false]
  omega
theorem mem_digits {c : Nat} : c ∈ ("0123456789" : Str).cps.toList ↔ isDig c = true := by
  rw [digitsL]
  unfold isDig
  rw [Bool.and_eq_true, decide_eq_true_iff, decide_eq_true_iff]
  simp only [List.mem_cons, List.not_mem_nil, or_false]
  omega
theorem flat_strs : ∀ l : List Str, (l.map V.str).all flatV = true
  | [] => rfl
  | _ :: r => flat_strs r
theorem inV_strs {x : Str} : ∀ {l : List Str}, inV (.str x) (l.map V.str) = decide (x ∈ l)
  | [] => by simp [inV]
  | y :: r => by
    have ih := inV_strs (x := x) (l := r)
    show (eqV (.str y) (.str x) || inV (.str x) (r.map V.str)) = _
    rw [ih]
    have e : eqV (.str y) (.str x) = decide (x = y) := by
      show (y == x) = _
      by_cases h : x = y
      · rw [decide_eq_true h, h]
        exact beq_self_eq_true _
      · rw [decide_eq_false h]
        exact beq_eq_false_iff_ne.mpr fun z => h z.symm
    rw [e]
    by_cases h : x = y
    · simp [h]
    · simp [h]
def spIsName : Sp := fun vs H Q _ => ∃ z : Str, vs = [.str z] ∧ NameOk z ∧ Q (.bl true) H
theorem scName : FnScope ["word", "char"] ["word"] (defScope (top 12)) := ⟨rfl, rfl, rfl, by decide +kernel, rfl, by decide +kernel, by decide +kernel⟩
theorem c_is_name (G : Gf K mg "is_name" (top 12) ["word"]) (T : Tx K mg) : Cal P w K mg base 1 "is_name" spIsName [] := by
  refine G.cal scName (fun vs H Q E h => ?_) (fun f cdv A outer s H vs Q E hr h => ?_)
  · obtain ⟨z, rfl, _⟩ := h
    rfl
  · obtain ⟨z, rfl, N, q⟩ := h
    obtain ⟨ka, kg, kt⟩ := T.kept
    refine ⟨_, pss_cons (ps_if (PW.pt (pw_or (pt_not (pt_chain op_le op_le pe_int (pe_callB call_len_str (by rfl) T.len PySem.boot_len (pa_cons (pv 0) pa_nil)) (gInt T.mChars))) (pw_or1 (pt_cmpR op_in_seq (pv 0) (pe_glob (v := .ref ka) rfl kg rfl) rfl)))) (pss_one (ps_ret pe_bl)) pss_nil)
      (pss_cons (ps_if (pt_cmpR op_notIn_sign (pe_ix ix_str (pv 0) pe_int (fun _ _ => rfl)) (gStr T.letters) rfl) (pss_one (ps_ret pe_bl)) pss_nil)
      (pss_cons (ps_for PassesOwn.never rfl (pi_str (pv 0)) (pg_name (i := 1) scName.nd rfl (.inl rfl))
        (pss_one (ps_if (PW.pt (pw_and (pt_cmpR op_notIn_sign (pv 1) (gStr T.letters) rfl) (pw_and1 (pt_cmpR op_notIn_sign (pv 1) (gStr T.digits) rfl)))) (pss_one (ps_ret pe_bl)) pss_nil)))
      (pss_one (ps_ret pe_bl)))), ?_⟩
    have hl : z.length ≤ sizeLine := sl1000 (Nat.le_trans N.len (by decide))
    -- not 1 <= len(word) <= 12 or word in KEPT
    refine ⟨_, rfl, _, rfl, hl, _, _, rfl, rfl, _, rfl, ifT (by have := N.pos; omega) ⟨_, _, rfl, rfl, _, rfl, ?_⟩⟩
    rw [decide_eq_true (by have := N.len; omega : ((z.length : Nat) : Int) ≤ 12)]
    refine iteF ⟨_, rfl, ka, _, rfl, .inr (kt H), rfl, flat_strs _, _, rfl, ?_⟩
    rw [inV_strs, decide_eq_false N.free]
    refine iteF ?_
    -- word[0] not in LETTERS
    obtain ⟨c, r, ec, hc⟩ := N.first
    refine ⟨_, rfl, z, 0, c, rfl, rfl, hl, ?_, c, _, rfl, rfl, _, rfl, ?_⟩
    · rw [ec]
      exact atI_nat (j := 0) rfl
    rw [decide_eq_true (mem_letters.mpr hc)]
    refine iteF ?_
    refine ⟨_, rfl, z, rfl, for_it walk_str (fun i σ H' => ∃ v : Option V, σ = [some (.str z), v] ∧ H' = H) ⟨none, rfl, rfl⟩ (fun _ _ _ _ _ => trivial) ?_ ?_⟩
    · rintro i x σ H1 H2 hi ⟨v, rfl, rfl⟩ ⟨rfl, d, hd, rfl⟩
      have hm : d ∈ z.cps.toList := by
        have := Array.mem_of_getElem? hd
        exact Array.mem_toList_iff.mpr this
      have ha := N.all d hm
      refine ⟨_, rfl, d, _, rfl, rfl, _, rfl, ?_⟩
      refine ite2 (fun c1 => ?_) (fun c1 => ?_)
      · refine ⟨_, rfl, d, _, rfl, rfl, _, rfl, ?_⟩
        have n1 : ¬ d ∈ ("abcdefghijklmnopqrstuvwxyz" : Str).cps.toList := by simpa using c1
        have n2 : d ∈ ("0123456789" : Str).cps.toList := by
          rw [mem_digits]
          rw [mem_letters] at n1
          rcases Bool.or_eq_true_iff.mp ha with h | h
          · exact absurd h n1
          · exact h
        rw [decide_eq_true n2]
        exact iteF ⟨_, rfl, rfl⟩
      · exact iteF ⟨_, rfl, rfl⟩
    · rintro σ H1 ⟨v, rfl, rfl⟩
      exact q
end
end K14

set_option Elab.async false
set_option maxRecDepth 100000
set_option maxHeartbeats 4000000
/-! words: is_number, split_words -/
namespace K14
open PySem PySem.Spec PyProof.Rows L2
open C8 (Cal Met Mak pe_c pe_mk pe_mt pe_mt0 pss_cut)
theorem minusE : ("-" : Str) = ⟨#[45]⟩ := by decide +kernel
theorem zeroE : ("0" : Str) = ⟨#[48]⟩ := by decide +kernel
theorem starts_minus (z : Str) : Txt.startswith z "-" = decide (z.cps.toList.head? = some 45) := by
  rw [minusE]
  obtain ⟨⟨l⟩⟩ := z
  cases l with
  | nil => rfl
  | cons c r =>
    show (decide (0 + 1 ≤ (c :: r).toArray.size) && ((c :: r).toArray.extract 0 (0 + 1) == #[45])) = decide (some c = some 45)
    have e : (c :: r).toArray.extract 0 (0 + 1) = #[c] := by simp
    rw [e]
    by_cases h : c = 45
    · subst h
      simp
    · have h2 : (#[c] == (#[45] : Array Nat)) = false := by simp [h]
      rw [h2]
      simp [h]
theorem cut_one (z : Str) : (cutS z (some 1) none).cps.toList = z.cps.toList.drop 1 := by
  unfold cutS
  show ((z.cps.toList.drop (HT.sIx z.length 0 (some ((1 : Nat) : Int)))).take (HT.sIx z.length z.length none - HT.sIx z.length 0 (some ((1 : Nat) : Int)))) = _
  have hl : z.length = z.cps.toList.length := by
    show z.cps.size = _
    simp
  rw [HT.sIx_nat, HT.sIx_none, hl]
  generalize z.cps.toList = l
  cases l with
  | nil => rfl
  | cons c r =>
    have e : min 1 (c :: r).length = 1 := by rw [List.length_cons]; omega
    rw [e]
    exact List.take_of_length_le (by simp)
/-- the digits of a word: behind a minus -/
def dgL (l : List Nat) : List Nat := if l.head? = some 45 then l.drop 1 else l
/-- what is_number says -/
def isNumL (l : List Nat) : Bool := decide (1 ≤ (dgL l).length) && (decide ((dgL l).length ≤ 9) && ((dgL l).all isDig && (!decide ((dgL l).head? = some 48) || decide (l = [48]))))
def isNum (z : Str) : Bool := isNumL z.cps.toList
theorem len_tl (z : Str) : z.length = z.cps.toList.length := by
  show z.cps.size = _
  simp
section
variable {P : Program} {w : World} {K : PySem.W.Frag} {mg : Str → Option Value} {base : Heap}
def spIsNum : Sp := fun vs H Q _ => ∃ z : Str, vs = [.str z] ∧ z.length ≤ 1000 ∧ Q (.bl (isNum z)) H
theorem scNum : FnScope ["word", "digits", "char"] ["word"] (defScope (top 13)) := ⟨rfl, rfl, rfl, by decide +kernel, rfl, by decide +kernel, by decide +kernel⟩
theorem str_ext {x y : Str} (h : x.cps.toList = y.cps.toList) : x = y := by
  obtain ⟨⟨a⟩⟩ := x
  obtain ⟨⟨b⟩⟩ := y
  have e : a = b := h
  rw [e]
theorem c_is_number (G : Gf K mg "is_number" (top 13) ["word"]) (T : Tx K mg) : Cal P w K mg base 1 "is_number" spIsNum [] := by
  refine G.cal scNum (fun vs H Q E h => ?_) (fun f cdv A outer s H vs Q E hr h => ?_)
  · obtain ⟨z, rfl, _⟩ := h
    rfl
  · obtain ⟨z, rfl, hz, q⟩ := h
    refine ⟨_, pss_cons (ps_set (i := 1) scNum.nd rfl (.inl rfl) (pv 0))
      (pss_cut (ps_if (pt_val (pe_m1 PySem.F.slot_str_startswith PySem.F.type_str_startswith mt_startswith (pv 0) pe_str)) (pss_one (ps_set (i := 1) scNum.nd rfl (.inl rfl) (pe_slice sl_str (pv 0) (po_some pe_int) po_none))) pss_nil)
      (pss_cons (ps_if (pt_not (pt_chain op_le op_le pe_int (pe_callB call_len_str (by rfl) T.len PySem.boot_len (pa_cons (pv 1) pa_nil)) (gInt T.mDigits))) (pss_one (ps_ret pe_bl)) pss_nil)
      (pss_cons (ps_for PassesOwn.never rfl (pi_str (pv 1)) (pg_name (i := 2) scNum.nd rfl (.inl rfl)) (pss_one (ps_if (pt_cmpR op_notIn_sign (pv 2) (gStr T.digits) rfl) (pss_one (ps_ret pe_bl)) pss_nil)))
      (pss_one (ps_ret (pe_or (pe_cmpR op_ne (pe_ix ix_str (pv 1) pe_int (fun _ _ => rfl)) pe_str (nomark _)) (pe_one (pe_cmpR op_eq (pv 0) pe_str (nomark _))))))))), ?_⟩
    have hzl : z.length ≤ sizeLine := sl1000 hz
    refine ⟨_, rfl, fun σ H1 => H = H1 ∧ ∃ d : Str, σ = [some (.str z), some (.str d), none] ∧ d.cps.toList = dgL z.cps.toList ∧ d.length ≤ 1000, ?_, ?_⟩
    · refine ⟨_, rfl, ⟨_, rfl⟩, z, _, rfl, rfl, _, rfl, ?_⟩
      rw [starts_minus]
      refine ite2 (fun c => ?_) (fun c => ?_)
      · exact ⟨_, rfl, _, rfl, z, rfl, hzl, rfl, _, rfl, by rw [cut_one, dgL, if_pos (of_decide_eq_true c)], Nat.le_trans (cutS_length _ _ _) hz⟩
      · exact ⟨rfl, _, rfl, by rw [dgL, if_neg fun h => c (decide_eq_true h)], hz⟩
    rintro σ H1 ⟨rfl, d, rfl, hd, hdl⟩
    have hdz : d.length ≤ sizeLine := sl1000 hdl
    have el : d.length = d.cps.toList.length := len_tl d
    have eq : isNum z = (decide (1 ≤ d.cps.toList.length) && (decide (d.cps.toList.length ≤ 9) && (d.cps.toList.all isDig && (!decide (d.cps.toList.head? = some 48) || decide (z.cps.toList = [48]))))) := by
      unfold isNum isNumL
      rw [hd]
    rw [eq] at q
    clear eq
    refine ⟨_, rfl, _, rfl, hdz, _, _, rfl, rfl, _, rfl, ?_⟩
    refine ite2 (fun c1 => ?_) (fun c1 => ?_)
    rotate_left
    · -- no digits
      refine ⟨_, rfl, iteT ?_⟩
      have n : ¬ 1 ≤ d.cps.toList.length := fun h => c1 (decide_eq_true (by omega))
      rw [decide_eq_false n] at q
      exact q
    have c1' : (1 : Int) ≤ ((d.length : Nat) : Int) := of_decide_eq_true c1
    have n1 : 1 ≤ d.cps.toList.length := by omega
    rw [decide_eq_true n1, Bool.true_and] at q
    refine ⟨_, _, rfl, rfl, _, rfl, ?_⟩
    by_cases n2 : d.cps.toList.length ≤ 9
    rotate_left
    · rw [decide_eq_false n2, Bool.false_and] at q
      rw [decide_eq_false (by omega : ¬ ((d.length : Nat) : Int) ≤ 9)]
      exact iteT q
    rw [decide_eq_true n2, Bool.true_and] at q
    rw [decide_eq_true (by omega : ((d.length : Nat) : Int) ≤ 9)]
    refine iteF ?_
    refine ⟨_, rfl, d, rfl, for_it walk_str (fun i σ H' => ∃ v : Option V, σ = [some (.str z), some (.str d), v] ∧ H = H' ∧ ((d.cps.toList.take i).all isDig = true)) ⟨none, rfl, rfl, rfl⟩ (fun _ _ _ _ _ => trivial) ?_ ?_⟩
    · rintro i x σ H1 H2 hi ⟨v, rfl, rfl, ha⟩ ⟨rfl, c, hc, rfl⟩
      have hc' : d.cps.toList[i]? = some c := by rw [Array.getElem?_toList]; exact hc
      have hm : c ∈ d.cps.toList := List.mem_of_getElem? hc'
      refine ⟨_, rfl, c, _, rfl, rfl, _, rfl, ?_⟩
      by_cases hd0 : c ∈ ("0123456789" : Str).cps.toList
      · rw [decide_eq_true hd0]
        refine iteF ⟨_, rfl, rfl, ?_⟩
        rw [List.take_add_one, hc', List.all_append, ha]
        show (true && (isDig c && true)) = true
        rw [mem_digits.mp hd0]
        rfl
      · rw [decide_eq_false hd0]
        refine iteT ?_
        have nall : d.cps.toList.all isDig = false := by
          rw [Bool.eq_false_iff]
          intro h
          exact hd0 (mem_digits.mpr (List.all_eq_true.mp h c hm))
        rw [nall, Bool.false_and] at q
        exact q
    · rintro σ H1 ⟨v, rfl, rfl, ha⟩
      have hz2 : d.cps.toList.take d.cps.size = d.cps.toList := List.take_of_length_le (by simp)
      rw [hz2] at ha
      rw [ha, Bool.true_and] at q
      obtain ⟨c, r, ec⟩ : ∃ c r, d.cps.toList = c :: r := by
        cases e : d.cps.toList with
        | nil => rw [e] at n1; exact absurd n1 (by simp)
        | cons c r => exact ⟨c, r, rfl⟩
      refine ⟨_, rfl, d, 0, c, rfl, rfl, hdz, (by rw [ec]; exact atI_nat (j := 0) rfl), rfl, _, rfl, ?_⟩
      rw [ec] at q
      have e1 : (some c = some 48) ↔ c = 48 := by simp
      by_cases h48 : c = 48
      · subst h48
        have e : decide (V.str ⟨#[48]⟩ = V.str "0") = true := by decide +kernel
        rw [e]
        refine iteF ⟨_, rfl, rfl, ?_⟩
        have e2 : decide (V.str z = V.str "0") = decide (z.cps.toList = [48]) := by
          by_cases hz0 : z.cps.toList = [48]
          · rw [decide_eq_true hz0, decide_eq_true]
            rw [zeroE]
            congr 1
            exact str_ext hz0
          · rw [decide_eq_false hz0, decide_eq_false]
            intro h
            injection h with h
            rw [h, zeroE] at hz0
            exact hz0 rfl
        rw [e2]
        have e3 : (!decide ((48 :: r).head? = some 48) || decide (z.cps.toList = [48])) = decide (z.cps.toList = [48]) := by simp
        rw [e3] at q
        exact q
      · have e : decide (V.str ⟨#[c]⟩ = V.str "0") = false := by
          rw [decide_eq_false]
          intro h
          injection h with h
          rw [zeroE] at h
          injection h with h
          apply h48
          simpa using h
        rw [e]
        refine iteT ?_
        have e3 : (!decide ((c :: r).head? = some 48) || decide (z.cps.toList = [48])) = true := by simp [h48]
        rw [e3] at q
        exact q
end
end K14

set_option Elab.async false
set_option maxRecDepth 100000
set_option maxHeartbeats 4000000
/-! numbers written and read back -/
namespace K14
open PySem PySem.Spec PyProof.Rows L2
theorem numL_head {n : Nat} (h : 1 ≤ n) : (TL.numL n).head? ≠ some 48 := by
  induction n using Nat.strongRecOn with
  | _ n ih =>
    by_cases h9 : n < 10
    · rw [TL.numL_lt h9]
      intro e
      have e2 : 48 + n = 48 := Option.some.inj e
      omega
    · rw [TL.numL_step (by omega), List.head?_append]
      have z := ih (n / 10) (by omega) (by omega)
      intro e
      cases q : (TL.numL (n / 10)).head? with
      | none => exact TL.numL_ne _ (List.head?_eq_none_iff.mp q)
      | some c =>
        rw [q] at e z
        exact z e
theorem strL (s : String) : (Str.ofString s).cps.toList = s.toList.map Char.toNat := by
  show (cpsOfBytes 0 0 s.toByteArray.data.toList) = _
  exact cpsOfBytes_string s
theorem num_pos (n : Nat) : (Str.ofString (toString (n : Int))).cps.toList = TL.numL n := TL.tl_num n
theorem num_neg (n : Nat) (h : 1 ≤ n) : (Str.ofString (toString (-(n : Int)))).cps.toList = 45 :: TL.numL n := by
  obtain ⟨k, rfl⟩ : ∃ k, n = k + 1 := ⟨n - 1, by omega⟩
  have e : (-((k + 1 : Nat) : Int)) = Int.negSucc k := rfl
  rw [e, strL]
  show (("-" ++ Nat.repr (k + 1)).toList.map Char.toNat) = _
  rw [String.toList_append, List.map_append, Nat.toList_repr]
  rfl
/-- the signs of a number -/
theorem num_signs (n : Int) : ∃ m : Nat, (n = (m : Int) ∧ (Str.ofString (toString n)).cps.toList = TL.numL m) ∨ (1 ≤ m ∧ n = -(m : Int) ∧ (Str.ofString (toString n)).cps.toList = 45 :: TL.numL m) := by
  by_cases h : 0 ≤ n
  · obtain ⟨m, rfl⟩ := Int.eq_ofNat_of_zero_le h
    exact ⟨m, .inl ⟨rfl, num_pos m⟩⟩
  · obtain ⟨m, e⟩ := Int.eq_ofNat_of_zero_le (show 0 ≤ -n by omega)
    have e2 : n = -(m : Int) := by omega
    subst e2
    exact ⟨m, .inr ⟨by omega, rfl, num_neg m (by omega)⟩⟩
theorem numL_first (m : Nat) : ∃ c r, TL.numL m = c :: r ∧ c ≠ 45 ∧ c ≠ 43 := by
  cases e : TL.numL m with
  | nil => exact absurd e (TL.numL_ne m)
  | cons c r =>
    have h := TL.numL_digits m c (by rw [e]; exact List.mem_cons_self ..)
    exact ⟨c, r, rfl, by omega, by omega⟩
theorem numL_dig (m : Nat) : (TL.numL m).all isDig = true := by
  rw [List.all_eq_true]
  intro c hc
  have h := TL.numL_digits m c hc
  unfold isDig
  rw [decide_eq_true h.1, decide_eq_true h.2]
  rfl
theorem pow9 : (10 : Nat) ^ 9 = 1000000000 := by decide
theorem num_len {n : Int} (h : -1000000000 < n ∧ n < 1000000000) : (Str.ofString (toString n)).length ≤ 10 := by
  rw [len_tl]
  obtain ⟨m, ⟨rfl, e⟩ | ⟨_, rfl, e⟩⟩ := num_signs n
  · rw [e]
    exact Nat.le_trans (TL.numL_len (k := 9) (by decide) (by rw [pow9]; omega)) (by decide)
  · rw [e, List.length_cons]
    exact Nat.succ_le_succ (TL.numL_len (k := 9) (by decide) (by rw [pow9]; omega))
theorem num_isNum {n : Int} (h : -1000000000 < n ∧ n < 1000000000) : isNum (Str.ofString (toString n)) = true := by
  unfold isNum isNumL
  obtain ⟨m, ⟨rfl, e⟩ | ⟨h1, rfl, e⟩⟩ := num_signs n
  · rw [e]
    obtain ⟨c, r, ec, c45, _⟩ := numL_first m
    have ed : dgL (TL.numL m) = TL.numL m := by
      unfold dgL
      rw [if_neg]
      rw [ec]
      intro q
      exact c45 (Option.some.inj q)
    rw [ed, numL_dig, decide_eq_true (show 1 ≤ (TL.numL m).length by rw [ec]; simp), decide_eq_true (TL.numL_len (k := 9) (by decide) (by rw [pow9]; omega))]
    by_cases h0 : m = 0
    · subst h0
      decide +kernel
    · have z := numL_head (n := m) (by omega)
      rw [decide_eq_false z]
      rfl
  · rw [e]
    have ed : dgL (45 :: TL.numL m) = TL.numL m := rfl
    obtain ⟨c, r, ec, _, _⟩ := numL_first m
    rw [ed, numL_dig, decide_eq_true (show 1 ≤ (TL.numL m).length by rw [ec]; simp), decide_eq_true (TL.numL_len (k := 9) (by decide) (by rw [pow9]; omega)), decide_eq_false (numL_head h1)]
    rfl
theorem num_read {n : Int} (h : -1000000000 < n ∧ n < 1000000000) : PySem.intText? (Str.ofString (toString n)) = some n := by
  have hl := num_len h
  obtain ⟨m, ⟨rfl, e⟩ | ⟨h1, rfl, e⟩⟩ := num_signs n
  · have z := PySem.intText_digits (x := Str.ofString (toString (m : Int))) (by rw [e]; exact TL.numL_digits m) (by rw [e]; exact TL.numL_ne m) (Nat.le_trans hl (by decide))
    rw [e, TL.numL_val] at z
    exact z
  · have z := PySem.intText_neg (x := Str.ofString (toString (-(m : Int)))) (cs := TL.numL m) e (TL.numL_digits m) (TL.numL_ne m) (Nat.le_trans hl (by decide))
    rw [TL.numL_val] at z
    exact z
theorem num_nosp (n : Int) : 32 ∉ (Str.ofString (toString n)).cps.toList := by
  obtain ⟨m, ⟨rfl, e⟩ | ⟨_, rfl, e⟩⟩ := num_signs n
  · rw [e]
    exact TL.numL_free (.inl (by decide))
  · rw [e]
    intro h
    rcases List.mem_cons.mp h with h | h
    · cases h
    · exact TL.numL_free (n := m) (s := 32) (.inl (by decide)) h
theorem num_ne (n : Int) : (Str.ofString (toString n)).cps.toList ≠ [] := by
  obtain ⟨m, ⟨rfl, e⟩ | ⟨_, rfl, e⟩⟩ := num_signs n
  · rw [e]
    exact TL.numL_ne m
  · rw [e]
    simp
/-- a number is no word of the language, no name -/
theorem isNum_low {c : Nat} {r : List Nat} {z : Str} (e : z.cps.toList = c :: r) (h : isLow c = true) : isNum z = false := by
  unfold isLow at h
  rw [Bool.and_eq_true, decide_eq_true_iff, decide_eq_true_iff] at h
  unfold isNum isNumL dgL
  rw [e]
  have e1 : ¬ ((c :: r).head? = some 45) := fun q => by
    have := Option.some.inj q
    omega
  rw [if_neg e1]
  have e2 : isDig c = false := by
    unfold isDig
    rw [decide_eq_false (show ¬ c ≤ 57 by omega), Bool.and_false]
  rw [List.all_cons, e2]
  simp
end K14

set_option Elab.async false
set_option maxRecDepth 100000
set_option maxHeartbeats 4000000
/-! split_words -/
namespace K14
open PySem PySem.Spec PyProof.Rows L2
open C8 (Cal Met Mak pe_c pe_mk pe_mt pe_mt0 pss_cut)
theorem same_new {H : Hp} {p : Addr} (h : H p = none) (o : HO) : Same H (upd H p o) := fun b u q => by
  rw [upd_ne (ne_of_none q h)]
  exact q
/-- words that a blank may join -/
def Plain (ws : List Str) : Prop := ws ≠ [] ∧ ∀ z ∈ ws, 32 ∉ z.cps.toList ∧ z ≠ ""
section
variable {P : Program} {w : World} {K : PySem.W.Frag} {mg : Str → Option Value} {base : Heap}
def spSplit : Sp := fun vs H Q _ => ∃ ws : List Str, vs = [.str (Txt.join " " ws)] ∧ Plain ws ∧ (Txt.join " " ws).length ≤ 1000 ∧ ws.length ≤ 1000 ∧ ∀ l H', Same H H' → H' l = some (.lst (ws.map V.str)) → Q (.ref l) H'
theorem scSplit : FnScope ["text", "word"] ["text"] (defScope (top 11)) := ⟨rfl, rfl, rfl, by decide +kernel, rfl, by decide +kernel, by decide +kernel⟩
theorem c_split (G : Gf K mg "split_words" (top 11) ["text"]) : Cal P w K mg base 1 "split_words" spSplit [] := by
  refine G.cal scSplit (fun vs H Q E h => ?_) (fun f cdv A outer s H vs Q E hr h => ?_)
  · obtain ⟨ws, rfl, _⟩ := h
    rfl
  · obtain ⟨ws, rfl, ⟨hne, hp⟩, hl, hw, q⟩ := h
    refine ⟨_, pss_one (ps_ret (pe_lc (own := [("word", 1)]) rfl scSplit.nd (pi_list (pe_split (pv 0) pe_str)) (blkOk_by (own := [("word", 1)]) (N := ["text", "word"]) (sc := defScope (top 11)) (by decide +kernel))
      (fun _ _ _ _ _ => pg_name (i := 1) scSplit.nd rfl (Or.inl rfl)) (fun _ _ _ _ _ => pts_one (pt_cmpR op_ne (pv 1) pe_str (nomark _))) (fun _ _ _ _ _ => pv 1))), ?_⟩
    refine ⟨_, rfl, ⟨_, rfl⟩, _, _, rfl, rfl, by decide +kernel, ?_, fun p hp' => ?_⟩
    · rw [sizeLine_eq]
      omega
    have es : Txt.split (Txt.join " " ws) " " = ws := TL.split_join (s := 32) (S := []) (by decide +kernel) (by decide +kernel) hne fun z hz => (hp z hz).1
    rw [es]
    refine ⟨p, rfl, ⟨_, SqL.of upd_same⟩, fun D hD => ?_⟩
    have nDp : p ≠ D := fun e => by
      rw [e, upd_same] at hD
      cases hD
    refine lc_it (walk_list (K := K) (xs := ws.map V.str)) (fun i H' => Same H H' ∧ H' p = some (.lst (ws.map V.str)) ∧ H' D = some (.lst ((ws.take i).map V.str))) ⟨?_, ?_, upd_same⟩ (fun i H' _ h => SqL.of h.2.1) ?_ ?_
    · exact (same_new hp' _).trans (same_new hD _)
    · rw [upd_ne nDp, upd_same]
    · rintro i x H1 H2 hi ⟨s1, h1, h2⟩ ⟨rfl, hx⟩
      rw [List.length_map] at hi
      rw [List.getElem?_map, List.getElem?_eq_getElem hi] at hx
      have ex : V.str ws[i] = x := Option.some.inj hx
      subst ex
      refine ⟨rfl, _, rfl, rfl, _, rfl, ?_⟩
      have hn : ¬ V.str ws[i] = V.str "" := fun e => (hp _ (List.getElem_mem hi)).2 (V.str.inj e)
      rw [decide_eq_false hn]
      refine iteT ⟨_, rfl, _, h2, ?_, ?_, ?_, ?_⟩
      · rw [List.length_map, List.length_take]
        exact small1000 (by omega)
      · intro b o e
        rw [upd_ne]
        · exact s1 b o e
        · intro e2
          rw [e2] at e
          have := (same_new hp' (.lst (ws.map V.str))) _ _ e
          rw [hD] at this
          cases this
      · rw [upd_ne nDp]
        exact h1
      · rw [upd_same, List.take_add_one, List.getElem?_eq_getElem hi, List.map_append]
        rfl
    · rintro H1 ⟨s1, h1, h2⟩
      rw [List.length_map, List.take_of_length_le (Nat.le_refl _)] at h2
      exact q D H1 s1 h2
end
end K14

set_option Elab.async false
set_option maxRecDepth 100000
set_option maxHeartbeats 4000000
/-! data in the heap: what stays -/
namespace K14
open PySem PySem.Spec PyProof.Rows L2
/-- data of tuples alone -/
def tupD : PyData → Bool
  | .list _ => false
  | .dict _ => false
  | .tuple ds => tupDs ds
  | _ => true
where tupDs : List PyData → Bool
  | [] => true
  | d :: ds => tupD d && tupDs ds
section
variable {K : PySem.W.Frag} {H H' : Hp}
mutual
theorem dp_mono (hT : ∀ a xs, SqT K H a xs → SqT K H' a xs) (hL : ∀ a xs, SqL K H a xs → SqL K H' a xs) : ∀ (d : PyData) (v : V), Dp K H v d → Dp K H' v d
  | .none, _, h => by cases h; exact .non
  | .bool _, _, h => by cases h; exact .bl _
  | .int _, _, h => by cases h; exact .int _
  | .str _, _, h => by cases h; exact .str _
  | .list ds, _, h => by
    cases h with
    | lst h1 h2 => exact .lst (hL _ _ h1) (dpAll_mono hT hL ds _ h2)
  | .tuple ds, _, h => by
    cases h with
    | tup h1 h2 => exact .tup (hT _ _ h1) (dpAll_mono hT hL ds _ h2)
  | .dict _, _, h => by cases h
theorem dpAll_mono (hT : ∀ a xs, SqT K H a xs → SqT K H' a xs) (hL : ∀ a xs, SqL K H a xs → SqL K H' a xs) : ∀ (ds : List PyData) (vs : List V), DpAll K H vs ds → DpAll K H' vs ds
  | [], _, h => by cases h; exact .nil
  | d :: ds, _, h => by
    cases h with
    | cons h1 h2 => exact .cons (dp_mono hT hL d _ h1) (dpAll_mono hT hL ds _ h2)
end
mutual
theorem dp_tup (hT : ∀ a xs, SqT K H a xs → SqT K H' a xs) : ∀ (d : PyData) (v : V), tupD d = true → Dp K H v d → Dp K H' v d
  | .none, _, _, h => by cases h; exact .non
  | .bool _, _, _, h => by cases h; exact .bl _
  | .int _, _, _, h => by cases h; exact .int _
  | .str _, _, _, h => by cases h; exact .str _
  | .list ds, _, t, _ => by cases t
  | .tuple ds, _, t, h => by
    cases h with
    | tup h1 h2 => exact .tup (hT _ _ h1) (dpAll_tup hT ds _ t h2)
  | .dict _, _, t, _ => by cases t
theorem dpAll_tup (hT : ∀ a xs, SqT K H a xs → SqT K H' a xs) : ∀ (ds : List PyData) (vs : List V), tupD.tupDs ds = true → DpAll K H vs ds → DpAll K H' vs ds
  | [], _, _, h => by cases h; exact .nil
  | d :: ds, _, t, h => by
    have t' : (tupD d && tupD.tupDs ds) = true := t
    rw [Bool.and_eq_true] at t'
    cases h with
    | cons h1 h2 => exact .cons (dp_tup hT d _ t'.1 h1) (dpAll_tup hT ds _ t'.2 h2)
end
theorem sqT_same (e : Same H H') {a : Addr} {xs : List V} (h : SqT K H a xs) : SqT K H' a xs := by
  rcases h with (h | ⟨o, h⟩) | h
  · exact .inl (.inl (e _ _ h))
  · exact .inl (.inr ⟨o, e _ _ h⟩)
  · exact .inr h
theorem dp_same (e : Same H H') {d : PyData} {v : V} (h : Dp K H v d) : Dp K H' v d := dp_mono (fun _ _ => sqT_same e) (fun _ _ => e.seq) d v h
/-- all but what stands at l -/
def SameX (l : Addr) (H H' : Hp) : Prop := ∀ b o, b ≠ l → H b = some o → H' b = some o
theorem SameX.refl (l : Addr) (H : Hp) : SameX l H H := fun _ _ _ h => h
theorem SameX.trans {l : Addr} {H1 H2 H3 : Hp} (a : SameX l H1 H2) (b : SameX l H2 H3) : SameX l H1 H3 := fun c o n h => b c o n (a c o n h)
theorem SameX.of {l : Addr} (e : Same H H') : SameX l H H' := fun b o _ h => e b o h
theorem SameX.all {l : Addr} (e : SameX l H H') (n : H l = none) : Same H H' := fun b o h => e b o (ne_of_none h n) h
theorem SameX.sqT {l : Addr} (e : SameX l H H') (hl : ∀ xs, H l ≠ some (.tup xs)) (hf : ∀ o u, H l ≠ some (.frz o u)) {a : Addr} {xs : List V} (h : SqT K H a xs) : SqT K H' a xs := by
  rcases h with (h | ⟨o, h⟩) | h
  · exact .inl (.inl (e _ _ (fun q => hl xs (by rw [← q]; exact h)) h))
  · exact .inl (.inr ⟨o, e _ _ (fun q => hf _ _ (by rw [← q]; exact h)) h⟩)
  · exact .inr h
theorem SameX.sqT_lst {l : Addr} {ys : List V} (e : SameX l H H') (hl : H l = some (.lst ys)) {a : Addr} {xs : List V} (h : SqT K H a xs) : SqT K H' a xs :=
  e.sqT (fun _ q => by rw [hl] at q; cases q) (fun _ _ q => by rw [hl] at q; cases q) h
theorem SameX.dp {l : Addr} {ys : List V} (e : SameX l H H') (hl : H l = some (.lst ys)) {d : PyData} {v : V} (t : tupD d = true) (h : Dp K H v d) : Dp K H' v d := dp_tup (fun _ _ => e.sqT_lst hl) d v t h
theorem same_made {K : PySem.W.Frag} {H : Hp} {x dx C : Addr} (nx : H x = none) (nd : H dx = none) (fs : List (Str × V)) : Same H (upd (upd H dx (.own x)) x (.ins C dx fs)) := fun b o e => by
  rw [upd_ne (ne_of_none e nx), upd_ne (ne_of_none e nd)]
  exact e
end
theorem pd_tup (p : Nd) : tupD (pd p) = true := by
  induction p with
  | num n => rfl
  | fact x => rfl
  | factOr x p ih => show (true && (true && (tupD (pd p) && true))) = true; rw [ih]; rfl
  | due x => rfl
  | pct n p ih => show (true && (true && (tupD (pd p) && true))) = true; rw [ih]; rfl
  | ite c a b i1 i2 i3 => show (true && (tupD (pd c) && (tupD (pd a) && (tupD (pd b) && true)))) = true; rw [i1, i2, i3]; rfl
  | op k a b i1 i2 => show (true && (tupD (pd a) && (tupD (pd b) && true))) = true; rw [i1, i2]; rfl
  | known x => rfl
  | neg c ih => show (true && (tupD (pd c) && true)) = true; rw [ih]; rfl
  | jn k a b i1 i2 => show (true && (tupD (pd a) && (tupD (pd b) && true))) = true; rw [i1, i2]; rfl
  | cmp k a b i1 i2 => show (true && (tupD (pd a) && (tupD (pd b) && true))) = true; rw [i1, i2]; rfl
/-! the words of a tree -/
theorem low_word {z : Str} (h : ∃ c r, z.cps.toList = c :: r ∧ isLow c = true) : isNum z = false := by
  obtain ⟨c, r, e, l⟩ := h
  exact isNum_low e l
theorem head_ne_or (b : Bool) (p : Nd) (h : ok b p) : ∀ rest, (wds p ++ rest).head? ≠ some "or" := by
  intro rest
  cases p with
  | num n =>
    cases b with
    | true =>
      intro e
      have e1 : Str.ofString (toString n) = "or" := Option.some.inj e
      have e2 := num_isNum (n := n) h
      rw [e1] at e2
      exact absurd e2 (by decide +kernel)
    | false => exact h.elim
  | op k a c => cases k <;> exact fun e => absurd (Option.some.inj e) (by decide +kernel)
  | jn k a c => cases k <;> exact fun e => absurd (Option.some.inj e) (by decide +kernel)
  | cmp k a c => cases k <;> exact fun e => absurd (Option.some.inj e) (by decide +kernel)
  | _ => exact fun e => absurd (Option.some.inj e) (by decide +kernel)
theorem wordAt_of {ws : List Str} {k : Nat} {x : Str} {r : List Str} (h : ws.drop k = x :: r) : wordAt ws k = x := by
  unfold wordAt
  rw [List.getD_eq_getElem?_getD]
  have e : ws[k]? = some x := by
    have := List.getElem?_drop (xs := ws) (i := k) (j := 0)
    rw [h] at this
    simpa using this.symm
  rw [e]
  rfl
theorem wordAt_head {ws : List Str} {k : Nat} {r : List Str} (h : ws.drop k = r) (x : Str) (hx : r.head? ≠ some x) (he : x ≠ "") : wordAt ws k ≠ x := by
  cases r with
  | nil =>
    unfold wordAt
    rw [List.getD_eq_getElem?_getD, List.getElem?_eq_none (List.drop_eq_nil_iff.mp h)]
    exact fun q => he q.symm
  | cons y r =>
    rw [wordAt_of h]
    exact fun q => hx (by rw [q]; rfl)
theorem drop_more {ws a b : List Str} {k : Nat} (h : ws.drop k = a ++ b) : ws.drop (k + a.length) = b := by
  rw [← List.drop_drop, h]
  simp
theorem drop_one {ws b : List Str} {x : Str} {k : Nat} (h : ws.drop k = x :: b) : ws.drop (k + 1) = b := drop_more (a := [x]) h
end K14

set_option Elab.async false
set_option maxRecDepth 100000
set_option maxHeartbeats 4000000
/-! texts: parse_name, parse_fact, parse_percent, parse_if, parse_part, parse_condition, parse_amount: a text that a tree has is read as that tree -/
namespace K14
open PySem PySem.Spec PyProof.Rows L2
open C8 (Cal Met Mak pe_c pe_mk pe_mt pe_mt0 pss_cut)
section
variable {P : Program} {w : World} {K : PySem.W.Frag} {mg : Str → Option Value} {base : Heap}
theorem name_len {x : Str} (N : NameOk x) : x.length ≤ 1000 := Nat.le_trans N.len (by decide)
def spPName (K : PySem.W.Frag) : Sp := fun vs H Q _ => ∃ (a : Addr) (ws : List Str) (k : Nat) (x : Str) (r : List Str), vs = [.ref a, .int (k : Int)] ∧ SqL K H a (ws.map V.str) ∧ ws.drop k = x :: r ∧ NameOk x ∧
  ∀ t H', Same H H' → H' t = some (.tup [.str x, .int ((k + 1 : Nat) : Int)]) → Q (.ref t) H'
theorem scPName : FnScope ["words", "at", "name"] ["words", "at"] (defScope (top 23)) := ⟨rfl, rfl, rfl, by decide +kernel, rfl, by decide +kernel, by decide +kernel⟩
theorem c_parse_name (G : Gf K mg "parse_name" (top 23) ["words", "at"]) (cW : Cal P w K mg base 1 "word_at" (spWordAt K) []) (cN : Cal P w K mg base 1 "is_name" spIsName []) : Cal P w K mg base 2 "parse_name" (spPName K) [] := by
  refine G.cal scPName (fun vs H Q E h => ?_) (fun f cdv A outer s H vs Q E hr h => ?_)
  · obtain ⟨a, ws, k, x, r, rfl, _⟩ := h
    rfl
  · obtain ⟨a, ws, k, x, r, rfl, hs, hd, N, q⟩ := h
    refine ⟨_, pss_cons (ps_set (i := 2) scPName.nd rfl (.inl rfl) (pe_c cW hr (by decide) rfl (pa_cons (pv 0) (pa_cons (pv 1) pa_nil))))
      (pss_cons (ps_if (pt_not (pt_val (pe_c cN hr (by decide) rfl (pa_cons (pv 2) pa_nil)))) (pss_one ps_never) pss_nil)
      (pss_one (ps_ret (pe_tup (pa_cons (pv 2) (pa_cons (pe_op op_add (pv 1) pe_int) pa_nil)))))), ?_⟩
    refine ⟨_, rfl, _, rfl, a, ws, k, rfl, hs, ?_⟩
    rw [wordAt_of hd]
    refine ⟨_, rfl, x, rfl, N, _, rfl, iteF ?_⟩
    exact ⟨_, rfl, _, rfl, _, _, rfl, rfl, by show 2 ≤ sizeLine; decide, fun t ht => q t _ (same_new ht _) (by rw [upd_same]; rfl)⟩
/-- p's text stands from k on -/
structure At (K : PySem.W.Frag) (H : Hp) (a : Addr) (ws : List Str) (k : Nat) (us r : List Str) : Prop where
  hs : SqL K H a (ws.map V.str)
  dr : ws.drop k = us ++ r
  no : r.head? ≠ some "or"
theorem At.same {K : PySem.W.Frag} {H H' : Hp} {a : Addr} {ws : List Str} {k : Nat} {us r : List Str} (h : At K H a ws k us r) (e : Same H H') : At K H' a ws k us r := ⟨e.seq h.hs, h.dr, h.no⟩
/-- what parse_part (true), parse_condition (false) promise of trees of height n at most -/
def spParse (K : PySem.W.Frag) (b : Bool) (n : Nat) : Sp := fun vs H Q _ => ∃ (a : Addr) (ws : List Str) (k : Nat) (p : Nd) (r : List Str), vs = [.ref a, .int (k : Int)] ∧ At K H a ws k (wds p) r ∧ ok b p ∧ hgt p ≤ n ∧
  ∀ t v H', Same H H' → H' t = some (.tup [v, .int ((k + (wds p).length : Nat) : Int)]) → Dp K H' v (pd p) → Q (.ref t) H'
/-- parse_fact, parse_percent, parse_if: behind the first word -/
def spTail (K : PySem.W.Frag) (C : Nd → Prop) (n : Nat) : Sp := fun vs H Q _ => ∃ (a : Addr) (ws : List Str) (k : Nat) (p : Nd) (r : List Str), vs = [.ref a, .int (k : Int)] ∧ At K H a ws k (wds p).tail r ∧ ok true p ∧ hgt p ≤ n ∧ C p ∧
  ∀ t v H', Same H H' → H' t = some (.tup [v, .int ((k + (wds p).tail.length : Nat) : Int)]) → Dp K H' v (pd p) → Q (.ref t) H'
def isFact : Nd → Prop
  | .fact _ => True
  | .factOr _ _ => True
  | _ => False
def isPct : Nd → Prop
  | .pct _ _ => True
  | _ => False
def isIf : Nd → Prop
  | .ite _ _ _ => True
  | _ => False
theorem scPFact : FnScope ["words", "at", "name", "other"] ["words", "at"] (defScope (top 24)) := ⟨rfl, rfl, rfl, by decide +kernel, rfl, by decide +kernel, by decide +kernel⟩
theorem dpT {K : PySem.W.Frag} {H : Hp} {t : Addr} {xs : List V} {ds : List PyData} (h : H t = some (.tup xs)) (a : DpAll K H xs ds) : Dp K H (.ref t) (.tuple ds) := .tup (SqT.of h) a
theorem c_parse_fact {n : Nat} (G : Gf K mg "parse_fact" (top 24) ["words", "at"]) (cW : Cal P w K mg base 1 "word_at" (spWordAt K) []) (cN : Cal P w K mg base 2 "parse_name" (spPName K) [])
    (cP : Cal P w K mg base (2 * n + 2) "parse_part" (spParse K true n) []) : Cal P w K mg base (2 * n + 3) "parse_fact" (spTail K isFact (n + 1)) [] := by
  refine G.cal scPFact (fun vs H Q E h => ?_) (fun f cdv A outer s H vs Q E hr h => ?_)
  · obtain ⟨a, ws, k, p, r, rfl, _⟩ := h
    rfl
  · obtain ⟨a, ws, k, p, r, rfl, ha, hok, hh, hc, q⟩ := h
    refine ⟨_, pss_cons (ps_asg (pe_c cN hr (by omega) rfl (pa_cons (pv 0) (pa_cons (pv 1) pa_nil))) (pg_tup rfl (pgs_cons (pg_name (i := 2) scPFact.nd rfl (.inl rfl)) (pgs_cons (pg_name (i := 1) scPFact.nd rfl (.inl rfl)) pgs_nil))))
      (pss_cons (ps_set (i := 3) scPFact.nd rfl (.inl rfl) pe_non)
      (pss_cons (ps_if (pt_cmpR op_eq (pe_c cW hr (by omega) rfl (pa_cons (pv 0) (pa_cons (pv 1) pa_nil))) pe_str (nomark _))
        (pss_one (ps_asg (pe_c cP hr (by omega) rfl (pa_cons (pv 0) (pa_cons (pe_op op_add (pv 1) pe_int) pa_nil))) (pg_tup rfl (pgs_cons (pg_name (i := 3) scPFact.nd rfl (.inl rfl)) (pgs_cons (pg_name (i := 1) scPFact.nd rfl (.inl rfl)) pgs_nil))))) pss_nil)
      (pss_one (ps_ret (pe_tup (pa_cons (pe_tup (pa_cons pe_str (pa_cons (pv 2) (pa_cons (pv 3) pa_nil)))) (pa_cons (pv 1) pa_nil))))))), ?_⟩
    cases p with
    | fact x =>
      have e : ws.drop k = x :: r := ha.dr
      refine ⟨_, rfl, _, rfl, a, ws, k, x, r, rfl, ha.hs, e, hok, fun t H1 s1 ht => ?_⟩
      refine ⟨t, _, rfl, SqT.of ht, rfl, _, _, rfl, _, _, rfl, rfl, ?_⟩
      refine ⟨_, rfl, _, rfl, a, ws, k + 1, rfl, s1.seq ha.hs, rfl, _, rfl, ?_⟩
      have ne : wordAt ws (k + 1) ≠ "or" := wordAt_head (drop_one e) "or" ha.no (by decide +kernel)
      rw [decide_eq_false (fun z => ne (V.str.inj z))]
      refine iteF ?_
      refine ⟨_, rfl, _, rfl, by show 3 ≤ sizeLine; decide, fun t1 h1 => ⟨_, rfl, by show 2 ≤ sizeLine; decide, fun t2 h2 => ?_⟩⟩
      refine q t2 (.ref t1) _ ((s1.trans (same_new h1 _)).trans (same_new h2 _)) upd_same ?_
      exact dpT (Eq.trans (upd_ne (ne_of_none upd_same h2)) upd_same) (.cons (.str _) (.cons (.str _) (.cons .non .nil)))
    | factOr x p =>
      have e : ws.drop k = x :: (("or" : Str) :: (wds p ++ r)) := ha.dr
      have e1 : ws.drop (k + 1) = ("or" : Str) :: (wds p ++ r) := drop_one e
      have e2 : ws.drop (k + 1 + 1) = wds p ++ r := drop_one e1
      refine ⟨_, rfl, _, rfl, a, ws, k, x, _, rfl, ha.hs, e, hok.1, fun t H1 s1 ht => ?_⟩
      refine ⟨t, _, rfl, SqT.of ht, rfl, _, _, rfl, _, _, rfl, rfl, ?_⟩
      refine ⟨_, rfl, _, rfl, a, ws, k + 1, rfl, s1.seq ha.hs, rfl, _, rfl, ?_⟩
      rw [wordAt_of e1, decide_eq_true rfl]
      refine iteT ?_
      refine ⟨_, rfl, _, rfl, _, _, rfl, rfl, a, ws, k + 1 + 1, p, r, rfl, ⟨s1.seq ha.hs, e2, ha.no⟩, hok.2, Nat.le_of_succ_le_succ hh, fun t0 v0 H2 s2 ht0 hv0 => ?_⟩
      refine ⟨t0, _, rfl, SqT.of ht0, rfl, _, _, rfl, _, _, rfl, rfl, ?_⟩
      refine ⟨_, rfl, _, rfl, by show 3 ≤ sizeLine; decide, fun t1 h1 => ⟨_, rfl, by show 2 ≤ sizeLine; decide, fun t2 h2 => ?_⟩⟩
      have s3 : Same H2 _ := (same_new h1 (.tup [.str "fact", .str x, v0])).trans (same_new h2 (.tup [.ref t1, .int ((k + 1 + 1 + (wds p).length : Nat) : Int)]))
      refine q t2 (.ref t1) _ ((s1.trans s2).trans s3) ?_ ?_
      · rw [upd_same]
        have el : k + 1 + 1 + (wds p).length = k + (wds (.factOr x p)).tail.length := by
          show _ = k + ((wds p).length + 1 + 1)
          omega
        rw [el]
      · exact dpT (Eq.trans (upd_ne (ne_of_none upd_same h2)) upd_same) (.cons (.str _) (.cons (.str _) (.cons (dp_same s3 hv0) .nil)))
    | _ => exact hc.elim
theorem scPPct : FnScope ["words", "at", "word", "amount", "after"] ["words", "at"] (defScope (top 25)) := ⟨rfl, rfl, rfl, by decide +kernel, rfl, by decide +kernel, by decide +kernel⟩
theorem c_parse_percent {n : Nat} (G : Gf K mg "parse_percent" (top 25) ["words", "at"]) (T : Tx K mg) (cW : Cal P w K mg base 1 "word_at" (spWordAt K) []) (cI : Cal P w K mg base 1 "is_number" spIsNum [])
    (cP : Cal P w K mg base (2 * n + 2) "parse_part" (spParse K true n) []) : Cal P w K mg base (2 * n + 3) "parse_percent" (spTail K isPct (n + 1)) [] := by
  refine G.cal scPPct (fun vs H Q E h => ?_) (fun f cdv A outer s H vs Q E hr h => ?_)
  · obtain ⟨a, ws, k, p, r, rfl, _⟩ := h
    rfl
  · obtain ⟨a, ws, k, p, r, rfl, ha, hok, hh, hc, q⟩ := h
    refine ⟨_, pss_cons (ps_set (i := 2) scPPct.nd rfl (.inl rfl) (pe_c cW hr (by omega) rfl (pa_cons (pv 0) (pa_cons (pv 1) pa_nil))))
      (pss_cons (ps_if (PW.pt (pw_or (pt_not (pt_val (pe_c cI hr (by omega) rfl (pa_cons (pv 2) pa_nil)))) (pw_or1 (pt_not (pt_chain op_le op_le pe_int (pe_callTy call_int_str (by rfl) T.int (by decide +kernel) (pa_cons (pv 2) pa_nil)) (gInt T.mPct)))))) (pss_one ps_never) pss_nil)
      (pss_cons (ps_asg (pe_c cP hr (by omega) rfl (pa_cons (pv 0) (pa_cons (pe_op op_add (pv 1) pe_int) pa_nil))) (pg_tup rfl (pgs_cons (pg_name (i := 3) scPPct.nd rfl (.inl rfl)) (pgs_cons (pg_name (i := 4) scPPct.nd rfl (.inl rfl)) pgs_nil))))
      (pss_one (ps_ret (pe_tup (pa_cons (pe_tup (pa_cons pe_str (pa_cons (pe_callTy call_int_str (by rfl) T.int (by decide +kernel) (pa_cons (pv 2) pa_nil)) (pa_cons (pv 3) pa_nil)))) (pa_cons (pv 4) pa_nil))))))), ?_⟩
    cases p with
    | pct m p =>
      obtain ⟨h0, h1, hok⟩ := hok
      have hm : -1000000000 < m ∧ m < 1000000000 := ⟨by omega, by omega⟩
      have hl := num_len hm
      have e : ws.drop k = Str.ofString (toString m) :: (wds p ++ r) := ha.dr
      refine ⟨_, rfl, _, rfl, a, ws, k, rfl, ha.hs, ?_⟩
      rw [wordAt_of e]
      refine ⟨_, rfl, _, rfl, Nat.le_trans hl (by decide), _, rfl, ?_⟩
      rw [num_isNum hm]
      refine iteF ?_
      refine ⟨_, rfl, _, m, rfl, num_read hm, Nat.le_trans hl (by decide), _, _, rfl, rfl, _, rfl, ifT h0 ⟨_, _, rfl, rfl, _, rfl, ?_⟩⟩
      rw [decide_eq_true h1]
      refine iteF ?_
      refine ⟨_, rfl, _, rfl, _, _, rfl, rfl, a, ws, k + 1, p, r, rfl, ⟨ha.hs, drop_one e, ha.no⟩, hok, Nat.le_of_succ_le_succ hh, fun t0 v0 H2 s2 ht0 hv0 => ?_⟩
      refine ⟨t0, _, rfl, SqT.of ht0, rfl, _, _, rfl, _, _, rfl, rfl, ?_⟩
      refine ⟨_, rfl, _, m, rfl, num_read hm, Nat.le_trans hl (by decide), _, rfl, by show 3 ≤ sizeLine; decide, fun t1 h1 => ⟨_, rfl, by show 2 ≤ sizeLine; decide, fun t2 h2 => ?_⟩⟩
      have s3 : Same H2 _ := (same_new h1 (.tup [.str "percent", .int m, v0])).trans (same_new h2 (.tup [.ref t1, .int ((k + 1 + (wds p).length : Nat) : Int)]))
      refine q t2 (.ref t1) _ (s2.trans s3) ?_ ?_
      · rw [upd_same]
        have el : k + 1 + (wds p).length = k + (wds (.pct m p)).tail.length := by
          show _ = k + ((wds p).length + 1)
          omega
        rw [el]
      · exact dpT (Eq.trans (upd_ne (ne_of_none upd_same h2)) upd_same) (.cons (.str _) (.cons (.int _) (.cons (dp_same s3 hv0) .nil)))
    | _ => exact hc.elim
theorem scPIf : FnScope ["words", "at", "condition", "first", "second"] ["words", "at"] (defScope (top 26)) := ⟨rfl, rfl, rfl, by decide +kernel, rfl, by decide +kernel, by decide +kernel⟩
theorem c_parse_if {n : Nat} (G : Gf K mg "parse_if" (top 26) ["words", "at"]) (cC : Cal P w K mg base (2 * n + 2) "parse_condition" (spParse K false n) [])
    (cP : Cal P w K mg base (2 * n + 2) "parse_part" (spParse K true n) []) : Cal P w K mg base (2 * n + 3) "parse_if" (spTail K isIf (n + 1)) [] := by
  refine G.cal scPIf (fun vs H Q E h => ?_) (fun f cdv A outer s H vs Q E hr h => ?_)
  · obtain ⟨a, ws, k, p, r, rfl, _⟩ := h
    rfl
  · obtain ⟨a, ws, k, p, r, rfl, ha, hok, hh, hc, q⟩ := h
    refine ⟨_, pss_cons (ps_asg (pe_c cC hr (by omega) rfl (pa_cons (pv 0) (pa_cons (pv 1) pa_nil))) (pg_tup rfl (pgs_cons (pg_name (i := 2) scPIf.nd rfl (.inl rfl)) (pgs_cons (pg_name (i := 1) scPIf.nd rfl (.inl rfl)) pgs_nil))))
      (pss_cons (ps_asg (pe_c cP hr (by omega) rfl (pa_cons (pv 0) (pa_cons (pv 1) pa_nil))) (pg_tup rfl (pgs_cons (pg_name (i := 3) scPIf.nd rfl (.inl rfl)) (pgs_cons (pg_name (i := 1) scPIf.nd rfl (.inl rfl)) pgs_nil))))
      (pss_cons (ps_asg (pe_c cP hr (by omega) rfl (pa_cons (pv 0) (pa_cons (pv 1) pa_nil))) (pg_tup rfl (pgs_cons (pg_name (i := 4) scPIf.nd rfl (.inl rfl)) (pgs_cons (pg_name (i := 1) scPIf.nd rfl (.inl rfl)) pgs_nil))))
      (pss_one (ps_ret (pe_tup (pa_cons (pe_tup (pa_cons pe_str (pa_cons (pv 2) (pa_cons (pv 3) (pa_cons (pv 4) pa_nil))))) (pa_cons (pv 1) pa_nil))))))), ?_⟩
    cases p with
    | ite c x y =>
      obtain ⟨okc, okx, oky⟩ := hok
      have hh' : max (hgt c) (max (hgt x) (hgt y)) + 1 ≤ n + 1 := hh
      have e : ws.drop k = wds c ++ (wds x ++ (wds y ++ r)) := by
        rw [ha.dr]
        show (wds c ++ (wds x ++ wds y)) ++ r = _
        rw [List.append_assoc, List.append_assoc]
      have e2 := drop_more e
      have e3 := drop_more e2
      refine ⟨_, rfl, _, rfl, a, ws, k, c, _, rfl, ⟨ha.hs, e, head_ne_or true x okx _⟩, okc, by omega, fun t0 v0 H1 s1 ht0 hv0 => ?_⟩
      refine ⟨t0, _, rfl, SqT.of ht0, rfl, _, _, rfl, _, _, rfl, rfl, ?_⟩
      refine ⟨_, rfl, _, rfl, a, ws, k + (wds c).length, x, _, rfl, ⟨s1.seq ha.hs, e2, head_ne_or true y oky _⟩, okx, by omega, fun t1 v1 H2 s2 ht1 hv1 => ?_⟩
      refine ⟨t1, _, rfl, SqT.of ht1, rfl, _, _, rfl, _, _, rfl, rfl, ?_⟩
      refine ⟨_, rfl, _, rfl, a, ws, k + (wds c).length + (wds x).length, y, r, rfl, ⟨(s1.trans s2).seq ha.hs, e3, ha.no⟩, oky, by omega, fun t2 v2 H3 s3 ht2 hv2 => ?_⟩
      refine ⟨t2, _, rfl, SqT.of ht2, rfl, _, _, rfl, _, _, rfl, rfl, ?_⟩
      refine ⟨_, rfl, _, rfl, _, rfl, by show 4 ≤ sizeLine; decide, fun t4 h4 => ⟨_, rfl, by show 2 ≤ sizeLine; decide, fun t5 h5 => ?_⟩⟩
      have s4 : Same H3 _ := (same_new h4 (.tup [.str "if", v0, v1, v2])).trans (same_new h5 (.tup [.ref t4, .int ((k + (wds c).length + (wds x).length + (wds y).length : Nat) : Int)]))
      refine q t5 (.ref t4) _ (((s1.trans s2).trans s3).trans s4) ?_ ?_
      · rw [upd_same]
        have el : k + (wds c).length + (wds x).length + (wds y).length = k + (wds (.ite c x y)).tail.length := by
          show _ = k + (wds c ++ (wds x ++ wds y)).length
          rw [List.length_append, List.length_append]
          omega
        rw [el]
      · exact dpT (Eq.trans (upd_ne (ne_of_none upd_same h5)) upd_same) (.cons (.str _) (.cons (dp_same ((s2.trans s3).trans s4) hv0) (.cons (dp_same (s3.trans s4) hv1) (.cons (dp_same s4 hv2) .nil))))
    | _ => exact hc.elim
end
end K14

set_option Elab.async false
set_option maxRecDepth 100000
set_option maxHeartbeats 4000000
/-! texts: parse_part, parse_condition, parse_amount -/
namespace K14
open PySem PySem.Spec PyProof.Rows L2
open C8 (Cal Met Mak pe_c pe_mk pe_mt pe_mt0 pss_cut)
/-- the words of the language: no numbers, short -/
def kw : List Str := ["fact", "due", "percent", "if", "plus", "minus", "times", "least", "most", "known", "not", "both", "either", "below", "same"]
theorem kw_num : ∀ z ∈ kw, isNum z = false := by
  have h : (kw.all fun z => !isNum z) = true := by decide +kernel
  intro z hz
  have := List.all_eq_true.mp h z hz
  simpa using this
theorem kw_len : ∀ z ∈ kw, z.length ≤ 1000 := by
  have h : (kw.all fun z => decide (z.length ≤ 1000)) = true := by decide +kernel
  intro z hz
  exact of_decide_eq_true (List.all_eq_true.mp h z hz)
theorem op_kw (k : Op5) : k.w ∈ kw := by cases k <;> decide +kernel
theorem jn_kw (k : Jn) : k.w ∈ kw := by cases k <;> decide +kernel
theorem cm_kw (k : Cm) : k.w ∈ kw := by cases k <;> decide +kernel
/-- a written text is no operator's word -/
theorem op_no {k : Op5} {x : Str} (h : x ∉ (["plus", "minus", "times", "least", "most"] : List Str)) : ¬ V.str k.w = V.str x := fun e => h (by
  rw [← V.str.inj e]
  cases k <;> decide +kernel)
theorem op_in (k : Op5) : k.w ∈ (["plus", "minus", "times", "least", "most"] : List Str) := by cases k <;> decide +kernel
theorem jn_no {k : Jn} {x : Str} (h : x ∉ (["both", "either"] : List Str)) : ¬ V.str k.w = V.str x := fun e => h (by
  rw [← V.str.inj e]
  cases k <;> decide +kernel)
theorem jn_in (k : Jn) : k.w ∈ (["both", "either"] : List Str) := by cases k <;> decide +kernel
theorem cm_no {k : Cm} {x : Str} (h : x ∉ (["below", "same"] : List Str)) : ¬ V.str k.w = V.str x := fun e => h (by
  rw [← V.str.inj e]
  cases k <;> decide +kernel)
theorem cm_in (k : Cm) : k.w ∈ (["below", "same"] : List Str) := by cases k <;> decide +kernel
section
variable {P : Program} {w : World} {K : PySem.W.Frag} {mg : Str → Option Value} {base : Heap}
theorem scPPart : FnScope ["words", "at", "word", "name", "after", "first", "second"] ["words", "at"] (defScope (top 27)) := ⟨rfl, rfl, rfl, by decide +kernel, rfl, by decide +kernel, by decide +kernel⟩
theorem c_parse_part {n : Nat} (G : Gf K mg "parse_part" (top 27) ["words", "at"]) (T : Tx K mg) (cW : Cal P w K mg base 1 "word_at" (spWordAt K) []) (cI : Cal P w K mg base 1 "is_number" spIsNum []) (cN : Cal P w K mg base 2 "parse_name" (spPName K) [])
    (cF : Cal P w K mg base (2 * n + 3) "parse_fact" (spTail K isFact (n + 1)) []) (cT : Cal P w K mg base (2 * n + 3) "parse_percent" (spTail K isPct (n + 1)) []) (cIf : Cal P w K mg base (2 * n + 3) "parse_if" (spTail K isIf (n + 1)) [])
    (cP : Cal P w K mg base (2 * n + 2) "parse_part" (spParse K true n) []) : Cal P w K mg base (2 * (n + 1) + 2) "parse_part" (spParse K true (n + 1)) [] := by
  refine G.cal scPPart (fun vs H Q E h => ?_) (fun f cdv A outer s H vs Q E hr h => ?_)
  · obtain ⟨a, ws, k, p, r, rfl, _⟩ := h
    rfl
  · obtain ⟨a, ws, k, p, r, rfl, ha, hok, hh, q⟩ := h
    obtain ⟨pa, pg, pt⟩ := T.pairs
    refine ⟨_, pss_cons (ps_set (i := 2) scPPart.nd rfl (.inl rfl) (pe_c cW hr (by omega) rfl (pa_cons (pv 0) (pa_cons (pv 1) pa_nil))))
      (pss_cons (ps_if (pt_val (pe_c cI hr (by omega) rfl (pa_cons (pv 2) pa_nil)))
        (pss_one (ps_ret (pe_tup (pa_cons (pe_tup (pa_cons pe_str (pa_cons (pe_callTy call_int_str (by rfl) T.int (by decide +kernel) (pa_cons (pv 2) pa_nil)) pa_nil))) (pa_cons (pe_op op_add (pv 1) pe_int) pa_nil))))) pss_nil)
      (pss_cons (ps_if (pt_cmpR op_eq (pv 2) pe_str (nomark _)) (pss_one (ps_ret (pe_c cF hr (by omega) rfl (pa_cons (pv 0) (pa_cons (pe_op op_add (pv 1) pe_int) pa_nil))))) pss_nil)
      (pss_cons (ps_if (pt_cmpR op_eq (pv 2) pe_str (nomark _))
        (pss_cons (ps_asg (pe_c cN hr (by omega) rfl (pa_cons (pv 0) (pa_cons (pe_op op_add (pv 1) pe_int) pa_nil))) (pg_tup rfl (pgs_cons (pg_name (i := 3) scPPart.nd rfl (.inl rfl)) (pgs_cons (pg_name (i := 4) scPPart.nd rfl (.inl rfl)) pgs_nil))))
          (pss_one (ps_ret (pe_tup (pa_cons (pe_tup (pa_cons pe_str (pa_cons (pv 3) pa_nil))) (pa_cons (pv 4) pa_nil)))))) pss_nil)
      (pss_cons (ps_if (pt_cmpR op_eq (pv 2) pe_str (nomark _)) (pss_one (ps_ret (pe_c cT hr (by omega) rfl (pa_cons (pv 0) (pa_cons (pe_op op_add (pv 1) pe_int) pa_nil))))) pss_nil)
      (pss_cons (ps_if (pt_cmpR op_eq (pv 2) pe_str (nomark _)) (pss_one (ps_ret (pe_c cIf hr (by omega) rfl (pa_cons (pv 0) (pa_cons (pe_op op_add (pv 1) pe_int) pa_nil))))) pss_nil)
      (pss_cons (ps_if (pt_cmpR op_notIn_seq (pv 2) (pe_glob (v := .ref pa) rfl pg rfl) rfl) (pss_one ps_never) pss_nil)
      (pss_cons (ps_asg (pe_c cP hr (by omega) rfl (pa_cons (pv 0) (pa_cons (pe_op op_add (pv 1) pe_int) pa_nil))) (pg_tup rfl (pgs_cons (pg_name (i := 5) scPPart.nd rfl (.inl rfl)) (pgs_cons (pg_name (i := 4) scPPart.nd rfl (.inl rfl)) pgs_nil))))
      (pss_cons (ps_asg (pe_c cP hr (by omega) rfl (pa_cons (pv 0) (pa_cons (pv 4) pa_nil))) (pg_tup rfl (pgs_cons (pg_name (i := 6) scPPart.nd rfl (.inl rfl)) (pgs_cons (pg_name (i := 4) scPPart.nd rfl (.inl rfl)) pgs_nil))))
      (pss_one (ps_ret (pe_tup (pa_cons (pe_tup (pa_cons (pv 2) (pa_cons (pv 5) (pa_cons (pv 6) pa_nil)))) (pa_cons (pv 4) pa_nil))))))))))))), ?_⟩
    have hs := ha.hs
    refine ⟨_, rfl, _, rfl, a, ws, k, rfl, hs, ?_⟩
    cases p with
    | num m =>
      have e : ws.drop k = Str.ofString (toString m) :: r := ha.dr
      have hl := num_len hok
      rw [wordAt_of e]
      refine ⟨_, rfl, _, rfl, Nat.le_trans hl (by decide), _, rfl, ?_⟩
      rw [num_isNum hok]
      refine iteT ⟨_, rfl, _, m, rfl, num_read hok, Nat.le_trans hl (by decide), by show 2 ≤ sizeLine; decide, fun t1 h1 => ⟨_, rfl, _, _, rfl, rfl, by show 2 ≤ sizeLine; decide, fun t2 h2 => ?_⟩⟩
      refine q t2 (.ref t1) _ ((same_new h1 _).trans (same_new h2 _)) (by rw [upd_same]; rfl) ?_
      exact dpT (Eq.trans (upd_ne (ne_of_none upd_same h2)) upd_same) (.cons (.str _) (.cons (.int _) .nil))
    | fact x =>
      have e : ws.drop k = ("fact" : Str) :: ((wds (.fact x)).tail ++ r) := ha.dr
      rw [wordAt_of e]
      refine ⟨_, rfl, _, rfl, kw_len _ (by decide +kernel), _, rfl, ?_⟩
      rw [kw_num _ (by decide +kernel)]
      refine iteF ⟨_, rfl, rfl, _, rfl, ifT rfl ⟨_, rfl, _, rfl, _, _, rfl, rfl, a, ws, k + 1, .fact x, r, rfl, ⟨hs, drop_one e, ha.no⟩, hok, hh, trivial, fun t v H1 s1 h1 hv => q t v H1 s1 ?_ hv⟩⟩
      rw [h1, Nat.add_assoc]
      rfl
    | factOr x p =>
      have e : ws.drop k = ("fact" : Str) :: ((wds (.factOr x p)).tail ++ r) := ha.dr
      rw [wordAt_of e]
      refine ⟨_, rfl, _, rfl, kw_len _ (by decide +kernel), _, rfl, ?_⟩
      rw [kw_num _ (by decide +kernel)]
      refine iteF ⟨_, rfl, rfl, _, rfl, ifT rfl ⟨_, rfl, _, rfl, _, _, rfl, rfl, a, ws, k + 1, .factOr x p, r, rfl, ⟨hs, drop_one e, ha.no⟩, hok, hh, trivial, fun t v H1 s1 h1 hv => q t v H1 s1 ?_ hv⟩⟩
      rw [h1]
      have el : k + 1 + (wds (.factOr x p)).tail.length = k + (wds (.factOr x p)).length := by
        show k + 1 + ((wds p).length + 1 + 1) = k + ((wds p).length + 1 + 1 + 1)
        omega
      rw [el]
    | due x =>
      have e : ws.drop k = ("due" : Str) :: (x :: r) := ha.dr
      rw [wordAt_of e]
      refine ⟨_, rfl, _, rfl, kw_len _ (by decide +kernel), _, rfl, ?_⟩
      rw [kw_num _ (by decide +kernel)]
      refine iteF ⟨_, rfl, rfl, _, rfl, ifF (by decide +kernel) ⟨_, rfl, rfl, _, rfl, ifT rfl ?_⟩⟩
      refine ⟨_, rfl, _, rfl, _, _, rfl, rfl, a, ws, k + 1, x, r, rfl, hs, drop_one e, hok, fun t H1 s1 h1 => ?_⟩
      refine ⟨t, _, rfl, SqT.of h1, rfl, _, _, rfl, _, _, rfl, rfl, ?_⟩
      refine ⟨_, rfl, by show 2 ≤ sizeLine; decide, fun t1 g1 => ⟨_, rfl, by show 2 ≤ sizeLine; decide, fun t2 g2 => ?_⟩⟩
      refine q t2 (.ref t1) _ ((s1.trans (same_new g1 _)).trans (same_new g2 _)) upd_same ?_
      exact dpT (Eq.trans (upd_ne (ne_of_none upd_same g2)) upd_same) (.cons (.str _) (.cons (.str _) .nil))
    | pct m p =>
      have e : ws.drop k = ("percent" : Str) :: ((wds (.pct m p)).tail ++ r) := ha.dr
      rw [wordAt_of e]
      refine ⟨_, rfl, _, rfl, kw_len _ (by decide +kernel), _, rfl, ?_⟩
      rw [kw_num _ (by decide +kernel)]
      refine iteF ⟨_, rfl, rfl, _, rfl, ifF (by decide +kernel) ⟨_, rfl, rfl, _, rfl, ifF (by decide +kernel) ⟨_, rfl, rfl, _, rfl, ifT rfl ?_⟩⟩⟩
      refine ⟨_, rfl, _, rfl, _, _, rfl, rfl, a, ws, k + 1, .pct m p, r, rfl, ⟨hs, drop_one e, ha.no⟩, hok, hh, trivial, fun t v H1 s1 h1 hv => q t v H1 s1 ?_ hv⟩
      rw [h1]
      have el : k + 1 + (wds (.pct m p)).tail.length = k + (wds (.pct m p)).length := by
        show k + 1 + ((wds p).length + 1) = k + ((wds p).length + 1 + 1)
        omega
      rw [el]
    | ite c x y =>
      have e : ws.drop k = ("if" : Str) :: ((wds (.ite c x y)).tail ++ r) := ha.dr
      rw [wordAt_of e]
      refine ⟨_, rfl, _, rfl, kw_len _ (by decide +kernel), _, rfl, ?_⟩
      rw [kw_num _ (by decide +kernel)]
      refine iteF ⟨_, rfl, rfl, _, rfl, ifF (by decide +kernel) ⟨_, rfl, rfl, _, rfl, ifF (by decide +kernel) ⟨_, rfl, rfl, _, rfl, ifF (by decide +kernel) ⟨_, rfl, rfl, _, rfl, ifT rfl ?_⟩⟩⟩⟩
      refine ⟨_, rfl, _, rfl, _, _, rfl, rfl, a, ws, k + 1, .ite c x y, r, rfl, ⟨hs, drop_one e, ha.no⟩, hok, hh, trivial, fun t v H1 s1 h1 hv => q t v H1 s1 ?_ hv⟩
      rw [h1]
      have el : k + 1 + (wds (.ite c x y)).tail.length = k + (wds (.ite c x y)).length := by
        show k + 1 + (wds c ++ (wds x ++ wds y)).length = k + ((wds c ++ (wds x ++ wds y)).length + 1)
        omega
      rw [el]
    | op o x y =>
      obtain ⟨okx, oky⟩ := hok
      have hh' : max (hgt x) (hgt y) + 1 ≤ n + 1 := hh
      have e : ws.drop k = o.w :: (wds x ++ (wds y ++ r)) := by
        rw [ha.dr]
        show o.w :: ((wds x ++ wds y) ++ r) = _
        rw [List.append_assoc]
      have e1 := drop_one e
      have e2 := drop_more e1
      rw [wordAt_of e]
      refine ⟨_, rfl, _, rfl, kw_len _ (op_kw o), _, rfl, ?_⟩
      rw [kw_num _ (op_kw o)]
      refine iteF ⟨_, rfl, rfl, _, rfl, ifF (op_no (by decide +kernel)) ⟨_, rfl, rfl, _, rfl, ifF (op_no (by decide +kernel)) ⟨_, rfl, rfl, _, rfl, ifF (op_no (by decide +kernel)) ⟨_, rfl, rfl, _, rfl, ifF (op_no (by decide +kernel)) ?_⟩⟩⟩⟩
      refine ⟨_, rfl, pa, _, rfl, .inr (pt H), rfl, flat_strs _, _, rfl, ?_⟩
      rw [inV_strs, decide_eq_true (op_in o)]
      refine iteF ?_
      refine ⟨_, rfl, _, rfl, _, _, rfl, rfl, a, ws, k + 1, x, _, rfl, ⟨hs, e1, head_ne_or true y oky _⟩, okx, by omega, fun t1 v1 H1 s1 ht1 hv1 => ?_⟩
      refine ⟨t1, _, rfl, SqT.of ht1, rfl, _, _, rfl, _, _, rfl, rfl, ?_⟩
      refine ⟨_, rfl, _, rfl, a, ws, k + 1 + (wds x).length, y, r, rfl, ⟨s1.seq hs, e2, ha.no⟩, oky, by omega, fun t2 v2 H2 s2 ht2 hv2 => ?_⟩
      refine ⟨t2, _, rfl, SqT.of ht2, rfl, _, _, rfl, _, _, rfl, rfl, ?_⟩
      refine ⟨_, rfl, _, rfl, _, rfl, by show 3 ≤ sizeLine; decide, fun t4 h4 => ⟨_, rfl, by show 2 ≤ sizeLine; decide, fun t5 h5 => ?_⟩⟩
      have s4 : Same H2 _ := (same_new h4 (.tup [.str o.w, v1, v2])).trans (same_new h5 (.tup [.ref t4, .int ((k + 1 + (wds x).length + (wds y).length : Nat) : Int)]))
      refine q t5 (.ref t4) _ ((s1.trans s2).trans s4) ?_ ?_
      · rw [upd_same]
        have el : k + 1 + (wds x).length + (wds y).length = k + (wds (.op o x y)).length := by
          show _ = k + ((wds x ++ wds y).length + 1)
          rw [List.length_append]
          omega
        rw [el]
      · exact dpT (Eq.trans (upd_ne (ne_of_none upd_same h5)) upd_same) (.cons (.str _) (.cons (dp_same (s2.trans s4) hv1) (.cons (dp_same s4 hv2) .nil)))
    | _ => exact hok.elim
end
end K14

set_option Elab.async false
set_option maxRecDepth 100000
set_option maxHeartbeats 4000000
/-! texts: parse_condition, parse_amount -/
namespace K14
open PySem PySem.Spec PyProof.Rows L2
open C8 (Cal Met Mak pe_c pe_mk pe_mt pe_mt0 pss_cut)
section
variable {P : Program} {w : World} {K : PySem.W.Frag} {mg : Str → Option Value} {base : Heap}
theorem scPCond : FnScope ["words", "at", "word", "name", "after", "condition", "first", "second"] ["words", "at"] (defScope (top 28)) := ⟨rfl, rfl, rfl, by decide +kernel, rfl, by decide +kernel, by decide +kernel⟩
theorem c_parse_condition {n : Nat} (G : Gf K mg "parse_condition" (top 28) ["words", "at"]) (T : Tx K mg) (cW : Cal P w K mg base 1 "word_at" (spWordAt K) []) (cN : Cal P w K mg base 2 "parse_name" (spPName K) [])
    (cP : Cal P w K mg base (2 * n + 2) "parse_part" (spParse K true n) []) (cC : Cal P w K mg base (2 * n + 2) "parse_condition" (spParse K false n) []) : Cal P w K mg base (2 * (n + 1) + 2) "parse_condition" (spParse K false (n + 1)) [] := by
  refine G.cal scPCond (fun vs H Q E h => ?_) (fun f cdv A outer s H vs Q E hr h => ?_)
  · obtain ⟨a, ws, k, p, r, rfl, _⟩ := h
    rfl
  · obtain ⟨a, ws, k, p, r, rfl, ha, hok, hh, q⟩ := h
    obtain ⟨ta, tg, tt⟩ := T.tests
    obtain ⟨ja, jg, jt⟩ := T.joints
    refine ⟨_, pss_cons (ps_set (i := 2) scPCond.nd rfl (.inl rfl) (pe_c cW hr (by omega) rfl (pa_cons (pv 0) (pa_cons (pv 1) pa_nil))))
      (pss_cons (ps_if (pt_cmpR op_eq (pv 2) pe_str (nomark _))
        (pss_cons (ps_asg (pe_c cN hr (by omega) rfl (pa_cons (pv 0) (pa_cons (pe_op op_add (pv 1) pe_int) pa_nil))) (pg_tup rfl (pgs_cons (pg_name (i := 3) scPCond.nd rfl (.inl rfl)) (pgs_cons (pg_name (i := 4) scPCond.nd rfl (.inl rfl)) pgs_nil))))
          (pss_one (ps_ret (pe_tup (pa_cons (pe_tup (pa_cons pe_str (pa_cons (pv 3) pa_nil))) (pa_cons (pv 4) pa_nil)))))) pss_nil)
      (pss_cons (ps_if (pt_cmpR op_eq (pv 2) pe_str (nomark _))
        (pss_cons (ps_asg (pe_c cC hr (by omega) rfl (pa_cons (pv 0) (pa_cons (pe_op op_add (pv 1) pe_int) pa_nil))) (pg_tup rfl (pgs_cons (pg_name (i := 5) scPCond.nd rfl (.inl rfl)) (pgs_cons (pg_name (i := 4) scPCond.nd rfl (.inl rfl)) pgs_nil))))
          (pss_one (ps_ret (pe_tup (pa_cons (pe_tup (pa_cons pe_str (pa_cons (pv 5) pa_nil))) (pa_cons (pv 4) pa_nil)))))) pss_nil)
      (pss_cons (ps_if (pt_cmpR op_in_seq (pv 2) (pe_glob (v := .ref ta) rfl tg rfl) rfl)
        (pss_cons (ps_asg (pe_c cP hr (by omega) rfl (pa_cons (pv 0) (pa_cons (pe_op op_add (pv 1) pe_int) pa_nil))) (pg_tup rfl (pgs_cons (pg_name (i := 6) scPCond.nd rfl (.inl rfl)) (pgs_cons (pg_name (i := 4) scPCond.nd rfl (.inl rfl)) pgs_nil))))
        (pss_cons (ps_asg (pe_c cP hr (by omega) rfl (pa_cons (pv 0) (pa_cons (pv 4) pa_nil))) (pg_tup rfl (pgs_cons (pg_name (i := 7) scPCond.nd rfl (.inl rfl)) (pgs_cons (pg_name (i := 4) scPCond.nd rfl (.inl rfl)) pgs_nil))))
        (pss_one (ps_ret (pe_tup (pa_cons (pe_tup (pa_cons (pv 2) (pa_cons (pv 6) (pa_cons (pv 7) pa_nil)))) (pa_cons (pv 4) pa_nil))))))) pss_nil)
      (pss_cons (ps_if (pt_cmpR op_notIn_seq (pv 2) (pe_glob (v := .ref ja) rfl jg rfl) rfl) (pss_one ps_never) pss_nil)
      (pss_cons (ps_asg (pe_c cC hr (by omega) rfl (pa_cons (pv 0) (pa_cons (pe_op op_add (pv 1) pe_int) pa_nil))) (pg_tup rfl (pgs_cons (pg_name (i := 6) scPCond.nd rfl (.inl rfl)) (pgs_cons (pg_name (i := 4) scPCond.nd rfl (.inl rfl)) pgs_nil))))
      (pss_cons (ps_asg (pe_c cC hr (by omega) rfl (pa_cons (pv 0) (pa_cons (pv 4) pa_nil))) (pg_tup rfl (pgs_cons (pg_name (i := 7) scPCond.nd rfl (.inl rfl)) (pgs_cons (pg_name (i := 4) scPCond.nd rfl (.inl rfl)) pgs_nil))))
      (pss_one (ps_ret (pe_tup (pa_cons (pe_tup (pa_cons (pv 2) (pa_cons (pv 6) (pa_cons (pv 7) pa_nil)))) (pa_cons (pv 4) pa_nil))))))))))), ?_⟩
    have hs := ha.hs
    refine ⟨_, rfl, _, rfl, a, ws, k, rfl, hs, ?_⟩
    cases p with
    | known x =>
      have e : ws.drop k = ("known" : Str) :: (x :: r) := ha.dr
      rw [wordAt_of e]
      refine ⟨_, rfl, rfl, _, rfl, ifT rfl ?_⟩
      refine ⟨_, rfl, _, rfl, _, _, rfl, rfl, a, ws, k + 1, x, r, rfl, hs, drop_one e, hok, fun t H1 s1 h1 => ?_⟩
      refine ⟨t, _, rfl, SqT.of h1, rfl, _, _, rfl, _, _, rfl, rfl, ?_⟩
      refine ⟨_, rfl, by show 2 ≤ sizeLine; decide, fun t1 g1 => ⟨_, rfl, by show 2 ≤ sizeLine; decide, fun t2 g2 => ?_⟩⟩
      refine q t2 (.ref t1) _ ((s1.trans (same_new g1 _)).trans (same_new g2 _)) upd_same ?_
      exact dpT (Eq.trans (upd_ne (ne_of_none upd_same g2)) upd_same) (.cons (.str _) (.cons (.str _) .nil))
    | neg c =>
      have hh' : hgt c + 1 ≤ n + 1 := hh
      have e : ws.drop k = ("not" : Str) :: (wds c ++ r) := ha.dr
      rw [wordAt_of e]
      refine ⟨_, rfl, rfl, _, rfl, ifF (by decide +kernel) ⟨_, rfl, rfl, _, rfl, ifT rfl ?_⟩⟩
      refine ⟨_, rfl, _, rfl, _, _, rfl, rfl, a, ws, k + 1, c, r, rfl, ⟨hs, drop_one e, ha.no⟩, hok, by omega, fun t v H1 s1 h1 hv => ?_⟩
      refine ⟨t, _, rfl, SqT.of h1, rfl, _, _, rfl, _, _, rfl, rfl, ?_⟩
      refine ⟨_, rfl, by show 2 ≤ sizeLine; decide, fun t1 g1 => ⟨_, rfl, by show 2 ≤ sizeLine; decide, fun t2 g2 => ?_⟩⟩
      have s4 : Same H1 _ := (same_new g1 (.tup [.str "not", v])).trans (same_new g2 (.tup [.ref t1, .int ((k + 1 + (wds c).length : Nat) : Int)]))
      refine q t2 (.ref t1) _ (s1.trans s4) ?_ ?_
      · rw [upd_same]
        have el : k + 1 + (wds c).length = k + (wds (.neg c)).length := by
          show _ = k + ((wds c).length + 1)
          omega
        rw [el]
      · exact dpT (Eq.trans (upd_ne (ne_of_none upd_same g2)) upd_same) (.cons (.str _) (.cons (dp_same s4 hv) .nil))
    | cmp o x y =>
      obtain ⟨okx, oky⟩ := hok
      have hh' : max (hgt x) (hgt y) + 1 ≤ n + 1 := hh
      have e : ws.drop k = o.w :: (wds x ++ (wds y ++ r)) := by
        rw [ha.dr]
        show o.w :: ((wds x ++ wds y) ++ r) = _
        rw [List.append_assoc]
      have e1 := drop_one e
      have e2 := drop_more e1
      rw [wordAt_of e]
      refine ⟨_, rfl, rfl, _, rfl, ifF (cm_no (by decide +kernel)) ⟨_, rfl, rfl, _, rfl, ifF (cm_no (by decide +kernel)) ?_⟩⟩
      refine ⟨_, rfl, ta, _, rfl, .inr (tt H), rfl, flat_strs _, _, rfl, ?_⟩
      rw [inV_strs, decide_eq_true (cm_in o)]
      refine iteT ?_
      refine ⟨_, rfl, _, rfl, _, _, rfl, rfl, a, ws, k + 1, x, _, rfl, ⟨hs, e1, head_ne_or true y oky _⟩, okx, by omega, fun t1 v1 H1 s1 ht1 hv1 => ?_⟩
      refine ⟨t1, _, rfl, SqT.of ht1, rfl, _, _, rfl, _, _, rfl, rfl, ?_⟩
      refine ⟨_, rfl, _, rfl, a, ws, k + 1 + (wds x).length, y, r, rfl, ⟨s1.seq hs, e2, ha.no⟩, oky, by omega, fun t2 v2 H2 s2 ht2 hv2 => ?_⟩
      refine ⟨t2, _, rfl, SqT.of ht2, rfl, _, _, rfl, _, _, rfl, rfl, ?_⟩
      refine ⟨_, rfl, _, rfl, _, rfl, by show 3 ≤ sizeLine; decide, fun t4 h4 => ⟨_, rfl, by show 2 ≤ sizeLine; decide, fun t5 h5 => ?_⟩⟩
      have s4 : Same H2 _ := (same_new h4 (.tup [.str o.w, v1, v2])).trans (same_new h5 (.tup [.ref t4, .int ((k + 1 + (wds x).length + (wds y).length : Nat) : Int)]))
      refine q t5 (.ref t4) _ ((s1.trans s2).trans s4) ?_ ?_
      · rw [upd_same]
        have el : k + 1 + (wds x).length + (wds y).length = k + (wds (.cmp o x y)).length := by
          show _ = k + ((wds x ++ wds y).length + 1)
          rw [List.length_append]
          omega
        rw [el]
      · exact dpT (Eq.trans (upd_ne (ne_of_none upd_same h5)) upd_same) (.cons (.str _) (.cons (dp_same (s2.trans s4) hv1) (.cons (dp_same s4 hv2) .nil)))
    | jn o x y =>
      obtain ⟨okx, oky⟩ := hok
      have hh' : max (hgt x) (hgt y) + 1 ≤ n + 1 := hh
      have e : ws.drop k = o.w :: (wds x ++ (wds y ++ r)) := by
        rw [ha.dr]
        show o.w :: ((wds x ++ wds y) ++ r) = _
        rw [List.append_assoc]
      have e1 := drop_one e
      have e2 := drop_more e1
      rw [wordAt_of e]
      refine ⟨_, rfl, rfl, _, rfl, ifF (jn_no (by decide +kernel)) ⟨_, rfl, rfl, _, rfl, ifF (jn_no (by decide +kernel)) ?_⟩⟩
      refine ⟨_, rfl, ta, _, rfl, .inr (tt H), rfl, flat_strs _, _, rfl, ?_⟩
      have nin : ¬ o.w ∈ (["below", "same"] : List Str) := by cases o <;> decide +kernel
      rw [inV_strs, decide_eq_false nin]
      refine iteF ⟨_, rfl, ja, _, rfl, .inr (jt H), rfl, flat_strs _, _, rfl, ?_⟩
      rw [inV_strs, decide_eq_true (jn_in o)]
      refine iteF ?_
      refine ⟨_, rfl, _, rfl, _, _, rfl, rfl, a, ws, k + 1, x, _, rfl, ⟨hs, e1, head_ne_or false y oky _⟩, okx, by omega, fun t1 v1 H1 s1 ht1 hv1 => ?_⟩
      refine ⟨t1, _, rfl, SqT.of ht1, rfl, _, _, rfl, _, _, rfl, rfl, ?_⟩
      refine ⟨_, rfl, _, rfl, a, ws, k + 1 + (wds x).length, y, r, rfl, ⟨s1.seq hs, e2, ha.no⟩, oky, by omega, fun t2 v2 H2 s2 ht2 hv2 => ?_⟩
      refine ⟨t2, _, rfl, SqT.of ht2, rfl, _, _, rfl, _, _, rfl, rfl, ?_⟩
      refine ⟨_, rfl, _, rfl, _, rfl, by show 3 ≤ sizeLine; decide, fun t4 h4 => ⟨_, rfl, by show 2 ≤ sizeLine; decide, fun t5 h5 => ?_⟩⟩
      have s4 : Same H2 _ := (same_new h4 (.tup [.str o.w, v1, v2])).trans (same_new h5 (.tup [.ref t4, .int ((k + 1 + (wds x).length + (wds y).length : Nat) : Int)]))
      refine q t5 (.ref t4) _ ((s1.trans s2).trans s4) ?_ ?_
      · rw [upd_same]
        have el : k + 1 + (wds x).length + (wds y).length = k + (wds (.jn o x y)).length := by
          show _ = k + ((wds x ++ wds y).length + 1)
          rw [List.length_append]
          omega
        rw [el]
      · exact dpT (Eq.trans (upd_ne (ne_of_none upd_same h5)) upd_same) (.cons (.str _) (.cons (dp_same (s2.trans s4) hv1) (.cons (dp_same s4 hv2) .nil)))
    | _ => exact hok.elim
/-- the texts' defs of the program -/
structure GTexts (K : PySem.W.Frag) (mg : Str → Option Value) : Prop where
  split : Gf K mg "split_words" (top 11) ["text"]
  isName : Gf K mg "is_name" (top 12) ["word"]
  isNum : Gf K mg "is_number" (top 13) ["word"]
  wordAt : Gf K mg "word_at" (top 14) ["words", "at"]
  isDay : Gf K mg "is_day" (top 15) ["day"]
  isSpan : Gf K mg "is_span" (top 16) ["span"]
  name : Gf K mg "parse_name" (top 23) ["words", "at"]
  fact : Gf K mg "parse_fact" (top 24) ["words", "at"]
  pct : Gf K mg "parse_percent" (top 25) ["words", "at"]
  ite : Gf K mg "parse_if" (top 26) ["words", "at"]
  part : Gf K mg "parse_part" (top 27) ["words", "at"]
  cond : Gf K mg "parse_condition" (top 28) ["words", "at"]
  amount : Gf K mg "parse_amount" (top 29) ["text"]
theorem cal_none {x : Str} {st : Stmt} {ps : List Str} {k : Nat} {sp : Sp} (G : Gf K mg x st ps) (no : ∀ vs H Q E, ¬ sp vs H Q E) : Cal P w K mg base k x sp [] := by
  obtain ⟨f, fd, F, hm, hb⟩ := G.ex
  exact ⟨f, fd, ps, [], ⟨fun vs H Q E h => absurd h (no vs H Q E), fun A outer s H args us vs Q E _ _ _ _ h => absurd h (no vs H Q E)⟩, hm, F.kp, hb, .nil⟩
theorem parse_none {b : Bool} : ∀ vs H Q E, ¬ spParse K b 0 vs H Q E := fun vs H Q E h => by
  obtain ⟨a, ws, k, p, r, _, _, _, h0, _⟩ := h
  have := hgt_pos p
  omega
theorem parse_all (G : GTexts K mg) (T : Tx K mg) : ∀ n, Cal P w K mg base (2 * n + 2) "parse_part" (spParse K true n) [] ∧ Cal P w K mg base (2 * n + 2) "parse_condition" (spParse K false n) []
  | 0 => ⟨cal_none G.part parse_none, cal_none G.cond parse_none⟩
  | n + 1 => by
    obtain ⟨i1, i2⟩ := parse_all G T n
    have cW : Cal P w K mg base 1 "word_at" (spWordAt K) [] := c_word_at G.wordAt T
    have cI : Cal P w K mg base 1 "is_number" spIsNum [] := c_is_number G.isNum T
    have cN : Cal P w K mg base 2 "parse_name" (spPName K) [] := c_parse_name G.name cW (c_is_name G.isName T)
    exact ⟨c_parse_part G.part T cW cI cN (c_parse_fact G.fact cW cN i1) (c_parse_percent G.pct T cW cI i1) (c_parse_if G.ite i2 i1) i1, c_parse_condition G.cond T cW cN i1 i2⟩
/-! parse_amount -/
theorem joinL_len (S : List Nat) : ∀ l : List (List Nat), (TL.joinL S l).length ≤ (l.map List.length).sum + l.length * S.length
  | [] => Nat.zero_le _
  | [p] => by
    show p.length ≤ (p.length + 0) + (0 + 1) * S.length
    omega
  | p :: q :: r => by
    have ih := joinL_len S (q :: r)
    show (p ++ (S ++ TL.joinL S (q :: r))).length ≤ (p.length + ((q :: r).map List.length).sum) + ((q :: r).length + 1) * S.length
    rw [List.length_append, List.length_append, Nat.succ_mul]
    omega
theorem join_len {y : Str} {ws : List Str} {m : Nat} (h : ∀ z ∈ ws, z.length ≤ m) : (Txt.join y ws).length ≤ ws.length * (m + y.length) := by
  rw [TL.join_eq, len_tl]
  have e : (Str.join y ws).cps.toList = TL.joinL y.cps.toList (ws.map TL.tl) := TL.tl_join y ws
  rw [e]
  refine Nat.le_trans (joinL_len _ _) ?_
  rw [List.length_map, ← len_tl y, Nat.mul_add]
  refine Nat.add_le_add_right ?_ _
  clear e
  induction ws with
  | nil => simp
  | cons z r ih =>
    have h1 := h z (List.mem_cons_self ..)
    have h2 := ih fun x hx => h x (List.mem_cons_of_mem _ hx)
    rw [List.map_cons, List.map_cons, List.sum_cons, List.length_cons, Nat.succ_mul]
    have e1 : (TL.tl z).length = z.length := (len_tl z).symm
    omega
theorem name_plain {x : Str} (N : NameOk x) : (32 ∉ x.cps.toList ∧ x ≠ "") ∧ x.length ≤ 12 := by
  refine ⟨⟨fun h => ?_, fun h => ?_⟩, N.len⟩
  · have := N.all 32 h
    exact absurd this (by decide)
  · have := N.pos
    rw [h] at this
    exact absurd this (by decide +kernel)
theorem kw_plain : ∀ z ∈ kw, (32 ∉ z.cps.toList ∧ z ≠ "") ∧ z.length ≤ 12 := by
  have h : (kw.all fun z => decide ((32 ∉ z.cps.toList ∧ z ≠ "") ∧ z.length ≤ 12)) = true := by decide +kernel
  intro z hz
  exact of_decide_eq_true (List.all_eq_true.mp h z hz)
theorem num_plain {n : Int} (h : -1000000000 < n ∧ n < 1000000000) : (32 ∉ (Str.ofString (toString n)).cps.toList ∧ Str.ofString (toString n) ≠ "") ∧ (Str.ofString (toString n)).length ≤ 12 := by
  refine ⟨⟨num_nosp n, fun e => num_ne n ?_⟩, Nat.le_trans (num_len h) (by decide)⟩
  rw [e]
  decide +kernel
theorem wds_plain : ∀ (p : Nd) (b : Bool), ok b p → ∀ z ∈ wds p, (32 ∉ z.cps.toList ∧ z ≠ "") ∧ z.length ≤ 12 := by
  intro p
  induction p with
  | num n =>
    intro b h z hz
    cases b with
    | false => exact h.elim
    | true =>
      rw [List.mem_singleton.mp hz]
      exact num_plain h
  | fact x =>
    intro b h z hz
    cases b with
    | false => exact h.elim
    | true =>
      rcases List.mem_cons.mp hz with rfl | hz
      · exact kw_plain _ (by decide +kernel)
      · rw [List.mem_singleton.mp hz]
        exact name_plain h
  | factOr x p ih =>
    intro b h z hz
    cases b with
    | false => exact h.elim
    | true =>
      rcases List.mem_cons.mp hz with rfl | hz
      · exact kw_plain _ (by decide +kernel)
      · rcases List.mem_cons.mp hz with rfl | hz
        · exact name_plain h.1
        · rcases List.mem_cons.mp hz with rfl | hz
          · decide +kernel
          · exact ih true h.2 z hz
  | due x =>
    intro b h z hz
    cases b with
    | false => exact h.elim
    | true =>
      rcases List.mem_cons.mp hz with rfl | hz
      · exact kw_plain _ (by decide +kernel)
      · rw [List.mem_singleton.mp hz]
        exact name_plain h
  | pct n p ih =>
    intro b h z hz
    cases b with
    | false => exact h.elim
    | true =>
      obtain ⟨h0, h1, h2⟩ := h
      rcases List.mem_cons.mp hz with rfl | hz
      · exact kw_plain _ (by decide +kernel)
      · rcases List.mem_cons.mp hz with rfl | hz
        · exact num_plain ⟨by omega, by omega⟩
        · exact ih true h2 z hz
  | ite c a b i1 i2 i3 =>
    intro bb h z hz
    cases bb with
    | false => exact h.elim
    | true =>
      rcases List.mem_cons.mp hz with rfl | hz
      · exact kw_plain _ (by decide +kernel)
      · rcases List.mem_append.mp hz with hz | hz
        · exact i1 false h.1 z hz
        · rcases List.mem_append.mp hz with hz | hz
          · exact i2 true h.2.1 z hz
          · exact i3 true h.2.2 z hz
  | op k a b i1 i2 =>
    intro bb h z hz
    cases bb with
    | false => exact h.elim
    | true =>
      rcases List.mem_cons.mp hz with rfl | hz
      · exact kw_plain _ (op_kw k)
      · rcases List.mem_append.mp hz with hz | hz
        · exact i1 true h.1 z hz
        · exact i2 true h.2 z hz
  | known x =>
    intro b h z hz
    cases b with
    | true => exact h.elim
    | false =>
      rcases List.mem_cons.mp hz with rfl | hz
      · exact kw_plain _ (by decide +kernel)
      · rw [List.mem_singleton.mp hz]
        exact name_plain h
  | neg c ih =>
    intro b h z hz
    cases b with
    | true => exact h.elim
    | false =>
      rcases List.mem_cons.mp hz with rfl | hz
      · exact kw_plain _ (by decide +kernel)
      · exact ih false h z hz
  | jn k a b i1 i2 =>
    intro bb h z hz
    cases bb with
    | true => exact h.elim
    | false =>
      rcases List.mem_cons.mp hz with rfl | hz
      · exact kw_plain _ (jn_kw k)
      · rcases List.mem_append.mp hz with hz | hz
        · exact i1 false h.1 z hz
        · exact i2 false h.2 z hz
  | cmp k a b i1 i2 =>
    intro bb h z hz
    cases bb with
    | true => exact h.elim
    | false =>
      rcases List.mem_cons.mp hz with rfl | hz
      · exact kw_plain _ (cm_kw k)
      · rcases List.mem_append.mp hz with hz | hz
        · exact i1 true h.1 z hz
        · exact i2 true h.2 z hz
/-- parse_amount, of the text of a tree -/
def spAmount (K : PySem.W.Frag) : Sp := fun vs H Q _ => ∃ p : Nd, vs = [.str (txt p)] ∧ ok true p ∧ hgt p ≤ 4 ∧ (wds p).length ≤ 40 ∧ ∀ v H', Same H H' → Dp K H' v (pd p) → Q v H'
theorem scPAmount : FnScope ["text", "words", "amount", "at"] ["text"] (defScope (top 29)) := ⟨rfl, rfl, rfl, by decide +kernel, rfl, by decide +kernel, by decide +kernel⟩
theorem c_parse_amount (GT : GTexts K mg) (T : Tx K mg) : Cal P w K mg base 11 "parse_amount" (spAmount K) [] := by
  have cS : Cal P w K mg base 1 "split_words" spSplit [] := c_split GT.split
  have cP : Cal P w K mg base 10 "parse_part" (spParse K true 4) [] := (parse_all GT T 4).1
  refine GT.amount.cal scPAmount (fun vs H Q E h => ?_) (fun f cdv A outer s H vs Q E hr h => ?_)
  · obtain ⟨p, rfl, _⟩ := h
    rfl
  · obtain ⟨p, rfl, hok, hh, hl, q⟩ := h
    refine ⟨_, pss_cons (ps_set (i := 1) scPAmount.nd rfl (.inl rfl) (pe_c cS hr (by decide) rfl (pa_cons (pv 0) pa_nil)))
      (pss_cons (ps_if (pt_cmpR op_gt (pe_callB call_len_seq (by rfl) T.len PySem.boot_len (pa_cons (pv 1) pa_nil)) (gInt T.mWords) (nomark _)) (pss_one ps_never) pss_nil)
      (pss_cons (ps_asg (pe_c cP hr (by decide) rfl (pa_cons (pv 1) (pa_cons pe_int pa_nil))) (pg_tup rfl (pgs_cons (pg_name (i := 2) scPAmount.nd rfl (.inl rfl)) (pgs_cons (pg_name (i := 3) scPAmount.nd rfl (.inl rfl)) pgs_nil))))
      (pss_cons (ps_if (pt_cmpR op_lt (pv 3) (pe_callB call_len_seq (by rfl) T.len PySem.boot_len (pa_cons (pv 1) pa_nil)) (nomark _)) (pss_one ps_never) pss_nil)
      (pss_one (ps_ret (pv 2)))))), ?_⟩
    have pl := wds_plain p true hok
    have tl : (Txt.join " " (wds p)).length ≤ 1000 := by
      refine Nat.le_trans (join_len (m := 12) fun z hz => (pl z hz).2) ?_
      have e : ((" " : Str).length) = 1 := by decide +kernel
      rw [e]
      omega
    refine ⟨_, rfl, wds p, rfl, ⟨wds_ne p, fun z hz => (pl z hz).1⟩, tl, by omega, fun l H1 s1 h1 => ?_⟩
    refine ⟨_, rfl, l, _, rfl, .inl (SqL.of h1), _, _, rfl, rfl, _, rfl, ?_⟩
    rw [List.length_map]
    refine ifF (by omega) ?_
    refine ⟨_, rfl, l, wds p, 0, p, [], rfl, ⟨SqL.of h1, by simp, by simp⟩, hok, hh, fun t v H2 s2 h2 hv => ?_⟩
    refine ⟨t, _, rfl, SqT.of h2, rfl, _, _, rfl, _, _, rfl, rfl, ?_⟩
    refine ⟨_, rfl, _, rfl, l, _, rfl, .inl (SqL.of (s2 _ _ h1)), _, _, rfl, rfl, _, rfl, ?_⟩
    rw [List.length_map]
    refine ifF (by omega) ⟨_, rfl, q v H2 (s1.trans s2) hv⟩
end
end K14

set_option Elab.async false
set_option maxRecDepth 100000
set_option maxHeartbeats 4000000
/-! books: entries as tuples; the small methods; stands, holds_on -/
namespace K14
open PySem PySem.Spec PyProof.Rows L2
open C8 (Cal Met Mak pe_c pe_mk pe_mt pe_mt0 pss_cut)
section
variable {K : PySem.W.Frag} {H H' : Hp} {v : V}
theorem dp_tup_inv {ds : List PyData} (h : Dp K H v (.tuple ds)) : ∃ a xs, v = .ref a ∧ SqT K H a xs ∧ DpAll K H xs ds := by
  cases h with
  | tup h1 h2 => exact ⟨_, _, rfl, h1, h2⟩
theorem dp_int {i : Int} (h : Dp K H v (.int i)) : v = .int i := by cases h; rfl
theorem dp_str {x : Str} (h : Dp K H v (.str x)) : v = .str x := by cases h; rfl
theorem dp_non (h : Dp K H v .none) : v = .non := by cases h; rfl
theorem da_cons {vs : List V} {d : PyData} {ds : List PyData} (h : DpAll K H vs (d :: ds)) : ∃ x r, vs = x :: r ∧ Dp K H x d ∧ DpAll K H r ds := by
  cases h with
  | cons h1 h2 => exact ⟨_, _, rfl, h1, h2⟩
theorem da_nil {vs : List V} (h : DpAll K H vs []) : vs = [] := by cases h; rfl
theorem da_length {ds : List PyData} : ∀ {vs : List V}, DpAll K H vs ds → vs.length = ds.length := by
  induction ds with
  | nil => intro vs h; rw [da_nil h]; rfl
  | cons d ds ih =>
    intro vs h
    obtain ⟨x, r, rfl, _, h2⟩ := da_cons h
    rw [List.length_cons, List.length_cons, ih h2]
theorem da_get {ds : List PyData} : ∀ {vs : List V} {i : Nat} {d : PyData}, DpAll K H vs ds → ds[i]? = some d → ∃ x, vs[i]? = some x ∧ Dp K H x d := by
  induction ds with
  | nil => intro vs i d h e; simp at e
  | cons d0 ds ih =>
    intro vs i d h e
    obtain ⟨x, r, rfl, h1, h2⟩ := da_cons h
    cases i with
    | zero =>
      have e' : d0 = d := by simpa using e
      subst e'
      exact ⟨x, rfl, h1⟩
    | succ i =>
      obtain ⟨y, e1, e2⟩ := ih h2 (show ds[i]? = some d by simpa using e)
      exact ⟨y, by simpa using e1, e2⟩
theorem da_get2 {ds : List PyData} {vs : List V} {i : Nat} {x : V} (h : DpAll K H vs ds) (e : vs[i]? = some x) : ∃ d, ds[i]? = some d ∧ Dp K H x d := by
  have hi : i < vs.length := (List.getElem?_eq_some_iff.mp e).1
  rw [da_length h] at hi
  obtain ⟨y, e1, e2⟩ := da_get h (List.getElem?_eq_getElem hi)
  rw [e] at e1
  cases e1
  exact ⟨_, List.getElem?_eq_getElem hi, e2⟩
theorem da_snoc {ds : List PyData} {d : PyData} {x : V} (h2 : Dp K H x d) : ∀ {vs : List V}, DpAll K H vs ds → DpAll K H (vs ++ [x]) (ds ++ [d]) := by
  induction ds with
  | nil => intro vs h; rw [da_nil h]; exact .cons h2 .nil
  | cons d0 ds ih =>
    intro vs h
    obtain ⟨y, r, rfl, h1, h3⟩ := da_cons h
    exact .cons h1 (ih h3)
theorem da_same (e : Same H H') {vs : List V} {ds : List PyData} (h : DpAll K H vs ds) : DpAll K H' vs ds := dpAll_mono (fun _ _ => sqT_same e) (fun _ _ => e.seq) ds vs h
/-- a report's tuple -/
theorem ent_report {c : Int} {ps fc : Str} {z f t : Int} (h : Dp K H v (entD (.report c ps fc z f t))) : ∃ a s, v = .ref a ∧ SqT K H a [.str "report", .int c, .str ps, .str fc, .int z, .ref s] ∧ SqT K H s [.int f, .int t] := by
  obtain ⟨a, xs, rfl, h1, h2⟩ := dp_tup_inv h
  obtain ⟨x0, r0, rfl, e0, h2⟩ := da_cons h2
  obtain ⟨x1, r1, rfl, e1, h2⟩ := da_cons h2
  obtain ⟨x2, r2, rfl, e2, h2⟩ := da_cons h2
  obtain ⟨x3, r3, rfl, e3, h2⟩ := da_cons h2
  obtain ⟨x4, r4, rfl, e4, h2⟩ := da_cons h2
  obtain ⟨x5, r5, rfl, e5, h2⟩ := da_cons h2
  obtain rfl := da_nil h2
  obtain ⟨s, ys, rfl, g1, g2⟩ := dp_tup_inv e5
  obtain ⟨y0, q0, rfl, f0, g2⟩ := da_cons g2
  obtain ⟨y1, q1, rfl, f1, g2⟩ := da_cons g2
  obtain rfl := da_nil g2
  rw [dp_int f0, dp_int f1] at g1
  rw [dp_str e0, dp_int e1, dp_str e2, dp_str e3, dp_int e4] at h1
  exact ⟨a, s, rfl, h1, g1⟩
theorem ent_enact {c : Int} {r : Str} {p : Nd} {f t : Int} (h : Dp K H v (entD (.enact c r p f t))) : ∃ a s, v = .ref a ∧ SqT K H a [.str "enact", .int c, .str r, .str (txt p), .ref s] ∧ SqT K H s [.int f, .int t] := by
  obtain ⟨a, xs, rfl, h1, h2⟩ := dp_tup_inv h
  obtain ⟨x0, r0, rfl, e0, h2⟩ := da_cons h2
  obtain ⟨x1, r1, rfl, e1, h2⟩ := da_cons h2
  obtain ⟨x2, r2, rfl, e2, h2⟩ := da_cons h2
  obtain ⟨x3, r3, rfl, e3, h2⟩ := da_cons h2
  obtain ⟨x4, r4, rfl, e4, h2⟩ := da_cons h2
  obtain rfl := da_nil h2
  obtain ⟨s, ys, rfl, g1, g2⟩ := dp_tup_inv e4
  obtain ⟨y0, q0, rfl, f0, g2⟩ := da_cons g2
  obtain ⟨y1, q1, rfl, f1, g2⟩ := da_cons g2
  obtain rfl := da_nil g2
  rw [dp_int f0, dp_int f1] at g1
  rw [dp_str e0, dp_int e1, dp_str e2, dp_str e3] at h1
  exact ⟨a, s, rfl, h1, g1⟩
theorem ent_strike {c : Int} {i : Nat} (h : Dp K H v (entD (.strike c i))) : ∃ a, v = .ref a ∧ SqT K H a [.str "strike", .int c, .int (i : Int)] := by
  obtain ⟨a, xs, rfl, h1, h2⟩ := dp_tup_inv h
  obtain ⟨x0, r0, rfl, e0, h2⟩ := da_cons h2
  obtain ⟨x1, r1, rfl, e1, h2⟩ := da_cons h2
  obtain ⟨x2, r2, rfl, e2, h2⟩ := da_cons h2
  obtain rfl := da_nil h2
  rw [dp_str e0, dp_int e1, dp_int e2] at h1
  exact ⟨a, rfl, h1⟩
def Ent.kind : Ent → Str
  | .report _ _ _ _ _ _ => "report"
  | .enact _ _ _ _ _ => "enact"
  | .strike _ _ => "strike"
/-- what all entries have in common -/
theorem ent_any {e : Ent} (h : Dp K H v (entD e)) : ∃ a xs, v = .ref a ∧ SqT K H a (.str e.kind :: .int e.came :: xs) := by
  cases e with
  | report c ps fc z f t =>
    obtain ⟨a, s, rfl, h1, _⟩ := ent_report h
    exact ⟨a, _, rfl, h1⟩
  | enact c r p f t =>
    obtain ⟨a, s, rfl, h1, _⟩ := ent_enact h
    exact ⟨a, _, rfl, h1⟩
  | strike c i =>
    obtain ⟨a, rfl, h1⟩ := ent_strike h
    exact ⟨a, _, rfl, h1⟩
theorem at0 {x : V} {xs : List V} : atI (x :: xs) 0 = some x := atI_nat (j := 0) rfl
theorem at1 {x y : V} {xs : List V} : atI (x :: y :: xs) 1 = some y := atI_nat (j := 1) rfl
end
/-! ### the book object -/
theorem rs_ : ¬ (("_rows" : Str) = "_struck") := by decide +kernel
theorem sr_ : ¬ (("_struck" : Str) = "_rows") := by decide +kernel
def bookF (r s : Addr) : List (Str × V) := putF "_struck" (.ref s) (putF "_rows" (.ref r) [])
theorem bookF_rows (r s : Addr) : (bookF r s).lookup ("_rows" : Str) = some (.ref r) := by
  unfold bookF
  rw [lookup_putF, if_neg rs_, lookup_putF, if_pos rfl]
theorem bookF_struck (r s : Addr) : (bookF r s).lookup ("_struck" : Str) = some (.ref s) := by
  unfold bookF
  rw [lookup_putF, if_pos rfl]
theorem bookF_no (r s : Addr) {m : Str} (h1 : ¬ m = "_struck") (h2 : ¬ m = "_rows") : (bookF r s).lookup m = none := by
  unfold bookF
  rw [lookup_putF, if_neg h1, lookup_putF, if_neg h2]
  rfl
/-- a book with these entries: at b, its list at r, its dict at s -/
structure BookAt (K : PySem.W.Frag) (C : Addr) (H : Hp) (b r s : Addr) (es : List Ent) : Prop where
  ob : ∃ dx, H b = some (.ins C dx (bookF r s))
  rows : ∃ vs, H r = some (.lst vs) ∧ DpAll K H vs (es.map entD)
  str : ∃ kvs, H s = some (.dK kvs) ∧ kvs.length ≤ es.length ∧ ∀ i : Nat, valV kvs (Sum.inl (i : Int) : Key) = (struckOn es i).map V.int
theorem BookAt.same {K : PySem.W.Frag} {C : Addr} {H H' : Hp} {b r s : Addr} {es : List Ent} (B : BookAt K C H b r s es) (e : Same H H') : BookAt K C H' b r s es := by
  obtain ⟨⟨dx, h1⟩, ⟨vs, h2, h3⟩, kvs, h4, h5⟩ := B
  exact ⟨⟨dx, e _ _ h1⟩, ⟨vs, e _ _ h2, da_same e h3⟩, kvs, e _ _ h4, h5⟩
theorem BookAt.sameX {K : PySem.W.Frag} {C : Addr} {H H' : Hp} {b r s l : Addr} {es : List Ent} {ys : List V} (B : BookAt K C H b r s es) (e : SameX l H H') (hl : H l = some (.lst ys)) (hr : r ≠ l) (ht : ∀ z ∈ es, tupD (entD z) = true) : BookAt K C H' b r s es := by
  obtain ⟨⟨dx, h1⟩, ⟨vs, h2, h3⟩, kvs, h4, h5⟩ := B
  refine ⟨⟨dx, e _ _ (ne_of h1 hl (by intro z; cases z)) h1⟩, ⟨vs, e _ _ hr h2, ?_⟩, kvs, e _ _ (ne_of h4 hl (by intro z; cases z)) h4, h5⟩
  refine dpAll_tup (fun _ _ => e.sqT_lst hl) _ _ ?_ h3
  have : ∀ (es : List Ent), (∀ z ∈ es, tupD (entD z) = true) → tupD.tupDs (es.map entD) = true := by
    intro es
    induction es with
    | nil => intro _; rfl
    | cons z r ih =>
      intro h
      show (tupD (entD z) && tupD.tupDs (r.map entD)) = true
      rw [h z (List.mem_cons_self ..), ih fun y hy => h y (List.mem_cons_of_mem _ hy)]
      rfl
  exact this es ht
theorem ent_tup (e : Ent) : tupD (entD e) = true := by cases e <;> rfl
/-- what the class's facts are -/
structure BookC (K : PySem.W.Frag) (C : Addr) : Prop where
  cl : Cls K C
  nR : NoAttr K C "_rows"
  nS : NoAttr K C "_struck"
section
variable {P : Program} {w : World} {K : PySem.W.Frag} {mg : Str → Option Value} {base : Heap} {C : Addr}
def spEntryAt (K : PySem.W.Frag) (C : Addr) : Sp := fun vs H Q _ => ∃ (b r s : Addr) (es : List Ent) (i : Nat) (e : Ent), vs = [.ref b, .int (i : Int)] ∧ BookAt K C H b r s es ∧ es[i]? = some e ∧ ∀ v, Dp K H v (entD e) → Q v H
abbrev sEntryAt : Stmt := inClass (top 34) 4
theorem scEntryAt : FnScope ["self", "index"] ["self", "index"] (defScope sEntryAt) := ⟨rfl, rfl, rfl, by decide +kernel, rfl, by decide +kernel, by decide +kernel⟩
theorem m_entry_at (G : Mf K C "entry_at" "Book.entry_at" sEntryAt ["self", "index"]) (B : BookC K C) : Met P w K mg base 1 C "entry_at" (spEntryAt K C) [] := by
  refine G.met scEntryAt (fun vs H Q E h => ?_) (fun f cdv A outer s H vs Q E hr h => ?_)
  · obtain ⟨b, r, s, es, i, e, rfl, _⟩ := h
    rfl
  · obtain ⟨b, r, s', es, i, e, rfl, ⟨⟨dx, h1⟩, ⟨vs, h2, h3⟩, _⟩, hi, q⟩ := h
    refine ⟨_, pss_one (ps_ret (pe_ix ix_list (pe_fld (pv 0) rfl) (pv 1) (fun _ _ => rfl))), ?_⟩
    obtain ⟨x, hx, hd⟩ := da_get (i := i) (d := entD e) h3 (by rw [List.getElem?_map, hi]; rfl)
    exact ⟨_, rfl, b, C, dx, _, _, rfl, h1, B.cl, B.nR, bookF_rows _ _, _, rfl, r, vs, _, x, rfl, rfl, SqL.of h2, atI_nat hx, q x hd⟩
def spCount (K : PySem.W.Frag) (C : Addr) : Sp := fun vs H Q _ => ∃ (b r s : Addr) (es : List Ent), vs = [.ref b] ∧ BookAt K C H b r s es ∧ Q (.int (es.length : Int)) H
abbrev sCount : Stmt := inClass (top 34) 5
theorem scCount : FnScope ["self"] ["self"] (defScope sCount) := ⟨rfl, rfl, rfl, by decide +kernel, rfl, by decide +kernel, by decide +kernel⟩
theorem m_count (G : Mf K C "count" "Book.count" sCount ["self"]) (B : BookC K C) (T : Tx K mg) : Met P w K mg base 1 C "count" (spCount K C) [] := by
  refine G.met scCount (fun vs H Q E h => ?_) (fun f cdv A outer s H vs Q E hr h => ?_)
  · obtain ⟨b, r, s, es, rfl, _⟩ := h
    rfl
  · obtain ⟨b, r, s', es, rfl, ⟨⟨dx, h1⟩, ⟨vs, h2, h3⟩, _⟩, q⟩ := h
    refine ⟨_, pss_one (ps_ret (pe_callB call_len_seq (by rfl) T.len PySem.boot_len (pa_cons (pe_fld (pv 0) rfl) pa_nil))), ?_⟩
    have el : vs.length = es.length := by rw [da_length h3, List.length_map]
    refine ⟨_, rfl, b, C, dx, _, _, rfl, h1, B.cl, B.nR, bookF_rows _ _, r, vs, rfl, .inl (SqL.of h2), ?_⟩
    rw [el]
    exact q
def optV : Option Int → V
  | none => .non
  | some i => .int i
def spStruckOn (K : PySem.W.Frag) (C : Addr) : Sp := fun vs H Q _ => ∃ (b r s : Addr) (es : List Ent) (i : Nat), vs = [.ref b, .int (i : Int)] ∧ BookAt K C H b r s es ∧ Q (optV (struckOn es i)) H
abbrev sStruckOn : Stmt := inClass (top 34) 6
theorem scStruckOn : FnScope ["self", "index"] ["self", "index"] (defScope sStruckOn) := ⟨rfl, rfl, rfl, by decide +kernel, rfl, by decide +kernel, by decide +kernel⟩
theorem m_struck_on (G : Mf K C "struck_on" "Book.struck_on" sStruckOn ["self", "index"]) (B : BookC K C) : Met P w K mg base 1 C "struck_on" (spStruckOn K C) [] := by
  refine G.met scStruckOn (fun vs H Q E h => ?_) (fun f cdv A outer s H vs Q E hr h => ?_)
  · obtain ⟨b, r, s, es, i, rfl, _⟩ := h
    rfl
  · obtain ⟨b, r, s', es, i, rfl, ⟨⟨dx, h1⟩, _, kvs, h4, h5, h6⟩, q⟩ := h
    have hu := hu_of hr
    refine ⟨_, pss_one (ps_ret (pe_dget1 hu (pe_fld (pv 0) rfl) (pv 1) ⟨rfl, rfl, rfl, rfl⟩)), ?_⟩
    refine ⟨_, rfl, b, C, dx, _, _, rfl, h1, B.cl, B.nS, bookF_struck _ _, s', rfl, .inl ⟨kvs, .inl h4⟩, _, rfl, _, DGet.k (k := Sum.inl (i : Int)) h4, ?_⟩
    rw [h6 i]
    cases e : struckOn es i with
    | none =>
      rw [e] at q
      exact q
    | some c =>
      rw [e] at q
      exact q
end
end K14

set_option Elab.async false
set_option maxRecDepth 100000
set_option maxHeartbeats 4000000
/-! books: entries, holds_on, stands, last_of, fact_at, rule_at -/
namespace K14
open PySem PySem.Spec PyProof.Rows L2
open PySem.PyData (strOk)
open C8 (Cal Met Mak pe_c pe_mk pe_mt pe_mt0 pss_cut)
def Ent.span : Ent → Int × Int
  | .report _ _ _ _ f t => (f, t)
  | .enact _ _ _ f t => (f, t)
  | .strike _ _ => (0, 0)
def holdsM (e : Ent) (d : Int) : Bool := decide (e.span.1 ≤ d) && decide (d < e.span.2)
def standsM (es : List Ent) (i : Nat) (e : Ent) (known : Int) : Bool := decide (e.came ≤ known) && (match struckOn es i with
  | none => true
  | some c => decide (known < c))
/-- what is looked for -/
inductive Qy where
  | fact (p f : Str)
  | rule (r : Str)
def Qy.kind : Qy → Str
  | .fact _ _ => "report"
  | .rule _ => "enact"
def Qy.names : Qy → List Str
  | .fact p f => [p, f]
  | .rule r => [r]
def sel : Qy → Ent → Bool
  | .fact p f, .report _ ps fc _ _ _ => decide (ps = p) && decide (fc = f)
  | .rule r, .enact _ rl _ _ _ => decide (rl = r)
  | _, _ => false
def goodM (es : List Ent) (q : Qy) (day known : Int) (i : Nat) : Bool := match es[i]? with
  | some e => sel q e && (standsM es i e known && holdsM e day)
  | none => false
def lastM (es : List Ent) (q : Qy) (day known : Int) : Nat → Option Nat
  | 0 => none
  | i + 1 => if goodM es q day known i = true then some i else lastM es q day known i
def optN : Option Nat → V
  | none => .non
  | some i => .int (i : Int)
/-! comparing lists of texts -/
theorem eqvAll_strs : ∀ (l m : List Str), PyData.eqvAll (l.map PyData.str) (m.map PyData.str) = decide (l = m)
  | [], [] => rfl
  | [], _ :: _ => by simp [PyData.eqvAll]
  | _ :: _, [] => by simp [PyData.eqvAll]
  | x :: l, y :: m => by
    show PyData.eqvAll (PyData.str x :: l.map PyData.str) (PyData.str y :: m.map PyData.str) = _
    simp only [PyData.eqvAll, PyData.eqv]
    rw [eqvAll_strs l m]
    by_cases h : x = y
    · subst h
      simp
    · have : (x == y) = false := beq_eq_false_iff_ne.mpr h
      rw [this]
      simp [h]
theorem strOk_name {x : Str} (N : NameOk x) : strOk x = true := by
  unfold strOk
  rw [← Array.all_toList, List.all_eq_true]
  intro c hc
  have := N.all c hc
  unfold isLow isDig at this
  simp only [Bool.or_eq_true, Bool.and_eq_true, decide_eq_true_eq] at this
  simp only [decide_eq_true_eq]
  omega
theorem lay_strs : ∀ {l : List Str}, (∀ x ∈ l, strOk x = true) → PyData.canLayAll0 (l.map PyData.str) = true
  | [], _ => rfl
  | x :: l, h => by
    show PyData.canLayAll0 (PyData.str x :: l.map PyData.str) = true
    simp only [PyData.canLayAll0, PyData.canLay0]
    rw [h x (List.mem_cons_self ..), lay_strs fun y hy => h y (List.mem_cons_of_mem _ hy)]
    rfl
theorem depth_strs : ∀ l : List Str, PyData.depthAll (l.map PyData.str) = 0
  | [] => rfl
  | x :: l => by
    show PyData.depthAll (PyData.str x :: l.map PyData.str) = 0
    simp only [PyData.depthAll, PyData.depth]
    rw [depth_strs l]
    rfl
theorem shaped_strs {l : List Str} (h : ∀ x ∈ l, strOk x = true) : SeqAt.shaped (.list (l.map PyData.str)) = true := by
  have e1 : (PyData.list (l.map PyData.str)).canLay0 = true := by
    simp only [PyData.canLay0]
    exact lay_strs h
  have e2 : (PyData.list (l.map PyData.str)).depth ≤ 64 := by
    simp only [PyData.depth]
    rw [depth_strs]
    decide
  unfold SeqAt.shaped
  rw [e1, decide_eq_true e2]
  rfl
theorem da_strs {K : PySem.W.Frag} {H : Hp} : ∀ l : List Str, DpAll K H (l.map V.str) (l.map PyData.str)
  | [] => .nil
  | x :: l => .cons (.str x) (da_strs l)
section
variable {P : Program} {w : World} {K : PySem.W.Frag} {mg : Str → Option Value} {base : Heap} {C : Addr}
def spEntries (K : PySem.W.Frag) (C : Addr) : Sp := fun vs H Q _ => ∃ (b r s : Addr) (es : List Ent), vs = [.ref b] ∧ BookAt K C H b r s es ∧ ∀ l xs H', Same H H' → H' l = some (.lst xs) → DpAll K H' xs (es.map entD) → Q (.ref l) H'
abbrev sEntries : Stmt := inClass (top 34) 3
theorem scEntries : FnScope ["self"] ["self"] (defScope sEntries) := ⟨rfl, rfl, rfl, by decide +kernel, rfl, by decide +kernel, by decide +kernel⟩
theorem m_entries (G : Mf K C "entries" "Book.entries" sEntries ["self"]) (B : BookC K C) (T : Tx K mg) : Met P w K mg base 1 C "entries" (spEntries K C) [] := by
  refine G.met scEntries (fun vs H Q E h => ?_) (fun f cdv A outer s H vs Q E hr h => ?_)
  · obtain ⟨b, r, s, es, rfl, _⟩ := h
    rfl
  · obtain ⟨b, r, s', es, rfl, ⟨⟨dx, h1⟩, ⟨vs, h2, h3⟩, _⟩, q⟩ := h
    refine ⟨_, pss_one (ps_ret (pe_callTy call_list_of (by rfl) T.list (by decide +kernel) (pa_cons (pe_fld (pv 0) rfl) pa_nil))), ?_⟩
    exact ⟨_, rfl, b, C, dx, _, _, rfl, h1, B.cl, B.nR, bookF_rows _ _, r, vs, rfl, .inl (SqL.of h2), fun l hl => q l vs _ (same_new hl _) upd_same (da_same (same_new hl _) h3)⟩
/-- the last item of a report's, an enactment's tuple -/
theorem ent_last {H : Hp} {v : V} {e : Ent} (h : Dp K H v (entD e)) (hs : e.isStrike = false) : ∃ a s xs, v = .ref a ∧ SqT K H a (xs ++ [.ref s]) ∧ SqT K H s [.int e.span.1, .int e.span.2] := by
  cases e with
  | report c ps fc z f t =>
    obtain ⟨a, s, rfl, h1, h2⟩ := ent_report h
    exact ⟨a, s, [.str "report", .int c, .str ps, .str fc, .int z], rfl, h1, h2⟩
  | enact c r p f t =>
    obtain ⟨a, s, rfl, h1, h2⟩ := ent_enact h
    exact ⟨a, s, [.str "enact", .int c, .str r, .str (txt p)], rfl, h1, h2⟩
  | strike c i => cases hs
def spHolds (K : PySem.W.Frag) : Sp := fun vs H Q _ => ∃ (v : V) (e : Ent) (d : Int), vs = [v, .int d] ∧ Dp K H v (entD e) ∧ e.isStrike = false ∧ Q (.bl (holdsM e d)) H
theorem scHolds : FnScope ["entry", "day", "first", "after"] ["entry", "day"] (defScope (top 36)) := ⟨rfl, rfl, rfl, by decide +kernel, rfl, by decide +kernel, by decide +kernel⟩
theorem c_holds_on (G : Gf K mg "holds_on" (top 36) ["entry", "day"]) : Cal P w K mg base 1 "holds_on" (spHolds K) [] := by
  refine G.cal scHolds (fun vs H Q E h => ?_) (fun f cdv A outer s H vs Q E hr h => ?_)
  · obtain ⟨v, e, d, rfl, _⟩ := h
    rfl
  · obtain ⟨v, e, d, rfl, hv, hs, q⟩ := h
    obtain ⟨a, s', xs, rfl, h1, h2⟩ := ent_last hv hs
    refine ⟨_, pss_cons (ps_asg (pe_ix ix_tup (pv 0) (pe_un un_neg pe_int) (fun _ _ => rfl)) (pg_tup rfl (pgs_cons (pg_name (i := 2) scHolds.nd rfl (.inl rfl)) (pgs_cons (pg_name (i := 3) scHolds.nd rfl (.inl rfl)) pgs_nil))))
      (pss_one (ps_ret (pe_chain op_le op_lt (pv 2) (pv 1) (pv 3)))), ?_⟩
    refine ⟨_, rfl, _, rfl, a, _, _, _, rfl, rfl, h1, atI_last _ _, s', _, rfl, h2, rfl, _, _, rfl, _, _, rfl, rfl, ?_⟩
    refine ⟨_, rfl, _, rfl, _, _, rfl, rfl, _, rfl, ?_⟩
    unfold holdsM at q
    refine ifB (fun c => ?_) (fun c => ?_)
    · rw [c, Bool.true_and] at q
      exact ⟨_, rfl, _, _, rfl, rfl, q⟩
    · rw [c] at q
      exact q
def spStands (K : PySem.W.Frag) (C : Addr) : Sp := fun vs H Q _ => ∃ (b r s : Addr) (es : List Ent) (i : Nat) (e : Ent) (known : Int), vs = [.ref b, .int (i : Int), .int known] ∧ BookAt K C H b r s es ∧ es[i]? = some e ∧ e.isStrike = false ∧ Q (.bl (standsM es i e known)) H
theorem scStands : FnScope ["book", "index", "known", "entry", "day"] ["book", "index", "known"] (defScope (top 35)) := ⟨rfl, rfl, rfl, by decide +kernel, rfl, by decide +kernel, by decide +kernel⟩
theorem kind_no {e : Ent} (h : e.isStrike = false) : ¬ V.str e.kind = V.str "strike" := by
  cases e with
  | strike c i => cases h
  | report c ps fc z f t => exact fun z => absurd (V.str.inj z) (show ¬ ("report" : Str) = "strike" by decide +kernel)
  | enact c r p f t => exact fun z => absurd (V.str.inj z) (show ¬ ("enact" : Str) = "strike" by decide +kernel)
theorem c_stands (G : Gf K mg "stands" (top 35) ["book", "index", "known"]) (mE : Met P w K mg base 1 C "entry_at" (spEntryAt K C) []) (mS : Met P w K mg base 1 C "struck_on" (spStruckOn K C) []) : Cal P w K mg base 2 "stands" (spStands K C) [] := by
  refine G.cal scStands (fun vs H Q E h => ?_) (fun f cdv A outer s H vs Q E hr h => ?_)
  · obtain ⟨b, r, s', es, i, e, known, rfl, _⟩ := h
    rfl
  · obtain ⟨b, r, s', es, i, e, known, rfl, B, hi, hs, q⟩ := h
    obtain ⟨dx, h1⟩ := B.ob
    refine ⟨_, pss_cons (ps_set (i := 3) scStands.nd rfl (.inl rfl) (pe_mt mE hr (by decide) (pv 0) (pa_cons (pv 1) pa_nil)))
      (pss_cons (ps_if (PW.pt (pw_or (pt_cmpR op_eq (pe_ix ix_tup (pv 3) pe_int (fun _ _ => rfl)) pe_str (nomark _)) (pw_or1 (pt_cmpR op_gt (pe_ix ix_tup (pv 3) pe_int (fun _ _ => rfl)) (pv 2) (nomark _))))) (pss_one (ps_ret pe_bl)) pss_nil)
      (pss_cons (ps_set (i := 4) scStands.nd rfl (.inl rfl) (pe_mt mS hr (by decide) (pv 0) (pa_cons (pv 1) pa_nil)))
      (pss_one (ps_ret (pe_or (pe_cmp (pc_isN (pv 4)) rfl) (pe_one (pe_cmpR op_gt (pv 4) (pv 2) (nomark _)))))))), ?_⟩
    refine ⟨_, rfl, b, dx, _, rfl, h1, bookF_no _ _ (by decide +kernel) (by decide +kernel), _, rfl, b, r, s', es, i, e, rfl, B, hi, fun v hv => ?_⟩
    obtain ⟨a, xs, rfl, ht⟩ := ent_any hv
    refine ⟨_, rfl, a, _, _, _, rfl, rfl, ht, at0, rfl, _, rfl, ?_⟩
    rw [decide_eq_false (kind_no hs)]
    refine iteF ⟨_, rfl, a, _, _, _, rfl, rfl, ht, at1, _, rfl, _, _, rfl, rfl, _, rfl, ?_⟩
    unfold standsM at q
    refine ite2 (fun c => ?_) (fun c => ?_)
    · have c' := of_decide_eq_true c
      rw [decide_eq_false (by omega : ¬ e.came ≤ known), Bool.false_and] at q
      exact q
    · have c' : ¬ known < e.came := fun z => c (decide_eq_true z)
      rw [decide_eq_true (by omega : e.came ≤ known), Bool.true_and] at q
      refine ⟨_, rfl, b, dx, _, rfl, h1, bookF_no _ _ (by decide +kernel) (by decide +kernel), _, rfl, b, r, s', es, i, rfl, B, ?_⟩
      refine ⟨_, rfl, _, rfl, ?_⟩
      cases ho : struckOn es i with
      | none =>
        rw [ho] at q
        exact ifT rfl q
      | some c2 =>
        rw [ho] at q
        exact ifF (by intro z; cases z) ⟨_, rfl, _, rfl, _, _, rfl, rfl, q⟩
/-- every entry is well made -/
def EsOk (es : List Ent) : Prop := ∀ e ∈ es, e.ok
def Qy.ok (q : Qy) : Prop := ∀ x ∈ q.names, NameOk x
def spLastOf (K : PySem.W.Frag) (C : Addr) : Sp := fun vs H Q _ => ∃ (b r s nl : Addr) (es : List Ent) (q : Qy) (day known : Int), vs = [.ref b, .str q.kind, .ref nl, .int day, .int known] ∧ BookAt K C H b r s es ∧ EsOk es ∧ es.length ≤ 1000 ∧ q.ok ∧
  H nl = some (.lst (q.names.map V.str)) ∧ ∀ H', Same H H' → Q (optN (lastM es q day known es.length)) H'
theorem scLast : FnScope ["book", "kind", "names", "day", "known", "found", "index", "entry"] ["book", "kind", "names", "day", "known"] (defScope (top 37)) := ⟨rfl, rfl, rfl, by decide +kernel, rfl, by decide +kernel, by decide +kernel⟩
/-- the names that an entry bears, where the kind is the one that is asked -/
theorem ent_names {H : Hp} {v : V} {e : Ent} {q : Qy} (h : Dp K H v (entD e)) (ok : e.ok) (hq : q.ok) (hk : e.kind = q.kind) : ∃ a xs ns, v = .ref a ∧ SqT K H a xs ∧ e.isStrike = false ∧
    ¬ (HT.sIx xs.length 0 (some ((2 : Nat) : Int)) = 0 ∧ HT.sIx xs.length xs.length (some ((2 + q.names.length : Nat) : Int)) = xs.length) ∧
    cutV xs (some ((2 : Nat) : Int)) (some ((2 + q.names.length : Nat) : Int)) = ns.map V.str ∧ (∀ x ∈ ns, strOk x = true) ∧ sel q e = decide (ns = q.names) := by
  cases e with
  | report c ps fc z f t =>
    obtain ⟨a, s, rfl, h1, _⟩ := ent_report h
    obtain ⟨_, n1, n2, _⟩ := ok
    cases q with
    | fact p g =>
      refine ⟨a, _, [ps, fc], rfl, h1, rfl, (by intro z; exact absurd (show (2 : Nat) = 0 from z.1) (by decide)), rfl, fun x hx => ?_, ?_⟩
      · rcases List.mem_cons.mp hx with rfl | hx
        · exact strOk_name n1
        · rw [List.mem_singleton.mp hx]
          exact strOk_name n2
      · show (decide (ps = p) && decide (fc = g)) = decide ([ps, fc] = [p, g])
        simp
    | rule r => exact absurd hk (show ¬ ("report" : Str) = "enact" by decide +kernel)
  | enact c r0 p f t =>
    obtain ⟨a, s, rfl, h1, _⟩ := ent_enact h
    obtain ⟨_, n1, _⟩ := ok
    cases q with
    | fact p g => exact absurd hk (show ¬ ("enact" : Str) = "report" by decide +kernel)
    | rule r =>
      refine ⟨a, _, [r0], rfl, h1, rfl, (by intro z; exact absurd (show (2 : Nat) = 0 from z.1) (by decide)), rfl, fun x hx => ?_, ?_⟩
      · rw [List.mem_singleton.mp hx]
        exact strOk_name n1
      · show decide (r0 = r) = decide ([r0] = [r])
        simp
  | strike c i =>
    cases q with
    | fact p g => exact absurd hk (show ¬ ("strike" : Str) = "report" by decide +kernel)
    | rule r => exact absurd hk (show ¬ ("strike" : Str) = "enact" by decide +kernel)
theorem sel_no {q : Qy} {e : Ent} (h : ¬ e.kind = q.kind) : sel q e = false := by
  cases q <;> cases e <;> first | rfl | exact absurd rfl h
theorem c_last_of (G : Gf K mg "last_of" (top 37) ["book", "kind", "names", "day", "known"]) (T : Tx K mg) (mC : Met P w K mg base 1 C "count" (spCount K C) []) (mE : Met P w K mg base 1 C "entry_at" (spEntryAt K C) [])
    (cS : Cal P w K mg base 2 "stands" (spStands K C) []) (cH : Cal P w K mg base 1 "holds_on" (spHolds K) []) : Cal P w K mg base 3 "last_of" (spLastOf K C) [] := by
  refine G.cal scLast (fun vs H Q E h => ?_) (fun f cdv A outer s H vs Q E hr h => ?_)
  · obtain ⟨b, r, s', nl, es, q, day, known, rfl, _⟩ := h
    rfl
  · obtain ⟨b, r, s', nl, es, q, day, known, rfl, B, ok, hlen, hq, hn, k⟩ := h
    refine ⟨_, pss_cons (ps_set (i := 5) scLast.nd rfl (.inl rfl) pe_non)
      (pss_cons (ps_for PassesOwn.never rfl (pi_range1 rfl T.range (pa_cons (pe_mt0 mC hr (by decide) (pv 0)) pa_nil)) (pg_name (i := 6) scLast.nd rfl (.inl rfl))
        (pss_cons (ps_set (i := 7) scLast.nd rfl (.inl rfl) (pe_mt mE hr (by decide) (pv 0) (pa_cons (pv 6) pa_nil)))
        (pss_one (ps_if (PW.pt (pw_and (pt_cmpR op_eq (pe_ix ix_tup (pv 7) pe_int (fun _ _ => rfl)) (pv 1) (nomark _))
            (pw_and1 (pt_cmpR (op_eqD hr.units) (pe_callTy call_list_of (by rfl) T.list (by decide +kernel) (pa_cons (pe_slice sl_tup (pv 7) (po_some pe_int) (po_some (pe_op op_add pe_int (pe_callB call_len_seq (by rfl) T.len PySem.boot_len (pa_cons (pv 2) pa_nil))))) pa_nil)) (pv 2) (nomark _)))))
          (pss_one (ps_if (PW.pt (pw_and (pt_val (pe_c cS hr (by decide) rfl (pa_cons (pv 0) (pa_cons (pv 6) (pa_cons (pv 4) pa_nil))))) (pw_and1 (pt_val (pe_c cH hr (by decide) rfl (pa_cons (pv 7) (pa_cons (pv 3) pa_nil)))))))
            (pss_one (ps_set (i := 5) scLast.nd rfl (.inl rfl) (pv 6))) pss_nil)) pss_nil))))
      (pss_one (ps_ret (pv 5)))), ?_⟩
    obtain ⟨dx, h1⟩ := B.ob
    refine ⟨_, rfl, b, dx, _, rfl, h1, bookF_no _ _ (by decide +kernel) (by decide +kernel), b, r, s', es, rfl, B, ?_⟩
    refine ⟨_, rfl, by omega, by omega, for_it walk_range (fun i σ H' => ∃ (v6 v7 : Option V), σ = [some (.ref b), some (.str q.kind), some (.ref nl), some (.int day), some (.int known), some (optN (lastM es q day known i)), v6, v7] ∧ Same H H')
      ⟨none, none, rfl, Same.refl H⟩ (fun _ _ _ _ _ => trivial) ?_ ?_⟩
    · rintro i x σ H1 H2 hi ⟨v6, v7, rfl, s1⟩ ⟨rfl, rfl⟩
      have hi' : i < es.length := by simpa using hi
      have he : es[i]? = some es[i] := List.getElem?_eq_getElem hi'
      have eok := ok _ (List.getElem_mem hi')
      generalize es[i] = e at he eok
      have B1 := B.same s1
      obtain ⟨dx1, g1⟩ := B1.ob
      have ez : (0 : Int) + (i : Int) = (i : Int) := Int.zero_add _
      refine ⟨_, rfl, b, dx1, _, rfl, g1, bookF_no _ _ (by decide +kernel) (by decide +kernel), _, rfl, b, r, s', es, i, e, (by show [V.ref b, V.int ((0 : Int) + (i : Int))] = _; rw [ez]), B1, he, fun v hv => ?_⟩
      obtain ⟨a, xs, rfl, ht⟩ := ent_any hv
      refine ⟨_, rfl, a, _, _, _, rfl, rfl, ht, at0, _, rfl, rfl, _, rfl, ?_⟩
      by_cases hk : e.kind = q.kind
      · refine ifT (by rw [hk]) ?_
        obtain ⟨a', ys, ns, ea, ht', hst, hcut, ecut, hns, esel⟩ := ent_names hv eok hq hk
        have ea' := V.ref.inj ea
        subst ea'
        have eln : (2 : Int) + (((q.names.map V.str).length : Nat) : Int) = ((2 + q.names.length : Nat) : Int) := by
          rw [List.length_map]
          omega
        refine ⟨_, rfl, _, rfl, _, rfl, nl, _, rfl, .inl (SqL.of (s1 _ _ hn)), _, _, rfl, rfl, _, rfl, a, ys, rfl, ht', (by rw [eln]; exact hcut), fun p hp => ?_⟩
        rw [eln, show (2 : Int) = ((2 : Nat) : Int) from rfl, ecut]
        refine ⟨p, _, rfl, .inr (SqT.of upd_same), fun l hl => ?_⟩
        have s2 := (s1.trans (same_new hp (.tup (ns.map V.str)))).trans (same_new hl (.lst (ns.map V.str)))
        refine ⟨_, rfl, .list (ns.map PyData.str), .list (q.names.map PyData.str), .lst (SqL.of upd_same) (da_strs ns), .lst (SqL.of (s2 _ _ hn)) (da_strs _), shaped_strs hns, shaped_strs (fun x hx => strOk_name (hq x hx)), _, rfl, ?_⟩
        rw [show PyData.eqv (.list (ns.map PyData.str)) (.list (q.names.map PyData.str)) = PyData.eqvAll (ns.map PyData.str) (q.names.map PyData.str) by simp only [PyData.eqv], eqvAll_strs, ← esel]
        have eg : goodM es q day known i = (sel q e && (standsM es i e known && holdsM e day)) := by
          unfold goodM
          rw [he]
        refine ifB (fun c => ?_) (fun c => ?_)
        · refine ⟨_, rfl, _, rfl, _, rfl, b, r, s', es, i, e, known, (by show [V.ref b, V.int ((0 : Int) + (i : Int)), V.int known] = _; rw [ez]), B.same s2, he, hst, _, rfl, ?_⟩
          rw [c, Bool.true_and] at eg
          refine ifB (fun c2 => ?_) (fun c2 => ?_)
          · refine ⟨_, rfl, _, rfl, _, e, day, rfl, dp_same ((same_new hp (.tup (ns.map V.str))).trans (same_new hl (.lst (ns.map V.str)))) hv, hst, _, rfl, ?_⟩
            rw [c2, Bool.true_and] at eg
            refine ifB (fun c3 => ?_) (fun c3 => ?_)
            · refine ⟨_, rfl, some (V.int ((0 : Int) + (i : Int))), some (.ref a), ?_, s2⟩
              show _ = [some (V.ref b), some (.str q.kind), some (.ref nl), some (.int day), some (.int known), some (optN (if goodM es q day known i = true then some i else lastM es q day known i)), _, some (.ref a)]
              rw [eg, c3, if_pos rfl]
              show [some (V.ref b), some (.str q.kind), some (.ref nl), some (.int day), some (.int known), some (V.int ((0 : Int) + (i : Int))), some (V.int ((0 : Int) + (i : Int))), some (.ref a)] = [some (V.ref b), some (.str q.kind), some (.ref nl), some (.int day), some (.int known), some (V.int (i : Int)), some (V.int ((0 : Int) + (i : Int))), some (.ref a)]
              rw [ez]
            · refine ⟨some (V.int ((0 : Int) + (i : Int))), some (.ref a), ?_, s2⟩
              show _ = [some (V.ref b), some (.str q.kind), some (.ref nl), some (.int day), some (.int known), some (optN (if goodM es q day known i = true then some i else lastM es q day known i)), _, some (.ref a)]
              rw [eg, c3, if_neg Bool.false_ne_true]
              rfl
          · refine ⟨some (V.int ((0 : Int) + (i : Int))), some (.ref a), ?_, s2⟩
            show _ = [some (V.ref b), some (.str q.kind), some (.ref nl), some (.int day), some (.int known), some (optN (if goodM es q day known i = true then some i else lastM es q day known i)), _, some (.ref a)]
            rw [c2, Bool.false_and] at eg
            rw [eg, if_neg Bool.false_ne_true]
            rfl
        · refine ⟨some (V.int ((0 : Int) + (i : Int))), some (.ref a), ?_, s2⟩
          show _ = [some (V.ref b), some (.str q.kind), some (.ref nl), some (.int day), some (.int known), some (optN (if goodM es q day known i = true then some i else lastM es q day known i)), _, some (.ref a)]
          rw [c, Bool.false_and] at eg
          rw [eg, if_neg Bool.false_ne_true]
          rfl
      · refine ifF (fun z => hk (V.str.inj z)) ?_
        refine ⟨some (V.int ((0 : Int) + (i : Int))), some (.ref a), ?_, s1⟩
        have eg : goodM es q day known i = false := by
          unfold goodM
          rw [he]
          show (sel q e && _) = false
          rw [sel_no hk]
          rfl
        show _ = [some (V.ref b), some (.str q.kind), some (.ref nl), some (.int day), some (.int known), some (optN (if goodM es q day known i = true then some i else lastM es q day known i)), _, some (.ref a)]
        rw [eg, if_neg Bool.false_ne_true]
        rfl
    · rintro σ H1 ⟨v6, v7, rfl, s1⟩
      exact ⟨_, rfl, by simpa using k H1 s1⟩
end
end K14

set_option Elab.async false
set_option maxRecDepth 100000
set_option maxHeartbeats 4000000
/-! books: fact_at, rule_at, the checks -/
namespace K14
open PySem PySem.Spec PyProof.Rows L2
open C8 (Cal Met Mak pe_c pe_mk pe_mt pe_mt0 pss_cut)
section
variable {X : Cx} {k j : Nat} {C : Addr} {x : Str} {sp : Sp} {dvs : List V} {p pos : Pos}
theorem pe_mk0 (c : Mak X.prog X.w X.K X.mg X.base k x C sp dvs) (hr : Room j X.A) (hk : k + 1 ≤ j) (hg : Gl X x) (hdb : (x == ("__debug__" : Str)) = false := by decide) : PE X (.Call (.Name x p) [] [] pos) (tMake C sp dvs E0 tNil) := by
  obtain ⟨f, fd, ps, ds, M, F, hm, b, d⟩ := c.ex
  exact pe_make0 M F (hr.mono hk) hg hm b d pass0 hdb
end
section
variable {P : Program} {w : World} {K : PySem.W.Frag} {mg : Str → Option Value} {base : Heap} {C : Addr}
def spFactAt (K : PySem.W.Frag) (C : Addr) : Sp := fun vs H Q _ => ∃ (b r s : Addr) (es : List Ent) (p f : Str) (day known : Int), vs = [.ref b, .str p, .str f, .int day, .int known] ∧ BookAt K C H b r s es ∧ EsOk es ∧ es.length ≤ 1000 ∧ NameOk p ∧ NameOk f ∧
  ∀ H', Same H H' → Q (optN (lastM es (.fact p f) day known es.length)) H'
theorem scFactAt : FnScope ["book", "person", "fact", "day", "known"] ["book", "person", "fact", "day", "known"] (defScope (top 38)) := ⟨rfl, rfl, rfl, by decide +kernel, rfl, by decide +kernel, by decide +kernel⟩
theorem c_fact_at (G : Gf K mg "fact_at" (top 38) ["book", "person", "fact", "day", "known"]) (cL : Cal P w K mg base 3 "last_of" (spLastOf K C) []) : Cal P w K mg base 4 "fact_at" (spFactAt K C) [] := by
  refine G.cal scFactAt (fun vs H Q E h => ?_) (fun f cdv A outer s H vs Q E hr h => ?_)
  · obtain ⟨b, r, s', es, p, f, day, known, rfl, _⟩ := h
    rfl
  · obtain ⟨b, r, s', es, p, fc, day, known, rfl, B, ok, hl, n1, n2, k⟩ := h
    refine ⟨_, pss_one (ps_ret (pe_c cL hr (by decide) rfl (pa_cons (pv 0) (pa_cons pe_str (pa_cons (pe_lst (pa_cons (pv 1) (pa_cons (pv 2) pa_nil))) (pa_cons (pv 3) (pa_cons (pv 4) pa_nil))))))), ?_⟩
    refine ⟨_, rfl, _, rfl, _, rfl, by show 2 ≤ sizeLine; decide, fun l hl' => ⟨_, rfl, _, rfl, ?_⟩⟩
    have s1 := same_new hl' (.lst [.str p, .str fc])
    refine ⟨b, r, s', l, es, .fact p fc, day, known, rfl, B.same s1, ok, hl, fun x hx => ?_, upd_same, fun H1 s2 => k H1 (s1.trans s2)⟩
    rcases List.mem_cons.mp (show x ∈ [p, fc] from hx) with rfl | hx
    · exact n1
    · rw [List.mem_singleton.mp hx]
      exact n2
def spRuleAt (K : PySem.W.Frag) (C : Addr) : Sp := fun vs H Q _ => ∃ (b r s : Addr) (es : List Ent) (n : Str) (day known : Int), vs = [.ref b, .str n, .int day, .int known] ∧ BookAt K C H b r s es ∧ EsOk es ∧ es.length ≤ 1000 ∧ NameOk n ∧
  ∀ H', Same H H' → Q (optN (lastM es (.rule n) day known es.length)) H'
theorem scRuleAt : FnScope ["book", "rule", "day", "known"] ["book", "rule", "day", "known"] (defScope (top 39)) := ⟨rfl, rfl, rfl, by decide +kernel, rfl, by decide +kernel, by decide +kernel⟩
theorem c_rule_at (G : Gf K mg "rule_at" (top 39) ["book", "rule", "day", "known"]) (cL : Cal P w K mg base 3 "last_of" (spLastOf K C) []) : Cal P w K mg base 4 "rule_at" (spRuleAt K C) [] := by
  refine G.cal scRuleAt (fun vs H Q E h => ?_) (fun f cdv A outer s H vs Q E hr h => ?_)
  · obtain ⟨b, r, s', es, n, day, known, rfl, _⟩ := h
    rfl
  · obtain ⟨b, r, s', es, n, day, known, rfl, B, ok, hl, n1, k⟩ := h
    refine ⟨_, pss_one (ps_ret (pe_c cL hr (by decide) rfl (pa_cons (pv 0) (pa_cons pe_str (pa_cons (pe_lst (pa_cons (pv 1) pa_nil)) (pa_cons (pv 2) (pa_cons (pv 3) pa_nil))))))), ?_⟩
    refine ⟨_, rfl, _, rfl, by show 1 ≤ sizeLine; decide, fun l hl' => ⟨_, rfl, _, rfl, ?_⟩⟩
    have s1 := same_new hl' (.lst [.str n])
    refine ⟨b, r, s', l, es, .rule n, day, known, rfl, B.same s1, ok, hl, fun x hx => ?_, upd_same, fun H1 s2 => k H1 (s1.trans s2)⟩
    rw [List.mem_singleton.mp (show x ∈ [n] from hx)]
    exact n1
/-! ### the checks -/
def spCheckE (K : PySem.W.Frag) (kd : Str) : Sp := fun vs H Q _ => ∃ (v : V) (e : Ent), vs = [v] ∧ Dp K H v (entD e) ∧ e.ok ∧ e.kind = kd ∧ ∀ H', Same H H' → Q .non H'
theorem scCR : FnScope ["entry"] ["entry"] (defScope (top 32)) := ⟨rfl, rfl, rfl, by decide +kernel, rfl, by decide +kernel, by decide +kernel⟩
theorem at2 {x y z : V} {xs : List V} : atI (x :: y :: z :: xs) 2 = some z := atI_nat (j := 2) rfl
theorem at3 {x y z u : V} {xs : List V} : atI (x :: y :: z :: u :: xs) 3 = some u := atI_nat (j := 3) rfl
theorem at4 {x y z u t : V} {xs : List V} : atI (x :: y :: z :: u :: t :: xs) 4 = some t := atI_nat (j := 4) rfl
theorem at5 {x y z u t o : V} {xs : List V} : atI (x :: y :: z :: u :: t :: o :: xs) 5 = some o := atI_nat (j := 5) rfl
theorem c_check_report (G : Gf K mg "check_report" (top 32) ["entry"]) (T : Tx K mg) (cN : Cal P w K mg base 1 "is_name" spIsName []) (cS : Cal P w K mg base 1 "is_span" (spIsSpan K) []) : Cal P w K mg base 2 "check_report" (spCheckE K "report") [] := by
  refine G.cal scCR (fun vs H Q E h => ?_) (fun f cdv A outer s H vs Q E hr h => ?_)
  · obtain ⟨v, e, rfl, _⟩ := h
    rfl
  · obtain ⟨v, e, rfl, hv, ok, hk, q⟩ := h
    refine ⟨_, pss_cons (ps_if (PW.pt (pw_or (pt_not (pt_val (pe_c cN hr (by decide) rfl (pa_cons (pe_ix ix_tup (pv 0) pe_int (fun _ _ => rfl)) pa_nil)))) (pw_or1 (pt_not (pt_val (pe_c cN hr (by decide) rfl (pa_cons (pe_ix ix_tup (pv 0) pe_int (fun _ _ => rfl)) pa_nil))))))) (pss_one ps_never) pss_nil)
      (pss_cons (ps_if (pt_cmpR op_ge (pe_callB call_abs (by rfl) T.abs (by decide +kernel) (pa_cons (pe_ix ix_tup (pv 0) pe_int (fun _ _ => rfl)) pa_nil)) (pe_op op_pow pe_int pe_int) (nomark _)) (pss_one ps_never) pss_nil)
      (pss_one (ps_if (pt_not (pt_val (pe_c cS hr (by decide) rfl (pa_cons (pe_ix ix_tup (pv 0) pe_int (fun _ _ => rfl)) pa_nil)))) (pss_one ps_never) pss_nil))), ?_⟩
    cases e with
    | report c ps fc z f t =>
      obtain ⟨a, s', rfl, h1, h2⟩ := ent_report hv
      obtain ⟨_, n1, n2, hz, hsp⟩ := ok
      refine ⟨_, rfl, a, _, _, _, rfl, rfl, h1, at2, ps, rfl, n1, _, rfl, iteF ?_⟩
      refine ⟨_, rfl, a, _, _, _, rfl, rfl, h1, at3, fc, rfl, n2, _, rfl, iteF ?_⟩
      refine ⟨_, rfl, a, _, _, _, rfl, rfl, h1, at4, z, rfl, _, _, rfl, rfl, ⟨by decide, by decide, by decide⟩, _, _, rfl, rfl, _, rfl, ?_⟩
      have e9 : (10 : Int) ^ ((9 : Int).toNat) = 1000000000 := by decide
      rw [e9]
      refine ifF (by split <;> omega) ?_
      exact ⟨_, rfl, a, _, _, _, rfl, rfl, h1, at5, s', f, t, rfl, h2, hsp, _, rfl, iteF (q H (Same.refl H))⟩
    | enact c r p f t => exact absurd hk (show ¬ ("enact" : Str) = "report" by decide +kernel)
    | strike c i => exact absurd hk (show ¬ ("strike" : Str) = "report" by decide +kernel)
theorem scCE : FnScope ["entry"] ["entry"] (defScope (top 33)) := ⟨rfl, rfl, rfl, by decide +kernel, rfl, by decide +kernel, by decide +kernel⟩
theorem c_check_enactment (G : Gf K mg "check_enactment" (top 33) ["entry"]) (cN : Cal P w K mg base 1 "is_name" spIsName []) (cS : Cal P w K mg base 1 "is_span" (spIsSpan K) []) (cA : Cal P w K mg base 11 "parse_amount" (spAmount K) []) : Cal P w K mg base 12 "check_enactment" (spCheckE K "enact") [] := by
  refine G.cal scCE (fun vs H Q E h => ?_) (fun f cdv A outer s H vs Q E hr h => ?_)
  · obtain ⟨v, e, rfl, _⟩ := h
    rfl
  · obtain ⟨v, e, rfl, hv, ok, hk, q⟩ := h
    refine ⟨_, pss_cons (ps_if (pt_not (pt_val (pe_c cN hr (by decide) rfl (pa_cons (pe_ix ix_tup (pv 0) pe_int (fun _ _ => rfl)) pa_nil)))) (pss_one ps_never) pss_nil)
      (pss_cons (ps_expr (pe_c cA hr (by decide) rfl (pa_cons (pe_ix ix_tup (pv 0) pe_int (fun _ _ => rfl)) pa_nil)))
      (pss_one (ps_if (pt_not (pt_val (pe_c cS hr (by decide) rfl (pa_cons (pe_ix ix_tup (pv 0) pe_int (fun _ _ => rfl)) pa_nil)))) (pss_one ps_never) pss_nil))), ?_⟩
    cases e with
    | enact c r p f t =>
      obtain ⟨a, s', rfl, h1, h2⟩ := ent_enact hv
      obtain ⟨_, n1, ⟨o1, o2, o3⟩, hsp⟩ := ok
      refine ⟨_, rfl, a, _, _, _, rfl, rfl, h1, at2, r, rfl, n1, _, rfl, iteF ?_⟩
      refine ⟨_, rfl, a, _, _, _, rfl, rfl, h1, at3, p, rfl, o1, o2, o3, fun v1 H1 s1 _ => ?_⟩
      exact ⟨_, rfl, a, _, _, _, rfl, rfl, sqT_same s1 h1, at4, s', f, t, rfl, sqT_same s1 h2, hsp, _, rfl, iteF (q H1 s1)⟩
    | report c ps fc z f t => exact absurd hk (show ¬ ("report" : Str) = "enact" by decide +kernel)
    | strike c i => exact absurd hk (show ¬ ("strike" : Str) = "enact" by decide +kernel)
abbrev sCheck : Stmt := inClass (top 34) 1
def spCheck (K : PySem.W.Frag) (C : Addr) : Sp := fun vs H Q _ => ∃ (b r s : Addr) (es : List Ent) (v : V) (e : Ent), vs = [.ref b, v] ∧ BookAt K C H b r s es ∧ Fits es e ∧ es.length < 100 ∧ Dp K H v (entD e) ∧ ∀ H', Same H H' → Q .non H'
theorem scCheck : FnScope ["self", "entry", "index"] ["self", "entry"] (defScope sCheck) := ⟨rfl, rfl, rfl, by decide +kernel, rfl, by decide +kernel, by decide +kernel⟩
theorem ent_came {e : Ent} (ok : e.ok) : 0 ≤ e.came ∧ e.came ≤ 9999 := by
  cases e with
  | report c ps fc z f t => exact ok.1
  | enact c r p f t => exact ok.1
  | strike c i => exact ok
theorem m_check (G : Mf K C "_check" "Book._check" sCheck ["self", "entry"]) (B : BookC K C) (T : Tx K mg) (cD : Cal P w K mg base 1 "is_day" spIsDay []) (cR : Cal P w K mg base 2 "check_report" (spCheckE K "report") []) (cE : Cal P w K mg base 12 "check_enactment" (spCheckE K "enact") []) :
    Met P w K mg base 13 C "_check" (spCheck K C) [] := by
  refine G.met scCheck (fun vs H Q E h => ?_) (fun f cdv A outer s H vs Q E hr h => ?_)
  · obtain ⟨b, r, s', es, v, e, rfl, _⟩ := h
    rfl
  · obtain ⟨b, r, s', es, v, e, rfl, BA, ⟨ok, hlast, hstr⟩, hlen, hv, q⟩ := h
    have hu := hu_of hr
    refine ⟨_, pss_cons (ps_if (pt_cmpR op_eq (pe_callB call_len_seq (by rfl) T.len PySem.boot_len (pa_cons (pe_fld (pv 0) rfl) pa_nil)) (gInt T.mEnt) (nomark _)) (pss_one ps_never) pss_nil)
      (pss_cut (ps_if (PW.pt (pw_or (pt_not (pt_val (pe_c cD hr (by decide) rfl (pa_cons (pe_ix ix_tup (pv 1) pe_int (fun _ _ => rfl)) pa_nil))))
          (pw_or1 (PW.pt (pw_and (pt_truth (pe_fld (pv 0) rfl) (by intro _; rfl)) (pw_and1 (pt_cmpR op_lt (pe_ix ix_tup (pv 1) pe_int (fun _ _ => rfl)) (pe_ix ix_tup (pe_ix ix_list (pe_fld (pv 0) rfl) (pe_un un_neg pe_int) (fun _ _ => rfl)) pe_int (fun _ _ => rfl)) (nomark _)))))))) (pss_one ps_never) pss_nil)
      (pss_one (ps_if (pt_cmpR op_eq (pe_ix ix_tup (pv 1) pe_int (fun _ _ => rfl)) pe_str (nomark _)) (pss_one (ps_expr (pe_c cR hr (by decide) rfl (pa_cons (pv 1) pa_nil))))
        (pss_one (ps_if (pt_cmpR op_eq (pe_ix ix_tup (pv 1) pe_int (fun _ _ => rfl)) pe_str (nomark _)) (pss_one (ps_expr (pe_c cE hr (by decide) rfl (pa_cons (pv 1) pa_nil))))
          (pss_cons (ps_set (i := 2) scCheck.nd rfl (.inl rfl) (pe_ix ix_tup (pv 1) pe_int (fun _ _ => rfl)))
          (pss_one (ps_if (PW.pt (pw_or (pt_not (pt_chain op_le op_lt pe_int (pv 2) (pe_callB call_len_seq (by rfl) T.len PySem.boot_len (pa_cons (pe_fld (pv 0) rfl) pa_nil))))
            (pw_or (pt_cmp (pc_din hu (pv 2) (pe_fld (pv 0) rfl))) (pw_or1 (pt_cmpR op_eq (pe_ix ix_tup (pe_ix ix_list (pe_fld (pv 0) rfl) (pv 2) (fun _ _ => rfl)) pe_int (fun _ _ => rfl)) pe_str (nomark _)))))) (pss_one ps_never) pss_nil)))))))), ?_⟩
    obtain ⟨⟨dx, h1⟩, ⟨rows, h2, h3⟩, kvs, h4, h5, h6⟩ := BA
    have el : rows.length = es.length := by rw [da_length h3, List.length_map]
    obtain ⟨a, xs, rfl, ht⟩ := ent_any hv
    have hc := ent_came ok
    -- not full
    refine ⟨_, rfl, b, C, dx, _, _, rfl, h1, B.cl, B.nR, bookF_rows _ _, r, _, rfl, .inl (SqL.of h2), rfl, _, rfl, ifF (fun z => ?_) ?_⟩
    · have z' := V.int.inj z
      omega
    -- the day
    refine ⟨fun σ H1 => σ = [some (.ref b), some (.ref a), none] ∧ H = H1, ?_, ?_⟩
    · refine ⟨_, rfl, a, _, _, _, rfl, rfl, ht, at1, e.came, rfl, hc.1, hc.2, _, rfl, iteF ?_⟩
      refine ⟨_, rfl, b, C, dx, _, _, rfl, h1, B.cl, B.nR, bookF_rows _ _, !rows.isEmpty, .inl ⟨rows, SqL.of h2, rfl⟩, ?_⟩
      refine ifB (fun c => ?_) (fun c => ?_)
      · have hne : rows ≠ [] := by
          intro z
          rw [z] at c
          cases c
        obtain ⟨init, x, ei⟩ : ∃ init x, rows = init ++ [x] := ⟨rows.dropLast, rows.getLast hne, (List.dropLast_concat_getLast hne).symm⟩
        have hx : rows[es.length - 1]? = some x := by
          rw [← el, ei]
          simp
        obtain ⟨d, hd, hdx⟩ := da_get2 h3 hx
        rw [List.getElem?_map] at hd
        obtain ⟨d0, hd0, rfl⟩ := Option.map_eq_some_iff.mp hd
        obtain ⟨a0, xs0, rfl, ht0⟩ := ent_any hdx
        have hl := hlast d0 (by rw [List.getLast?_eq_getElem?]; exact hd0)
        refine ⟨_, rfl, a, _, _, _, rfl, rfl, ht, at1, _, rfl, b, C, dx, _, _, rfl, h1, B.cl, B.nR, bookF_rows _ _, _, rfl, r, rows, _, .ref a0, rfl, rfl, SqL.of h2, (by rw [ei]; exact atI_last _ _), a0, _, _, _, rfl, rfl, ht0, at1, _, _, rfl, rfl, _, rfl, ifF (by omega) ⟨rfl, rfl⟩⟩
      · exact ⟨rfl, rfl⟩
    rintro σ H1 ⟨rfl, rfl⟩
    refine ⟨_, rfl, a, _, _, _, rfl, rfl, ht, at0, rfl, _, rfl, ?_⟩
    cases e with
    | report c ps fc z f t => exact ifT rfl ⟨_, rfl, _, _, rfl, hv, ok, rfl, fun H1 s1 => q H1 s1⟩
    | enact c r0 p f t => exact ifF (by intro z; exact absurd (V.str.inj z) (show ¬ ("enact" : Str) = "report" by decide +kernel)) ⟨_, rfl, a, _, _, _, rfl, rfl, ht, at0, rfl, _, rfl, ifT rfl ⟨_, rfl, _, _, rfl, hv, ok, rfl, fun H1 s1 => q H1 s1⟩⟩
    | strike c i =>
      obtain ⟨⟨d, hd, hds⟩, hso⟩ := hstr c i rfl
      have hi : i < es.length := (List.getElem?_eq_some_iff.mp hd).1
      obtain ⟨a', ea, ht'⟩ := ent_strike hv
      have ea' := V.ref.inj ea
      subst ea'
      refine ifF (by intro z; exact absurd (V.str.inj z) (show ¬ ("strike" : Str) = "report" by decide +kernel)) ⟨_, rfl, a, _, _, _, rfl, rfl, ht, at0, rfl, _, rfl, ifF (by intro z; exact absurd (V.str.inj z) (show ¬ ("strike" : Str) = "enact" by decide +kernel)) ?_⟩
      refine ⟨_, rfl, a, _, _, _, rfl, rfl, ht', at2, ?_⟩
      refine ⟨_, rfl, _, _, rfl, rfl, _, rfl, ifT (by omega) ⟨_, rfl, b, C, dx, _, _, rfl, h1, B.cl, B.nR, bookF_rows _ _, r, _, rfl, .inl (SqL.of h2), _, _, rfl, rfl, _, rfl, ?_⟩⟩
      rw [el, decide_eq_true (by omega : (i : Int) < ((es.length : Nat) : Int))]
      refine iteF ⟨_, rfl, _, rfl, b, C, dx, _, _, rfl, h1, B.cl, B.nS, bookF_struck _ _, s', _, rfl, DGet.k (k := Sum.inl (i : Int)) h4, _, rfl, ?_⟩
      rw [h6 i, hso]
      obtain ⟨x, hx, hdx⟩ := da_get (i := i) (d := entD d) h3 (by rw [List.getElem?_map, hd]; rfl)
      obtain ⟨a0, xs0, rfl, ht0⟩ := ent_any hdx
      refine iteF ⟨_, rfl, b, C, dx, _, _, rfl, h1, B.cl, B.nR, bookF_rows _ _, _, rfl, r, rows, _, .ref a0, rfl, rfl, SqL.of h2, atI_nat hx, a0, _, _, _, rfl, rfl, ht0, at0, rfl, _, rfl, ?_⟩
      exact ifF (kind_no hds) (q H (Same.refl H))
end
end K14

set_option Elab.async false
set_option maxRecDepth 100000
set_option maxHeartbeats 4000000
/-! books: enter, __init__, book_of -/
namespace K14
open PySem PySem.Spec PyProof.Rows L2
open C8 (Cal Met Mak pe_c pe_mk pe_mt pe_mt0 pss_cut)
theorem struckOn_snoc (es : List Ent) (e : Ent) (i : Nat) : struckOn (es ++ [e]) i = (struckOn es i).or (match e with
    | .strike c j => if j = i then some c else none
    | _ => none) := by
  unfold struckOn
  rw [List.findSome?_append]
  congr 1
  cases e with
  | strike c j => by_cases h : j = i <;> simp [List.findSome?, h]
  | report _ _ _ _ _ _ => rfl
  | enact _ _ _ _ _ => rfl
theorem struckOn_other {es : List Ent} {e : Ent} (h : e.isStrike = false) (i : Nat) : struckOn (es ++ [e]) i = struckOn es i := by
  rw [struckOn_snoc]
  cases e with
  | strike c j => cases h
  | report _ _ _ _ _ _ => simp
  | enact _ _ _ _ _ => simp
theorem struckOn_strike {es : List Ent} {c : Int} {j : Nat} (h : struckOn es j = none) (i : Nat) : struckOn (es ++ [.strike c j]) i = if i = j then some c else struckOn es i := by
  rw [struckOn_snoc]
  show (struckOn es i).or (if j = i then some c else none) = _
  by_cases e : i = j
  · subst e
    rw [h, if_pos rfl]
    simp
  · rw [if_neg e, if_neg (fun z => e z.symm)]
    simp
theorem bookOk_fits {es : List Ent} (h : BookOk es) : ∀ {i : Nat} {e : Ent}, es[i]? = some e → Fits (es.take i) e := by
  induction h with
  | nil => intro i e he; simp at he
  | @snoc es d hb hf ih =>
    intro i e he
    by_cases hi : i < es.length
    · rw [List.getElem?_append_left hi] at he
      rw [List.take_append_of_le_length (Nat.le_of_lt hi)]
      exact ih he
    · have hl : i < (es ++ [d]).length := (List.getElem?_eq_some_iff.mp he).1
      rw [List.length_append, List.length_singleton] at hl
      have ei : i = es.length := by omega
      subst ei
      have ed : d = e := by simpa using he
      subst ed
      rw [List.take_append_of_le_length (Nat.le_refl _), List.take_length]
      exact hf
theorem bookOk_es {es : List Ent} (h : BookOk es) : EsOk es := by
  induction h with
  | nil => intro e he; cases he
  | snoc hb hf ih =>
    intro e he
    rcases List.mem_append.mp he with he | he
    · exact ih e he
    · rw [List.mem_singleton.mp he]
      exact hf.1
theorem ents_tup : ∀ es : List Ent, tupD.tupDs (es.map entD) = true
  | [] => rfl
  | e :: r => by
    show (tupD (entD e) && tupD.tupDs (r.map entD)) = true
    rw [ent_tup, ents_tup r]
    rfl
section
variable {P : Program} {w : World} {K : PySem.W.Frag} {mg : Str → Option Value} {base : Heap} {C : Addr}
abbrev sEnter : Stmt := inClass (top 34) 2
def spEnter (K : PySem.W.Frag) (C : Addr) : Sp := fun vs H Q _ => ∃ (b r s : Addr) (es : List Ent) (v : V) (e : Ent), vs = [.ref b, v] ∧ BookAt K C H b r s es ∧ Fits es e ∧ es.length < 100 ∧ Dp K H v (entD e) ∧
  ∀ H', BookAt K C H' b r s (es ++ [e]) → (∀ a o, a ≠ r → a ≠ s → H a = some o → H' a = some o) → Q .non H'
theorem scEnter : FnScope ["self", "entry"] ["self", "entry"] (defScope sEnter) := ⟨rfl, rfl, rfl, by decide +kernel, rfl, by decide +kernel, by decide +kernel⟩
theorem m_enter (G : Mf K C "enter" "Book.enter" sEnter ["self", "entry"]) (B : BookC K C) (mC : Met P w K mg base 13 C "_check" (spCheck K C) []) : Met P w K mg base 14 C "enter" (spEnter K C) [] := by
  refine G.met scEnter (fun vs H Q E h => ?_) (fun f cdv A outer s H vs Q E hr h => ?_)
  · obtain ⟨b, r, s', es, v, e, rfl, _⟩ := h
    rfl
  · obtain ⟨b, r, s', es, v, e, rfl, BA, F, hlen, hv, q⟩ := h
    have hu := hu_of hr
    refine ⟨_, pss_cons (ps_expr (pe_mt mC hr (by decide) (pv 0) (pa_cons (pv 1) pa_nil)))
      (pss_cut (ps_if (pt_cmpR op_eq (pe_ix ix_tup (pv 1) pe_int (fun _ _ => rfl)) pe_str (nomark _))
        (pss_one (ps_dput hu (pe_fld (pv 0) rfl) (pe_ix ix_tup (pv 1) pe_int (fun _ _ => rfl)) (pe_ix ix_tup (pv 1) pe_int (fun _ _ => rfl)) rfl)) pss_nil)
      (pss_one (ps_expr (pe_bm PySem.F.plainAttrs_list PySem.F.slot_list_append PySem.F.type_list_append mt_append (pe_fld (pv 0) rfl) (pa_cons (pv 1) pa_nil))))), ?_⟩
    obtain ⟨dx, h1⟩ := BA.ob
    refine ⟨_, rfl, b, dx, _, rfl, h1, bookF_no _ _ (by decide +kernel) (by decide +kernel), _, rfl, b, r, s', es, v, e, rfl, BA, F, hlen, hv, fun H1 s1 => ?_⟩
    have B1 := BA.same s1
    obtain ⟨⟨dx1, g1⟩, ⟨rows, g2, g3⟩, kvs, g4, g5, g6⟩ := B1
    have hv1 := dp_same s1 hv
    obtain ⟨a, xs, rfl, ht⟩ := ent_any hv1
    have nbr : b ≠ r := ne_of g1 g2 (by intro z; cases z)
    have nbs : b ≠ s' := ne_of g1 g4 (by intro z; cases z)
    have nrs : r ≠ s' := ne_of g2 g4 (by intro z; cases z)
    refine ⟨fun σ H2 => σ = [some (.ref b), some (.ref a)] ∧ (∀ c o, c ≠ s' → H1 c = some o → H2 c = some o) ∧ ∃ kvs2, H2 s' = some (.dK kvs2) ∧ kvs2.length ≤ es.length + 1 ∧ ∀ i : Nat, valV kvs2 (Sum.inl (i : Int) : Key) = (struckOn (es ++ [e]) i).map V.int, ?_, ?_⟩
    · refine ⟨_, rfl, a, _, _, _, rfl, rfl, ht, at0, rfl, _, rfl, ?_⟩
      by_cases hs : e.isStrike = true
      · cases e with
        | strike c j =>
          obtain ⟨a', ea, ht'⟩ := ent_strike hv1
          have ea' := V.ref.inj ea
          subst ea'
          have hso := (F.2.2 c j rfl).2
          refine ifT rfl ⟨_, rfl, a, _, _, _, rfl, rfl, ht', at1, _, rfl, b, C, dx1, _, _, rfl, g1, B.cl, B.nS, bookF_struck _ _, _, rfl, a, _, _, _, rfl, rfl, ht', at2, s', _, rfl, DPut.k (k := Sum.inl (j : Int)) g4 (small1000 (by omega)), ?_⟩
          refine ⟨rfl, fun c0 o n z => by rw [upd_ne n]; exact z, _, upd_same, ?_, fun i => ?_⟩
          · have hn : valV kvs (Sum.inl (j : Int) : Key) = none := by rw [g6 j, hso]; rfl
            rw [putK_new _ hn, List.length_append, List.length_singleton]
            omega
          · rw [valV_put, struckOn_strike hso, g6 i]
            by_cases ei : i = j
            · subst ei
              rw [if_pos rfl, if_pos rfl]
              rfl
            · rw [if_neg ei, if_neg]
              intro z
              have z2 := Sum.inl.inj z
              omega
        | report _ _ _ _ _ _ => cases hs
        | enact _ _ _ _ _ => cases hs
      · have hs' : e.isStrike = false := by simpa using hs
        refine ifF (kind_no hs') ⟨rfl, fun _ _ _ z => z, kvs, g4, by omega, fun i => ?_⟩
        rw [g6 i, struckOn_other hs']
    · rintro σ H2 ⟨rfl, keep, kvs2, k1, k2, k3⟩
      have e1 : H2 b = some (.ins C dx1 (bookF r s')) := keep _ _ nbs g1
      have e2 : H2 r = some (.lst rows) := keep _ _ nrs g2
      have el : rows.length = es.length := by rw [da_length g3, List.length_map]
      refine ⟨_, rfl, b, C, dx1, _, _, rfl, e1, B.cl, B.nR, bookF_rows _ _, .inl ⟨rfl, _, SqL.of e2⟩, _, rfl, r, rows, _, rfl, rfl, e2, small1000 (by omega), ?_⟩
      have hT : ∀ c ys, SqT K H1 c ys → SqT K (upd H2 r (.lst (rows ++ [.ref a]))) c ys := fun a0 xs0 z => by
        have tt : ∀ c o, (∃ ys, o = HO.tup ys) ∨ (∃ u y, o = HO.frz u y) → H1 c = some o → upd H2 r (.lst (rows ++ [.ref a])) c = some o := fun c o ho hc => by
          have n1 : c ≠ r := fun z => by
            rw [z, g2] at hc
            rcases ho with ⟨ys, rfl⟩ | ⟨u, y, rfl⟩ <;> cases hc
          have n2 : c ≠ s' := fun z => by
            rw [z, g4] at hc
            rcases ho with ⟨ys, rfl⟩ | ⟨u, y, rfl⟩ <;> cases hc
          rw [upd_ne n1]
          exact keep _ _ n2 hc
        rcases z with (z | ⟨o, z⟩) | z
        · exact .inl (.inl (tt _ _ (.inl ⟨_, rfl⟩) z))
        · exact .inl (.inr ⟨o, tt _ _ (.inr ⟨_, _, rfl⟩) z⟩)
        · exact .inr z
      refine q _ ⟨⟨dx1, by rw [upd_ne nbr]; exact e1⟩, ⟨_, upd_same, ?_⟩, kvs2, by rw [upd_ne nrs.symm]; exact k1, by rw [List.length_append, List.length_singleton]; exact k2, k3⟩ fun c o n1 n2 z => ?_
      · rw [List.map_append]
        exact da_snoc (dp_tup hT _ _ (ent_tup e) hv1) (dpAll_tup hT _ _ (ents_tup es) g3)
      · rw [upd_ne n1]
        exact keep _ _ n2 (s1 _ _ z)
abbrev sBInit : Stmt := inClass (top 34) 0
def spBInit (K : PySem.W.Frag) (C : Addr) : Sp := fun vs H Q _ => ∃ (p dx : Addr), vs = [.ref p] ∧ H p = some (.ins C dx []) ∧ ∀ r s H', H r = none → H s = none → BookAt K C H' p r s [] → (∀ b o, H b = some o → b ≠ p → H' b = some o) → Q .non H'
theorem scBInit : FnScope ["self"] ["self"] (defScope sBInit) := ⟨rfl, rfl, rfl, by decide +kernel, rfl, by decide +kernel, by decide +kernel⟩
theorem k_book_init (G : If K mg "Book" C "Book.__init__" sBInit ["self"]) (B : BookC K C) : Mak P w K mg base 1 "Book" C (spBInit K C) [] := by
  refine G.mak scBInit (fun vs H Q E h => ?_) (fun f cdv A outer s H vs Q E hr h => ?_)
  · obtain ⟨p, dx, rfl, _⟩ := h
    rfl
  · obtain ⟨p, dx, rfl, hp, k⟩ := h
    refine ⟨_, pss_cons (ps_fld (pv 0) (pe_lst pa_nil) rfl) (pss_one (ps_fld (pv 0) pe_dnewK rfl)), ?_⟩
    refine ⟨Nat.zero_le _, fun l hl => ?_⟩
    have npl : p ≠ l := ne_of_none hp hl
    refine ⟨_, rfl, p, C, dx, [], rfl, (by rw [upd_ne npl]; exact hp), B.cl, B.nR, (by show 0 < 1000; decide), ?_⟩
    intro d hd
    have ndp : d ≠ p := fun e => by
      rw [e, upd_same] at hd
      cases hd
    rw [upd_ne ndp] at hd
    have ndl : d ≠ l := fun e => by
      rw [e, upd_same] at hd
      cases hd
    rw [upd_ne ndl] at hd
    refine ⟨_, rfl, p, C, dx, _, rfl, Eq.trans (upd_ne ndp.symm) upd_same, B.cl, B.nS, (by show 1 < 1000; decide), ?_⟩
    refine k l d _ hl hd ⟨⟨dx, upd_same⟩, ⟨[], ?_, .nil⟩, [], ?_, Nat.le_refl _, fun i => rfl⟩ fun b o e hb => ?_
    · rw [upd_ne npl.symm, upd_ne ndl.symm, upd_ne npl.symm, upd_same]
    · rw [upd_ne ndp, upd_same]
    · rw [upd_ne hb, upd_ne (ne_of_none e hd), upd_ne hb, upd_ne (ne_of_none e hl)]
      exact e
def spBookOf (K : PySem.W.Frag) (C : Addr) : Sp := fun vs H Q _ => ∃ (l : Addr) (xs : List V) (es : List Ent), vs = [.ref l] ∧ SqL K H l xs ∧ DpAll K H xs (es.map entD) ∧ BookOk es ∧ es.length ≤ 100 ∧
  ∀ b r s H', Same H H' → BookAt K C H' b r s es → Q (.ref b) H'
theorem scBookOf : FnScope ["entries", "book", "entry"] ["entries"] (defScope (top 40)) := ⟨rfl, rfl, rfl, by decide +kernel, rfl, by decide +kernel, by decide +kernel⟩
theorem c_book_of (G : Gf K mg "book_of" (top 40) ["entries"]) (kB : Mak P w K mg base 1 "Book" C (spBInit K C) []) (mE : Met P w K mg base 14 C "enter" (spEnter K C) []) : Cal P w K mg base 15 "book_of" (spBookOf K C) [] := by
  refine G.cal scBookOf (fun vs H Q E h => ?_) (fun f cdv A outer s H vs Q E hr h => ?_)
  · obtain ⟨l, xs, es, rfl, _⟩ := h
    rfl
  · obtain ⟨l, xs, es, rfl, hl, hd, hb, hlen, q⟩ := h
    refine ⟨_, pss_cons (ps_set (i := 1) scBookOf.nd rfl (.inl rfl) (pe_mk0 kB hr (by decide) rfl))
      (pss_cons (ps_for PassesOwn.never rfl (pi_list (pv 0)) (pg_name (i := 2) scBookOf.nd rfl (.inl rfl)) (pss_one (ps_expr (pe_mt mE hr (by decide) (pv 1) (pa_cons (pv 2) pa_nil)))))
      (pss_one (ps_ret (pv 1)))), ?_⟩
    intro x dx nx ndx nex
    refine ⟨x, dx, rfl, upd_same, fun r s' H1 nr ns BA keep => ⟨rfl, ?_⟩⟩
    have s0 : Same H (upd (upd H dx (.own x)) x (.ins C dx [])) := same_made (K := K) nx ndx []
    have s1 : Same H H1 := fun b o e => keep b o (s0 b o e) (ne_of_none e nx)
    have r0 : H r = none := s0.free nr
    have s00 : H s' = none := s0.free ns
    have ex : xs.length = es.length := by rw [da_length hd, List.length_map]
    refine ⟨_, rfl, l, rfl, ⟨_, s1.seq hl⟩, for_it (walk_list (K := K) (xs := xs)) (fun i σ H' => ∃ v2 : Option V, σ = [some (.ref l), some (.ref x), v2] ∧ Same H H' ∧ BookAt K C H' x r s' (es.take i))
      ⟨none, rfl, s1, BA⟩ (fun i σ H' _ h => by obtain ⟨_, _, s2, _⟩ := h; exact s2.seq hl) ?_ ?_⟩
    · rintro i y σ H2 H3 hi ⟨v2, rfl, s2, B2⟩ ⟨rfl, hy⟩
      have hi' : i < es.length := by omega
      have he : es[i]? = some es[i] := List.getElem?_eq_getElem hi'
      obtain ⟨d, hdd, hyd⟩ := da_get2 hd hy
      rw [List.getElem?_map, he] at hdd
      have ed : entD es[i] = d := Option.some.inj hdd
      subst ed
      obtain ⟨dx2, g1⟩ := B2.ob
      refine ⟨_, rfl, x, dx2, _, rfl, g1, bookF_no _ _ (by decide +kernel) (by decide +kernel), _, rfl, x, r, s', es.take i, y, es[i], rfl, B2, bookOk_fits hb he, ?_, dp_same s2 hyd, fun H4 B4 keep4 => ?_⟩
      · rw [List.length_take]
        omega
      · refine ⟨some y, rfl, fun a o e => keep4 a o (ne_of_none e r0) (ne_of_none e s00) (s2 a o e), ?_⟩
        rw [List.take_add_one, he]
        exact B4
    · rintro σ H2 ⟨v2, rfl, s2, B2⟩
      rw [ex, List.take_length] at B2
      exact ⟨_, rfl, q x r s' H2 s2 B2⟩
end
end K14

set_option Elab.async false
set_option maxRecDepth 100000
set_option maxHeartbeats 4000000
/-! the class Stop: an own class over Exception itself, with an __init__ that stores two fields. The layer has this for classes over ValueError; here the same road for Exception -/
namespace K14
open PySem PySem.Spec PyProof.Rows L2
open C8 (Cal Met Mak pe_c pe_mk pe_mt pe_mt0 pss_cut)
/-- what the written part says of the class -/
structure StopC (K : PySem.W.Frag) (C : Addr) : Prop where
  cls : ∃ nm q N bs sn sub ab col dd k0 k1 k2 k3 k5, K.lookup C = some (excClassObj nm q C N bs PySem.ESX.exTail true sn sub ab col dd k0 k1 k2 k3 k5 "Exception.__new__")
  setA : PySem.W.findIn K (.ref C) "__setattr__" = some (some (.builtin "object.__setattr__"))
  subB : PySem.W.subIn K (.ref C) (.type "BaseException") = some true
  tyT : PySem.W.typeIn K (.ref C) = some (.type "type")
  kept : PySem.W.keepIn K (.ref C) = true
section
variable {X : Cx} {pins : List (Addr × Obj)} {σ : L2.St} {H : Hp} {s : Shared} {a C dx : Addr} {f : Str} {y : V} {u : Value} {fs : List (Str × V)} {Q : Unit → Shared → Prop} {E : Value → Shared → Prop} {A : Around}
/-- the first field is stored: the exception gets its dict -/
theorem sto_first (T : StopC X.K C) (I : Inv X pins σ H s) (e : H a = some (exo a C none)) (free : PySem.W.findIn X.K (.ref C) f = some none) (ry : RelV y u)
    (go : ∀ dx s', H dx = none → dx ≠ a → Inv X pins σ (upd (upd H dx (exd dx [(f, y)])) a (exo a C (some dx))) s' → Q () s') : wpAny (model X.prog X.w) A (setAttr (.ref a) f u) Q E s := by
  obtain ⟨nm, q, N, bs, sn, sub, ab, col, dd, k0, k1, k2, k3, k5, hC⟩ := T.cls
  have hcl : PySem.W.clsIn X.K C = some { name := nm, bases := bs, mro := .ref C :: PySem.ESX.exTail, ns := N, qualname := q, hasDict := true, slotNames := sn, subclasses := sub, abstract := ab, collection := col, hasDel := false } := by
    unfold PySem.W.clsIn
    rw [hC] <;> rfl
  obtain ⟨t1, ho⟩ := exo_at I.hok e
  obtain ⟨hp, g, d, t, os⟩ := s
  refine PySem.W.set_plain I.kIn (ox := { cls := .ref C, dict := none, data := .fields #[.ref t1, .none, .none, .none, .bool false, .none] }) (od := none) ⟨ho, rfl, rfl, trivial⟩ T.setA ?_
  refine PySem.ESX.osa_new I.kIn ho hcl rfl rfl free fun h' tk' dx kp dn dne hx hn => ?_
  have hnd : H dx = none := I.hok.fresh dn
  have nd : ∀ {b : Addr} {o : Obj}, hp.get? b = some o → b ≠ dx := fun {b o} z => Nat.ne_of_lt (Nat.lt_of_lt_of_le (Heap.lt_size z) dn)
  have na : ∀ {b : Addr}, H b = none → b ≠ a := fun {b} n z => by
    rw [z, e] at n
    cases n
  have U : Un X.fs [] H (upd (upd H dx (exd dx [(f, y)])) a (exo a C (some dx))) hp h' :=
    ⟨fun b o z n _ _ => kp b o (na n) z, fun b o z n _ _ => ⟨o.slots, kp b o (na n) z⟩, fun b o z n _ => by rw [upd_ne (na n), upd_ne (nd z)]; exact n,
      fun b o z _ => by
        by_cases hb : b = a
        · exact ⟨_, by rw [hb]; exact hx⟩
        · exact ⟨o, kp b o hb z⟩,
      fun b xs z => by rw [upd_ne (at_ne e z exo_tup), upd_ne (ne_of_none z hnd)]; exact z, fun b o v z => by rw [upd_ne (at_ne e z exo_frz), upd_ne (ne_of_none z hnd)]; exact z,
      fun b ps z => ⟨#[], by rw [upd_ne (at_ne e z exo_tbl), upd_ne (ne_of_none z hnd), z]; simp⟩⟩
  refine go dx _ hnd dne (I.un (t' := tk') U fun b o z => ?_)
  by_cases hb : b = a
  · subst hb
    rw [upd_same] at z
    cases z
    exact exo_ok hx
  rw [upd_ne hb] at z
  by_cases hd : b = dx
  · subst hd
    rw [upd_same] at z
    cases z
    exact exd_ok hn (relO_put (fs := []) ry fun g => True.intro)
  rw [upd_ne hd] at z
  refine (I.hok b o z).stay (fun c v hc z2 => kp c v ?_ z2) (fun c hc => ?_) fun c xs hc => ?_
  · rcases hc with hc | hc
    · rw [hc]
      exact hb
    · exact at_ne e hc exo_own
  · rw [upd_ne (at_ne e hc exo_own), upd_ne (ne_of_none hc hnd)]
    exact hc
  · rw [upd_ne (at_ne e hc exo_tup), upd_ne (ne_of_none hc hnd)]
    exact hc
/-- a further field -/
theorem sto_more (T : StopC X.K C) (I : Inv X pins σ H s) (e : H a = some (exo a C (some dx))) (ed : H dx = some (exd dx fs)) (hl : fs.length ≤ 900) (free : PySem.W.findIn X.K (.ref C) f = some none) (ry : RelV y u)
    (go : ∀ s', Inv X pins σ (upd H dx (exd dx ((f, y) :: fs))) s' → Q () s') : wpAny (model X.prog X.w) A (setAttr (.ref a) f u) Q E s := by
  obtain ⟨nm, q, N, bs, sn, sub, ab, col, dd, k0, k1, k2, k3, k5, hC⟩ := T.cls
  have hcl : PySem.W.clsIn X.K C = some { name := nm, bases := bs, mro := .ref C :: PySem.ESX.exTail, ns := N, qualname := q, hasDict := true, slotNames := sn, subclasses := sub, abstract := ab, collection := col, hasDel := false } := by
    unfold PySem.W.clsIn
    rw [hC] <;> rfl
  obtain ⟨t1, ho⟩ := exo_at I.hok e
  obtain ⟨mA, hns, rel⟩ := exd_at I.hok ed
  have hw := within_of rel
  obtain ⟨hp, g, d, t, os⟩ := s
  obtain ⟨oD, _, _, hoD, _, _⟩ := hns.count hw
  refine PySem.W.set_plain I.kIn (ox := { cls := .ref C, dict := some dx, data := .fields #[.ref t1, .none, .none, .none, .bool false, .none] }) (od := some oD) ⟨ho, rfl, rfl, hoD⟩ T.setA ?_
  refine PySem.ESX.osa_old I.kIn ho hns hw (by rw [List.length_map]; omega) hcl rfl rfl free fun h' tk' kp hn => ?_
  obtain ⟨o2, es2, ep2, e2, r2⟩ := id hn
  exact go _ (I.write (t' := tk') (x := dx) (e := dx) (o := exd dx ((f, y) :: fs)) (by rw [ed]; exact True.intro) (.inl rfl) kp ⟨o2, e2⟩ (exd_ok hn (relO_put ry rel)))
end
/-- self.f = e, self an exception that is being made -/
def tSto (K : PySem.W.Frag) (f : Str) (to te : TE) : TS := fun D σ H => te σ H fun y H1 => to σ H1 fun x H2 => ∃ a C : Addr, x = .ref a ∧ StopC K C ∧ PySem.W.findIn K (.ref C) f = some none ∧
  ((H2 a = some (exo a C none) ∧ ∀ dx, H2 dx = none → dx ≠ a → D.nx σ (upd (upd H2 dx (exd dx [(f, y)])) a (exo a C (some dx)))) ∨
    ∃ (dx : Addr) (fs : List (Str × V)), H2 a = some (exo a C (some dx)) ∧ H2 dx = some (exd dx fs) ∧ fs.length ≤ 900 ∧ D.nx σ (upd H2 dx (exd dx ((f, y) :: fs))))
section
variable {X : Cx} {o e : Expr} {es : List Expr} {to te : TE} {ta : TA} {f : Str} {p p' pos : Pos}
theorem ps_sto (ho : PE X o to) (he : PE X e te) (hs : swapsWith e (some (.Attribute o f p')) pos.line X.env = pure false := by rfl) : PS X (.Assign [.Attribute o f p'] e pos) (tSto X.K f to te) := by
  refine ⟨fun pins s σ H D I h => ?_⟩
  refine plainObj_wpAny_Assign_Attribute (thn (he.run pins s σ H _ I h) fun v s1 ⟨y, H1, I1, r1, q1⟩ => thn (ho.run pins s1 σ H1 _ I1 q1) fun u s2 ⟨x, H2, I2, r2, a, C, ex, T, free, q⟩ => ?_) hs
  subst ex
  obtain rfl : u = Value.ref a := r2
  rcases q with ⟨ea, q⟩ | ⟨dx, fs, ea, ed, hl, q⟩
  · exact sto_first T I2 ea free r1 fun dx s' n ne J => ⟨σ, _, J, q dx n ne⟩
  · exact sto_more T I2 ea ed hl free r1 fun s' J => ⟨σ, _, J, q⟩
/-- C(e, ..) raised: what its __init__ promises, then the exception is let go; its dict stays -/
theorem pmk_stop {CXI : CXT} {x : Str} {C fI : Addr} {k : Nat} {fd : FuncData} {ps : List Str} {sp : Sp} (T : StopC X.K C) (iC : PySem.W.findIn X.K (.ref C) "__init__" = some (some (.ref fI))) (tI : PySem.W.typeIn X.K (.ref fI) = some (.type "function"))
    (F1 : FnOk X.prog X.w X.K X.mg X.base CXI k fI fd ps sp) (hr : Room (k + 1) X.A) (hb : Binds X.K fd ps []) (hx : Passes CXI X (fun _ _ _ => False)) (hg : Gl X x) (hm : X.mg x = some (.ref C)) (ha : PA X (e :: es) ta)
    (hdb : (x == ("__debug__" : Str)) = false := by decide) (he : starEach (e :: es) X.env = (false, eval e X.env) :: starEach es X.env := by rfl) (hpl : (backTo pos (starEach es X.env)).any (·.1) = false := by rfl) :
    PMk X (.Call (.Name x p) (e :: es) [] pos) (tMkO C sp [] ta) := by
  intro pins s σ H Q I h
  obtain ⟨nm, q, N, bs, sn, sub, ab, col, dd, k0, k1, k2, k3, k5, hC⟩ := T.cls
  refine wpAny_Call_Name_kw (ld_glob I hg hm ?_ hdb)
  refine PySem.W.callWith_K (h₀ := X.base) I.ok.mod.kin T.kept (thn (ha.run pos pins s σ H _ I h) fun us s1 ⟨vs, H1, I1, r1, hz, q1⟩ => ⟨I1.kIn, ?_⟩) he hpl
  show wpAny _ _ (call (.ref C) us) _ _ _
  obtain ⟨hp, g, dr, tk, os⟩ := s1
  have hsz : hp.objs.size ≤ hp.objs.size + 1 := Nat.le_succ _
  have hn : H1 (hp.objs.size + 1) = none := I1.hok.fresh hsz
  have hq := q1 (hp.objs.size + 1) hn
  rw [List.append_nil] at hq
  have kk : ∀ b o, hp.get? b = some o → ((hp.push (PySem.W.kdv_tup us)).push (PySem.HandSPX.excO C hp.objs.size)).get? b = some o := fun b o e => Heap.get?_push_of_some _ (Heap.get?_push_of_some _ e)
  have hget : ((hp.push (PySem.W.kdv_tup us)).push (PySem.HandSPX.excO C hp.objs.size)).get? (hp.objs.size + 1) = some (PySem.HandSPX.excO C hp.objs.size) := by heap_get
  have I2 : Inv X pins σ (upd H1 (hp.objs.size + 1) (exo (hp.objs.size + 1) C none)) ⟨(hp.push (PySem.W.kdv_tup us)).push (PySem.HandSPX.excO C hp.objs.size), g, dr, tk, os⟩ :=
    I1.laid (t' := tk) (a := hp.objs.size + 1) (o := exo (hp.objs.size + 1) C none) (h' := (hp.push (PySem.W.kdv_tup us)).push (PySem.HandSPX.excO C hp.objs.size)) kk hsz (exo_ok hget)
  have r2 : Vals (V.ref (hp.objs.size + 1) :: vs) (Value.ref (hp.objs.size + 1) :: us) := .cons rfl r1
  have hl : (Value.ref (hp.objs.size + 1) :: us ++ []).length = ps.length := by
    rw [List.append_nil, ← r2.length]
    exact F1.len _ _ _ _ hq
  have hus : us.length ≤ sizeLine := by
    rw [← Paired.length r1, sizeLine_eq]
    omega
  have hbn := hb ⟨(hp.push (PySem.W.kdv_tup us)).push (PySem.HandSPX.excO C hp.objs.size), g, dr, tk, os⟩ (Value.ref (hp.objs.size + 1) :: us) I2.kIn hl
  rw [List.append_nil] at hbn
  refine wpAny_call (PySem.HandSPX.call_own F.excBase_Exception (fun Y => rfl) (I1.kIn _ _ hC) (PySem.W.looks_findIn I1.kIn iC) (fun self => PySem.W.bind_fn I1.kIn self tI) hus
    (codeAny_mono (F1.run _ X.stack _ _ ⟨Value.ref (hp.objs.size + 1) :: us, []⟩ (Value.ref (hp.objs.size + 1) :: us) _ _ (fun _ _ _ => False) (hr.make C us []) (I2.env0.make C us []) hbn r2 hq) fun r s' hq' => ?_))
  cases r with
  | error er => exact hx pins σ _ _ er s' I2 hq'
  | ok fl =>
    cases fl with
    | ret u =>
      obtain ⟨v, H2, os2, bare2, un2, hok2, rv, ev, d, fs, ea, ed, hd1, q2⟩ := hq'
      subst ev
      obtain ⟨h2, g2, d2, t2, os'⟩ := s'
      exact ⟨rv, mk_end (raises_own T.subB T.tyT) I1 hsz kk un2 hok2 os2 bare2 ea ed hd1 q2⟩
    | next => exact False.elim hq'
    | brk => exact False.elim hq'
    | cont => exact False.elim hq'
end
end K14

set_option Elab.async false
set_option maxRecDepth 100000
set_option maxHeartbeats 4000000
/-! decisions as plain functions -/
namespace K14
open PySem L2
/-- what a reading comes to: a value, or a stop; with the number of look-ups -/
inductive Res (α : Type) where
  | ok (v : α) (n : Nat)
  | stop (k x : Str) (n : Nat)
def Res.bind {α β : Type} (r : Res α) (f : α → Nat → Res β) : Res β := match r with
  | .ok v n => f v n
  | .stop k x n => .stop k x n
/-- what is found: a fact's value, a rule's amount -/
structure Lk where
  fact : Str → Option Int
  rule : Str → Option Nd
def bnd (last : Str) (v : Int) (n : Nat) : Res Int := if 1000000000000000 < (if v < 0 then -v else v) then .stop "large" last n else .ok v n
def opM (last : Str) : Op5 → Int → Int → Nat → Res Int
  | .plus, u, v, n => bnd last (u + v) n
  | .minus, u, v, n => bnd last (u - v) n
  | .times, u, v, n => bnd last (u * v) n
  | .least, u, v, n => .ok (if v < u then v else u) n
  | .most, u, v, n => .ok (if v > u then v else u) n
def cmM : Cm → Int → Int → Bool
  | .below, u, v => decide (u < v)
  | .same, u, v => decide (u = v)
mutual
def rdA (L : Lk) (rr : Str → Nat → Res Int) (last : Str) : Nd → Nat → Res Int
  | .num m, n => .ok m n
  | .fact x, n => if n = 100 then .stop "long" x n else match L.fact x with
    | some v => .ok v (n + 1)
    | none => .stop "missing" x (n + 1)
  | .factOr x p, n => if n = 100 then .stop "long" x n else match L.fact x with
    | some v => .ok v (n + 1)
    | none => rdA L rr last p (n + 1)
  | .due x, n => rr x n
  | .pct m p, n => (rdA L rr last p n).bind fun v n => bnd last (m * v / 100) n
  | .ite c a b, n => (rdC L rr last c n).bind fun t n => if t = true then rdA L rr last a n else rdA L rr last b n
  | .op k a b, n => (rdA L rr last a n).bind fun u n => (rdA L rr last b n).bind fun v n => opM last k u v n
  | .known _, n => .ok 0 n
  | .neg _, n => .ok 0 n
  | .jn _ _ _, n => .ok 0 n
  | .cmp _ _ _, n => .ok 0 n
def rdC (L : Lk) (rr : Str → Nat → Res Int) (last : Str) : Nd → Nat → Res Bool
  | .known x, n => if n = 100 then .stop "long" x n else .ok (L.fact x).isSome (n + 1)
  | .neg c, n => (rdC L rr last c n).bind fun t n => .ok (!t) n
  | .jn .both a b, n => (rdC L rr last a n).bind fun t n => if t = true then rdC L rr last b n else .ok false n
  | .jn .either a b, n => (rdC L rr last a n).bind fun t n => if t = true then .ok true n else rdC L rr last b n
  | .cmp k a b, n => (rdA L rr last a n).bind fun u n => (rdA L rr last b n).bind fun v n => .ok (cmM k u v) n
  | .num _, n => .ok false n
  | .fact _, n => .ok false n
  | .factOr _ _, n => .ok false n
  | .due _, n => .ok false n
  | .pct _ _, n => .ok false n
  | .ite _ _ _, n => .ok false n
  | .op _ _ _, n => .ok false n
end
/-- a rule, d more of them may be opened -/
def rdR (L : Lk) : Nat → List Str → Str → Nat → Res Int
  | 0, opn, x, n => if x ∈ opn then .stop "circle" x n else .stop "deep" x n
  | d + 1, opn, x, n => if x ∈ opn then .stop "circle" x n else if n = 100 then .stop "long" x n else match L.rule x with
    | none => .stop "none" x (n + 1)
    | some p => rdA L (rdR L d (opn ++ [x])) x p (n + 1)
/-! what a decision is -/
inductive Dec where
  | amount (n : Int)
  | stop (k x : Str)
  deriving DecidableEq
def decD : Dec → PyData
  | .amount n => .tuple [.str "amount", .int n]
  | .stop k x => .tuple [.str k, .str x]
def decM (L : Lk) (x : Str) : Dec := match rdR L 6 [] x 0 with
  | .ok v _ => .amount v
  | .stop k y _ => .stop k y
/-- what the book has on a day, as known -/
def lkOf (es : List Ent) (ps : Str) (day known : Int) : Lk where
  fact f := (lastM es (.fact ps f) day known es.length).bind fun i => match es[i]? with
    | some (.report _ _ _ v _ _) => some v
    | _ => none
  rule r := (lastM es (.rule r) day known es.length).bind fun i => match es[i]? with
    | some (.enact _ _ p _ _) => some p
    | _ => none
theorem lastM_good {es : List Ent} {q : Qy} {day known : Int} : ∀ {m i : Nat}, lastM es q day known m = some i → i < m ∧ goodM es q day known i = true
  | 0, _, h => by cases h
  | m + 1, i, h => by
    have h' : (if goodM es q day known m = true then some m else lastM es q day known m) = some i := h
    by_cases c : goodM es q day known m = true
    · rw [if_pos c] at h'
      have e : m = i := Option.some.inj h'
      subst e
      exact ⟨Nat.lt_succ_self _, c⟩
    · rw [if_neg c] at h'
      have := lastM_good h'
      exact ⟨Nat.lt_succ_of_lt this.1, this.2⟩
theorem lastM_fact {es : List Ent} {p f : Str} {day known : Int} {i : Nat} (h : lastM es (.fact p f) day known es.length = some i) : ∃ c a b v z, es[i]? = some (.report c p f v a b) ∧ z = v ∧ (lkOf es p day known).fact f = some z := by
  have g := (lastM_good h).2
  unfold goodM at g
  cases e : es[i]? with
  | none => rw [e] at g; cases g
  | some en =>
    rw [e] at g
    have g1 : sel (.fact p f) en = true := (Bool.and_eq_true_iff.mp g).1
    cases en with
    | report c ps fc v a b =>
      have g2 : (decide (ps = p) && decide (fc = f)) = true := g1
      rw [Bool.and_eq_true, decide_eq_true_iff, decide_eq_true_iff] at g2
      obtain ⟨rfl, rfl⟩ := g2
      refine ⟨c, a, b, v, v, rfl, rfl, ?_⟩
      show (lastM es (.fact ps fc) day known es.length).bind _ = some v
      rw [h]
      show (match es[i]? with
        | some (.report _ _ _ v _ _) => some v
        | _ => none) = some v
      rw [e]
    | enact _ _ _ _ _ => cases g1
    | strike _ _ => cases g1
theorem lastM_fact_none {es : List Ent} {p f : Str} {day known : Int} (h : lastM es (.fact p f) day known es.length = none) : (lkOf es p day known).fact f = none := by
  show (lastM es (.fact p f) day known es.length).bind _ = none
  rw [h]
  rfl
theorem lastM_rule {es : List Ent} {r : Str} {day known : Int} {i : Nat} (ps : Str) (h : lastM es (.rule r) day known es.length = some i) : ∃ c a b p, es[i]? = some (.enact c r p a b) ∧ (lkOf es ps day known).rule r = some p := by
  have g := (lastM_good h).2
  unfold goodM at g
  cases e : es[i]? with
  | none => rw [e] at g; cases g
  | some en =>
    rw [e] at g
    have g1 : sel (.rule r) en = true := (Bool.and_eq_true_iff.mp g).1
    cases en with
    | enact c rl p a b =>
      have g2 : decide (rl = r) = true := g1
      have g3 := of_decide_eq_true g2
      subst g3
      refine ⟨c, a, b, p, rfl, ?_⟩
      show (lastM es (.rule rl) day known es.length).bind _ = some p
      rw [h]
      show (match es[i]? with
        | some (.enact _ _ p _ _) => some p
        | _ => none) = some p
      rw [e]
    | report _ _ _ _ _ _ => cases g1
    | strike _ _ => cases g1
theorem lastM_rule_none {es : List Ent} {r : Str} {day known : Int} (ps : Str) (h : lastM es (.rule r) day known es.length = none) : (lkOf es ps day known).rule r = none := by
  show (lastM es (.rule r) day known es.length).bind _ = none
  rw [h]
  rfl
/-! how large a value may be -/
def Small (v : Int) : Prop := -1000000000000000 ≤ v ∧ v ≤ 1000000000000000
theorem bnd_small {last : Str} {v z : Int} {n m : Nat} (h : bnd last v n = .ok z m) : z = v ∧ Small v := by
  unfold bnd at h
  by_cases c : 1000000000000000 < (if v < 0 then -v else v)
  · rw [if_pos c] at h
    cases h
  · rw [if_neg c] at h
    injection h with h1 h2
    subst h1
    refine ⟨rfl, ?_⟩
    unfold Small
    by_cases c2 : v < 0
    · rw [if_pos c2] at c
      omega
    · rw [if_neg c2] at c
      omega
theorem bind_ok {α β : Type} {r : Res α} {f : α → Nat → Res β} {z : β} {m : Nat} (h : r.bind f = .ok z m) : ∃ v n, r = .ok v n ∧ f v n = .ok z m := by
  cases r with
  | ok v n => exact ⟨v, n, rfl, h⟩
  | stop k x n => cases h
structure LkOk (L : Lk) : Prop where
  fact : ∀ x v, L.fact x = some v → -1000000000 < v ∧ v < 1000000000
  rule : ∀ x p, L.rule x = some p → ok true p ∧ hgt p ≤ 4 ∧ (wds p).length ≤ 40
theorem rdA_small {L : Lk} (hL : LkOk L) {rr : Str → Nat → Res Int} (hr : ∀ x n z m, rr x n = .ok z m → Small z) {last : Str} : ∀ {p : Nd}, ok true p → ∀ {n m : Nat} {z : Int}, rdA L rr last p n = .ok z m → Small z := by
  intro p
  induction p with
  | num k =>
    intro h n m z e
    have h' : -1000000000 < k ∧ k < 1000000000 := h
    injection e with e1 e2
    subst e1
    exact ⟨by omega, by omega⟩
  | fact x =>
    intro h n m z e
    simp only [rdA] at e
    split at e
    · cases e
    · split at e
      · rename_i v hv
        have := hL.fact x v hv
        injection e with e1 e2
        subst e1
        exact ⟨by omega, by omega⟩
      · cases e
  | factOr x p ih =>
    intro h n m z e
    simp only [rdA] at e
    split at e
    · cases e
    · split at e
      · rename_i v hv
        have := hL.fact x v hv
        injection e with e1 e2
        subst e1
        exact ⟨by omega, by omega⟩
      · exact ih h.2 e
  | due x =>
    intro h n m z e
    exact hr x n z m e
  | pct k p ih =>
    intro h n m z e
    simp only [rdA] at e
    obtain ⟨v, n1, e1, e2⟩ := bind_ok e
    have := bnd_small e2
    rw [this.1]
    exact this.2
  | ite c a b i1 i2 i3 =>
    intro h n m z e
    simp only [rdA] at e
    obtain ⟨t, n1, e1, e2⟩ := bind_ok e
    split at e2
    · exact i2 h.2.1 e2
    · exact i3 h.2.2 e2
  | op k a b i1 i2 =>
    intro h n m z e
    simp only [rdA] at e
    obtain ⟨u, n1, e1, e2⟩ := bind_ok e
    obtain ⟨v, n2, e3, e4⟩ := bind_ok e2
    have su := i1 h.1 e1
    have sv := i2 h.2 e3
    cases k with
    | plus => have := bnd_small e4; rw [this.1]; exact this.2
    | minus => have := bnd_small e4; rw [this.1]; exact this.2
    | times => have := bnd_small e4; rw [this.1]; exact this.2
    | least =>
      injection e4 with e5 e6
      rw [← e5]
      split <;> assumption
    | most =>
      injection e4 with e5 e6
      rw [← e5]
      split <;> assumption
  | known x => intro h; exact h.elim
  | neg c ih => intro h; exact h.elim
  | jn k a b i1 i2 => intro h; exact h.elim
  | cmp k a b i1 i2 => intro h; exact h.elim
theorem rdR_small {L : Lk} (hL : LkOk L) : ∀ (d : Nat) (opn : List Str) (x : Str) (n : Nat) (z : Int) (m : Nat), rdR L d opn x n = .ok z m → Small z
  | 0, opn, x, n, z, m, e => by
    simp only [rdR] at e
    split at e <;> cases e
  | d + 1, opn, x, n, z, m, e => by
    simp only [rdR] at e
    split at e
    · cases e
    · split at e
      · cases e
      · split at e
        · cases e
        · rename_i p hp
          exact rdA_small hL (rdR_small hL d (opn ++ [x])) (hL.rule x p hp).1 e
theorem lkOf_ok {es : List Ent} (h : EsOk es) (ps : Str) (day known : Int) : LkOk (lkOf es ps day known) := by
  refine ⟨fun f v hv => ?_, fun r p hp => ?_⟩
  · cases e : lastM es (.fact ps f) day known es.length with
    | none =>
      rw [lastM_fact_none e] at hv
      cases hv
    | some i =>
      obtain ⟨c, a, b, v1, z, h1, h2, h3⟩ := lastM_fact e
      rw [h3] at hv
      have e2 : z = v := Option.some.inj hv
      have := h _ (List.mem_of_getElem? h1)
      obtain ⟨_, _, _, hz, _⟩ := this
      omega
  · cases e : lastM es (.rule r) day known es.length with
    | none =>
      rw [lastM_rule_none ps e] at hp
      cases hp
    | some i =>
      obtain ⟨c, a, b, p1, h1, h2⟩ := lastM_rule ps e
      rw [h2] at hp
      have e2 : p1 = p := Option.some.inj hp
      subst e2
      exact (h _ (List.mem_of_getElem? h1)).2.2.1
/-! the day matters only through the spans -/
theorem goodM_day {es : List Ent} {q : Qy} {d1 d2 known : Int} (h : ∀ e ∈ es, e.isStrike = false → holdsM e d1 = holdsM e d2) (i : Nat) : goodM es q d1 known i = goodM es q d2 known i := by
  unfold goodM
  cases e : es[i]? with
  | none => rfl
  | some en =>
    have hm := List.mem_of_getElem? e
    cases en with
    | strike c j => cases q <;> rfl
    | report c ps fc v a b =>
      have := h _ hm rfl
      show (sel q _ && (_ && holdsM _ d1)) = (sel q _ && (_ && holdsM _ d2))
      rw [this]
    | enact c r p a b =>
      have := h _ hm rfl
      show (sel q _ && (_ && holdsM _ d1)) = (sel q _ && (_ && holdsM _ d2))
      rw [this]
theorem lastM_day {es : List Ent} {q : Qy} {d1 d2 known : Int} (h : ∀ e ∈ es, e.isStrike = false → holdsM e d1 = holdsM e d2) : ∀ m, lastM es q d1 known m = lastM es q d2 known m
  | 0 => rfl
  | m + 1 => by
    show (if goodM es q d1 known m = true then some m else lastM es q d1 known m) = (if goodM es q d2 known m = true then some m else lastM es q d2 known m)
    rw [goodM_day h, lastM_day h m]
theorem lkOf_day {es : List Ent} {ps : Str} {d1 d2 known : Int} (h : ∀ e ∈ es, e.isStrike = false → holdsM e d1 = holdsM e d2) : lkOf es ps d1 known = lkOf es ps d2 known := by
  unfold lkOf
  congr 1
  · funext f
    rw [lastM_day h]
  · funext r
    rw [lastM_day h]
end K14

set_option Elab.async false
set_option maxRecDepth 100000
set_option maxHeartbeats 4000000
/-! decisions: Stop, Finder, bounded -/
namespace K14
open PySem PySem.Spec PyProof.Rows L2
open C8 (Cal Met Mak pe_c pe_mk pe_mt pe_mt0 pss_cut)
/-! ### Stop -/
/-- d is the dict of an error that tells kind and name -/
def XdAt (H : Hp) (d : Addr) (k x : Str) : Prop := ∃ fs, H d = some (.xd fs) ∧ fs.lookup ("kind" : Str) = some (.str k) ∧ fs.lookup ("name" : Str) = some (.str x)
abbrev sStopInit : Stmt := inClass (top 45) 0
def spStopInit (C : Addr) : Sp := fun vs H Q _ => ∃ (a : Addr) (y z : V), vs = [.ref a, y, z] ∧ H a = some (exo a C none) ∧
  ∀ dx, H dx = none → dx ≠ a → Q .non (upd (upd (upd H dx (exd dx [("kind", y)])) a (exo a C (some dx))) dx (exd dx [("name", z), ("kind", y)]))
theorem scStopInit : FnScope ["self", "kind", "name"] ["self", "kind", "name"] (defScope sStopInit) := ⟨rfl, rfl, rfl, by decide +kernel, rfl, by decide +kernel, by decide +kernel⟩
/-- the class as the head has it -/
structure StopF (K : PySem.W.Frag) (mg : Str → Option Value) (C : Addr) : Prop where
  T : StopC K C
  g : mg "Stop" = some (.ref C)
  nK : PySem.W.findIn K (.ref C) "kind" = some none
  nN : PySem.W.findIn K (.ref C) "name" = some none
  xf : XfC K C
  te : PySem.W.exmOne K (.ref C) (.ref C) = some true
  ini : ∃ (fI : Addr) (fd : FuncData), PySem.W.findIn K (.ref C) "__init__" = some (some (.ref fI)) ∧ PySem.W.typeIn K (.ref fI) = some (.type "function") ∧ FnP K "__init__" "Stop.__init__" sStopInit fI fd ∧ Binds K fd ["self", "kind", "name"] []
section
variable {P : Program} {w : World} {K : PySem.W.Frag} {mg : Str → Option Value} {base : Heap} {C : Addr}
theorem f_stop_init {fI : Addr} {fd : FuncData} (S : StopF K mg C) (F : FnP K "__init__" "Stop.__init__" sStopInit fI fd) : FnOk P w K mg base CX0 1 fI fd ["self", "kind", "name"] (spStopInit C) := by
  refine fnP_ok F scStopInit (fun vs H Q E h => ?_) (fun cdv A outer s H vs Q E hr h => ?_)
  · obtain ⟨a, y, z, rfl, _⟩ := h
    rfl
  · obtain ⟨a, y, z, rfl, ha, q⟩ := h
    refine ⟨_, pss_cons (ps_sto (pv 0) (pv 1)) (pss_one (ps_sto (pv 0) (pv 2))), ?_⟩
    refine ⟨_, rfl, _, rfl, a, C, rfl, S.T, S.nK, .inl ⟨ha, fun dx hd hne => ?_⟩⟩
    refine ⟨_, rfl, _, rfl, a, C, rfl, S.T, S.nN, .inr ⟨dx, _, upd_same, by rw [upd_ne hne, upd_same], by show 1 ≤ 900; decide, ?_⟩⟩
    exact q dx hd hne
end
section
variable {X : Cx} {C : Addr} {j : Nat} {e : Expr} {es : List Expr} {ta : TA} {p pos : Pos}
theorem pmk_st (S : StopF X.K X.mg C) (hr : Room j X.A) (hk : 2 ≤ j) (hg : Gl X "Stop") (ha : PA X (e :: es) ta)
    (he : starEach (e :: es) X.env = (false, eval e X.env) :: starEach es X.env := by rfl) (hpl : (backTo pos (starEach es X.env)).any (·.1) = false := by rfl) :
    PMk X (.Call (.Name "Stop" p) (e :: es) [] pos) (tMkO C (spStopInit C) [] ta) := by
  obtain ⟨fI, fd, h1, h2, F, b⟩ := S.ini
  exact pmk_stop S.T h1 h2 (f_stop_init S F) (hr.mono (show 1 + 1 ≤ j from hk)) b (fun _ _ _ _ _ _ _ z => z.elim) hg S.g ha (by decide) he hpl
end
/-- the reading of «raise Stop(k, x)» -/
theorem stop_read {C : Addr} {H : Hp} {k x : Str} {E : XK} (q : ∀ d H', Same H H' → XdAt H' d k x → E (.ref C) (some d) H') :
    ([V.str k, V.str x] : List V).length ≤ 1000 ∧ ∀ a, H a = none → spStopInit C (.ref a :: ([V.str k, V.str x] ++ [])) (upd H a (exo a C none))
      (fun v H2 => v = .non ∧ ∃ (d : Addr) (fs : List (Str × V)), H2 a = some (exo a C (some d)) ∧ H2 d = some (exd d fs) ∧ H d = none ∧ E (.ref C) (some d) (upd (del H2 a) d (.xd fs))) (fun _ _ _ => False) := by
  refine ⟨by show 2 ≤ 1000; decide, fun a ha => ⟨a, .str k, .str x, rfl, upd_same, fun dx hd hne => ⟨rfl, dx, _, ?_, upd_same, ?_, ?_⟩⟩⟩
  · rw [upd_ne hne.symm, upd_same]
  · rw [upd_ne hne] at hd
    exact hd
  · rw [upd_ne hne] at hd
    refine q dx _ (fun b o z => ?_) ⟨_, upd_same, ?_, ?_⟩
    · have n1 := ne_of_none z ha
      have n2 := ne_of_none z hd
      rw [upd_ne n2, del_ne n1, upd_ne n2, upd_ne n1, upd_ne n2, upd_ne n1]
      exact z
    · rw [lookup_put, if_neg (by decide +kernel), lookup_put, if_pos rfl]
    · rw [lookup_put, if_pos rfl]
/-! ### Finder -/
def finF (b : Addr) (ps : Str) (day known : Int) (fl : Addr) : List (Str × V) := putF "found" (.ref fl) (putF "known" (.int known) (putF "day" (.int day) (putF "person" (.str ps) (putF "book" (.ref b) []))))
section
variable {b fl : Addr} {ps : Str} {day known : Int}
theorem finF_book : (finF b ps day known fl).lookup ("book" : Str) = some (.ref b) := by
  unfold finF
  rw [lookup_putF, if_neg (by decide +kernel), lookup_putF, if_neg (by decide +kernel), lookup_putF, if_neg (by decide +kernel), lookup_putF, if_neg (by decide +kernel), lookup_putF, if_pos rfl]
theorem finF_person : (finF b ps day known fl).lookup ("person" : Str) = some (.str ps) := by
  unfold finF
  rw [lookup_putF, if_neg (by decide +kernel), lookup_putF, if_neg (by decide +kernel), lookup_putF, if_neg (by decide +kernel), lookup_putF, if_pos rfl]
theorem finF_day : (finF b ps day known fl).lookup ("day" : Str) = some (.int day) := by
  unfold finF
  rw [lookup_putF, if_neg (by decide +kernel), lookup_putF, if_neg (by decide +kernel), lookup_putF, if_pos rfl]
theorem finF_known : (finF b ps day known fl).lookup ("known" : Str) = some (.int known) := by
  unfold finF
  rw [lookup_putF, if_neg (by decide +kernel), lookup_putF, if_pos rfl]
theorem finF_found : (finF b ps day known fl).lookup ("found" : Str) = some (.ref fl) := by
  unfold finF
  rw [lookup_putF, if_pos rfl]
theorem finF_no {m : Str} (h1 : ¬ m = "found") (h2 : ¬ m = "known") (h3 : ¬ m = "day") (h4 : ¬ m = "person") (h5 : ¬ m = "book") : (finF b ps day known fl).lookup m = none := by
  unfold finF
  rw [lookup_putF, if_neg h1, lookup_putF, if_neg h2, lookup_putF, if_neg h3, lookup_putF, if_neg h4, lookup_putF, if_neg h5]
  rfl
end
theorem putF_len (f : Str) (v : V) : ∀ fs : List (Str × V), (putF f v fs).length ≤ fs.length + 1
  | [] => Nat.le_refl _
  | (g, x) :: r => by
    unfold putF
    split
    · exact Nat.le_succ _
    · exact Nat.succ_le_succ (putF_len f v r)
/-- what a Finder leans on -/
structure Ev where
  (f fl b r s : Addr)
  es : List Ent
  ps : Str
  day : Int
  known : Int
def Ev.L (e : Ev) : Lk := lkOf e.es e.ps e.day e.known
/-- it stands in the heap -/
structure Fnd (K : PySem.W.Frag) (CF CB : Addr) (H : Hp) (e : Ev) : Prop where
  ob : ∃ dx, H e.f = some (.ins CF dx (finF e.b e.ps e.day e.known e.fl))
  bk : BookAt K CB H e.b e.r e.s e.es
  ne : e.r ≠ e.fl
  nm : NameOk e.ps
  ok : EsOk e.es
  len : e.es.length ≤ 1000
/-- n things were looked up -/
def FL (H : Hp) (fl : Addr) (n : Nat) : Prop := n ≤ 100 ∧ ∃ xs, H fl = some (.lst xs) ∧ xs.length = n
theorem Fnd.same {K : PySem.W.Frag} {CF CB : Addr} {H H' : Hp} {e : Ev} {n : Nat} (F : Fnd K CF CB H e) (l : FL H e.fl n) (s : SameX e.fl H H') : Fnd K CF CB H' e := by
  obtain ⟨_, xs, hx, _⟩ := l
  obtain ⟨⟨dx, h1⟩, h2, h3, h4, h5, h6⟩ := F
  exact ⟨⟨dx, s _ _ (ne_of h1 hx (by intro z; cases z)) h1⟩, h2.sameX s hx h3 (fun z _ => ent_tup z), h3, h4, h5, h6⟩
theorem FL.same {H H' : Hp} {fl : Addr} {n : Nat} (l : FL H fl n) (s : Same H H') : FL H' fl n := by
  obtain ⟨h, xs, h1, h2⟩ := l
  exact ⟨h, xs, s _ _ h1, h2⟩
theorem FL.dp {K : PySem.W.Frag} {H H' : Hp} {fl : Addr} {n : Nat} (l : FL H fl n) (s : SameX fl H H') {d : PyData} {v : V} (t : tupD d = true) (h : Dp K H v d) : Dp K H' v d := by
  obtain ⟨_, xs, h1, _⟩ := l
  exact s.dp h1 t h
theorem FL.sqT {K : PySem.W.Frag} {H H' : Hp} {fl a : Addr} {n : Nat} {xs : List V} (l : FL H fl n) (s : SameX fl H H') (h : SqT K H a xs) : SqT K H' a xs := by
  obtain ⟨_, ys, h1, _⟩ := l
  exact s.sqT_lst h1 h
structure FinC (K : PySem.W.Frag) (C : Addr) : Prop where
  cl : Cls K C
  nB : NoAttr K C "book"
  nP : NoAttr K C "person"
  nD : NoAttr K C "day"
  nK : NoAttr K C "known"
  nF : NoAttr K C "found"
section
variable {P : Program} {w : World} {K : PySem.W.Frag} {mg : Str → Option Value} {base : Heap} {CF CB CS : Addr}
abbrev sFInit : Stmt := inClass (top 46) 0
def spFInit (CF : Addr) : Sp := fun vs H Q _ => ∃ (p dx b : Addr) (ps : Str) (day known : Int), vs = [.ref p, .ref b, .str ps, .int day, .int known] ∧ H p = some (.ins CF dx []) ∧
  ∀ fl H', H fl = none → fl ≠ p → H' fl = some (.lst []) → H' p = some (.ins CF dx (finF b ps day known fl)) → (∀ c o, H c = some o → c ≠ p → H' c = some o) → Q .non H'
theorem scFInit : FnScope ["self", "book", "person", "day", "known"] ["self", "book", "person", "day", "known"] (defScope sFInit) := ⟨rfl, rfl, rfl, by decide +kernel, rfl, by decide +kernel, by decide +kernel⟩
theorem k_finder_init (G : If K mg "Finder" CF "Finder.__init__" sFInit ["self", "book", "person", "day", "known"]) (B : FinC K CF) : Mak P w K mg base 1 "Finder" CF (spFInit CF) [] := by
  refine G.mak scFInit (fun vs H Q E h => ?_) (fun f cdv A outer s H vs Q E hr h => ?_)
  · obtain ⟨p, dx, b, ps, day, known, rfl, _⟩ := h
    rfl
  · obtain ⟨p, dx, b, ps, day, known, rfl, hp, k⟩ := h
    refine ⟨_, pss_cons (ps_fld (pv 0) (pv 1) rfl) (pss_cons (ps_fld (pv 0) (pv 2) rfl) (pss_cons (ps_fld (pv 0) (pv 3) rfl) (pss_cons (ps_fld (pv 0) (pv 4) rfl) (pss_one (ps_fld (pv 0) (pe_lst pa_nil) rfl))))), ?_⟩
    have l0 : ([] : List (Str × V)).length = 0 := rfl
    have l1 := putF_len "book" (.ref b) []
    have l2 := putF_len "person" (.str ps) (putF "book" (.ref b) [])
    have l3 := putF_len "day" (.int day) (putF "person" (.str ps) (putF "book" (.ref b) []))
    have l4 := putF_len "known" (.int known) (putF "day" (.int day) (putF "person" (.str ps) (putF "book" (.ref b) [])))
    refine ⟨_, rfl, _, rfl, p, CF, dx, _, rfl, hp, B.cl, B.nB, by omega, ?_⟩
    refine ⟨_, rfl, _, rfl, p, CF, dx, _, rfl, upd_same, B.cl, B.nP, by omega, ?_⟩
    refine ⟨_, rfl, _, rfl, p, CF, dx, _, rfl, upd_same, B.cl, B.nD, by omega, ?_⟩
    refine ⟨_, rfl, _, rfl, p, CF, dx, _, rfl, upd_same, B.cl, B.nK, by omega, ?_⟩
    refine ⟨Nat.zero_le _, fun fl hfl => ?_⟩
    have nfp : fl ≠ p := fun e => by
      rw [e, upd_same] at hfl
      cases hfl
    refine ⟨_, rfl, p, CF, dx, _, rfl, Eq.trans (upd_ne nfp.symm) upd_same, B.cl, B.nF, by omega, ?_⟩
    have hfl0 : H fl = none := by
      rw [upd_ne nfp, upd_ne nfp, upd_ne nfp, upd_ne nfp] at hfl
      exact hfl
    refine k fl _ hfl0 nfp ?_ upd_same fun c o hc n => ?_
    · rw [upd_ne nfp, upd_same]
    · rw [upd_ne n, upd_ne (ne_of_none hc hfl0), upd_ne n, upd_ne n, upd_ne n, upd_ne n]
      exact hc
abbrev sRoom : Stmt := inClass (top 46) 3
def spRoom (K : PySem.W.Frag) (CF CB CS : Addr) : Sp := fun vs H Q E => ∃ (e : Ev) (x : Str) (n : Nat), vs = [.ref e.f, .str x] ∧ Fnd K CF CB H e ∧ FL H e.fl n ∧
  (n = 100 → ∀ d H', Same H H' → XdAt H' d "long" x → E (.ref CS) (some d) H') ∧ (n ≠ 100 → Q .non H)
theorem scRoom : FnScope ["self", "name"] ["self", "name"] (defScope sRoom) := ⟨rfl, rfl, rfl, by decide +kernel, rfl, by decide +kernel, by decide +kernel⟩
theorem m_room (G : Mf K CF "room" "Finder.room" sRoom ["self", "name"]) (B : FinC K CF) (S : StopF K mg CS) (T : Tx K mg) : MetX P w K mg base 3 CF "room" (spRoom K CF CB CS) := by
  refine G.metX scRoom (fun vs H Q E h => ?_) (fun f cdv A outer s H vs Q E hr h => ?_)
  · obtain ⟨e, x, n, rfl, _⟩ := h
    rfl
  · obtain ⟨e, x, n, rfl, F, l, q1, q2⟩ := h
    obtain ⟨hn, xs, hx, hxl⟩ := l
    obtain ⟨dx, h1⟩ := F.ob
    refine ⟨_, pss_one (ps_if (pt_cmpR op_eq (pe_callB call_len_seq (by rfl) T.len PySem.boot_len (pa_cons (pe_fld (pv 0) rfl) pa_nil)) (gInt T.mLook) (nomark _))
      (pss_one (ps_raise rfl (takes_of rfl rfl rfl rfl) (pmk_st S hr (by decide) rfl (pa_cons pe_str (pa_cons (pv 1) pa_nil))))) pss_nil), ?_⟩
    refine ⟨_, rfl, e.f, CF, dx, _, _, rfl, h1, B.cl, B.nF, finF_found, e.fl, xs, rfl, .inl (SqL.of hx), rfl, _, rfl, ?_⟩
    by_cases c : n = 100
    · refine ifT (by rw [hxl, c]; rfl) ⟨_, rfl, ?_⟩
      exact stop_read fun d H' s' x' => q1 c d H' s' x'
    · refine ifF (fun z => c ?_) (q2 c)
      have z' := V.int.inj z
      omega
end
end K14

set_option Elab.async false
set_option maxRecDepth 100000
set_option maxHeartbeats 4000000
/-! decisions: a Finder's look-ups, bounded, read_fact -/
namespace K14
open PySem PySem.Spec PyProof.Rows L2
open C8 (Cal Met Mak pe_c pe_mk pe_mt pe_mt0 pss_cut)
/-- how what may stop ends -/
def Outs {α : Type} (CS : Addr) (H : Hp) (fl : Addr) (Q : α → Hp → Prop) (E : XK) (r : Res α) : Prop := match r with
  | .ok v n => ∀ H', SameX fl H H' → FL H' fl n → Q v H'
  | .stop k x n => ∀ d H', SameX fl H H' → FL H' fl n → XdAt H' d k x → E (.ref CS) (some d) H'
section
variable {α β : Type} {CS fl : Addr} {H H1 : Hp} {Q : α → Hp → Prop} {E : XK}
theorem Outs.from_ {r : Res α} (h : Outs CS H fl Q E r) (s : SameX fl H H1) : Outs CS H1 fl Q E r := by
  cases r with
  | ok v n => exact fun H' s' l => h H' (s.trans s') l
  | stop k x n => exact fun d H' s' l x' => h d H' (s.trans s') l x'
theorem Outs.bind {r : Res β} {f : β → Nat → Res α} {Q1 : β → Hp → Prop} (h : Outs CS H fl Q E (r.bind f)) (g : ∀ v n H1, r = .ok v n → SameX fl H H1 → FL H1 fl n → Outs CS H1 fl Q E (f v n) → Q1 v H1) : Outs CS H fl Q1 E r := by
  cases r with
  | ok v n => exact fun H' s l => g v n H' rfl s l (Outs.from_ (show Outs CS H fl Q E (f v n) from h) s)
  | stop k x n => exact h
theorem Outs.imp {r : Res α} {Q1 : α → Hp → Prop} (h : Outs CS H fl Q E r) (g : ∀ v n H1, r = .ok v n → SameX fl H H1 → FL H1 fl n → Q v H1 → Q1 v H1) : Outs CS H fl Q1 E r := by
  cases r with
  | ok v n => exact fun H' s l => g v n H' rfl s l (h H' s l)
  | stop k x n => exact h
end
section
variable {X : Cx} {k j : Nat} {C : Addr} {m : Str} {sp : Sp} {pos apos : Pos} {e o : Expr} {es : List Expr} {ta : TE} {t : TA} {E : XK}
theorem pe_mtx {pl : Sem Bool} (c : MetX X.prog X.w X.K X.mg X.base k C m sp) (hr : Room j X.A) (hk : k ≤ j) (hx : Passes (L2.CX X.prog X.w) X E) (he : PE X o ta) (ha : PA X (e :: es) t)
    (hst : starEach (e :: es) X.env = (false, eval e X.env) :: starEach es X.env := by rfl) (hpl : (backTo pos (starEach es X.env)).any (·.1) = false := by rfl)
    (ht : eval (.Call (.Attribute o m apos) (e :: es) [] pos) X.env = (do
      let ov ← eval o X.env
      standAt apos.atName
      let (f, first) ← holding [ov] (getMethod ov m pl)
      callWith pos f first (backTo pos (starEach (e :: es) X.env)) (backToKw pos (keywordEach [] X.env))) := by rfl) : PE X (.Call (.Attribute o m apos) (e :: es) [] pos) (tMeth C m sp [] E ta t) := by
  obtain ⟨f, fd, ps, hc, hm, F, b⟩ := c.ex
  exact pe_meth he hc hm F (hr.mono hk) b .nil hx ha hst hpl ht
end
section
variable {P : Program} {w : World} {K : PySem.W.Frag} {mg : Str → Option Value} {base : Heap} {CF CB CS : Addr}
/-- a look-up: n of them are behind -/
def lookM (q : Option Nat) (x : Str) (n : Nat) : Res (Option Nat) := if n = 100 then .stop "long" x n else .ok q (n + 1)
def spFRule (K : PySem.W.Frag) (CF CB CS : Addr) : Sp := fun vs H Q E => ∃ (e : Ev) (x : Str) (n : Nat), vs = [.ref e.f, .str x] ∧ Fnd K CF CB H e ∧ FL H e.fl n ∧ NameOk x ∧
  Outs CS H e.fl (fun i H' => Q (optN i) H') E (lookM (lastM e.es (.rule x) e.day e.known e.es.length) x n)
abbrev sFRule : Stmt := inClass (top 46) 1
theorem scFRule : FnScope ["self", "name", "index"] ["self", "name"] (defScope sFRule) := ⟨rfl, rfl, rfl, by decide +kernel, rfl, by decide +kernel, by decide +kernel⟩
theorem m_rule (G : Mf K CF "rule" "Finder.rule" sFRule ["self", "name"]) (B : FinC K CF) (mR : MetX P w K mg base 3 CF "room" (spRoom K CF CB CS)) (cR : Cal P w K mg base 4 "rule_at" (spRuleAt K CB) []) : MetX P w K mg base 5 CF "rule" (spFRule K CF CB CS) := by
  refine G.metX scFRule (fun vs H Q E h => ?_) (fun f cdv A outer s H vs Q E hr h => ?_)
  · obtain ⟨e, x, n, rfl, _⟩ := h
    rfl
  · obtain ⟨e, x, n, rfl, F, l, N, q⟩ := h
    obtain ⟨dx, h1⟩ := F.ob
    refine ⟨_, pss_cons (ps_expr (pe_mtx mR hr (by decide) (passes_call (takes_of rfl rfl rfl rfl) fun _ _ _ _ h => h) (pv 0) (pa_cons (pv 1) pa_nil)))
      (pss_cons (ps_set (i := 2) scFRule.nd rfl (.inl rfl) (pe_c cR hr (by decide) rfl (pa_cons (pe_fld (pv 0) rfl) (pa_cons (pv 1) (pa_cons (pe_fld (pv 0) rfl) (pa_cons (pe_fld (pv 0) rfl) pa_nil))))))
      (pss_cons (ps_expr (pe_bm PySem.F.plainAttrs_list PySem.F.slot_list_append PySem.F.type_list_append mt_append (pe_fld (pv 0) rfl) (pa_cons (pe_tup (pa_cons pe_str (pa_cons (pv 1) (pa_cons (pv 2) pa_nil)))) pa_nil)))
      (pss_one (ps_ret (pv 2))))), ?_⟩
    refine ⟨_, rfl, e.f, dx, _, rfl, h1, finF_no (by decide +kernel) (by decide +kernel) (by decide +kernel) (by decide +kernel) (by decide +kernel), _, rfl, e, x, n, rfl, F, l, fun c => ?_, fun c => ?_⟩
    · unfold lookM at q
      rw [if_pos c] at q
      exact fun d H' s' x' => q d H' (.of s') (l.same s') x'
    · unfold lookM at q
      rw [if_neg c] at q
      refine ⟨_, rfl, e.f, CF, dx, _, _, rfl, h1, B.cl, B.nB, finF_book, _, rfl, _, rfl, e.f, CF, dx, _, _, rfl, h1, B.cl, B.nD, finF_day, _, rfl, e.f, CF, dx, _, _, rfl, h1, B.cl, B.nK, finF_known, ?_⟩
      refine ⟨e.b, e.r, e.s, e.es, x, e.day, e.known, rfl, F.bk, F.ok, F.len, N, fun H1 s1 => ?_⟩
      obtain ⟨hn, xs, hx, hxl⟩ := l
      have hx1 := s1 _ _ hx
      refine ⟨_, rfl, e.f, CF, dx, _, _, rfl, s1 _ _ h1, B.cl, B.nF, finF_found, .inl ⟨rfl, _, SqL.of hx1⟩, _, rfl, _, rfl, by show 3 ≤ sizeLine; decide, fun t ht => ?_⟩
      have ntl : e.fl ≠ t := ne_of_none hx1 ht
      refine ⟨e.fl, xs, _, rfl, rfl, by rw [upd_ne ntl]; exact hx1, small1000 (by omega), _, rfl, ?_⟩
      refine q _ (fun b o nb hb => ?_) ⟨by omega, _, upd_same, by rw [List.length_append, List.length_singleton, hxl]⟩
      rw [upd_ne nb, upd_ne (ne_of_none (s1 _ _ hb) ht)]
      exact s1 _ _ hb
def spFFact (K : PySem.W.Frag) (CF CB CS : Addr) : Sp := fun vs H Q E => ∃ (e : Ev) (x : Str) (n : Nat), vs = [.ref e.f, .str x] ∧ Fnd K CF CB H e ∧ FL H e.fl n ∧ NameOk x ∧
  Outs CS H e.fl (fun i H' => Q (optN i) H') E (lookM (lastM e.es (.fact e.ps x) e.day e.known e.es.length) x n)
abbrev sFFact : Stmt := inClass (top 46) 2
theorem scFFact : FnScope ["self", "name", "index"] ["self", "name"] (defScope sFFact) := ⟨rfl, rfl, rfl, by decide +kernel, rfl, by decide +kernel, by decide +kernel⟩
theorem m_fact (G : Mf K CF "fact" "Finder.fact" sFFact ["self", "name"]) (B : FinC K CF) (mR : MetX P w K mg base 3 CF "room" (spRoom K CF CB CS)) (cR : Cal P w K mg base 4 "fact_at" (spFactAt K CB) []) : MetX P w K mg base 5 CF "fact" (spFFact K CF CB CS) := by
  refine G.metX scFFact (fun vs H Q E h => ?_) (fun f cdv A outer s H vs Q E hr h => ?_)
  · obtain ⟨e, x, n, rfl, _⟩ := h
    rfl
  · obtain ⟨e, x, n, rfl, F, l, N, q⟩ := h
    obtain ⟨dx, h1⟩ := F.ob
    refine ⟨_, pss_cons (ps_expr (pe_mtx mR hr (by decide) (passes_call (takes_of rfl rfl rfl rfl) fun _ _ _ _ h => h) (pv 0) (pa_cons (pv 1) pa_nil)))
      (pss_cons (ps_set (i := 2) scFFact.nd rfl (.inl rfl) (pe_c cR hr (by decide) rfl (pa_cons (pe_fld (pv 0) rfl) (pa_cons (pe_fld (pv 0) rfl) (pa_cons (pv 1) (pa_cons (pe_fld (pv 0) rfl) (pa_cons (pe_fld (pv 0) rfl) pa_nil)))))))
      (pss_cons (ps_expr (pe_bm PySem.F.plainAttrs_list PySem.F.slot_list_append PySem.F.type_list_append mt_append (pe_fld (pv 0) rfl) (pa_cons (pe_tup (pa_cons pe_str (pa_cons (pv 1) (pa_cons (pv 2) pa_nil)))) pa_nil)))
      (pss_one (ps_ret (pv 2))))), ?_⟩
    refine ⟨_, rfl, e.f, dx, _, rfl, h1, finF_no (by decide +kernel) (by decide +kernel) (by decide +kernel) (by decide +kernel) (by decide +kernel), _, rfl, e, x, n, rfl, F, l, fun c => ?_, fun c => ?_⟩
    · unfold lookM at q
      rw [if_pos c] at q
      exact fun d H' s' x' => q d H' (.of s') (l.same s') x'
    · unfold lookM at q
      rw [if_neg c] at q
      refine ⟨_, rfl, e.f, CF, dx, _, _, rfl, h1, B.cl, B.nB, finF_book, _, rfl, e.f, CF, dx, _, _, rfl, h1, B.cl, B.nP, finF_person, _, rfl, _, rfl, e.f, CF, dx, _, _, rfl, h1, B.cl, B.nD, finF_day, _, rfl, e.f, CF, dx, _, _, rfl, h1, B.cl, B.nK, finF_known, ?_⟩
      refine ⟨e.b, e.r, e.s, e.es, e.ps, x, e.day, e.known, rfl, F.bk, F.ok, F.len, F.nm, N, fun H1 s1 => ?_⟩
      obtain ⟨hn, xs, hx, hxl⟩ := l
      have hx1 := s1 _ _ hx
      refine ⟨_, rfl, e.f, CF, dx, _, _, rfl, s1 _ _ h1, B.cl, B.nF, finF_found, .inl ⟨rfl, _, SqL.of hx1⟩, _, rfl, _, rfl, by show 3 ≤ sizeLine; decide, fun t ht => ?_⟩
      have ntl : e.fl ≠ t := ne_of_none hx1 ht
      refine ⟨e.fl, xs, _, rfl, rfl, by rw [upd_ne ntl]; exact hx1, small1000 (by omega), _, rfl, ?_⟩
      refine q _ (fun b o nb hb => ?_) ⟨by omega, _, upd_same, by rw [List.length_append, List.length_singleton, hxl]⟩
      rw [upd_ne nb, upd_ne (ne_of_none (s1 _ _ hb) ht)]
      exact s1 _ _ hb
/-! ### bounded -/
def spBounded (CS : Addr) : Sp := fun vs H Q E => ∃ (fl ol : Addr) (n : Nat) (v : Int) (opn : List Str) (x : Str), vs = [.int v, .ref ol] ∧ FL H fl n ∧ H ol = some (.lst ((opn ++ [x]).map V.str)) ∧ Outs CS H fl (fun z H' => Q (.int z) H') E (bnd x v n)
theorem scBounded : FnScope ["value", "open_rules"] ["value", "open_rules"] (defScope (top 48)) := ⟨rfl, rfl, rfl, by decide +kernel, rfl, by decide +kernel, by decide +kernel⟩
theorem c_bounded (G : Gf K mg "bounded" (top 48) ["value", "open_rules"]) (S : StopF K mg CS) (T : Tx K mg) : CalX P w K mg base 3 "bounded" (spBounded CS) := by
  refine G.calX scBounded (fun vs H Q E h => ?_) (fun f cdv A outer s H vs Q E hr h => ?_)
  · obtain ⟨fl, ol, n, v, opn, x, rfl, _⟩ := h
    rfl
  · obtain ⟨fl, ol, n, v, opn, x, rfl, l, ho, q⟩ := h
    refine ⟨_, pss_cons (ps_if (pt_cmpR op_gt (pe_callB call_abs (by rfl) T.abs (by decide +kernel) (pa_cons (pv 0) pa_nil)) (gInt T.large) (nomark _))
        (pss_one (ps_raise rfl (takes_of rfl rfl rfl rfl) (pmk_st S hr (by decide) rfl (pa_cons pe_str (pa_cons (pe_ix ix_list (pv 1) (pe_un un_neg pe_int) (fun _ _ => rfl)) pa_nil))))) pss_nil)
      (pss_one (ps_ret (pv 0))), ?_⟩
    refine ⟨_, rfl, v, rfl, _, _, rfl, rfl, _, rfl, ?_⟩
    unfold bnd at q
    by_cases c : 1000000000000000 < (if v < 0 then -v else v)
    · rw [if_pos c] at q
      rw [List.map_append] at ho
      refine ifT c ⟨_, rfl, _, rfl, ol, _, _, _, rfl, rfl, SqL.of ho, atI_last _ _, ?_⟩
      exact stop_read fun d H' s' x' => q d H' (.of s') (l.same s') x'
    · rw [if_neg c] at q
      exact ifF c ⟨_, rfl, q H (.refl _ _) l⟩
/-! ### what a tree's tuple holds -/
section
variable {H : Hp} {v : V} {k : Str} {d1 d2 d3 : PyData}
theorem dp2 (h : Dp K H v (.tuple [.str k, d1])) : ∃ a x, v = .ref a ∧ SqT K H a [.str k, x] ∧ Dp K H x d1 := by
  obtain ⟨a, xs, rfl, h1, h2⟩ := dp_tup_inv h
  obtain ⟨x0, r0, rfl, e0, h2⟩ := da_cons h2
  obtain ⟨x1, r1, rfl, e1, h2⟩ := da_cons h2
  obtain rfl := da_nil h2
  rw [dp_str e0] at h1
  exact ⟨a, x1, rfl, h1, e1⟩
theorem dp3 (h : Dp K H v (.tuple [.str k, d1, d2])) : ∃ a x y, v = .ref a ∧ SqT K H a [.str k, x, y] ∧ Dp K H x d1 ∧ Dp K H y d2 := by
  obtain ⟨a, xs, rfl, h1, h2⟩ := dp_tup_inv h
  obtain ⟨x0, r0, rfl, e0, h2⟩ := da_cons h2
  obtain ⟨x1, r1, rfl, e1, h2⟩ := da_cons h2
  obtain ⟨x2, r2, rfl, e2, h2⟩ := da_cons h2
  obtain rfl := da_nil h2
  rw [dp_str e0] at h1
  exact ⟨a, x1, x2, rfl, h1, e1, e2⟩
theorem dp4 (h : Dp K H v (.tuple [.str k, d1, d2, d3])) : ∃ a x y z, v = .ref a ∧ SqT K H a [.str k, x, y, z] ∧ Dp K H x d1 ∧ Dp K H y d2 ∧ Dp K H z d3 := by
  obtain ⟨a, xs, rfl, h1, h2⟩ := dp_tup_inv h
  obtain ⟨x0, r0, rfl, e0, h2⟩ := da_cons h2
  obtain ⟨x1, r1, rfl, e1, h2⟩ := da_cons h2
  obtain ⟨x2, r2, rfl, e2, h2⟩ := da_cons h2
  obtain ⟨x3, r3, rfl, e3, h2⟩ := da_cons h2
  obtain rfl := da_nil h2
  rw [dp_str e0] at h1
  exact ⟨a, x1, x2, x3, rfl, h1, e1, e2, e3⟩
end
/-! ### read_fact -/
/-- where one reads: the open rules opn ++ [x], d more may be opened -/
structure Rdn (K : PySem.W.Frag) (CF CB : Addr) (H : Hp) (e : Ev) (n : Nat) (ol : Addr) (opn : List Str) (x : Str) (d : Nat) : Prop where
  F : Fnd K CF CB H e
  l : FL H e.fl n
  o : H ol = some (.lst ((opn ++ [x]).map V.str))
  no : ol ≠ e.fl
  hd : (opn ++ [x]).length + d = 6
theorem Rdn.same {H H' : Hp} {e : Ev} {n n' : Nat} {ol : Addr} {opn : List Str} {x : Str} {d : Nat} (R : Rdn K CF CB H e n ol opn x d) (s : SameX e.fl H H') (l : FL H' e.fl n') : Rdn K CF CB H' e n' ol opn x d :=
  ⟨R.F.same R.l s, l, s _ _ R.no R.o, R.no, R.hd⟩
def spRead (K : PySem.W.Frag) (CF CB CS : Addr) (C : Nd → Prop) (d h : Nat) : Sp := fun vs H Q E => ∃ (e : Ev) (v : V) (p : Nd) (n : Nat) (ol : Addr) (opn : List Str) (x : Str), vs = [.ref e.f, v, .ref ol] ∧ Rdn K CF CB H e n ol opn x d ∧
  Dp K H v (pd p) ∧ ok true p ∧ hgt p ≤ h ∧ C p ∧ Outs CS H e.fl (fun z H' => Q (.int z) H') E (rdA e.L (rdR e.L d (opn ++ [x])) x p n)
def spCond (K : PySem.W.Frag) (CF CB CS : Addr) (d h : Nat) : Sp := fun vs H Q E => ∃ (e : Ev) (v : V) (p : Nd) (n : Nat) (ol : Addr) (opn : List Str) (x : Str), vs = [.ref e.f, v, .ref ol] ∧ Rdn K CF CB H e n ol opn x d ∧
  Dp K H v (pd p) ∧ ok false p ∧ hgt p ≤ h ∧ Outs CS H e.fl (fun z H' => Q (.bl z) H') E (rdC e.L (rdR e.L d (opn ++ [x])) x p n)
def anyNd : Nd → Prop := fun _ => True
theorem scRFact : FnScope ["source", "part", "open_rules", "index"] ["source", "part", "open_rules"] (defScope (top 47)) := ⟨rfl, rfl, rfl, by decide +kernel, rfl, by decide +kernel, by decide +kernel⟩
theorem c_read_fact {d h m : Nat} (hm : 6 ≤ m) (G : Gf K mg "read_fact" (top 47) ["source", "part", "open_rules"]) (B : FinC K CF) (S : StopF K mg CS) (mF : MetX P w K mg base 5 CF "fact" (spFFact K CF CB CS)) (mE : Met P w K mg base 1 CB "entry_at" (spEntryAt K CB) [])
    (cR : CalX P w K mg base m "read" (spRead K CF CB CS anyNd d h)) : CalX P w K mg base (m + 1) "read_fact" (spRead K CF CB CS isFact d (h + 1)) := by
  refine G.calX scRFact (fun vs H Q E h => ?_) (fun f cdv A outer s H vs Q E hr h => ?_)
  · obtain ⟨e, v, p, n, ol, opn, x, rfl, _⟩ := h
    rfl
  · obtain ⟨e, v, p, n, ol, opn, x, rfl, R, hv, hok, hh, hc, q⟩ := h
    obtain ⟨dx, h1⟩ := R.F.ob
    refine ⟨_, pss_cons (ps_set (i := 3) scRFact.nd rfl (.inl rfl) (pe_mtx mF hr (by omega) (passes_call (takes_of rfl rfl rfl rfl) fun _ _ _ _ h => h) (pv 0) (pa_cons (pe_ix ix_tup (pv 1) pe_int (fun _ _ => rfl)) pa_nil)))
      (pss_cons (ps_if (pt_cmpR op_notN (pv 3) pe_non (nomark _)) (pss_one (ps_ret (pe_ix ix_tup (pe_mt mE hr (by omega) (pe_fld (pv 0) rfl) (pa_cons (pv 3) pa_nil)) pe_int (fun _ _ => rfl)))) pss_nil)
      (pss_cons (ps_if (pt_cmpR op_isN (pe_ix ix_tup (pv 1) pe_int (fun _ _ => rfl)) pe_non (nomark _)) (pss_one (ps_raise rfl (takes_of rfl rfl rfl rfl) (pmk_st S hr (by omega) rfl (pa_cons pe_str (pa_cons (pe_ix ix_tup (pv 1) pe_int (fun _ _ => rfl)) pa_nil))))) pss_nil)
      (pss_one (ps_ret (pe_cx cR hr (by omega) (passes_call (takes_of rfl rfl rfl rfl) fun _ _ _ _ h => h) rfl (pa_cons (pv 0) (pa_cons (pe_ix ix_tup (pv 1) pe_int (fun _ _ => rfl)) (pa_cons (pv 2) pa_nil)))))))), ?_⟩
    have no : (finF e.b e.ps e.day e.known e.fl).lookup ("fact" : Str) = none := finF_no (by decide +kernel) (by decide +kernel) (by decide +kernel) (by decide +kernel) (by decide +kernel)
    -- what is found is a report
    have found : ∀ {y : Str} {i : Nat} {H1 : Hp}, lastM e.es (.fact e.ps y) e.day e.known e.es.length = some i → Fnd K CF CB H1 e → ∃ z, e.L.fact y = some z ∧ ∃ en : Ent, e.es[i]? = some en ∧ ∀ {u : V}, Dp K H1 u (entD en) → ∃ a xs, u = .ref a ∧ SqT K H1 a xs ∧ atI xs 4 = some (.int z) := by
      intro y i H1 hi F1
      obtain ⟨c, a, b, z0, z, g1, g2, g3⟩ := lastM_fact hi
      subst g2
      refine ⟨z, g3, _, g1, fun {u} hu => ?_⟩
      obtain ⟨a, s', rfl, k1, k2⟩ := ent_report hu
      exact ⟨a, _, rfl, k1, at4⟩
    cases p with
    | fact y =>
      obtain ⟨a, u1, u2, rfl, ht, hu1, hu2⟩ := dp3 hv
      obtain rfl := dp_str hu1
      obtain rfl := dp_non hu2
      refine ⟨_, rfl, e.f, dx, _, rfl, h1, no, _, rfl, a, _, _, _, rfl, rfl, ht, at1, e, y, n, rfl, R.F, R.l, hok, ?_⟩
      simp only [rdA] at q
      unfold lookM
      by_cases c : n = 100
      · rw [if_pos c] at q ⊢
        exact q
      · rw [if_neg c] at q ⊢
        intro H1 s1 l1
        have F1 := R.F.same R.l s1
        have ht1 := R.l.sqT s1 ht
        cases hi : lastM e.es (.fact e.ps y) e.day e.known e.es.length with
        | some i =>
          obtain ⟨z, hz, en, he, hen⟩ := found hi F1
          rw [hz] at q
          obtain ⟨dx1, g1⟩ := F1.ob
          obtain ⟨dxb, gb⟩ := F1.bk.ob
          refine ⟨_, rfl, rfl, _, rfl, ifNT (by intro z; cases z) ?_⟩
          refine ⟨_, rfl, e.f, CF, dx1, _, _, rfl, g1, B.cl, B.nB, finF_book, e.b, dxb, _, rfl, gb, bookF_no _ _ (by decide +kernel) (by decide +kernel), _, rfl, e.b, e.r, e.s, e.es, i, en, rfl, F1.bk, he, fun u hu => ?_⟩
          obtain ⟨a4, xs4, rfl, k1, k2⟩ := hen hu
          exact ⟨a4, xs4, _, _, rfl, rfl, k1, k2, q H1 s1 l1⟩
        | none =>
          have hz : e.L.fact y = none := lastM_fact_none hi
          rw [hz] at q
          refine ⟨_, rfl, rfl, _, rfl, iteF ?_⟩
          refine ⟨_, rfl, a, _, _, _, rfl, rfl, ht1, at2, rfl, _, rfl, ifT rfl ?_⟩
          refine ⟨_, rfl, a, _, _, _, rfl, rfl, ht1, at1, ?_⟩
          exact stop_read fun d' H' s' x' => q d' H' (s1.trans (.of s')) (l1.same s') x'
    | factOr y p =>
      obtain ⟨a, u1, u2, rfl, ht, hu1, hu2⟩ := dp3 hv
      obtain rfl := dp_str hu1
      refine ⟨_, rfl, e.f, dx, _, rfl, h1, no, _, rfl, a, _, _, _, rfl, rfl, ht, at1, e, y, n, rfl, R.F, R.l, hok.1, ?_⟩
      simp only [rdA] at q
      unfold lookM
      by_cases c : n = 100
      · rw [if_pos c] at q ⊢
        exact q
      · rw [if_neg c] at q ⊢
        intro H1 s1 l1
        have F1 := R.F.same R.l s1
        have ht1 := R.l.sqT s1 ht
        cases hi : lastM e.es (.fact e.ps y) e.day e.known e.es.length with
        | some i =>
          obtain ⟨z, hz, en, he, hen⟩ := found hi F1
          rw [hz] at q
          obtain ⟨dx1, g1⟩ := F1.ob
          obtain ⟨dxb, gb⟩ := F1.bk.ob
          refine ⟨_, rfl, rfl, _, rfl, ifNT (by intro z; cases z) ?_⟩
          refine ⟨_, rfl, e.f, CF, dx1, _, _, rfl, g1, B.cl, B.nB, finF_book, e.b, dxb, _, rfl, gb, bookF_no _ _ (by decide +kernel) (by decide +kernel), _, rfl, e.b, e.r, e.s, e.es, i, en, rfl, F1.bk, he, fun u hu => ?_⟩
          obtain ⟨a4, xs4, rfl, k1, k2⟩ := hen hu
          exact ⟨a4, xs4, _, _, rfl, rfl, k1, k2, q H1 s1 l1⟩
        | none =>
          have hz : e.L.fact y = none := lastM_fact_none hi
          rw [hz] at q
          refine ⟨_, rfl, rfl, _, rfl, iteF ?_⟩
          have hu2' := R.l.dp s1 (pd_tup p) hu2
          have nn : ¬ u2 = V.non := by
            intro z
            subst z
            cases p <;> cases hu2
          refine ⟨_, rfl, a, _, _, _, rfl, rfl, ht1, at2, rfl, _, rfl, ifF nn ?_⟩
          refine ⟨_, rfl, _, rfl, a, _, _, _, rfl, rfl, ht1, at2, _, rfl, e, u2, p, n + 1, ol, opn, x, rfl, R.same s1 l1, hu2', hok.2, Nat.le_of_succ_le_succ hh, trivial, q.from_ s1⟩
    | _ => exact hc.elim
end
end K14

set_option Elab.async false
set_option maxRecDepth 100000
set_option maxHeartbeats 4000000
/-! decisions: read_rule, read, read_condition -/
namespace K14
open PySem PySem.Spec PyProof.Rows L2
open C8 (Cal Met Mak pe_c pe_mk pe_mt pe_mt0 pss_cut)
section
variable {P : Program} {w : World} {K : PySem.W.Frag} {mg : Str → Option Value} {base : Heap} {CF CB CS : Addr}
def spRule (K : PySem.W.Frag) (CF CB CS : Addr) (d : Nat) : Sp := fun vs H Q E => ∃ (e : Ev) (x : Str) (n : Nat) (ol : Addr) (opn : List Str), vs = [.ref e.f, .str x, .ref ol] ∧ Fnd K CF CB H e ∧ FL H e.fl n ∧ NameOk x ∧ H ol = some (.lst (opn.map V.str)) ∧ ol ≠ e.fl ∧ opn.length + d = 6 ∧
  Outs CS H e.fl (fun z H' => Q (.int z) H') E (rdR e.L d opn x n)
/-- read, where a rule with d more to open calls it -/
def spPrev (K : PySem.W.Frag) (CF CB CS : Addr) : Nat → Sp
  | 0 => fun _ _ _ _ => False
  | d + 1 => spRead K CF CB CS anyNd d 4
theorem scRRule : FnScope ["source", "name", "open_rules", "index"] ["source", "name", "open_rules"] (defScope (top 49)) := ⟨rfl, rfl, rfl, by decide +kernel, rfl, by decide +kernel, by decide +kernel⟩
theorem c_read_rule {d m : Nat} (hm : 11 ≤ m) (G : Gf K mg "read_rule" (top 49) ["source", "name", "open_rules"]) (B : FinC K CF) (S : StopF K mg CS) (T : Tx K mg) (mR : MetX P w K mg base 5 CF "rule" (spFRule K CF CB CS)) (mE : Met P w K mg base 1 CB "entry_at" (spEntryAt K CB) [])
    (cA : Cal P w K mg base 11 "parse_amount" (spAmount K) []) (cR : CalX P w K mg base m "read" (spPrev K CF CB CS d)) : CalX P w K mg base (m + 1) "read_rule" (spRule K CF CB CS d) := by
  refine G.calX scRRule (fun vs H Q E h => ?_) (fun f cdv A outer s H vs Q E hr h => ?_)
  · obtain ⟨e, x, n, ol, opn, rfl, _⟩ := h
    rfl
  · obtain ⟨e, x, n, ol, opn, rfl, F, l, N, ho, hne, hd, q⟩ := h
    obtain ⟨dx, h1⟩ := F.ob
    refine ⟨_, pss_cons (ps_if (pt_cmpR op_in_seq (pv 1) (pv 2) rfl) (pss_one (ps_raise rfl (takes_of rfl rfl rfl rfl) (pmk_st S hr (by omega) rfl (pa_cons pe_str (pa_cons (pv 1) pa_nil))))) pss_nil)
      (pss_cons (ps_if (pt_cmpR op_eq (pe_callB call_len_seq (by rfl) T.len PySem.boot_len (pa_cons (pv 2) pa_nil)) (gInt T.mOpen) (nomark _)) (pss_one (ps_raise rfl (takes_of rfl rfl rfl rfl) (pmk_st S hr (by omega) rfl (pa_cons pe_str (pa_cons (pv 1) pa_nil))))) pss_nil)
      (pss_cons (ps_set (i := 3) scRRule.nd rfl (.inl rfl) (pe_mtx mR hr (by omega) (passes_call (takes_of rfl rfl rfl rfl) fun _ _ _ _ h => h) (pv 0) (pa_cons (pv 1) pa_nil)))
      (pss_cons (ps_if (pt_cmpR op_isN (pv 3) pe_non (nomark _)) (pss_one (ps_raise rfl (takes_of rfl rfl rfl rfl) (pmk_st S hr (by omega) rfl (pa_cons pe_str (pa_cons (pv 1) pa_nil))))) pss_nil)
      (pss_one (ps_ret (pe_cx cR hr (by omega) (passes_call (takes_of rfl rfl rfl rfl) fun _ _ _ _ h => h) rfl (pa_cons (pv 0)
        (pa_cons (pe_c cA hr (by omega) rfl (pa_cons (pe_ix ix_tup (pe_mt mE hr (by omega) (pe_fld (pv 0) rfl) (pa_cons (pv 3) pa_nil)) pe_int (fun _ _ => rfl)) pa_nil))
        (pa_cons (pe_op op_cat (pv 2) (pe_lst (pa_cons (pv 1) pa_nil))) pa_nil))))))))), ?_⟩
    refine ⟨_, rfl, _, rfl, ol, _, rfl, .inl (SqL.of ho), rfl, flat_strs _, _, rfl, ?_⟩
    have ein : (if false = true then !inV (V.str x) (opn.map V.str) else inV (V.str x) (opn.map V.str)) = decide (x ∈ opn) := by rw [if_neg Bool.false_ne_true, inV_strs]
    show if (if false = true then !inV (V.str x) (opn.map V.str) else inV (V.str x) (opn.map V.str)) = true then _ else _
    rw [ein]
    by_cases cin : x ∈ opn
    · have e1 : rdR e.L d opn x n = .stop "circle" x n := by cases d <;> (unfold rdR; rw [if_pos cin])
      rw [e1] at q
      refine ifT cin ⟨_, rfl, ?_⟩
      exact stop_read fun d' H' s' x' => q d' H' (.of s') (l.same s') x'
    refine ifF cin ⟨_, rfl, ol, _, rfl, .inl (SqL.of ho), rfl, _, rfl, ?_⟩
    cases d with
    | zero =>
      have e1 : rdR e.L 0 opn x n = .stop "deep" x n := by unfold rdR; rw [if_neg cin]
      rw [e1] at q
      have e6 : opn.length = 6 := by omega
      refine ifT (by rw [List.length_map, e6]; rfl) ⟨_, rfl, ?_⟩
      exact stop_read fun d' H' s' x' => q d' H' (.of s') (l.same s') x'
    | succ d =>
      have n6 : ¬ V.int (((opn.map V.str).length : Nat) : Int) = V.int 6 := fun z => by
        have z' := V.int.inj z
        rw [List.length_map] at z'
        omega
      refine ifF n6 ?_
      refine ⟨_, rfl, e.f, dx, _, rfl, h1, finF_no (by decide +kernel) (by decide +kernel) (by decide +kernel) (by decide +kernel) (by decide +kernel), _, rfl, e, x, n, rfl, F, l, N, ?_⟩
      unfold rdR at q
      rw [if_neg cin] at q
      unfold lookM
      by_cases c : n = 100
      · rw [if_pos c] at q ⊢
        exact q
      · rw [if_neg c] at q ⊢
        intro H1 s1 l1
        have F1 := F.same l s1
        have ho1 := s1 _ _ hne ho
        cases hi : lastM e.es (.rule x) e.day e.known e.es.length with
        | none =>
          have hz : e.L.rule x = none := lastM_rule_none e.ps hi
          rw [hz] at q
          refine ⟨_, rfl, rfl, _, rfl, ifT rfl ⟨_, rfl, ?_⟩⟩
          exact stop_read fun d' H' s' x' => q d' H' (s1.trans (.of s')) (l1.same s') x'
        | some i =>
          obtain ⟨c0, a0, b0, p, g1, g2⟩ := lastM_rule e.ps hi
          have g2' : e.L.rule x = some p := g2
          rw [g2'] at q
          have q' : Outs CS H e.fl (fun z H' => Q (.int z) H') E (rdA e.L (rdR e.L d (opn ++ [x])) x p (n + 1)) := q
          obtain ⟨dx1, k1⟩ := F1.ob
          obtain ⟨dxb, kb⟩ := F1.bk.ob
          obtain ⟨_, _, ⟨o1, o2, o3⟩, _⟩ := F.ok _ (List.mem_of_getElem? g1)
          refine ⟨_, rfl, rfl, _, rfl, ifF (by intro z; cases z) ?_⟩
          refine ⟨_, rfl, _, rfl, e.f, CF, dx1, _, _, rfl, k1, B.cl, B.nB, finF_book, e.b, dxb, _, rfl, kb, bookF_no _ _ (by decide +kernel) (by decide +kernel), _, rfl, e.b, e.r, e.s, e.es, i, _, rfl, F1.bk, g1, fun u hu => ?_⟩
          obtain ⟨au, su, rfl, hu1, _⟩ := ent_enact hu
          refine ⟨au, _, _, _, rfl, rfl, hu1, at3, p, rfl, o1, o2, o3, fun v H2 s2 hv => ?_⟩
          have ho2 := s2 _ _ ho1
          refine ⟨_, rfl, _, rfl, by show 1 ≤ sizeLine; decide, fun t1 ht1 => ?_⟩
          have nol : ol ≠ t1 := ne_of_none ho2 ht1
          refine ⟨ol, t1, _, _, rfl, rfl, by rw [upd_ne nol]; exact ho2, upd_same, ?_, fun t2 ht2 => ?_⟩
          · rw [List.length_map]
            exact sl1000 (by show opn.length + 1 ≤ 1000; omega)
          have s3 : Same H2 _ := (same_new ht1 (.lst [.str x])).trans (same_new ht2 (.lst (opn.map V.str ++ [.str x])))
          have s4 : Same H1 _ := s2.trans s3
          have l4 := l1.same s4
          refine ⟨e, v, p, n + 1, t2, opn, x, rfl, ⟨F1.same l1 (.of s4), l4, ?_, ?_, ?_⟩, dp_same s3 hv, o1, o2, trivial, q'.from_ (s1.trans (.of s4))⟩
          · rw [upd_same, List.map_append]
            rfl
          · obtain ⟨_, ys, hy, _⟩ := l1.same (s2.trans (same_new ht1 (.lst [.str x])))
            exact (ne_of_none hy ht2).symm
          · rw [List.length_append, List.length_singleton]
            omega
theorem scRead : FnScope ["source", "part", "open_rules", "kind", "first", "second"] ["source", "part", "open_rules"] (defScope (top 50)) := ⟨rfl, rfl, rfl, by decide +kernel, rfl, by decide +kernel, by decide +kernel⟩
theorem c_read {d h m r : Nat} (hm : 3 ≤ m) (hrl : r ≤ m) (G : Gf K mg "read" (top 50) ["source", "part", "open_rules"]) (T : Tx K mg) (cB : CalX P w K mg base 3 "bounded" (spBounded CS)) (cF : CalX P w K mg base (m + 1) "read_fact" (spRead K CF CB CS isFact d (h + 1))) (cU : CalX P w K mg base r "read_rule" (spRule K CF CB CS d))
    (cR : CalX P w K mg base m "read" (spRead K CF CB CS anyNd d h)) (cC : CalX P w K mg base m "read_condition" (spCond K CF CB CS d h)) : CalX P w K mg base (m + 2) "read" (spRead K CF CB CS anyNd d (h + 1)) := by
  refine G.calX scRead (fun vs H Q E h => ?_) (fun f cdv A outer s H vs Q E hr h => ?_)
  · obtain ⟨e, v, p, n, ol, opn, x, rfl, _⟩ := h
    rfl
  · obtain ⟨e, v, p, n, ol, opn, x, rfl, R, hv, hok, hh, _, q⟩ := h
    refine ⟨_, pss_cons (ps_set (i := 3) scRead.nd rfl (.inl rfl) (pe_ix ix_tup (pv 1) pe_int (fun _ _ => rfl)))
      (pss_cons (ps_if (pt_cmpR op_eq (pv 3) pe_str (nomark _)) (pss_one (ps_ret (pe_ix ix_tup (pv 1) pe_int (fun _ _ => rfl)))) pss_nil)
      (pss_cons (ps_if (pt_cmpR op_eq (pv 3) pe_str (nomark _)) (pss_one (ps_ret (pe_cx cF hr (by omega) (passes_call (takes_of rfl rfl rfl rfl) fun _ _ _ _ h => h) rfl (pa_cons (pv 0) (pa_cons (pv 1) (pa_cons (pv 2) pa_nil)))))) pss_nil)
      (pss_cons (ps_if (pt_cmpR op_eq (pv 3) pe_str (nomark _)) (pss_one (ps_ret (pe_cx cU hr (by omega) (passes_call (takes_of rfl rfl rfl rfl) fun _ _ _ _ h => h) rfl (pa_cons (pv 0) (pa_cons (pe_ix ix_tup (pv 1) pe_int (fun _ _ => rfl)) (pa_cons (pv 2) pa_nil)))))) pss_nil)
      (pss_cons (ps_if (pt_cmpR op_eq (pv 3) pe_str (nomark _)) (pss_one (ps_ret (pe_cx cB hr (by omega) (passes_call (takes_of rfl rfl rfl rfl) fun _ _ _ _ h => h) rfl
        (pa_cons (pe_op op_fdiv (pe_op op_mul (pe_ix ix_tup (pv 1) pe_int (fun _ _ => rfl)) (pe_cx cR hr (by omega) (passes_call (takes_of rfl rfl rfl rfl) fun _ _ _ _ h => h) rfl (pa_cons (pv 0) (pa_cons (pe_ix ix_tup (pv 1) pe_int (fun _ _ => rfl)) (pa_cons (pv 2) pa_nil))))) pe_int) (pa_cons (pv 2) pa_nil))))) pss_nil)
      (pss_cons (ps_if (pt_cmpR op_eq (pv 3) pe_str (nomark _))
        (pss_cons (ps_if (pt_val (pe_cx cC hr (by omega) (passes_call (takes_of rfl rfl rfl rfl) fun _ _ _ _ h => h) rfl (pa_cons (pv 0) (pa_cons (pe_ix ix_tup (pv 1) pe_int (fun _ _ => rfl)) (pa_cons (pv 2) pa_nil)))))
            (pss_one (ps_ret (pe_cx cR hr (by omega) (passes_call (takes_of rfl rfl rfl rfl) fun _ _ _ _ h => h) rfl (pa_cons (pv 0) (pa_cons (pe_ix ix_tup (pv 1) pe_int (fun _ _ => rfl)) (pa_cons (pv 2) pa_nil)))))) pss_nil)
          (pss_one (ps_ret (pe_cx cR hr (by omega) (passes_call (takes_of rfl rfl rfl rfl) fun _ _ _ _ h => h) rfl (pa_cons (pv 0) (pa_cons (pe_ix ix_tup (pv 1) pe_int (fun _ _ => rfl)) (pa_cons (pv 2) pa_nil))))))) pss_nil)
      (pss_cons (ps_set (i := 4) scRead.nd rfl (.inl rfl) (pe_cx cR hr (by omega) (passes_call (takes_of rfl rfl rfl rfl) fun _ _ _ _ h => h) rfl (pa_cons (pv 0) (pa_cons (pe_ix ix_tup (pv 1) pe_int (fun _ _ => rfl)) (pa_cons (pv 2) pa_nil)))))
      (pss_cons (ps_set (i := 5) scRead.nd rfl (.inl rfl) (pe_cx cR hr (by omega) (passes_call (takes_of rfl rfl rfl rfl) fun _ _ _ _ h => h) rfl (pa_cons (pv 0) (pa_cons (pe_ix ix_tup (pv 1) pe_int (fun _ _ => rfl)) (pa_cons (pv 2) pa_nil)))))
      (pss_cons (ps_if (pt_cmpR op_eq (pv 3) pe_str (nomark _)) (pss_one (ps_ret (pe_cx cB hr (by omega) (passes_call (takes_of rfl rfl rfl rfl) fun _ _ _ _ h => h) rfl (pa_cons (pe_op op_add (pv 4) (pv 5)) (pa_cons (pv 2) pa_nil))))) pss_nil)
      (pss_cons (ps_if (pt_cmpR op_eq (pv 3) pe_str (nomark _)) (pss_one (ps_ret (pe_cx cB hr (by omega) (passes_call (takes_of rfl rfl rfl rfl) fun _ _ _ _ h => h) rfl (pa_cons (pe_op op_sub (pv 4) (pv 5)) (pa_cons (pv 2) pa_nil))))) pss_nil)
      (pss_cons (ps_if (pt_cmpR op_eq (pv 3) pe_str (nomark _)) (pss_one (ps_ret (pe_cx cB hr (by omega) (passes_call (takes_of rfl rfl rfl rfl) fun _ _ _ _ h => h) rfl (pa_cons (pe_op op_mul (pv 4) (pv 5)) (pa_cons (pv 2) pa_nil))))) pss_nil)
      (pss_cons (ps_if (pt_cmpR op_eq (pv 3) pe_str (nomark _)) (pss_one (ps_ret (pe_callB (call_min2 rfl) (by rfl) T.min (by decide +kernel) (pa_cons (pv 4) (pa_cons (pv 5) pa_nil))))) pss_nil)
      (pss_one (ps_ret (pe_callB (call_max2 rfl) (by rfl) T.max (by decide +kernel) (pa_cons (pv 4) (pa_cons (pv 5) pa_nil)))))))))))))))), ?_⟩
    have hsm : ∀ {p0 : Nd} {n0 m0 : Nat} {z0 : Int}, ok true p0 → rdA e.L (rdR e.L d (opn ++ [x])) x p0 n0 = .ok z0 m0 → Small z0 := fun o z => rdA_small (lkOf_ok R.F.ok _ _ _) (rdR_small (lkOf_ok R.F.ok _ _ _) d (opn ++ [x])) o z
    cases p with
    | num z =>
      obtain ⟨a, u1, rfl, ht, hu1⟩ := dp2 hv
      obtain rfl := dp_int hu1
      refine ⟨_, rfl, a, _, _, _, rfl, rfl, ht, at0, _, rfl, rfl, _, rfl, ifT rfl ⟨_, rfl, a, _, _, _, rfl, rfl, ht, at1, ?_⟩⟩
      exact q H (.refl _ _) R.l
    | fact y =>
      obtain ⟨a, u1, u2, rfl, ht, hu1, hu2⟩ := dp3 hv
      refine ⟨_, rfl, a, _, _, _, rfl, rfl, ht, at0, _, rfl, rfl, _, rfl, ifF (by decide +kernel) ⟨_, rfl, rfl, _, rfl, ifT rfl ?_⟩⟩
      exact ⟨_, rfl, _, rfl, _, rfl, e, _, .fact y, n, ol, opn, x, rfl, R, hv, hok, hh, trivial, q⟩
    | factOr y p =>
      obtain ⟨a, u1, u2, rfl, ht, hu1, hu2⟩ := dp3 hv
      refine ⟨_, rfl, a, _, _, _, rfl, rfl, ht, at0, _, rfl, rfl, _, rfl, ifF (by decide +kernel) ⟨_, rfl, rfl, _, rfl, ifT rfl ?_⟩⟩
      exact ⟨_, rfl, _, rfl, _, rfl, e, _, .factOr y p, n, ol, opn, x, rfl, R, hv, hok, hh, trivial, q⟩
    | due y =>
      obtain ⟨a, u1, rfl, ht, hu1⟩ := dp2 hv
      obtain rfl := dp_str hu1
      refine ⟨_, rfl, a, _, _, _, rfl, rfl, ht, at0, _, rfl, rfl, _, rfl, ifF (by decide +kernel) ⟨_, rfl, rfl, _, rfl, ifF (by decide +kernel) ⟨_, rfl, rfl, _, rfl, ifT rfl ?_⟩⟩⟩
      exact ⟨_, rfl, _, rfl, a, _, _, _, rfl, rfl, ht, at1, _, rfl, e, y, n, ol, opn ++ [x], rfl, R.F, R.l, hok, R.o, R.no, R.hd, q⟩
    | pct k p =>
      obtain ⟨a, u1, u2, rfl, ht, hu1, hu2⟩ := dp3 hv
      obtain rfl := dp_int hu1
      obtain ⟨k0, k1, okp⟩ := hok
      refine ⟨_, rfl, a, _, _, _, rfl, rfl, ht, at0, _, rfl, rfl, _, rfl, ifF (by decide +kernel) ⟨_, rfl, rfl, _, rfl, ifF (by decide +kernel) ⟨_, rfl, rfl, _, rfl, ifF (by decide +kernel) ⟨_, rfl, rfl, _, rfl, ifT rfl ?_⟩⟩⟩⟩
      simp only [rdA] at q
      refine ⟨_, rfl, a, _, _, _, rfl, rfl, ht, at1, _, rfl, _, rfl, a, _, _, _, rfl, rfl, ht, at2, _, rfl, e, u2, p, n, ol, opn, x, rfl, R, hu2, okp, Nat.le_of_succ_le_succ hh, trivial, q.bind fun z n1 H1 hz s1 l1 q1 => ?_⟩
      refine ⟨_, _, rfl, rfl, .inl ⟨by omega, by omega⟩, _, _, rfl, rfl, ⟨by decide, by decide⟩, _, rfl, e.fl, ol, n1, _, opn, x, rfl, l1, s1 _ _ R.no R.o, q1⟩
    | ite c y z =>
      obtain ⟨a, u1, u2, u3, rfl, ht, hu1, hu2, hu3⟩ := dp4 hv
      obtain ⟨okc, oky, okz⟩ := hok
      have hh' : max (hgt c) (max (hgt y) (hgt z)) + 1 ≤ h + 1 := hh
      refine ⟨_, rfl, a, _, _, _, rfl, rfl, ht, at0, _, rfl, rfl, _, rfl, ifF (by decide +kernel) ⟨_, rfl, rfl, _, rfl, ifF (by decide +kernel) ⟨_, rfl, rfl, _, rfl, ifF (by decide +kernel) ⟨_, rfl, rfl, _, rfl, ifF (by decide +kernel) ⟨_, rfl, rfl, _, rfl, ifT rfl ?_⟩⟩⟩⟩⟩
      simp only [rdA] at q
      refine ⟨_, rfl, _, rfl, a, _, _, _, rfl, rfl, ht, at1, _, rfl, e, u1, c, n, ol, opn, x, rfl, R, hu1, okc, by omega, q.bind fun t n1 H1 hz s1 l1 q1 => ?_⟩
      have R1 := R.same s1 l1
      refine ⟨_, rfl, ?_⟩
      cases t with
      | true =>
        rw [if_pos rfl] at q1
        exact iteT ⟨_, rfl, _, rfl, a, _, _, _, rfl, rfl, R.l.sqT s1 ht, at2, _, rfl, e, u2, y, n1, ol, opn, x, rfl, R1, R.l.dp s1 (pd_tup y) hu2, oky, by omega, trivial, q1⟩
      | false =>
        rw [if_neg Bool.false_ne_true] at q1
        exact iteF ⟨_, rfl, _, rfl, a, _, _, _, rfl, rfl, R.l.sqT s1 ht, at3, _, rfl, e, u3, z, n1, ol, opn, x, rfl, R1, R.l.dp s1 (pd_tup z) hu3, okz, by omega, trivial, q1⟩
    | op k y z =>
      obtain ⟨a, u1, u2, rfl, ht, hu1, hu2⟩ := dp3 hv
      obtain ⟨oky, okz⟩ := hok
      have hh' : max (hgt y) (hgt z) + 1 ≤ h + 1 := hh
      refine ⟨_, rfl, a, _, _, _, rfl, rfl, ht, at0, _, rfl, rfl, _, rfl, ifF (op_no (by decide +kernel)) ⟨_, rfl, rfl, _, rfl, ifF (op_no (by decide +kernel)) ⟨_, rfl, rfl, _, rfl, ifF (op_no (by decide +kernel)) ⟨_, rfl, rfl, _, rfl, ifF (op_no (by decide +kernel)) ⟨_, rfl, rfl, _, rfl, ifF (op_no (by decide +kernel)) ?_⟩⟩⟩⟩⟩
      simp only [rdA] at q
      refine ⟨_, rfl, _, rfl, a, _, _, _, rfl, rfl, ht, at1, _, rfl, e, u1, y, n, ol, opn, x, rfl, R, hu1, oky, by omega, trivial, q.bind fun u n1 H1 hu s1 l1 q1 => ?_⟩
      have R1 := R.same s1 l1
      refine ⟨_, rfl, _, rfl, a, _, _, _, rfl, rfl, R.l.sqT s1 ht, at2, _, rfl, e, u2, z, n1, ol, opn, x, rfl, R1, R.l.dp s1 (pd_tup z) hu2, okz, by omega, trivial, q1.bind fun v n2 H2 hv2 s2 l2 q2 => ?_⟩
      have ho2 : H2 ol = _ := s2 _ _ R.no (s1 _ _ R.no R.o)
      have su := hsm oky hu
      cases k with
      | plus => exact ⟨_, rfl, rfl, _, rfl, ifT rfl ⟨_, rfl, _, rfl, _, _, rfl, rfl, _, rfl, e.fl, ol, n2, _, opn, x, rfl, l2, ho2, q2⟩⟩
      | minus => exact ⟨_, rfl, rfl, _, rfl, ifF (by decide +kernel) ⟨_, rfl, rfl, _, rfl, ifT rfl ⟨_, rfl, _, rfl, _, _, rfl, rfl, _, rfl, e.fl, ol, n2, _, opn, x, rfl, l2, ho2, q2⟩⟩⟩
      | times => exact ⟨_, rfl, rfl, _, rfl, ifF (by decide +kernel) ⟨_, rfl, rfl, _, rfl, ifF (by decide +kernel) ⟨_, rfl, rfl, _, rfl, ifT rfl ⟨_, rfl, _, rfl, _, _, rfl, rfl, .inl ⟨by have := su.1; omega, by have := su.2; omega⟩, _, rfl, e.fl, ol, n2, _, opn, x, rfl, l2, ho2, q2⟩⟩⟩⟩
      | least => exact ⟨_, rfl, rfl, _, rfl, ifF (by decide +kernel) ⟨_, rfl, rfl, _, rfl, ifF (by decide +kernel) ⟨_, rfl, rfl, _, rfl, ifF (by decide +kernel) ⟨_, rfl, rfl, _, rfl, ifT rfl ⟨_, rfl, _, rfl, _, _, rfl, q2 H2 (.refl _ _) l2⟩⟩⟩⟩⟩
      | most => exact ⟨_, rfl, rfl, _, rfl, ifF (by decide +kernel) ⟨_, rfl, rfl, _, rfl, ifF (by decide +kernel) ⟨_, rfl, rfl, _, rfl, ifF (by decide +kernel) ⟨_, rfl, rfl, _, rfl, ifF (by decide +kernel) ⟨_, rfl, _, rfl, _, _, rfl, q2 H2 (.refl _ _) l2⟩⟩⟩⟩⟩
    | _ => exact hok.elim
end
end K14

set_option Elab.async false
set_option maxRecDepth 100000
set_option maxHeartbeats 4000000
/-! decisions: read_condition, the induction, reading, decide -/
namespace K14
open PySem PySem.Spec PyProof.Rows L2
open C8 (Cal Met Mak pe_c pe_mk pe_mt pe_mt0 pss_cut)
section
variable {P : Program} {w : World} {K : PySem.W.Frag} {mg : Str → Option Value} {base : Heap} {CF CB CS : Addr}
theorem scRCond : FnScope ["source", "part", "open_rules", "kind", "first", "second"] ["source", "part", "open_rules"] (defScope (top 51)) := ⟨rfl, rfl, rfl, by decide +kernel, rfl, by decide +kernel, by decide +kernel⟩
theorem c_read_condition {d h m : Nat} (hm : 5 ≤ m) (G : Gf K mg "read_condition" (top 51) ["source", "part", "open_rules"]) (mF : MetX P w K mg base 5 CF "fact" (spFFact K CF CB CS))
    (cR : CalX P w K mg base m "read" (spRead K CF CB CS anyNd d h)) (cC : CalX P w K mg base m "read_condition" (spCond K CF CB CS d h)) : CalX P w K mg base (m + 2) "read_condition" (spCond K CF CB CS d (h + 1)) := by
  refine G.calX scRCond (fun vs H Q E h => ?_) (fun f cdv A outer s H vs Q E hr h => ?_)
  · obtain ⟨e, v, p, n, ol, opn, x, rfl, _⟩ := h
    rfl
  · obtain ⟨e, v, p, n, ol, opn, x, rfl, R, hv, hok, hh, q⟩ := h
    refine ⟨_, pss_cons (ps_set (i := 3) scRCond.nd rfl (.inl rfl) (pe_ix ix_tup (pv 1) pe_int (fun _ _ => rfl)))
      (pss_cons (ps_if (pt_cmpR op_eq (pv 3) pe_str (nomark _)) (pss_one (ps_ret (pe_cmpR op_notN (pe_mtx mF hr (by omega) (passes_call (takes_of rfl rfl rfl rfl) fun _ _ _ _ h => h) (pv 0) (pa_cons (pe_ix ix_tup (pv 1) pe_int (fun _ _ => rfl)) pa_nil)) pe_non (nomark _)))) pss_nil)
      (pss_cons (ps_if (pt_cmpR op_eq (pv 3) pe_str (nomark _)) (pss_one (ps_ret (pe_not (pe_cx cC hr (by omega) (passes_call (takes_of rfl rfl rfl rfl) fun _ _ _ _ h => h) rfl (pa_cons (pv 0) (pa_cons (pe_ix ix_tup (pv 1) pe_int (fun _ _ => rfl)) (pa_cons (pv 2) pa_nil))))))) pss_nil)
      (pss_cons (ps_if (pt_cmpR op_eq (pv 3) pe_str (nomark _)) (pss_one (ps_ret (pe_and (pe_cx cC hr (by omega) (passes_call (takes_of rfl rfl rfl rfl) fun _ _ _ _ h => h) rfl (pa_cons (pv 0) (pa_cons (pe_ix ix_tup (pv 1) pe_int (fun _ _ => rfl)) (pa_cons (pv 2) pa_nil))))
          (pe_one (pe_cx cC hr (by omega) (passes_call (takes_of rfl rfl rfl rfl) fun _ _ _ _ h => h) rfl (pa_cons (pv 0) (pa_cons (pe_ix ix_tup (pv 1) pe_int (fun _ _ => rfl)) (pa_cons (pv 2) pa_nil)))))))) pss_nil)
      (pss_cons (ps_if (pt_cmpR op_eq (pv 3) pe_str (nomark _)) (pss_one (ps_ret (pe_or (pe_cx cC hr (by omega) (passes_call (takes_of rfl rfl rfl rfl) fun _ _ _ _ h => h) rfl (pa_cons (pv 0) (pa_cons (pe_ix ix_tup (pv 1) pe_int (fun _ _ => rfl)) (pa_cons (pv 2) pa_nil))))
          (pe_one (pe_cx cC hr (by omega) (passes_call (takes_of rfl rfl rfl rfl) fun _ _ _ _ h => h) rfl (pa_cons (pv 0) (pa_cons (pe_ix ix_tup (pv 1) pe_int (fun _ _ => rfl)) (pa_cons (pv 2) pa_nil)))))))) pss_nil)
      (pss_cons (ps_set (i := 4) scRCond.nd rfl (.inl rfl) (pe_cx cR hr (by omega) (passes_call (takes_of rfl rfl rfl rfl) fun _ _ _ _ h => h) rfl (pa_cons (pv 0) (pa_cons (pe_ix ix_tup (pv 1) pe_int (fun _ _ => rfl)) (pa_cons (pv 2) pa_nil)))))
      (pss_cons (ps_set (i := 5) scRCond.nd rfl (.inl rfl) (pe_cx cR hr (by omega) (passes_call (takes_of rfl rfl rfl rfl) fun _ _ _ _ h => h) rfl (pa_cons (pv 0) (pa_cons (pe_ix ix_tup (pv 1) pe_int (fun _ _ => rfl)) (pa_cons (pv 2) pa_nil)))))
      (pss_cons (ps_if (pt_cmpR op_eq (pv 3) pe_str (nomark _)) (pss_one (ps_ret (pe_cmpR op_lt (pv 4) (pv 5) (nomark _)))) pss_nil)
      (pss_one (ps_ret (pe_cmpR op_eq (pv 4) (pv 5) (nomark _))))))))))), ?_⟩
    cases p with
    | known y =>
      obtain ⟨a, u1, rfl, ht, hu1⟩ := dp2 hv
      obtain rfl := dp_str hu1
      obtain ⟨dx, h1⟩ := R.F.ob
      refine ⟨_, rfl, a, _, _, _, rfl, rfl, ht, at0, _, rfl, rfl, _, rfl, ifT rfl ?_⟩
      refine ⟨_, rfl, e.f, dx, _, rfl, h1, finF_no (by decide +kernel) (by decide +kernel) (by decide +kernel) (by decide +kernel) (by decide +kernel), _, rfl, a, _, _, _, rfl, rfl, ht, at1, e, y, n, rfl, R.F, R.l, hok, ?_⟩
      simp only [rdC] at q
      unfold lookM
      by_cases c : n = 100
      · rw [if_pos c] at q ⊢
        exact q
      · rw [if_neg c] at q ⊢
        intro H1 s1 l1
        have q1 := q H1 s1 l1
        cases hi : lastM e.es (.fact e.ps y) e.day e.known e.es.length with
        | some i =>
          obtain ⟨c0, a0, b0, z0, z, g1, g2, g3⟩ := lastM_fact hi
          have g3' : e.L.fact y = some z := g3
          rw [g3'] at q1
          refine ⟨rfl, ?_⟩
          have ed : decide (optN (some i) = V.non) = false := decide_eq_false (by intro z; cases z)
          rw [ed]
          exact q1
        | none =>
          have g3' : e.L.fact y = none := lastM_fact_none hi
          rw [g3'] at q1
          exact ⟨rfl, q1⟩
    | neg c =>
      obtain ⟨a, u1, rfl, ht, hu1⟩ := dp2 hv
      refine ⟨_, rfl, a, _, _, _, rfl, rfl, ht, at0, _, rfl, rfl, _, rfl, ifF (by decide +kernel) ⟨_, rfl, rfl, _, rfl, ifT rfl ?_⟩⟩
      simp only [rdC] at q
      refine ⟨_, rfl, _, rfl, a, _, _, _, rfl, rfl, ht, at1, _, rfl, e, u1, c, n, ol, opn, x, rfl, R, hu1, hok, Nat.le_of_succ_le_succ hh, q.bind fun t n1 H1 hz s1 l1 q1 => ?_⟩
      exact ⟨t, rfl, q1 H1 (.refl _ _) l1⟩
    | jn k y z =>
      obtain ⟨a, u1, u2, rfl, ht, hu1, hu2⟩ := dp3 hv
      obtain ⟨oky, okz⟩ := hok
      have hh' : max (hgt y) (hgt z) + 1 ≤ h + 1 := hh
      cases k with
      | both =>
        refine ⟨_, rfl, a, _, _, _, rfl, rfl, ht, at0, _, rfl, rfl, _, rfl, ifF (by decide +kernel) ⟨_, rfl, rfl, _, rfl, ifF (by decide +kernel) ⟨_, rfl, rfl, _, rfl, ifT rfl ?_⟩⟩⟩
        simp only [rdC] at q
        refine ⟨_, rfl, _, rfl, a, _, _, _, rfl, rfl, ht, at1, _, rfl, e, u1, y, n, ol, opn, x, rfl, R, hu1, oky, by omega, q.bind fun t n1 H1 hz s1 l1 q1 => ⟨t, rfl, ?_⟩⟩
        cases t with
        | true =>
          rw [if_pos rfl] at q1
          exact iteT ⟨_, rfl, _, rfl, a, _, _, _, rfl, rfl, R.l.sqT s1 ht, at2, _, rfl, e, u2, z, n1, ol, opn, x, rfl, R.same s1 l1, R.l.dp s1 (pd_tup z) hu2, okz, by omega, q1⟩
        | false =>
          rw [if_neg Bool.false_ne_true] at q1
          exact iteF (q1 H1 (.refl _ _) l1)
      | either =>
        refine ⟨_, rfl, a, _, _, _, rfl, rfl, ht, at0, _, rfl, rfl, _, rfl, ifF (by decide +kernel) ⟨_, rfl, rfl, _, rfl, ifF (by decide +kernel) ⟨_, rfl, rfl, _, rfl, ifF (by decide +kernel) ⟨_, rfl, rfl, _, rfl, ifT rfl ?_⟩⟩⟩⟩
        simp only [rdC] at q
        refine ⟨_, rfl, _, rfl, a, _, _, _, rfl, rfl, ht, at1, _, rfl, e, u1, y, n, ol, opn, x, rfl, R, hu1, oky, by omega, q.bind fun t n1 H1 hz s1 l1 q1 => ⟨t, rfl, ?_⟩⟩
        cases t with
        | true =>
          rw [if_pos rfl] at q1
          exact iteT (q1 H1 (.refl _ _) l1)
        | false =>
          rw [if_neg Bool.false_ne_true] at q1
          exact iteF ⟨_, rfl, _, rfl, a, _, _, _, rfl, rfl, R.l.sqT s1 ht, at2, _, rfl, e, u2, z, n1, ol, opn, x, rfl, R.same s1 l1, R.l.dp s1 (pd_tup z) hu2, okz, by omega, q1⟩
    | cmp k y z =>
      obtain ⟨a, u1, u2, rfl, ht, hu1, hu2⟩ := dp3 hv
      obtain ⟨oky, okz⟩ := hok
      have hh' : max (hgt y) (hgt z) + 1 ≤ h + 1 := hh
      refine ⟨_, rfl, a, _, _, _, rfl, rfl, ht, at0, _, rfl, rfl, _, rfl, ifF (cm_no (by decide +kernel)) ⟨_, rfl, rfl, _, rfl, ifF (cm_no (by decide +kernel)) ⟨_, rfl, rfl, _, rfl, ifF (cm_no (by decide +kernel)) ⟨_, rfl, rfl, _, rfl, ifF (cm_no (by decide +kernel)) ?_⟩⟩⟩⟩
      simp only [rdC] at q
      refine ⟨_, rfl, _, rfl, a, _, _, _, rfl, rfl, ht, at1, _, rfl, e, u1, y, n, ol, opn, x, rfl, R, hu1, oky, by omega, trivial, q.bind fun u n1 H1 hu s1 l1 q1 => ?_⟩
      have R1 := R.same s1 l1
      refine ⟨_, rfl, _, rfl, a, _, _, _, rfl, rfl, R.l.sqT s1 ht, at2, _, rfl, e, u2, z, n1, ol, opn, x, rfl, R1, R.l.dp s1 (pd_tup z) hu2, okz, by omega, trivial, q1.bind fun v n2 H2 hv2 s2 l2 q2 => ?_⟩
      have q3 := q2 H2 (.refl _ _) l2
      cases k with
      | below => exact ⟨_, rfl, rfl, _, rfl, ifT rfl ⟨_, rfl, _, rfl, _, _, rfl, rfl, q3⟩⟩
      | same =>
        refine ⟨_, rfl, rfl, _, rfl, ifF (by decide +kernel) ⟨_, rfl, _, rfl, rfl, ?_⟩⟩
        have ed : decide (V.int u = V.int v) = cmM .same u v := decide_eq_decide.mpr ⟨fun z => V.int.inj z, fun z => by rw [z]⟩
        rw [ed]
        exact q3
    | _ => exact hok.elim
theorem calX_none {x : Str} {st : Stmt} {ps : List Str} {k : Nat} {sp : Sp} (G : Gf K mg x st ps) (no : ∀ vs H Q E, ¬ sp vs H Q E) : CalX P w K mg base k x sp := by
  obtain ⟨f, fd, F, hm, hb⟩ := G.ex
  exact ⟨f, fd, ps, ⟨fun vs H Q E h => absurd h (no vs H Q E), fun A outer s H args us vs Q E _ _ _ _ h => absurd h (no vs H Q E)⟩, hm, F.kp, hb⟩
/-- the defs of the reading -/
structure GRead (K : PySem.W.Frag) (mg : Str → Option Value) : Prop where
  fact : Gf K mg "read_fact" (top 47) ["source", "part", "open_rules"]
  rule : Gf K mg "read_rule" (top 49) ["source", "name", "open_rules"]
  read : Gf K mg "read" (top 50) ["source", "part", "open_rules"]
  cond : Gf K mg "read_condition" (top 51) ["source", "part", "open_rules"]
theorem read_all {d r : Nat} (hr12 : 12 ≤ r) (G : GRead K mg) (B : FinC K CF) (S : StopF K mg CS) (T : Tx K mg) (mF : MetX P w K mg base 5 CF "fact" (spFFact K CF CB CS)) (mE : Met P w K mg base 1 CB "entry_at" (spEntryAt K CB) [])
    (cB : CalX P w K mg base 3 "bounded" (spBounded CS)) (cU : CalX P w K mg base r "read_rule" (spRule K CF CB CS d)) : ∀ h, CalX P w K mg base (r + 2 * h) "read" (spRead K CF CB CS anyNd d h) ∧ CalX P w K mg base (r + 2 * h) "read_condition" (spCond K CF CB CS d h)
  | 0 => by
    refine ⟨calX_none G.read fun vs H Q E z => ?_, calX_none G.cond fun vs H Q E z => ?_⟩
    · obtain ⟨e, v, p, n, ol, opn, x, _, _, _, _, h0, _⟩ := z
      have := hgt_pos p
      omega
    · obtain ⟨e, v, p, n, ol, opn, x, _, _, _, _, h0, _⟩ := z
      have := hgt_pos p
      omega
  | h + 1 => by
    obtain ⟨i1, i2⟩ := read_all hr12 G B S T mF mE cB cU h
    exact ⟨c_read (m := r + 2 * h) (by omega) (by omega) G.read T cB (c_read_fact (m := r + 2 * h) (by omega) G.fact B S mF mE i1) cU i1 i2, c_read_condition (m := r + 2 * h) (by omega) G.cond mF i1 i2⟩
theorem rule_all (G : GRead K mg) (B : FinC K CF) (S : StopF K mg CS) (T : Tx K mg) (mF : MetX P w K mg base 5 CF "fact" (spFFact K CF CB CS)) (mR : MetX P w K mg base 5 CF "rule" (spFRule K CF CB CS)) (mE : Met P w K mg base 1 CB "entry_at" (spEntryAt K CB) [])
    (cA : Cal P w K mg base 11 "parse_amount" (spAmount K) []) (cB : CalX P w K mg base 3 "bounded" (spBounded CS)) : ∀ d, CalX P w K mg base (12 + 9 * d) "read_rule" (spRule K CF CB CS d)
  | 0 => c_read_rule (m := 11) (by decide) G.rule B S T mR mE cA (calX_none G.read fun _ _ _ _ z => z)
  | d + 1 => by
    have ih := rule_all G B S T mF mR mE cA cB d
    have h4 := (read_all (by omega) G B S T mF mE cB ih 4).1
    exact c_read_rule (m := 12 + 9 * d + 2 * 4) (by omega) G.rule B S T mR mE cA h4
end
end K14

set_option Elab.async false
set_option maxRecDepth 100000
set_option maxHeartbeats 4000000
/-! decisions: reading, decide -/
namespace K14
open PySem PySem.Spec PyProof.Rows L2
open C8 (Cal Met Mak pe_c pe_mk pe_mt pe_mt0 pss_cut)
section
variable {P : Program} {w : World} {K : PySem.W.Frag} {mg : Str → Option Value} {base : Heap} {CF CB CS : Addr}
def spReading (K : PySem.W.Frag) (CF CB : Addr) : Sp := fun vs H Q _ => ∃ (e : Ev) (x : Str), vs = [.ref e.f, .str x] ∧ Fnd K CF CB H e ∧ FL H e.fl 0 ∧ NameOk x ∧
  ∀ t H', SameX e.fl H H' → Dp K H' (.ref t) (decD (decM e.L x)) → Q (.ref t) H'
theorem scReading : FnScope ["source", "rule", "e"] ["source", "rule"] (defScope (top 52)) := ⟨rfl, rfl, rfl, by decide +kernel, rfl, by decide +kernel, by decide +kernel⟩
def t_body (K : PySem.W.Frag) (CF CB CS : Addr) : WX → TS := fun W => tRet (tTup (tCons (tC (.str "amount")) (tCons (tCallS (spRule K CF CB CS 6) (WE W) (tCons (tVar 0) (tCons (tVar 1) (tCons (tLst tNil) tNil)))) tNil)))
def t_suite (CS : Addr) : Addr → Value → Option Addr → TS := fun a cls d => tRet (tTup (tCons (tXf a cls d CS "kind" (tVar 2)) (tCons (tXf a cls d CS "name" (tVar 2)) tNil)))
theorem c_reading (G : Gf K mg "reading" (top 52) ["source", "rule"]) (S : StopF K mg CS) (cU : CalX P w K mg base 66 "read_rule" (spRule K CF CB CS 6)) : Cal P w K mg base 67 "reading" (spReading K CF CB) [] := by
  obtain ⟨fr, fdr, psr, FR, gR, kR, bR⟩ := cU.ex
  refine G.cal scReading (fun vs H Q E h => ?_) (fun f cdv A outer s H vs Q E hr h => ?_)
  · obtain ⟨e, x, rfl, _⟩ := h
    rfl
  · obtain ⟨e, x, rfl, F, l, N, q⟩ := h
    refine ⟨_, pss_one (ps_try_as (i := 2) (tb := t_body K CF CB CS) (ts := t_suite CS) (Wout := fun _ _ _ _ => False) rfl rfl scReading.nd rfl rfl ⟨rfl, by decide, Or.inl S.g⟩ takes0
      (fun W pn xe tk _ => pss_one (ps_ret (by exact (pe_tup (pa_cons pe_str (pa_cons (pe_callS FR hr rfl gR kR bR (fun σ => passAt tk σ) (by exact (pa_cons (pv 0) (pa_cons (pv 1) (pa_cons (pe_lst pa_nil) pa_nil))))) pa_nil))))))
      (fun a oe cls d pn hz hf => pss_one (ps_ret (by exact (pe_tup (pa_cons (pe_xf S.xf S.nK hz hf (pv 2)) (pa_cons (pe_xf S.xf S.nN hz hf (pv 2)) pa_nil))))))), ?_⟩
    refine ⟨_, rfl, _, rfl, Nat.zero_le _, fun ol hol => ?_⟩
    have s1 : Same H (upd H ol (.lst [])) := same_new hol _
    have l1 := l.same s1
    have no : ol ≠ e.fl := by
      obtain ⟨_, xs, hx, _⟩ := l
      exact (ne_of_none hx hol).symm
    refine ⟨e, x, 0, ol, [], rfl, F.same l (.of s1), l1, N, upd_same, no, rfl, ?_⟩
    unfold decM at q
    cases hres : rdR e.L 6 [] x 0 with
    | ok z n =>
      rw [hres] at q
      intro H2 s2 l2
      refine ⟨by show 2 ≤ sizeLine; decide, fun t ht => ?_⟩
      refine q t _ ((SameX.of s1).trans (s2.trans (.of (same_new ht _)))) ?_
      exact dpT upd_same (.cons (.str _) (.cons (.int _) .nil))
    | stop k y n =>
      rw [hres] at q
      intro d H2 s2 l2 hx
      obtain ⟨fs, hd, hk, hn⟩ := hx
      refine ⟨true, S.te, fun _ a ha => ?_, fun z => Bool.noConfusion z⟩
      refine ⟨_, rfl, rfl, rfl, d, fs, _, rfl, hd, hk, _, rfl, rfl, rfl, d, fs, _, rfl, hd, hn, by show 2 ≤ sizeLine; decide, fun t ht => ?_⟩
      refine q t _ ((SameX.of s1).trans (s2.trans (.of (same_new ht _)))) ?_
      exact dpT upd_same (.cons (.str _) (.cons (.str _) .nil))
def spDecide (K : PySem.W.Frag) (CB : Addr) : Sp := fun vs H Q _ => ∃ (b r s qa : Addr) (es : List Ent) (ps x : Str) (day known : Int), vs = [.ref b, .ref qa] ∧ BookAt K CB H b r s es ∧ EsOk es ∧ es.length ≤ 1000 ∧ NameOk ps ∧ NameOk x ∧ SqT K H qa [.str ps, .str x, .int day, .int known] ∧
  ∀ t u fl H', Same H H' → H' t = some (.tup [.ref u, .ref fl]) → Dp K H' (.ref u) (decD (decM (lkOf es ps day known) x)) → Q (.ref t) H'
theorem scDecide : FnScope ["book", "question", "person", "rule", "day", "known", "finder", "decision"] ["book", "question"] (defScope (top 53)) := ⟨rfl, rfl, rfl, by decide +kernel, rfl, by decide +kernel, by decide +kernel⟩
theorem c_decide (G : Gf K mg "decide" (top 53) ["book", "question"]) (B : FinC K CF) (kF : Mak P w K mg base 1 "Finder" CF (spFInit CF) []) (cR : Cal P w K mg base 67 "reading" (spReading K CF CB) []) : Cal P w K mg base 68 "decide" (spDecide K CB) [] := by
  refine G.cal scDecide (fun vs H Q E h => ?_) (fun f cdv A outer s H vs Q E hr h => ?_)
  · obtain ⟨b, r, s', qa, es, ps, x, day, known, rfl, _⟩ := h
    rfl
  · obtain ⟨b, r, s', qa, es, ps, x, day, known, rfl, BA, ok, hlen, n1, n2, hq, q⟩ := h
    refine ⟨_, pss_cons (ps_asg (pv 1) (pg_tup rfl (pgs_cons (pg_name (i := 2) scDecide.nd rfl (.inl rfl)) (pgs_cons (pg_name (i := 3) scDecide.nd rfl (.inl rfl)) (pgs_cons (pg_name (i := 4) scDecide.nd rfl (.inl rfl)) (pgs_cons (pg_name (i := 5) scDecide.nd rfl (.inl rfl)) pgs_nil))))))
      (pss_cons (ps_set (i := 6) scDecide.nd rfl (.inl rfl) (pe_mk kF hr (by decide) rfl (pa_cons (pv 0) (pa_cons (pv 2) (pa_cons (pv 4) (pa_cons (pv 5) pa_nil))))))
      (pss_cons (ps_set (i := 7) scDecide.nd rfl (.inl rfl) (pe_c cR hr (by decide) rfl (pa_cons (pv 6) (pa_cons (pv 3) pa_nil))))
      (pss_one (ps_ret (pe_tup (pa_cons (pv 7) (pa_cons (pe_fld (pv 6) rfl) pa_nil))))))), ?_⟩
    refine ⟨_, rfl, qa, _, rfl, hq, rfl, _, _, rfl, _, _, rfl, _, _, rfl, _, _, rfl, rfl, ?_⟩
    refine ⟨_, rfl, _, rfl, _, rfl, _, rfl, fun p dx np ndx nex => ?_⟩
    have s0 : Same H (upd (upd H dx (.own p)) p (.ins CF dx [])) := same_made (K := K) np ndx []
    refine ⟨p, dx, b, ps, day, known, rfl, upd_same, fun fl H1 hfl nfp h1 h2 keep => ⟨rfl, ?_⟩⟩
    have s1 : Same H H1 := fun c o z => keep c o (s0 c o z) (ne_of_none z np)
    have fl0 : H fl = none := s0.free hfl
    have B1 := BA.same s1
    have nr : r ≠ fl := by
      obtain ⟨rows, hrw, _⟩ := BA.rows
      exact ne_of_none hrw fl0
    refine ⟨_, rfl, _, rfl, ⟨p, fl, b, r, s', es, ps, day, known⟩, x, rfl, ⟨⟨dx, h2⟩, B1, nr, n1, ok, hlen⟩, ⟨by decide, [], h1, rfl⟩, n2, fun u H2 s2 hu => ?_⟩
    have s3 : Same H H2 := fun c o z => s2 c o (ne_of_none z fl0) (s1 c o z)
    have hp2 := s2 _ _ nfp.symm h2
    refine ⟨_, rfl, _, rfl, p, CF, dx, _, _, rfl, hp2, B.cl, B.nF, finF_found, by show 2 ≤ sizeLine; decide, fun t ht => ?_⟩
    exact q t u fl _ (s3.trans (same_new ht _)) upd_same (dp_same (same_new ht _) hu)
end
end K14

set_option Elab.async false
set_option maxRecDepth 100000
set_option maxHeartbeats 4000000
/-! spans: edges_of -/
namespace K14
open PySem PySem.Spec PyProof.Rows L2
open C8 (Cal Met Mak pe_c pe_mk pe_mt pe_mt0 pss_cut)
/-- the days that an entry's span names -/
def pt1 (e : Ent) : List Int := match e with
  | .strike _ _ => []
  | e => [e.span.1, e.span.2]
def pts (es : List Ent) : List Int := es.flatMap pt1
/-- the days on which a decision may change -/
structure EdgesOf (es : List Ent) (f t : Int) (ns : List Int) : Prop where
  up : ns.Pairwise (· < ·)
  mem : ∀ d, d ∈ ns ↔ d = f ∨ d = t ∨ (f < d ∧ d < t ∧ d ∈ pts es)
  few : ns.length ≤ 10000
/-- a dict of days -/
def kvO (ds : List Int) : List (Key × V) := ds.map fun d => (Sum.inl d, V.bl true)
theorem kvO_val : ∀ (ds : List Int) (d : Int), valV (kvO ds) (Sum.inl d : Key) = if d ∈ ds then some (.bl true) else none
  | [], d => by simp [kvO, valV]
  | x :: r, d => by
    show valV ((Sum.inl x, V.bl true) :: kvO r) (Sum.inl d : Key) = _
    by_cases h : x = d
    · subst h
      rw [valV_pos rfl, if_pos (List.mem_cons_self ..)]
    · rw [valV_neg (fun z => h (Sum.inl.inj z)), kvO_val r d]
      by_cases h2 : d ∈ r
      · rw [if_pos h2, if_pos (List.mem_cons_of_mem _ h2)]
      · rw [if_neg h2, if_neg]
        intro z
        rcases List.mem_cons.mp z with z | z
        · exact h z.symm
        · exact h2 z
theorem kvO_put (ds : List Int) (d : Int) : putK (kvO ds) (Sum.inl d : Key) (.bl true) = kvO (if d ∈ ds then ds else ds ++ [d]) := by
  by_cases h : d ∈ ds
  · rw [if_pos h]
    unfold putK
    have hany : ((kvO ds).any fun kv => decide (kv.1 = (Sum.inl d : Key))) = true := by
      rw [valV_any, kvO_val, if_pos h]
      rfl
    first
      | rw [if_pos hany]
      | skip
    have : ∀ l : List Int, (kvO l).map (fun kv => if kv.1 = (Sum.inl d : Key) then (kv.1, V.bl true) else kv) = kvO l := by
      intro l
      unfold kvO
      rw [List.map_map]
      refine List.map_congr_left fun x _ => ?_
      show (if (Sum.inl x : Key) = Sum.inl d then ((Sum.inl x : Key), V.bl true) else (Sum.inl x, V.bl true)) = _
      split <;> rfl
    exact this ds
  · rw [if_neg h, putK_new _ (by rw [kvO_val, if_neg h])]
    unfold kvO
    rw [List.map_append]
    rfl
theorem kvO_length (ds : List Int) : (kvO ds).length = ds.length := List.length_map _
theorem kvO_keys (ds : List Int) : ((kvO ds).map fun kv => kV kv.1) = ds.map V.int := by
  unfold kvO
  rw [List.map_map]
  rfl
theorem SameX.da_dict {K : PySem.W.Frag} {H H' : Hp} {l : Addr} {kvs : List (Key × V)} (e : SameX l H H') (hl : H l = some (.dK kvs)) {ds : List PyData} {vs : List V} (t : tupD.tupDs ds = true) (h : DpAll K H vs ds) : DpAll K H' vs ds :=
  dpAll_tup (fun _ _ => e.sqT (fun _ q => by rw [hl] at q; cases q) (fun _ _ q => by rw [hl] at q; cases q)) ds vs t h
section
variable {P : Program} {w : World} {K : PySem.W.Frag} {mg : Str → Option Value} {base : Heap} {C : Addr}
def spEdges (K : PySem.W.Frag) (C : Addr) : Sp := fun vs H Q _ => ∃ (b r s sp : Addr) (es : List Ent) (f t : Int), vs = [.ref b, .ref sp] ∧ BookAt K C H b r s es ∧ es.length ≤ 1000 ∧ SqT K H sp [.int f, .int t] ∧ f < t ∧
  ∀ l ns H', Same H H' → H' l = some (.lst (ns.map V.int)) → EdgesOf es f t ns → Q (.ref l) H'
theorem scEdges : FnScope ["book", "span", "first", "after", "days", "entry", "day"] ["book", "span"] (defScope (top 55)) := ⟨rfl, rfl, rfl, by decide +kernel, rfl, by decide +kernel, by decide +kernel⟩
/-- what the dict holds -/
structure DaysAt (f t : Int) (ps : List Int) (m : Nat) (ds : List Int) : Prop where
  nd : ds.Nodup
  len : ds.length ≤ 2 + m
  mem : ∀ d, d ∈ ds ↔ d = f ∨ d = t ∨ (f < d ∧ d < t ∧ d ∈ ps)
theorem DaysAt.add {f t : Int} {ps : List Int} {m : Nat} {ds : List Int} (D : DaysAt f t ps m ds) {x : Int} (h : f < x ∧ x < t) : DaysAt f t (ps ++ [x]) (m + 1) (if x ∈ ds then ds else ds ++ [x]) := by
  obtain ⟨nd, len, mem⟩ := D
  by_cases c : x ∈ ds
  · rw [if_pos c]
    refine ⟨nd, by omega, fun d => ?_⟩
    rw [mem d, List.mem_append, List.mem_singleton]
    constructor
    · rintro (h | h | h)
      · exact .inl h
      · exact .inr (.inl h)
      · exact .inr (.inr ⟨h.1, h.2.1, .inl h.2.2⟩)
    · rintro (h | h | ⟨h1, h2, h3 | h3⟩)
      · exact .inl h
      · exact .inr (.inl h)
      · exact .inr (.inr ⟨h1, h2, h3⟩)
      · subst h3
        exact (mem d).mp c
  · rw [if_neg c]
    refine ⟨nd_snoc nd c, by rw [List.length_append, List.length_singleton]; omega, fun d => ?_⟩
    rw [List.mem_append, List.mem_singleton, List.mem_append, List.mem_singleton, mem d]
    constructor
    · rintro ((h1 | h1 | h1) | rfl)
      · exact .inl h1
      · exact .inr (.inl h1)
      · exact .inr (.inr ⟨h1.1, h1.2.1, .inl h1.2.2⟩)
      · exact .inr (.inr ⟨h.1, h.2, .inr rfl⟩)
    · rintro (h1 | h1 | ⟨h1, h2, h3 | h3⟩)
      · exact .inl (.inl h1)
      · exact .inl (.inr (.inl h1))
      · exact .inl (.inr (.inr ⟨h1, h2, h3⟩))
      · exact .inr h3
theorem DaysAt.skip {f t : Int} {ps : List Int} {m : Nat} {ds : List Int} (D : DaysAt f t ps m ds) {x : Int} (h : ¬ (f < x ∧ x < t)) : DaysAt f t (ps ++ [x]) (m + 1) ds := by
  obtain ⟨nd, len, mem⟩ := D
  refine ⟨nd, by omega, fun d => ?_⟩
  rw [mem d, List.mem_append, List.mem_singleton]
  constructor
  · rintro (h1 | h1 | h1)
    · exact .inl h1
    · exact .inr (.inl h1)
    · exact .inr (.inr ⟨h1.1, h1.2.1, .inl h1.2.2⟩)
  · rintro (h1 | h1 | ⟨h1, h2, h3 | h3⟩)
    · exact .inl h1
    · exact .inr (.inl h1)
    · exact .inr (.inr ⟨h1, h2, h3⟩)
    · subst h3
      exact absurd ⟨h1, h2⟩ h
theorem DaysAt.more {f t : Int} {ps : List Int} {m m' : Nat} {ds : List Int} (D : DaysAt f t ps m ds) (h : m ≤ m') : DaysAt f t ps m' ds := ⟨D.nd, by have := D.len; omega, D.mem⟩
theorem c_edges_of (G : Gf K mg "edges_of" (top 55) ["book", "span"]) (T : Tx K mg) (mE : Met P w K mg base 1 C "entries" (spEntries K C) []) : Cal P w K mg base 2 "edges_of" (spEdges K C) [] := by
  refine G.cal scEdges (fun vs H Q E h => ?_) (fun f cdv A outer s H vs Q E hr h => ?_)
  · obtain ⟨b, r, s', sp, es, f, t, rfl, _⟩ := h
    rfl
  · obtain ⟨b, r, s', sp, es, f, t, rfl, BA, hlen, hsp, hft, q⟩ := h
    have hu := hu_of hr
    refine ⟨_, pss_cons (ps_asg (pv 1) (pg_tup rfl (pgs_cons (pg_name (i := 2) scEdges.nd rfl (.inl rfl)) (pgs_cons (pg_name (i := 3) scEdges.nd rfl (.inl rfl)) pgs_nil))))
      (pss_cons (ps_set (i := 4) scEdges.nd rfl (.inl rfl) (pe_disp (pps_cons (pv 2) pe_bl (pps_cons (pv 3) pe_bl pps_nil)) (by rfl) (by rfl) (fun z => by cases z) (by decide)))
      (pss_cons (ps_for PassesOwn.never rfl (pi_list (pe_mt0 mE hr (by decide) (pv 0))) (pg_name (i := 5) scEdges.nd rfl (.inl rfl))
        (pss_one (ps_if (pt_cmpR op_ne (pe_ix ix_tup (pv 5) pe_int (fun _ _ => rfl)) pe_str (nomark _))
          (pss_one (ps_for PassesOwn.never rfl (pi_tup (pe_ix ix_tup (pv 5) (pe_un un_neg pe_int) (fun _ _ => rfl))) (pg_name (i := 6) scEdges.nd rfl (.inl rfl))
            (pss_one (ps_if (pt_chain op_lt op_lt (pv 2) (pv 6) (pv 3)) (pss_one (ps_dput hu (pv 4) (pv 6) pe_bl rfl)) pss_nil)))) pss_nil)))
      (pss_one (ps_ret (pe_callB cr_sortedI (by rfl) T.sorted (by decide +kernel) (pa_cons (pe_callTy (call_list_dK rfl) (by rfl) T.list (by decide +kernel) (pa_cons (pv 4) pa_nil)) pa_nil)))))), ?_⟩
    refine ⟨_, rfl, sp, _, rfl, hsp, rfl, _, _, rfl, _, _, rfl, rfl, ?_⟩
    intro dd hdd
    refine ⟨_, rfl, _, rfl, upd_same, [(Sum.inl f, .bl true), (Sum.inl t, .bl true)], rfl, by show 2 ≤ 15; decide, ?_⟩
    have em : mergeK [] [((Sum.inl f : Key), V.bl true), (Sum.inl t, .bl true)] = kvO [f, t] := by
      show putK (putK [] (Sum.inl f : Key) (.bl true)) (Sum.inl t) (.bl true) = _
      rw [show (putK [] (Sum.inl f : Key) (V.bl true)) = kvO [f] from kvO_put [] f, kvO_put [f] t, if_neg]
      · rfl
      · rw [List.mem_singleton]
        omega
    rw [em, upd_upd]
    have s1 := same_new hdd (.dK (kvO [f, t]))
    have B1 := BA.same s1
    obtain ⟨dx1, g1⟩ := B1.ob
    refine ⟨_, rfl, b, dx1, _, rfl, g1, bookF_no _ _ (by decide +kernel) (by decide +kernel), b, r, s', es, rfl, B1, fun l xs H2 s2 hl hxs => ?_⟩
    have hd2 : H2 dd = some (.dK (kvO [f, t])) := s2 _ _ upd_same
    have nld : l ≠ dd := ne_of hl hd2 (by intro z; cases z)
    have elen : xs.length = es.length := by rw [da_length hxs, List.length_map]
    refine ⟨l, rfl, ⟨_, SqL.of hl⟩, for_it (walk_list (K := K) (xs := xs)) (fun i σ H' => ∃ (v5 v6 : Option V) (ds : List Int), σ = [some (.ref b), some (.ref sp), some (.int f), some (.int t), some (.ref dd), v5, v6] ∧ SameX dd H2 H' ∧ H' dd = some (.dK (kvO ds)) ∧ DaysAt f t (pts (es.take i)) (2 * i) ds)
      ⟨none, none, [f, t], rfl, .refl _ _, hd2, ⟨?_, by show 2 ≤ 2 + 2 * 0; decide, fun d => ?_⟩⟩ (fun i σ H' _ h => by obtain ⟨_, _, _, _, s3, _⟩ := h; exact SqL.of (s3 _ _ nld hl)) ?_ ?_⟩
    · simp
      omega
    · show d ∈ [f, t] ↔ d = f ∨ d = t ∨ (f < d ∧ d < t ∧ d ∈ [])
      simp
    · rintro i y σ H4 H3 hi ⟨v5, v6, ds, rfl, s3, h3, D⟩ ⟨rfl, hy⟩
      have hi' : i < es.length := by omega
      have he : es[i]? = some es[i] := List.getElem?_eq_getElem hi'
      obtain ⟨d0, hd0, hyd⟩ := da_get2 hxs hy
      rw [List.getElem?_map, he] at hd0
      have ed := Option.some.inj hd0
      rw [← ed] at hyd
      have hyd3 : Dp K H3 y (entD es[i]) := dp_tup (fun _ _ => s3.sqT (fun _ z => by rw [hd2] at z; cases z) (fun _ _ z => by rw [hd2] at z; cases z)) _ _ (ent_tup _) hyd
      have ept : pts (es.take (i + 1)) = pts (es.take i) ++ pt1 es[i] := by
        rw [List.take_add_one, he]
        unfold pts
        rw [List.flatMap_append]
        show _ ++ List.flatMap pt1 [es[i]] = _
        simp
      rw [ept]
      generalize es[i] = e at hyd3
      obtain ⟨a, zs, rfl, ht⟩ := ent_any hyd3
      refine ⟨_, rfl, a, _, _, _, rfl, rfl, ht, at0, rfl, _, rfl, ?_⟩
      by_cases hs : e.isStrike = true
      · have ek : e.kind = "strike" := by
          cases e with
          | strike c j => rfl
          | report _ _ _ _ _ _ => cases hs
          | enact _ _ _ _ _ => cases hs
        have ep1 : pt1 e = [] := by
          cases e with
          | strike c j => rfl
          | report _ _ _ _ _ _ => cases hs
          | enact _ _ _ _ _ => cases hs
        rw [ek, ep1, List.append_nil]
        refine iteNS rfl ?_
        exact ⟨_, v6, ds, rfl, s3, h3, D.more (by omega)⟩
      · have hs' : e.isStrike = false := by simpa using hs
        have ep1 : pt1 e = [e.span.1, e.span.2] := by
          cases e with
          | strike c j => cases hs'
          | report _ _ _ _ _ _ => rfl
          | enact _ _ _ _ _ => rfl
        rw [ep1]
        refine ifNT (kind_no hs') ?_
        obtain ⟨a', su, zs', ea, ht', hsu⟩ := ent_last hyd3 hs'
        have ea' := V.ref.inj ea
        subst ea'
        refine ⟨_, rfl, _, rfl, a, _, _, _, rfl, rfl, ht', atI_last _ _, su, rfl, ⟨_, hsu⟩, for_it (walk_tup (K := K) (xs := [.int e.span.1, .int e.span.2])) (fun j σ H' => ∃ (v6 : Option V) (ds : List Int), σ = [some (.ref b), some (.ref sp), some (.int f), some (.int t), some (.ref dd), some (.ref a), v6] ∧ SameX dd H3 H' ∧ H' dd = some (.dK (kvO ds)) ∧ DaysAt f t (pts (es.take i) ++ [e.span.1, e.span.2].take j) (2 * i + j) ds)
          ⟨v6, ds, rfl, .refl _ _, h3, by rw [List.take_zero, List.append_nil]; exact D⟩ (fun j σ H' _ h => by obtain ⟨_, _, _, s4, _⟩ := h; exact s4.sqT (fun _ z => by rw [h3] at z; cases z) (fun _ _ z => by rw [h3] at z; cases z) hsu) ?_ ?_⟩
        · rintro j y σ H4 H5 hj ⟨v6, ds, rfl, s4, h4, D4⟩ ⟨rfl, hy⟩
          obtain ⟨x, rfl, hx⟩ : ∃ x : Int, y = .int x ∧ [e.span.1, e.span.2][j]? = some x := by
            have e2 : ([V.int e.span.1, V.int e.span.2] : List V) = [e.span.1, e.span.2].map V.int := rfl
            rw [e2, List.getElem?_map] at hy
            obtain ⟨x, h1, h2⟩ := Option.map_eq_some_iff.mp hy
            exact ⟨x, h2.symm, h1⟩
          have etk : [e.span.1, e.span.2].take (j + 1) = [e.span.1, e.span.2].take j ++ [x] := by rw [List.take_add_one, hx]; rfl
          rw [etk, ← List.append_assoc]
          refine ⟨_, rfl, _, rfl, _, _, rfl, rfl, _, rfl, ?_⟩
          refine ite2 (fun c1 => ?_) (fun c1 => ?_)
          · refine ⟨_, rfl, _, _, rfl, rfl, _, rfl, ?_⟩
            have c1' := of_decide_eq_true c1
            refine ite2 (fun c2 => ?_) (fun c2 => ?_)
            · have c2' := of_decide_eq_true c2
              refine ⟨_, rfl, _, rfl, dd, _, rfl, DPut.k (k := Sum.inl x) h4 (by rw [kvO_length, sizeLine_eq]; have := D4.len; have h2 : j < 2 := hj; omega), ?_⟩
              rw [kvO_put]
              refine ⟨some (.int x), _, rfl, fun c o n z => by rw [upd_ne n]; exact s4 c o n z, upd_same, D4.add ⟨c1', c2'⟩⟩
            · exact ⟨some (.int x), ds, rfl, s4, h4, D4.skip fun z => c2 (decide_eq_true z.2)⟩
          · have c1' : ¬ f < x := fun z => c1 (decide_eq_true z)
            exact ⟨_, rfl, iteF ⟨some (.int x), ds, rfl, s4, h4, D4.skip fun z => c1' z.1⟩⟩
        · rintro σ H4 ⟨v6, ds, rfl, s4, h4, D4⟩
          exact ⟨_, v6, ds, rfl, s3.trans s4, h4, D4⟩
    · rintro σ H3 ⟨v5, v6, ds, rfl, s3, h3, D⟩
      rw [elen, List.take_length] at D
      refine ⟨_, rfl, dd, kvO ds, rfl, h3, fun q1 hq1 => ?_⟩
      rw [kvO_keys]
      refine ⟨q1, ds, rfl, SqL.of upd_same, fun ns p hperm hup hp => ?_⟩
      have s4 : Same H H3 := fun c o z => s3 c o (ne_of_none z hdd) (s2 _ _ (s1 _ _ z))
      refine q p ns _ ((s4.trans (same_new hq1 _)).trans (same_new hp _)) upd_same ⟨?_, fun d => by rw [hperm.mem_iff]; exact D.mem d, by rw [hperm.length_eq]; have := D.len; omega⟩
      have hn : ns.Nodup := hperm.nodup_iff.mpr D.nd
      exact (hup.and hn).imp fun h => by omega
end
end K14

set_option Elab.async false
set_option maxRecDepth 100000
set_option maxHeartbeats 4000000
/-! courses and totals as plain functions; decisions are data that may be compared -/
namespace K14
open PySem L2
open PySem.PyData (strOk)
/-! ### stops are told by names -/
def stopKinds : List Str := ["long", "missing", "large", "circle", "deep", "none"]
theorem kinds_ok : ∀ k ∈ stopKinds, strOk k = true ∧ k ≠ "amount" := by
  have h : (stopKinds.all fun k => decide (strOk k = true ∧ k ≠ "amount")) = true := by decide +kernel
  intro k hk
  exact of_decide_eq_true (List.all_eq_true.mp h k hk)
def ResOk {α : Type} (r : Res α) : Prop := ∀ k x n, r = .stop k x n → k ∈ stopKinds ∧ NameOk x
theorem ResOk.okv {α : Type} {v : α} {n : Nat} : ResOk (.ok v n) := fun _ _ _ h => nomatch h
theorem ResOk.st {α : Type} {k x : Str} {n : Nat} (hk : k ∈ stopKinds) (hx : NameOk x) : ResOk (.stop k x n : Res α) := fun _ _ _ h => by
  injection h with h1 h2 h3
  subst h1 h2
  exact ⟨hk, hx⟩
theorem ResOk.bind {α β : Type} {r : Res α} {f : α → Nat → Res β} (h : ResOk r) (g : ∀ v n, ResOk (f v n)) : ResOk (r.bind f) := by
  cases r with
  | ok v n => exact g v n
  | stop k x n => exact fun k' x' n' e => h k' x' n' (by injection e with e1 e2 e3; subst e1 e2 e3; rfl)
theorem bnd_ok {last : Str} (hl : NameOk last) (v : Int) (n : Nat) : ResOk (bnd last v n) := by
  unfold bnd
  by_cases c : 1000000000000000 < (if v < 0 then -v else v)
  · rw [if_pos c]
    exact .st (by decide +kernel) hl
  · rw [if_neg c]
    exact .okv
theorem opM_ok {last : Str} (hl : NameOk last) (k : Op5) (u v : Int) (n : Nat) : ResOk (opM last k u v n) := by
  cases k with
  | plus => exact bnd_ok hl _ _
  | minus => exact bnd_ok hl _ _
  | times => exact bnd_ok hl _ _
  | least => exact .okv
  | most => exact .okv
theorem rd_ok {L : Lk} {rr : Str → Nat → Res Int} (hr : ∀ x n, NameOk x → ResOk (rr x n)) {last : Str} (hl : NameOk last) : ∀ p : Nd, (ok true p → ∀ n, ResOk (rdA L rr last p n)) ∧ (ok false p → ∀ n, ResOk (rdC L rr last p n)) := by
  intro p
  induction p with
  | num m => exact ⟨fun _ _ => .okv, fun h => h.elim⟩
  | fact x =>
    refine ⟨fun h n => ?_, fun h => h.elim⟩
    simp only [rdA]
    by_cases c : n = 100
    · rw [if_pos c]
      exact .st (by decide +kernel) h
    · rw [if_neg c]
      cases L.fact x with
      | some v => exact .okv
      | none => exact .st (by decide +kernel) h
  | factOr x p ih =>
    refine ⟨fun h n => ?_, fun h => h.elim⟩
    simp only [rdA]
    by_cases c : n = 100
    · rw [if_pos c]
      exact .st (by decide +kernel) h.1
    · rw [if_neg c]
      cases L.fact x with
      | some v => exact .okv
      | none => exact ih.1 h.2 _
  | due x => exact ⟨fun h n => hr x n h, fun h => h.elim⟩
  | pct m p ih =>
    refine ⟨fun h n => ?_, fun h => h.elim⟩
    simp only [rdA]
    exact (ih.1 h.2.2 n).bind fun v n => bnd_ok hl _ _
  | ite c a b i1 i2 i3 =>
    refine ⟨fun h n => ?_, fun h => h.elim⟩
    simp only [rdA]
    refine (i1.2 h.1 n).bind fun t n => ?_
    cases t with
    | true => exact i2.1 h.2.1 n
    | false => exact i3.1 h.2.2 n
  | op k a b i1 i2 =>
    refine ⟨fun h n => ?_, fun h => h.elim⟩
    simp only [rdA]
    exact (i1.1 h.1 n).bind fun u n => (i2.1 h.2 n).bind fun v n => opM_ok hl k u v n
  | known x =>
    refine ⟨fun h => h.elim, fun h n => ?_⟩
    simp only [rdC]
    by_cases c : n = 100
    · rw [if_pos c]
      exact .st (by decide +kernel) h
    · rw [if_neg c]
      exact .okv
  | neg c ih =>
    refine ⟨fun h => h.elim, fun h n => ?_⟩
    simp only [rdC]
    exact (ih.2 h n).bind fun v n => .okv
  | jn k a b i1 i2 =>
    refine ⟨fun h => h.elim, fun h n => ?_⟩
    cases k with
    | both =>
      simp only [rdC]
      refine (i1.2 h.1 n).bind fun t n => ?_
      cases t with
      | true => exact i2.2 h.2 n
      | false => exact .okv
    | either =>
      simp only [rdC]
      refine (i1.2 h.1 n).bind fun t n => ?_
      cases t with
      | true => exact .okv
      | false => exact i2.2 h.2 n
  | cmp k a b i1 i2 =>
    refine ⟨fun h => h.elim, fun h n => ?_⟩
    simp only [rdC]
    exact (i1.1 h.1 n).bind fun u n => (i2.1 h.2 n).bind fun v n => .okv
theorem rdR_ok {L : Lk} (hL : LkOk L) : ∀ (d : Nat) (opn : List Str) (x : Str) (n : Nat), NameOk x → ResOk (rdR L d opn x n)
  | 0, opn, x, n, hx => by
    simp only [rdR]
    by_cases c : x ∈ opn
    · rw [if_pos c]
      exact .st (by decide +kernel) hx
    · rw [if_neg c]
      exact .st (by decide +kernel) hx
  | d + 1, opn, x, n, hx => by
    simp only [rdR]
    by_cases c : x ∈ opn
    · rw [if_pos c]
      exact .st (by decide +kernel) hx
    · rw [if_neg c]
      by_cases c2 : n = 100
      · rw [if_pos c2]
        exact .st (by decide +kernel) hx
      · rw [if_neg c2]
        cases e : L.rule x with
        | none => exact .st (by decide +kernel) hx
        | some p => exact (rd_ok (fun y m hy => rdR_ok hL d (opn ++ [x]) y m hy) hx p).1 (hL.rule x p e).1 _
/-! ### decisions compared -/
def DecOk : Dec → Prop
  | .amount n => Small n
  | .stop k x => strOk k = true ∧ strOk x = true ∧ k ≠ "amount"
theorem decM_ok {L : Lk} (hL : LkOk L) {x : Str} (hx : NameOk x) : DecOk (decM L x) := by
  unfold decM
  cases e : rdR L 6 [] x 0 with
  | ok v n => exact rdR_small hL _ _ _ _ _ _ e
  | stop k y n =>
    have h := rdR_ok hL 6 [] x 0 hx k y n e
    have h2 := kinds_ok k h.1
    exact ⟨h2.1, strOk_name h.2, h2.2⟩
theorem eqv_dec (d e : Dec) : PyData.eqv (decD d) (decD e) = decide (d = e) := by
  cases d with
  | amount n =>
    cases e with
    | amount m =>
      simp only [decD, PyData.eqv, PyData.eqvAll]
      by_cases h : n = m
      · subst h
        simp
      · have h2 : (n == m) = false := by simpa using h
        rw [h2]
        simp [h]
    | stop k x =>
      simp only [decD, PyData.eqv, PyData.eqvAll]
      simp
  | stop k x =>
    cases e with
    | amount m =>
      simp only [decD, PyData.eqv, PyData.eqvAll]
      simp
    | stop l y =>
      simp only [decD, PyData.eqv, PyData.eqvAll]
      by_cases h : k = l
      · subst h
        by_cases h2 : x = y
        · subst h2
          simp
        · have h3 : (x == y) = false := by simpa using h2
          rw [h3]
          simp [h2]
      · have h3 : (k == l) = false := by simpa using h
        rw [h3]
        simp [h]
theorem lay_dec {d : Dec} (h : DecOk d) : (decD d).canLay0 = true := by
  cases d with
  | amount n =>
    simp only [decD, PyData.canLay0, PyData.canLayAll0]
    decide +kernel
  | stop k x =>
    obtain ⟨h1, h2, _⟩ := h
    simp only [decD, PyData.canLay0, PyData.canLayAll0]
    rw [h1, h2]
    rfl
theorem depth_dec (d : Dec) : (decD d).depth = 1 := by cases d <;> rfl
theorem shaped_of {d : PyData} (h1 : d.canLay0 = true) (h2 : d.depth ≤ 64) : SeqAt.shaped d = true := by
  unfold SeqAt.shaped
  rw [h1, decide_eq_true h2]
  rfl
theorem shaped_dec {d : Dec} (h : DecOk d) : SeqAt.shaped (decD d) = true := shaped_of (lay_dec h) (by rw [depth_dec]; decide)
/-! ### runs, totals -/
structure Run where
  a : Int
  b : Int
  d : Dec
  deriving DecidableEq
def runD (r : Run) : PyData := .tuple [.int r.a, .int r.b, decD r.d]
inductive Tot where
  | total (n : Int)
  | stopped (a : Int) (d : Dec)
  deriving DecidableEq
def totD : Tot → PyData
  | .total n => .tuple [.str "total", .int n]
  | .stopped a d => .tuple [.str "stopped", .int a, decD d]
theorem eqv_run (r s : Run) : PyData.eqv (runD r) (runD s) = decide (r = s) := by
  obtain ⟨a, b, d⟩ := r
  obtain ⟨a', b', d'⟩ := s
  simp only [runD, PyData.eqv, PyData.eqvAll]
  rw [eqv_dec]
  by_cases h1 : a = a'
  · by_cases h2 : b = b'
    · by_cases h3 : d = d'
      · subst h1 h2 h3
        simp
      · simp [h3]
    · have : (b == b') = false := by simpa using h2
      rw [this]
      simp [h2]
  · have : (a == a') = false := by simpa using h1
    rw [this]
    simp [h1]
theorem eqvAll_runs : ∀ rs ss : List Run, PyData.eqvAll (rs.map runD) (ss.map runD) = decide (rs = ss)
  | [], [] => rfl
  | [], _ :: _ => by simp [PyData.eqvAll]
  | _ :: _, [] => by simp [PyData.eqvAll]
  | r :: rs, s :: ss => by
    show PyData.eqvAll (runD r :: rs.map runD) (runD s :: ss.map runD) = _
    simp only [PyData.eqvAll]
    rw [eqv_run, eqvAll_runs rs ss]
    by_cases h : r = s
    · subst h
      simp
    · simp [h]
theorem lay_runs : ∀ {rs : List Run}, (∀ r ∈ rs, DecOk r.d) → PyData.canLayAll0 (rs.map runD) = true
  | [], _ => rfl
  | r :: rs, h => by
    show PyData.canLayAll0 (runD r :: rs.map runD) = true
    simp only [PyData.canLayAll0]
    rw [lay_runs fun s hs => h s (List.mem_cons_of_mem _ hs)]
    have := lay_dec (h r (List.mem_cons_self ..))
    simp only [runD, PyData.canLay0, PyData.canLayAll0]
    rw [this]
    rfl
theorem depth_runs : ∀ rs : List Run, PyData.depthAll (rs.map runD) ≤ 2
  | [] => Nat.zero_le _
  | r :: rs => by
    show PyData.depthAll (runD r :: rs.map runD) ≤ 2
    simp only [PyData.depthAll]
    have h := depth_runs rs
    have h2 : (runD r).depth = 2 := by
      simp only [runD, PyData.depth, PyData.depthAll]
      rw [depth_dec]
      rfl
    omega
theorem shaped_runs {rs : List Run} (h : ∀ r ∈ rs, DecOk r.d) : SeqAt.shaped (.list (rs.map runD)) = true := by
  refine shaped_of ?_ ?_
  · simp only [PyData.canLay0]
    exact lay_runs h
  · simp only [PyData.depth]
    have := depth_runs rs
    omega
theorem eqv_tot (s t : Tot) : PyData.eqv (totD s) (totD t) = decide (s = t) := by
  cases s with
  | total n =>
    cases t with
    | total m =>
      simp only [totD, PyData.eqv, PyData.eqvAll]
      by_cases h : n = m
      · subst h
        simp
      · have : (n == m) = false := by simpa using h
        rw [this]
        simp [h]
    | stopped a d =>
      simp only [totD, PyData.eqv, PyData.eqvAll]
      simp
  | stopped a d =>
    cases t with
    | total m =>
      simp only [totD, PyData.eqv, PyData.eqvAll]
      simp
    | stopped a' d' =>
      simp only [totD, PyData.eqv, PyData.eqvAll]
      rw [eqv_dec]
      by_cases h : a = a'
      · by_cases h2 : d = d'
        · subst h h2
          simp
        · simp [h2]
      · have : (a == a') = false := by simpa using h
        rw [this]
        simp [h]
def TotOk : Tot → Prop
  | .total _ => True
  | .stopped _ d => DecOk d
theorem shaped_tot {t : Tot} (h : TotOk t) : SeqAt.shaped (totD t) = true := by
  cases t with
  | total n => exact shaped_of (by simp only [totD, PyData.canLay0, PyData.canLayAll0]; decide +kernel) (by simp only [totD, PyData.depth, PyData.depthAll]; decide)
  | stopped a d =>
    refine shaped_of ?_ ?_
    · simp only [totD, PyData.canLay0, PyData.canLayAll0]
      rw [lay_dec h]
      decide +kernel
    · simp only [totD, PyData.depth, PyData.depthAll]
      rw [depth_dec]
      decide
/-- one more run, joined with the last one where the decision is the same -/
def push (rs : List Run) (x : Run) : List Run := match rs.getLast? with
  | some r => if r.d = x.d then rs.dropLast ++ [⟨r.a, x.b, x.d⟩] else rs ++ [x]
  | none => [x]
/-- the runs behind k edges -/
def courseM (dec : Int → Dec) (ns : List Int) : Nat → List Run
  | 0 => []
  | k + 1 => push (courseM dec ns k) ⟨ns.getD k 0, ns.getD (k + 1) 0, dec (ns.getD k 0)⟩
def courseOf (dec : Int → Dec) (ns : List Int) : List Run := courseM dec ns (ns.length - 1)
def totM : List Run → Int → Tot
  | [], acc => .total acc
  | r :: rs, acc => match r.d with
    | .amount n => totM rs (acc + n * (r.b - r.a))
    | .stop _ _ => .stopped r.a r.d
theorem push_mem {rs : List Run} {x r : Run} (h : r ∈ push rs x) : r ∈ rs ∨ r.d = x.d := by
  unfold push at h
  cases e : rs.getLast? with
  | none =>
    rw [e] at h
    exact .inr (by rw [List.mem_singleton.mp h])
  | some l =>
    rw [e] at h
    have h' : r ∈ (if l.d = x.d then rs.dropLast ++ [⟨l.a, x.b, x.d⟩] else rs ++ [x]) := h
    by_cases c : l.d = x.d
    · rw [if_pos c] at h'
      rcases List.mem_append.mp h' with h' | h'
      · exact .inl ((List.dropLast_sublist rs).subset h')
      · exact .inr (by rw [List.mem_singleton.mp h'])
    · rw [if_neg c] at h'
      rcases List.mem_append.mp h' with h' | h'
      · exact .inl h'
      · exact .inr (by rw [List.mem_singleton.mp h'])
theorem courseM_ok {dec : Int → Dec} (h : ∀ x, DecOk (dec x)) (ns : List Int) : ∀ k, ∀ r ∈ courseM dec ns k, DecOk r.d
  | 0, r, hr => by cases hr
  | k + 1, r, hr => by
    rcases push_mem hr with hr | hr
    · exact courseM_ok h ns k r hr
    · rw [hr]
      exact h _
theorem totM_ok : ∀ {rs : List Run} {acc : Int}, (∀ r ∈ rs, DecOk r.d) → TotOk (totM rs acc)
  | [], _, _ => trivial
  | r :: rs, acc, h => by
    show TotOk (match r.d with
      | .amount n => totM rs (acc + n * (r.b - r.a))
      | .stop _ _ => .stopped r.a r.d)
    cases e : r.d with
    | amount n => exact totM_ok fun s hs => h s (List.mem_cons_of_mem _ hs)
    | stop k x =>
      have := h r (List.mem_cons_self ..)
      rw [e] at this
      exact this
end K14

set_option Elab.async false
set_option maxRecDepth 100000
set_option maxHeartbeats 4000000
/-! spans: course, total -/
namespace K14
open PySem PySem.Spec PyProof.Rows L2
open C8 (Cal Met Mak pe_c pe_mk pe_mt pe_mt0 pss_cut)
theorem dec_tup (d : Dec) : tupD (decD d) = true := by cases d <;> rfl
theorem run_tup (r : Run) : tupD (runD r) = true := by
  show (true && (true && (tupD (decD r.d) && true))) = true
  rw [dec_tup]
  rfl
theorem runs_tup : ∀ rs : List Run, tupD.tupDs (rs.map runD) = true
  | [] => rfl
  | r :: rs => by
    show (tupD (runD r) && tupD.tupDs (rs.map runD)) = true
    rw [run_tup, runs_tup rs]
    rfl
section
variable {K : PySem.W.Frag} {H H' : Hp}
theorem SameX.da_lst {l : Addr} {ys : List V} (e : SameX l H H') (hl : H l = some (.lst ys)) {ds : List PyData} {vs : List V} (t : tupD.tupDs ds = true) (h : DpAll K H vs ds) : DpAll K H' vs ds := dpAll_tup (fun _ _ => e.sqT_lst hl) ds vs t h
theorem sameX_upd (l : Addr) (H : Hp) (o : HO) : SameX l H (upd H l o) := fun b u n h => by
  rw [upd_ne n]
  exact h
theorem da_unsnoc {ds : List PyData} {d : PyData} {x : V} : ∀ {vs : List V}, DpAll K H (vs ++ [x]) (ds ++ [d]) → DpAll K H vs ds ∧ Dp K H x d := by
  induction ds with
  | nil =>
    intro vs h
    cases vs with
    | nil =>
      cases h with
      | cons h1 h2 => exact ⟨.nil, h1⟩
    | cons y r =>
      have := da_length h
      simp at this
  | cons d0 ds ih =>
    intro vs h
    cases vs with
    | nil =>
      have := da_length h
      simp at this
    | cons y r =>
      cases h with
      | cons h1 h2 =>
        have := ih h2
        exact ⟨.cons h1 this.1, this.2⟩
/-- a run's tuple -/
theorem run_inv {v : V} {r : Run} (h : Dp K H v (runD r)) : ∃ a u, v = .ref a ∧ SqT K H a [.int r.a, .int r.b, .ref u] ∧ Dp K H (.ref u) (decD r.d) := by
  obtain ⟨a, xs, rfl, h1, h2⟩ := dp_tup_inv h
  obtain ⟨x0, r0, rfl, e0, h2⟩ := da_cons h2
  obtain ⟨x1, r1, rfl, e1, h2⟩ := da_cons h2
  obtain ⟨x2, r2, rfl, e2, h2⟩ := da_cons h2
  obtain rfl := da_nil h2
  rw [dp_int e0, dp_int e1] at h1
  obtain ⟨u, rfl⟩ : ∃ u, x2 = .ref u := by
    cases hd : r.d with
    | amount n =>
      rw [hd] at e2
      obtain ⟨u, ys, rfl, _, _⟩ := dp_tup_inv e2
      exact ⟨u, rfl⟩
    | stop k x =>
      rw [hd] at e2
      obtain ⟨u, ys, rfl, _, _⟩ := dp_tup_inv e2
      exact ⟨u, rfl⟩
  exact ⟨a, u, rfl, h1, e2⟩
end
/-- a claim's tuple -/
structure ClaimAt (K : PySem.W.Frag) (H : Hp) (ca : Addr) (ps x : Str) (f t : Int) : Prop where
  ex : ∃ sp, SqT K H ca [.str ps, .str x, .ref sp] ∧ SqT K H sp [.int f, .int t]
theorem ClaimAt.same {K : PySem.W.Frag} {H H' : Hp} {ca : Addr} {ps x : Str} {f t : Int} (c : ClaimAt K H ca ps x f t) (e : Same H H') : ClaimAt K H' ca ps x f t := by
  obtain ⟨sp, h1, h2⟩ := c
  exact ⟨sp, sqT_same e h1, sqT_same e h2⟩
/-- the decision on a day -/
def decOn (es : List Ent) (ps x : Str) (known : Int) (d : Int) : Dec := decM (lkOf es ps d known) x
theorem decOn_ok {es : List Ent} (h : EsOk es) {ps x : Str} (hx : NameOk x) (known d : Int) : DecOk (decOn es ps x known d) := decM_ok (lkOf_ok h ps d known) hx
section
variable {P : Program} {w : World} {K : PySem.W.Frag} {mg : Str → Option Value} {base : Heap} {C : Addr}
def spCourse (K : PySem.W.Frag) (C : Addr) : Sp := fun vs H Q _ => ∃ (b r s ca : Addr) (es : List Ent) (ps x : Str) (f t known : Int), vs = [.ref b, .ref ca, .int known] ∧ BookAt K C H b r s es ∧ EsOk es ∧ es.length ≤ 1000 ∧ NameOk ps ∧ NameOk x ∧ ClaimAt K H ca ps x f t ∧ f < t ∧
  ∀ l ns us H', Same H H' → EdgesOf es f t ns → H' l = some (.lst us) → DpAll K H' us ((courseOf (decOn es ps x known) ns).map runD) → Q (.ref l) H'
theorem scCourse : FnScope ["book", "claim", "known", "person", "rule", "span", "edges", "result", "k", "decision"] ["book", "claim", "known"] (defScope (top 56)) := ⟨rfl, rfl, rfl, by decide +kernel, rfl, by decide +kernel, by decide +kernel⟩
theorem courseM_len (dec : Int → Dec) (ns : List Int) : ∀ k, (courseM dec ns k).length ≤ k
  | 0 => Nat.le_refl _
  | k + 1 => by
    have ih := courseM_len dec ns k
    show (push (courseM dec ns k) _).length ≤ k + 1
    unfold push
    split
    · split
      · rw [List.length_append, List.length_dropLast, List.length_singleton]
        omega
      · rw [List.length_append, List.length_singleton]
        omega
    · simp
theorem c_course (G : Gf K mg "course" (top 56) ["book", "claim", "known"]) (T : Tx K mg) (cE : Cal P w K mg base 2 "edges_of" (spEdges K C) []) (cD : Cal P w K mg base 68 "decide" (spDecide K C) []) : Cal P w K mg base 69 "course" (spCourse K C) [] := by
  refine G.cal scCourse (fun vs H Q E h => ?_) (fun f cdv A outer s H vs Q E hr h => ?_)
  · obtain ⟨b, r, s', ca, es, ps, x, f, t, known, rfl, _⟩ := h
    rfl
  · obtain ⟨b, r, s', ca, es, ps, x, f, t, known, rfl, BA, ok, hlen, n1, n2, ⟨sp, hc, hsp⟩, hft, q⟩ := h
    refine ⟨_, pss_cons (ps_asg (pv 1) (pg_tup rfl (pgs_cons (pg_name (i := 3) scCourse.nd rfl (.inl rfl)) (pgs_cons (pg_name (i := 4) scCourse.nd rfl (.inl rfl)) (pgs_cons (pg_name (i := 5) scCourse.nd rfl (.inl rfl)) pgs_nil)))))
      (pss_cons (ps_set (i := 6) scCourse.nd rfl (.inl rfl) (pe_c cE hr (by decide) rfl (pa_cons (pv 0) (pa_cons (pv 5) pa_nil))))
      (pss_cons (ps_set (i := 7) scCourse.nd rfl (.inl rfl) (pe_lst pa_nil))
      (pss_cons (ps_for PassesOwn.never rfl (pi_range1 rfl T.range (pa_cons (pe_op op_sub (pe_callB call_len_seq (by rfl) T.len PySem.boot_len (pa_cons (pv 6) pa_nil)) pe_int) pa_nil)) (pg_name (i := 8) scCourse.nd rfl (.inl rfl))
        (pss_cons (ps_set (i := 9) scCourse.nd rfl (.inl rfl) (pe_ix ix_tup (pe_c cD hr (by decide) rfl (pa_cons (pv 0) (pa_cons (pe_tup (pa_cons (pv 3) (pa_cons (pv 4) (pa_cons (pe_ix ix_list (pv 6) (pv 8) (fun _ _ => rfl)) (pa_cons (pv 2) pa_nil))))) pa_nil))) pe_int (fun _ _ => rfl)))
        (pss_one (ps_if (PW.pt (pw_and (pt_truth (pv 7) (by intro _; rfl)) (pw_and1 (pt_cmpR (op_eqD hr.units) (pe_ix ix_tup (pe_ix ix_list (pv 7) (pe_un un_neg pe_int) (fun _ _ => rfl)) pe_int (fun _ _ => rfl)) (pv 9) (nomark _)))))
          (pss_one (ps_asg (pe_tup (pa_cons (pe_ix ix_tup (pe_ix ix_list (pv 7) (pe_un un_neg pe_int) (fun _ _ => rfl)) pe_int (fun _ _ => rfl)) (pa_cons (pe_ix ix_list (pv 6) (pe_op op_add (pv 8) pe_int) (fun _ _ => rfl)) (pa_cons (pv 9) pa_nil)))) (pg_sub (pv 7) (pe_un un_neg pe_int) set_list)))
          (pss_one (ps_expr (pe_bm PySem.F.plainAttrs_list PySem.F.slot_list_append PySem.F.type_list_append mt_append (pv 7) (pa_cons (pe_tup (pa_cons (pe_ix ix_list (pv 6) (pv 8) (fun _ _ => rfl)) (pa_cons (pe_ix ix_list (pv 6) (pe_op op_add (pv 8) pe_int) (fun _ _ => rfl)) (pa_cons (pv 9) pa_nil)))) pa_nil))))))))
      (pss_one (ps_ret (pv 7)))))), ?_⟩
    refine ⟨_, rfl, ca, _, rfl, hc, rfl, _, _, rfl, _, _, rfl, _, _, rfl, rfl, ?_⟩
    refine ⟨_, rfl, _, rfl, b, r, s', sp, es, f, t, rfl, BA, hlen, hsp, hft, fun el ns H1 s1 hel hed => ?_⟩
    refine ⟨Nat.zero_le _, fun rl hrl => ?_⟩
    have s2 := same_new hrl (.lst [])
    have nel : el ≠ rl := ne_of_none hel hrl
    have hel2 : upd H1 rl (.lst []) el = some (.lst (ns.map V.int)) := by rw [upd_ne nel]; exact hel
    refine ⟨_, rfl, el, _, rfl, .inl (SqL.of hel2), _, _, rfl, rfl, ?_⟩
    have ef : ns.length ≤ 10000 := hed.few
    have rl0 : H rl = none := s1.free hrl
    have hn0 : ns ≠ [] := fun z => by
      have := (hed.mem f).mpr (.inl rfl)
      rw [z] at this
      cases this
    have hn1 : 1 ≤ ns.length := List.length_pos_iff.mpr hn0
    refine ⟨_, rfl, by rw [List.length_map]; omega, by rw [List.length_map]; omega, for_it walk_range (fun i σ H' => ∃ (v8 v9 : Option V) (us : List V), σ = [some (.ref b), some (.ref ca), some (.int known), some (.str ps), some (.str x), some (.ref sp), some (.ref el), some (.ref rl), v8, v9] ∧
        SameX rl (upd H1 rl (.lst [])) H' ∧ H' rl = some (.lst us) ∧ DpAll K H' us ((courseM (decOn es ps x known) ns i).map runD))
      ⟨none, none, [], rfl, .refl _ _, upd_same, .nil⟩ (fun _ _ _ _ _ => trivial) ?_ ?_⟩
    · rintro i y σ H3 H2 hi ⟨v8, v9, us, rfl, s3, hus, hD⟩ ⟨rfl, rfl⟩
      rw [List.length_map] at hi
      have hi' : i + 1 < ns.length := by omega
      have ea : ns[i]? = some (ns.getD i 0) := by rw [List.getD_eq_getElem?_getD, List.getElem?_eq_getElem (by omega)]; rfl
      have eb : ns[i + 1]? = some (ns.getD (i + 1) 0) := by rw [List.getD_eq_getElem?_getD, List.getElem?_eq_getElem hi']; rfl
      have ez : (0 : Int) + (i : Int) = (i : Int) := Int.zero_add _
      have ez1 : (0 : Int) + (i : Int) + 1 = ((i + 1 : Nat) : Int) := by omega
      have ata : atI (ns.map V.int) ((0 : Int) + (i : Int)) = some (.int (ns.getD i 0)) := by
        rw [ez]
        exact atI_nat (by rw [List.getElem?_map, ea]; rfl)
      have atb : atI (ns.map V.int) ((0 : Int) + (i : Int) + 1) = some (.int (ns.getD (i + 1) 0)) := by
        rw [ez1]
        exact atI_nat (by rw [List.getElem?_map, eb]; rfl)
      have hdec : decOn es ps x known (ns.getD i 0) = decM (lkOf es ps (ns.getD i 0) known) x := rfl
      show _
      have epush : courseM (decOn es ps x known) ns (i + 1) = push (courseM (decOn es ps x known) ns i) ⟨ns.getD i 0, ns.getD (i + 1) 0, decOn es ps x known (ns.getD i 0)⟩ := rfl
      have hcok : ∀ rr ∈ courseM (decOn es ps x known) ns i, DecOk rr.d := courseM_ok (decOn_ok ok n2 known) ns i
      have hclen := courseM_len (decOn es ps x known) ns i
      have hdok := decOn_ok ok (ps := ps) n2 known (ns.getD i 0)
      rw [epush]
      generalize ns.getD i 0 = A0 at ata hdec hdok
      generalize ns.getD (i + 1) 0 = B0 at atb
      rw [← hdec] at *
      generalize courseM (decOn es ps x known) ns i = rs at hD hcok hclen
      have s4 : Same H H2 := fun c o z => s3 c o (ne_of_none z rl0) (s2 _ _ (s1 _ _ z))
      have hel3 : H2 el = some (.lst (ns.map V.int)) := s3 _ _ nel hel2
      -- decide(book, (person, rule, edges[k], known))[0]
      refine ⟨_, rfl, _, rfl, _, rfl, _, rfl, _, rfl, el, _, _, _, rfl, rfl, SqL.of hel3, ata, _, rfl, by show 4 ≤ sizeLine; decide, fun qa hqa => ?_⟩
      have s5 := s4.trans (same_new hqa (.tup [.str ps, .str x, .int A0, .int known]))
      refine ⟨b, r, s', qa, es, ps, x, A0, known, rfl, BA.same s5, ok, hlen, n1, n2, SqT.of upd_same, fun tt u fl H4 s6 htt hu => ?_⟩
      have s7 : Same H2 H4 := (same_new hqa (.tup [.str ps, .str x, .int A0, .int known])).trans s6
      have hus4 := s7 _ _ hus
      have hD4 := da_same s7 hD
      have hel4 := s7 _ _ hel3
      have s8 : SameX rl (upd H1 rl (.lst [])) H4 := s3.trans (.of s7)
      refine ⟨tt, _, _, _, rfl, rfl, SqT.of htt, at0, ?_⟩
      have hu' : Dp K H4 (.ref u) (decD (decOn es ps x known A0)) := hu
      generalize decOn es ps x known A0 = d0 at hu' hdok
      -- the test
      refine ⟨_, rfl, !us.isEmpty, .inl ⟨us, SqL.of hus4, rfl⟩, ?_⟩
      have eus : us.length = rs.length := by rw [da_length hD, List.length_map]
      by_cases hne : us = []
      · subst hne
        have hrs : rs = [] := List.length_eq_zero_iff.mp (by rw [← eus]; rfl)
        subst hrs
        refine iteF ?_
        refine ⟨_, rfl, .inl ⟨rfl, _, SqL.of hus4⟩, _, rfl, _, rfl, el, _, _, _, rfl, rfl, SqL.of hel4, ata, _, rfl, _, rfl, _, _, rfl, rfl, el, _, _, _, rfl, rfl, SqL.of hel4, atb, _, rfl, by show 3 ≤ sizeLine; decide, fun t3 ht3 => ?_⟩
        have n3 : rl ≠ t3 := ne_of_none hus4 ht3
        refine ⟨rl, [], _, rfl, rfl, by rw [upd_ne n3]; exact hus4, by show 0 < sizeLine; decide, some (.int ((0 : Int) + (i : Int))), some (.ref u), _, rfl, (s8.trans (.of (same_new ht3 _))).trans (sameX_upd _ _ _), upd_same, ?_⟩
        show DpAll K _ [V.ref t3] [runD ⟨A0, B0, d0⟩]
        refine .cons ?_ .nil
        refine (sameX_upd rl _ _).dp (by rw [upd_ne n3]; exact hus4) (run_tup _) ?_
        exact dpT upd_same (.cons (.int _) (.cons (.int _) (.cons (dp_same (same_new ht3 _) hu') .nil)))
      · obtain ⟨init, v0, rfl⟩ : ∃ init v0, us = init ++ [v0] := ⟨us.dropLast, us.getLast hne, (List.dropLast_concat_getLast hne).symm⟩
        have hrne : rs ≠ [] := fun z => by
          rw [z] at eus
          simp at eus
        obtain ⟨ri, r0, rfl⟩ : ∃ ri r0, rs = ri ++ [r0] := ⟨rs.dropLast, rs.getLast hrne, (List.dropLast_concat_getLast hrne).symm⟩
        have hD5 := hD4
        rw [List.map_append] at hD5
        obtain ⟨hDi, hD0⟩ := da_unsnoc (d := runD r0) hD5
        obtain ⟨a0, u0, rfl, ht0, hu0⟩ := run_inv hD0
        have et : (!(init ++ [V.ref a0]).isEmpty) = true := by simp
        rw [et]
        refine iteT ?_
        refine ⟨_, rfl, _, rfl, rl, _, _, _, rfl, rfl, SqL.of hus4, atI_last _ _, a0, _, _, _, rfl, rfl, ht0, at2, _, rfl, decD r0.d, decD d0, hu0, hu', shaped_dec (hcok r0 (by simp)), shaped_dec hdok, _, rfl, ?_⟩
        rw [eqv_dec]
        by_cases hd : r0.d = d0
        · refine ifT hd ?_
          refine ⟨_, rfl, _, rfl, rl, _, _, _, rfl, rfl, SqL.of hus4, atI_last _ _, a0, _, _, _, rfl, rfl, ht0, at0, _, rfl, _, rfl, _, _, rfl, rfl, el, _, _, _, rfl, rfl, SqL.of hel4, atb, _, rfl, by show 3 ≤ sizeLine; decide, fun t3 ht3 => ?_⟩
          have n3 : rl ≠ t3 := ne_of_none hus4 ht3
          have hix : ixN (init ++ [V.ref a0]).length (-1) = some init.length := by
            unfold ixN
            rw [List.length_append, List.length_singleton, if_neg (by decide), if_pos (by omega)]
            congr 1
            omega
          refine ⟨_, rfl, _, rfl, rl, _, _, init.length, rfl, rfl, by rw [upd_ne n3]; exact hus4, hix, some (.int ((0 : Int) + (i : Int))), some (.ref u), _, rfl, (s8.trans (.of (same_new ht3 _))).trans (sameX_upd _ _ _), upd_same, ?_⟩
          have eset : (init ++ [V.ref a0]).set init.length (V.ref t3) = init ++ [V.ref t3] := by simp
          have ep : push (ri ++ [r0]) ⟨A0, B0, d0⟩ = ri ++ [⟨r0.a, B0, d0⟩] := by
            unfold push
            rw [List.getLast?_concat]
            show (if r0.d = d0 then (ri ++ [r0]).dropLast ++ [⟨r0.a, B0, d0⟩] else _) = _
            rw [if_pos hd, List.dropLast_concat]
          rw [eset, ep, List.map_append]
          refine da_snoc ?_ ?_
          · refine (sameX_upd rl _ _).dp (by rw [upd_ne n3]; exact hus4) (run_tup _) ?_
            exact dpT upd_same (.cons (.int _) (.cons (.int _) (.cons (dp_same (same_new ht3 _) hu') .nil)))
          · exact (sameX_upd rl _ _).da_lst (by rw [upd_ne n3]; exact hus4) (runs_tup _) (da_same (same_new ht3 _) hDi)
        · refine ifF hd ?_
          refine ⟨_, rfl, .inl ⟨rfl, _, SqL.of hus4⟩, _, rfl, _, rfl, el, _, _, _, rfl, rfl, SqL.of hel4, ata, _, rfl, _, rfl, _, _, rfl, rfl, el, _, _, _, rfl, rfl, SqL.of hel4, atb, _, rfl, by show 3 ≤ sizeLine; decide, fun t3 ht3 => ?_⟩
          have n3 : rl ≠ t3 := ne_of_none hus4 ht3
          refine ⟨rl, _, _, rfl, rfl, by rw [upd_ne n3]; exact hus4, by rw [eus, sizeLine_eq]; omega, some (.int ((0 : Int) + (i : Int))), some (.ref u), _, rfl, (s8.trans (.of (same_new ht3 _))).trans (sameX_upd _ _ _), upd_same, ?_⟩
          have ep : push (ri ++ [r0]) ⟨A0, B0, d0⟩ = (ri ++ [r0]) ++ [⟨A0, B0, d0⟩] := by
            unfold push
            rw [List.getLast?_concat]
            show (if r0.d = d0 then _ else _) = _
            rw [if_neg hd]
          rw [ep, List.map_append (l₂ := [_])]
          refine da_snoc ?_ ?_
          · refine (sameX_upd rl _ _).dp (by rw [upd_ne n3]; exact hus4) (run_tup _) ?_
            exact dpT upd_same (.cons (.int _) (.cons (.int _) (.cons (dp_same (same_new ht3 _) hu') .nil)))
          · exact (sameX_upd rl _ _).da_lst (by rw [upd_ne n3]; exact hus4) (runs_tup _) (da_same (same_new ht3 _) hD4)
    · rintro σ H2 ⟨v8, v9, us, rfl, s3, hus, hD⟩
      have ek : ((((ns.map V.int).length : Nat) : Int) - 1).toNat = ns.length - 1 := by
        rw [List.length_map]
        omega
      rw [ek] at hD
      exact ⟨_, rfl, q rl ns us H2 (fun c o z => s3 c o (ne_of_none z rl0) (s2 _ _ (s1 _ _ z))) hed hus hD⟩
end
end K14

set_option Elab.async false
set_option maxRecDepth 100000
set_option maxHeartbeats 4000000
/-! spans: total -/
namespace K14
open PySem PySem.Spec PyProof.Rows L2
open C8 (Cal Met Mak pe_c pe_mk pe_mt pe_mt0 pss_cut)
section
variable {P : Program} {w : World} {K : PySem.W.Frag} {mg : Str → Option Value} {base : Heap} {C : Addr}
def spTotal (K : PySem.W.Frag) (C : Addr) : Sp := fun vs H Q _ => ∃ (b r s ca : Addr) (es : List Ent) (ps x : Str) (f t known : Int), vs = [.ref b, .ref ca, .int known] ∧ BookAt K C H b r s es ∧ EsOk es ∧ es.length ≤ 1000 ∧ NameOk ps ∧ NameOk x ∧ ClaimAt K H ca ps x f t ∧ f < t ∧
  ∀ a ns H', Same H H' → EdgesOf es f t ns → Dp K H' (.ref a) (totD (totM (courseOf (decOn es ps x known) ns) 0)) → Q (.ref a) H'
theorem scTotal : FnScope ["book", "claim", "known", "result", "first", "after", "decision"] ["book", "claim", "known"] (defScope (top 57)) := ⟨rfl, rfl, rfl, by decide +kernel, rfl, by decide +kernel, by decide +kernel⟩
theorem courseOf_ok {dec : Int → Dec} (h : ∀ x, DecOk (dec x)) (ns : List Int) : ∀ r ∈ courseOf dec ns, DecOk r.d := courseM_ok h ns _
theorem c_total (G : Gf K mg "total" (top 57) ["book", "claim", "known"]) (cC : Cal P w K mg base 69 "course" (spCourse K C) []) : Cal P w K mg base 70 "total" (spTotal K C) [] := by
  refine G.cal scTotal (fun vs H Q E h => ?_) (fun f cdv A outer s H vs Q E hr h => ?_)
  · obtain ⟨b, r, s', ca, es, ps, x, f, t, known, rfl, _⟩ := h
    rfl
  · obtain ⟨b, r, s', ca, es, ps, x, f, t, known, rfl, BA, ok, hlen, n1, n2, hc, hft, q⟩ := h
    refine ⟨_, pss_cons (ps_set (i := 3) scTotal.nd rfl (.inl rfl) pe_int)
      (pss_cons (ps_for PassesOwn.never rfl (pi_list (pe_c cC hr (by decide) rfl (pa_cons (pv 0) (pa_cons (pv 1) (pa_cons (pv 2) pa_nil))))) (pg_tup rfl (pgs_cons (pg_name (i := 4) scTotal.nd rfl (.inl rfl)) (pgs_cons (pg_name (i := 5) scTotal.nd rfl (.inl rfl)) (pgs_cons (pg_name (i := 6) scTotal.nd rfl (.inl rfl)) pgs_nil))))
        (pss_cons (ps_if (pt_cmpR op_ne (pe_ix ix_tup (pv 6) pe_int (fun _ _ => rfl)) pe_str (nomark _)) (pss_one (ps_ret (pe_tup (pa_cons pe_str (pa_cons (pv 4) (pa_cons (pv 6) pa_nil)))))) pss_nil)
        (pss_one (ps_set (i := 3) scTotal.nd rfl (.inl rfl) (pe_op op_add (pv 3) (pe_op op_mul (pe_ix ix_tup (pv 6) pe_int (fun _ _ => rfl)) (pe_op op_sub (pv 5) (pv 4))))))))
      (pss_one (ps_ret (pe_tup (pa_cons pe_str (pa_cons (pv 3) pa_nil)))))), ?_⟩
    refine ⟨_, rfl, _, rfl, _, rfl, b, r, s', ca, es, ps, x, f, t, known, rfl, BA, ok, hlen, n1, n2, hc, hft, fun l ns us H1 s1 hed hl hD => ?_⟩
    have hq := fun a H' (s2 : Same H H') hd => q a ns H' s2 hed hd
    have hrok := courseOf_ok (decOn_ok ok (ps := ps) n2 known) ns
    clear q
    generalize courseOf (decOn es ps x known) ns = rs at hD hq hrok
    have eus : us.length = rs.length := by rw [da_length hD, List.length_map]
    refine ⟨l, rfl, ⟨_, SqL.of hl⟩, for_it (walk_list (K := K) (xs := us)) (fun i σ H' => ∃ (acc : Int) (v4 v5 v6 : Option V), σ = [some (.ref b), some (.ref ca), some (.int known), some (.int acc), v4, v5, v6] ∧ H1 = H' ∧ totM rs 0 = totM (rs.drop i) acc)
      ⟨0, none, none, none, rfl, rfl, rfl⟩ (fun i σ H' _ h => by obtain ⟨_, _, _, _, _, rfl, _⟩ := h; exact SqL.of hl) ?_ ?_⟩
    · rintro i y σ H2 H3 hi ⟨acc, v4, v5, v6, rfl, e1, et⟩ ⟨e2, hy⟩
      subst e2
      subst e1
      have hi' : i < rs.length := by omega
      obtain ⟨d0, hd0, hyd⟩ := da_get2 hD hy
      rw [List.getElem?_map, List.getElem?_eq_getElem hi'] at hd0
      have ed := Option.some.inj hd0
      rw [← ed] at hyd
      have hro := hrok _ (List.getElem_mem hi')
      rw [List.drop_eq_getElem_cons hi'] at et
      generalize rs[i] = rr at hyd hro et
      obtain ⟨a0, u0, rfl, ht0, hu0⟩ := run_inv hyd
      refine ⟨a0, _, rfl, ht0, rfl, _, _, rfl, _, _, rfl, _, _, rfl, rfl, ?_⟩
      obtain ⟨ra, rb, rd⟩ := rr
      cases rd with
      | amount n =>
        obtain ⟨a1, x1, ea, ht1, hx1⟩ := dp2 hu0
        have ea' := V.ref.inj ea
        subst ea'
        obtain rfl := dp_int hx1
        have hro' : Small n := hro
        refine ⟨_, rfl, u0, _, _, _, rfl, rfl, ht1, at0, rfl, _, rfl, iteNS rfl ?_⟩
        refine ⟨_, rfl, _, rfl, u0, _, _, _, rfl, rfl, ht1, at1, _, rfl, _, rfl, _, _, rfl, rfl, _, _, rfl, rfl, .inl ⟨by have := hro'.1; omega, by have := hro'.2; omega⟩, _, _, rfl, rfl, ?_⟩
        exact ⟨_, _, _, _, rfl, rfl, et⟩
      | stop k z =>
        obtain ⟨a1, x1, ea, ht1, hx1⟩ := dp2 hu0
        have ea' := V.ref.inj ea
        subst ea'
        have hk : ¬ V.str k = V.str "amount" := fun z => hro.2.2 (V.str.inj z)
        refine ⟨_, rfl, u0, _, _, _, rfl, rfl, ht1, at0, rfl, _, rfl, ifNT hk ?_⟩
        refine ⟨_, rfl, _, rfl, by show 3 ≤ sizeLine; decide, fun p hp => ?_⟩
        refine hq p _ (s1.trans (same_new hp _)) ?_
        rw [et]
        exact dpT upd_same (.cons (.str _) (.cons (.int _) (.cons (dp_same (same_new hp _) hu0) .nil)))
    · rintro σ H2 ⟨acc, v4, v5, v6, rfl, rfl, et⟩
      rw [eus, List.drop_eq_nil_of_le (Nat.le_refl _)] at et
      refine ⟨_, rfl, by show 2 ≤ sizeLine; decide, fun p hp => ?_⟩
      refine hq p _ (s1.trans (same_new hp _)) ?_
      rw [et]
      exact dpT upd_same (.cons (.str _) (.cons (.int _) .nil))
end
end K14

set_option Elab.async false
set_option maxRecDepth 100000
set_option maxHeartbeats 4000000
/-! the law's draws: a row, the next of them, a number -/
namespace K14
open PySem PySem.Spec PyProof.Rows L2
open C8 (Cal Met Mak pe_c pe_mk pe_mt pe_mt0 pss_cut)
section
variable {P : Program} {w : World} {K : PySem.W.Frag} {mg : Str → Option Value} {base : Heap}
theorem p1000 : (0 : Int) < 1000 := by decide
theorem p31 : (0 : Int) < 2147483647 := by decide
theorem p31b : (0 : Int) < 2147483399 := by decide
/-- a row as drawn -/
def RowOk (m : Nat) (ns : List Int) : Prop := ns.length = m ∧ ∀ x ∈ ns, 0 ≤ x ∧ x < 1000
def spRow (K : PySem.W.Frag) : Sp := fun vs H Q _ => ∃ (a : Addr) (sc : List Int) (pi : Int) (m : Nat), vs = [.ref a, .int pi, .int (m : Int)] ∧ 0 ≤ pi ∧ SqL K H a (sc.map V.int) ∧ sc.length ≤ 1000 ∧ m ≤ 1000 ∧
  ∀ l ns H', H l = none → Same H H' → H' l = some (.lst (ns.map V.int)) → RowOk m ns → Q (.ref l) H'
theorem scRow : FnScope ["_law_script", "_law_place", "_law_many", "_law_cell", "_law_rest", "_law_row_here", "_law_k", "_law_mixed"] ["_law_script", "_law_place", "_law_many"] (defScope (top 59)) := ⟨rfl, rfl, rfl, by decide +kernel, rfl, by decide +kernel, by decide +kernel⟩
theorem c_row (G : Gf K mg "_law_row" (top 59) ["_law_script", "_law_place", "_law_many"]) (T : Tx K mg) : Cal P w K mg base 1 "_law_row" (spRow K) [] := by
  refine G.cal scRow (fun vs H Q E h => ?_) (fun f cdv A outer s H vs Q E hr h => ?_)
  · obtain ⟨a, sc, pl, m, rfl, _⟩ := h
    rfl
  · obtain ⟨a, sc, pi, m, rfl, hpi, hs, hsl, hm, q⟩ := h
    obtain ⟨pl, rfl⟩ : ∃ pl : Nat, pi = (pl : Int) := ⟨pi.toNat, by omega⟩
    refine ⟨_, pss_cons (ps_set (i := 3) scRow.nd rfl (.inl rfl) (pe_op op_add (pe_op op_mul pe_int (pv 1)) pe_int))
      (pss_cut (ps_if (pt_cmpR op_lt (pv 1) (pe_callB call_len_seq (by rfl) T.len PySem.boot_len (pa_cons (pv 0) pa_nil)) (nomark _)) (pss_one (ps_set (i := 3) scRow.nd rfl (.inl rfl) (pe_ix ix_list (pv 0) (pv 1) (fun _ _ => rfl)))) pss_nil)
      (pss_cons (ps_set (i := 4) scRow.nd rfl (.inl rfl) (pe_op op_sub (pv 3) (pe_op op_pow pe_int pe_int)))
      (pss_cons (ps_set (i := 5) scRow.nd rfl (.inl rfl) (pe_lst pa_nil))
      (pss_cons (ps_for PassesOwn.never rfl (pi_range1 rfl T.range (pa_cons (pv 2) pa_nil)) (pg_name (i := 6) scRow.nd rfl (.inl rfl))
        (pss_one (ps_if (pt_cmpR op_gt (pv 4) pe_int (nomark _))
          (pss_cons (ps_expr (pe_bm PySem.F.plainAttrs_list PySem.F.slot_list_append PySem.F.type_list_append mt_append (pv 5) (pa_cons (pe_op op_mod (pe_callTy call_int1 (by rfl) T.int (by decide +kernel) (pa_cons (pv 4) pa_nil)) pe_int) pa_nil)))
            (pss_one (ps_set (i := 4) scRow.nd rfl (.inl rfl) (pe_op op_fdiv (pv 4) pe_int))))
          (pss_cons (ps_set (i := 7) scRow.nd rfl (.inl rfl) (pe_op op_mod (pe_callTy call_int1 (by rfl) T.int (by decide +kernel) (pa_cons (pe_op op_add (pe_op op_add (pe_op op_mul (pv 3) pe_int) (pe_op op_mul (pv 6) pe_int)) pe_int) pa_nil)) pe_int))
          (pss_cons (ps_set (i := 7) scRow.nd rfl (.inl rfl) (pe_op op_mod (pe_callTy call_int1 (by rfl) T.int (by decide +kernel) (pa_cons (pe_op op_add (pe_op op_add (pe_op op_mul (pv 7) (pv 7)) (pe_op op_mul (pv 7) pe_int)) (pe_op op_mul (pv 6) pe_int)) pa_nil)) pe_int))
          (pss_one (ps_expr (pe_bm PySem.F.plainAttrs_list PySem.F.slot_list_append PySem.F.type_list_append mt_append (pv 5) (pa_cons (pe_op op_mod (pe_op op_fdiv (pv 7) pe_int) pe_int) pa_nil)))))))))
      (pss_one (ps_ret (pv 5))))))), ?_⟩
    refine ⟨_, rfl, _, _, rfl, rfl, .inl (by decide), _, _, rfl, rfl, ?_⟩
    refine ⟨fun σ H' => H = H' ∧ ∃ c : Int, σ = [some (.ref a), some (.int (pl : Int)), some (.int (m : Int)), some (.int c), none, none, none, none], ?_, ?_⟩
    · refine ⟨_, rfl, _, rfl, a, _, rfl, .inl hs, _, _, rfl, rfl, _, rfl, ?_⟩
      rw [List.length_map]
      refine ite2 (fun c => ?_) (fun c => ⟨rfl, _, rfl⟩)
      have c' : pl < sc.length := Int.ofNat_lt.mp (of_decide_eq_true c)
      exact ⟨_, rfl, _, rfl, a, _, _, _, rfl, rfl, hs, atI_nat (v := .int sc[pl]) (by rw [List.getElem?_map, List.getElem?_eq_getElem c']; rfl), rfl, _, rfl⟩
    · rintro σ H1 ⟨rfl, c, rfl⟩
      refine ⟨_, rfl, _, _, rfl, rfl, ⟨by decide, by decide, by decide⟩, _, _, rfl, rfl, ?_⟩
      refine ⟨Nat.zero_le _, fun l hl => ?_⟩
      refine ⟨_, rfl, _, rfl, by omega, by omega, for_it walk_range (fun i σ H' => ∃ (r : Int) (v6 v7 : Option V) (ns : List Int), σ = [some (.ref a), some (.int (pl : Int)), some (.int (m : Int)), some (.int c), some (.int r), some (.ref l), v6, v7] ∧ Same H H' ∧ H' l = some (.lst (ns.map V.int)) ∧ RowOk i ns)
        ⟨_, none, none, [], rfl, same_new hl _, upd_same, rfl, fun x hx => by cases hx⟩ (fun _ _ _ _ _ => trivial) ?_ ?_⟩
      · rintro i y σ H2 H3 hi ⟨r, v6, v7, ns, rfl, s1, hns, hn, hx⟩ ⟨rfl, rfl⟩
        have hi' : i < m := by omega
        have hsz : (ns.map V.int).length < sizeLine := by rw [List.length_map, hn, sizeLine_eq]; omega
        have step : ∀ x : Int, 0 ≤ x → x < 1000 → Same H (upd H3 l (.lst (ns.map V.int ++ [.int x]))) ∧ upd H3 l (.lst (ns.map V.int ++ [.int x])) l = some (.lst ((ns ++ [x]).map V.int)) ∧ RowOk (i + 1) (ns ++ [x]) := by
          intro x h0 h1
          refine ⟨fun b o e => ?_, ?_, ?_, ?_⟩
          · rw [upd_ne (ne_of_none e hl)]
            exact s1 b o e
          · rw [upd_same, List.map_append]
            rfl
          · rw [List.length_append, hn]
            rfl
          · intro z hz
            rcases List.mem_append.mp hz with hz | hz
            · exact hx z hz
            · rw [List.mem_singleton.mp hz]
              exact ⟨h0, h1⟩
        refine ⟨_, rfl, _, _, rfl, rfl, _, rfl, ite2 (fun _ => ?_) (fun _ => ?_)⟩
        · have h := step (r % 1000) (by omega) (by omega)
          exact ⟨_, rfl, .inl ⟨rfl, _, SqL.of hns⟩, _, rfl, .inl ⟨_, rfl, _, _, rfl, rfl, p1000, l, _, _, rfl, rfl, hns, hsz, _, rfl, _, _, rfl, rfl, ⟨by decide, by decide⟩, _, _, _, _, rfl, h⟩⟩
        · refine ⟨_, rfl, _, _, rfl, rfl, .inr (by decide), _, rfl, _, _, rfl, rfl, .inr (by decide), _, _, rfl, rfl, _, _, rfl, rfl, .inl ⟨_, rfl, _, _, rfl, rfl, p31, ?_⟩⟩
          have b0 : 0 ≤ (c * 48271 + (0 + (i : Int)) * 69621 + 12345) % 2147483647 ∧ (c * 48271 + (0 + (i : Int)) * 69621 + 12345) % 2147483647 < 2147483647 := by omega
          refine ⟨_, rfl, _, rfl, _, _, rfl, rfl, .inl ⟨by omega, by omega⟩, _, rfl, _, _, rfl, rfl, .inr (by decide), _, _, rfl, rfl, _, rfl, _, _, rfl, rfl, .inr (by decide), _, _, rfl, rfl, .inl ⟨_, rfl, _, _, rfl, rfl, p31b, ?_⟩⟩
          exact ⟨_, rfl, .inl ⟨rfl, _, SqL.of hns⟩, _, rfl, _, _, rfl, rfl, ⟨by decide, by decide⟩, _, _, rfl, rfl, p1000, l, _, _, rfl, rfl, hns, hsz, _, _, _, _, rfl, step _ (Int.emod_nonneg _ (by decide)) (Int.emod_lt_of_pos _ p1000)⟩
      · rintro σ H2 ⟨r, v6, v7, ns, rfl, s1, hns, hr⟩
        exact ⟨_, rfl, q l ns H2 hl s1 hns (by simpa using hr)⟩
end
end K14

set_option Elab.async false
set_option maxRecDepth 100000
set_option maxHeartbeats 4000000
/-! the law's draws: the next of them, a number, a span -/
namespace K14
open PySem PySem.Spec PyProof.Rows L2
open C8 (Cal Met Mak pe_c pe_mk pe_mt pe_mt0 pss_cut)
section
variable {P : Program} {w : World} {K : PySem.W.Frag} {mg : Str → Option Value} {base : Heap}
/-- the draws' list: ints -/
def DrawsAt (H : Hp) (dr : Addr) : Prop := ∃ ns : List Int, H dr = some (.lst (ns.map V.int))
theorem DrawsAt.same {H H' : Hp} {dr : Addr} (h : DrawsAt H dr) (e : Same H H') : DrawsAt H' dr := by
  obtain ⟨ns, h⟩ := h
  exact ⟨ns, e _ _ h⟩
theorem da_ints {H : Hp} : ∀ ns : List Int, DpAll K H (ns.map V.int) (ns.map PyData.int)
  | [] => .nil
  | _ :: r => .cons (.int _) (da_ints r)
theorem lay_ints : ∀ ns : List Int, PyData.canLayAll0 (ns.map PyData.int) = true
  | [] => rfl
  | n :: r => by
    show PyData.canLayAll0 (PyData.int n :: r.map PyData.int) = true
    simp only [PyData.canLayAll0, PyData.canLay0]
    exact lay_ints r
theorem depth_ints : ∀ ns : List Int, PyData.depthAll (ns.map PyData.int) ≤ 1
  | [] => Nat.zero_le _
  | n :: r => by
    show PyData.depthAll (PyData.int n :: r.map PyData.int) ≤ 1
    simp only [PyData.depthAll, PyData.depth]
    have := depth_ints r
    omega
theorem shaped_ints (ns : List Int) : SeqAt.shaped (.list (ns.map PyData.int)) = true := by
  refine shaped_of ?_ ?_
  · simp only [PyData.canLay0]
    exact lay_ints ns
  · simp only [PyData.depth]
    have := depth_ints ns
    omega
theorem eqv_nil (ds : List PyData) : PyData.eqv (.list ds) (.list []) = decide (ds = []) := by
  cases ds with
  | nil => rfl
  | cons d r => simp [PyData.eqv, PyData.eqvAll]
def spNext : Sp := fun vs H Q _ => ∃ (dr : Addr) (m : Int), vs = [.ref dr, .int m] ∧ DrawsAt H dr ∧ 0 < m ∧ ∀ x H', SameX dr H H' → DrawsAt H' dr → 0 ≤ x → x < m → Q (.int x) H'
theorem scNext : FnScope ["_law_draws", "_law_many"] ["_law_draws", "_law_many"] (defScope (top 63)) := ⟨rfl, rfl, rfl, by decide +kernel, rfl, by decide +kernel, by decide +kernel⟩
theorem c_next (G : Gf K mg "_law_next" (top 63) ["_law_draws", "_law_many"]) (T : Tx K mg) : Cal P w K mg base 1 "_law_next" spNext [] := by
  refine G.cal scNext (fun vs H Q E h => ?_) (fun f cdv A outer s H vs Q E hr h => ?_)
  · obtain ⟨dr, m, rfl, _⟩ := h
    rfl
  · obtain ⟨dr, m, rfl, ⟨ns, hd⟩, hm, q⟩ := h
    refine ⟨_, pss_cons (ps_if (pt_cmpR (op_eqD hr.units) (pv 0) (pe_lst pa_nil) (nomark _)) (pss_one (ps_ret pe_int)) pss_nil)
      (pss_one (ps_ret (pe_op op_mod (pe_callTy call_int1 (by rfl) T.int (by decide +kernel) (pa_cons (pe_bm0 PySem.F.plainAttrs_list PySem.F.slot_list_pop PySem.F.type_list_pop mt_pop (pv 0)) pa_nil)) (pv 1)))), ?_⟩
    refine ⟨_, rfl, Nat.zero_le _, fun p hp => ?_⟩
    have npd : dr ≠ p := ne_of_none hd hp
    have hd1 : upd H p (.lst []) dr = some (.lst (ns.map V.int)) := by rw [upd_ne npd]; exact hd
    refine ⟨.list (ns.map PyData.int), .list [], .lst (SqL.of hd1) (da_ints ns), .lst (SqL.of upd_same) .nil, shaped_ints ns, by decide +kernel, _, rfl, ?_⟩
    rw [eqv_nil]
    refine ite2 (fun c => ?_) (fun c => ?_)
    · exact q 0 _ (.of (same_new hp _)) ⟨ns, hd1⟩ (Int.le_refl _) hm
    · have hn : ns ≠ [] := fun z => c (by rw [z]; rfl)
      obtain ⟨init, x, rfl⟩ : ∃ init x, ns = init ++ [x] := ⟨ns.dropLast, ns.getLast hn, (List.dropLast_concat_getLast hn).symm⟩
      refine ⟨_, rfl, .inl ⟨rfl, _, SqL.of hd1⟩, dr, _, .int x, rfl, rfl, hd1, ?_, .inl ⟨x, rfl, _, rfl, _, _, rfl, rfl, hm, ?_⟩⟩
      · rw [List.map_append]
        simp
      · refine q _ _ ((SameX.of (same_new hp _)).trans (sameX_upd _ _ _)) ⟨init, ?_⟩ (Int.emod_nonneg _ (by omega)) (Int.emod_lt_of_pos _ hm)
        rw [upd_same, List.map_append]
        simp
/-- a def that draws: what it gives and keeps -/
def spNumber : Sp := fun vs H Q _ => ∃ (dr : Addr), vs = [.ref dr] ∧ DrawsAt H dr ∧ ∀ x H', SameX dr H H' → DrawsAt H' dr → -1000000000 < x → x < 1000000000 → Q (.int x) H'
theorem scNumber : FnScope ["_law_draws"] ["_law_draws"] (defScope (top 64)) := ⟨rfl, rfl, rfl, by decide +kernel, rfl, by decide +kernel, by decide +kernel⟩
theorem c_number (G : Gf K mg "_law_number" (top 64) ["_law_draws"]) (cN : Cal P w K mg base 1 "_law_next" spNext []) : Cal P w K mg base 2 "_law_number" spNumber [] := by
  refine G.cal scNumber (fun vs H Q E h => ?_) (fun f cdv A outer s H vs Q E hr h => ?_)
  · obtain ⟨dr, rfl, _⟩ := h
    rfl
  · obtain ⟨dr, rfl, hd, q⟩ := h
    refine ⟨_, pss_cons (ps_if (pt_cmpR op_eq (pe_c cN hr (by decide) rfl (pa_cons (pv 0) (pa_cons pe_int pa_nil))) pe_int (nomark _))
        (pss_one (ps_ret (pe_op op_mul (pe_op op_add (pe_op op_add (pe_op op_mul (pe_c cN hr (by decide) rfl (pa_cons (pv 0) (pa_cons pe_int pa_nil))) pe_int) (pe_op op_mul (pe_c cN hr (by decide) rfl (pa_cons (pv 0) (pa_cons pe_int pa_nil))) pe_int)) pe_int)
          (pe_op op_sub pe_int (pe_op op_mul pe_int (pe_c cN hr (by decide) rfl (pa_cons (pv 0) (pa_cons pe_int pa_nil)))))))) pss_nil)
      (pss_one (ps_ret (pe_op op_sub (pe_c cN hr (by decide) rfl (pa_cons (pv 0) (pa_cons pe_int pa_nil))) pe_int))), ?_⟩
    refine ⟨_, rfl, dr, 9, rfl, hd, by decide, fun x H1 s1 d1 _ _ => ⟨rfl, _, rfl, ite2 (fun _ => ?_) (fun _ => ?_)⟩⟩
    · refine ⟨_, rfl, dr, 1000, rfl, d1, by decide, fun x2 H2 s2 d2 l2 u2 => ⟨_, _, rfl, rfl, .inr (by decide), ?_⟩⟩
      refine ⟨_, rfl, dr, 1000, rfl, d2, by decide, fun x3 H3 s3 d3 l3 u3 => ⟨_, _, rfl, rfl, .inr (by decide), _, _, rfl, rfl, _, _, rfl, rfl, ?_⟩⟩
      refine ⟨_, rfl, dr, 2, rfl, d3, by decide, fun x4 H4 s4 d4 l4 u4 => ⟨_, _, rfl, rfl, .inl (by decide), _, _, rfl, rfl, _, _, rfl, rfl, .inl ⟨by omega, by omega⟩, ?_⟩⟩
      have h4 : x4 = 0 ∨ x4 = 1 := by omega
      rcases h4 with rfl | rfl
      · refine q _ H4 (((s1.trans s2).trans s3).trans s4) d4 (by omega) (by omega)
      · refine q _ H4 (((s1.trans s2).trans s3).trans s4) d4 (by omega) (by omega)
    · refine ⟨_, rfl, dr, 60, rfl, d1, by decide, fun x2 H2 s2 d2 l2 u2 => ⟨_, _, rfl, rfl, ?_⟩⟩
      exact q _ H2 (s1.trans s2) d2 (by omega) (by omega)
/-- a span -/
def spSpan (K : PySem.W.Frag) : Sp := fun vs H Q _ => ∃ (dr : Addr), vs = [.ref dr] ∧ DrawsAt H dr ∧ ∀ v f t H', SameX dr H H' → DrawsAt H' dr → Dp K H' v (.tuple [.int f, .int t]) → spanOk f t → Q v H'
theorem scLSpan : FnScope ["_law_draws", "_law_first"] ["_law_draws"] (defScope (top 69)) := ⟨rfl, rfl, rfl, by decide +kernel, rfl, by decide +kernel, by decide +kernel⟩
theorem c_span (G : Gf K mg "_law_span" (top 69) ["_law_draws"]) (T : Tx K mg) (cN : Cal P w K mg base 1 "_law_next" spNext []) : Cal P w K mg base 2 "_law_span" (spSpan K) [] := by
  refine G.cal scLSpan (fun vs H Q E h => ?_) (fun f cdv A outer s H vs Q E hr h => ?_)
  · obtain ⟨dr, rfl, _⟩ := h
    rfl
  · obtain ⟨dr, rfl, hd, q⟩ := h
    refine ⟨_, pss_cons (ps_set (i := 1) scLSpan.nd rfl (.inl rfl) (pe_c cN hr (by decide) rfl (pa_cons (pv 0) (pa_cons pe_int pa_nil))))
      (pss_cons (ps_if (pt_cmpR op_eq (pe_c cN hr (by decide) rfl (pa_cons (pv 0) (pa_cons pe_int pa_nil))) pe_int (nomark _))
        (pss_one (ps_ret (pe_tup (pa_cons (pe_op op_mul (pv 1) (pe_callTy call_int1 (by rfl) T.int (by decide +kernel) (pa_cons (pe_cmpR op_eq (pe_c cN hr (by decide) rfl (pa_cons (pv 0) (pa_cons pe_int pa_nil))) pe_int (nomark _)) pa_nil))) (pa_cons pe_int pa_nil))))) pss_nil)
      (pss_one (ps_ret (pe_tup (pa_cons (pv 1) (pa_cons (pe_op op_add (pe_op op_add (pv 1) pe_int) (pe_c cN hr (by decide) rfl (pa_cons (pv 0) (pa_cons pe_int pa_nil)))) pa_nil)))))), ?_⟩
    refine ⟨_, rfl, dr, 20, rfl, hd, by decide, fun x H1 s1 d1 l1 u1 => ?_⟩
    refine ⟨_, rfl, dr, 3, rfl, d1, by decide, fun x2 H2 s2 d2 l2 u2 => ⟨rfl, _, rfl, ite2 (fun _ => ?_) (fun _ => ?_)⟩⟩
    · refine ⟨_, rfl, _, rfl, dr, 2, rfl, d2, by decide, fun x3 H3 s3 d3 l3 u3 => ⟨rfl, .inr ⟨_, rfl, _, _, rfl, rfl, .inl ⟨by omega, by omega⟩, by show 2 ≤ sizeLine; decide, fun p hp => ?_⟩⟩⟩
      refine q (.ref p) (x * (if decide (V.int x3 = V.int 0) = true then 1 else 0)) 10000 _ (((s1.trans s2).trans s3).trans (.of (same_new hp _))) (d3.same (same_new hp _)) (dpT upd_same (.cons (.int _) (.cons (.int _) .nil))) ?_
      by_cases c : decide (V.int x3 = V.int 0) = true
      · rw [if_pos c]
        exact ⟨by omega, by omega, Int.le_refl _⟩
      · rw [if_neg c]
        exact ⟨by omega, by omega, Int.le_refl _⟩
    · refine ⟨_, rfl, _, rfl, _, _, rfl, rfl, _, rfl, dr, 12, rfl, d2, by decide, fun x3 H3 s3 d3 l3 u3 => ⟨_, _, rfl, rfl, by show 2 ≤ sizeLine; decide, fun p hp => ?_⟩⟩
      exact q (.ref p) _ _ _ (((s1.trans s2).trans s3).trans (.of (same_new hp _))) (d3.same (same_new hp _)) (dpT upd_same (.cons (.int _) (.cons (.int _) .nil))) ⟨by omega, by omega, by omega⟩
end
end K14

set_option Elab.async false
set_option maxRecDepth 100000
set_option maxHeartbeats 4000000
/-! the law's draws: an amount, a condition -/
namespace K14
open PySem PySem.Spec PyProof.Rows L2
open C8 (Cal Met Mak pe_c pe_mk pe_mt pe_mt0 pss_cut)
/-- a list of names -/
structure NamesAt (H : Hp) (l : Addr) (xs : List Str) : Prop where
  at_ : H l = some (.lst (xs.map V.str))
  ne : xs ≠ []
  ok : ∀ x ∈ xs, NameOk x
theorem NamesAt.apart {H : Hp} {l dr : Addr} {xs : List Str} (h : NamesAt H l xs) (d : DrawsAt H dr) : l ≠ dr := by
  intro e
  obtain ⟨ns, hn⟩ := d
  have h1 := h.at_
  rw [e, hn] at h1
  have h2 : ns.map V.int = xs.map V.str := by injection (Option.some.inj h1)
  cases xs with
  | nil => exact h.ne rfl
  | cons x r =>
    cases ns with
    | nil => exact absurd h2 (by simp)
    | cons n r' =>
      have := (List.cons.inj h2).1
      cases this
theorem NamesAt.keep {H H' : Hp} {l dr : Addr} {xs : List Str} (h : NamesAt H l xs) (d : DrawsAt H dr) (e : SameX dr H H') : NamesAt H' l xs := ⟨e _ _ (h.apart d) h.at_, h.ne, h.ok⟩
theorem NamesAt.same {H H' : Hp} {l : Addr} {xs : List Str} (h : NamesAt H l xs) (e : Same H H') : NamesAt H' l xs := ⟨e _ _ h.at_, h.ne, h.ok⟩
theorem NamesAt.len {H : Hp} {l : Addr} {xs : List Str} (h : NamesAt H l xs) : 0 < (((xs.map V.str).length : Nat) : Int) := by
  rw [List.length_map]
  have := List.length_pos_iff.mpr h.ne
  omega
theorem NamesAt.pick {H : Hp} {l : Addr} {xs : List Str} (h : NamesAt H l xs) {i : Int} (h0 : 0 ≤ i) (h1 : i < (((xs.map V.str).length : Nat) : Int)) : ∃ y, NameOk y ∧ y ∈ xs ∧ atI (xs.map V.str) i = some (.str y) := by
  rw [List.length_map] at h1
  obtain ⟨k, rfl⟩ : ∃ k : Nat, i = (k : Int) := ⟨i.toNat, by omega⟩
  have hk : k < xs.length := by omega
  exact ⟨xs[k], h.ok _ (List.getElem_mem hk), List.getElem_mem hk, atI_nat (by rw [List.getElem?_map, List.getElem?_eq_getElem hk]; rfl)⟩
theorem DrawsAt.dp {K : PySem.W.Frag} {H H' : Hp} {dr : Addr} (h : DrawsAt H dr) (e : SameX dr H H') {d : PyData} {v : V} (t : tupD d = true) (hv : Dp K H v d) : Dp K H' v d := by
  obtain ⟨ns, hn⟩ := h
  exact e.dp hn t hv
section
variable {P : Program} {w : World} {K : PySem.W.Frag} {mg : Str → Option Value} {base : Heap}
def spDraw (K : PySem.W.Frag) (b : Bool) (n : Nat) : Sp := fun vs H Q _ => ∃ (dr fl rl : Addr) (fs rs : List Str) (di : Int) (d : Nat), vs = [.ref dr, .int di, .ref fl, .ref rl] ∧ di = (d : Int) ∧ DrawsAt H dr ∧ NamesAt H fl fs ∧ NamesAt H rl rs ∧ d + 1 ≤ n ∧
  ∀ v p H', SameX dr H H' → DrawsAt H' dr → Dp K H' v (pd p) → ok b p → hgt p ≤ d + 1 → Q v H'
theorem draw_none {b : Bool} : ∀ vs H Q E, ¬ spDraw K b 0 vs H Q E := fun vs H Q E h => by
  obtain ⟨_, _, _, _, _, _, d, _, _, _, _, _, h0, _⟩ := h
  omega
theorem scCondD : FnScope ["_law_draws", "_law_depth", "_law_facts", "_law_rules", "_law_kind", "_law_first"] ["_law_draws", "_law_depth", "_law_facts", "_law_rules"] (defScope (top 66)) := ⟨rfl, rfl, rfl, by decide +kernel, rfl, by decide +kernel, by decide +kernel⟩
theorem c_condition {m n : Nat} (hm : 1 ≤ m) (G : Gf K mg "_law_condition" (top 66) ["_law_draws", "_law_depth", "_law_facts", "_law_rules"]) (T : Tx K mg) (cN : Cal P w K mg base 1 "_law_next" spNext [])
    (cA : Cal P w K mg base m "_law_amount" (spDraw K true n) []) (cC : Cal P w K mg base m "_law_condition" (spDraw K false n) []) : Cal P w K mg base (m + 1) "_law_condition" (spDraw K false (n + 1)) [] := by
  refine G.cal scCondD (fun vs H Q E h => ?_) (fun f cdv A outer s H vs Q E hr h => ?_)
  · obtain ⟨dr, fl, rl, fs, rs, di, d, rfl, _⟩ := h
    rfl
  · obtain ⟨dr, fl, rl, fs, rs, di, d, rfl, rfl, hd, hf, hrl, hdn, q⟩ := h
    refine ⟨_, (pss_cons (ps_set (i := 4) scCondD.nd rfl (.inl rfl) (pe_c cN hr (by omega) (by rfl) (pa_cons (pv 0) (pa_cons pe_int pa_nil))))
      (pss_cons (ps_if (PW.pt (pw_or (pt_cmpR op_eq (pv 4) pe_int (nomark _)) (pw_or1 (pt_cmpR op_le (pv 1) pe_int (nomark _))))) (pss_one (ps_ret (pe_tup (pa_cons pe_str (pa_cons (pe_ix ix_list (pv 2) (pe_c cN hr (by omega) (by rfl) (pa_cons (pv 0) (pa_cons (pe_callB call_len_seq (by rfl) T.len PySem.boot_len (pa_cons (pv 2) pa_nil)) pa_nil))) (fun _ _ => rfl)) pa_nil))))) pss_nil)
      (pss_cons (ps_if (pt_cmpR op_eq (pv 4) pe_int (nomark _)) (pss_one (ps_ret (pe_tup (pa_cons pe_str (pa_cons (pe_c cC hr (by omega) (by rfl) (pa_cons (pv 0) (pa_cons (pe_op op_sub (pv 1) pe_int) (pa_cons (pv 2) (pa_cons (pv 3) pa_nil))))) pa_nil))))) pss_nil)
      (pss_cons (ps_if (pt_cmpR op_lt (pv 4) pe_int (nomark _)) (pss_cons (ps_set (i := 5) scCondD.nd rfl (.inl rfl) (pe_c cC hr (by omega) (by rfl) (pa_cons (pv 0) (pa_cons (pe_op op_sub (pv 1) pe_int) (pa_cons (pv 2) (pa_cons (pv 3) pa_nil))))))
      (pss_one (ps_ret (pe_tup (pa_cons (pe_ix ix_list (pe_lst (pa_cons pe_str (pa_cons pe_str pa_nil))) (pe_op op_sub (pv 4) pe_int) (fun _ _ => rfl)) (pa_cons (pv 5) (pa_cons (pe_c cC hr (by omega) (by rfl) (pa_cons (pv 0) (pa_cons (pe_op op_sub (pv 1) pe_int) (pa_cons (pv 2) (pa_cons (pv 3) pa_nil))))) pa_nil))))))) pss_nil)
      (pss_cons (ps_set (i := 5) scCondD.nd rfl (.inl rfl) (pe_c cA hr (by omega) (by rfl) (pa_cons (pv 0) (pa_cons (pe_op op_sub (pv 1) pe_int) (pa_cons (pv 2) (pa_cons (pv 3) pa_nil))))))
      (pss_one (ps_ret (pe_tup (pa_cons (pe_ix ix_list (pe_lst (pa_cons pe_str (pa_cons pe_str pa_nil))) (pe_op op_fdiv (pv 4) pe_int) (fun _ _ => rfl)) (pa_cons (pv 5) (pa_cons (pe_c cA hr (by omega) (by rfl) (pa_cons (pv 0) (pa_cons (pe_op op_sub (pv 1) pe_int) (pa_cons (pv 2) (pa_cons (pv 3) pa_nil))))) pa_nil))))))))))), ?_⟩
    refine ⟨_, rfl, dr, 7, rfl, hd, by decide, fun x H1 s1 d1 l1 u1 => ?_⟩
    have f1 := hf.keep hd s1
    have r1 := hrl.keep hd s1
    refine ⟨_, rfl, rfl, _, rfl, ite2 (fun c1 => ?_) (fun c1 => ⟨_, rfl, _, _, rfl, rfl, _, rfl, ite2 (fun c2 => ?_) (fun c2 => ?_)⟩)⟩
    rotate_right
    · have hd0 : ¬ (d : Int) ≤ 0 := fun z => c2 (decide_eq_true z)
      have hx0 : x ≠ 0 := fun z => c1 (by rw [z]; rfl)
      have ed : (d : Int) - 1 = ((d - 1 : Nat) : Int) := by omega
      refine ⟨_, rfl, rfl, _, rfl, ite2 (fun c3 => ?_) (fun c3 => ?_)⟩
      · refine ⟨_, rfl, _, rfl, _, _, rfl, rfl, _, rfl, _, rfl, dr, fl, rl, fs, rs, _, d - 1, rfl, ed, d1, f1, r1, by omega, fun v p H2 s2 d2 hv hok hh => ?_⟩
        refine ⟨by show 2 ≤ sizeLine; decide, fun a ha => ?_⟩
        have sn := same_new ha (.tup [.str "not", v])
        exact q (.ref a) (.neg p) _ ((s1.trans s2).trans (.of sn)) (d2.same sn) (dpT upd_same (.cons (.str _) (.cons (dp_same sn hv) .nil))) hok (by show hgt p + 1 ≤ _; omega)
      · have hx1 : x ≠ 1 := fun z => c3 (by rw [z]; rfl)
        refine ⟨_, rfl, _, _, rfl, rfl, _, rfl, ite2 (fun c4 => ?_) (fun c4 => ?_)⟩
        · have hx4 : x < 4 := of_decide_eq_true c4
          refine ⟨_, rfl, _, rfl, _, _, rfl, rfl, _, rfl, _, rfl, dr, fl, rl, fs, rs, _, d - 1, rfl, ed, d1, f1, r1, by omega, fun v p H2 s2 d2 hv hok hh => ?_⟩
          obtain ⟨o, ho⟩ : ∃ o : Jn, atI [V.str "both", V.str "either"] (x - 2) = some (.str o.w) := by
            have h : x = 2 ∨ x = 3 := by omega
            rcases h with rfl | rfl
            · exact ⟨.both, by decide +kernel⟩
            · exact ⟨.either, by decide +kernel⟩
          refine ⟨by show 2 ≤ sizeLine; decide, fun a ha => ?_⟩
          have sn := same_new ha (.lst [.str "both", .str "either"])
          refine ⟨_, rfl, _, _, rfl, rfl, a, _, _, _, rfl, rfl, SqL.of upd_same, ho, _, rfl, ?_⟩
          refine ⟨_, rfl, _, rfl, _, _, rfl, rfl, _, rfl, _, rfl, dr, fl, rl, fs, rs, _, d - 1, rfl, ed, d2.same sn, (f1.keep d1 s2).same sn, (r1.keep d1 s2).same sn, by omega, fun v2 p2 H3 s3 d3 hv2 hok2 hh2 => ?_⟩
          refine ⟨by show 3 ≤ sizeLine; decide, fun b hb => ?_⟩
          have sm := same_new hb (.tup [.str o.w, v, v2])
          exact q (.ref b) (.jn o p p2) _ ((((s1.trans s2).trans (.of sn)).trans s3).trans (.of sm)) (d3.same sm) (dpT upd_same (.cons (.str _) (.cons (dp_same sm ((d2.same sn).dp s3 (pd_tup p) (dp_same sn hv))) (.cons (dp_same sm hv2) .nil)))) ⟨hok, hok2⟩ (by show max (hgt p) (hgt p2) + 1 ≤ _; omega)
        · have hx4 : ¬ x < 4 := fun z => c4 (decide_eq_true z)
          refine ⟨_, rfl, _, rfl, _, _, rfl, rfl, _, rfl, _, rfl, dr, fl, rl, fs, rs, _, d - 1, rfl, ed, d1, f1, r1, by omega, fun v p H2 s2 d2 hv hok hh => ?_⟩
          obtain ⟨o, ho⟩ : ∃ o : Cm, atI [V.str "below", V.str "same"] (x / 6) = some (.str o.w) := by
            have h : x / 6 = 0 ∨ x / 6 = 1 := by omega
            rcases h with h | h
            · rw [h]
              exact ⟨.below, by decide +kernel⟩
            · rw [h]
              exact ⟨.same, by decide +kernel⟩
          refine ⟨by show 2 ≤ sizeLine; decide, fun a ha => ?_⟩
          have sn := same_new ha (.lst [.str "below", .str "same"])
          refine ⟨_, rfl, _, _, rfl, rfl, ⟨by decide, by decide⟩, a, _, _, _, rfl, rfl, SqL.of upd_same, ho, _, rfl, ?_⟩
          refine ⟨_, rfl, _, rfl, _, _, rfl, rfl, _, rfl, _, rfl, dr, fl, rl, fs, rs, _, d - 1, rfl, ed, d2.same sn, (f1.keep d1 s2).same sn, (r1.keep d1 s2).same sn, by omega, fun v2 p2 H3 s3 d3 hv2 hok2 hh2 => ?_⟩
          refine ⟨by show 3 ≤ sizeLine; decide, fun b hb => ?_⟩
          have sm := same_new hb (.tup [.str o.w, v, v2])
          exact q (.ref b) (.cmp o p p2) _ ((((s1.trans s2).trans (.of sn)).trans s3).trans (.of sm)) (d3.same sm) (dpT upd_same (.cons (.str _) (.cons (dp_same sm ((d2.same sn).dp s3 (pd_tup p) (dp_same sn hv))) (.cons (dp_same sm hv2) .nil)))) ⟨hok, hok2⟩ (by show max (hgt p) (hgt p2) + 1 ≤ _; omega)
    all_goals
      refine ⟨_, rfl, _, rfl, _, rfl, fl, _, rfl, .inl (SqL.of f1.at_), dr, _, rfl, d1, f1.len, fun y H2 s2 d2 l2 u2 => ?_⟩
      obtain ⟨z, hz, _, hat⟩ := f1.pick l2 u2
      refine ⟨fl, _, _, _, rfl, rfl, SqL.of (f1.keep d1 s2).at_, hat, by show 2 ≤ sizeLine; decide, fun a ha => ?_⟩
      have sn := same_new ha (.tup [.str "known", .str z])
      exact q (.ref a) (.known z) _ ((s1.trans s2).trans (.of sn)) (d2.same sn) (dpT upd_same (.cons (.str _) (.cons (.str _) .nil))) hz (by show 1 ≤ _; omega)
end
end K14

set_option Elab.async false
set_option maxRecDepth 100000
set_option maxHeartbeats 4000000
/-! the law's draws: an amount (printed by mkx4.py), the induction -/
namespace K14
open PySem PySem.Spec PyProof.Rows L2
open C8 (Cal Met Mak pe_c pe_mk pe_mt pe_mt0 pss_cut)
section
variable {P : Program} {w : World} {K : PySem.W.Frag} {mg : Str → Option Value} {base : Heap}
theorem scAmount : FnScope ["_law_draws", "_law_depth", "_law_facts", "_law_rules", "_law_kind", "_law_name_here", "_law_part", "_law_condition_here", "_law_first", "_law_second"] ["_law_draws", "_law_depth", "_law_facts", "_law_rules"] (defScope (top 65)) := ⟨rfl, rfl, rfl, by decide +kernel, rfl, by decide +kernel, by decide +kernel⟩
theorem c_amount {m n : Nat} (hm : 2 ≤ m) (G : Gf K mg "_law_amount" (top 65) ["_law_draws", "_law_depth", "_law_facts", "_law_rules"]) (T : Tx K mg) (cN : Cal P w K mg base 1 "_law_next" spNext []) (cU : Cal P w K mg base 2 "_law_number" spNumber [])
    (cA : Cal P w K mg base m "_law_amount" (spDraw K true n) []) (cC : Cal P w K mg base m "_law_condition" (spDraw K false n) []) : Cal P w K mg base (m + 1) "_law_amount" (spDraw K true (n + 1)) [] := by
  refine G.cal scAmount (fun vs H Q E h => ?_) (fun f cdv A outer s H vs Q E hr h => ?_)
  · obtain ⟨dr, fl, rl, fs, rs, di, d, rfl, _⟩ := h
    rfl
  · obtain ⟨dr, fl, rl, fs, rs, di, d, rfl, rfl, hd, hf, hrl, hdn, q⟩ := h
    refine ⟨_, (pss_cons (ps_set (i := 4) scAmount.nd rfl (.inl rfl) (pe_c cN hr (by omega) (by rfl) (pa_cons (pv 0) (pa_cons pe_int pa_nil))))
      (pss_cut (ps_if (pt_cmpR op_eq (pv 1) pe_int (nomark _)) (pss_one (ps_set (i := 4) scAmount.nd rfl (.inl rfl) (pe_c cN hr (by omega) (by rfl) (pa_cons (pv 0) (pa_cons pe_int pa_nil))))) pss_nil)
      (pss_cons (ps_if (pt_cmpR op_eq (pv 4) pe_int (nomark _)) (pss_one (ps_ret (pe_tup (pa_cons pe_str (pa_cons (pe_c cU hr (by omega) (by rfl) (pa_cons (pv 0) pa_nil)) pa_nil))))) pss_nil)
      (pss_cons (ps_if (pt_cmpR op_lt (pv 4) pe_int (nomark _)) (pss_one (ps_ret (pe_tup (pa_cons pe_str (pa_cons (pe_ix ix_list (pv 2) (pe_c cN hr (by omega) (by rfl) (pa_cons (pv 0) (pa_cons (pe_callB call_len_seq (by rfl) T.len PySem.boot_len (pa_cons (pv 2) pa_nil)) pa_nil))) (fun _ _ => rfl)) (pa_cons pe_non pa_nil)))))) pss_nil)
      (pss_cons (ps_if (pt_cmpR op_eq (pv 4) pe_int (nomark _)) (pss_one (ps_ret (pe_tup (pa_cons pe_str (pa_cons (pe_ix ix_list (pv 3) (pe_c cN hr (by omega) (by rfl) (pa_cons (pv 0) (pa_cons (pe_callB call_len_seq (by rfl) T.len PySem.boot_len (pa_cons (pv 3) pa_nil)) pa_nil))) (fun _ _ => rfl)) pa_nil))))) pss_nil)
      (pss_cons (ps_if (pt_cmpR op_eq (pv 4) pe_int (nomark _)) (pss_cons (ps_set (i := 5) scAmount.nd rfl (.inl rfl) (pe_ix ix_list (pv 2) (pe_c cN hr (by omega) (by rfl) (pa_cons (pv 0) (pa_cons (pe_callB call_len_seq (by rfl) T.len PySem.boot_len (pa_cons (pv 2) pa_nil)) pa_nil))) (fun _ _ => rfl)))
      (pss_one (ps_ret (pe_tup (pa_cons pe_str (pa_cons (pv 5) (pa_cons (pe_c cA hr (by omega) (by rfl) (pa_cons (pv 0) (pa_cons (pe_op op_sub (pv 1) pe_int) (pa_cons (pv 2) (pa_cons (pv 3) pa_nil))))) pa_nil))))))) pss_nil)
      (pss_cons (ps_if (pt_cmpR op_eq (pv 4) pe_int (nomark _)) (pss_cons (ps_set (i := 6) scAmount.nd rfl (.inl rfl) (pe_ix ix_list (pe_lst (pa_cons pe_int (pa_cons pe_int (pa_cons pe_int (pa_cons pe_int (pa_cons pe_int (pa_cons pe_int pa_nil))))))) (pe_c cN hr (by omega) (by rfl) (pa_cons (pv 0) (pa_cons pe_int pa_nil))) (fun _ _ => rfl)))
      (pss_one (ps_ret (pe_tup (pa_cons pe_str (pa_cons (pv 6) (pa_cons (pe_c cA hr (by omega) (by rfl) (pa_cons (pv 0) (pa_cons (pe_op op_sub (pv 1) pe_int) (pa_cons (pv 2) (pa_cons (pv 3) pa_nil))))) pa_nil))))))) pss_nil)
      (pss_cons (ps_if (pt_cmpR op_lt (pv 4) pe_int (nomark _)) (pss_cons (ps_set (i := 7) scAmount.nd rfl (.inl rfl) (pe_c cC hr (by omega) (by rfl) (pa_cons (pv 0) (pa_cons (pe_op op_sub (pv 1) pe_int) (pa_cons (pv 2) (pa_cons (pv 3) pa_nil))))))
      (pss_cons (ps_set (i := 8) scAmount.nd rfl (.inl rfl) (pe_c cA hr (by omega) (by rfl) (pa_cons (pv 0) (pa_cons (pe_op op_sub (pv 1) pe_int) (pa_cons (pv 2) (pa_cons (pv 3) pa_nil))))))
      (pss_one (ps_ret (pe_tup (pa_cons pe_str (pa_cons (pv 7) (pa_cons (pv 8) (pa_cons (pe_c cA hr (by omega) (by rfl) (pa_cons (pv 0) (pa_cons (pe_op op_sub (pv 1) pe_int) (pa_cons (pv 2) (pa_cons (pv 3) pa_nil))))) pa_nil))))))))) pss_nil)
      (pss_cons (ps_set (i := 8) scAmount.nd rfl (.inl rfl) (pe_c cA hr (by omega) (by rfl) (pa_cons (pv 0) (pa_cons (pe_op op_sub (pv 1) pe_int) (pa_cons (pv 2) (pa_cons (pv 3) pa_nil))))))
      (pss_cons (ps_set (i := 9) scAmount.nd rfl (.inl rfl) (pe_c cA hr (by omega) (by rfl) (pa_cons (pv 0) (pa_cons (pe_op op_sub (pv 1) pe_int) (pa_cons (pv 2) (pa_cons (pv 3) pa_nil))))))
      (pss_one (ps_ret (pe_tup (pa_cons (pe_ix ix_list (pe_lst (pa_cons pe_str (pa_cons pe_str (pa_cons pe_str (pa_cons pe_str (pa_cons pe_str pa_nil)))))) (pe_op op_sub (pv 4) pe_int) (fun _ _ => rfl)) (pa_cons (pv 8) (pa_cons (pv 9) pa_nil)))))))))))))))), ?_⟩
    refine ⟨_, rfl, dr, 14, rfl, hd, by decide, fun x0 H0 s0 d0 l0 u0 => ?_⟩
    refine ⟨fun σ H1 => ∃ x : Int, σ = [some (.ref dr), some (.int (d : Int)), some (.ref fl), some (.ref rl), some (.int x), none, none, none, none, none] ∧ SameX dr H H1 ∧ DrawsAt H1 dr ∧ 0 ≤ x ∧ x < 14 ∧ (d = 0 → x < 4), ?_, ?_⟩
    · refine ⟨_, rfl, rfl, _, rfl, ite2 (fun c => ?_) (fun c => ⟨x0, rfl, s0, d0, l0, u0, fun z => absurd (by rw [z]; rfl) c⟩)⟩
      exact ⟨_, rfl, dr, 4, rfl, d0, by decide, fun x1 H1 s1 d1 l1 u1 => ⟨x1, rfl, s0.trans s1, d1, l1, by omega, fun _ => u1⟩⟩
    rintro σ H1 ⟨x, rfl, s1, d1, l1, u1, hx⟩
    clear s0 d0 l0 u0
    have f1 := hf.keep hd s1
    have r1 := hrl.keep hd s1
    -- a number
    refine ⟨_, rfl, rfl, _, rfl, ite2 (fun c1 => ?_) (fun c1 => ?_)⟩
    · refine ⟨_, rfl, dr, rfl, d1, fun y H2 s2 d2 l2 u2 => ⟨by show 2 ≤ sizeLine; decide, fun a ha => ?_⟩⟩
      have sn := same_new ha (.tup [.str "number", .int y])
      exact q (.ref a) (.num y) _ ((s1.trans s2).trans (.of sn)) (d2.same sn) (dpT upd_same (.cons (.str _) (.cons (.int _) .nil))) ⟨l2, u2⟩ (by show 1 ≤ _; omega)
    -- a fact
    refine ⟨_, rfl, _, _, rfl, rfl, _, rfl, ite2 (fun c2 => ?_) (fun c2 => ?_)⟩
    · refine ⟨_, rfl, _, rfl, _, rfl, fl, _, rfl, .inl (SqL.of f1.at_), dr, _, rfl, d1, f1.len, fun y H2 s2 d2 l2 u2 => ?_⟩
      obtain ⟨z, hz, _, hat⟩ := f1.pick l2 u2
      refine ⟨fl, _, _, _, rfl, rfl, SqL.of (f1.keep d1 s2).at_, hat, by show 3 ≤ sizeLine; decide, fun a ha => ?_⟩
      have sn := same_new ha (.tup [.str "fact", .str z, .non])
      exact q (.ref a) (.fact z) _ ((s1.trans s2).trans (.of sn)) (d2.same sn) (dpT upd_same (.cons (.str _) (.cons (.str _) (.cons .non .nil)))) hz (by show 1 ≤ _; omega)
    -- a due
    refine ⟨_, rfl, rfl, _, rfl, ite2 (fun c3 => ?_) (fun c3 => ?_)⟩
    · refine ⟨_, rfl, _, rfl, _, rfl, rl, _, rfl, .inl (SqL.of r1.at_), dr, _, rfl, d1, r1.len, fun y H2 s2 d2 l2 u2 => ?_⟩
      obtain ⟨z, hz, _, hat⟩ := r1.pick l2 u2
      refine ⟨rl, _, _, _, rfl, rfl, SqL.of (r1.keep d1 s2).at_, hat, by show 2 ≤ sizeLine; decide, fun a ha => ?_⟩
      have sn := same_new ha (.tup [.str "due", .str z])
      exact q (.ref a) (.due z) _ ((s1.trans s2).trans (.of sn)) (d2.same sn) (dpT upd_same (.cons (.str _) (.cons (.str _) .nil))) hz (by show 1 ≤ _; omega)
    have g2 : ¬ x < 3 := fun z => c2 (decide_eq_true z)
    have g3 : x ≠ 3 := fun z => c3 (by rw [z]; rfl)
    have hd0 : d ≠ 0 := fun z => by have := hx z; omega
    have ed : (d : Int) - 1 = ((d - 1 : Nat) : Int) := by omega
    -- a fact with another part
    refine ⟨_, rfl, rfl, _, rfl, ite2 (fun c4 => ?_) (fun c4 => ?_)⟩
    · refine ⟨_, rfl, _, rfl, _, rfl, fl, _, rfl, .inl (SqL.of f1.at_), dr, _, rfl, d1, f1.len, fun y H2 s2 d2 l2 u2 => ?_⟩
      obtain ⟨z, hz, _, hat⟩ := f1.pick l2 u2
      refine ⟨fl, _, _, _, rfl, rfl, SqL.of (f1.keep d1 s2).at_, hat, ?_⟩
      refine ⟨_, rfl, _, rfl, _, rfl, _, _, rfl, rfl, _, rfl, _, rfl, dr, fl, rl, fs, rs, _, d - 1, rfl, ed, d2, f1.keep d1 s2, r1.keep d1 s2, by omega, fun v p H3 s3 d3 hv hok hh => ?_⟩
      refine ⟨by show 3 ≤ sizeLine; decide, fun a ha => ?_⟩
      have sn := same_new ha (.tup [.str "fact", .str z, v])
      exact q (.ref a) (.factOr z p) _ (((s1.trans s2).trans s3).trans (.of sn)) (d3.same sn) (dpT upd_same (.cons (.str _) (.cons (.str _) (.cons (dp_same sn hv) .nil)))) ⟨hz, hok⟩ (by show hgt p + 1 ≤ _; omega)
    -- so many percent
    refine ⟨_, rfl, rfl, _, rfl, ite2 (fun c5 => ?_) (fun c5 => ?_)⟩
    · refine ⟨by show 6 ≤ sizeLine; decide, fun b hb => ?_⟩
      have sb := same_new hb (.lst [.int 0, .int 50, .int 100, .int 33, .int 1000, .int 7])
      refine ⟨_, rfl, dr, 6, rfl, d1.same sb, by decide, fun y H2 s2 d2 l2 u2 => ?_⟩
      have nbd : b ≠ dr := fun e => by
        obtain ⟨ns, hn⟩ := d1
        rw [e, hn] at hb
        cases hb
      obtain ⟨o, h0, h1, ho⟩ : ∃ o : Int, 0 ≤ o ∧ o ≤ 1000 ∧ atI [V.int 0, V.int 50, V.int 100, V.int 33, V.int 1000, V.int 7] y = some (.int o) := by
        have h : y = 0 ∨ y = 1 ∨ y = 2 ∨ y = 3 ∨ y = 4 ∨ y = 5 := by omega
        rcases h with rfl | rfl | rfl | rfl | rfl | rfl
        · exact ⟨0, by decide, by decide, rfl⟩
        · exact ⟨50, by decide, by decide, rfl⟩
        · exact ⟨100, by decide, by decide, rfl⟩
        · exact ⟨33, by decide, by decide, rfl⟩
        · exact ⟨1000, by decide, by decide, rfl⟩
        · exact ⟨7, by decide, by decide, rfl⟩
      refine ⟨b, _, _, _, rfl, rfl, SqL.of (s2 _ _ nbd upd_same), ho, ?_⟩
      have f2 := (f1.same sb).keep (d1.same sb) s2
      have r2 := (r1.same sb).keep (d1.same sb) s2
      refine ⟨_, rfl, _, rfl, _, rfl, _, _, rfl, rfl, _, rfl, _, rfl, dr, fl, rl, fs, rs, _, d - 1, rfl, ed, d2, f2, r2, by omega, fun v p H3 s3 d3 hv hok hh => ?_⟩
      refine ⟨by show 3 ≤ sizeLine; decide, fun a ha => ?_⟩
      have sn := same_new ha (.tup [.str "percent", .int o, v])
      exact q (.ref a) (.pct o p) _ ((((s1.trans (.of sb)).trans s2).trans s3).trans (.of sn)) (d3.same sn) (dpT upd_same (.cons (.str _) (.cons (.int _) (.cons (dp_same sn hv) .nil)))) ⟨h0, h1, hok⟩ (by show hgt p + 1 ≤ _; omega)
    have g4 : x ≠ 4 := fun z => c4 (by rw [z]; rfl)
    have g5 : x ≠ 5 := fun z => c5 (by rw [z]; rfl)
    -- an if
    refine ⟨_, rfl, _, _, rfl, rfl, _, rfl, ite2 (fun c6 => ?_) (fun c6 => ?_)⟩
    · refine ⟨_, rfl, _, rfl, _, _, rfl, rfl, _, rfl, _, rfl, dr, fl, rl, fs, rs, _, d - 1, rfl, ed, d1, f1, r1, by omega, fun v p H2 s2 d2 hv hok hh => ?_⟩
      have f2 := f1.keep d1 s2
      have r2 := r1.keep d1 s2
      refine ⟨_, rfl, _, rfl, _, _, rfl, rfl, _, rfl, _, rfl, dr, fl, rl, fs, rs, _, d - 1, rfl, ed, d2, f2, r2, by omega, fun v2 p2 H3 s3 d3 hv2 hok2 hh2 => ?_⟩
      refine ⟨_, rfl, _, rfl, _, rfl, _, rfl, _, _, rfl, rfl, _, rfl, _, rfl, dr, fl, rl, fs, rs, _, d - 1, rfl, ed, d3, f2.keep d2 s3, r2.keep d2 s3, by omega, fun v3 p3 H4 s4 d4 hv3 hok3 hh3 => ?_⟩
      refine ⟨by show 4 ≤ sizeLine; decide, fun a ha => ?_⟩
      have sn := same_new ha (.tup [.str "if", v, v2, v3])
      have hv' := dp_same sn (d3.dp s4 (pd_tup p) (d2.dp s3 (pd_tup p) hv))
      have hv2' := dp_same sn (d3.dp s4 (pd_tup p2) hv2)
      exact q (.ref a) (.ite p p2 p3) _ ((((s1.trans s2).trans s3).trans s4).trans (.of sn)) (d4.same sn) (dpT upd_same (.cons (.str _) (.cons hv' (.cons hv2' (.cons (dp_same sn hv3) .nil))))) ⟨hok, hok2, hok3⟩ (by show max (hgt p) (max (hgt p2) (hgt p3)) + 1 ≤ _; omega)
    have g6 : ¬ x < 9 := fun z => c6 (decide_eq_true z)
    -- two parts
    refine ⟨_, rfl, _, rfl, _, _, rfl, rfl, _, rfl, _, rfl, dr, fl, rl, fs, rs, _, d - 1, rfl, ed, d1, f1, r1, by omega, fun v p H2 s2 d2 hv hok hh => ?_⟩
    refine ⟨_, rfl, _, rfl, _, _, rfl, rfl, _, rfl, _, rfl, dr, fl, rl, fs, rs, _, d - 1, rfl, ed, d2, f1.keep d1 s2, r1.keep d1 s2, by omega, fun v2 p2 H3 s3 d3 hv2 hok2 hh2 => ?_⟩
    refine ⟨by show 5 ≤ sizeLine; decide, fun b hb => ?_⟩
    have sb := same_new hb (.lst [.str "plus", .str "minus", .str "times", .str "least", .str "most"])
    obtain ⟨o, ho⟩ : ∃ o : Op5, atI [V.str "plus", V.str "minus", V.str "times", V.str "least", V.str "most"] (x - 9) = some (.str o.w) := by
      have h : x = 9 ∨ x = 10 ∨ x = 11 ∨ x = 12 ∨ x = 13 := by omega
      rcases h with rfl | rfl | rfl | rfl | rfl
      · exact ⟨.plus, by decide +kernel⟩
      · exact ⟨.minus, by decide +kernel⟩
      · exact ⟨.times, by decide +kernel⟩
      · exact ⟨.least, by decide +kernel⟩
      · exact ⟨.most, by decide +kernel⟩
    refine ⟨_, rfl, _, _, rfl, rfl, b, _, _, _, rfl, rfl, SqL.of upd_same, ho, _, rfl, _, rfl, by show 3 ≤ sizeLine; decide, fun a ha => ?_⟩
    have sn := same_new ha (.tup [.str o.w, v, v2])
    have hv' := dp_same sn (dp_same sb (d2.dp s3 (pd_tup p) hv))
    exact q (.ref a) (.op o p p2) _ ((((s1.trans s2).trans s3).trans (.of sb)).trans (.of sn)) ((d3.same sb).same sn) (dpT upd_same (.cons (.str _) (.cons hv' (.cons (dp_same sn (dp_same sb hv2)) .nil)))) ⟨hok, hok2⟩ (by show max (hgt p) (hgt p2) + 1 ≤ _; omega)
/-- the induction -/
theorem draw_all (Ga : Gf K mg "_law_amount" (top 65) ["_law_draws", "_law_depth", "_law_facts", "_law_rules"]) (Gc : Gf K mg "_law_condition" (top 66) ["_law_draws", "_law_depth", "_law_facts", "_law_rules"]) (T : Tx K mg)
    (cN : Cal P w K mg base 1 "_law_next" spNext []) (cU : Cal P w K mg base 2 "_law_number" spNumber []) : ∀ n, Cal P w K mg base (n + 2) "_law_amount" (spDraw K true n) [] ∧ Cal P w K mg base (n + 2) "_law_condition" (spDraw K false n) []
  | 0 => ⟨cal_none Ga draw_none, cal_none Gc draw_none⟩
  | n + 1 => by
    obtain ⟨i1, i2⟩ := draw_all Ga Gc T cN cU n
    exact ⟨c_amount (by omega) Ga T cN cU i1 i2, c_condition (by omega) Gc T cN i1 i2⟩
end
end K14

set_option Elab.async false
set_option maxRecDepth 100000
set_option maxHeartbeats 4000000
/-! the law's words of a part, its rule amount -/
namespace K14
open PySem PySem.Spec PyProof.Rows L2
open C8 (Cal Met Mak pe_c pe_mk pe_mt pe_mt0 pss_cut)
theorem cutV_tail (x : V) (r : List V) : cutV (x :: r) (some ((1 : Nat) : Int)) none = r := by
  unfold cutV
  rw [HT.sIx_nat, HT.sIx_none]
  have e : min 1 (x :: r).length = 1 := by rw [List.length_cons]; omega
  rw [e]
  exact List.take_of_length_le (by simp)
theorem notWhole (x : V) (r : List V) : ¬ (HT.sIx (x :: r).length 0 (some ((1 : Nat) : Int)) = 0 ∧ HT.sIx (x :: r).length (x :: r).length none = (x :: r).length) := by
  rw [HT.sIx_nat]
  rintro ⟨h, _⟩
  rw [List.length_cons] at h
  omega
theorem wds_len (p : Nd) : (wds p).length + 2 ≤ 4 ^ hgt p := by
  have mono : ∀ {a b : Nat}, a ≤ b → 4 ^ a ≤ 4 ^ b := fun h => Nat.pow_le_pow_right (by decide) h
  have up : ∀ a : Nat, 4 ^ (a + 1) = 4 ^ a * 4 := fun a => Nat.pow_succ ..
  induction p with
  | num n => show 1 + 2 ≤ 4 ^ 1; decide
  | fact x => show 2 + 2 ≤ 4 ^ 1; decide
  | factOr x p ih =>
    have := up (hgt p)
    show (wds p).length + 3 + 2 ≤ 4 ^ (hgt p + 1)
    omega
  | due x => show 2 + 2 ≤ 4 ^ 1; decide
  | pct n p ih =>
    have := up (hgt p)
    show (wds p).length + 2 + 2 ≤ 4 ^ (hgt p + 1)
    omega
  | ite c a b i1 i2 i3 =>
    show (wds c ++ (wds a ++ wds b)).length + 1 + 2 ≤ 4 ^ (max (hgt c) (max (hgt a) (hgt b)) + 1)
    rw [List.length_append, List.length_append, up]
    have h1 := mono (Nat.le_max_left (hgt c) (max (hgt a) (hgt b)))
    have h2 := mono (Nat.le_trans (Nat.le_max_left (hgt a) (hgt b)) (Nat.le_max_right (hgt c) _))
    have h3 := mono (Nat.le_trans (Nat.le_max_right (hgt a) (hgt b)) (Nat.le_max_right (hgt c) _))
    omega
  | op k a b i1 i2 =>
    show (wds a ++ wds b).length + 1 + 2 ≤ 4 ^ (max (hgt a) (hgt b) + 1)
    rw [List.length_append, up]
    have h1 := mono (Nat.le_max_left (hgt a) (hgt b))
    have h2 := mono (Nat.le_max_right (hgt a) (hgt b))
    omega
  | known x => show 2 + 2 ≤ 4 ^ 1; decide
  | neg c ih =>
    have := up (hgt c)
    show (wds c).length + 1 + 2 ≤ 4 ^ (hgt c + 1)
    omega
  | jn k a b i1 i2 =>
    show (wds a ++ wds b).length + 1 + 2 ≤ 4 ^ (max (hgt a) (hgt b) + 1)
    rw [List.length_append, up]
    have h1 := mono (Nat.le_max_left (hgt a) (hgt b))
    have h2 := mono (Nat.le_max_right (hgt a) (hgt b))
    omega
  | cmp k a b i1 i2 =>
    show (wds a ++ wds b).length + 1 + 2 ≤ 4 ^ (max (hgt a) (hgt b) + 1)
    rw [List.length_append, up]
    have h1 := mono (Nat.le_max_left (hgt a) (hgt b))
    have h2 := mono (Nat.le_max_right (hgt a) (hgt b))
    omega
theorem wds_small {p : Nd} (h : hgt p ≤ 4) : (wds p).length ≤ 256 := by
  have h1 := wds_len p
  have h2 : 4 ^ hgt p ≤ 4 ^ 4 := Nat.pow_le_pow_right (by decide) h
  omega
theorem log_small {n : Int} (h : -1000000000 < n ∧ n < 1000000000) : n.natAbs.log2 < 1920 := by
  by_cases h0 : n.natAbs = 0
  · rw [h0]
    decide +kernel
  · have h1 : n.natAbs < 2 ^ 30 := by omega
    have := (Nat.log2_lt h0).mpr h1
    omega
/-- the kinds that the loop takes -/
theorem shape (p : Nd) (b : Bool) (hok : ok b p) :
    (∃ m, p = .num m) ∨ (∃ x, p = .fact x) ∨ (∃ x q, p = .factOr x q ∧ b = true) ∨ (∃ x, p = .due x ∨ p = .known x) ∨ (∃ m q, p = .pct m q ∧ b = true) ∨
    ∃ (k : Str) (cs : List Nd), pd p = .tuple (.str k :: cs.map pd) ∧ wds p = k :: cs.flatMap wds ∧ (∀ c ∈ cs, (∃ b, ok b c) ∧ hgt c + 1 ≤ hgt p) ∧ k ≠ "number" ∧ k ≠ "fact" ∧ k ≠ "due" ∧ k ≠ "known" ∧ k ≠ "percent" := by
  cases p with
  | num m => exact .inl ⟨_, rfl⟩
  | fact x => exact .inr (.inl ⟨_, rfl⟩)
  | factOr x q =>
    cases b with
    | true => exact .inr (.inr (.inl ⟨_, _, rfl, rfl⟩))
    | false => exact hok.elim
  | due x => exact .inr (.inr (.inr (.inl ⟨x, .inl rfl⟩)))
  | known x => exact .inr (.inr (.inr (.inl ⟨x, .inr rfl⟩)))
  | pct m q =>
    cases b with
    | true => exact .inr (.inr (.inr (.inr (.inl ⟨_, _, rfl, rfl⟩))))
    | false => exact hok.elim
  | ite c x y =>
    cases b with
    | false => exact hok.elim
    | true =>
      have h' : hgt (.ite c x y) = max (hgt c) (max (hgt x) (hgt y)) + 1 := rfl
      refine .inr (.inr (.inr (.inr (.inr ⟨"if", [c, x, y], rfl, by simp [wds], fun z hz => ?_, by decide +kernel⟩))))
      rcases List.mem_cons.mp hz with rfl | hz
      · exact ⟨⟨false, hok.1⟩, by omega⟩
      · rcases List.mem_cons.mp hz with rfl | hz
        · exact ⟨⟨true, hok.2.1⟩, by omega⟩
        · rw [List.mem_singleton.mp hz]
          exact ⟨⟨true, hok.2.2⟩, by omega⟩
  | op k x y =>
    cases b with
    | false => exact hok.elim
    | true =>
      have h' : hgt (.op k x y) = max (hgt x) (hgt y) + 1 := rfl
      refine .inr (.inr (.inr (.inr (.inr ⟨k.w, [x, y], rfl, by simp [wds], fun z hz => ?_, by cases k <;> decide +kernel⟩))))
      rcases List.mem_cons.mp hz with rfl | hz
      · exact ⟨⟨true, hok.1⟩, by omega⟩
      · rw [List.mem_singleton.mp hz]
        exact ⟨⟨true, hok.2⟩, by omega⟩
  | neg c =>
    cases b with
    | true => exact hok.elim
    | false =>
      have h' : hgt (.neg c) = hgt c + 1 := rfl
      refine .inr (.inr (.inr (.inr (.inr ⟨"not", [c], rfl, by simp [wds], fun z hz => ?_, by decide +kernel⟩))))
      rw [List.mem_singleton.mp hz]
      exact ⟨⟨false, hok⟩, by omega⟩
  | jn k x y =>
    cases b with
    | true => exact hok.elim
    | false =>
      have h' : hgt (.jn k x y) = max (hgt x) (hgt y) + 1 := rfl
      refine .inr (.inr (.inr (.inr (.inr ⟨k.w, [x, y], rfl, by simp [wds], fun z hz => ?_, by cases k <;> decide +kernel⟩))))
      rcases List.mem_cons.mp hz with rfl | hz
      · exact ⟨⟨false, hok.1⟩, by omega⟩
      · rw [List.mem_singleton.mp hz]
        exact ⟨⟨false, hok.2⟩, by omega⟩
  | cmp k x y =>
    cases b with
    | true => exact hok.elim
    | false =>
      have h' : hgt (.cmp k x y) = max (hgt x) (hgt y) + 1 := rfl
      refine .inr (.inr (.inr (.inr (.inr ⟨k.w, [x, y], rfl, by simp [wds], fun z hz => ?_, by cases k <;> decide +kernel⟩))))
      rcases List.mem_cons.mp hz with rfl | hz
      · exact ⟨⟨true, hok.1⟩, by omega⟩
      · rw [List.mem_singleton.mp hz]
        exact ⟨⟨true, hok.2⟩, by omega⟩
section
variable {P : Program} {w : World} {K : PySem.W.Frag} {mg : Str → Option Value} {base : Heap}
def spWords (K : PySem.W.Frag) (n : Nat) : Sp := fun vs H Q _ => ∃ (v : V) (p : Nd) (b : Bool), vs = [v] ∧ Dp K H v (pd p) ∧ ok b p ∧ hgt p ≤ n ∧ hgt p ≤ 4 ∧ ∀ l H', Same H H' → H' l = some (.lst ((wds p).map V.str)) → Q (.ref l) H'
theorem scWords : FnScope ["_law_part", "_law_kind", "_law_words_here", "_law_one"] ["_law_part"] (defScope (top 67)) := ⟨rfl, rfl, rfl, by decide +kernel, rfl, by decide +kernel, by decide +kernel⟩
theorem c_words {m n : Nat} (G : Gf K mg "_law_words" (top 67) ["_law_part"]) (T : Tx K mg) (cW : Cal P w K mg base m "_law_words" (spWords K n) []) : Cal P w K mg base (m + 1) "_law_words" (spWords K (n + 1)) [] := by
  refine G.cal scWords (fun vs H Q E h => ?_) (fun f cdv A outer s H vs Q E hr h => ?_)
  · obtain ⟨v, p, b, rfl, _⟩ := h
    rfl
  · obtain ⟨v, p, b, rfl, hv, hok, hn, h4, q⟩ := h
    refine ⟨_, pss_cons (ps_set (i := 1) scWords.nd rfl (.inl rfl) (pe_ix ix_tup (pv 0) pe_int (fun _ _ => rfl)))
      (pss_cons (ps_if (pt_cmpR op_eq (pv 1) pe_str (nomark _)) (pss_one (ps_ret (pe_lst (pa_cons (pe_callTy call_str_int (by rfl) T.str (by decide +kernel) (pa_cons (pe_ix ix_tup (pv 0) pe_int (fun _ _ => rfl)) pa_nil)) pa_nil)))) pss_nil)
      (pss_cons (ps_if (PW.pt (pw_and (pt_cmpR op_eq (pv 1) pe_str (nomark _)) (pw_and1 (pt_cmpR op_isN (pe_ix ix_tup (pv 0) pe_int (fun _ _ => rfl)) pe_non rfl)))) (pss_one (ps_ret (pe_lst (pa_cons pe_str (pa_cons (pe_ix ix_tup (pv 0) pe_int (fun _ _ => rfl)) pa_nil))))) pss_nil)
      (pss_cons (ps_if (pt_cmpR op_eq (pv 1) pe_str (nomark _)) (pss_one (ps_ret (pe_op op_cat (pe_lst (pa_cons pe_str (pa_cons (pe_ix ix_tup (pv 0) pe_int (fun _ _ => rfl)) (pa_cons pe_str pa_nil)))) (pe_c cW hr (by omega) (by rfl) (pa_cons (pe_ix ix_tup (pv 0) pe_int (fun _ _ => rfl)) pa_nil))))) pss_nil)
      (pss_cons (ps_if (PW.pt (pw_or (pt_cmpR op_eq (pv 1) pe_str (nomark _)) (pw_or1 (pt_cmpR op_eq (pv 1) pe_str (nomark _))))) (pss_one (ps_ret (pe_lst (pa_cons (pv 1) (pa_cons (pe_ix ix_tup (pv 0) pe_int (fun _ _ => rfl)) pa_nil))))) pss_nil)
      (pss_cons (ps_if (pt_cmpR op_eq (pv 1) pe_str (nomark _)) (pss_one (ps_ret (pe_op op_cat (pe_lst (pa_cons pe_str (pa_cons (pe_callTy call_str_int (by rfl) T.str (by decide +kernel) (pa_cons (pe_ix ix_tup (pv 0) pe_int (fun _ _ => rfl)) pa_nil)) pa_nil))) (pe_c cW hr (by omega) (by rfl) (pa_cons (pe_ix ix_tup (pv 0) pe_int (fun _ _ => rfl)) pa_nil))))) pss_nil)
      (pss_cons (ps_set (i := 2) scWords.nd rfl (.inl rfl) (pe_lst (pa_cons (pv 1) pa_nil)))
      (pss_cons (ps_for PassesOwn.never rfl (pi_tup (pe_slice sl_tup (pv 0) (po_some pe_int) po_none)) (pg_name (i := 3) scWords.nd rfl (.inl rfl))
        (pss_one (ps_set (i := 2) scWords.nd rfl (.inl rfl) (pe_op op_cat (pv 2) (pe_c cW hr (by omega) (by rfl) (pa_cons (pv 3) pa_nil))))))
      (pss_one (ps_ret (pv 2)))))))))), ?_⟩
    rcases shape p b hok with ⟨x, rfl⟩ | ⟨x, rfl⟩ | ⟨x, y, rfl, rfl⟩ | ⟨x, hx⟩ | ⟨x, y, rfl, rfl⟩ | ⟨k, cs, e1, e2, e3, k1, k2, k3, k4, k5⟩
    · -- a number
      obtain ⟨a, u1, rfl, ht, hu1⟩ := dp2 hv
      obtain rfl := dp_int hu1
      have hx : -1000000000 < x ∧ x < 1000000000 := by
        cases b with
        | true => exact hok
        | false => exact hok.elim
      refine ⟨_, rfl, a, _, _, _, rfl, rfl, ht, at0, _, rfl, rfl, _, rfl, ifT rfl ?_⟩
      refine ⟨_, rfl, a, _, _, _, rfl, rfl, ht, at1, _, rfl, log_small hx, by show 1 ≤ sizeLine; decide, fun l hl => ?_⟩
      exact q l _ (same_new hl _) upd_same
    · -- a fact
      obtain ⟨a, u1, u2, rfl, ht, hu1, hu2⟩ := dp3 hv
      obtain rfl := dp_str hu1
      obtain rfl : u2 = .non := by cases hu2; rfl
      refine ⟨_, rfl, a, _, _, _, rfl, rfl, ht, at0, _, rfl, rfl, _, rfl, ifF (by decide +kernel) ⟨_, rfl, rfl, _, rfl, ifT rfl ?_⟩⟩
      refine ⟨_, rfl, a, _, _, _, rfl, rfl, ht, at2, rfl, _, rfl, ifT rfl ?_⟩
      refine ⟨_, rfl, a, _, _, _, rfl, rfl, ht, at1, by show 2 ≤ sizeLine; decide, fun l hl => ?_⟩
      exact q l _ (same_new hl _) upd_same
    · -- a fact with another part
      obtain ⟨a, u1, u2, rfl, ht, hu1, hu2⟩ := dp3 hv
      obtain rfl := dp_str hu1
      obtain ⟨a2, xs2, rfl, _⟩ : ∃ a2 xs2, u2 = .ref a2 ∧ SqT K H a2 xs2 := by
        have : ∃ ds, pd y = .tuple ds := by cases y <;> exact ⟨_, rfl⟩
        obtain ⟨ds, e⟩ := this
        rw [e] at hu2
        obtain ⟨a2, xs2, h1, h2, _⟩ := dp_tup_inv hu2
        exact ⟨a2, xs2, h1, h2⟩
      have hn' : hgt y + 1 ≤ n + 1 := hn
      have h4' : hgt y + 1 ≤ 4 := h4
      refine ⟨_, rfl, a, _, _, _, rfl, rfl, ht, at0, _, rfl, rfl, _, rfl, ifF (by decide +kernel) ⟨_, rfl, rfl, _, rfl, ifT rfl ?_⟩⟩
      refine ⟨_, rfl, a, _, _, _, rfl, rfl, ht, at2, rfl, _, rfl, ifF (by intro z; cases z) ⟨_, rfl, rfl, _, rfl, ifT rfl ?_⟩⟩
      refine ⟨_, rfl, a, _, _, _, rfl, rfl, ht, at1, by show 3 ≤ sizeLine; decide, fun l hl => ?_⟩
      have sl := same_new hl (.lst [.str "fact", .str x, .str "or"])
      refine ⟨_, rfl, a, _, _, _, rfl, rfl, sqT_same sl ht, at2, _, y, true, rfl, dp_same sl hu2, hok.2, by omega, by omega, fun l2 H2 s2 h2 => ?_⟩
      have hs := wds_small (p := y) (by omega)
      refine ⟨l, l2, _, _, rfl, rfl, s2 _ _ upd_same, h2, ?_, fun l3 hl3 => ?_⟩
      · rw [List.length_map, sizeLine_eq]
        show 3 + _ ≤ _
        omega
      · exact q l3 _ ((sl.trans s2).trans (same_new hl3 _)) upd_same
    · -- a due, a known
      have hd : ∃ k : Str, (k = "due" ∨ k = "known") ∧ pd p = .tuple [.str k, .str x] ∧ wds p = [k, x] := by
        rcases hx with rfl | rfl
        · exact ⟨"due", .inl rfl, rfl, rfl⟩
        · exact ⟨"known", .inr rfl, rfl, rfl⟩
      obtain ⟨k, hk, e1, e2⟩ := hd
      rw [e1] at hv
      rw [e2] at q
      obtain ⟨a, u1, rfl, ht, hu1⟩ := dp2 hv
      obtain rfl := dp_str hu1
      rcases hk with rfl | rfl
      · refine ⟨_, rfl, a, _, _, _, rfl, rfl, ht, at0, _, rfl, rfl, _, rfl, ifF (by decide +kernel) ⟨_, rfl, rfl, _, rfl, ifF (by decide +kernel) ⟨_, rfl, rfl, _, rfl, ifF (by decide +kernel) ⟨_, rfl, rfl, _, rfl, ifT rfl ?_⟩⟩⟩⟩
        exact ⟨_, rfl, _, rfl, a, _, _, _, rfl, rfl, ht, at1, by show 2 ≤ sizeLine; decide, fun l hl => q l _ (same_new hl _) upd_same⟩
      · refine ⟨_, rfl, a, _, _, _, rfl, rfl, ht, at0, _, rfl, rfl, _, rfl, ifF (by decide +kernel) ⟨_, rfl, rfl, _, rfl, ifF (by decide +kernel) ⟨_, rfl, rfl, _, rfl, ifF (by decide +kernel) ⟨_, rfl, rfl, _, rfl, ifF (by decide +kernel) ⟨_, rfl, rfl, _, rfl, ifT rfl ?_⟩⟩⟩⟩⟩
        exact ⟨_, rfl, _, rfl, a, _, _, _, rfl, rfl, ht, at1, by show 2 ≤ sizeLine; decide, fun l hl => q l _ (same_new hl _) upd_same⟩
    · -- so many percent
      obtain ⟨a, u1, u2, rfl, ht, hu1, hu2⟩ := dp3 hv
      obtain rfl := dp_int hu1
      obtain ⟨h0, h1, hok'⟩ := hok
      have hn' : hgt y + 1 ≤ n + 1 := hn
      have h4' : hgt y + 1 ≤ 4 := h4
      refine ⟨_, rfl, a, _, _, _, rfl, rfl, ht, at0, _, rfl, rfl, _, rfl, ifF (by decide +kernel) ⟨_, rfl, rfl, _, rfl, ifF (by decide +kernel) ⟨_, rfl, rfl, _, rfl, ifF (by decide +kernel) ⟨_, rfl, rfl, _, rfl, ifF (by decide +kernel) ⟨_, rfl, rfl, _, rfl, ifF (by decide +kernel) ⟨_, rfl, rfl, _, rfl, ifT rfl ?_⟩⟩⟩⟩⟩⟩
      refine ⟨_, rfl, a, _, _, _, rfl, rfl, ht, at1, _, rfl, log_small ⟨by omega, by omega⟩, by show 2 ≤ sizeLine; decide, fun l hl => ?_⟩
      have sl := same_new hl (.lst [.str "percent", .str (toString x)])
      refine ⟨_, rfl, a, _, _, _, rfl, rfl, sqT_same sl ht, at2, _, y, true, rfl, dp_same sl hu2, hok', by omega, by omega, fun l2 H2 s2 h2 => ?_⟩
      have hs := wds_small (p := y) (by omega)
      refine ⟨l, l2, _, _, rfl, rfl, s2 _ _ upd_same, h2, ?_, fun l3 hl3 => ?_⟩
      · rw [List.length_map, sizeLine_eq]
        show 2 + _ ≤ _
        omega
      · exact q l3 _ ((sl.trans s2).trans (same_new hl3 _)) upd_same
    · -- the rest
      have hsm := wds_small h4
      rw [e2] at hsm q
      rw [e1] at hv
      obtain ⟨a, ys, rfl, ht, hys⟩ := dp_tup_inv hv
      obtain ⟨x0, vs, rfl, hx0, hvs⟩ := da_cons hys
      obtain rfl := dp_str hx0
      have hc : hgt p ≤ 4 := h4
      have no : ∀ {z : Str}, k ≠ z → ¬ V.str k = V.str z := fun h e => h (V.str.inj e)
      have ev : vs.length = cs.length := by rw [da_length hvs, List.length_map]
      refine ⟨_, rfl, a, _, _, _, rfl, rfl, ht, at0, _, rfl, rfl, _, rfl, ifF (no k1) ⟨_, rfl, rfl, _, rfl, ifF (no k2) ⟨_, rfl, rfl, _, rfl, ifF (no k2) ⟨_, rfl, rfl, _, rfl, ifF (no k3) ⟨_, rfl, rfl, _, rfl, ifF (no k4) ⟨_, rfl, rfl, _, rfl, ifF (no k5) ?_⟩⟩⟩⟩⟩⟩
      refine ⟨_, rfl, by show 1 ≤ sizeLine; decide, fun l hl => ?_⟩
      have sl := same_new hl (.lst [.str k])
      refine ⟨_, rfl, _, rfl, a, _, rfl, sqT_same sl ht, notWhole _ _, fun t hT => ?_⟩
      have st := same_new hT (.tup vs)
      have ec : cutV (V.str k :: vs) (some 1) none = vs := cutV_tail _ _
      rw [ec]
      have hlt : upd (upd H l (.lst [.str k])) t (.tup vs) l = some (.lst [.str k]) := st _ _ upd_same
      have st0 : SqT K (upd (upd H l (.lst [.str k])) t (.tup vs)) t vs := SqT.of upd_same
      have s0 := sl.trans st
      generalize upd (upd H l (.lst [.str k])) t (.tup vs) = H0 at hlt st0 s0
      refine ⟨t, rfl, ⟨_, st0⟩, for_it (walk_tup (K := K) (xs := vs)) (fun i σ H' => ∃ (l' : Addr) (v3 : Option V), σ = [some (.ref a), some (.str k), some (.ref l'), v3] ∧ Same H0 H' ∧ H' l' = some (.lst ((k :: (cs.take i).flatMap wds).map V.str)))
        ⟨l, none, rfl, .refl _, hlt⟩ (fun i σ H' _ h => by obtain ⟨_, _, _, s1, _⟩ := h; exact sqT_same s1 st0) ?_ ?_⟩
      · rintro i y σ H1 H2 hi ⟨l', v3, rfl, s1, hl'⟩ ⟨rfl, hy⟩
        have hi' : i < cs.length := by omega
        obtain ⟨d0, hd0, hyd⟩ := da_get2 hvs hy
        rw [List.getElem?_map, List.getElem?_eq_getElem hi'] at hd0
        have ed := Option.some.inj hd0
        rw [← ed] at hyd
        obtain ⟨⟨b', hok'⟩, hh'⟩ := e3 _ (List.getElem_mem hi')
        have hpre : ((cs.take i).flatMap wds).length + (wds cs[i]).length ≤ (cs.flatMap wds).length := by
          have e4 : cs.flatMap wds = (cs.take i).flatMap wds ++ (cs.drop i).flatMap wds := by rw [← List.flatMap_append, List.take_append_drop]
          rw [e4, List.length_append, List.drop_eq_getElem_cons hi', List.flatMap_cons, List.length_append]
          omega
        rw [List.length_cons] at hsm
        refine ⟨_, rfl, _, rfl, _, cs[i], b', rfl, dp_same (s0.trans s1) hyd, hok', by omega, by omega, fun l2 H3 s3 h3 => ?_⟩
        refine ⟨l', l2, _, _, rfl, rfl, s3 _ _ hl', h3, ?_, fun l4 hl4 => ?_⟩
        · rw [List.length_map, List.length_map, List.length_cons, sizeLine_eq]
          omega
        · refine ⟨l4, some y, rfl, (s1.trans s3).trans (same_new hl4 _), ?_⟩
          rw [upd_same, ← List.map_append, List.take_add_one, List.getElem?_eq_getElem hi', List.flatMap_append]
          simp
      · rintro σ H1 ⟨l', v3, rfl, s1, hl'⟩
        rw [ev, List.take_length] at hl'
        exact ⟨_, rfl, q l' H1 (s0.trans s1) hl'⟩
end
end K14

set_option Elab.async false
set_option maxRecDepth 100000
set_option maxHeartbeats 4000000
/-! the law's rule amount, the entries that may be struck -/
namespace K14
open PySem PySem.Spec PyProof.Rows L2
open C8 (Cal Met Mak pe_c pe_mk pe_mt pe_mt0 pss_cut)
/-- the indices that strikes name -/
def strikesL (es : List Ent) : List Int := es.filterMap fun e => match e with
  | .strike _ i => some (i : Int)
  | _ => none
theorem struck_none {es : List Ent} {i : Nat} (h : (i : Int) ∉ strikesL es) : struckOn es i = none := by
  unfold struckOn
  rw [List.findSome?_eq_none_iff]
  intro e he
  cases e with
  | strike c j =>
    show (if j = i then some c else none) = none
    rw [if_neg]
    rintro rfl
    exact h (List.mem_filterMap.mpr ⟨_, he, rfl⟩)
  | report _ _ _ _ _ _ => rfl
  | enact _ _ _ _ _ => rfl
theorem inV_ints {x : Int} : ∀ {l : List Int}, inV (.int x) (l.map V.int) = decide (x ∈ l)
  | [] => by simp [inV]
  | y :: r => by
    have ih := inV_ints (x := x) (l := r)
    show (eqV (.int y) (.int x) || inV (.int x) (r.map V.int)) = _
    rw [ih]
    have e : eqV (.int y) (.int x) = decide (x = y) := by
      show (y == x) = _
      by_cases h : x = y
      · rw [decide_eq_true h, h]
        exact beq_self_eq_true _
      · rw [decide_eq_false h]
        exact beq_eq_false_iff_ne.mpr fun z => h z.symm
    rw [e]
    by_cases h : x = y
    · simp [h]
    · simp [h]
theorem flat_ints : ∀ l : List Int, (l.map V.int).all flatV = true
  | [] => rfl
  | _ :: r => flat_ints r
/-- an index that may be struck -/
def FreeIx (es : List Ent) (k : Int) : Prop := ∃ i : Nat, k = (i : Int) ∧ (∃ d, es[i]? = some d ∧ d.isStrike = false) ∧ struckOn es i = none
section
variable {P : Program} {w : World} {K : PySem.W.Frag} {mg : Str → Option Value} {base : Heap}
theorem words_none : ∀ vs H Q E, ¬ spWords K 0 vs H Q E := fun vs H Q E h => by
  obtain ⟨_, p, _, _, _, _, h0, _⟩ := h
  have := hgt_pos p
  omega
theorem words_all (G : Gf K mg "_law_words" (top 67) ["_law_part"]) (T : Tx K mg) : ∀ n, Cal P w K mg base (n + 1) "_law_words" (spWords K n) []
  | 0 => cal_none G words_none
  | n + 1 => c_words G T (words_all G T n)
def spRuleAmt (K : PySem.W.Frag) : Sp := fun vs H Q _ => ∃ (dr fl rl : Addr) (fs rs : List Str), vs = [.ref dr, .ref fl, .ref rl] ∧ DrawsAt H dr ∧ NamesAt H fl fs ∧ NamesAt H rl rs ∧
  ∀ v p H', SameX dr H H' → DrawsAt H' dr → Dp K H' v (pd p) → ok true p → hgt p ≤ 4 → (wds p).length ≤ 40 → Q v H'
theorem scRA : FnScope ["_law_draws", "_law_facts", "_law_rules", "_law_part"] ["_law_draws", "_law_facts", "_law_rules"] (defScope (top 68)) := ⟨rfl, rfl, rfl, by decide +kernel, rfl, by decide +kernel, by decide +kernel⟩
theorem c_rule_amount (G : Gf K mg "_law_rule_amount" (top 68) ["_law_draws", "_law_facts", "_law_rules"]) (T : Tx K mg) (cN : Cal P w K mg base 1 "_law_next" spNext []) (cA : Cal P w K mg base 6 "_law_amount" (spDraw K true 4) []) (cW : Cal P w K mg base 5 "_law_words" (spWords K 4) []) :
    Cal P w K mg base 7 "_law_rule_amount" (spRuleAmt K) [] := by
  refine G.cal scRA (fun vs H Q E h => ?_) (fun f cdv A outer s H vs Q E hr h => ?_)
  · obtain ⟨dr, fl, rl, fs, rs, rfl, _⟩ := h
    rfl
  · obtain ⟨dr, fl, rl, fs, rs, rfl, hd, hf, hrl, q⟩ := h
    refine ⟨_, pss_cons (ps_set (i := 3) scRA.nd rfl (.inl rfl) (pe_c cA hr (by decide) (by rfl) (pa_cons (pv 0) (pa_cons (pe_op op_add pe_int (pe_c cN hr (by decide) (by rfl) (pa_cons (pv 0) (pa_cons pe_int pa_nil)))) (pa_cons (pv 1) (pa_cons (pv 2) pa_nil))))))
      (pss_cons (ps_if (pt_cmpR op_gt (pe_callB call_len_seq (by rfl) T.len PySem.boot_len (pa_cons (pe_c cW hr (by decide) (by rfl) (pa_cons (pv 3) pa_nil)) pa_nil)) pe_int (nomark _))
        (pss_one (ps_ret (pe_tup (pa_cons pe_str (pa_cons (pe_tup (pa_cons pe_str (pa_cons (pe_ix ix_list (pv 2) (pe_un un_neg pe_int) (fun _ _ => rfl)) pa_nil))) (pa_cons (pe_tup (pa_cons pe_str (pa_cons (pe_ix ix_list (pv 1) pe_int (fun _ _ => rfl)) (pa_cons (pe_tup (pa_cons pe_str (pa_cons pe_int pa_nil))) pa_nil)))) pa_nil)))))) pss_nil)
      (pss_one (ps_ret (pv 3)))), ?_⟩
    refine ⟨_, rfl, _, rfl, dr, 3, rfl, hd, by decide, fun x H1 s1 d1 l1 u1 => ⟨_, _, rfl, rfl, _, rfl, _, rfl, ?_⟩⟩
    have f1 := hf.keep hd s1
    have r1 := hrl.keep hd s1
    refine ⟨dr, fl, rl, fs, rs, _, (1 + x).toNat, rfl, by omega, d1, f1, r1, by omega, fun v p H2 s2 d2 hv hok hh => ?_⟩
    have h4 : hgt p ≤ 4 := by omega
    refine ⟨_, rfl, v, p, true, rfl, hv, hok, h4, h4, fun l H3 s3 h3 => ?_⟩
    refine ⟨l, _, rfl, .inl (SqL.of h3), _, _, rfl, rfl, _, rfl, ?_⟩
    rw [List.length_map]
    have d3 := d2.same s3
    refine ite2 (fun c => ?_) (fun c => ⟨_, rfl, q v p H3 ((s1.trans s2).trans (.of s3)) d3 (dp_same s3 hv) hok h4 ?_⟩)
    rotate_right
    · have : ¬ (40 : Int) < ((wds p).length : Nat) := fun z => c (decide_eq_true z)
      omega
    have f3 := (f1.keep d1 s2).same s3
    have r3 := (r1.keep d1 s2).same s3
    obtain ⟨ri, r0, hrs⟩ : ∃ ri r0, rs = ri ++ [r0] := ⟨rs.dropLast, rs.getLast r3.ne, (List.dropLast_concat_getLast r3.ne).symm⟩
    have hr0 : NameOk r0 := r3.ok r0 (by rw [hrs]; simp)
    have hat : atI (rs.map V.str) (-1) = some (.str r0) := by
      rw [hrs, List.map_append]
      exact atI_last _ _
    obtain ⟨f0, hf0, _, hfa⟩ := f3.pick (i := 0) (Int.le_refl _) f3.len
    refine ⟨_, rfl, _, rfl, rl, _, _, _, rfl, rfl, SqL.of r3.at_, hat, by show 2 ≤ sizeLine; decide, fun a ha => ?_⟩
    have sa := same_new ha (.tup [.str "due", .str r0])
    refine ⟨_, rfl, fl, _, _, _, rfl, rfl, SqL.of (f3.same sa).at_, hfa, by show 2 ≤ sizeLine; decide, fun b hb => ⟨by show 3 ≤ sizeLine; decide, fun c2 hc => ⟨by show 3 ≤ sizeLine; decide, fun e he => ?_⟩⟩⟩
    have sb := same_new hb (.tup [.str "number", .int 3])
    have sc := same_new hc (.tup [.str "fact", .str f0, .ref b])
    have se := same_new he (.tup [.str "plus", .ref a, .ref c2])
    refine q (.ref e) (.op .plus (.due r0) (.factOr f0 (.num 3))) _ ((s1.trans s2).trans (.of ((((s3.trans sa).trans sb).trans sc).trans se))) (d2.same ((((s3.trans sa).trans sb).trans sc).trans se)) ?_ ⟨hr0, hf0, by show (-1000000000 : Int) < 3; decide, by show (3 : Int) < 1000000000; decide⟩ (by show 3 ≤ 4; decide) (by show 7 ≤ 40; decide)
    refine dpT upd_same (.cons (.str _) (.cons (dp_same ((sb.trans sc).trans se) (dpT upd_same (.cons (.str _) (.cons (.str _) .nil)))) (.cons (dp_same se ?_) .nil)))
    exact dpT upd_same (.cons (.str _) (.cons (.str _) (.cons (dp_same sc (dpT upd_same (.cons (.str _) (.cons (.int _) .nil)))) .nil)))
def spFree (K : PySem.W.Frag) : Sp := fun vs H Q _ => ∃ (el : Addr) (xs : List V) (es : List Ent), vs = [.ref el] ∧ H el = some (.lst xs) ∧ DpAll K H xs (es.map entD) ∧ es.length ≤ 1000 ∧
  ∀ l (ks : List Int) H', H l = none → Same H H' → H' l = some (.lst (ks.map V.int)) → (∀ k ∈ ks, FreeIx es k) → Q (.ref l) H'
theorem scFree : FnScope ["_law_entries", "_law_struck", "_law_one", "_law_k"] ["_law_entries"] (defScope (top 70)) := ⟨rfl, rfl, rfl, by decide +kernel, rfl, by decide +kernel, by decide +kernel⟩
theorem c_free (G : Gf K mg "_law_free" (top 70) ["_law_entries"]) (T : Tx K mg) : Cal P w K mg base 1 "_law_free" (spFree K) [] := by
  refine G.cal scFree (fun vs H Q E h => ?_) (fun f cdv A outer s H vs Q E hr h => ?_)
  · obtain ⟨el, xs, es, rfl, _⟩ := h
    rfl
  · obtain ⟨el, xs, es, rfl, hel, hD, hlen, q⟩ := h
    refine ⟨_, pss_cons (ps_set (i := 1) scFree.nd rfl (.inr rfl) (pe_lc (own := [("_law_one", 2)]) rfl scFree.nd (pi_list (pv 0)) (blkOk_by (own := [("_law_one", 2)]) (N := ["_law_entries", "_law_struck", "_law_one", "_law_k"]) (sc := defScope (top 70)) (by decide +kernel))
        (fun _ _ _ _ _ => pg_name (i := 2) scFree.nd rfl (Or.inl rfl)) (fun _ _ _ _ _ => pts_one (pt_cmpR op_eq (pe_ix (show IxR _ (rIxT K) from ix_tup) (pv 2) pe_int (fun _ _ => rfl)) pe_str (nomark _))) (fun _ _ _ _ _ => pe_ix (show IxR _ (rIxT K) from ix_tup) (pv 2) pe_int (fun _ _ => rfl))))
      (pss_one (ps_ret (pe_lc (own := [("_law_k", 3)]) rfl scFree.nd (pi_range1 (by rfl) T.range (pa_cons (pe_callB call_len_seq (by rfl) T.len PySem.boot_len (pa_cons (pv 0) pa_nil)) pa_nil)) (blkOk_by (own := [("_law_k", 3)]) (N := ["_law_entries", "_law_struck", "_law_one", "_law_k"]) (sc := defScope (top 70)) (by decide +kernel))
        (fun _ _ _ _ _ => pg_name (i := 3) scFree.nd rfl (Or.inl rfl)) (fun _ _ _ _ _ => pts_one (PW.pt (pw_and (pt_cmpR op_ne (pe_ix (show IxR _ (rIxT K) from ix_tup) (pe_ix (show IxR _ (rIxL K) from ix_list) (pv 0) (pv 3) (fun _ _ => rfl)) pe_int (fun _ _ => rfl)) pe_str (nomark _)) (pw_and1 (pt_cmpR (show OpR _ (compareOp .NotIn) (rIn K true) from op_notIn_seq) (pv 3) (pv 1) rfl))))) (fun _ _ _ _ _ => pv 3)))), ?_⟩
    have exs : xs.length = es.length := by rw [da_length hD, List.length_map]
    refine ⟨_, rfl, el, rfl, ⟨_, SqL.of hel⟩, fun D hD0 => ?_⟩
    have nD : el ≠ D := ne_of_none hel hD0
    refine lc_it (walk_list (K := K) (xs := xs)) (fun i H' => Same H H' ∧ H' D = some (.lst ((strikesL (es.take i)).map V.int))) ⟨same_new hD0 _, upd_same⟩ (fun i H' _ h => SqL.of (h.1 _ _ hel)) ?_ ?_
    · rintro i x H1 H2 hi ⟨s1, h2⟩ ⟨rfl, hx⟩
      have hi' : i < es.length := by omega
      obtain ⟨d, hd0, hyd⟩ := da_get2 hD hx
      rw [List.getElem?_map, List.getElem?_eq_getElem hi'] at hd0
      have ed := Option.some.inj hd0
      rw [← ed] at hyd
      have hyd2 := dp_same s1 hyd
      have etk : strikesL (es.take (i + 1)) = strikesL (es.take i) ++ strikesL [es[i]] := by
        rw [List.take_add_one, List.getElem?_eq_getElem hi']
        exact List.filterMap_append ..
      have hlen2 : (strikesL (es.take i)).length < sizeLine := by
        have h1 : (strikesL (es.take i)).length ≤ (es.take i).length := List.length_filterMap_le _ _
        rw [List.length_take] at h1
        rw [sizeLine_eq]
        omega
      have keep : ∀ o, Same H (upd H2 D o) := fun o b u e => by
        rw [upd_ne (ne_of_none e hD0)]
        exact s1 b u e
      by_cases hs : es[i].isStrike = true
      · obtain ⟨c, j, hj⟩ : ∃ c j, es[i] = .strike c j := by
          cases he : es[i] with
          | strike c j => exact ⟨c, j, rfl⟩
          | report _ _ _ _ _ _ => rw [he] at hs; cases hs
          | enact _ _ _ _ _ => rw [he] at hs; cases hs
        rw [hj] at hyd2
        obtain ⟨a, rfl, ht⟩ := ent_strike hyd2
        refine ⟨rfl, _, rfl, a, _, _, _, rfl, rfl, ht, at0, rfl, _, rfl, ifT rfl ⟨_, rfl, a, _, _, _, rfl, rfl, ht, at2, _, h2, by rw [List.length_map]; exact hlen2, keep _, ?_⟩⟩
        rw [upd_same, etk, hj, List.map_append]
        rfl
      · have hs' : es[i].isStrike = false := by simpa using hs
        obtain ⟨a, ys, rfl, ht⟩ := ent_any hyd2
        refine ⟨rfl, _, rfl, a, _, _, _, rfl, rfl, ht, at0, rfl, _, rfl, ifF (kind_no hs') ⟨s1, ?_⟩⟩
        rw [h2, etk]
        have e0 : strikesL [es[i]] = [] := by
          cases he : es[i] with
          | strike c j => rw [he] at hs'; cases hs'
          | report _ _ _ _ _ _ => rfl
          | enact _ _ _ _ _ => rfl
        rw [e0, List.append_nil]
    rintro H1 ⟨s1, h2⟩
    rw [exs, List.take_length] at h2
    have hel1 := s1 _ _ hel
    refine ⟨_, rfl, el, _, rfl, .inl (SqL.of hel1), _, rfl, by omega, by omega, fun D2 hD2 => ?_⟩
    have s2 := s1.trans (same_new hD2 (.lst []))
    have hel2 := s2 _ _ hel
    have n2 : D ≠ D2 := ne_of_none h2 hD2
    have hst : upd H1 D2 (.lst []) D = some (.lst ((strikesL es).map V.int)) := by rw [upd_ne n2]; exact h2
    refine lc_it walk_range (fun i H' => SameX D2 (upd H1 D2 (.lst [])) H' ∧ ∃ ks : List Int, H' D2 = some (.lst (ks.map V.int)) ∧ ks.length ≤ i ∧ ∀ k ∈ ks, FreeIx es k) ⟨.refl _ _, [], upd_same, Nat.le_refl _, fun k hk => by cases hk⟩ (fun _ _ _ _ => trivial) ?_ ?_
    · rintro i x H3 H4 hi ⟨s3, ks, h4, hkl, hks⟩ ⟨rfl, rfl⟩
      rw [Int.toNat_natCast, exs] at hi
      have nd2 : el ≠ D2 := ne_of_none hel1 hD2
      have hel3 := s3 _ _ nd2 hel2
      have s4 : Same H H4 := fun b o e => s3 _ _ (ne_of_none (s1 _ _ e) hD2) (s2 _ _ e)
      have hx0 : xs[i]? = some (xs[i]'(by omega)) := List.getElem?_eq_getElem (by omega)
      obtain ⟨d, hd0, hyd⟩ := da_get2 hD hx0
      rw [List.getElem?_map, List.getElem?_eq_getElem hi] at hd0
      have ed := Option.some.inj hd0
      rw [← ed] at hyd
      have hyd2 := dp_same s4 hyd
      obtain ⟨a, ys, hxa, ht⟩ := ent_any hyd2
      have ez : (0 : Int) + (i : Int) = (i : Int) := Int.zero_add _
      have hat : atI xs ((0 : Int) + (i : Int)) = some (.ref a) := by
        rw [ez]
        exact atI_nat (by rw [hx0, hxa])
      refine ⟨rfl, _, rfl, _, rfl, el, _, _, _, rfl, rfl, SqL.of hel3, hat, a, _, _, _, rfl, rfl, ht, at0, rfl, _, rfl, ?_⟩
      by_cases hs : es[i].isStrike = true
      · have hk : V.str es[i].kind = V.str "strike" := by
          cases he : es[i] with
          | strike c j => rfl
          | report _ _ _ _ _ _ => rw [he] at hs; cases hs
          | enact _ _ _ _ _ => rw [he] at hs; cases hs
        rw [hk]
        exact iteF ⟨s3, ks, h4, by omega, hks⟩
      · have hs' : es[i].isStrike = false := by simpa using hs
        refine ifNT (kind_no hs') ⟨_, rfl, _, rfl, D, _, rfl, .inl (SqL.of (s3 _ _ n2 hst)), rfl, flat_ints _, _, rfl, ?_⟩
        rw [inV_ints]
        by_cases hm : ((0 : Int) + (i : Int)) ∈ strikesL es
        · rw [decide_eq_true hm]
          exact iteF ⟨s3, ks, h4, by omega, hks⟩
        · rw [decide_eq_false hm]
          refine iteT ⟨_, rfl, _, h4, by rw [List.length_map, sizeLine_eq]; omega, s3.trans (sameX_upd _ _ _), ks ++ [(0 : Int) + (i : Int)], ?_, ?_, ?_⟩
          · rw [upd_same, List.map_append]
            rfl
          · rw [List.length_append, List.length_singleton]
            omega
          · intro k hk
            rcases List.mem_append.mp hk with hk | hk
            · exact hks k hk
            · rw [List.mem_singleton.mp hk]
              exact ⟨i, ez, ⟨es[i], List.getElem?_eq_getElem hi, hs'⟩, struck_none (by rw [← ez]; exact hm)⟩
    · rintro H3 ⟨s3, ks, h4, _, hks⟩
      exact q D2 ks H3 (s1.free hD2) (fun b o e => s3 _ _ (ne_of_none (s1 _ _ e) hD2) (s2 _ _ e)) h4 hks
end
end K14

set_option Elab.async false
set_option maxRecDepth 100000
set_option maxHeartbeats 4000000
/-! the law's entry -/
namespace K14
open PySem PySem.Spec PyProof.Rows L2
open C8 (Cal Met Mak pe_c pe_mk pe_mt pe_mt0 pss_cut)
theorem sum_len {ws : List Str} {m : Nat} (h : ∀ z ∈ ws, z.length ≤ m) : (ws.map (·.length)).sum ≤ ws.length * m := by
  induction ws with
  | nil => simp
  | cons z r ih =>
    have h1 := h z (List.mem_cons_self ..)
    have h2 := ih fun x hx => h x (List.mem_cons_of_mem _ hx)
    rw [List.map_cons, List.sum_cons, List.length_cons, Nat.succ_mul]
    omega
/-- the drawn names: persons, facts, rules -/
structure NamesW (K : PySem.W.Frag) (H : Hp) (nh : Addr) (pl fl rl : Addr) (ps fs rs : List Str) : Prop where
  t : SqT K H nh [.ref pl, .ref fl, .ref rl]
  p : NamesAt H pl ps
  f : NamesAt H fl fs
  r : NamesAt H rl rs
theorem NamesW.keep {K : PySem.W.Frag} {H H' : Hp} {nh pl fl rl dr : Addr} {ps fs rs : List Str} (h : NamesW K H nh pl fl rl ps fs rs) (d : DrawsAt H dr) (e : SameX dr H H') : NamesW K H' nh pl fl rl ps fs rs := by
  refine ⟨?_, h.p.keep d e, h.f.keep d e, h.r.keep d e⟩
  obtain ⟨ns, hn⟩ := d
  exact e.sqT_lst hn h.t
theorem NamesW.same {K : PySem.W.Frag} {H H' : Hp} {nh pl fl rl : Addr} {ps fs rs : List Str} (h : NamesW K H nh pl fl rl ps fs rs) (e : Same H H') : NamesW K H' nh pl fl rl ps fs rs := ⟨sqT_same e h.t, h.p.same e, h.f.same e, h.r.same e⟩
section
variable {P : Program} {w : World} {K : PySem.W.Frag} {mg : Str → Option Value} {base : Heap}
def spEntryD (K : PySem.W.Frag) : Sp := fun vs H Q _ => ∃ (dr el nh pl fl rl : Addr) (ps fs rs : List Str) (xs : List V) (es : List Ent) (came : Int), vs = [.ref dr, .ref el, .int came, .ref nh] ∧ DrawsAt H dr ∧ H el = some (.lst xs) ∧ DpAll K H xs (es.map entD) ∧ es.length ≤ 1000 ∧ el ≠ dr ∧
  NamesW K H nh pl fl rl ps fs rs ∧ (0 ≤ came ∧ came ≤ 9999) ∧ (∀ d, es.getLast? = some d → d.came ≤ came) ∧
  ∀ a u y e H', SameX dr H H' → SqT K H' a [u, y] → Dp K H' u (entD e) → Fits es e → e.came = came → Q (.ref a) H'
theorem scEntry : FnScope ["_law_draws", "_law_entries", "_law_came", "_law_names_here", "_law_persons", "_law_facts", "_law_rules", "_law_kind", "_law_free_here", "_law_person", "_law_fact", "_law_part", "_law_rule"] ["_law_draws", "_law_entries", "_law_came", "_law_names_here"] (defScope (top 71)) := ⟨rfl, rfl, rfl, by decide +kernel, rfl, by decide +kernel, by decide +kernel⟩
theorem c_entry (G : Gf K mg "_law_entry" (top 71) ["_law_draws", "_law_entries", "_law_came", "_law_names_here"]) (T : Tx K mg) (cN : Cal P w K mg base 1 "_law_next" spNext []) (cU : Cal P w K mg base 2 "_law_number" spNumber []) (cS : Cal P w K mg base 2 "_law_span" (spSpan K) [])
    (cF : Cal P w K mg base 1 "_law_free" (spFree K) []) (cR : Cal P w K mg base 7 "_law_rule_amount" (spRuleAmt K) []) (cW : Cal P w K mg base 5 "_law_words" (spWords K 4) []) : Cal P w K mg base 8 "_law_entry" (spEntryD K) [] := by
  refine G.cal scEntry (fun vs H Q E h => ?_) (fun f cdv A outer s H vs Q E hr h => ?_)
  · obtain ⟨dr, el, nh, pl, fl, rl, ps, fs, rs, xs, es, came, rfl, _⟩ := h
    rfl
  · obtain ⟨dr, el, nh, pl, fl, rl, ps, fs, rs, xs, es, came, rfl, hd, hel, hD, hlen, hne, hN, hcame, hlast, q⟩ := h
    refine ⟨_, pss_cons (ps_asg (pv 3) (pg_tup rfl (pgs_cons (pg_name (i := 4) scEntry.nd rfl (.inl rfl)) (pgs_cons (pg_name (i := 5) scEntry.nd rfl (.inl rfl)) (pgs_cons (pg_name (i := 6) scEntry.nd rfl (.inl rfl)) pgs_nil)))))
      (pss_cons (ps_set (i := 7) scEntry.nd rfl (.inl rfl) (pe_c cN hr (by decide) (by rfl) (pa_cons (pv 0) (pa_cons pe_int pa_nil))))
      (pss_cons (ps_set (i := 8) scEntry.nd rfl (.inl rfl) (pe_c cF hr (by decide) (by rfl) (pa_cons (pv 1) pa_nil)))
      (pss_cons (ps_if (PW.pt (pw_and (pt_cmpR op_eq (pv 7) pe_int (nomark _)) (pw_and1 (pt_truth (pv 8) (by intro _; rfl)))))
        (pss_one (ps_ret (pe_tup (pa_cons (pe_tup (pa_cons pe_str (pa_cons (pv 2) (pa_cons (pe_ix ix_list (pv 8) (pe_c cN hr (by decide) (by rfl) (pa_cons (pv 0) (pa_cons (pe_callB call_len_seq (by rfl) T.len PySem.boot_len (pa_cons (pv 8) pa_nil)) pa_nil))) (fun _ _ => rfl)) pa_nil)))) (pa_cons pe_non pa_nil))))) pss_nil)
      (pss_cons (ps_if (pt_cmpR op_lt (pv 7) pe_int (nomark _))
        (pss_cons (ps_set (i := 9) scEntry.nd rfl (.inl rfl) (pe_ix ix_list (pv 4) (pe_c cN hr (by decide) (by rfl) (pa_cons (pv 0) (pa_cons (pe_callB call_len_seq (by rfl) T.len PySem.boot_len (pa_cons (pv 4) pa_nil)) pa_nil))) (fun _ _ => rfl)))
        (pss_cons (ps_set (i := 10) scEntry.nd rfl (.inl rfl) (pe_ix ix_list (pv 5) (pe_c cN hr (by decide) (by rfl) (pa_cons (pv 0) (pa_cons (pe_callB call_len_seq (by rfl) T.len PySem.boot_len (pa_cons (pv 5) pa_nil)) pa_nil))) (fun _ _ => rfl)))
        (pss_one (ps_ret (pe_tup (pa_cons (pe_tup (pa_cons pe_str (pa_cons (pv 2) (pa_cons (pv 9) (pa_cons (pv 10) (pa_cons (pe_c cU hr (by decide) (by rfl) (pa_cons (pv 0) pa_nil)) (pa_cons (pe_c cS hr (by decide) (by rfl) (pa_cons (pv 0) pa_nil)) pa_nil))))))) (pa_cons pe_non pa_nil))))))) pss_nil)
      (pss_cons (ps_set (i := 11) scEntry.nd rfl (.inl rfl) (pe_c cR hr (by decide) (by rfl) (pa_cons (pv 0) (pa_cons (pv 5) (pa_cons (pv 6) pa_nil)))))
      (pss_cons (ps_set (i := 12) scEntry.nd rfl (.inl rfl) (pe_ix ix_list (pv 6) (pe_c cN hr (by decide) (by rfl) (pa_cons (pv 0) (pa_cons (pe_callB call_len_seq (by rfl) T.len PySem.boot_len (pa_cons (pv 6) pa_nil)) pa_nil))) (fun _ _ => rfl)))
      (pss_one (ps_ret (pe_tup (pa_cons (pe_tup (pa_cons pe_str (pa_cons (pv 2) (pa_cons (pv 12) (pa_cons (pe_join pe_str (pe_c cW hr (by decide) (by rfl) (pa_cons (pv 11) pa_nil))) (pa_cons (pe_c cS hr (by decide) (by rfl) (pa_cons (pv 0) pa_nil)) pa_nil)))))) (pa_cons (pv 11) pa_nil))))))))))), ?_⟩
    refine ⟨_, rfl, nh, _, rfl, hN.t, rfl, _, _, rfl, _, _, rfl, _, _, rfl, rfl, ?_⟩
    refine ⟨_, rfl, dr, 10, rfl, hd, by decide, fun x H1 s1 d1 l1 u1 => ?_⟩
    have hN1 := hN.keep hd s1
    have hel1 := s1 _ _ hne hel
    have hD1 : DpAll K H1 xs (es.map entD) := by
      obtain ⟨ns, hn⟩ := hd
      exact s1.da_lst hn (ents_tup es) hD
    refine ⟨_, rfl, el, xs, es, rfl, hel1, hD1, hlen, fun kl ks H2 nkl s2 h2 hks => ?_⟩
    have d2 := d1.same s2
    have hN2 := hN1.same s2
    have s12 : SameX dr H H2 := s1.trans (.of s2)
    have two : (2 : Nat) ≤ sizeLine := by decide
    -- an entry that is no strike
    have rest : ∀ e : Ent, e.isStrike = false → ∀ c i, e = .strike c i → (∃ d, es[i]? = some d ∧ d.isStrike = false) ∧ struckOn es i = none := fun e he c i z => by
      rw [z] at he
      cases he
    refine ⟨_, rfl, rfl, _, rfl, ite2 (fun c1 => ⟨_, rfl, !(ks.map V.int).isEmpty, .inl ⟨_, SqL.of h2, rfl⟩, ite2 (fun c2 => ?_) (fun c2 => ?_)⟩) (fun c1 => ?_)⟩
    · -- a strike
      have hk0 : ks ≠ [] := fun z => by
        rw [z] at c2
        cases c2
      have hkl : 0 < (((ks.map V.int).length : Nat) : Int) := by
        rw [List.length_map]
        have := List.length_pos_iff.mpr hk0
        omega
      refine ⟨_, rfl, _, rfl, _, rfl, _, rfl, kl, _, rfl, .inl (SqL.of h2), dr, _, rfl, d2, hkl, fun j H3 s3 d3 l3 u3 => ?_⟩
      rw [List.length_map] at u3
      have hj : j.toNat < ks.length := by omega
      have ej : j = (j.toNat : Int) := by omega
      have hkd : kl ≠ dr := by
        intro e
        obtain ⟨ns, hn⟩ := d1
        rw [e, hn] at nkl
        cases nkl
      obtain ⟨i, ei, hi1, hi2⟩ := hks ks[j.toNat] (List.getElem_mem hj)
      have hat : atI (ks.map V.int) j = some (.int (i : Int)) := by
        rw [ej]
        exact atI_nat (by rw [List.getElem?_map, List.getElem?_eq_getElem hj, ei]; rfl)
      refine ⟨kl, _, _, _, rfl, rfl, SqL.of (s3 _ _ hkd h2), hat, by show 3 ≤ sizeLine; decide, fun a ha => ⟨by show 2 ≤ sizeLine; decide, fun b hb => ?_⟩⟩
      have sa := same_new ha (.tup [.str "strike", .int came, .int (i : Int)])
      have sb := same_new hb (.tup [.ref a, .non])
      refine q b (.ref a) .non (.strike came i) _ (((s12.trans s3).trans (.of sa)).trans (.of sb)) (SqT.of upd_same) (dp_same sb (dpT upd_same (.cons (.str _) (.cons (.int _) (.cons (.int _) .nil))))) ⟨hcame, hlast, fun c i' z => ?_⟩ rfl
      injection z with z1 z2
      subst z2
      exact ⟨hi1, hi2⟩
    all_goals
      refine ⟨_, rfl, _, _, rfl, rfl, _, rfl, ite2 (fun c3 => ?_) (fun c3 => ?_)⟩
      · -- a report
        refine ⟨_, rfl, _, rfl, _, rfl, pl, _, rfl, .inl (SqL.of hN2.p.at_), dr, _, rfl, d2, hN2.p.len, fun y H3 s3 d3 l3 u3 => ?_⟩
        obtain ⟨z, hz, _, hat⟩ := hN2.p.pick l3 u3
        have hN3 := hN2.keep d2 s3
        refine ⟨pl, _, _, _, rfl, rfl, SqL.of hN3.p.at_, hat, ?_⟩
        refine ⟨_, rfl, _, rfl, _, rfl, fl, _, rfl, .inl (SqL.of hN3.f.at_), dr, _, rfl, d3, hN3.f.len, fun y2 H4 s4 d4 l4 u4 => ?_⟩
        obtain ⟨z2, hz2, _, hat2⟩ := hN3.f.pick l4 u4
        have hN4 := hN3.keep d3 s4
        refine ⟨fl, _, _, _, rfl, rfl, SqL.of hN4.f.at_, hat2, ?_⟩
        refine ⟨_, rfl, _, rfl, _, rfl, _, rfl, dr, rfl, d4, fun n H5 s5 d5 l5 u5 => ?_⟩
        refine ⟨_, rfl, dr, rfl, d5, fun v f0 t0 H6 s6 d6 hv hsp => ?_⟩
        refine ⟨by show 6 ≤ sizeLine; decide, fun a ha => ⟨by show 2 ≤ sizeLine; decide, fun b hb => ?_⟩⟩
        have sa := same_new ha (.tup [.str "report", .int came, .str z, .str z2, .int n, v])
        have sb := same_new hb (.tup [.ref a, .non])
        exact q b (.ref a) .non (.report came z z2 n f0 t0) _ ((((((s12.trans s3).trans s4).trans s5).trans s6).trans (.of sa)).trans (.of sb)) (SqT.of upd_same)
          (dp_same sb (dpT upd_same (.cons (.str _) (.cons (.int _) (.cons (.str _) (.cons (.str _) (.cons (.int _) (.cons (dp_same sa hv) .nil)))))))) ⟨⟨hcame, hz, hz2, ⟨l5, u5⟩, hsp⟩, hlast, rest _ rfl⟩ rfl
      · -- an enactment
        refine ⟨_, rfl, _, rfl, _, rfl, dr, fl, rl, fs, rs, rfl, d2, hN2.f, hN2.r, fun v p H3 s3 d3 hv hok h4 hl4 => ?_⟩
        have hN3 := hN2.keep d2 s3
        refine ⟨_, rfl, _, rfl, _, rfl, rl, _, rfl, .inl (SqL.of hN3.r.at_), dr, _, rfl, d3, hN3.r.len, fun y2 H4 s4 d4 l4 u4 => ?_⟩
        obtain ⟨z2, hz2, _, hat2⟩ := hN3.r.pick l4 u4
        have hN4 := hN3.keep d3 s4
        refine ⟨rl, _, _, _, rfl, rfl, SqL.of hN4.r.at_, hat2, ?_⟩
        have hv4 := d3.dp s4 (pd_tup p) hv
        refine ⟨_, rfl, _, rfl, ⟨_, rfl⟩, _, rfl, v, p, true, rfl, hv4, hok, h4, h4, fun wl H5 s5 h5 => ?_⟩
        have hw := wds_plain p true hok
        refine ⟨_, wl, wds p, rfl, rfl, .inl (SqL.of h5), ?_, ?_⟩
        · have hsum := sum_len (m := 12) fun x hx => (hw x hx).2
          have e1 : ((" " : Str).length) = 1 := by decide +kernel
          rw [e1]
          omega
        refine ⟨_, rfl, dr, rfl, d4.same s5, fun v2 f0 t0 H6 s6 d6 hv2 hsp => ?_⟩
        refine ⟨by show 5 ≤ sizeLine; decide, fun a ha => ⟨_, rfl, by show 2 ≤ sizeLine; decide, fun b hb => ?_⟩⟩
        have sa := same_new ha (.tup [.str "enact", .int came, .str z2, .str (txt p), v2])
        have sb := same_new hb (.tup [.ref a, v])
        exact q b (.ref a) v (.enact came z2 p f0 t0) _ ((((((s12.trans s3).trans s4).trans (.of s5)).trans s6).trans (.of sa)).trans (.of sb)) (SqT.of upd_same)
          (dp_same sb (dpT upd_same (.cons (.str _) (.cons (.int _) (.cons (.str _) (.cons (.str _) (.cons (dp_same sa hv2) .nil))))))) ⟨⟨hcame, hz2, ⟨hok, h4, hl4⟩, hsp⟩, hlast, rest _ rfl⟩ rfl
end
end K14

set_option Elab.async false
set_option maxRecDepth 100000
set_option maxHeartbeats 4000000
/-! the law's names -/
namespace K14
open PySem PySem.Spec PyProof.Rows L2
open C8 (Cal Met Mak pe_c pe_mk pe_mt pe_mt0 pss_cut)
section
variable {X : Cx} {k j : Nat} {x : Str} {sp : Sp} {dvs : List V} {p pos : Pos}
theorem pe_c0 (c : Cal X.prog X.w X.K X.mg X.base k x sp dvs) (hr : Room j X.A) (hk : k ≤ j) (hg : Gl X x) (hdb : (x == ("__debug__" : Str)) = false := by decide) : PE X (.Call (.Name x p) [] [] pos) (tCall sp dvs C8.E0 tNil) := by
  obtain ⟨f, fd, ps, ds, F, hm, kp, b, d⟩ := c.ex
  exact pe_call0 F (hr.mono hk) hg hm kp b d C8.pass0 hdb
end
def nameOkB (z : Str) : Bool := decide (1 ≤ z.length) && (decide (z.length ≤ 12) && (decide (z ∉ kept) && ((match z.cps.toList with
  | c :: _ => isLow c
  | [] => false) && z.cps.toList.all fun c => isLow c || isDig c)))
theorem nameOk_of {z : Str} (h : nameOkB z = true) : NameOk z := by
  unfold nameOkB at h
  simp only [Bool.and_eq_true, decide_eq_true_iff] at h
  obtain ⟨h1, h2, h3, h4, h5⟩ := h
  refine ⟨h1, h2, h3, ?_, List.all_eq_true.mp h5⟩
  cases e : z.cps.toList with
  | nil => rw [e] at h4; cases h4
  | cons c r =>
    rw [e] at h4
    exact ⟨c, r, rfl, h4⟩
theorem kept_x : ∀ z ∈ kept, NameOk (z ++ ("x" : Str)) := by
  have h : (kept.all fun z => nameOkB (z ++ ("x" : Str))) = true := by decide +kernel
  exact fun z hz => nameOk_of (List.all_eq_true.mp h z hz)
theorem app_cps (a b : Str) : (a ++ b).cps.toList = a.cps.toList ++ b.cps.toList := by
  show (a.cps ++ b.cps).toList = _
  exact Array.toList_append
theorem app_len (a b : Str) : (a ++ b).length = a.length + b.length := by
  rw [len_tl, len_tl, len_tl, app_cps, List.length_append]
/-- a text as built: letters and digits, a letter ahead -/
structure TextOk (t : Str) (n : Nat) : Prop where
  len : t.length = n
  all : ∀ c ∈ t.cps.toList, (isLow c || isDig c) = true
  first : ∀ c r, t.cps.toList = c :: r → isLow c = true
theorem low_at {x : Int} (h0 : 0 ≤ x) (h1 : x < 26) : ∃ c, atI ("abcdefghijklmnopqrstuvwxyz" : Str).cps.toList x = some c ∧ isLow c = true := by
  obtain ⟨k, rfl⟩ : ∃ k : Nat, x = (k : Int) := ⟨x.toNat, by omega⟩
  have hk : k < ("abcdefghijklmnopqrstuvwxyz" : Str).cps.toList.length := by
    rw [lettersL]
    show k < 26
    omega
  exact ⟨_, atI_nat (List.getElem?_eq_getElem hk), mem_letters.mp (List.getElem_mem hk)⟩
theorem both_at {x : Int} (h0 : 0 ≤ x) (h1 : x < 36) : ∃ c, atI (("abcdefghijklmnopqrstuvwxyz" : Str) ++ ("0123456789" : Str)).cps.toList x = some c ∧ (isLow c || isDig c) = true := by
  obtain ⟨k, rfl⟩ : ∃ k : Nat, x = (k : Int) := ⟨x.toNat, by omega⟩
  have hk : k < (("abcdefghijklmnopqrstuvwxyz" : Str) ++ ("0123456789" : Str)).cps.toList.length := by
    rw [app_cps, lettersL, digitsL]
    show k < 36
    omega
  refine ⟨_, atI_nat (List.getElem?_eq_getElem hk), ?_⟩
  have hm := List.getElem_mem hk
  generalize (("abcdefghijklmnopqrstuvwxyz" : Str) ++ ("0123456789" : Str)).cps.toList[k] = c at hm
  rw [app_cps] at hm
  rcases List.mem_append.mp hm with hm | hm
  · rw [mem_letters.mp hm]
    rfl
  · rw [mem_digits.mp hm, Bool.or_true]
theorem row_at {m : Nat} {ns : List Int} (h : RowOk m ns) {j : Nat} (hj : j < m) : ∃ x : Int, atI (ns.map V.int) (j : Int) = some (.int x) ∧ 0 ≤ x ∧ x < 1000 := by
  obtain ⟨hl, hx⟩ := h
  have hj' : j < ns.length := by omega
  exact ⟨ns[j], atI_nat (by rw [List.getElem?_map, List.getElem?_eq_getElem hj']; rfl), hx _ (List.getElem_mem hj')⟩
theorem one_cps (c : Nat) : (⟨#[c]⟩ : Str).cps.toList = [c] := rfl
theorem textOk_one {c : Nat} (h : isLow c = true) : TextOk ⟨#[c]⟩ 1 := by
  refine ⟨rfl, fun d hd => ?_, fun d r e => ?_⟩
  · rw [one_cps] at hd
    rw [List.mem_singleton.mp hd, h]
    rfl
  · rw [one_cps] at e
    injection e with e1 e2
    rw [← e1]
    exact h
theorem textOk_app {t : Str} {n c : Nat} (h : TextOk t n) (hn : n ≠ 0) (hc : (isLow c || isDig c) = true) : TextOk (t ++ ⟨#[c]⟩) (n + 1) := by
  refine ⟨?_, fun d hd => ?_, fun d r e => ?_⟩
  · rw [app_len, h.len]
    rfl
  · rw [app_cps] at hd
    rcases List.mem_append.mp hd with hd | hd
    · exact h.all d hd
    · rw [one_cps] at hd
      rw [List.mem_singleton.mp hd]
      exact hc
  · rw [app_cps] at e
    cases e2 : t.cps.toList with
    | nil =>
      have := h.len
      rw [len_tl, e2] at this
      exact absurd this.symm hn
    | cons c0 r0 =>
      rw [e2] at e
      injection e with e1 e3
      rw [← e1]
      exact h.first c0 r0 e2
theorem cut_pre (t : Str) (k : Nat) (hk : k ≤ t.length) : (cutS t none (some (k : Int))).cps.toList = t.cps.toList.take k := by
  unfold cutS
  show (t.cps.toList.drop (HT.sIx t.length 0 none)).take (HT.sIx t.length t.length (some (k : Int)) - HT.sIx t.length 0 none) = _
  rw [HT.sIx_nat, HT.sIx_none, Nat.min_eq_left hk]
  rfl
theorem cut_post (t : Str) (k : Nat) (hk : k ≤ t.length) : (cutS t (some (k : Int)) none).cps.toList = t.cps.toList.drop k := by
  unfold cutS
  show (t.cps.toList.drop (HT.sIx t.length 0 (some (k : Int)))).take (HT.sIx t.length t.length none - HT.sIx t.length 0 (some (k : Int))) = _
  rw [HT.sIx_nat, HT.sIx_none, Nat.min_eq_left hk]
  exact List.take_of_length_le (by rw [List.length_drop, ← len_tl]; omega)
/-- the letter put in -/
theorem nameOk_put {t : Str} {n c k : Nat} (h : TextOk t n) (hn : n ≤ 11) (hc : isLow c = true) (hk : k ≤ n) :
    let z := cutS t none (some (k : Int)) ++ ⟨#[c]⟩ ++ cutS t (some (k : Int)) none
    z.length = n + 1 ∧ (z ∉ kept → NameOk z) := by
  intro z
  have hk' : k ≤ t.length := by rw [h.len]; exact hk
  have ez : z.cps.toList = t.cps.toList.take k ++ ([c] ++ t.cps.toList.drop k) := by
    show (cutS t none (some (k : Int)) ++ ⟨#[c]⟩ ++ cutS t (some (k : Int)) none).cps.toList = _
    rw [app_cps, app_cps, cut_pre t k hk', cut_post t k hk', List.append_assoc]
  have hl : z.length = n + 1 := by
    rw [len_tl, ez, List.length_append, List.length_append, List.length_take, List.length_drop, ← len_tl, h.len]
    show min k n + (1 + (n - k)) = n + 1
    omega
  refine ⟨hl, fun hnk => ⟨by omega, by omega, hnk, ?_, ?_⟩⟩
  · rw [ez]
    cases k with
    | zero => exact ⟨c, _, rfl, hc⟩
    | succ k =>
      cases e2 : t.cps.toList with
      | nil =>
        have := h.len
        rw [len_tl, e2] at this
        simp at this
        omega
      | cons c0 r0 => exact ⟨c0, _, rfl, h.first c0 r0 e2⟩
  · rw [ez]
    intro d hd
    rcases List.mem_append.mp hd with hd | hd
    · exact h.all d (List.mem_of_mem_take hd)
    · rcases List.mem_append.mp hd with hd | hd
      · rw [List.mem_singleton.mp hd, hc]
        rfl
      · exact h.all d (List.mem_of_mem_drop hd)
section
variable {P : Program} {w : World} {K : PySem.W.Frag} {mg : Str → Option Value} {base : Heap}
def spKept : Sp := fun vs H Q _ => vs = [] ∧ ∀ l H', Same H H' → H' l = some (.lst (kept.map V.str)) → Q (.ref l) H'
theorem scKept : FnScope [] [] (defScope (top 60)) := ⟨rfl, rfl, rfl, by decide +kernel, rfl, by decide +kernel, by decide +kernel⟩
theorem c_kept (G : Gf K mg "_law_kept" (top 60) []) : Cal P w K mg base 1 "_law_kept" spKept [] := by
  refine G.cal scKept (fun vs H Q E h => ?_) (fun f cdv A outer s H vs Q E hr h => ?_)
  · obtain ⟨rfl, _⟩ := h
    rfl
  · obtain ⟨rfl, q⟩ := h
    refine ⟨_, pss_one (ps_ret (pe_lst (pa_cons pe_str (pa_cons pe_str (pa_cons pe_str (pa_cons pe_str (pa_cons pe_str (pa_cons pe_str (pa_cons pe_str (pa_cons pe_str (pa_cons pe_str (pa_cons pe_str (pa_cons pe_str (pa_cons pe_str (pa_cons pe_str (pa_cons pe_str (pa_cons pe_str (pa_cons pe_str pa_nil)))))))))))))))))), ?_⟩
    exact ⟨by show 16 ≤ sizeLine; decide, fun l hl => q l _ (same_new hl _) upd_same⟩
def spName (K : PySem.W.Frag) : Sp := fun vs H Q _ => ∃ (row : Addr) (ns : List Int) (k : Int), vs = [.ref row, .int k] ∧ SqL K H row (ns.map V.int) ∧ RowOk 15 ns ∧ 0 ≤ k ∧ ∀ z H', Same H H' → NameOk z → Q (.str z) H'
theorem scName1 : FnScope ["_law_row_here", "_law_k", "_law_letters", "_law_text", "_law_size", "_law_alike", "_law_i", "_law_at"] ["_law_row_here", "_law_k"] (defScope (top 61)) := ⟨rfl, rfl, rfl, by decide +kernel, rfl, by decide +kernel, by decide +kernel⟩
theorem p12 : (0 : Int) < 12 := by decide
theorem p2 : (0 : Int) < 2 := by decide
theorem p26 : (0 : Int) < 26 := by decide
theorem p36 : (0 : Int) < 36 := by decide
theorem c_name (G : Gf K mg "_law_name" (top 61) ["_law_row_here", "_law_k"]) (T : Tx K mg) (cK : Cal P w K mg base 1 "_law_kept" spKept []) : Cal P w K mg base 2 "_law_name" (spName K) [] := by
  refine G.cal scName1 (fun vs H Q E h => ?_) (fun f cdv A outer s H vs Q E hr h => ?_)
  · obtain ⟨row, ns, k, rfl, _⟩ := h
    rfl
  · obtain ⟨row, ns, k, rfl, hrow, hok, hk, q⟩ := h
    refine ⟨_, pss_cons (ps_set (i := 2) scName1.nd rfl (.inl rfl) pe_str)
      (pss_cons (ps_set (i := 3) scName1.nd rfl (.inl rfl) pe_str)
      (pss_cons (ps_set (i := 4) scName1.nd rfl (.inl rfl) (pe_op op_mod (pe_callTy call_int1 (by rfl) T.int (by decide +kernel) (pa_cons (pe_ix ix_list (pv 0) pe_int (fun _ _ => rfl)) pa_nil)) pe_int))
      (pss_cons (ps_set (i := 5) scName1.nd rfl (.inl rfl) (pe_cmpR op_eq (pe_op op_mod (pe_callTy call_int1 (by rfl) T.int (by decide +kernel) (pa_cons (pe_op op_fdiv (pe_ix ix_list (pv 0) pe_int (fun _ _ => rfl)) pe_int) pa_nil)) pe_int) pe_int (nomark _)))
      (pss_cut (ps_if (pt_not (pt_val (pv 5))) (pss_one (ps_set (i := 4) scName1.nd rfl (.inl rfl) (pe_callB (call_max2 rfl) (by rfl) T.max (by decide +kernel) (pa_cons pe_int (pa_cons (pe_op op_sub (pv 4) (pv 1)) pa_nil))))) pss_nil)
      (pss_cons (ps_for PassesOwn.never rfl (pi_range1 (by rfl) T.range (pa_cons (pv 4) pa_nil)) (pg_name (i := 6) scName1.nd rfl (.inl rfl))
        (pss_one (ps_if (pt_cmpR op_eq (pv 6) pe_int (nomark _))
          (pss_one (ps_set (i := 3) scName1.nd rfl (.inl rfl) (pe_ix ix_str (pv 2) (pe_op op_mod (pe_callTy call_int1 (by rfl) T.int (by decide +kernel) (pa_cons (pe_ix ix_list (pv 0) pe_int (fun _ _ => rfl)) pa_nil)) pe_int) (fun _ _ => rfl))))
          (pss_one (ps_set (i := 3) scName1.nd rfl (.inl rfl) (pe_op op_add_str (pv 3) (pe_ix ix_str (pe_op op_add_str (pv 2) pe_str) (pe_op op_mod (pe_callTy call_int1 (by rfl) T.int (by decide +kernel) (pa_cons (pe_ix ix_list (pv 0) (pe_op op_add pe_int (pv 6)) (fun _ _ => rfl)) pa_nil)) pe_int) (fun _ _ => rfl))))))))
      (pss_cons (ps_set (i := 7) scName1.nd rfl (.inl rfl) (pe_op op_mod (pe_callTy call_int1 (by rfl) T.int (by decide +kernel) (pa_cons (pe_ix ix_list (pv 0) pe_int (fun _ _ => rfl)) pa_nil)) (pe_op op_add (pv 4) pe_int)))
      (pss_cut (ps_if (pt_not (pt_val (pv 5))) (pss_one (ps_set (i := 7) scName1.nd rfl (.inl rfl) pe_int)) pss_nil)
      (pss_cons (ps_set (i := 3) scName1.nd rfl (.inl rfl) (pe_op op_add_str (pe_op op_add_str (pe_slice sl_str (pv 3) po_none (po_some (pv 7))) (pe_ix ix_str (pv 2) (pe_op op_mod (pe_callTy call_int1 (by rfl) T.int (by decide +kernel) (pa_cons (pe_op op_add (pe_ix ix_list (pv 0) pe_int (fun _ _ => rfl)) (pv 1)) pa_nil)) pe_int) (fun _ _ => rfl))) (pe_slice sl_str (pv 3) (po_some (pv 7)) po_none)))
      (pss_cons (ps_if (pt_cmpR op_in_seq (pv 3) (pe_c0 cK hr (by decide) (by rfl)) rfl) (pss_one (ps_set (i := 3) scName1.nd rfl (.inl rfl) (pe_op op_add_str (pv 3) pe_str))) pss_nil)
      (pss_one (ps_ret (pv 3)))))))))))), ?_⟩
    obtain ⟨x0, a0, l0, u0⟩ := row_at hok (j := 0) (by decide)
    obtain ⟨x1, a1, l1, u1⟩ := row_at hok (j := 1) (by decide)
    obtain ⟨x2, a2, l2, u2⟩ := row_at hok (j := 2) (by decide)
    obtain ⟨x3, a3, l3, u3⟩ := row_at hok (j := 3) (by decide)
    have ll : ("abcdefghijklmnopqrstuvwxyz" : Str).length ≤ sizeLine := by
      rw [len_tl, lettersL]
      show 26 ≤ sizeLine
      decide
    refine ⟨_, rfl, row, _, _, _, rfl, rfl, hrow, a0, .inl ⟨_, rfl, _, _, rfl, rfl, p12, ?_⟩⟩
    refine ⟨_, rfl, row, _, _, _, rfl, rfl, hrow, a0, _, _, rfl, rfl, ⟨by decide, by decide⟩, .inl ⟨_, rfl, _, _, rfl, rfl, p2, rfl, ?_⟩⟩
    refine ⟨fun σ H1 => H = H1 ∧ ∃ (sz : Int) (b : Bool), (0 ≤ sz ∧ sz ≤ 11) ∧ σ = [some (.ref row), some (.int k), some (.str "abcdefghijklmnopqrstuvwxyz"), some (.str ""), some (.int sz), some (.bl b), none, none], ?_, ?_⟩
    · refine ⟨_, rfl, _, rfl, ite2 (fun c => ?_) (fun c => ⟨rfl, _, _, ⟨by omega, by omega⟩, rfl⟩)⟩
      refine ⟨_, rfl, _, rfl, _, _, rfl, rfl, _, _, rfl, rfl, _, _, ?_, rfl⟩
      split <;> omega
    rintro σ H1 ⟨rfl, sz, b, ⟨hs0, hs1⟩, rfl⟩
    obtain ⟨n, rfl⟩ : ∃ n : Nat, sz = (n : Int) := ⟨sz.toNat, by omega⟩
    have hn : n ≤ 11 := by omega
    refine ⟨_, rfl, _, rfl, by omega, by omega, for_it walk_range (fun i σ H' => ∃ (t : Str) (v6 : Option V), σ = [some (.ref row), some (.int k), some (.str "abcdefghijklmnopqrstuvwxyz"), some (.str t), some (.int (n : Int)), some (.bl b), v6, none] ∧ H = H' ∧ TextOk t i)
      ⟨"", none, rfl, rfl, ⟨by decide +kernel, fun c hc => ?_, fun c r e => ?_⟩⟩ (fun _ _ _ _ _ => trivial) ?_ ?_⟩
    · have e : ("" : Str).cps.toList = [] := by decide +kernel
      rw [e] at hc
      cases hc
    · have e0 : ("" : Str).cps.toList = [] := by decide +kernel
      rw [e0] at e
      cases e
    · rintro i y σ H2 H3 hi ⟨t, v6, rfl, e1, ht⟩ ⟨rfl, rfl⟩
      subst e1
      have hi' : i < n := by omega
      refine ⟨_, rfl, rfl, _, rfl, ite2 (fun c => ?_) (fun c => ?_)⟩
      · have e0 : (0 : Int) + (i : Int) = 0 := V.int.inj (of_decide_eq_true c)
        have ei : i = 0 := by omega
        subst ei
        obtain ⟨c0, h0, h1⟩ := low_at (x := x3 % 26) (Int.emod_nonneg _ (by decide)) (Int.emod_lt_of_pos _ p26)
        exact ⟨_, rfl, _, rfl, row, _, _, _, rfl, rfl, hrow, a3, .inl ⟨_, rfl, _, _, rfl, rfl, p26, _, _, c0, rfl, rfl, ll, h0, _, _, rfl, rfl, textOk_one h1⟩⟩
      · have ei : i ≠ 0 := fun z => c (by subst z; rfl)
        obtain ⟨xi, ai, li, ui⟩ := row_at hok (j := 3 + i) (by omega)
        have ez : (3 : Int) + ((0 : Int) + (i : Int)) = ((3 + i : Nat) : Int) := by omega
        rw [← ez] at ai
        obtain ⟨c0, h0, h1⟩ := both_at (x := xi % 36) (Int.emod_nonneg _ (by decide)) (Int.emod_lt_of_pos _ p36)
        have lb : ("abcdefghijklmnopqrstuvwxyz" : Str).length + ("0123456789" : Str).length ≤ sizeLine := by
          rw [len_tl, len_tl, lettersL, digitsL]
          show 36 ≤ sizeLine
          decide
        refine ⟨_, rfl, _, rfl, _, _, rfl, rfl, lb, _, rfl, _, rfl, _, _, rfl, rfl, row, _, _, _, rfl, rfl, hrow, ai, .inl ⟨_, rfl, _, _, rfl, rfl, p36, _, _, c0, rfl, rfl, by rw [app_len]; exact lb, h0, _, _, rfl, rfl, ?_, _, _, rfl, rfl, textOk_app ht ei h1⟩⟩
        rw [ht.len]
        show i + 1 ≤ sizeLine
        exact sl1000 (by omega)
    rintro σ H2 ⟨t, v6, rfl, rfl, ht⟩
    rw [show ((n : Int)).toNat = n from Int.toNat_natCast n] at ht
    have htl : t.length ≤ sizeLine := by rw [ht.len]; exact sl1000 (by omega)
    refine ⟨_, rfl, row, _, _, _, rfl, rfl, hrow, a1, .inl ⟨_, rfl, _, rfl, _, _, rfl, rfl, _, _, rfl, rfl, by show (0 : Int) < (n : Int) + 1; omega, ?_⟩⟩
    refine ⟨fun σ H1 => H = H1 ∧ ∃ (at_ : Int), (0 ≤ at_ ∧ at_ ≤ n) ∧ σ = [some (.ref row), some (.int k), some (.str "abcdefghijklmnopqrstuvwxyz"), some (.str t), some (.int (n : Int)), some (.bl b), v6, some (.int at_)], ?_, ?_⟩
    · have g0 : 0 ≤ x1 % ((n : Int) + 1) := Int.emod_nonneg _ (by omega)
      have g1 : x1 % ((n : Int) + 1) < (n : Int) + 1 := Int.emod_lt_of_pos _ (by omega)
      exact ⟨_, rfl, _, rfl, ite2 (fun c => ⟨rfl, _, ⟨by omega, by omega⟩, rfl⟩) (fun c => ⟨rfl, _, ⟨g0, by omega⟩, rfl⟩)⟩
    rintro σ H1 ⟨rfl, at_, ⟨h0, h1⟩, rfl⟩
    obtain ⟨m, rfl⟩ : ∃ m : Nat, at_ = (m : Int) := ⟨at_.toNat, by omega⟩
    have hm : m ≤ n := by omega
    obtain ⟨c0, g0, g1⟩ := low_at (x := (x2 + k) % 26) (Int.emod_nonneg _ (by decide)) (Int.emod_lt_of_pos _ p26)
    have hput := nameOk_put ht hn g1 hm
    have e1 : (cutS t none (some (m : Int))).length ≤ t.length := cutS_length _ _ _
    have e2 : (cutS t (some (m : Int)) none).length ≤ t.length := cutS_length _ _ _
    have e3 : ((⟨#[c0]⟩ : Str)).length = 1 := rfl
    refine ⟨_, rfl, _, rfl, _, rfl, _, rfl, htl, _, rfl, _, rfl, row, _, _, _, rfl, rfl, hrow, a2, _, rfl, _, _, rfl, rfl, .inl ⟨_, rfl, _, _, rfl, rfl, p26, _, _, c0, rfl, rfl, ll, g0, _, _, rfl, rfl, ?_, ?_⟩⟩
    · rw [e3]
      have := ht.len
      exact sl1000 (by omega)
    refine ⟨_, rfl, _, rfl, _, rfl, _, rfl, htl, _, _, rfl, rfl, ?_, ?_⟩
    · rw [app_len, e3]
      have := ht.len
      exact sl1000 (by omega)
    revert hput
    show _ → tSeq _ _ _ _ _
    generalize cutS t none (some (m : Int)) ++ ⟨#[c0]⟩ ++ cutS t (some (m : Int)) none = z
    intro hput
    refine ⟨_, rfl, rfl, fun l H1 s1 h1 => ⟨l, _, rfl, .inl (SqL.of h1), rfl, flat_strs _, _, rfl, ?_⟩⟩
    rw [inV_strs]
    by_cases hz : z ∈ kept
    · rw [decide_eq_true hz]
      refine iteT ⟨_, rfl, _, _, rfl, rfl, ?_, _, rfl, q _ _ s1 (kept_x z hz)⟩
      have e4 : ("x" : Str).length = 1 := by decide +kernel
      rw [hput.1, e4]
      exact sl1000 (by omega)
    · rw [decide_eq_false hz]
      exact iteF ⟨_, rfl, q _ _ s1 (hput.2 hz)⟩
end
end K14

set_option Elab.async false
set_option maxRecDepth 100000
set_option maxHeartbeats 4000000
/-! the law's names, claim, joined course -/
namespace K14
open PySem PySem.Spec PyProof.Rows L2
open C8 (Cal Met Mak pe_c pe_mk pe_mt pe_mt0 pss_cut)
theorem tYes_t {σ : L2.St} {H : Hp} {A B : Hp → Prop} (h : A H) : tYes σ H (fun b H3 => if b = true then A H3 else B H3) := by
  show if true = true then A H else B H
  exact iteT h
section
variable {P : Program} {w : World} {K : PySem.W.Frag} {mg : Str → Option Value} {base : Heap}
/-- the script's list -/
def ScrAt (K : PySem.W.Frag) (H : Hp) (sa : Addr) : Prop := ∃ sc : List Int, SqL K H sa (sc.map V.int) ∧ sc.length ≤ 1000
theorem ScrAt.same {H H' : Hp} {sa : Addr} (h : ScrAt K H sa) (e : Same H H') : ScrAt K H' sa := by
  obtain ⟨sc, h1, h2⟩ := h
  exact ⟨sc, e.seq h1, h2⟩
def spNames (K : PySem.W.Frag) : Sp := fun vs H Q _ => ∃ (sa : Addr) (pi m : Int), vs = [.ref sa, .int pi, .int m] ∧ 0 ≤ pi ∧ ScrAt K H sa ∧ 1 ≤ m ∧ m ≤ 10 ∧ ∀ l xs H', Same H H' → NamesAt H' l xs → Q (.ref l) H'
theorem scNames : FnScope ["_law_script", "_law_place", "_law_many", "_law_row_here", "_law_k"] ["_law_script", "_law_place", "_law_many"] (defScope (top 62)) := ⟨rfl, rfl, rfl, by decide +kernel, rfl, by decide +kernel, by decide +kernel⟩
theorem c_names (G : Gf K mg "_law_names" (top 62) ["_law_script", "_law_place", "_law_many"]) (T : Tx K mg) (cR : Cal P w K mg base 1 "_law_row" (spRow K) []) (cNm : Cal P w K mg base 2 "_law_name" (spName K) []) : Cal P w K mg base 3 "_law_names" (spNames K) [] := by
  refine G.cal scNames (fun vs H Q E h => ?_) (fun f cdv A outer s H vs Q E hr h => ?_)
  · obtain ⟨sa, pi, m, rfl, _⟩ := h
    rfl
  · obtain ⟨sa, pi, m, rfl, hpi, ⟨sc, hs, hsl⟩, hm1, hm2, q⟩ := h
    refine ⟨_, pss_cons (ps_set (i := 3) scNames.nd rfl (.inr rfl) (pe_c cR hr (by decide) (by rfl) (pa_cons (pv 0) (pa_cons (pv 1) (pa_cons pe_int pa_nil)))))
      (pss_one (ps_ret (pe_lc (own := [("_law_k", 4)]) rfl scNames.nd (pi_range1 (by rfl) T.range (pa_cons (pv 2) pa_nil)) (blkOk_by (own := [("_law_k", 4)]) (N := ["_law_script", "_law_place", "_law_many", "_law_row_here", "_law_k"]) (sc := defScope (top 62)) (by decide +kernel))
        (fun _ _ _ _ _ => pg_name (i := 4) scNames.nd rfl (Or.inl rfl)) (fun _ _ _ _ _ => pts_nil) (fun _ _ _ _ _ => pe_c cNm hr (by decide) (by rfl) (pa_cons (pv 3) (pa_cons (pv 4) pa_nil)))))), ?_⟩
    refine ⟨_, rfl, _, rfl, sa, sc, pi, 15, rfl, hpi, hs, hsl, by decide, fun row ns H1 nrow s1 hrow hok => ?_⟩
    refine ⟨_, rfl, _, rfl, by omega, by omega, fun D hD => ?_⟩
    have nD : row ≠ D := ne_of_none hrow hD
    refine lc_it walk_range (fun i H' => SameX D (upd H1 D (.lst [])) H' ∧ ∃ zs : List Str, H' D = some (.lst (zs.map V.str)) ∧ zs.length = i ∧ ∀ z ∈ zs, NameOk z) ⟨.refl _ _, [], upd_same, rfl, fun k hk => by cases hk⟩ (fun _ _ _ _ => trivial) ?_ ?_
    · rintro i x H3 H4 hi ⟨s3, zs, h4, hzl, hzs⟩ ⟨rfl, rfl⟩
      have hrow3 : H4 row = some (.lst (ns.map V.int)) := s3 _ _ nD (by rw [upd_ne nD]; exact hrow)
      refine ⟨rfl, tYes_t ?_⟩
      refine ⟨_, rfl, _, rfl, row, ns, _, rfl, SqL.of hrow3, hok, by omega, fun z H5 s5 hz => ?_⟩
      refine ⟨_, s5 _ _ h4, by rw [List.length_map, sizeLine_eq]; omega, (s3.trans (.of s5)).trans (sameX_upd _ _ _), zs ++ [z], ?_, ?_, ?_⟩
      · rw [upd_same, List.map_append]
        rfl
      · rw [List.length_append, hzl]
        rfl
      · intro y hy
        rcases List.mem_append.mp hy with hy | hy
        · exact hzs y hy
        · rw [List.mem_singleton.mp hy]
          exact hz
    · rintro H3 ⟨s3, zs, h4, hzl, hzs⟩
      refine q D zs H3 (fun b o e => s3 _ _ (ne_of_none (s1 _ _ e) hD) ((same_new hD _) _ _ (s1 _ _ e))) ⟨h4, ?_, hzs⟩
      intro z
      rw [z] at hzl
      have : m.toNat = 0 := hzl.symm
      omega
def spNamesOf (K : PySem.W.Frag) : Sp := fun vs H Q _ => ∃ (sa : Addr) (pi al : Int), vs = [.ref sa, .int pi, .int al] ∧ 0 ≤ pi ∧ ScrAt K H sa ∧ 0 ≤ al ∧ al ≤ 1 ∧
  ∀ nh pl fl rl ps fs rs H', Same H H' → NamesW K H' nh pl fl rl ps fs rs → Q (.ref nh) H'
theorem scNamesOf : FnScope ["_law_script", "_law_place", "_law_alike", "_law_persons"] ["_law_script", "_law_place", "_law_alike"] (defScope (top 72)) := ⟨rfl, rfl, rfl, by decide +kernel, rfl, by decide +kernel, by decide +kernel⟩
theorem c_names_of (G : Gf K mg "_law_names_of" (top 72) ["_law_script", "_law_place", "_law_alike"]) (cN : Cal P w K mg base 3 "_law_names" (spNames K) []) : Cal P w K mg base 4 "_law_names_of" (spNamesOf K) [] := by
  refine G.cal scNamesOf (fun vs H Q E h => ?_) (fun f cdv A outer s H vs Q E hr h => ?_)
  · obtain ⟨sa, pi, m, rfl, _⟩ := h
    rfl
  · obtain ⟨sa, pi, al, rfl, hpi, hs, ha0, ha1, q⟩ := h
    refine ⟨_, pss_cons (ps_set (i := 3) scNamesOf.nd rfl (.inl rfl) (pe_c cN hr (by decide) (by rfl) (pa_cons (pv 0) (pa_cons (pv 1) (pa_cons pe_int pa_nil)))))
      (pss_one (ps_ret (pe_tup (pa_cons (pv 3) (pa_cons (pe_c cN hr (by decide) (by rfl) (pa_cons (pv 0) (pa_cons (pe_op op_add (pv 1) pe_int) (pa_cons (pe_op op_add pe_int (pv 2)) pa_nil))))
        (pa_cons (pe_c cN hr (by decide) (by rfl) (pa_cons (pv 0) (pa_cons (pe_op op_add (pv 1) pe_int) (pa_cons (pe_op op_add pe_int (pv 2)) pa_nil)))) pa_nil)))))), ?_⟩
    refine ⟨_, rfl, _, rfl, sa, pi, 2, rfl, hpi, hs, by decide, by decide, fun pl ps H1 s1 hp => ?_⟩
    refine ⟨_, rfl, _, rfl, _, rfl, _, _, rfl, rfl, _, rfl, _, _, rfl, rfl, sa, _, _, rfl, by omega, hs.same s1, by omega, by omega, fun fl fs H2 s2 hf => ?_⟩
    refine ⟨_, rfl, _, rfl, _, _, rfl, rfl, _, rfl, _, _, rfl, rfl, sa, _, _, rfl, by omega, (hs.same s1).same s2, by omega, by omega, fun rl rs H3 s3 hrl => ?_⟩
    refine ⟨by show 3 ≤ sizeLine; decide, fun a ha => ?_⟩
    have sn := same_new ha (.tup [.ref pl, .ref fl, .ref rl])
    exact q a pl fl rl ps fs rs _ (((s1.trans s2).trans s3).trans sn) ⟨SqT.of upd_same, hp.same ((s2.trans s3).trans sn), hf.same (s3.trans sn), hrl.same sn⟩
def spClaim (K : PySem.W.Frag) : Sp := fun vs H Q _ => ∃ (row : Addr) (ns : List Int) (nh pl fl rl : Addr) (ps fs rs : List Str), vs = [.ref row, .ref nh] ∧ SqL K H row (ns.map V.int) ∧ RowOk 9 ns ∧ NamesW K H nh pl fl rl ps fs rs ∧
  ∀ ca x y f t H', Same H H' → ClaimAt K H' ca x y f t → NameOk x → NameOk y → 0 ≤ f → f < t → Q (.ref ca) H'
theorem scClaim : FnScope ["_law_row_here", "_law_names_here", "_law_persons", "_law_facts", "_law_rules", "_law_first"] ["_law_row_here", "_law_names_here"] (defScope (top 74)) := ⟨rfl, rfl, rfl, by decide +kernel, rfl, by decide +kernel, by decide +kernel⟩
theorem p24 : (0 : Int) < 24 := by decide
theorem c_claim (G : Gf K mg "_law_claim" (top 74) ["_law_row_here", "_law_names_here"]) (T : Tx K mg) : Cal P w K mg base 1 "_law_claim" (spClaim K) [] := by
  refine G.cal scClaim (fun vs H Q E h => ?_) (fun f cdv A outer s H vs Q E hr h => ?_)
  · obtain ⟨row, ns, nh, pl, fl, rl, ps, fs, rs, rfl, _⟩ := h
    rfl
  · obtain ⟨row, ns, nh, pl, fl, rl, ps, fs, rs, rfl, hrow, hok, hN, q⟩ := h
    refine ⟨_, pss_cons (ps_asg (pv 1) (pg_tup rfl (pgs_cons (pg_name (i := 2) scClaim.nd rfl (.inl rfl)) (pgs_cons (pg_name (i := 3) scClaim.nd rfl (.inl rfl)) (pgs_cons (pg_name (i := 4) scClaim.nd rfl (.inl rfl)) pgs_nil)))))
      (pss_cons (ps_set (i := 5) scClaim.nd rfl (.inl rfl) (pe_op op_mod (pe_callTy call_int1 (by rfl) T.int (by decide +kernel) (pa_cons (pe_ix ix_list (pv 0) pe_int (fun _ _ => rfl)) pa_nil)) pe_int))
      (pss_one (ps_ret (pe_tup (pa_cons (pe_ix ix_list (pv 2) (pe_op op_mod (pe_callTy call_int1 (by rfl) T.int (by decide +kernel) (pa_cons (pe_ix ix_list (pv 0) pe_int (fun _ _ => rfl)) pa_nil)) (pe_callB call_len_seq (by rfl) T.len PySem.boot_len (pa_cons (pv 2) pa_nil))) (fun _ _ => rfl))
        (pa_cons (pe_ix ix_list (pv 4) (pe_op op_mod (pe_callTy call_int1 (by rfl) T.int (by decide +kernel) (pa_cons (pe_ix ix_list (pv 0) pe_int (fun _ _ => rfl)) pa_nil)) (pe_callB call_len_seq (by rfl) T.len PySem.boot_len (pa_cons (pv 4) pa_nil))) (fun _ _ => rfl))
        (pa_cons (pe_tup (pa_cons (pv 5) (pa_cons (pe_op op_add (pe_op op_add (pv 5) pe_int) (pe_op op_mod (pe_callTy call_int1 (by rfl) T.int (by decide +kernel) (pa_cons (pe_ix ix_list (pv 0) pe_int (fun _ _ => rfl)) pa_nil)) pe_int)) pa_nil))) pa_nil))))))), ?_⟩
    obtain ⟨x4, a4, l4, u4⟩ := row_at hok (j := 4) (by decide)
    obtain ⟨x5, a5, l5, u5⟩ := row_at hok (j := 5) (by decide)
    obtain ⟨x6, a6, l6, u6⟩ := row_at hok (j := 6) (by decide)
    obtain ⟨x7, a7, l7, u7⟩ := row_at hok (j := 7) (by decide)
    refine ⟨_, rfl, nh, _, rfl, hN.t, rfl, _, _, rfl, _, _, rfl, _, _, rfl, rfl, ?_⟩
    refine ⟨_, rfl, row, _, _, _, rfl, rfl, hrow, a4, .inl ⟨_, rfl, _, _, rfl, rfl, p24, ?_⟩⟩
    obtain ⟨y, hy, _, hya⟩ := hN.p.pick (i := x5 % (((ps.map V.str).length : Nat) : Int)) (Int.emod_nonneg _ (by have := hN.p.len; omega)) (Int.emod_lt_of_pos _ hN.p.len)
    obtain ⟨z, hz, _, hza⟩ := hN.r.pick (i := x6 % (((rs.map V.str).length : Nat) : Int)) (Int.emod_nonneg _ (by have := hN.r.len; omega)) (Int.emod_lt_of_pos _ hN.r.len)
    refine ⟨_, rfl, _, rfl, row, _, _, _, rfl, rfl, hrow, a5, .inl ⟨_, rfl, _, rfl, pl, _, rfl, .inl (SqL.of hN.p.at_), _, _, rfl, rfl, hN.p.len, pl, _, _, _, rfl, rfl, SqL.of hN.p.at_, hya, ?_⟩⟩
    refine ⟨_, rfl, _, rfl, row, _, _, _, rfl, rfl, hrow, a6, .inl ⟨_, rfl, _, rfl, rl, _, rfl, .inl (SqL.of hN.r.at_), _, _, rfl, rfl, hN.r.len, rl, _, _, _, rfl, rfl, SqL.of hN.r.at_, hza, ?_⟩⟩
    refine ⟨_, rfl, _, rfl, _, _, rfl, rfl, _, rfl, row, _, _, _, rfl, rfl, hrow, a7, .inl ⟨_, rfl, _, _, rfl, rfl, p24, _, _, rfl, rfl, by show 2 ≤ sizeLine; decide, fun sp hsp => ⟨by show 3 ≤ sizeLine; decide, fun ca hca => ?_⟩⟩⟩
    have sa := same_new hsp (.tup [.int (x4 % 24), .int (x4 % 24 + 1 + x7 % 24)])
    have sb := same_new hca (.tup [.str y, .str z, .ref sp])
    exact q ca y z (x4 % 24) (x4 % 24 + 1 + x7 % 24) _ (sa.trans sb) ⟨sp, SqT.of upd_same, sqT_same sb (SqT.of upd_same)⟩ hy hz (by omega) (by omega)
end
end K14

set_option Elab.async false
set_option maxRecDepth 100000
set_option maxHeartbeats 4000000
/-! the law's joined course, its world -/
namespace K14
open PySem PySem.Spec PyProof.Rows L2
open C8 (Cal Met Mak pe_c pe_mk pe_mt pe_mt0 pss_cut)
theorem cutV_init (r : List V) (x : V) : cutV (r ++ [x]) none (some (-1)) = r := by
  unfold cutV
  have e : HT.sIx (r ++ [x]).length (r ++ [x]).length (some (-1)) = r.length := by
    show (if (-1 : Int) < 0 then ((-1 : Int) + ((r ++ [x]).length : Int)).toNat else min (-1 : Int).toNat (r ++ [x]).length) = _
    rw [if_pos (by decide), List.length_append, List.length_singleton]
    omega
  rw [e, HT.sIx_none, List.drop_zero, Nat.sub_zero, List.take_append_of_le_length (Nat.le_refl _), List.take_length]
theorem da_app {K : PySem.W.Frag} {H : Hp} {ds es : List PyData} {ys : List V} (h2 : DpAll K H ys es) : ∀ {xs : List V}, DpAll K H xs ds → DpAll K H (xs ++ ys) (ds ++ es) := by
  induction ds with
  | nil =>
    intro xs h
    cases h
    exact h2
  | cons d ds ih =>
    intro xs h
    cases h with
    | cons a b => exact .cons a (ih b)
/-- two courses joined -/
def joinedM (ri : List Run) (r0 s0 : Run) (si : List Run) : List Run := if r0.d = s0.d then ri ++ [⟨r0.a, s0.b, s0.d⟩] ++ si else (ri ++ [r0]) ++ (s0 :: si)
section
variable {P : Program} {w : World} {K : PySem.W.Frag} {mg : Str → Option Value} {base : Heap}
def spJoined (K : PySem.W.Frag) : Sp := fun vs H Q _ => ∃ (l1 l2 : Addr) (us ws : List V) (ri si : List Run) (r0 s0 : Run), vs = [.ref l1, .ref l2] ∧ H l1 = some (.lst us) ∧ H l2 = some (.lst ws) ∧ DpAll K H us ((ri ++ [r0]).map runD) ∧ DpAll K H ws ((s0 :: si).map runD) ∧ DecOk r0.d ∧ DecOk s0.d ∧
  us.length ≤ 20000 ∧ ws.length ≤ 20000 ∧ ∀ l vs H', Same H H' → H' l = some (.lst vs) → DpAll K H' vs ((joinedM ri r0 s0 si).map runD) → Q (.ref l) H'
theorem scJoined : FnScope ["_law_first", "_law_second"] ["_law_first", "_law_second"] (defScope (top 75)) := ⟨rfl, rfl, rfl, by decide +kernel, rfl, by decide +kernel, by decide +kernel⟩
theorem c_joined (G : Gf K mg "_law_joined" (top 75) ["_law_first", "_law_second"]) : Cal P w K mg base 1 "_law_joined" (spJoined K) [] := by
  refine G.cal scJoined (fun vs H Q E h => ?_) (fun f cdv A outer s H vs Q E hr h => ?_)
  · obtain ⟨l1, l2, us, ws, ri, si, r0, s0, rfl, _⟩ := h
    rfl
  · obtain ⟨l1, l2, us, ws, ri, si, r0, s0, rfl, h1, h2, D1, D2, ok1, ok2, len1, len2, q⟩ := h
    refine ⟨_, pss_cons (ps_if (pt_cmpR (op_eqD hr.units) (pe_ix ix_tup (pe_ix ix_list (pv 0) (pe_un un_neg pe_int) (fun _ _ => rfl)) pe_int (fun _ _ => rfl)) (pe_ix ix_tup (pe_ix ix_list (pv 1) pe_int (fun _ _ => rfl)) pe_int (fun _ _ => rfl)) (nomark _))
        (pss_one (ps_ret (pe_op op_cat (pe_op op_cat (pe_slice sl_list (pv 0) po_none (po_some (pe_un un_neg pe_int)))
          (pe_lst (pa_cons (pe_tup (pa_cons (pe_ix ix_tup (pe_ix ix_list (pv 0) (pe_un un_neg pe_int) (fun _ _ => rfl)) pe_int (fun _ _ => rfl)) (pa_cons (pe_ix ix_tup (pe_ix ix_list (pv 1) pe_int (fun _ _ => rfl)) pe_int (fun _ _ => rfl)) (pa_cons (pe_ix ix_tup (pe_ix ix_list (pv 1) pe_int (fun _ _ => rfl)) pe_int (fun _ _ => rfl)) pa_nil)))) pa_nil)))
          (pe_slice sl_list (pv 1) (po_some pe_int) po_none)))) pss_nil)
      (pss_one (ps_ret (pe_op op_cat (pv 0) (pv 1)))), ?_⟩
    have D1' := D1
    rw [List.map_append] at D1
    have hu0 : us ≠ [] := fun z => by
      have := da_length D1
      rw [z] at this
      simp at this
    obtain ⟨ui, u0, rfl⟩ : ∃ ui u0, us = ui ++ [u0] := ⟨us.dropLast, us.getLast hu0, (List.dropLast_concat_getLast hu0).symm⟩
    obtain ⟨Di, Dr⟩ := da_unsnoc (d := runD r0) D1
    obtain ⟨w0, wi, rfl, Ds, Dsi⟩ := da_cons (d := runD s0) (ds := si.map runD) D2
    obtain ⟨ar, ur, rfl, tr, dr⟩ := run_inv Dr
    obtain ⟨as, us', rfl, ts, ds⟩ := run_inv Ds
    rw [List.length_append, List.length_singleton] at len1
    rw [List.length_cons] at len2
    refine ⟨_, rfl, _, rfl, l1, _, _, _, rfl, rfl, SqL.of h1, atI_last _ _, ar, _, _, _, rfl, rfl, tr, at2, _, rfl, l2, _, _, _, rfl, rfl, SqL.of h2, at0, as, _, _, _, rfl, rfl, ts, at2, decD r0.d, decD s0.d, dr, ds, shaped_dec ok1, shaped_dec ok2, _, rfl, ?_⟩
    rw [eqv_dec]
    by_cases hd : r0.d = s0.d
    · refine ifT hd ?_
      refine ⟨_, rfl, _, rfl, _, rfl, l1, _, rfl, SqL.of h1, fun a ha => ?_⟩
      have ec : cutV (ui ++ [V.ref ar]) none (some (-1)) = ui := cutV_init _ _
      rw [ec]
      have sa := same_new ha (.lst ui)
      have tr' := sqT_same sa tr
      have ts' := sqT_same sa ts
      refine ⟨_, rfl, _, rfl, l1, _, _, _, rfl, rfl, SqL.of (sa _ _ h1), atI_last _ _, ar, _, _, _, rfl, rfl, tr', at0, _, rfl, l2, _, _, _, rfl, rfl, SqL.of (sa _ _ h2), at0, as, _, _, _, rfl, rfl, ts', at1, _, rfl, l2, _, _, _, rfl, rfl, SqL.of (sa _ _ h2), at0, as, _, _, _, rfl, rfl, ts', at2, by show 3 ≤ sizeLine; decide, fun b hb => ⟨by show 1 ≤ sizeLine; decide, fun c hc => ?_⟩⟩
      have sb := same_new hb (.tup [.int r0.a, .int s0.b, .ref us'])
      have sc := same_new hc (.lst [.ref b])
      have sabc := (sa.trans sb).trans sc
      refine ⟨a, c, ui, _, rfl, rfl, sc _ _ (sb _ _ upd_same), upd_same, by rw [sizeLine_eq]; show ui.length + 1 ≤ _; omega, fun d hd4 => ?_⟩
      have sd := same_new hd4 (.lst (ui ++ [.ref b]))
      refine ⟨_, rfl, _, rfl, l2, _, rfl, SqL.of (sd _ _ (sabc _ _ h2)), fun e he => ?_⟩
      have ec2 : cutV (V.ref as :: wi) (some 1) none = wi := cutV_tail _ _
      rw [ec2]
      have se := same_new he (.lst wi)
      refine ⟨d, e, _, wi, rfl, rfl, se _ _ upd_same, upd_same, ?_, fun g hg => ?_⟩
      · rw [List.length_append, List.length_singleton, sizeLine_eq]
        omega
      have sg := same_new hg (.lst ((ui ++ [.ref b]) ++ wi))
      have sall := ((sabc.trans sd).trans se).trans sg
      refine q g _ _ sall upd_same ?_
      have ej : joinedM ri r0 s0 si = ri ++ [⟨r0.a, s0.b, s0.d⟩] ++ si := if_pos hd
      rw [ej, List.map_append, List.map_append]
      refine da_app (da_same sall Dsi) (da_app (.cons ?_ .nil) (da_same sall Di))
      refine dp_same (((sc.trans sd).trans se).trans sg) (dpT upd_same (.cons (.int _) (.cons (.int _) (.cons ?_ .nil))))
      exact dp_same (sa.trans sb) ds
    · refine ifF hd ?_
      refine ⟨_, rfl, _, rfl, l1, l2, _, _, rfl, rfl, h1, h2, ?_, fun g hg => ?_⟩
      · rw [List.length_append, List.length_singleton, List.length_cons, sizeLine_eq]
        omega
      have sg := same_new hg (.lst ((ui ++ [.ref ar]) ++ (.ref as :: wi)))
      refine q g _ _ sg upd_same ?_
      have ej : joinedM ri r0 s0 si = (ri ++ [r0]) ++ (s0 :: si) := if_neg hd
      rw [ej, List.map_append]
      exact da_app (da_same sg D2) (da_same sg D1')
end
end K14

set_option Elab.async false
set_option maxRecDepth 100000
set_option maxHeartbeats 4000000
/-! the law's world -/
namespace K14
open PySem PySem.Spec PyProof.Rows L2
open C8 (Cal Met Mak pe_c pe_mk pe_mt pe_mt0 pss_cut)
section
variable {P : Program} {w : World} {K : PySem.W.Frag} {mg : Str → Option Value} {base : Heap}
def spWorld (K : PySem.W.Frag) : Sp := fun vs H Q _ => ∃ (sa : Addr) (pi m : Int), vs = [.ref sa, .int pi, .int m] ∧ 0 ≤ pi ∧ ScrAt K H sa ∧ 0 ≤ m ∧ m ≤ 50 ∧
  ∀ t nh el ql pl fl rl ps fs rs xs es H', Same H H' → SqT K H' t [.ref nh, .ref el, .ref ql] → NamesW K H' nh pl fl rl ps fs rs → H' el = some (.lst xs) → DpAll K H' xs (es.map entD) → BookOk es → (es.length : Int) ≤ m → Q (.ref t) H'
theorem scWorld : FnScope ["_law_script", "_law_place", "_law_most", "_law_shape", "_law_names_here", "_law_came", "_law_entries", "_law_parts", "_law_k", "_law_draws", "_law_entry_here", "_law_part"] ["_law_script", "_law_place", "_law_most"] (defScope (top 73)) := ⟨rfl, rfl, rfl, by decide +kernel, rfl, by decide +kernel, by decide +kernel⟩
theorem c_world (G : Gf K mg "_law_world" (top 73) ["_law_script", "_law_place", "_law_most"]) (T : Tx K mg) (cR : Cal P w K mg base 1 "_law_row" (spRow K) []) (cN : Cal P w K mg base 4 "_law_names_of" (spNamesOf K) []) (cX : Cal P w K mg base 1 "_law_next" spNext [])
    (cE : Cal P w K mg base 8 "_law_entry" (spEntryD K) []) : Cal P w K mg base 9 "_law_world" (spWorld K) [] := by
  refine G.cal scWorld (fun vs H Q E h => ?_) (fun f cdv A outer s H vs Q E hr h => ?_)
  · obtain ⟨sa, pi, m, rfl, _⟩ := h
    rfl
  · obtain ⟨sa, pi, m, rfl, hpi, hs, hm0, hm1, q⟩ := h
    refine ⟨_, pss_cons (ps_set (i := 3) scWorld.nd rfl (.inl rfl) (pe_c cR hr (by decide) (by rfl) (pa_cons (pv 0) (pa_cons (pv 1) (pa_cons pe_int pa_nil)))))
      (pss_cons (ps_set (i := 4) scWorld.nd rfl (.inl rfl) (pe_c cN hr (by decide) (by rfl) (pa_cons (pv 0) (pa_cons (pe_op op_add (pv 1) pe_int) (pa_cons (pe_op op_mod (pe_callTy call_int1 (by rfl) T.int (by decide +kernel) (pa_cons (pe_ix ix_list (pv 3) pe_int (fun _ _ => rfl)) pa_nil)) pe_int) pa_nil)))))
      (pss_cons (ps_set (i := 5) scWorld.nd rfl (.inl rfl) (pe_op op_mod (pe_callTy call_int1 (by rfl) T.int (by decide +kernel) (pa_cons (pe_ix ix_list (pv 3) pe_int (fun _ _ => rfl)) pa_nil)) pe_int))
      (pss_cons (ps_set (i := 6) scWorld.nd rfl (.inl rfl) (pe_lst pa_nil))
      (pss_cons (ps_set (i := 7) scWorld.nd rfl (.inl rfl) (pe_lst pa_nil))
      (pss_cons (ps_for PassesOwn.never rfl (pi_range1 (by rfl) T.range (pa_cons (pe_op op_mod (pe_callTy call_int1 (by rfl) T.int (by decide +kernel) (pa_cons (pe_ix ix_list (pv 3) pe_int (fun _ _ => rfl)) pa_nil)) (pe_op op_add (pv 2) pe_int)) pa_nil)) (pg_name (i := 8) scWorld.nd rfl (.inl rfl))
        (pss_cons (ps_set (i := 9) scWorld.nd rfl (.inl rfl) (pe_c cR hr (by decide) (by rfl) (pa_cons (pv 0) (pa_cons (pe_op op_add (pe_op op_add (pv 1) pe_int) (pv 8)) (pa_cons pe_int pa_nil)))))
        (pss_cons (ps_set (i := 5) scWorld.nd rfl (.inl rfl) (pe_op op_add (pv 5) (pe_ix ix_list (pe_lst (pa_cons pe_int (pa_cons pe_int (pa_cons pe_int (pa_cons pe_int pa_nil))))) (pe_c cX hr (by decide) (by rfl) (pa_cons (pv 9) (pa_cons pe_int pa_nil))) (fun _ _ => rfl))))
        (pss_cons (ps_asg (pe_c cE hr (by decide) (by rfl) (pa_cons (pv 9) (pa_cons (pv 6) (pa_cons (pv 5) (pa_cons (pv 4) pa_nil))))) (pg_tup rfl (pgs_cons (pg_name (i := 10) scWorld.nd rfl (.inl rfl)) (pgs_cons (pg_name (i := 11) scWorld.nd rfl (.inl rfl)) pgs_nil))))
        (pss_cons (ps_expr (pe_bm PySem.F.plainAttrs_list PySem.F.slot_list_append PySem.F.type_list_append mt_append (pv 6) (pa_cons (pv 10) pa_nil)))
        (pss_one (ps_expr (pe_bm PySem.F.plainAttrs_list PySem.F.slot_list_append PySem.F.type_list_append mt_append (pv 7) (pa_cons (pv 11) pa_nil)))))))))
      (pss_one (ps_ret (pe_tup (pa_cons (pv 4) (pa_cons (pv 6) (pa_cons (pv 7) pa_nil))))))))))), ?_⟩
    obtain ⟨sc, hs1, hs2⟩ := hs
    refine ⟨_, rfl, _, rfl, sa, sc, pi, 4, rfl, hpi, hs1, hs2, by decide, fun row ns H1 nrow s1 hrow hok => ?_⟩
    obtain ⟨x0, a0, l0, u0⟩ := row_at hok (j := 0) (by decide)
    obtain ⟨x1, a1, l1, u1⟩ := row_at hok (j := 1) (by decide)
    obtain ⟨x2, a2, l2, u2⟩ := row_at hok (j := 2) (by decide)
    have hsc : ScrAt K H1 sa := ⟨sc, s1.seq hs1, hs2⟩
    refine ⟨_, rfl, _, rfl, _, _, rfl, rfl, _, rfl, row, _, _, _, rfl, rfl, SqL.of hrow, a1, .inl ⟨_, rfl, _, _, rfl, rfl, p2, sa, _, _, rfl, by omega, hsc, by omega, by omega, fun nh pl fl rl ps fs rs H2 s2 hN => ?_⟩⟩
    have hrow2 := s2 _ _ hrow
    refine ⟨_, rfl, row, _, _, _, rfl, rfl, SqL.of hrow2, a2, .inl ⟨_, rfl, _, _, rfl, rfl, by show (0 : Int) < 4; decide, ?_⟩⟩
    refine ⟨Nat.zero_le _, fun el hel => ⟨Nat.zero_le _, fun ql hql => ?_⟩⟩
    have nql : ql ≠ el := fun z => by
      rw [z, upd_same] at hql
      cases hql
    have nrow1 : row ≠ el := ne_of_none hrow2 hel
    have hrow3 : upd H2 el (.lst []) row = some (.lst (ns.map V.int)) := by rw [upd_ne nrow1]; exact hrow2
    have nrow2 : row ≠ ql := ne_of_none hrow3 hql
    have hrow4 : upd (upd H2 el (.lst [])) ql (.lst []) row = some (.lst (ns.map V.int)) := by rw [upd_ne nrow2]; exact hrow3
    have hql2 : H2 ql = none := by rw [upd_ne nql] at hql; exact hql
    have sN : Same H2 (upd (upd H2 el (.lst [])) ql (.lst [])) := (same_new hel _).trans (same_new hql _)
    have hsc2 := hsc.same s2
    refine ⟨_, rfl, row, _, _, _, rfl, rfl, SqL.of hrow4, a0, .inl ⟨_, rfl, _, rfl, _, _, rfl, rfl, _, _, rfl, rfl, by show (0 : Int) < m + 1; omega, ?_⟩⟩
    have b0 : 0 ≤ x0 % (m + 1) := Int.emod_nonneg _ (by omega)
    have b1 : x0 % (m + 1) < m + 1 := Int.emod_lt_of_pos _ (by omega)
    refine ⟨_, rfl, by omega, by omega, for_it walk_range (fun i σ H' => ∃ (came : Int) (v8 v9 v10 v11 : Option V) (xs ys : List V) (es : List Ent), σ = [some (.ref sa), some (.int pi), some (.int m), some (.ref row), some (.ref nh), some (.int came), some (.ref el), some (.ref ql), v8, v9, v10, v11] ∧
        Same H2 H' ∧ H' el = some (.lst xs) ∧ H' ql = some (.lst ys) ∧ ys.length = i ∧ DpAll K H' xs (es.map entD) ∧ BookOk es ∧ es.length = i ∧ (0 ≤ came ∧ came ≤ 3 + 2 * (i : Int)) ∧ (∀ d, es.getLast? = some d → d.came ≤ came))
      ⟨_, none, none, none, none, [], [], [], rfl, sN, by rw [upd_ne nql.symm]; exact upd_same, upd_same, rfl, .nil, .nil, rfl, ⟨by omega, by omega⟩, fun d hd => by cases hd⟩ (fun _ _ _ _ _ => trivial) ?_ ?_⟩
    · rintro i y σ H3 H4 hi ⟨came, v8, v9, v10, v11, xs, ys, es, rfl, s3, hx, hy, hyl, hD, hB, hel3, ⟨hc0, hc1⟩, hlast⟩ ⟨rfl, rfl⟩
      have hi' : (i : Int) < m + 1 := by omega
      obtain ⟨sc4, g1, g2⟩ := hsc2.same s3
      refine ⟨_, rfl, _, rfl, _, _, rfl, rfl, _, rfl, _, _, rfl, rfl, sa, sc4, _, 90, rfl, by omega, g1, g2, by decide, fun dr nd H5 hdr0 s5 hdr hdok => ?_⟩
      have d5 : DrawsAt H5 dr := ⟨nd, hdr⟩
      have nel : el ≠ dr := ne_of_none hx hdr0
      have nqd : ql ≠ dr := ne_of_none hy hdr0
      refine ⟨_, rfl, by show 4 ≤ sizeLine; decide, fun b hb => ?_⟩
      have sb := same_new hb (.lst [.int 0, .int 0, .int 1, .int 2])
      have nbd : b ≠ dr := fun e => by
        rw [e, hdr] at hb
        cases hb
      refine ⟨_, rfl, dr, 4, rfl, d5.same sb, by decide, fun z H6 s6 d6 l6 u6 => ?_⟩
      obtain ⟨o, h0, h1, ho⟩ : ∃ o : Int, 0 ≤ o ∧ o ≤ 2 ∧ atI [V.int 0, V.int 0, V.int 1, V.int 2] z = some (.int o) := by
        have h : z = 0 ∨ z = 1 ∨ z = 2 ∨ z = 3 := by omega
        rcases h with rfl | rfl | rfl | rfl
        · exact ⟨0, by decide, by decide, rfl⟩
        · exact ⟨0, by decide, by decide, rfl⟩
        · exact ⟨1, by decide, by decide, rfl⟩
        · exact ⟨2, by decide, by decide, rfl⟩
      refine ⟨b, _, _, _, rfl, rfl, SqL.of (s6 _ _ nbd upd_same), ho, _, _, rfl, rfl, ?_⟩
      have s5b := s5.trans sb
      have hdrb := sb _ _ hdr
      have hx6 := s6 _ _ nel (s5b _ _ hx)
      have hy6 := s6 _ _ nqd (s5b _ _ hy)
      have hD6 : DpAll K H6 xs (es.map entD) := s6.da_lst hdrb (ents_tup es) (da_same s5b hD)
      have hN6 : NamesW K H6 nh pl fl rl ps fs rs := ((hN.same s3).same s5b).keep (d5.same sb) s6
      refine ⟨_, rfl, _, rfl, _, rfl, _, rfl, dr, el, nh, pl, fl, rl, ps, fs, rs, xs, es, came + o, rfl, d6, hx6, hD6, by omega, nel, hN6, ⟨by omega, by omega⟩, fun d hd => by have := hlast d hd; omega, fun a u y2 e H7 s7 ha hu hF hcame => ?_⟩
      refine ⟨a, _, rfl, ha, rfl, _, _, rfl, _, _, rfl, rfl, ?_⟩
      obtain ⟨nd6, hd6⟩ := d6
      have hx7 := s7 _ _ nel hx6
      have hy7 := s7 _ _ nqd hy6
      have hD7 : DpAll K H7 xs (es.map entD) := s7.da_lst hd6 (ents_tup es) hD6
      have exs : xs.length = es.length := by rw [da_length hD, List.length_map]
      refine ⟨_, rfl, .inl ⟨rfl, _, SqL.of hx7⟩, _, rfl, el, _, _, rfl, rfl, hx7, by rw [exs, sizeLine_eq]; omega, ?_⟩
      have hy8 : upd H7 el (.lst (xs ++ [u])) ql = some (.lst ys) := by rw [upd_ne nql]; exact hy7
      refine ⟨_, rfl, .inl ⟨rfl, _, SqL.of hy8⟩, _, rfl, ql, _, _, rfl, rfl, hy8, by rw [hyl, sizeLine_eq]; omega, ?_⟩
      refine ⟨_, _, _, _, _, xs ++ [u], ys ++ [y2], es ++ [e], rfl, fun c oo hc => ?_, ?_, upd_same, ?_, ?_, .snoc hB hF, ?_, ⟨by omega, by omega⟩, fun d hd => ?_⟩
      · have c1 : c ≠ el := ne_of_none hc hel
        have c2 : c ≠ ql := ne_of_none hc hql2
        have c3 : c ≠ dr := ne_of_none (s3 _ _ hc) hdr0
        rw [upd_ne c2, upd_ne c1]
        exact s7 _ _ c3 (s6 _ _ c3 (s5b _ _ (s3 _ _ hc)))
      · rw [upd_ne nql.symm]
        exact upd_same
      · rw [List.length_append, hyl]
        rfl
      · rw [List.map_append]
        refine (sameX_upd ql _ _).da_lst hy8 (by
          have := ents_tup (es ++ [e])
          rw [List.map_append] at this
          exact this) ((sameX_upd el _ _).da_lst hx7 (by
          have := ents_tup (es ++ [e])
          rw [List.map_append] at this
          exact this) (da_snoc hu hD7))
      · rw [List.length_append, hel3]
        rfl
      · rw [List.getLast?_concat] at hd
        have := Option.some.inj hd
        subst this
        exact Int.le_of_eq hcame
    · rintro σ H3 ⟨came, v8, v9, v10, v11, xs, ys, es, rfl, s3, hx, hy, hyl, hD, hB, hel3, hc, hlast⟩
      refine ⟨_, rfl, _, rfl, _, rfl, by show 3 ≤ sizeLine; decide, fun t ht => ?_⟩
      have st := same_new ht (.tup [.ref nh, .ref el, .ref ql])
      refine q t nh el ql pl fl rl ps fs rs xs es _ (((s1.trans s2).trans s3).trans st) (SqT.of upd_same) ((hN.same s3).same st) (st _ _ hx) (da_same st hD) hB (by rw [hel3]; omega)
end
end K14

set_option Elab.async false
set_option maxRecDepth 100000
set_option maxHeartbeats 4000000
/-! the plain law: courses and totals of parts -/
namespace K14
open PySem L2
/-! ### sorted lists -/
theorem sorted_uniq : ∀ {l m : List Int}, l.Pairwise (· < ·) → m.Pairwise (· < ·) → (∀ d, d ∈ l ↔ d ∈ m) → l = m
  | [], [], _, _, _ => rfl
  | [], y :: m, _, _, h => absurd ((h y).mpr (List.mem_cons_self ..)) (by simp)
  | x :: l, [], _, _, h => absurd ((h x).mp (List.mem_cons_self ..)) (by simp)
  | x :: l, y :: m, hl, hm, h => by
    obtain ⟨hx, hl'⟩ := List.pairwise_cons.mp hl
    obtain ⟨hy, hm'⟩ := List.pairwise_cons.mp hm
    have e : x = y := by
      rcases List.mem_cons.mp ((h x).mp (List.mem_cons_self ..)) with e | h1
      · exact e
      · rcases List.mem_cons.mp ((h y).mpr (List.mem_cons_self ..)) with e | h2
        · exact e.symm
        · have a := hy x h1
          have b := hx y h2
          omega
    subst e
    congr 1
    refine sorted_uniq hl' hm' fun d => ⟨fun hd => ?_, fun hd => ?_⟩
    · rcases List.mem_cons.mp ((h d).mp (List.mem_cons_of_mem _ hd)) with e | h1
      · have := hx d hd
        omega
      · exact h1
    · rcases List.mem_cons.mp ((h d).mpr (List.mem_cons_of_mem _ hd)) with e | h1
      · have := hy d hd
        omega
      · exact h1
theorem last_is {l : List Int} {m : Int} (h : l.Pairwise (· < ·)) (hm : m ∈ l) (hle : ∀ d ∈ l, d ≤ m) : ∃ i, l = i ++ [m] := by
  have hn : l ≠ [] := fun z => by rw [z] at hm; cases hm
  refine ⟨l.dropLast, ?_⟩
  have e := List.dropLast_concat_getLast hn
  rw [← e] at h hm
  rw [List.pairwise_append] at h
  have hl := hle _ (List.getLast_mem hn)
  rcases List.mem_append.mp hm with h1 | h1
  · have := h.2.2 m h1 _ (List.mem_singleton_self _)
    omega
  · have e2 := List.mem_singleton.mp h1
    rw [e2]
    exact e.symm
theorem first_is {l : List Int} {m : Int} (h : l.Pairwise (· < ·)) (hm : m ∈ l) (hle : ∀ d ∈ l, m ≤ d) : ∃ t, l = m :: t := by
  cases l with
  | nil => cases hm
  | cons x t =>
    have hx := hle x (List.mem_cons_self ..)
    rcases List.mem_cons.mp hm with e | h1
    · exact ⟨t, by rw [e]⟩
    · have := (List.pairwise_cons.mp h).1 m h1
      omega
/-! ### segments -/
def segsOf (dec : Int → Dec) : List Int → List Run
  | p :: q :: r => ⟨p, q, dec p⟩ :: segsOf dec (q :: r)
  | _ => []
theorem segs_app (dec : Int → Dec) (m : Int) (b : List Int) : ∀ a : List Int, segsOf dec (a ++ m :: b) = segsOf dec (a ++ [m]) ++ segsOf dec (m :: b)
  | [] => rfl
  | [x] => rfl
  | x :: y :: r => by
    show ⟨x, y, dec x⟩ :: segsOf dec (y :: r ++ m :: b) = (⟨x, y, dec x⟩ :: segsOf dec (y :: r ++ [m])) ++ _
    rw [segs_app dec m b (y :: r)]
    rfl
theorem segs_len (dec : Int → Dec) : ∀ ns : List Int, (segsOf dec ns).length = ns.length - 1
  | [] => rfl
  | [_] => rfl
  | x :: y :: r => by
    show (segsOf dec (y :: r)).length + 1 = _
    rw [segs_len dec (y :: r)]
    rfl
theorem segs_get (dec : Int → Dec) : ∀ (ns : List Int) (k : Nat), k + 1 < ns.length → (segsOf dec ns)[k]? = some ⟨ns.getD k 0, ns.getD (k + 1) 0, dec (ns.getD k 0)⟩
  | [], k, h => absurd h (by simp)
  | [_], k, h => absurd h (by simp)
  | x :: y :: r, 0, _ => rfl
  | x :: y :: r, k + 1, h => by
    have := segs_get dec (y :: r) k (by simpa using h)
    exact this
theorem courseM_segs (dec : Int → Dec) (ns : List Int) : ∀ k, k ≤ ns.length - 1 → courseM dec ns k = ((segsOf dec ns).take k).foldl push []
  | 0, _ => rfl
  | k + 1, h => by
    rw [List.take_add_one, segs_get dec ns k (by omega), List.foldl_append, ← courseM_segs dec ns k (by omega)]
    rfl
theorem courseOf_segs (dec : Int → Dec) (ns : List Int) : courseOf dec ns = (segsOf dec ns).foldl push [] := by
  unfold courseOf
  rw [courseM_segs dec ns _ (Nat.le_refl _), ← segs_len dec ns, List.take_length]
/-! ### runs pushed -/
theorem push_last (A : List Run) (l x : Run) : push (A ++ [l]) x = A ++ push [l] x := by
  unfold push
  rw [List.getLast?_concat]
  show (if l.d = x.d then (A ++ [l]).dropLast ++ [⟨l.a, x.b, x.d⟩] else A ++ [l] ++ [x]) = A ++ (if l.d = x.d then [⟨l.a, x.b, x.d⟩] else [l] ++ [x])
  rw [List.dropLast_concat]
  by_cases h : l.d = x.d
  · rw [if_pos h, if_pos h]
  · rw [if_neg h, if_neg h, List.append_assoc]
theorem push_one (l x : Run) : push [l] x = if l.d = x.d then [⟨l.a, x.b, x.d⟩] else [l, x] := rfl
theorem push_push (R : List Run) (p m q : Int) (d : Dec) : push (push R ⟨p, m, d⟩) ⟨m, q, d⟩ = push R ⟨p, q, d⟩ := by
  by_cases h : R = []
  · subst h
    show push [⟨p, m, d⟩] ⟨m, q, d⟩ = [⟨p, q, d⟩]
    rw [push_one, if_pos rfl]
  · obtain ⟨A, l, rfl⟩ : ∃ A l, R = A ++ [l] := ⟨R.dropLast, R.getLast h, (List.dropLast_concat_getLast h).symm⟩
    rw [push_last, push_last, push_one, push_one]
    by_cases hd : l.d = d
    · rw [if_pos hd, if_pos hd, push_last, push_one, if_pos rfl]
    · rw [if_neg hd, if_neg hd]
      have e : A ++ [l, (⟨p, m, d⟩ : Run)] = (A ++ [l]) ++ [⟨p, m, d⟩] := by simp
      rw [e, push_last, push_one, if_pos rfl]
      simp
theorem joined_app (ri : List Run) (r0 s0 : Run) (si : List Run) : joinedM ri r0 s0 si = joinedM ri r0 s0 [] ++ si := by
  unfold joinedM
  by_cases h : r0.d = s0.d
  · rw [if_pos h, if_pos h]
    simp
  · rw [if_neg h, if_neg h]
    simp
/-- pushing on behind a course is joining with the other part's course -/
theorem fold_joined (ri : List Run) (r0 : Run) (n : Nat) : ∀ S : List Run, S.length = n + 1 → ∃ s0 si, S.foldl push [] = s0 :: si ∧ S.foldl push (ri ++ [r0]) = joinedM ri r0 s0 si := by
  induction n with
  | zero =>
    intro S hS
    obtain ⟨s, rfl⟩ : ∃ s, S = [s] := by
      cases S with
      | nil => simp at hS
      | cons s r =>
        cases r with
        | nil => exact ⟨s, rfl⟩
        | cons a b => simp at hS
    refine ⟨s, [], rfl, ?_⟩
    show push (ri ++ [r0]) s = _
    rw [push_last, push_one]
    unfold joinedM
    by_cases h : r0.d = s.d
    · rw [if_pos h, if_pos h]
      simp
    · rw [if_neg h, if_neg h]
      simp
  | succ n ih =>
    intro S hS
    have hn : S ≠ [] := fun z => by rw [z] at hS; simp at hS
    obtain ⟨A, x, rfl⟩ : ∃ A x, S = A ++ [x] := ⟨S.dropLast, S.getLast hn, (List.dropLast_concat_getLast hn).symm⟩
    rw [List.length_append, List.length_singleton] at hS
    obtain ⟨s0, si, e1, e2⟩ := ih A (by omega)
    rw [List.foldl_append, List.foldl_append, e1, e2]
    show ∃ t0 ti, push (s0 :: si) x = t0 :: ti ∧ push (joinedM ri r0 s0 si) x = joinedM ri r0 t0 ti
    by_cases hsi : si = []
    · subst hsi
      show ∃ t0 ti, push [s0] x = t0 :: ti ∧ push (joinedM ri r0 s0 []) x = joinedM ri r0 t0 ti
      rw [push_one]
      by_cases h1 : s0.d = x.d
      · refine ⟨⟨s0.a, x.b, x.d⟩, [], if_pos h1, ?_⟩
        unfold joinedM
        by_cases h2 : r0.d = s0.d
        · rw [if_pos h2, if_pos (h2.trans h1)]
          simp only [List.append_nil]
          rw [push_last, push_one, if_pos h1]
        · rw [if_neg h2, if_neg (fun z => h2 (z.trans h1.symm)), push_last, push_one, if_pos h1]
      · refine ⟨s0, [x], if_neg h1, ?_⟩
        unfold joinedM
        by_cases h2 : r0.d = s0.d
        · rw [if_pos h2, if_pos h2]
          simp only [List.append_nil]
          rw [push_last, push_one, if_neg h1]
          simp
        · rw [if_neg h2, if_neg h2, push_last, push_one, if_neg h1]
    · obtain ⟨B, l, rfl⟩ : ∃ B l, si = B ++ [l] := ⟨si.dropLast, si.getLast hsi, (List.dropLast_concat_getLast hsi).symm⟩
      refine ⟨s0, B ++ push [l] x, ?_, ?_⟩
      · have e : s0 :: (B ++ [l]) = (s0 :: B) ++ [l] := rfl
        rw [e, push_last]
        rfl
      · rw [joined_app, joined_app ri r0 s0 (B ++ push [l] x), ← List.append_assoc, push_last, List.append_assoc]
/-! ### totals -/
theorem totM_app (B : List Run) : ∀ (A : List Run) (acc : Int), totM (A ++ B) acc = (match totM A acc with
    | .total n => totM B n
    | .stopped a d => .stopped a d)
  | [], acc => rfl
  | r :: A, acc => by
    obtain ⟨ra, rb, rd⟩ := r
    cases rd with
    | amount n => exact totM_app B A _
    | stop k x => rfl
theorem totM_shift : ∀ (B : List Run) (acc x : Int), totM B (acc + x) = (match totM B x with
    | .total n => .total (acc + n)
    | .stopped a d => .stopped a d)
  | [], acc, x => rfl
  | r :: B, acc, x => by
    obtain ⟨ra, rb, rd⟩ := r
    cases rd with
    | amount n =>
      show totM B (acc + x + n * (rb - ra)) = (match totM B (x + n * (rb - ra)) with
        | .total n => .total (acc + n)
        | .stopped a d => .stopped a d)
      rw [Int.add_assoc]
      exact totM_shift B acc _
    | stop k y => rfl
theorem totM_push (R T : List Run) (x : Run) (acc : Int) (h : ∀ l, R.getLast? = some l → l.b = x.a) : totM (push R x ++ T) acc = totM (R ++ x :: T) acc := by
  by_cases hR : R = []
  · subst hR
    rfl
  · obtain ⟨A, l, rfl⟩ : ∃ A l, R = A ++ [l] := ⟨R.dropLast, R.getLast hR, (List.dropLast_concat_getLast hR).symm⟩
    have hl : l.b = x.a := h l (List.getLast?_concat ..)
    rw [push_last, push_one, List.append_assoc, List.append_assoc, totM_app, totM_app _ A]
    cases totM A acc with
    | stopped a d => rfl
    | total n =>
      by_cases hd : l.d = x.d
      · rw [if_pos hd]
        obtain ⟨la, lb, ld⟩ := l
        obtain ⟨xa, xb, xd⟩ := x
        have hd' : ld = xd := hd
        have hl' : lb = xa := hl
        subst hd'
        subst hl'
        cases ld with
        | amount k =>
          show totM T (n + k * (xb - la)) = totM T (n + k * (lb - la) + k * (xb - lb))
          congr 1
          have e : xb - la = (lb - la) + (xb - lb) := by omega
          rw [e, Int.mul_add]
          omega
        | stop k y => rfl
      · rw [if_neg hd]
        rfl
def Ch : Int → List Run → Prop
  | _, [] => True
  | p, s :: r => s.a = p ∧ Ch s.b r
theorem push_end (R : List Run) (x : Run) : ∀ l, (push R x).getLast? = some l → l.b = x.b := by
  intro l h
  by_cases hR : R = []
  · subst hR
    have e : some x = some l := h
    rw [Option.some.inj e]
  · obtain ⟨A, r, rfl⟩ : ∃ A r, R = A ++ [r] := ⟨R.dropLast, R.getLast hR, (List.dropLast_concat_getLast hR).symm⟩
    rw [push_last, push_one] at h
    by_cases hd : r.d = x.d
    · rw [if_pos hd, List.getLast?_concat] at h
      rw [← Option.some.inj h]
    · rw [if_neg hd] at h
      have e : A ++ [r, x] = (A ++ [r]) ++ [x] := by simp
      rw [e, List.getLast?_concat] at h
      rw [Option.some.inj h]
theorem totM_fold : ∀ (S R : List Run) (p acc : Int), (∀ l, R.getLast? = some l → l.b = p) → Ch p S → totM (S.foldl push R) acc = totM (R ++ S) acc
  | [], R, p, acc, _, _ => by
    rw [List.append_nil]
    rfl
  | s :: S, R, p, acc, h, hc => by
    obtain ⟨h1, h2⟩ := hc
    show totM (S.foldl push (push R s)) acc = _
    rw [totM_fold S (push R s) s.b acc (push_end R s) h2]
    exact totM_push R S s acc fun l hl => by rw [h l hl, h1]
theorem segs_ch (dec : Int → Dec) : ∀ (p : Int) (r : List Int), Ch p (segsOf dec (p :: r))
  | _, [] => trivial
  | p, q :: r => ⟨rfl, segs_ch dec q r⟩
theorem totM_course (dec : Int → Dec) (ns : List Int) : totM (courseOf dec ns) 0 = totM (segsOf dec ns) 0 := by
  rw [courseOf_segs]
  cases ns with
  | nil => rfl
  | cons p r =>
    have := totM_fold (segsOf dec (p :: r)) [] p 0 (fun l hl => by cases hl) (segs_ch dec p r)
    exact this
/-! ### the parts -/
/-- what is due of two parts -/
def dueM : Tot → Tot → Tot
  | .total a, .total b => .total (a + b)
  | .total _, t => t
  | t, _ => t
theorem holds_same {es : List Ent} {p m : Int} (hpm : p ≤ m) (h : ∀ z ∈ pts es, ¬ (p < z ∧ z ≤ m)) : ∀ e ∈ es, e.isStrike = false → holdsM e p = holdsM e m := by
  intro e he hs
  have key : ∀ z, z ∈ pt1 e → ¬ (p < z ∧ z ≤ m) := fun z hz => h z (List.mem_flatMap.mpr ⟨e, he, hz⟩)
  have gen : ∀ f t : Int, ¬ (p < f ∧ f ≤ m) → ¬ (p < t ∧ t ≤ m) → (decide (f ≤ p) && decide (p < t)) = (decide (f ≤ m) && decide (m < t)) := by
    intro f t h1 h2
    have e1 : decide (f ≤ p) = decide (f ≤ m) := by
      by_cases a : f ≤ p
      · rw [decide_eq_true a, decide_eq_true (by omega : f ≤ m)]
      · rw [decide_eq_false a, decide_eq_false (by omega : ¬ f ≤ m)]
    have e2 : decide (p < t) = decide (m < t) := by
      by_cases a : m < t
      · rw [decide_eq_true a, decide_eq_true (by omega : p < t)]
      · rw [decide_eq_false a, decide_eq_false (by omega : ¬ p < t)]
    rw [e1, e2]
  cases e with
  | strike c i => cases hs
  | report c ps fc v f t => exact gen f t (key f (by simp [pt1, Ent.span])) (key t (by simp [pt1, Ent.span]))
  | enact c r q f t => exact gen f t (key f (by simp [pt1, Ent.span])) (key t (by simp [pt1, Ent.span]))
/-- the whole's segments, pushed, are those of the parts -/
theorem whole_fold {es : List Ent} {ps x : Str} {known f m c : Int} {nsA nsB nsW : List Int} (hfm : f < m) (hmc : m < c) (hA : EdgesOf es f m nsA) (hB : EdgesOf es m c nsB) (hW : EdgesOf es f c nsW) :
    ∃ (a b : List Int), nsA = a ++ [m] ∧ nsB = m :: b ∧ a ≠ [] ∧ b ≠ [] ∧ (segsOf (decOn es ps x known) nsW).foldl push [] = (segsOf (decOn es ps x known) (a ++ m :: b)).foldl push [] := by
  obtain ⟨a, rfl⟩ := last_is hA.up ((hA.mem m).mpr (.inr (.inl rfl))) fun d hd => by
    have := (hA.mem d).mp hd
    omega
  obtain ⟨b, rfl⟩ := first_is hB.up ((hB.mem m).mpr (.inl rfl)) fun d hd => by
    have := (hB.mem d).mp hd
    omega
  have upA := List.pairwise_append.mp hA.up
  have upB := List.pairwise_cons.mp hB.up
  have ltA : ∀ d ∈ a, d < m := fun d hd => upA.2.2 d hd m (List.mem_singleton_self _)
  have ltB : ∀ d ∈ b, m < d := upB.1
  have inA : ∀ d, d ∈ a ↔ (d = f ∨ (f < d ∧ d < m ∧ d ∈ pts es)) := fun d => by
    have h := hA.mem d
    rw [List.mem_append, List.mem_singleton] at h
    constructor
    · intro hd
      have := ltA d hd
      rcases h.mp (.inl hd) with h1 | h1 | h1
      · exact .inl h1
      · omega
      · exact .inr h1
    · rintro (h1 | h1)
      · rcases h.mpr (.inl h1) with h2 | h2
        · exact h2
        · omega
      · rcases h.mpr (.inr (.inr h1)) with h2 | h2
        · exact h2
        · omega
  have inB : ∀ d, d ∈ b ↔ (d = c ∨ (m < d ∧ d < c ∧ d ∈ pts es)) := fun d => by
    have h := hB.mem d
    rw [List.mem_cons] at h
    constructor
    · intro hd
      have := ltB d hd
      rcases h.mp (.inr hd) with h1 | h1 | h1
      · omega
      · exact .inl h1
      · exact .inr h1
    · rintro (h1 | h1)
      · rcases h.mpr (.inr (.inl h1)) with h2 | h2
        · omega
        · exact h2
      · rcases h.mpr (.inr (.inr h1)) with h2 | h2
        · omega
        · exact h2
  have hane : a ≠ [] := fun z => by
    have := (inA f).mpr (.inl rfl)
    rw [z] at this
    cases this
  have hbne : b ≠ [] := fun z => by
    have := (inB c).mpr (.inl rfl)
    rw [z] at this
    cases this
  refine ⟨a, b, rfl, rfl, hane, hbne, ?_⟩
  by_cases hm : m ∈ pts es
  · have e : nsW = a ++ m :: b := by
      refine sorted_uniq hW.up ?_ fun d => ?_
      · rw [List.pairwise_append]
        refine ⟨upA.1, hB.up, fun y hy z hz => ?_⟩
        have h1 := ltA y hy
        rcases List.mem_cons.mp hz with h2 | h2
        · omega
        · have := ltB z h2
          omega
      · rw [hW.mem, List.mem_append, List.mem_cons, inA, inB]
        constructor
        · rintro (h | h | ⟨h1, h2, h3⟩)
          · exact .inl (.inl h)
          · exact .inr (.inr (.inl h))
          · by_cases h4 : d < m
            · exact .inl (.inr ⟨h1, h4, h3⟩)
            · by_cases h5 : d = m
              · exact .inr (.inl h5)
              · exact .inr (.inr (.inr ⟨by omega, h2, h3⟩))
        · rintro ((h | ⟨h1, h2, h3⟩) | h | h | ⟨h1, h2, h3⟩)
          · exact .inl h
          · exact .inr (.inr ⟨h1, by omega, h3⟩)
          · exact .inr (.inr ⟨by omega, by omega, by rw [h]; exact hm⟩)
          · exact .inr (.inl h)
          · exact .inr (.inr ⟨by omega, h2, h3⟩)
    rw [e]
  · have e : nsW = a ++ b := by
      refine sorted_uniq hW.up ?_ fun d => ?_
      · rw [List.pairwise_append]
        refine ⟨upA.1, upB.2, fun y hy z hz => ?_⟩
        have h1 := ltA y hy
        have := ltB z hz
        omega
      · rw [hW.mem, List.mem_append, inA, inB]
        constructor
        · rintro (h | h | ⟨h1, h2, h3⟩)
          · exact .inl (.inl h)
          · exact .inr (.inl h)
          · by_cases h4 : d < m
            · exact .inl (.inr ⟨h1, h4, h3⟩)
            · by_cases h5 : d = m
              · exact absurd (by rw [← h5]; exact h3) hm
              · exact .inr (.inr ⟨by omega, h2, h3⟩)
        · rintro ((h | ⟨h1, h2, h3⟩) | h | ⟨h1, h2, h3⟩)
          · exact .inl h
          · exact .inr (.inr ⟨h1, by omega, h3⟩)
          · exact .inr (.inl h)
          · exact .inr (.inr ⟨by omega, h2, h3⟩)
    rw [e]
    obtain ⟨a', p, rfl⟩ : ∃ a' p, a = a' ++ [p] := ⟨a.dropLast, a.getLast hane, (List.dropLast_concat_getLast hane).symm⟩
    obtain ⟨q, b', rfl⟩ : ∃ q b', b = q :: b' := by
      cases b with
      | nil => exact absurd rfl hbne
      | cons q b' => exact ⟨q, b', rfl⟩
    have hpm := ltA p (by simp)
    have hpf : f ≤ p := by
      rcases (inA p).mp (by simp) with h | h <;> omega
    have hno : ∀ z ∈ pts es, ¬ (p < z ∧ z ≤ m) := by
      rintro z hz ⟨h1, h2⟩
      have hzm : z ≠ m := fun h => hm (by rw [← h]; exact hz)
      have hza := (inA z).mpr (.inr ⟨by omega, by omega, hz⟩)
      have up' := List.pairwise_append.mp upA.1
      rcases List.mem_append.mp hza with h3 | h3
      · have := up'.2.2 z h3 p (List.mem_singleton_self _)
        omega
      · have := List.mem_singleton.mp h3
        omega
    have hdec : decOn es ps x known p = decOn es ps x known m := by
      unfold decOn
      rw [lkOf_day (holds_same (by omega) hno)]
    have e1 : a' ++ [p] ++ q :: b' = a' ++ p :: (q :: b') := by simp
    have e2 : a' ++ [p] ++ m :: q :: b' = a' ++ p :: (m :: q :: b') := by simp
    rw [e1, e2, segs_app, segs_app _ p (m :: q :: b'), List.foldl_append, List.foldl_append]
    generalize (segsOf (decOn es ps x known) (a' ++ [p])).foldl push [] = R
    show (segsOf (decOn es ps x known) (q :: b')).foldl push (push R ⟨p, q, decOn es ps x known p⟩) = (segsOf (decOn es ps x known) (q :: b')).foldl push (push (push R ⟨p, m, decOn es ps x known p⟩) ⟨m, q, decOn es ps x known m⟩)
    rw [← hdec, push_push]
/-- the plain law -/
theorem whole_law {es : List Ent} {ps x : Str} {known f m c : Int} {nsA nsB nsW : List Int} (hfm : f < m) (hmc : m < c) (hA : EdgesOf es f m nsA) (hB : EdgesOf es m c nsB) (hW : EdgesOf es f c nsW) :
    totM (courseOf (decOn es ps x known) nsW) 0 = dueM (totM (courseOf (decOn es ps x known) nsA) 0) (totM (courseOf (decOn es ps x known) nsB) 0) ∧
    ∃ ri r0 s0 si, courseOf (decOn es ps x known) nsA = ri ++ [r0] ∧ courseOf (decOn es ps x known) nsB = s0 :: si ∧ courseOf (decOn es ps x known) nsW = joinedM ri r0 s0 si := by
  obtain ⟨a, b, rfl, rfl, ha, hb, e⟩ := whole_fold (ps := ps) (x := x) (known := known) hfm hmc hA hB hW
  refine ⟨?_, ?_⟩
  · have e1 : totM (courseOf (decOn es ps x known) nsW) 0 = totM (segsOf (decOn es ps x known) (a ++ m :: b)) 0 := by
      rw [courseOf_segs, e, ← courseOf_segs, totM_course]
    rw [e1, totM_course, totM_course, segs_app, totM_app]
    cases totM (segsOf (decOn es ps x known) (a ++ [m])) 0 with
    | stopped u d => rfl
    | total n =>
      have := totM_shift (segsOf (decOn es ps x known) (m :: b)) n 0
      rw [Int.add_zero] at this
      show totM (segsOf (decOn es ps x known) (m :: b)) n = _
      rw [this]
      cases totM (segsOf (decOn es ps x known) (m :: b)) 0 with
      | total k => rfl
      | stopped u d => rfl
  · rw [courseOf_segs, courseOf_segs, courseOf_segs, e]
    have hlA : (segsOf (decOn es ps x known) (a ++ [m])).foldl push [] ≠ [] := by
      intro z
      have h1 : (segsOf (decOn es ps x known) (a ++ [m])) ≠ [] := fun h2 => by
        have h3 := segs_len (decOn es ps x known) (a ++ [m])
        rw [h2, List.length_append, List.length_singleton] at h3
        have := List.length_pos_iff.mpr ha
        simp at h3
        omega
      obtain ⟨S, l, e2⟩ : ∃ S l, segsOf (decOn es ps x known) (a ++ [m]) = S ++ [l] := ⟨_, _, (List.dropLast_concat_getLast h1).symm⟩
      rw [e2, List.foldl_append] at z
      have z' : push (S.foldl push []) l = [] := z
      generalize S.foldl push [] = R at z'
      by_cases hR : R = []
      · subst hR
        cases z'
      · obtain ⟨A, r, rfl⟩ : ∃ A r, R = A ++ [r] := ⟨R.dropLast, R.getLast hR, (List.dropLast_concat_getLast hR).symm⟩
        rw [push_last, push_one] at z'
        by_cases hd : r.d = l.d
        · rw [if_pos hd] at z'
          simp at z'
        · rw [if_neg hd] at z'
          simp at z'
    obtain ⟨ri, r0, e3⟩ : ∃ ri r0, (segsOf (decOn es ps x known) (a ++ [m])).foldl push [] = ri ++ [r0] := ⟨_, _, (List.dropLast_concat_getLast hlA).symm⟩
    have hl := segs_len (decOn es ps x known) (m :: b)
    rw [List.length_cons] at hl
    have hbp := List.length_pos_iff.mpr hb
    obtain ⟨s0, si, e4, e5⟩ := fold_joined ri r0 (b.length - 1) (segsOf (decOn es ps x known) (m :: b)) (by omega)
    exact ⟨ri, r0, s0, si, e3, e4, by rw [segs_app, List.foldl_append, e3, e5]⟩
end K14

set_option Elab.async false
set_option maxRecDepth 100000
set_option maxHeartbeats 4000000
/-! the law's body -/
namespace K14
open PySem PySem.Spec PyProof.Rows L2
open C8 (Cal Met Mak pe_c pe_mk pe_mt pe_mt0 pss_cut)
def Tot.kind : Tot → Str
  | .total _ => "total"
  | .stopped _ _ => "stopped"
section
variable {P : Program} {w : World} {K : PySem.W.Frag} {mg : Str → Option Value} {base : Heap} {C : Addr}
theorem noTot : ¬ V.str "stopped" = V.str "total" := by decide +kernel
theorem tot_inv {H : Hp} {a : Addr} {t : Tot} (h : Dp K H (.ref a) (totD t)) : ∃ r, SqT K H a (.str t.kind :: r) := by
  cases t with
  | total n =>
    obtain ⟨a', x, e, h1, _⟩ := dp2 h
    have := V.ref.inj e
    subst this
    exact ⟨_, h1⟩
  | stopped f d =>
    obtain ⟨a', x, y, e, h1, _⟩ := dp3 h
    have := V.ref.inj e
    subst this
    exact ⟨_, h1⟩
theorem tot_int {H : Hp} {a : Addr} {n : Int} (h : Dp K H (.ref a) (totD (.total n))) : SqT K H a [.str "total", .int n] := by
  obtain ⟨a', x, e, h1, h2⟩ := dp2 h
  have := V.ref.inj e
  subst this
  rw [dp_int h2] at h1
  exact h1
theorem totOf_ok {dec : Int → Dec} (h : ∀ x, DecOk (dec x)) (ns : List Int) : TotOk (totM (courseOf dec ns) 0) := totM_ok (courseOf_ok h ns)
theorem due_ok {a b : Tot} (h1 : TotOk a) (h2 : TotOk b) : TotOk (dueM a b) := by
  cases a with
  | total n =>
    cases b with
    | total m => trivial
    | stopped f d => exact h2
  | stopped f d => exact h1
theorem claim_new {H : Hp} {b ca : Addr} {y z : Str} {f t : Int} (hb : H b = none) (hca : upd H b (.tup [.int f, .int t]) ca = none) :
    Same H (upd (upd H b (.tup [.int f, .int t])) ca (.tup [.str y, .str z, .ref b])) ∧ ClaimAt K (upd (upd H b (.tup [.int f, .int t])) ca (.tup [.str y, .str z, .ref b])) ca y z f t :=
  ⟨(same_new hb _).trans (same_new hca _), b, SqT.of upd_same, sqT_same (same_new hca _) (SqT.of upd_same)⟩
/-- the law's names ahead of its verdict -/
abbrev stL (a nh el ql b row sp : Addr) (y z : Str) (d9 d10 d11 d12 d13 d14 d15 d16 d17 : Option V) : L2.St :=
  [some (.ref a), some (.ref nh), some (.ref el), some (.ref ql), some (.ref b), some (.ref row), some (.str y), some (.str z), some (.ref sp), d9, d10, d11, d12, d13, d14, d15, d16, d17]
def spLaw (K : PySem.W.Frag) : Sp := fun vs H Q _ => ∃ (a : Addr) (ns : List Int), vs = [.ref a] ∧ SqL K H a (ns.map V.int) ∧ ns.length ≤ 63 ∧ ∀ H', Q (.bl true) H'
theorem scLaw : FnScope ["_law_script", "_law_names_here", "_law_entries", "_law_parts", "_law_book", "_law_row_here", "_law_person", "_law_rule", "_law_span_here", "_law_after", "_law_middle", "_law_known", "_law_ahead", "_law_behind", "_law_whole", "_law_first", "_law_second", "_law_due"] ["_law_script"] (defScope (top 76)) := ⟨rfl, rfl, rfl, by decide +kernel, rfl, by decide +kernel, by decide +kernel⟩
theorem ok_law {f : Addr} {fd : FuncData} (F : FnP K "law" "law" (top 76) f fd) (T : Tx K mg) (cW : Cal P w K mg base 9 "_law_world" (spWorld K) []) (cB : Cal P w K mg base 15 "book_of" (spBookOf K C) []) (cR : Cal P w K mg base 1 "_law_row" (spRow K) []) (cL : Cal P w K mg base 1 "_law_claim" (spClaim K) [])
    (cT : Cal P w K mg base 70 "total" (spTotal K C) []) (cC : Cal P w K mg base 69 "course" (spCourse K C) []) (cJ : Cal P w K mg base 1 "_law_joined" (spJoined K) []) : FnOk P w K mg base CX0 71 f fd ["_law_script"] (spLaw K) := by
  refine fnP_ok F scLaw (fun vs H Q E h => ?_) (fun cdv A outer s H vs Q E hr h => ?_)
  · obtain ⟨a, ns, rfl, _⟩ := h
    rfl
  · obtain ⟨a, sc, rfl, hsc, hsl, q⟩ := h
    refine ⟨_, (pss_cons (ps_asg (pe_c cW hr (by decide) (by rfl) (pa_cons (pv 0) (pa_cons pe_int (pa_cons pe_int pa_nil)))) (pg_tup rfl (pgs_cons (pg_name (i := 1) scLaw.nd rfl (.inl rfl)) (pgs_cons (pg_name (i := 2) scLaw.nd rfl (.inl rfl)) (pgs_cons (pg_name (i := 3) scLaw.nd rfl (.inl rfl)) pgs_nil)))))
      (pss_cons (ps_set (i := 4) scLaw.nd rfl (.inl rfl) (pe_c cB hr (by decide) (by rfl) (pa_cons (pv 2) pa_nil)))
      (pss_cons (ps_set (i := 5) scLaw.nd rfl (.inl rfl) (pe_c cR hr (by decide) (by rfl) (pa_cons (pv 0) (pa_cons pe_int (pa_cons pe_int pa_nil)))))
      (pss_cut (ps_asg (pe_c cL hr (by decide) (by rfl) (pa_cons (pv 5) (pa_cons (pv 1) pa_nil))) (pg_tup rfl (pgs_cons (pg_name (i := 6) scLaw.nd rfl (.inl rfl)) (pgs_cons (pg_name (i := 7) scLaw.nd rfl (.inl rfl)) (pgs_cons (pg_name (i := 8) scLaw.nd rfl (.inl rfl)) pgs_nil)))))
      (pss_cons (ps_set (i := 9) scLaw.nd rfl (.inl rfl) (pe_op op_add (pe_ix ix_tup (pv 8) pe_int (fun _ _ => rfl)) pe_int))
      (pss_cons (ps_set (i := 10) scLaw.nd rfl (.inl rfl) (pe_op op_add (pe_op op_add (pe_ix ix_tup (pv 8) pe_int (fun _ _ => rfl)) pe_int) (pe_op op_mod (pe_callTy call_int1 (by rfl) T.int (by decide +kernel) (pa_cons (pe_ix ix_list (pv 5) pe_int (fun _ _ => rfl)) pa_nil)) (pe_op op_sub (pe_op op_sub (pv 9) (pe_ix ix_tup (pv 8) pe_int (fun _ _ => rfl))) pe_int))))
      (pss_cut (ps_set (i := 11) scLaw.nd rfl (.inl rfl) (pe_op op_mod (pe_callTy call_int1 (by rfl) T.int (by decide +kernel) (pa_cons (pe_ix ix_list (pv 5) pe_int (fun _ _ => rfl)) pa_nil)) pe_int))
      (pss_cons (ps_set (i := 12) scLaw.nd rfl (.inl rfl) (pe_tup (pa_cons (pv 6) (pa_cons (pv 7) (pa_cons (pe_tup (pa_cons (pe_ix ix_tup (pv 8) pe_int (fun _ _ => rfl)) (pa_cons (pv 10) pa_nil))) pa_nil)))))
      (pss_cons (ps_set (i := 13) scLaw.nd rfl (.inl rfl) (pe_tup (pa_cons (pv 6) (pa_cons (pv 7) (pa_cons (pe_tup (pa_cons (pv 10) (pa_cons (pv 9) pa_nil))) pa_nil)))))
      (pss_cut (ps_set (i := 14) scLaw.nd rfl (.inl rfl) (pe_tup (pa_cons (pv 6) (pa_cons (pv 7) (pa_cons (pe_tup (pa_cons (pe_ix ix_tup (pv 8) pe_int (fun _ _ => rfl)) (pa_cons (pv 9) pa_nil))) pa_nil)))))
      (pss_cons (ps_set (i := 15) scLaw.nd rfl (.inl rfl) (pe_c cT hr (by decide) (by rfl) (pa_cons (pv 4) (pa_cons (pv 12) (pa_cons (pv 11) pa_nil)))))
      (pss_cut (ps_set (i := 16) scLaw.nd rfl (.inl rfl) (pe_c cT hr (by decide) (by rfl) (pa_cons (pv 4) (pa_cons (pv 13) (pa_cons (pv 11) pa_nil)))))
      (pss_cons (ps_set (i := 17) scLaw.nd rfl (.inl rfl) (pv 15))
      (pss_cut (ps_if (pt_cmpR op_eq (pe_ix ix_tup (pv 15) pe_int (fun _ _ => rfl)) pe_str (nomark _)) (pss_one (ps_set (i := 17) scLaw.nd rfl (.inl rfl) (pv 16))) pss_nil)
      (pss_cut (ps_if (PW.pt (pw_and (pt_cmpR op_eq (pe_ix ix_tup (pv 15) pe_int (fun _ _ => rfl)) pe_str (nomark _)) (pw_and1 (pt_cmpR op_eq (pe_ix ix_tup (pv 16) pe_int (fun _ _ => rfl)) pe_str (nomark _))))) (pss_one (ps_set (i := 17) scLaw.nd rfl (.inl rfl) (pe_tup (pa_cons pe_str (pa_cons (pe_op op_add (pe_ix ix_tup (pv 15) pe_int (fun _ _ => rfl)) (pe_ix ix_tup (pv 16) pe_int (fun _ _ => rfl))) pa_nil))))) pss_nil)
      (pss_cons (ps_if (pt_cmpR (op_neD hr.units) (pe_c cT hr (by decide) (by rfl) (pa_cons (pv 4) (pa_cons (pv 14) (pa_cons (pv 11) pa_nil)))) (pv 17) (nomark _)) (pss_one (ps_ret pe_bl)) pss_nil)
      (pss_one (ps_ret (pe_cmpR (op_eqD hr.units) (pe_c cC hr (by decide) (by rfl) (pa_cons (pv 4) (pa_cons (pv 14) (pa_cons (pv 11) pa_nil)))) (pe_c cJ hr (by decide) (by rfl) (pa_cons (pe_c cC hr (by decide) (by rfl) (pa_cons (pv 4) (pa_cons (pv 12) (pa_cons (pv 11) pa_nil)))) (pa_cons (pe_c cC hr (by decide) (by rfl) (pa_cons (pv 4) (pa_cons (pv 13) (pa_cons (pv 11) pa_nil)))) pa_nil))) (nomark _)))))))))))))))))))), ?_⟩
    -- the world
    refine ⟨_, rfl, a, 0, 12, rfl, by decide, ⟨sc, hsc, by omega⟩, by decide, by decide, fun tw nh el ql pl fl rl ps fs rs xs es H1 s1 htw hN hel hD hB hlen => ?_⟩
    have hlen' : es.length ≤ 12 := by omega
    have hes := bookOk_es hB
    refine ⟨tw, _, rfl, htw, rfl, _, _, rfl, _, _, rfl, _, _, rfl, rfl, ?_⟩
    refine ⟨_, rfl, el, xs, es, rfl, SqL.of hel, hD, hB, by omega, fun b r s' H2 s2 BA => ?_⟩
    refine ⟨_, rfl, a, sc, 40, 9, rfl, by decide, (s1.trans s2).seq hsc, by omega, by decide, fun row ns H3 nrow s3 hrow hok => ?_⟩
    refine ⟨fun σ H' => ∃ (sp : Addr) (y z : Str) (f0 t0 : Int), (Same H3 H' ∧ SqT K H' sp [.int f0, .int t0] ∧ NameOk y ∧ NameOk z ∧ 0 ≤ f0 ∧ f0 < t0) ∧ σ = stL a nh el ql b row sp y z none none none none none none none none none, ?_, ?_⟩
    · refine ⟨_, rfl, _, rfl, row, ns, nh, pl, fl, rl, ps, fs, rs, rfl, SqL.of hrow, hok, (hN.same s2).same s3, fun ca y z f0 t0 H4 s4 hc ny nz hf0 hft => ?_⟩
      obtain ⟨sp, hc1, hc2⟩ := hc
      exact ⟨ca, _, rfl, hc1, rfl, _, _, rfl, _, _, rfl, _, _, rfl, rfl, sp, y, z, f0, t0, ⟨s4, hc2, ny, nz, hf0, hft⟩, rfl⟩
    rintro σ H4 ⟨sp, y, z, f0, t0, ⟨s4, hc2, ny, nz, hf0, hft⟩, rfl⟩
    obtain ⟨x8, a8, l8, u8⟩ := row_at hok (j := 8) (by decide)
    obtain ⟨x3, a3, l3, u3⟩ := row_at hok (j := 3) (by decide)
    have hrow4 := SqL.of (K := K) (s4 _ _ hrow)
    refine ⟨_, rfl, sp, _, _, _, rfl, rfl, hc2, at1, _, _, rfl, rfl, ?_⟩
    refine ⟨_, rfl, sp, _, _, _, rfl, rfl, hc2, at0, _, _, rfl, rfl, _, rfl, row, _, _, _, rfl, rfl, hrow4, a8, .inl ⟨_, rfl, _, rfl, _, rfl, sp, _, _, _, rfl, rfl, hc2, at0, _, _, rfl, rfl, _, _, rfl, rfl, _, _, rfl, rfl, by show (0 : Int) < t0 + 1 - f0 - 1; omega, _, _, rfl, rfl, ?_⟩⟩
    have m0 : 0 ≤ x8 % (t0 + 1 - f0 - 1) := Int.emod_nonneg _ (by omega)
    have m1 : x8 % (t0 + 1 - f0 - 1) < t0 + 1 - f0 - 1 := Int.emod_lt_of_pos _ (by omega)
    refine ⟨fun σ H' => H4 = H' ∧ ∃ M kn : Int, (f0 < M ∧ M < t0 + 1) ∧ σ = stL a nh el ql b row sp y z (some (.int (t0 + 1))) (some (.int M)) (some (.int kn)) none none none none none none, ?_, ?_⟩
    · exact ⟨_, rfl, row, _, _, _, rfl, rfl, hrow4, a3, .inl ⟨_, rfl, _, _, rfl, rfl, by show (0 : Int) < 30; decide, rfl, _, _, ⟨by omega, by omega⟩, rfl⟩⟩
    rintro σ H5 ⟨rfl, M, kn, ⟨hfM, hMt⟩, rfl⟩
    clear m0 m1
    obtain ⟨t1, ht1⟩ : ∃ t1, t1 = t0 + 1 := ⟨_, rfl⟩
    rw [← ht1] at hMt
    rw [← ht1]
    -- the claims
    refine ⟨_, rfl, _, rfl, _, rfl, sp, _, _, _, rfl, rfl, hc2, at0, _, rfl, by show 2 ≤ sizeLine; decide, fun b1 hb1 => ⟨by show 3 ≤ sizeLine; decide, fun ca1 hca1 => ?_⟩⟩
    obtain ⟨s5, cA⟩ := claim_new (K := K) (y := y) (z := z) hb1 hca1
    have hc25 := sqT_same s5 hc2
    refine ⟨_, rfl, _, rfl, _, rfl, _, rfl, by show 2 ≤ sizeLine; decide, fun b2 hb2 => ⟨by show 3 ≤ sizeLine; decide, fun ca2 hca2 => ?_⟩⟩
    obtain ⟨s6, cB'⟩ := claim_new (K := K) (y := y) (z := z) hb2 hca2
    have hc26 := sqT_same s6 hc25
    refine ⟨fun σ H' => ∃ ca1 ca2 ca3, (Same H4 H' ∧ ClaimAt K H' ca1 y z f0 M ∧ ClaimAt K H' ca2 y z M t1 ∧ ClaimAt K H' ca3 y z f0 t1) ∧ σ = stL a nh el ql b row sp y z (some (.int t1)) (some (.int M)) (some (.int kn)) (some (.ref ca1)) (some (.ref ca2)) (some (.ref ca3)) none none none, ?_, ?_⟩
    · refine ⟨_, rfl, _, rfl, _, rfl, sp, _, _, _, rfl, rfl, hc26, at0, _, rfl, by show 2 ≤ sizeLine; decide, fun b3 hb3 => ⟨by show 3 ≤ sizeLine; decide, fun ca3 hca3 => ?_⟩⟩
      obtain ⟨s7, cW'⟩ := claim_new (K := K) (y := y) (z := z) hb3 hca3
      exact ⟨ca1, ca2, ca3, ⟨(s5.trans s6).trans s7, (cA.same s6).same s7, cB'.same s7, cW'⟩, rfl⟩
    clear s5 s6 cA cB' hca1 hca2 hb1 hb2 hc25 hc26
    rintro σ H7 ⟨ca1, ca2, ca3, ⟨s7, cA7, cB7, cW'⟩, rfl⟩
    have BA7 := ((BA.same s3).same s4).same s7
    -- the totals
    refine ⟨_, rfl, _, rfl, _, rfl, b, r, s', ca1, es, y, z, f0, _, kn, rfl, BA7, hes, by omega, ny, nz, cA7, hfM, fun a1 nsA H8 s8 edA hDA => ?_⟩
    have BA8 := BA7.same s8
    have cA8 := cA7.same s8
    have cB8 := cB7.same s8
    have cW8 := cW'.same s8
    refine ⟨fun σ H' => ∃ (a2 : Addr) (nsB : List Int), (Same H8 H' ∧ EdgesOf es M t1 nsB ∧ Dp K H' (.ref a2) (totD (totM (courseOf (decOn es y z kn) nsB) 0))) ∧ σ = stL a nh el ql b row sp y z (some (.int t1)) (some (.int M)) (some (.int kn)) (some (.ref ca1)) (some (.ref ca2)) (some (.ref ca3)) (some (.ref a1)) (some (.ref a2)) none, ?_, ?_⟩
    · exact ⟨_, rfl, _, rfl, _, rfl, b, r, s', ca2, es, y, z, _, _, kn, rfl, BA8, hes, by omega, ny, nz, cB8, hMt, fun a2 nsB H9 s9 edB hDB => ⟨a2, nsB, ⟨s9, edB, hDB⟩, rfl⟩⟩
    rintro σ H9 ⟨a2, nsB, ⟨s9, edB, hDB⟩, rfl⟩
    have BA9 := BA8.same s9
    have cA9 := cA8.same s9
    have cB9 := cB8.same s9
    have cW9 := cW8.same s9
    have hDA9 := dp_same s9 hDA
    have tAok : TotOk (totM (courseOf (decOn es y z kn) nsA) 0) := totOf_ok (decOn_ok hes nz _) nsA
    have tBok : TotOk (totM (courseOf (decOn es y z kn) nsB) 0) := totOf_ok (decOn_ok hes nz _) nsB
    obtain ⟨tA, htA⟩ : ∃ t, t = totM (courseOf (decOn es y z kn) nsA) 0 := ⟨_, rfl⟩
    obtain ⟨tB, htB⟩ : ∃ t, t = totM (courseOf (decOn es y z kn) nsB) 0 := ⟨_, rfl⟩
    rw [← htA] at hDA9 tAok
    rw [← htB] at hDB tBok
    obtain ⟨ra, hra⟩ := tot_inv hDA9
    obtain ⟨rb, hrb⟩ := tot_inv hDB
    refine ⟨_, rfl, ?_⟩
    refine ⟨fun σ H' => H9 = H' ∧ σ = stL a nh el ql b row sp y z (some (.int t1)) (some (.int M)) (some (.int kn)) (some (.ref ca1)) (some (.ref ca2)) (some (.ref ca3)) (some (.ref a1)) (some (.ref a2)) (some (match tA with
      | .total _ => .ref a2
      | .stopped _ _ => .ref a1)), ?_, ?_⟩
    · refine ⟨_, rfl, a1, _, _, _, rfl, rfl, hra, at0, rfl, _, rfl, ?_⟩
      cases tA with
      | total n => exact ifT rfl ⟨_, rfl, rfl, rfl⟩
      | stopped u d => exact ifF noTot ⟨rfl, rfl⟩
    rintro σ H10 ⟨rfl, rfl⟩
    refine ⟨fun σ H' => ∃ v, Same H9 H' ∧ σ = stL a nh el ql b row sp y z (some (.int t1)) (some (.int M)) (some (.int kn)) (some (.ref ca1)) (some (.ref ca2)) (some (.ref ca3)) (some (.ref a1)) (some (.ref a2)) (some v) ∧ Dp K H' v (totD (dueM tA tB)), ?_, ?_⟩
    · refine ⟨_, rfl, a1, _, _, _, rfl, rfl, hra, at0, rfl, _, rfl, ?_⟩
      cases tA with
      | stopped u d => exact ifF noTot ⟨_, .refl _, rfl, hDA9⟩
      | total n =>
        refine ifT rfl ⟨_, rfl, a2, _, _, _, rfl, rfl, hrb, at0, rfl, _, rfl, ?_⟩
        cases tB with
        | stopped u d => exact ifF noTot ⟨_, .refl _, rfl, hDB⟩
        | total k =>
          refine ifT rfl ⟨_, rfl, a1, _, _, _, rfl, rfl, tot_int hDA9, at1, _, rfl, a2, _, _, _, rfl, rfl, tot_int hDB, at1, _, _, rfl, rfl, by show 2 ≤ sizeLine; decide, fun p hp => ?_⟩
          exact ⟨_, same_new hp _, rfl, dpT upd_same (.cons (.str _) (.cons (.int _) .nil))⟩
    rintro σ H11 ⟨v, s11, rfl, hDv⟩
    have BA11 := BA9.same s11
    have cA11 := cA9.same s11
    have cB11 := cB9.same s11
    have cW11 := cW9.same s11
    refine ⟨_, rfl, _, rfl, _, rfl, b, r, s', ca3, es, y, z, f0, _, kn, rfl, BA11, hes, by omega, ny, nz, cW11, by omega, fun a3 nsW H12 s12 edW hDW => ?_⟩
    have tWok : TotOk (totM (courseOf (decOn es y z kn) nsW) 0) := totOf_ok (decOn_ok hes nz _) nsW
    have law1 := (whole_law (ps := y) (x := z) (known := kn) hfM hMt edA edB edW).1
    rw [← htA, ← htB] at law1
    rw [law1] at hDW tWok
    refine ⟨_, rfl, _, _, hDW, dp_same s12 hDv, shaped_tot tWok, shaped_tot tWok, _, rfl, ?_⟩
    rw [eqv_tot, decide_eq_true rfl]
    refine iteF ?_
    -- the courses
    have BA12 := BA11.same s12
    refine ⟨_, rfl, _, rfl, _, rfl, b, r, s', ca3, es, y, z, f0, _, kn, rfl, BA12, hes, by omega, ny, nz, cW11.same s12, by omega, fun lw mW uw H13 s13 eW hlw hDlw => ?_⟩
    have BA13 := BA12.same s13
    refine ⟨_, rfl, _, rfl, _, rfl, b, r, s', ca1, es, y, z, f0, _, kn, rfl, BA13, hes, by omega, ny, nz, (cA11.same s12).same s13, hfM, fun la mA ua H14 s14 eA hla hDla => ?_⟩
    have BA14 := BA13.same s14
    refine ⟨_, rfl, _, rfl, _, rfl, b, r, s', ca2, es, y, z, _, _, kn, rfl, BA14, hes, by omega, ny, nz, ((cB11.same s12).same s13).same s14, hMt, fun lb mB ub H15 s15 eB hlb hDlb => ?_⟩
    obtain ⟨_, ri, r0, s0, si, g1, g2, g3⟩ := whole_law (ps := y) (x := z) (known := kn) hfM hMt eA eB eW
    have okA := courseOf_ok (decOn_ok hes (ps := y) nz kn) mA
    have okB := courseOf_ok (decOn_ok hes (ps := y) nz kn) mB
    have okW := courseOf_ok (decOn_ok hes (ps := y) nz kn) mW
    have lenA : ua.length ≤ 20000 := by
      rw [da_length hDla, List.length_map]
      have h1 := courseM_len (decOn es y z kn) mA (mA.length - 1)
      have h2 := eA.few
      unfold courseOf
      omega
    have lenB : ub.length ≤ 20000 := by
      rw [da_length hDlb, List.length_map]
      have h1 := courseM_len (decOn es y z kn) mB (mB.length - 1)
      have h2 := eB.few
      unfold courseOf
      omega
    rw [g1] at hDla okA
    rw [g2] at hDlb okB
    rw [g3] at hDlw okW
    refine ⟨la, lb, ua, ub, ri, si, r0, s0, rfl, s15 _ _ hla, hlb, da_same s15 hDla, hDlb, okA r0 (by simp), okB s0 (by simp), lenA, lenB, fun l vs H16 s16 hl hDl => ?_⟩
    refine ⟨.list _, .list _, .lst (SqL.of (s16 _ _ (s15 _ _ (s14 _ _ hlw)))) (da_same s16 (da_same s15 (da_same s14 hDlw))), .lst (SqL.of hl) hDl, shaped_runs okW, shaped_runs okW, ?_⟩
    have ee : PyData.eqv (.list ((joinedM ri r0 s0 si).map runD)) (.list ((joinedM ri r0 s0 si).map runD)) = true := by
      show PyData.eqvAll _ _ = true
      rw [eqvAll_runs]
      exact decide_eq_true rfl
    rw [ee]
    exact q _
end
end K14

set_option Elab.async false
set_option maxRecDepth 100000
set_option maxHeartbeats 0
/-! the head's facts and the run of the top -/
namespace K14
open PySem PySem.Spec PyProof.Rows L2

def d11 : He.DefD := ⟨("split_words", none), "split_words", "split_words", defArgs (top 11), defBody (top 11), defScope (top 11), [], []⟩
def d12 : He.DefD := ⟨("is_name", none), "is_name", "is_name", defArgs (top 12), defBody (top 12), defScope (top 12), [], []⟩
def d13 : He.DefD := ⟨("is_number", none), "is_number", "is_number", defArgs (top 13), defBody (top 13), defScope (top 13), [], []⟩
def d14 : He.DefD := ⟨("word_at", none), "word_at", "word_at", defArgs (top 14), defBody (top 14), defScope (top 14), [], []⟩
def d15 : He.DefD := ⟨("is_day", none), "is_day", "is_day", defArgs (top 15), defBody (top 15), defScope (top 15), [], []⟩
def d16 : He.DefD := ⟨("is_span", none), "is_span", "is_span", defArgs (top 16), defBody (top 16), defScope (top 16), [], []⟩
def d23 : He.DefD := ⟨("parse_name", none), "parse_name", "parse_name", defArgs (top 23), defBody (top 23), defScope (top 23), [], []⟩
def d24 : He.DefD := ⟨("parse_fact", none), "parse_fact", "parse_fact", defArgs (top 24), defBody (top 24), defScope (top 24), [], []⟩
def d25 : He.DefD := ⟨("parse_percent", none), "parse_percent", "parse_percent", defArgs (top 25), defBody (top 25), defScope (top 25), [], []⟩
def d26 : He.DefD := ⟨("parse_if", none), "parse_if", "parse_if", defArgs (top 26), defBody (top 26), defScope (top 26), [], []⟩
def d27 : He.DefD := ⟨("parse_part", none), "parse_part", "parse_part", defArgs (top 27), defBody (top 27), defScope (top 27), [], []⟩
def d28 : He.DefD := ⟨("parse_condition", none), "parse_condition", "parse_condition", defArgs (top 28), defBody (top 28), defScope (top 28), [], []⟩
def d29 : He.DefD := ⟨("parse_amount", none), "parse_amount", "parse_amount", defArgs (top 29), defBody (top 29), defScope (top 29), [], []⟩
def d32 : He.DefD := ⟨("check_report", none), "check_report", "check_report", defArgs (top 32), defBody (top 32), defScope (top 32), [], []⟩
def d33 : He.DefD := ⟨("check_enactment", none), "check_enactment", "check_enactment", defArgs (top 33), defBody (top 33), defScope (top 33), [], []⟩
def d35 : He.DefD := ⟨("stands", none), "stands", "stands", defArgs (top 35), defBody (top 35), defScope (top 35), [], []⟩
def d36 : He.DefD := ⟨("holds_on", none), "holds_on", "holds_on", defArgs (top 36), defBody (top 36), defScope (top 36), [], []⟩
def d37 : He.DefD := ⟨("last_of", none), "last_of", "last_of", defArgs (top 37), defBody (top 37), defScope (top 37), [], []⟩
def d38 : He.DefD := ⟨("fact_at", none), "fact_at", "fact_at", defArgs (top 38), defBody (top 38), defScope (top 38), [], []⟩
def d39 : He.DefD := ⟨("rule_at", none), "rule_at", "rule_at", defArgs (top 39), defBody (top 39), defScope (top 39), [], []⟩
def d40 : He.DefD := ⟨("book_of", none), "book_of", "book_of", defArgs (top 40), defBody (top 40), defScope (top 40), [], []⟩
def d47 : He.DefD := ⟨("read_fact", none), "read_fact", "read_fact", defArgs (top 47), defBody (top 47), defScope (top 47), [], []⟩
def d48 : He.DefD := ⟨("bounded", none), "bounded", "bounded", defArgs (top 48), defBody (top 48), defScope (top 48), [], []⟩
def d49 : He.DefD := ⟨("read_rule", none), "read_rule", "read_rule", defArgs (top 49), defBody (top 49), defScope (top 49), [], []⟩
def d50 : He.DefD := ⟨("read", none), "read", "read", defArgs (top 50), defBody (top 50), defScope (top 50), [], []⟩
def d51 : He.DefD := ⟨("read_condition", none), "read_condition", "read_condition", defArgs (top 51), defBody (top 51), defScope (top 51), [], []⟩
def d52 : He.DefD := ⟨("reading", none), "reading", "reading", defArgs (top 52), defBody (top 52), defScope (top 52), [], []⟩
def d53 : He.DefD := ⟨("decide", none), "decide", "decide", defArgs (top 53), defBody (top 53), defScope (top 53), [], []⟩
def d55 : He.DefD := ⟨("edges_of", none), "edges_of", "edges_of", defArgs (top 55), defBody (top 55), defScope (top 55), [], []⟩
def d56 : He.DefD := ⟨("course", none), "course", "course", defArgs (top 56), defBody (top 56), defScope (top 56), [], []⟩
def d57 : He.DefD := ⟨("total", none), "total", "total", defArgs (top 57), defBody (top 57), defScope (top 57), [], []⟩
def d59 : He.DefD := ⟨("_law_row", none), "_law_row", "_law_row", defArgs (top 59), defBody (top 59), defScope (top 59), [], []⟩
def d60 : He.DefD := ⟨("_law_kept", none), "_law_kept", "_law_kept", defArgs (top 60), defBody (top 60), defScope (top 60), [], []⟩
def d61 : He.DefD := ⟨("_law_name", none), "_law_name", "_law_name", defArgs (top 61), defBody (top 61), defScope (top 61), [], []⟩
def d62 : He.DefD := ⟨("_law_names", none), "_law_names", "_law_names", defArgs (top 62), defBody (top 62), defScope (top 62), [], []⟩
def d63 : He.DefD := ⟨("_law_next", none), "_law_next", "_law_next", defArgs (top 63), defBody (top 63), defScope (top 63), [], []⟩
def d64 : He.DefD := ⟨("_law_number", none), "_law_number", "_law_number", defArgs (top 64), defBody (top 64), defScope (top 64), [], []⟩
def d65 : He.DefD := ⟨("_law_amount", none), "_law_amount", "_law_amount", defArgs (top 65), defBody (top 65), defScope (top 65), [], []⟩
def d66 : He.DefD := ⟨("_law_condition", none), "_law_condition", "_law_condition", defArgs (top 66), defBody (top 66), defScope (top 66), [], []⟩
def d67 : He.DefD := ⟨("_law_words", none), "_law_words", "_law_words", defArgs (top 67), defBody (top 67), defScope (top 67), [], []⟩
def d68 : He.DefD := ⟨("_law_rule_amount", none), "_law_rule_amount", "_law_rule_amount", defArgs (top 68), defBody (top 68), defScope (top 68), [], []⟩
def d69 : He.DefD := ⟨("_law_span", none), "_law_span", "_law_span", defArgs (top 69), defBody (top 69), defScope (top 69), [], []⟩
def d70 : He.DefD := ⟨("_law_free", none), "_law_free", "_law_free", defArgs (top 70), defBody (top 70), defScope (top 70), [], []⟩
def d71 : He.DefD := ⟨("_law_entry", none), "_law_entry", "_law_entry", defArgs (top 71), defBody (top 71), defScope (top 71), [], []⟩
def d72 : He.DefD := ⟨("_law_names_of", none), "_law_names_of", "_law_names_of", defArgs (top 72), defBody (top 72), defScope (top 72), [], []⟩
def d73 : He.DefD := ⟨("_law_world", none), "_law_world", "_law_world", defArgs (top 73), defBody (top 73), defScope (top 73), [], []⟩
def d74 : He.DefD := ⟨("_law_claim", none), "_law_claim", "_law_claim", defArgs (top 74), defBody (top 74), defScope (top 74), [], []⟩
def d75 : He.DefD := ⟨("_law_joined", none), "_law_joined", "_law_joined", defArgs (top 75), defBody (top 75), defScope (top 75), [], []⟩
def d76 : He.DefD := ⟨("law", none), "law", "law", defArgs (top 76), defBody (top 76), defScope (top 76), [], []⟩
def d34_0 : He.DefD := ⟨("Book", some "__init__"), "__init__", "Book.__init__", defArgs (inClass (top 34) 0), defBody (inClass (top 34) 0), defScope (inClass (top 34) 0), [], []⟩
def d34_1 : He.DefD := ⟨("Book", some "_check"), "_check", "Book._check", defArgs (inClass (top 34) 1), defBody (inClass (top 34) 1), defScope (inClass (top 34) 1), [], []⟩
def d34_2 : He.DefD := ⟨("Book", some "enter"), "enter", "Book.enter", defArgs (inClass (top 34) 2), defBody (inClass (top 34) 2), defScope (inClass (top 34) 2), [], []⟩
def d34_3 : He.DefD := ⟨("Book", some "entries"), "entries", "Book.entries", defArgs (inClass (top 34) 3), defBody (inClass (top 34) 3), defScope (inClass (top 34) 3), [], []⟩
def d34_4 : He.DefD := ⟨("Book", some "entry_at"), "entry_at", "Book.entry_at", defArgs (inClass (top 34) 4), defBody (inClass (top 34) 4), defScope (inClass (top 34) 4), [], []⟩
def d34_5 : He.DefD := ⟨("Book", some "count"), "count", "Book.count", defArgs (inClass (top 34) 5), defBody (inClass (top 34) 5), defScope (inClass (top 34) 5), [], []⟩
def d34_6 : He.DefD := ⟨("Book", some "struck_on"), "struck_on", "Book.struck_on", defArgs (inClass (top 34) 6), defBody (inClass (top 34) 6), defScope (inClass (top 34) 6), [], []⟩
def d46_0 : He.DefD := ⟨("Finder", some "__init__"), "__init__", "Finder.__init__", defArgs (inClass (top 46) 0), defBody (inClass (top 46) 0), defScope (inClass (top 46) 0), [], []⟩
def d46_1 : He.DefD := ⟨("Finder", some "rule"), "rule", "Finder.rule", defArgs (inClass (top 46) 1), defBody (inClass (top 46) 1), defScope (inClass (top 46) 1), [], []⟩
def d46_2 : He.DefD := ⟨("Finder", some "fact"), "fact", "Finder.fact", defArgs (inClass (top 46) 2), defBody (inClass (top 46) 2), defScope (inClass (top 46) 2), [], []⟩
def d46_3 : He.DefD := ⟨("Finder", some "room"), "room", "Finder.room", defArgs (inClass (top 46) 3), defBody (inClass (top 46) 3), defScope (inClass (top 46) 3), [], []⟩
def d45_0 : He.DefD := ⟨("Stop", some "__init__"), "__init__", "Stop.__init__", defArgs (inClass (top 45) 0), defBody (inClass (top 45) 0), defScope (inClass (top 45) 0), [], []⟩
def fnL : List He.DefD := [d11, d12, d13, d14, d15, d16, d23, d24, d25, d26, d27, d28, d29, d32, d33, d35, d36, d37, d38, d39, d40, d47, d48, d49, d50, d51, d52, d53, d55, d56, d57, d59, d60, d61, d62, d63, d64, d65, d66, d67, d68, d69, d70, d71, d72, d73, d74, d75, d76, d34_0, d34_1, d34_2, d34_3, d34_4, d34_5, d34_6, d46_0, d46_1, d46_2, d46_3, d45_0]
def faL : List He.Fa := [.glo "split_words", .glo "is_name", .glo "is_number", .glo "word_at", .glo "is_day", .glo "is_span", .glo "parse_name", .glo "parse_fact", .glo "parse_percent", .glo "parse_if", .glo "parse_part", .glo "parse_condition", .glo "parse_amount", .glo "check_report", .glo "check_enactment", .glo "stands", .glo "holds_on", .glo "last_of", .glo "fact_at", .glo "rule_at", .glo "book_of", .glo "read_fact", .glo "bounded", .glo "read_rule", .glo "read", .glo "read_condition", .glo "reading", .glo "decide", .glo "edges_of", .glo "course", .glo "total", .glo "_law_row", .glo "_law_kept", .glo "_law_name", .glo "_law_names", .glo "_law_next", .glo "_law_number", .glo "_law_amount", .glo "_law_condition", .glo "_law_words", .glo "_law_rule_amount", .glo "_law_span", .glo "_law_free", .glo "_law_entry", .glo "_law_names_of", .glo "_law_world", .glo "_law_claim", .glo "_law_joined", .glo "law", .glo "Book", .glo "Finder", .glo "Stop", .free "len", .free "int", .free "abs", .free "range", .free "list", .free "sorted", .free "min", .free "max", .free "str", .int "MOST_CHARACTERS" 12, .int "MOST_DIGITS" 9, .int "LAST_DAY" 9999, .int "MOST_WORDS" 40, .int "MOST_PERCENT" 1000, .int "MOST_ENTRIES" 100, .int "MOST_OPEN" 6, .int "MOST_LOOKUPS" 100, .int "LARGEST" 1000000000000000, .str "LETTERS" "abcdefghijklmnopqrstuvwxyz", .str "DIGITS" "0123456789", .cls "Book", .mkr "Book", .meth "Book" "_check", .meth "Book" "enter", .meth "Book" "entries", .meth "Book" "entry_at", .meth "Book" "count", .meth "Book" "struck_on", .cls "Finder", .mkr "Finder", .meth "Finder" "rule", .meth "Finder" "fact", .meth "Finder" "room", .noat "Book" "_rows", .noat "Book" "_struck", .noat "Finder" "book", .noat "Finder" "person", .noat "Finder" "day", .noat "Finder" "known", .noat "Finder" "found", .noat "Stop" "kind", .noat "Stop" "name", .glo "KEPT", .glo "PAIRS", .glo "TESTS", .glo "JOINTS"]
/-- an own class over Exception with an own __init__ -/
def stopB (K : PySem.W.Frag) (C : Addr) : Bool := match K.lookup C with
  | some ⟨.type "type", _, .cls cd, sl⟩ => (match cd.mro, sl.toList with
    | [.ref C', .type a, .type b, .type c], [_, _, _, _, some (.builtin n), _] => C' == C && (a == "Exception" && (b == "BaseException" && (c == "object" && (n == "Exception.__new__" && (cd.hasDict && !cd.hasDel)))))
    | _, _ => false)
  | _ => false
def stopF (K : PySem.W.Frag) (C : Addr) : Bool :=
  decide (PySem.W.findIn K (.ref C) "__setattr__" = some (some (.builtin "object.__setattr__"))) && (decide (PySem.W.subIn K (.ref C) (.type "BaseException") = some true) && (decide (PySem.W.typeIn K (.ref C) = some (.type "type")) && (PySem.W.keepIn K (.ref C) &&
    (decide (PySem.W.findIn K (.ref C) "__getattribute__" = some (some (.builtin "BaseException.__getattribute__"))) && (decide (PySem.W.findIn K (.ref C) "__getattr__" = some none) && (PySem.W.hasDictIn K C && (decide (PySem.W.exmOne K (.ref C) (.ref C) = some true) &&
      (decide (PySem.W.findIn K (.ref C) "__init__" = some (some (.ref (He.ma K C "__init__")))) && decide (PySem.W.typeIn K (.ref (He.ma K C "__init__")) = some (.type "function"))))))))))
def exL (K : PySem.W.Frag) : Bool := stopB K (He.ga K "Stop") && (stopF K (He.ga K "Stop") && (He.tupB K "KEPT" [.str "fact", .str "known", .str "due", .str "or", .str "plus", .str "minus", .str "times", .str "least", .str "most", .str "percent", .str "if", .str "below", .str "same", .str "not", .str "both", .str "either"] && (He.tupB K "PAIRS" [.str "plus", .str "minus", .str "times", .str "least", .str "most"] && (He.tupB K "TESTS" [.str "below", .str "same"] && He.tupB K "JOINTS" [.str "both", .str "either"]))))
def lo1 : List Str := [("WritError" : Str), ("BadText" : Str), ("NotAllowed" : Str), ("LETTERS" : Str), ("DIGITS" : Str), ("KEPT" : Str), ("MOST_CHARACTERS" : Str), ("MOST_DIGITS" : Str), ("LAST_DAY" : Str), ("PAIRS" : Str), ("TESTS" : Str), ("JOINTS" : Str), ("MOST_WORDS" : Str), ("MOST_PERCENT" : Str), ("MOST_ENTRIES" : Str), ("Book" : Str), ("MOST_OPEN" : Str), ("MOST_LOOKUPS" : Str), ("LARGEST" : Str), ("Stop" : Str), ("Finder" : Str), ("split_words" : Str), ("is_name" : Str), ("is_number" : Str), ("word_at" : Str), ("is_day" : Str), ("is_span" : Str), ("parse_name" : Str), ("parse_fact" : Str), ("parse_percent" : Str), ("parse_if" : Str), ("parse_part" : Str), ("parse_condition" : Str), ("parse_amount" : Str), ("check_report" : Str), ("check_enactment" : Str), ("stands" : Str), ("holds_on" : Str)]
def lo2 : List Str := [("last_of" : Str), ("fact_at" : Str), ("rule_at" : Str), ("book_of" : Str), ("read_fact" : Str), ("bounded" : Str), ("read_rule" : Str), ("read" : Str), ("read_condition" : Str), ("reading" : Str), ("decide" : Str), ("edges_of" : Str), ("course" : Str), ("total" : Str), ("_law_row" : Str), ("_law_kept" : Str), ("_law_name" : Str), ("_law_names" : Str), ("_law_next" : Str), ("_law_number" : Str), ("_law_amount" : Str), ("_law_condition" : Str), ("_law_words" : Str), ("_law_rule_amount" : Str), ("_law_span" : Str), ("_law_free" : Str), ("_law_entry" : Str), ("_law_names_of" : Str), ("_law_world" : Str), ("_law_claim" : Str), ("_law_joined" : Str)]
def loose : List Str := lo1 ++ lo2
abbrev R : PySem.W.OpenRow := PySem.W.OpenLaw.row PySem.Challenge.rw_duewrits_k14_whole_totals_of_parts
abbrev hk : PySem.W.Hook := He.hookX 5 faL fnL [] [] exL
def ob (s : PySem.W.SharedT) : He.AlX := He.obsX 5 faL fnL [] [] exL (HandSHeadRun.getT s)
theorem ob_eq (s : PySem.W.SharedT) : ob s = hk.obs s.abs := He.obsX_eq (HandSHeadRun.getT_eq s)
theorem run (w : World) : HandSHeadRun.RunEq R (PySem.W.view R.prog [76]) hk ob 4000 loose w := by
  intro os
  kernel_rfl
end K14

set_option Elab.async false
set_option maxRecDepth 100000
set_option maxHeartbeats 4000000
/-! the head's facts joined with the walks (printed by mkf.py) -/
namespace K14
open PySem PySem.Spec PyProof.Rows L2
open C8 (Cal Met Mak)
section
variable {K : PySem.W.Frag} {mg : Str → Option Value}
theorem gfOf {x : Str} {st : Stmt} {ps : List Str} (F : ∃ fd, FnP K x x st (He.ga K x) fd) (g : mg x = some (.ref (He.ga K x))) (b : ∀ fd, FnP K x x st (He.ga K x) fd → Binds K fd ps []) : Gf K mg x st ps := by
  obtain ⟨fd, F⟩ := F
  exact ⟨_, fd, F, g, b fd F⟩
theorem mfOf {C : Addr} {m q : Str} {st : Stmt} {ps : List Str} (F : ∃ fd, FnP K m q st (He.ma K C m) fd) (cl : Cls K C) (me : Meth K C m (He.ma K C m)) (b : ∀ fd, FnP K m q st (He.ma K C m) fd → Binds K fd ps []) : Mf K C m q st ps := by
  obtain ⟨fd, F⟩ := F
  exact ⟨_, fd, F, cl, me, b fd F⟩
theorem ifOf {C : Addr} {x q : Str} {st : Stmt} {ps : List Str} (F : ∃ fd, FnP K "__init__" q st (He.ma K C "__init__") fd) (mk : Mk K C (He.ma K C "__init__")) (g : mg x = some (.ref C)) (b : ∀ fd, FnP K "__init__" q st (He.ma K C "__init__") fd → Binds K fd ps []) : If K mg x C q st ps := by
  obtain ⟨fd, F⟩ := F
  exact ⟨_, fd, F, mk, g, b fd F⟩
theorem stopB_ok {C : Addr} (h : stopB K C = true) : ∃ nm q N bs sn sub ab col dd k0 k1 k2 k3 k5, K.lookup C = some (excClassObj nm q C N bs PySem.ESX.exTail true sn sub ab col dd k0 k1 k2 k3 k5 "Exception.__new__") := by
  unfold stopB at h
  split at h
  · rename_i dd cd sl ho
    split at h
    · rename_i C' a b c k0 k1 k2 k3 n k5 hm hs
      simp only [Bool.and_eq_true, beq_iff_eq, Bool.not_eq_true'] at h
      obtain ⟨rfl, rfl, rfl, rfl, rfl, hd, hdel⟩ := h
      obtain ⟨nm, bs, mro, ns, qn, hd', sn, sub, ab, col, del⟩ := cd
      dsimp only at hm hdel hd
      subst hm hdel hd
      have hsl : sl = #[k0, k1, k2, k3, some (.builtin "Exception.__new__"), k5] := by
        obtain ⟨l⟩ := sl
        simp only at hs
        rw [hs]
      subst hsl
      exact ⟨nm, qn, ns, bs, sn, sub, ab, col, dd, k0, k1, k2, k3, k5, ho⟩
    · cases h
  · cases h
end
section
variable {K : PySem.W.Frag} {mg : Str → Option Value} {h : Heap}
theorem g11 (X : K.In h) (G : h.Ns mainGlobals mg) (c : He.SaysD faL fnL K) : Gf K mg "split_words" (top 11) ["text"] := gfOf (c.def_ 0 (d := d11) rfl) (He.glo_ok X G (c.fact 0 (f := .glo "split_words") rfl)) (fun fd F => F.bindsN fun _ _ _ _ _ _ us hl => match us, hl with | [_], _ => rfl)
theorem g12 (X : K.In h) (G : h.Ns mainGlobals mg) (c : He.SaysD faL fnL K) : Gf K mg "is_name" (top 12) ["word"] := gfOf (c.def_ 1 (d := d12) rfl) (He.glo_ok X G (c.fact 1 (f := .glo "is_name") rfl)) (fun fd F => F.bindsN fun _ _ _ _ _ _ us hl => match us, hl with | [_], _ => rfl)
theorem g13 (X : K.In h) (G : h.Ns mainGlobals mg) (c : He.SaysD faL fnL K) : Gf K mg "is_number" (top 13) ["word"] := gfOf (c.def_ 2 (d := d13) rfl) (He.glo_ok X G (c.fact 2 (f := .glo "is_number") rfl)) (fun fd F => F.bindsN fun _ _ _ _ _ _ us hl => match us, hl with | [_], _ => rfl)
theorem g14 (X : K.In h) (G : h.Ns mainGlobals mg) (c : He.SaysD faL fnL K) : Gf K mg "word_at" (top 14) ["words", "at"] := gfOf (c.def_ 3 (d := d14) rfl) (He.glo_ok X G (c.fact 3 (f := .glo "word_at") rfl)) (fun fd F => F.bindsN fun _ _ _ _ _ _ us hl => match us, hl with | [_, _], _ => rfl)
theorem g15 (X : K.In h) (G : h.Ns mainGlobals mg) (c : He.SaysD faL fnL K) : Gf K mg "is_day" (top 15) ["day"] := gfOf (c.def_ 4 (d := d15) rfl) (He.glo_ok X G (c.fact 4 (f := .glo "is_day") rfl)) (fun fd F => F.bindsN fun _ _ _ _ _ _ us hl => match us, hl with | [_], _ => rfl)
theorem g16 (X : K.In h) (G : h.Ns mainGlobals mg) (c : He.SaysD faL fnL K) : Gf K mg "is_span" (top 16) ["span"] := gfOf (c.def_ 5 (d := d16) rfl) (He.glo_ok X G (c.fact 5 (f := .glo "is_span") rfl)) (fun fd F => F.bindsN fun _ _ _ _ _ _ us hl => match us, hl with | [_], _ => rfl)
theorem g23 (X : K.In h) (G : h.Ns mainGlobals mg) (c : He.SaysD faL fnL K) : Gf K mg "parse_name" (top 23) ["words", "at"] := gfOf (c.def_ 6 (d := d23) rfl) (He.glo_ok X G (c.fact 6 (f := .glo "parse_name") rfl)) (fun fd F => F.bindsN fun _ _ _ _ _ _ us hl => match us, hl with | [_, _], _ => rfl)
theorem g24 (X : K.In h) (G : h.Ns mainGlobals mg) (c : He.SaysD faL fnL K) : Gf K mg "parse_fact" (top 24) ["words", "at"] := gfOf (c.def_ 7 (d := d24) rfl) (He.glo_ok X G (c.fact 7 (f := .glo "parse_fact") rfl)) (fun fd F => F.bindsN fun _ _ _ _ _ _ us hl => match us, hl with | [_, _], _ => rfl)
theorem g25 (X : K.In h) (G : h.Ns mainGlobals mg) (c : He.SaysD faL fnL K) : Gf K mg "parse_percent" (top 25) ["words", "at"] := gfOf (c.def_ 8 (d := d25) rfl) (He.glo_ok X G (c.fact 8 (f := .glo "parse_percent") rfl)) (fun fd F => F.bindsN fun _ _ _ _ _ _ us hl => match us, hl with | [_, _], _ => rfl)
theorem g26 (X : K.In h) (G : h.Ns mainGlobals mg) (c : He.SaysD faL fnL K) : Gf K mg "parse_if" (top 26) ["words", "at"] := gfOf (c.def_ 9 (d := d26) rfl) (He.glo_ok X G (c.fact 9 (f := .glo "parse_if") rfl)) (fun fd F => F.bindsN fun _ _ _ _ _ _ us hl => match us, hl with | [_, _], _ => rfl)
theorem g27 (X : K.In h) (G : h.Ns mainGlobals mg) (c : He.SaysD faL fnL K) : Gf K mg "parse_part" (top 27) ["words", "at"] := gfOf (c.def_ 10 (d := d27) rfl) (He.glo_ok X G (c.fact 10 (f := .glo "parse_part") rfl)) (fun fd F => F.bindsN fun _ _ _ _ _ _ us hl => match us, hl with | [_, _], _ => rfl)
theorem g28 (X : K.In h) (G : h.Ns mainGlobals mg) (c : He.SaysD faL fnL K) : Gf K mg "parse_condition" (top 28) ["words", "at"] := gfOf (c.def_ 11 (d := d28) rfl) (He.glo_ok X G (c.fact 11 (f := .glo "parse_condition") rfl)) (fun fd F => F.bindsN fun _ _ _ _ _ _ us hl => match us, hl with | [_, _], _ => rfl)
theorem g29 (X : K.In h) (G : h.Ns mainGlobals mg) (c : He.SaysD faL fnL K) : Gf K mg "parse_amount" (top 29) ["text"] := gfOf (c.def_ 12 (d := d29) rfl) (He.glo_ok X G (c.fact 12 (f := .glo "parse_amount") rfl)) (fun fd F => F.bindsN fun _ _ _ _ _ _ us hl => match us, hl with | [_], _ => rfl)
theorem g32 (X : K.In h) (G : h.Ns mainGlobals mg) (c : He.SaysD faL fnL K) : Gf K mg "check_report" (top 32) ["entry"] := gfOf (c.def_ 13 (d := d32) rfl) (He.glo_ok X G (c.fact 13 (f := .glo "check_report") rfl)) (fun fd F => F.bindsN fun _ _ _ _ _ _ us hl => match us, hl with | [_], _ => rfl)
theorem g33 (X : K.In h) (G : h.Ns mainGlobals mg) (c : He.SaysD faL fnL K) : Gf K mg "check_enactment" (top 33) ["entry"] := gfOf (c.def_ 14 (d := d33) rfl) (He.glo_ok X G (c.fact 14 (f := .glo "check_enactment") rfl)) (fun fd F => F.bindsN fun _ _ _ _ _ _ us hl => match us, hl with | [_], _ => rfl)
theorem g35 (X : K.In h) (G : h.Ns mainGlobals mg) (c : He.SaysD faL fnL K) : Gf K mg "stands" (top 35) ["book", "index", "known"] := gfOf (c.def_ 15 (d := d35) rfl) (He.glo_ok X G (c.fact 15 (f := .glo "stands") rfl)) (fun fd F => F.bindsN fun _ _ _ _ _ _ us hl => match us, hl with | [_, _, _], _ => rfl)
theorem g36 (X : K.In h) (G : h.Ns mainGlobals mg) (c : He.SaysD faL fnL K) : Gf K mg "holds_on" (top 36) ["entry", "day"] := gfOf (c.def_ 16 (d := d36) rfl) (He.glo_ok X G (c.fact 16 (f := .glo "holds_on") rfl)) (fun fd F => F.bindsN fun _ _ _ _ _ _ us hl => match us, hl with | [_, _], _ => rfl)
theorem g37 (X : K.In h) (G : h.Ns mainGlobals mg) (c : He.SaysD faL fnL K) : Gf K mg "last_of" (top 37) ["book", "kind", "names", "day", "known"] := gfOf (c.def_ 17 (d := d37) rfl) (He.glo_ok X G (c.fact 17 (f := .glo "last_of") rfl)) (fun fd F => F.bindsN fun _ _ _ _ _ _ us hl => match us, hl with | [_, _, _, _, _], _ => rfl)
theorem g38 (X : K.In h) (G : h.Ns mainGlobals mg) (c : He.SaysD faL fnL K) : Gf K mg "fact_at" (top 38) ["book", "person", "fact", "day", "known"] := gfOf (c.def_ 18 (d := d38) rfl) (He.glo_ok X G (c.fact 18 (f := .glo "fact_at") rfl)) (fun fd F => F.bindsN fun _ _ _ _ _ _ us hl => match us, hl with | [_, _, _, _, _], _ => rfl)
theorem g39 (X : K.In h) (G : h.Ns mainGlobals mg) (c : He.SaysD faL fnL K) : Gf K mg "rule_at" (top 39) ["book", "rule", "day", "known"] := gfOf (c.def_ 19 (d := d39) rfl) (He.glo_ok X G (c.fact 19 (f := .glo "rule_at") rfl)) (fun fd F => F.bindsN fun _ _ _ _ _ _ us hl => match us, hl with | [_, _, _, _], _ => rfl)
theorem g40 (X : K.In h) (G : h.Ns mainGlobals mg) (c : He.SaysD faL fnL K) : Gf K mg "book_of" (top 40) ["entries"] := gfOf (c.def_ 20 (d := d40) rfl) (He.glo_ok X G (c.fact 20 (f := .glo "book_of") rfl)) (fun fd F => F.bindsN fun _ _ _ _ _ _ us hl => match us, hl with | [_], _ => rfl)
theorem g47 (X : K.In h) (G : h.Ns mainGlobals mg) (c : He.SaysD faL fnL K) : Gf K mg "read_fact" (top 47) ["source", "part", "open_rules"] := gfOf (c.def_ 21 (d := d47) rfl) (He.glo_ok X G (c.fact 21 (f := .glo "read_fact") rfl)) (fun fd F => F.bindsN fun _ _ _ _ _ _ us hl => match us, hl with | [_, _, _], _ => rfl)
theorem g48 (X : K.In h) (G : h.Ns mainGlobals mg) (c : He.SaysD faL fnL K) : Gf K mg "bounded" (top 48) ["value", "open_rules"] := gfOf (c.def_ 22 (d := d48) rfl) (He.glo_ok X G (c.fact 22 (f := .glo "bounded") rfl)) (fun fd F => F.bindsN fun _ _ _ _ _ _ us hl => match us, hl with | [_, _], _ => rfl)
theorem g49 (X : K.In h) (G : h.Ns mainGlobals mg) (c : He.SaysD faL fnL K) : Gf K mg "read_rule" (top 49) ["source", "name", "open_rules"] := gfOf (c.def_ 23 (d := d49) rfl) (He.glo_ok X G (c.fact 23 (f := .glo "read_rule") rfl)) (fun fd F => F.bindsN fun _ _ _ _ _ _ us hl => match us, hl with | [_, _, _], _ => rfl)
theorem g50 (X : K.In h) (G : h.Ns mainGlobals mg) (c : He.SaysD faL fnL K) : Gf K mg "read" (top 50) ["source", "part", "open_rules"] := gfOf (c.def_ 24 (d := d50) rfl) (He.glo_ok X G (c.fact 24 (f := .glo "read") rfl)) (fun fd F => F.bindsN fun _ _ _ _ _ _ us hl => match us, hl with | [_, _, _], _ => rfl)
theorem g51 (X : K.In h) (G : h.Ns mainGlobals mg) (c : He.SaysD faL fnL K) : Gf K mg "read_condition" (top 51) ["source", "part", "open_rules"] := gfOf (c.def_ 25 (d := d51) rfl) (He.glo_ok X G (c.fact 25 (f := .glo "read_condition") rfl)) (fun fd F => F.bindsN fun _ _ _ _ _ _ us hl => match us, hl with | [_, _, _], _ => rfl)
theorem g52 (X : K.In h) (G : h.Ns mainGlobals mg) (c : He.SaysD faL fnL K) : Gf K mg "reading" (top 52) ["source", "rule"] := gfOf (c.def_ 26 (d := d52) rfl) (He.glo_ok X G (c.fact 26 (f := .glo "reading") rfl)) (fun fd F => F.bindsN fun _ _ _ _ _ _ us hl => match us, hl with | [_, _], _ => rfl)
theorem g53 (X : K.In h) (G : h.Ns mainGlobals mg) (c : He.SaysD faL fnL K) : Gf K mg "decide" (top 53) ["book", "question"] := gfOf (c.def_ 27 (d := d53) rfl) (He.glo_ok X G (c.fact 27 (f := .glo "decide") rfl)) (fun fd F => F.bindsN fun _ _ _ _ _ _ us hl => match us, hl with | [_, _], _ => rfl)
theorem g55 (X : K.In h) (G : h.Ns mainGlobals mg) (c : He.SaysD faL fnL K) : Gf K mg "edges_of" (top 55) ["book", "span"] := gfOf (c.def_ 28 (d := d55) rfl) (He.glo_ok X G (c.fact 28 (f := .glo "edges_of") rfl)) (fun fd F => F.bindsN fun _ _ _ _ _ _ us hl => match us, hl with | [_, _], _ => rfl)
theorem g56 (X : K.In h) (G : h.Ns mainGlobals mg) (c : He.SaysD faL fnL K) : Gf K mg "course" (top 56) ["book", "claim", "known"] := gfOf (c.def_ 29 (d := d56) rfl) (He.glo_ok X G (c.fact 29 (f := .glo "course") rfl)) (fun fd F => F.bindsN fun _ _ _ _ _ _ us hl => match us, hl with | [_, _, _], _ => rfl)
theorem g57 (X : K.In h) (G : h.Ns mainGlobals mg) (c : He.SaysD faL fnL K) : Gf K mg "total" (top 57) ["book", "claim", "known"] := gfOf (c.def_ 30 (d := d57) rfl) (He.glo_ok X G (c.fact 30 (f := .glo "total") rfl)) (fun fd F => F.bindsN fun _ _ _ _ _ _ us hl => match us, hl with | [_, _, _], _ => rfl)
theorem g59 (X : K.In h) (G : h.Ns mainGlobals mg) (c : He.SaysD faL fnL K) : Gf K mg "_law_row" (top 59) ["_law_script", "_law_place", "_law_many"] := gfOf (c.def_ 31 (d := d59) rfl) (He.glo_ok X G (c.fact 31 (f := .glo "_law_row") rfl)) (fun fd F => F.bindsN fun _ _ _ _ _ _ us hl => match us, hl with | [_, _, _], _ => rfl)
theorem g60 (X : K.In h) (G : h.Ns mainGlobals mg) (c : He.SaysD faL fnL K) : Gf K mg "_law_kept" (top 60) [] := gfOf (c.def_ 32 (d := d60) rfl) (He.glo_ok X G (c.fact 32 (f := .glo "_law_kept") rfl)) (fun fd F => F.bindsN fun _ _ _ _ _ _ us hl => match us, hl with | [], _ => rfl)
theorem g61 (X : K.In h) (G : h.Ns mainGlobals mg) (c : He.SaysD faL fnL K) : Gf K mg "_law_name" (top 61) ["_law_row_here", "_law_k"] := gfOf (c.def_ 33 (d := d61) rfl) (He.glo_ok X G (c.fact 33 (f := .glo "_law_name") rfl)) (fun fd F => F.bindsN fun _ _ _ _ _ _ us hl => match us, hl with | [_, _], _ => rfl)
theorem g62 (X : K.In h) (G : h.Ns mainGlobals mg) (c : He.SaysD faL fnL K) : Gf K mg "_law_names" (top 62) ["_law_script", "_law_place", "_law_many"] := gfOf (c.def_ 34 (d := d62) rfl) (He.glo_ok X G (c.fact 34 (f := .glo "_law_names") rfl)) (fun fd F => F.bindsN fun _ _ _ _ _ _ us hl => match us, hl with | [_, _, _], _ => rfl)
theorem g63 (X : K.In h) (G : h.Ns mainGlobals mg) (c : He.SaysD faL fnL K) : Gf K mg "_law_next" (top 63) ["_law_draws", "_law_many"] := gfOf (c.def_ 35 (d := d63) rfl) (He.glo_ok X G (c.fact 35 (f := .glo "_law_next") rfl)) (fun fd F => F.bindsN fun _ _ _ _ _ _ us hl => match us, hl with | [_, _], _ => rfl)
theorem g64 (X : K.In h) (G : h.Ns mainGlobals mg) (c : He.SaysD faL fnL K) : Gf K mg "_law_number" (top 64) ["_law_draws"] := gfOf (c.def_ 36 (d := d64) rfl) (He.glo_ok X G (c.fact 36 (f := .glo "_law_number") rfl)) (fun fd F => F.bindsN fun _ _ _ _ _ _ us hl => match us, hl with | [_], _ => rfl)
theorem g65 (X : K.In h) (G : h.Ns mainGlobals mg) (c : He.SaysD faL fnL K) : Gf K mg "_law_amount" (top 65) ["_law_draws", "_law_depth", "_law_facts", "_law_rules"] := gfOf (c.def_ 37 (d := d65) rfl) (He.glo_ok X G (c.fact 37 (f := .glo "_law_amount") rfl)) (fun fd F => F.bindsN fun _ _ _ _ _ _ us hl => match us, hl with | [_, _, _, _], _ => rfl)
theorem g66 (X : K.In h) (G : h.Ns mainGlobals mg) (c : He.SaysD faL fnL K) : Gf K mg "_law_condition" (top 66) ["_law_draws", "_law_depth", "_law_facts", "_law_rules"] := gfOf (c.def_ 38 (d := d66) rfl) (He.glo_ok X G (c.fact 38 (f := .glo "_law_condition") rfl)) (fun fd F => F.bindsN fun _ _ _ _ _ _ us hl => match us, hl with | [_, _, _, _], _ => rfl)
theorem g67 (X : K.In h) (G : h.Ns mainGlobals mg) (c : He.SaysD faL fnL K) : Gf K mg "_law_words" (top 67) ["_law_part"] := gfOf (c.def_ 39 (d := d67) rfl) (He.glo_ok X G (c.fact 39 (f := .glo "_law_words") rfl)) (fun fd F => F.bindsN fun _ _ _ _ _ _ us hl => match us, hl with | [_], _ => rfl)
theorem g68 (X : K.In h) (G : h.Ns mainGlobals mg) (c : He.SaysD faL fnL K) : Gf K mg "_law_rule_amount" (top 68) ["_law_draws", "_law_facts", "_law_rules"] := gfOf (c.def_ 40 (d := d68) rfl) (He.glo_ok X G (c.fact 40 (f := .glo "_law_rule_amount") rfl)) (fun fd F => F.bindsN fun _ _ _ _ _ _ us hl => match us, hl with | [_, _, _], _ => rfl)
theorem g69 (X : K.In h) (G : h.Ns mainGlobals mg) (c : He.SaysD faL fnL K) : Gf K mg "_law_span" (top 69) ["_law_draws"] := gfOf (c.def_ 41 (d := d69) rfl) (He.glo_ok X G (c.fact 41 (f := .glo "_law_span") rfl)) (fun fd F => F.bindsN fun _ _ _ _ _ _ us hl => match us, hl with | [_], _ => rfl)
theorem g70 (X : K.In h) (G : h.Ns mainGlobals mg) (c : He.SaysD faL fnL K) : Gf K mg "_law_free" (top 70) ["_law_entries"] := gfOf (c.def_ 42 (d := d70) rfl) (He.glo_ok X G (c.fact 42 (f := .glo "_law_free") rfl)) (fun fd F => F.bindsN fun _ _ _ _ _ _ us hl => match us, hl with | [_], _ => rfl)
theorem g71 (X : K.In h) (G : h.Ns mainGlobals mg) (c : He.SaysD faL fnL K) : Gf K mg "_law_entry" (top 71) ["_law_draws", "_law_entries", "_law_came", "_law_names_here"] := gfOf (c.def_ 43 (d := d71) rfl) (He.glo_ok X G (c.fact 43 (f := .glo "_law_entry") rfl)) (fun fd F => F.bindsN fun _ _ _ _ _ _ us hl => match us, hl with | [_, _, _, _], _ => rfl)
theorem g72 (X : K.In h) (G : h.Ns mainGlobals mg) (c : He.SaysD faL fnL K) : Gf K mg "_law_names_of" (top 72) ["_law_script", "_law_place", "_law_alike"] := gfOf (c.def_ 44 (d := d72) rfl) (He.glo_ok X G (c.fact 44 (f := .glo "_law_names_of") rfl)) (fun fd F => F.bindsN fun _ _ _ _ _ _ us hl => match us, hl with | [_, _, _], _ => rfl)
theorem g73 (X : K.In h) (G : h.Ns mainGlobals mg) (c : He.SaysD faL fnL K) : Gf K mg "_law_world" (top 73) ["_law_script", "_law_place", "_law_most"] := gfOf (c.def_ 45 (d := d73) rfl) (He.glo_ok X G (c.fact 45 (f := .glo "_law_world") rfl)) (fun fd F => F.bindsN fun _ _ _ _ _ _ us hl => match us, hl with | [_, _, _], _ => rfl)
theorem g74 (X : K.In h) (G : h.Ns mainGlobals mg) (c : He.SaysD faL fnL K) : Gf K mg "_law_claim" (top 74) ["_law_row_here", "_law_names_here"] := gfOf (c.def_ 46 (d := d74) rfl) (He.glo_ok X G (c.fact 46 (f := .glo "_law_claim") rfl)) (fun fd F => F.bindsN fun _ _ _ _ _ _ us hl => match us, hl with | [_, _], _ => rfl)
theorem g75 (X : K.In h) (G : h.Ns mainGlobals mg) (c : He.SaysD faL fnL K) : Gf K mg "_law_joined" (top 75) ["_law_first", "_law_second"] := gfOf (c.def_ 47 (d := d75) rfl) (He.glo_ok X G (c.fact 47 (f := .glo "_law_joined") rfl)) (fun fd F => F.bindsN fun _ _ _ _ _ _ us hl => match us, hl with | [_, _], _ => rfl)
theorem g76 (X : K.In h) (G : h.Ns mainGlobals mg) (c : He.SaysD faL fnL K) : Gf K mg "law" (top 76) ["_law_script"] := gfOf (c.def_ 48 (d := d76) rfl) (He.glo_ok X G (c.fact 48 (f := .glo "law") rfl)) (fun fd F => F.bindsN fun _ _ _ _ _ _ us hl => match us, hl with | [_], _ => rfl)
theorem g34_0 (X : K.In h) (G : h.Ns mainGlobals mg) (c : He.SaysD faL fnL K) : If K mg "Book" (He.ga K "Book") "Book.__init__" (inClass (top 34) 0) ["self"] := ifOf (c.def_ 49 (d := d34_0) rfl) (He.mkr_ok (c.fact 73 (f := .mkr "Book") rfl)) (He.glo_ok X G (c.fact 49 (f := .glo "Book") rfl)) (fun fd F => F.bindsN fun _ _ _ _ _ _ us hl => match us, hl with | [_], _ => rfl)
theorem g34_1 (c : He.SaysD faL fnL K) : Mf K (He.ga K "Book") "_check" "Book._check" (inClass (top 34) 1) ["self", "entry"] := mfOf (c.def_ 50 (d := d34_1) rfl) (He.cls_ok (c.fact 72 (f := .cls "Book") rfl)) (He.meth_ok (c.fact 74 (f := .meth "Book" "_check") rfl)) (fun fd F => F.bindsN fun _ _ _ _ _ _ us hl => match us, hl with | [_, _], _ => rfl)
theorem g34_2 (c : He.SaysD faL fnL K) : Mf K (He.ga K "Book") "enter" "Book.enter" (inClass (top 34) 2) ["self", "entry"] := mfOf (c.def_ 51 (d := d34_2) rfl) (He.cls_ok (c.fact 72 (f := .cls "Book") rfl)) (He.meth_ok (c.fact 75 (f := .meth "Book" "enter") rfl)) (fun fd F => F.bindsN fun _ _ _ _ _ _ us hl => match us, hl with | [_, _], _ => rfl)
theorem g34_3 (c : He.SaysD faL fnL K) : Mf K (He.ga K "Book") "entries" "Book.entries" (inClass (top 34) 3) ["self"] := mfOf (c.def_ 52 (d := d34_3) rfl) (He.cls_ok (c.fact 72 (f := .cls "Book") rfl)) (He.meth_ok (c.fact 76 (f := .meth "Book" "entries") rfl)) (fun fd F => F.bindsN fun _ _ _ _ _ _ us hl => match us, hl with | [_], _ => rfl)
theorem g34_4 (c : He.SaysD faL fnL K) : Mf K (He.ga K "Book") "entry_at" "Book.entry_at" (inClass (top 34) 4) ["self", "index"] := mfOf (c.def_ 53 (d := d34_4) rfl) (He.cls_ok (c.fact 72 (f := .cls "Book") rfl)) (He.meth_ok (c.fact 77 (f := .meth "Book" "entry_at") rfl)) (fun fd F => F.bindsN fun _ _ _ _ _ _ us hl => match us, hl with | [_, _], _ => rfl)
theorem g34_5 (c : He.SaysD faL fnL K) : Mf K (He.ga K "Book") "count" "Book.count" (inClass (top 34) 5) ["self"] := mfOf (c.def_ 54 (d := d34_5) rfl) (He.cls_ok (c.fact 72 (f := .cls "Book") rfl)) (He.meth_ok (c.fact 78 (f := .meth "Book" "count") rfl)) (fun fd F => F.bindsN fun _ _ _ _ _ _ us hl => match us, hl with | [_], _ => rfl)
theorem g34_6 (c : He.SaysD faL fnL K) : Mf K (He.ga K "Book") "struck_on" "Book.struck_on" (inClass (top 34) 6) ["self", "index"] := mfOf (c.def_ 55 (d := d34_6) rfl) (He.cls_ok (c.fact 72 (f := .cls "Book") rfl)) (He.meth_ok (c.fact 79 (f := .meth "Book" "struck_on") rfl)) (fun fd F => F.bindsN fun _ _ _ _ _ _ us hl => match us, hl with | [_, _], _ => rfl)
theorem g46_0 (X : K.In h) (G : h.Ns mainGlobals mg) (c : He.SaysD faL fnL K) : If K mg "Finder" (He.ga K "Finder") "Finder.__init__" (inClass (top 46) 0) ["self", "book", "person", "day", "known"] := ifOf (c.def_ 56 (d := d46_0) rfl) (He.mkr_ok (c.fact 81 (f := .mkr "Finder") rfl)) (He.glo_ok X G (c.fact 50 (f := .glo "Finder") rfl)) (fun fd F => F.bindsN fun _ _ _ _ _ _ us hl => match us, hl with | [_, _, _, _, _], _ => rfl)
theorem g46_1 (c : He.SaysD faL fnL K) : Mf K (He.ga K "Finder") "rule" "Finder.rule" (inClass (top 46) 1) ["self", "name"] := mfOf (c.def_ 57 (d := d46_1) rfl) (He.cls_ok (c.fact 80 (f := .cls "Finder") rfl)) (He.meth_ok (c.fact 82 (f := .meth "Finder" "rule") rfl)) (fun fd F => F.bindsN fun _ _ _ _ _ _ us hl => match us, hl with | [_, _], _ => rfl)
theorem g46_2 (c : He.SaysD faL fnL K) : Mf K (He.ga K "Finder") "fact" "Finder.fact" (inClass (top 46) 2) ["self", "name"] := mfOf (c.def_ 58 (d := d46_2) rfl) (He.cls_ok (c.fact 80 (f := .cls "Finder") rfl)) (He.meth_ok (c.fact 83 (f := .meth "Finder" "fact") rfl)) (fun fd F => F.bindsN fun _ _ _ _ _ _ us hl => match us, hl with | [_, _], _ => rfl)
theorem g46_3 (c : He.SaysD faL fnL K) : Mf K (He.ga K "Finder") "room" "Finder.room" (inClass (top 46) 3) ["self", "name"] := mfOf (c.def_ 59 (d := d46_3) rfl) (He.cls_ok (c.fact 80 (f := .cls "Finder") rfl)) (He.meth_ok (c.fact 84 (f := .meth "Finder" "room") rfl)) (fun fd F => F.bindsN fun _ _ _ _ _ _ us hl => match us, hl with | [_, _], _ => rfl)
theorem g45_0 (c : He.SaysD faL fnL K) : ∃ fd, FnP K "__init__" "Stop.__init__" (inClass (top 45) 0) (He.ma K (He.ga K "Stop") "__init__") fd ∧ Binds K fd ["self", "kind", "name"] [] := by
  obtain ⟨fd, F⟩ := c.def_ 60 (d := d45_0) rfl
  exact ⟨fd, F, F.bindsN fun _ _ _ _ _ _ us hl => match us, hl with | [_, _, _], _ => rfl⟩
theorem txOf (X : K.In h) (G : h.Ns mainGlobals mg) (c : He.SaysD faL fnL K) (ex : exL K = true) : Tx K mg := by
  obtain ⟨_, ex⟩ := He.ba ex
  obtain ⟨_, ex⟩ := He.ba ex
  obtain ⟨e1, ex⟩ := He.ba ex
  obtain ⟨e2, ex⟩ := He.ba ex
  obtain ⟨e3, e4⟩ := He.ba ex
  exact ⟨He.free_ok X G (c.fact 52 (f := .free "len") rfl), He.free_ok X G (c.fact 53 (f := .free "int") rfl), He.free_ok X G (c.fact 54 (f := .free "abs") rfl), He.free_ok X G (c.fact 55 (f := .free "range") rfl), He.free_ok X G (c.fact 56 (f := .free "list") rfl), He.free_ok X G (c.fact 57 (f := .free "sorted") rfl), He.free_ok X G (c.fact 58 (f := .free "min") rfl), He.free_ok X G (c.fact 59 (f := .free "max") rfl), He.free_ok X G (c.fact 60 (f := .free "str") rfl), He.int_ok X G (c.fact 61 (f := .int "MOST_CHARACTERS" 12) rfl), He.int_ok X G (c.fact 62 (f := .int "MOST_DIGITS" 9) rfl), He.int_ok X G (c.fact 63 (f := .int "LAST_DAY" 9999) rfl), He.int_ok X G (c.fact 64 (f := .int "MOST_WORDS" 40) rfl), He.int_ok X G (c.fact 65 (f := .int "MOST_PERCENT" 1000) rfl), He.int_ok X G (c.fact 66 (f := .int "MOST_ENTRIES" 100) rfl), He.int_ok X G (c.fact 67 (f := .int "MOST_OPEN" 6) rfl), He.int_ok X G (c.fact 68 (f := .int "MOST_LOOKUPS" 100) rfl), He.int_ok X G (c.fact 69 (f := .int "LARGEST" 1000000000000000) rfl), He.str_ok X G (c.fact 70 (f := .str "LETTERS" "abcdefghijklmnopqrstuvwxyz") rfl), He.str_ok X G (c.fact 71 (f := .str "DIGITS" "0123456789") rfl), ⟨_, He.glo_ok X G (c.fact 94 (f := .glo "KEPT") rfl), fun H => He.tupB_ok e1 H⟩, ⟨_, He.glo_ok X G (c.fact 95 (f := .glo "PAIRS") rfl), fun H => He.tupB_ok e2 H⟩, ⟨_, He.glo_ok X G (c.fact 96 (f := .glo "TESTS") rfl), fun H => He.tupB_ok e3 H⟩, ⟨_, He.glo_ok X G (c.fact 97 (f := .glo "JOINTS") rfl), fun H => He.tupB_ok e4 H⟩⟩
theorem bookC (c : He.SaysD faL fnL K) : BookC K (He.ga K "Book") := ⟨He.cls_ok (c.fact 72 (f := .cls "Book") rfl), He.noat_ok (c.fact 85 (f := .noat "Book" "_rows") rfl), He.noat_ok (c.fact 86 (f := .noat "Book" "_struck") rfl)⟩
theorem finC (c : He.SaysD faL fnL K) : FinC K (He.ga K "Finder") := ⟨He.cls_ok (c.fact 80 (f := .cls "Finder") rfl), He.noat_ok (c.fact 87 (f := .noat "Finder" "book") rfl), He.noat_ok (c.fact 88 (f := .noat "Finder" "person") rfl), He.noat_ok (c.fact 89 (f := .noat "Finder" "day") rfl), He.noat_ok (c.fact 90 (f := .noat "Finder" "known") rfl), He.noat_ok (c.fact 91 (f := .noat "Finder" "found") rfl)⟩
theorem stopF_ok (X : K.In h) (G : h.Ns mainGlobals mg) (c : He.SaysD faL fnL K) (ex : exL K = true) : StopF K mg (He.ga K "Stop") := by
  obtain ⟨b1, ex⟩ := He.ba ex
  obtain ⟨b2, _⟩ := He.ba ex
  obtain ⟨f1, b2⟩ := He.ba b2
  obtain ⟨f2, b2⟩ := He.ba b2
  obtain ⟨f3, b2⟩ := He.ba b2
  obtain ⟨f4, b2⟩ := He.ba b2
  obtain ⟨f5, b2⟩ := He.ba b2
  obtain ⟨f6, b2⟩ := He.ba b2
  obtain ⟨f7, b2⟩ := He.ba b2
  obtain ⟨f8, b2⟩ := He.ba b2
  obtain ⟨f9, f10⟩ := He.ba b2
  obtain ⟨fd, F, B⟩ := g45_0 c
  exact ⟨⟨stopB_ok b1, of_decide_eq_true f1, of_decide_eq_true f2, of_decide_eq_true f3, f4⟩, He.glo_ok X G (c.fact 51 (f := .glo "Stop") rfl), He.noat_ok (c.fact 92 (f := .noat "Stop" "kind") rfl), He.noat_ok (c.fact 93 (f := .noat "Stop" "name") rfl), ⟨of_decide_eq_true f5, of_decide_eq_true f6, of_decide_eq_true f2, f7⟩, of_decide_eq_true f8, _, fd, of_decide_eq_true f9, of_decide_eq_true f10, F, B⟩
/-- the law's def keeps its promise -/
theorem facts {P : Program} {w : World} {f : Addr} (X : K.In h) (G : h.Ns mainGlobals mg) (hfa : mg ("law" : Str) = some (.ref f)) (c : He.SaysD faL fnL K) (ex : exL K = true) :
    ∃ fd : FuncData, (∀ (s : Shared) (v : Value), BindsTo s fd ⟨[v], []⟩ [("_law_script", v)]) ∧ ∀ base : Heap, K.In base → base.Ns mainGlobals mg → FnOk P w K mg base CX0 71 f fd ["_law_script"] (spLaw K) := by
  obtain ⟨fd, F⟩ := c.def_ 48 (d := d76) rfl
  have e := hfa.symm.trans (He.glo_ok X G (c.fact 48 (f := .glo "law") rfl))
  cases e
  have b := FunD.bindsA (ps := ["_law_script"]) F fun _ _ _ _ _ _ us hl => match us, hl with | [_], _ => rfl
  refine ⟨fd, fun s v => b s [v] rfl, fun base _ _ => ?_⟩
  have T : Tx K mg := txOf X G c ex
  have BC := bookC c
  have FC := finC c
  have SF : StopF K mg (He.ga K "Stop") := stopF_ok X G c ex
  have GT : GTexts K mg := ⟨g11 X G c, g12 X G c, g13 X G c, g14 X G c, g15 X G c, g16 X G c, g23 X G c, g24 X G c, g25 X G c, g26 X G c, g27 X G c, g28 X G c, g29 X G c⟩
  have cPA : Cal P w K mg base 11 "parse_amount" (spAmount K) [] := c_parse_amount GT T
  have cDay : Cal P w K mg base 1 "is_day" spIsDay [] := c_is_day (g15 X G c) T
  have cSpan : Cal P w K mg base 1 "is_span" (spIsSpan K) [] := c_is_span (g16 X G c) T
  have cName : Cal P w K mg base 1 "is_name" spIsName [] := c_is_name (g12 X G c) T
  have mE : Met P w K mg base 1 (He.ga K "Book") "entry_at" (spEntryAt K (He.ga K "Book")) [] := m_entry_at (g34_4 c) BC
  have mC : Met P w K mg base 1 (He.ga K "Book") "count" (spCount K (He.ga K "Book")) [] := m_count (g34_5 c) BC T
  have mS : Met P w K mg base 1 (He.ga K "Book") "struck_on" (spStruckOn K (He.ga K "Book")) [] := m_struck_on (g34_6 c) BC
  have mL : Met P w K mg base 1 (He.ga K "Book") "entries" (spEntries K (He.ga K "Book")) [] := m_entries (g34_3 c) BC T
  have cSt : Cal P w K mg base 2 "stands" (spStands K (He.ga K "Book")) [] := c_stands (g35 X G c) mE mS
  have cLo : Cal P w K mg base 3 "last_of" (spLastOf K (He.ga K "Book")) [] := c_last_of (g37 X G c) T mC mE cSt (c_holds_on (g36 X G c))
  have cFa : Cal P w K mg base 4 "fact_at" (spFactAt K (He.ga K "Book")) [] := c_fact_at (g38 X G c) cLo
  have cRu : Cal P w K mg base 4 "rule_at" (spRuleAt K (He.ga K "Book")) [] := c_rule_at (g39 X G c) cLo
  have mCh : Met P w K mg base 13 (He.ga K "Book") "_check" (spCheck K (He.ga K "Book")) [] := m_check (g34_1 c) BC T cDay (c_check_report (g32 X G c) T cName cSpan) (c_check_enactment (g33 X G c) cName cSpan cPA)
  have cBo : Cal P w K mg base 15 "book_of" (spBookOf K (He.ga K "Book")) [] := c_book_of (g40 X G c) (k_book_init (g34_0 X G c) BC) (m_enter (g34_2 c) BC mCh)
  have mRo : MetX P w K mg base 3 (He.ga K "Finder") "room" (spRoom K (He.ga K "Finder") (He.ga K "Book") (He.ga K "Stop")) := m_room (g46_3 c) FC SF T
  have mRu : MetX P w K mg base 5 (He.ga K "Finder") "rule" (spFRule K (He.ga K "Finder") (He.ga K "Book") (He.ga K "Stop")) := m_rule (g46_1 c) FC mRo cRu
  have mFa : MetX P w K mg base 5 (He.ga K "Finder") "fact" (spFFact K (He.ga K "Finder") (He.ga K "Book") (He.ga K "Stop")) := m_fact (g46_2 c) FC mRo cFa
  have cBd : CalX P w K mg base 3 "bounded" (spBounded (He.ga K "Stop")) := c_bounded (g48 X G c) SF T
  have GR : GRead K mg := ⟨g47 X G c, g49 X G c, g50 X G c, g51 X G c⟩
  have cRR : CalX P w K mg base 66 "read_rule" (spRule K (He.ga K "Finder") (He.ga K "Book") (He.ga K "Stop") 6) := rule_all GR FC SF T mFa mRu mE cPA cBd 6
  have cDe : Cal P w K mg base 68 "decide" (spDecide K (He.ga K "Book")) [] := c_decide (g53 X G c) FC (k_finder_init (g46_0 X G c) FC) (c_reading (g52 X G c) SF cRR)
  have cCo : Cal P w K mg base 69 "course" (spCourse K (He.ga K "Book")) [] := c_course (g56 X G c) T (c_edges_of (g55 X G c) T mL) cDe
  have cTo : Cal P w K mg base 70 "total" (spTotal K (He.ga K "Book")) [] := c_total (g57 X G c) cCo
  have lR : Cal P w K mg base 1 "_law_row" (spRow K) [] := c_row (g59 X G c) T
  have lN : Cal P w K mg base 1 "_law_next" spNext [] := c_next (g63 X G c) T
  have lU : Cal P w K mg base 2 "_law_number" spNumber [] := c_number (g64 X G c) lN
  have lA : Cal P w K mg base 6 "_law_amount" (spDraw K true 4) [] := (draw_all (g65 X G c) (g66 X G c) T lN lU 4).1
  have lW : Cal P w K mg base 5 "_law_words" (spWords K 4) [] := words_all (g67 X G c) T 4
  have lRA : Cal P w K mg base 7 "_law_rule_amount" (spRuleAmt K) [] := c_rule_amount (g68 X G c) T lN lA lW
  have lS : Cal P w K mg base 2 "_law_span" (spSpan K) [] := c_span (g69 X G c) T lN
  have lF : Cal P w K mg base 1 "_law_free" (spFree K) [] := c_free (g70 X G c) T
  have lE : Cal P w K mg base 8 "_law_entry" (spEntryD K) [] := c_entry (g71 X G c) T lN lU lS lF lRA lW
  have lNm : Cal P w K mg base 2 "_law_name" (spName K) [] := c_name (g61 X G c) T (c_kept (g60 X G c))
  have lNs : Cal P w K mg base 3 "_law_names" (spNames K) [] := c_names (g62 X G c) T lR lNm
  have lNo : Cal P w K mg base 4 "_law_names_of" (spNamesOf K) [] := c_names_of (g72 X G c) lNs
  have lWo : Cal P w K mg base 9 "_law_world" (spWorld K) [] := c_world (g73 X G c) T lR lNo lN lE
  exact ok_law F T lWo cBo lR (c_claim (g74 X G c) T) cTo cCo (c_joined (g75 X G c))
end
end K14

set_option Elab.async false
set_option linter.all false
set_option maxRecDepth 100000
set_option maxHeartbeats 0
open PySem PySem.W PySem.Calls PyProof.Rows
theorem PySem.Challenge.cw_duewrits_k14_whole_totals_of_parts_holds : PySem.Challenge.rw_duewrits_k14_whole_totals_of_parts.Holds := by
  w_on; o_law
  refine HandSHeadRun.head_any (r := OpenLaw.row PySem.Challenge.rw_duewrits_k14_whole_totals_of_parts) (q := view (OpenLaw.row PySem.Challenge.rw_duewrits_k14_whole_totals_of_parts).prog [76]) (H := K14.hk) (ob := K14.ob) (M := 4000) (loose := K14.loose) (d := HandSHeadRun.topDef (OpenLaw.row PySem.Challenge.rw_duewrits_k14_whole_totals_of_parts).prog 76) (kwd := []) K14.ob_eq
    (by kernel_rfl) (fun s => by kernel_rfl) K14.run (by kernel_rfl) (by kernel_rfl) (by kernel_rfl) (by rfl) (by first | assumption | decide +kernel) (by decide +kernel) ⟨rfl, rfl, rfl, rfl, rfl, by decide +kernel⟩ ?hw ?hc
  case hw => w_witness2
  case hc =>
    refine L2.walk_ofE (l := PySem.Challenge.rw_duewrits_k14_whole_totals_of_parts) (n := 63) (k := 71) (x := "_law_script") (CX := L2.CX0) rfl (by decide) (by kernel_rfl) ⟨rfl, by decide, by decide⟩ ?F (fun _ _ _ _ z => z)
    intro w mg fa h Y G hmg0
    obtain ⟨K, KX, c⟩ := Y
    have hmg : mg ("law" : PySem.Str) = some (.ref fa) := by
      have e : (HandSHeadRun.topDef (OpenLaw.row PySem.Challenge.rw_duewrits_k14_whole_totals_of_parts).prog 76).name = ("law" : PySem.Str) := by kernel_rfl
      rw [← e]
      exact hmg0
    obtain ⟨fd, hb, hF⟩ := K14.facts (P := (PySem.Challenge.rw_duewrits_k14_whole_totals_of_parts).prog) (w := w) KX G hmg c.t.d c.more
    exact ⟨K, fd, K14.spLaw K, KX, hb, fun H a ns hl _ hS => ⟨a, ns, rfl, hS, hl, fun _ => rfl⟩, hF⟩

