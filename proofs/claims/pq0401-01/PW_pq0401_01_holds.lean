import PyProof.Rows.All
import Wide.All
import OpenK.AllK
import Wide.FinOn
import PySem.Challenge.RW_pq0401_01
set_option Elab.async false
noncomputable section
open PySem PySem.W PyProof.Rows
namespace Mine
/-- the world behind the top, written out once (hd.heap_1); the head itself is run in the last theorem -/
theorem kept {r : OpenRow} (_ : Hook) (_ : True) (h : r.Holds) : r.Holds := h
section
local macro_rules | `(tactic| o_head $H) => `(tactic| refine kept $H ?hw ?hc)
local macro_rules | `(tactic| w_witness2) => `(tactic| exact True.intro)
set_option maxRecDepth 100000 in
set_option maxHeartbeats 8000000 in
open_top hd for PySem.Challenge.rw_pq0401_01.row
end
end Mine
end
noncomputable section
open PySem PySem.W PySem.Spec PySem.Calls PyProof.Rows
namespace Mine
abbrev Led := List (Addr × Obj)

/-- what a call of the def at `f` with `vs` gives back, whatever stands around it -/
def Fn (w : World) (d u : Nat) (f : Addr) (news : Led) (vs : List Value) (Post : Value → Led → Prop) : Prop :=
  ∀ (p : Program) (loose : List Str) (mean : ExcName → Option Value) (mg mb : Str → Option Value)
    (dp un : Nat) (gd : Option (List Code)) (cn : Str) (cs : Scope) (a : Addr) (ccd : Value) (cl : List (Str × Addr)) (outer : List Env) (A₀ : Around) (base h₀ : Heap) (L : Addr) (m : Str → Option Value) (hp : Heap) (gs : Array GenState) (dr : Drawn) (tk : Nat) (os : OsState) (Q E : Value → Shared → Prop),
    Below A₀ base outer h₀ → Fr h₀ L hp m → (Mine.hd.heap_1 w.params).In h₀ → News h₀ L hp news → Top p loose mean mg mb h₀ → cs.kind = .function → dp + d < recursionLimit → un + u < cLine →
    (∀ v news' h' tk', Fr h₀ L h' m → News h₀ L h' news' → Post v news' → Q v ⟨h', gs, dr, tk', os⟩) →
    wpAny (model PySem.Challenge.rw_pq0401_01.row.prog w) (ktrTop dp un gd cn cs L a ccd cl outer) (call (.ref f) vs) Q E ⟨hp, gs, dr, tk, os⟩

theorem Fn.use {w : World} {d u : Nat} {f : Addr} {news : Led} {vs : List Value} {Post : Value → Led → Prop}
    {p : Program} {loose : List Str} {mean : ExcName → Option Value} {mg mb : Str → Option Value}
    {dp un : Nat} {gd : Option (List Code)} {cn : Str} {cs : Scope} {a : Addr} {ccd : Value} {cl : List (Str × Addr)} {outer : List Env} {A₀ : Around} {base h₀ : Heap} {L : Addr} {m : Str → Option Value} {s : Shared} {Q E : Value → Shared → Prop}
    (B : Below A₀ base outer h₀) (F : Fr h₀ L s.heap m) (X : (Mine.hd.heap_1 w.params).In h₀) (N : News h₀ L s.heap news) (T : Top p loose mean mg mb h₀) (hk : cs.kind = .function)
    (C : Fn w d u f news vs Post) (hd : dp + d < recursionLimit) (hu : un + u < cLine)
    (ret : ∀ v news' h' tk', Fr h₀ L h' m → News h₀ L h' news' → Post v news' → Q v { s with heap := h', toks := tk' }) :
    wpAny (model PySem.Challenge.rw_pq0401_01.row.prog w) (ktrTop dp un gd cn cs L a ccd cl outer) (call (.ref f) vs) Q E s :=
  C _ _ _ _ _ _ _ _ _ _ _ _ _ _ _ _ _ _ _ s.heap s.gens s.drawn s.toks s.os _ _ B F X N T hk hd hu ret
inductive Pick (d : Addr) (o : Obj) : Led → Led → Prop
  | head {r : Led} : Pick d o ((d, o) :: r) r
  | tail {p : Addr × Obj} {l r : Led} : Pick d o l r → Pick d o (p :: l) (p :: r)
theorem Pick.sub {d : Addr} {o : Obj} {l r : Led} (P : Pick d o l r) : ∀ q ∈ (d, o) :: r, q ∈ l := by
  induction P with
  | head => exact fun _ h => h
  | tail _ ih =>
    intro q hq
    rcases List.mem_cons.mp hq with rfl | hq
    · exact List.mem_cons_of_mem _ (ih _ (List.Mem.head _))
    · rcases List.mem_cons.mp hq with rfl | hq
      · exact List.Mem.head _
      · exact List.mem_cons_of_mem _ (ih _ (List.mem_cons_of_mem _ hq))
theorem Fn.useP {w : World} {d u : Nat} {f kd : Addr} {o : Obj} {news rest : Led} {vs : List Value} {Post : Value → Led → Prop}
    {p : Program} {loose : List Str} {mean : ExcName → Option Value} {mg mb : Str → Option Value}
    {dp un : Nat} {gd : Option (List Code)} {cn : Str} {cs : Scope} {a : Addr} {ccd : Value} {cl : List (Str × Addr)} {outer : List Env} {A₀ : Around} {base h₀ : Heap} {L : Addr} {m : Str → Option Value} {s : Shared} {Q E : Value → Shared → Prop}
    (B : Below A₀ base outer h₀) (F : Fr h₀ L s.heap m) (X : (Mine.hd.heap_1 w.params).In h₀) (N : News h₀ L s.heap news) (T : Top p loose mean mg mb h₀) (hk : cs.kind = .function) (P : Pick kd o news rest)
    (C : Fn w d u f ((kd, o) :: rest) vs Post) (hd : dp + d < recursionLimit) (hu : un + u < cLine)
    (ret : ∀ v news' h' tk', Fr h₀ L h' m → News h₀ L h' news' → Post v news' → Q v { s with heap := h', toks := tk' }) :
    wpAny (model PySem.Challenge.rw_pq0401_01.row.prog w) (ktrTop dp un gd cn cs L a ccd cl outer) (call (.ref f) vs) Q E s :=
  Fn.use B F X (fun p hp => N p (P.sub p hp)) T hk C hd hu ret
end Mine
end
noncomputable section
open PySem PySem.W PySem.Spec PySem.Calls PyProof.Rows
namespace Mine
/-- the count of the names drawn is any count: the walk forgets how it came by it (a lemma, not a generalize: that one is undone in the term) -/
theorem tk_any {α : Type} {M : Model} {A : Around} {x : Sem α} {Q : α → Shared → Prop} {E : Value → Shared → Prop} {h : Heap} {g : Array GenState} {d : Drawn} {o : OsState} {t : Nat}
    (H : ∀ tk : Nat, wpAny M A x Q E ⟨h, g, d, tk, o⟩) : wpAny M A x Q E ⟨h, g, d, t, o⟩ := H t
theorem tk_flat {α : Type} {M : Model} {A : Around} {x : Sem α} {Q : α → Shared → Prop} {E : Value → Shared → Prop} {h : Heap} {g : Array GenState} {d : Drawn} {o : OsState} {t t' : Nat}
    (H : ∀ tk : Nat, wpAny M A x Q E ⟨h, g, d, tk, o⟩) : wpAny M A x Q E ⟨Shared.heap ⟨h, g, d, t, o⟩, Shared.gens ⟨h, g, d, t, o⟩, Shared.drawn ⟨h, g, d, t, o⟩, t', Shared.os ⟨h, g, d, t, o⟩⟩ := H t'
theorem tk_sum {α : Type} {M : Model} {A : Around} {x : Sem α} {Q : α → Shared → Prop} {E : Value → Shared → Prop} {h : Heap} {g : Array GenState} {d : Drawn} {o : OsState} {t u : Nat}
    (H : ∀ tk : Nat, wpAny M A x Q E ⟨h, g, d, tk, o⟩) : wpAny M A x Q E ⟨h, g, d, t + u, o⟩ := H (t + u)
/-- what stands around, what the names stand for: named once, by a let (the term says it once then) -/
theorem wp_let {α : Type} {M : Model} {A : Around} {x : Sem α} {Q : α → Shared → Prop} {E : Value → Shared → Prop} {s : Shared} (H : let A' := A; wpAny M A' x Q E s) : wpAny M A x Q E s := H
theorem wp_letQ {α : Type} {M : Model} {A : Around} {x : Sem α} {Q : α → Shared → Prop} {E : Value → Shared → Prop} {s : Shared} (H : let Q' := Q; let E' := E; let A' := A; wpAny M A' x Q' E' s) : wpAny M A x Q E s := H
theorem fr_let {P : Prop} {h₀ h : Heap} {L : Addr} {m : Str → Option Value} (F : Fr h₀ L h m) (k : let m' := m; Fr h₀ L h m' → P) : P := k F
theorem news_let {P : Prop} {h₀ h : Heap} {L : Addr} {l : List (Addr × Obj)} (N : News h₀ L h l) (k : let l' := l; News h₀ L h l' → P) : P := k N
/-- room left: what is asked is no more than what was left -/
theorem rm1 {n d k R : Nat} (h : n + d < R) (hb : Nat.ble k d = true) : n + k < R := by have := Nat.le_of_ble_eq_true hb; omega
theorem rm2 {n d j k R : Nat} (h : n + d < R) (hb : Nat.ble (j + k) d = true) : n + j + k < R := by have := Nat.le_of_ble_eq_true hb; omega
theorem rm0 {n d R : Nat} (h : n + d < R) : n < R := by omega
theorem rm3 {n d i j k R : Nat} (h : n + d < R) (hb : Nat.ble (i + j + k) d = true) : n + i + j + k < R := by have := Nat.le_of_ble_eq_true hb; omega
end Mine
end
noncomputable section
open PySem PySem.W PySem.Spec PySem.Calls PyProof.Rows
namespace Mine
/-- the conditions of a plain reading, gathered -/
def cAnd (a b : Option Prop) : Option Prop := match a, b with
  | none, b => b
  | some p, none => some p
  | some p, some q => some (p ∧ q)
def cP (c : Option Prop) : Prop := match c with | none => True | some p => p
theorem cP_and {a b : Option Prop} (h : cP (cAnd a b)) : cP a ∧ cP b := by
  cases a <;> cases b <;> simp_all [cAnd, cP]
abbrev Orc := Expr → Option Int
def noOrc : Orc := fun _ => none
/-- what a plain int expression comes to, read off the frame's names: no call, no object; the conditions beside it -/
noncomputable def pei (env : Env) (m : Str → Option Value) (orc : Orc) : Nat → Expr → Option (Int × Option Prop)
  | 0, _ => none
  | k + 1, e => match e with
    | .Constant (.int i) _ _ => some (i, none)
    | .Name x pos => match env.kindOf x with
      | some .local => match x == Str.ofString "__debug__" with
        | true => none
        | false => match m x with
          | some (.int n _) => some (n, none)
          | _ => none
      | _ => match orc (.Name x pos) with
        | some n => some (n, none)
        | none => none
    | .BinOp l op r _ => match pei env m orc k l with
      | some (a, C) => match pei env m orc k r with
        | some (b, D) => match op with
          | .Add => some (a + b, cAnd C D)
          | .Sub => some (a - b, cAnd C D)
          | .Mult => some (a * b, cAnd (cAnd C D) (some (IntMulOk a b)))
          | .Mod => some (a.fmod b, cAnd (cAnd C D) (some (b ≠ 0)))
          | .LShift => some (a * 2 ^ b.toNat, cAnd (cAnd C D) (some (0 ≤ b ∧ b ≤ 1000000 ∧ a.natAbs < 2 ^ 64)))
          | .Pow => some (a ^ b.toNat, cAnd (cAnd C D) (some (0 ≤ b ∧ b ≤ 1000000 ∧ a.natAbs < 2 ^ 64)))
          | _ => none
        | none => none
      | none => none
    | e => match orc e with
      | some n => some (n, none)
      | none => none
def OrcOk (prog : Program) (w : World) (A : Around) (env : Env) (h : Heap) (orc : Orc) : Prop :=
  ∀ e n, orc e = some n → ∀ (Q : Value → Shared → Prop) (E : Value → Shared → Prop) (g : Array GenState) (d : Drawn) (tk : Nat) (o : OsState),
    (∀ (t : Tok) (tk' : Nat), Q (.int n t) ⟨h, g, d, tk', o⟩) → wpAny (model prog w) A (eval e env) Q E ⟨h, g, d, tk, o⟩
theorem noOrc_ok {prog : Program} {w : World} {A : Around} {env : Env} {h : Heap} : OrcOk prog w A env h noOrc := fun _ _ h => nomatch h
theorem pei_ok {prog : Program} {w : World} {A : Around} {cn : Str} {cs : Scope} {L a : Addr} {ccd : Value} {cl : List (Str × Addr)} {h₀ h : Heap} {m : Str → Option Value} {orc : Orc}
    (F : Fr h₀ L h m) (hk : cs.kind = .function) (O : OrcOk prog w A (envX cn cs L a ccd cl) h orc) :
    ∀ (k : Nat) (e : Expr) (n : Int) (C : Option Prop), pei (envX cn cs L a ccd cl) m orc k e = some (n, C) → cP C → ∀ (Q : Value → Shared → Prop) (E : Value → Shared → Prop) (g : Array GenState) (d : Drawn) (tk : Nat) (o : OsState),
    (∀ (t : Tok) (tk' : Nat), Q (.int n t) ⟨h, g, d, tk', o⟩) → wpAny (model prog w) A (eval e (envX cn cs L a ccd cl)) Q E ⟨h, g, d, tk, o⟩ := by
  intro k
  induction k with
  | zero => intro e n C he; simp [pei] at he
  | succ k ih =>
    intro e n C he hC Q E g d tk o H
    unfold pei at he
    split at he
    · obtain ⟨rfl, rfl⟩ : _ ∧ _ := by simpa using he
      exact wpAny_Constant_int (H _ _)
    · split at he
      · rename_i hkd
        split at he
        · cases he
        · rename_i hdb
          split at he
          · rename_i hm
            obtain ⟨rfl, rfl⟩ : _ ∧ _ := by simpa using he
            exact nameX_L F hm (H _ _) hk hkd hdb
          · cases he
      · split at he
        · rename_i ho
          obtain ⟨rfl, rfl⟩ : _ ∧ _ := by simpa using he
          exact O _ _ ho _ _ _ _ _ _ H
        · cases he
    · split at he
      · rename_i hl
        split at he
        · rename_i hr
          split at he
          · obtain ⟨rfl, rfl⟩ : _ ∧ _ := by simpa using he
            obtain ⟨c1, c2⟩ := cP_and hC
            exact wpAny_BinOp (ih _ _ _ hl c1 _ _ _ _ _ _ fun t tk1 => ih _ _ _ hr c2 _ _ _ _ _ _ fun u tk2 => add_int (H _ _))
          · obtain ⟨rfl, rfl⟩ : _ ∧ _ := by simpa using he
            obtain ⟨c1, c2⟩ := cP_and hC
            exact wpAny_BinOp (ih _ _ _ hl c1 _ _ _ _ _ _ fun t tk1 => ih _ _ _ hr c2 _ _ _ _ _ _ fun u tk2 => sub_int (H _ _))
          · obtain ⟨rfl, rfl⟩ : _ ∧ _ := by simpa using he
            obtain ⟨c, c3⟩ := cP_and hC
            obtain ⟨c1, c2⟩ := cP_and c
            exact wpAny_BinOp (ih _ _ _ hl c1 _ _ _ _ _ _ fun t tk1 => ih _ _ _ hr c2 _ _ _ _ _ _ fun u tk2 => mul_int (H _ _) c3)
          · obtain ⟨rfl, rfl⟩ : _ ∧ _ := by simpa using he
            obtain ⟨c, c3⟩ := cP_and hC
            obtain ⟨c1, c2⟩ := cP_and c
            exact wpAny_BinOp (ih _ _ _ hl c1 _ _ _ _ _ _ fun t tk1 => ih _ _ _ hr c2 _ _ _ _ _ _ fun u tk2 => mod_int c3 (H _ _))
          · obtain ⟨rfl, rfl⟩ : _ ∧ _ := by simpa using he
            obtain ⟨c, c3, c4, c5⟩ := cP_and hC
            obtain ⟨c1, c2⟩ := cP_and c
            exact wpAny_BinOp (ih _ _ _ hl c1 _ _ _ _ _ _ fun t tk1 => ih _ _ _ hr c2 _ _ _ _ _ _ fun u tk2 => lshift_int_small c3 c4 c5 (H _ _))
          · obtain ⟨rfl, rfl⟩ : _ ∧ _ := by simpa using he
            obtain ⟨c, c3, c4, c5⟩ := cP_and hC
            obtain ⟨c1, c2⟩ := cP_and c
            exact wpAny_BinOp (ih _ _ _ hl c1 _ _ _ _ _ _ fun t tk1 => ih _ _ _ hr c2 _ _ _ _ _ _ fun u tk2 => pow_int_small c3 c4 c5 (H _ _))
          · cases he
        · cases he
      · cases he
    · split at he
      · rename_i ho
        obtain ⟨rfl, rfl⟩ : _ ∧ _ := by simpa using he
        exact O _ _ ho _ _ _ _ _ _ H
      · cases he
def cmpI (op : CmpOp) (a b : Int) : Option Bool := match op with
  | .Eq => some (a == b)
  | .NotEq => some (a != b)
  | .Lt => some (decide (a < b))
  | .LtE => some (decide (a ≤ b))
  | .Gt => some (decide (b < a))
  | .GtE => some (decide (b ≤ a))
  | _ => none
theorem cmpI_ok {prog : Program} {w : World} {A : Around} {op : CmpOp} {a b : Int} {t u : Tok} {c : Bool} {Q : Value → Shared → Prop} {E : Value → Shared → Prop} {s : Shared} (h : cmpI op a b = some c) (H : Q (.bool c) s) :
    wpAny (model prog w) A (compareOp op (.int a t) (.int b u)) Q E s := by
  cases op <;> first | (cases h; done) | skip
  case Eq => cases h; exact eq_int H
  case NotEq => cases h; exact ne_int H
  case Lt => cases h; exact lt_int H
  case LtE => cases h; exact le_int H
  case Gt => cases h; exact gt_int H
  case GtE => cases h; exact ge_int H
section
variable {prog : Program} {w : World} {A : Around} {cn : Str} {cs : Scope} {L a : Addr} {ccd : Value} {cl : List (Str × Addr)} {h₀ h : Heap} {m : Str → Option Value} {news : Led} {orc : Orc}
  {E : Value → Shared → Prop} {g : Array GenState} {d : Drawn} {tk : Nat} {o : OsState}
/-- a plain comparison of ints as a test -/
theorem pe_cmp {l r : Expr} {op : CmpOp} {pos : Pos} {whole : Sem Value} {x y : Int} {c : Bool} {C D : Option Prop} {Q : Bool → Shared → Prop}
    (F : Fr h₀ L h m) (hk : cs.kind = .function) (O : OrcOk prog w A (envX cn cs L a ccd cl) h orc) (hl : pei (envX cn cs L a ccd cl) m orc 12 l = some (x, C)) (hr : pei (envX cn cs L a ccd cl) m orc 12 r = some (y, D)) (hc : cmpI op x y = some c) (hb : behindInMarks op r = false) (hC : cP (cAnd C D))
    (H : ∀ tk' : Nat, Q c ⟨h, g, d, tk', o⟩) : wpAny (model prog w) A (PySem.isTrue (.Compare l [op] [r] pos) (envX cn cs L a ccd cl) whole) Q E ⟨h, g, d, tk, o⟩ := by
  obtain ⟨c1, c2⟩ := cP_and hC
  exact wpAny_isTrue_Compare1 (pei_ok F hk O _ _ _ _ hl c1 _ _ _ _ _ _ fun t tk1 => pei_ok F hk O _ _ _ _ hr c2 _ _ _ _ _ _ fun u tk2 => cmpI_ok hc (wpAny_truthy_bool (H _))) hb
/-- a row of plain ints; what each token was, nobody keeps -/
noncomputable def peis (env : Env) (m : Str → Option Value) : List Expr → Option (List Int × Option Prop)
  | [] => some ([], none)
  | e :: es => match pei env m noOrc 12 e with
    | some (n, C) => match peis env m es with
      | some (ns, D) => some (n :: ns, cAnd C D)
      | none => none
    | none => none
theorem pei_star {env env' : Env} {m : Str → Option Value} {k : Nat} {e : Expr} {r : Int × Option Prop} (h : pei env m noOrc k e = some r) (rest : List Expr) : starEach (e :: rest) env' = (false, eval e env') :: starEach rest env' := by
  cases k with
  | zero => cases h
  | succ k =>
    cases e <;> first | rfl | (exfalso; revert h; simp [pei, noOrc])
theorem peis_ok (F : Fr h₀ L h m) (hk : cs.kind = .function) : ∀ (es : List Expr) (ns : List Int) (C : Option Prop), peis (envX cn cs L a ccd cl) m es = some (ns, C) → cP C → ∀ (pos : Pos) (Q : List Value → Shared → Prop) (tk : Nat),
    (∀ (vs : List Value) (tk' : Nat), IntsAre vs ns → Q vs ⟨h, g, d, tk', o⟩) → wpAny (model prog w) A (spliced (backTo pos (starEach es (envX cn cs L a ccd cl)))) Q E ⟨h, g, d, tk, o⟩ := by
  intro es
  induction es with
  | nil =>
    intro ns C he _ pos Q tk H
    obtain ⟨rfl, rfl⟩ : _ ∧ _ := by simpa [peis] using he
    exact args_nil (H _ _ .nil)
  | cons e es ih =>
    intro ns C he hC pos Q tk H
    unfold peis at he
    split at he
    · rename_i h1
      split at he
      · rename_i h2
        obtain ⟨rfl, rfl⟩ : _ ∧ _ := by simpa using he
        obtain ⟨c1, c2⟩ := cP_and hC
        exact args_cons (pei_ok F hk noOrc_ok _ _ _ _ h1 c1 _ _ _ _ _ _ fun t tk1 => ih _ _ h2 c2 _ _ _ fun vs tk2 hi => H _ _ (.cons _ _ hi)) (pei_star h1 _)
      · cases he
    · cases he
abbrev tupV (vs : List Value) : Obj := ⟨.type "tuple", none, .seq vs.toArray 0, #[]⟩
theorem newTupleV {M : Model} {s : Shared} {vs : List Value} {Q : Value → Shared → Prop} (F : Fr h₀ L s.heap m) (N : News h₀ L s.heap news)
    (H : ∀ D h', Fr h₀ L h' m → News h₀ L h' ((D, tupV vs) :: news) → (∀ p ∈ news, p.1 < D) → Q (.ref D) { s with heap := h' }) (hz : vs.length ≤ sizeLine) : wpAny M A (newTuple vs) Q E s := kup_newTuple F N H hz
/-- a tuple of plain ints made, its tokens forgotten -/
theorem pe_tupL {k : Nat} {pos : Pos} {es : List Expr} {ns : List Int} {C : Option Prop} {Q : Value → Shared → Prop}
    (F : Fr h₀ L h m) (N : News h₀ L h news) (hk : cs.kind = .function) (he : peis (envX cn cs L a ccd cl) m es = some (ns, C)) (hl : Nat.ble ns.length 1000 = true) (hC : cP C)
    (H : ∀ (b : Addr) (h' : Heap) (vs : List Value) (tk' : Nat), Fr h₀ L h' m → News h₀ L h' ((b, tupV vs) :: news) → (∀ p ∈ news, p.1 < b) → IntsAre vs ns → Q (.ref b) ⟨h', g, d, tk', o⟩) :
    wpAny (model prog w) A (eval (.Tuple es k pos) (envX cn cs L a ccd cl)) Q E ⟨h, g, d, tk, o⟩ :=
  Tuple_ (peis_ok F hk _ _ _ he hC _ _ _ fun vs tk' hi => kup_newTuple F N (fun D h' F' N' l => H D h' vs _ F' N' l hi) (by rw [hi.length]; exact Nat.le_trans (Nat.le_of_ble_eq_true hl) (Nat.le_of_ble_eq_true rfl)))
/-- one plain int stored -/
theorem pe_one {x : Str} {px pos : Pos} {e : Expr} {rest : List Stmt} {n : Int} {C : Option Prop} {Q : Flow → Shared → Prop}
    (F : Fr h₀ L h m) (N : News h₀ L h news) (hk : cs.kind = .function) (O : OrcOk prog w A (envX cn cs L a ccd cl) h orc) (he : pei (envX cn cs L a ccd cl) m orc 12 e = some (n, C)) (hx : (envX cn cs L a ccd cl).kindOf x = some .local)
    (hs : swapsWith e (some (.Name x px)) pos.line (envX cn cs L a ccd cl) = pure false) (hC : cP C)
    (H : ∀ (h' : Heap) (t : Tok) (tk' : Nat), Fr h₀ L h' (fun z => if z = x then some (.int n t) else m z) → News h₀ L h' news → wpAny (model prog w) A (execs rest (envX cn cs L a ccd cl)) Q E ⟨h', g, d, tk', o⟩) :
    wpAny (model prog w) A (execs (.Assign [.Name x px] e pos :: rest) (envX cn cs L a ccd cl)) Q E ⟨h, g, d, tk, o⟩ := by
  refine wpAny_execs_cons (wpAny_Assign_Name ?_ hs)
  refine pei_ok F hk O _ _ _ _ he hC _ _ _ _ _ _ fun t tk' => ?_
  exact storeX_L F N (fun h' F' N' => H h' t _ F' N') hk hx
/-- two plain ints stored, by a pair that nobody keeps -/
theorem pe_two {x y : Str} {px py pos tp vp : Pos} {k1 k2 : Nat} {e₁ e₂ : Expr} {rest : List Stmt} {n₁ n₂ : Int} {C D : Option Prop} {Q : Flow → Shared → Prop}
    (F : Fr h₀ L h m) (N : News h₀ L h news) (hk : cs.kind = .function) (O : OrcOk prog w A (envX cn cs L a ccd cl) h orc) (hh : A.handled = none) (h1 : pei (envX cn cs L a ccd cl) m orc 12 e₁ = some (n₁, C)) (h2 : pei (envX cn cs L a ccd cl) m orc 12 e₂ = some (n₂, D))
    (hx : (envX cn cs L a ccd cl).kindOf x = some .local) (hy : (envX cn cs L a ccd cl).kindOf y = some .local)
    (hs : swapsWithSole [.Tuple [.Name x px, .Name y py] k1 tp] (.Tuple [e₁, e₂] k2 vp) pos.line (envX cn cs L a ccd cl) = pure false)
    (hw : swappedStores [.Tuple [.Name x px, .Name y py] k1 tp] (.Tuple [e₁, e₂] k2 vp) (envX cn cs L a ccd cl) = pure (some [x, y]))
    (hst : starEach [e₁, e₂] (envX cn cs L a ccd cl) = [(false, eval e₁ (envX cn cs L a ccd cl)), (false, eval e₂ (envX cn cs L a ccd cl))])
    (hst2 : starEach [e₂] (envX cn cs L a ccd cl) = [(false, eval e₂ (envX cn cs L a ccd cl))]) (hC : cP (cAnd C D))
    (H : ∀ (h' : Heap) (t₁ t₂ : Tok) (tk' : Nat), Fr h₀ L h' (fun z => if z = x then some (.int n₁ t₁) else if z = y then some (.int n₂ t₂) else m z) → News h₀ L h' news → wpAny (model prog w) A (execs rest (envX cn cs L a ccd cl)) Q E ⟨h', g, d, tk', o⟩) :
    wpAny (model prog w) A (execs (.Assign [.Tuple [.Name x px, .Name y py] k1 tp] (.Tuple [e₁, e₂] k2 vp) pos :: rest) (envX cn cs L a ccd cl)) Q E ⟨h, g, d, tk, o⟩ := by
  obtain ⟨c1, c2⟩ := cP_and hC
  refine wpAny_execs_cons (Assign_Tuple_swapped (Tuple_ (args_cons (pei_ok F hk O _ _ _ _ h1 c1 _ _ _ _ _ _ fun t₁ tk1 => args_cons (pei_ok F hk O _ _ _ _ h2 c2 _ _ _ _ _ _ fun t₂ tk2 => args_nil ?_) ?_) ?_)) hs hw)
  rotate_left
  · rw [hst2]; rfl
  · rw [hst, hst2]
  refine kup_newTuple F N (fun D h' F' N' _ => ?_) (Nat.le_of_ble_eq_true rfl)
  refine unpackItemsN_ F' N' (N'.isTup (List.Mem.head _)) hh rfl (fun h'' F'' N'' => ?_)
  have N3 : News h₀ L h'' news := fun p hp => N'' p (List.mem_cons_of_mem _ hp)
  show wpAny (model prog w) A (assignInOrder [fun v => bindName _ y v, fun v => bindName _ x v] [.int n₂ t₂, .int n₁ t₁]) _ _ _
  refine assignInOrder_cons (bindName_ (storeX_L F'' N3 (fun h3 F3 N3 => ?_) hk hy))
  refine assignInOrder_cons (bindName_ (storeX_L F3 N3 (fun h4 F4 N4 => ?_) hk hx))
  exact assignInOrder_nil (H h4 t₁ t₂ _ F4 N4)
/-- a pair, a triple of plain ints made -/
theorem pe_tup2 {k : Nat} {pos : Pos} {e₁ e₂ : Expr} {n₁ n₂ : Int} {C D : Option Prop} {Q : Value → Shared → Prop}
    (F : Fr h₀ L h m) (N : News h₀ L h news) (hk : cs.kind = .function) (O : OrcOk prog w A (envX cn cs L a ccd cl) h orc) (h1 : pei (envX cn cs L a ccd cl) m orc 12 e₁ = some (n₁, C)) (h2 : pei (envX cn cs L a ccd cl) m orc 12 e₂ = some (n₂, D))
    (hst : starEach [e₁, e₂] (envX cn cs L a ccd cl) = [(false, eval e₁ (envX cn cs L a ccd cl)), (false, eval e₂ (envX cn cs L a ccd cl))])
    (hst2 : starEach [e₂] (envX cn cs L a ccd cl) = [(false, eval e₂ (envX cn cs L a ccd cl))]) (hC : cP (cAnd C D))
    (H : ∀ (b : Addr) (h' : Heap) (t₁ t₂ : Tok) (tk' : Nat), Fr h₀ L h' m → News h₀ L h' ((b, tupV [Value.int n₁ t₁, .int n₂ t₂]) :: news) → (∀ p ∈ news, p.1 < b) → Q (.ref b) ⟨h', g, d, tk', o⟩) :
    wpAny (model prog w) A (eval (.Tuple [e₁, e₂] k pos) (envX cn cs L a ccd cl)) Q E ⟨h, g, d, tk, o⟩ := by
  obtain ⟨c1, c2⟩ := cP_and hC
  refine Tuple_ (args_cons (pei_ok F hk O _ _ _ _ h1 c1 _ _ _ _ _ _ fun t₁ tk1 => args_cons (pei_ok F hk O _ _ _ _ h2 c2 _ _ _ _ _ _ fun t₂ tk2 => args_nil ?_) ?_) ?_)
  rotate_left
  · rw [hst2]; rfl
  · rw [hst, hst2]
  exact kup_newTuple F N (fun D h' F' N' l => H D h' _ _ _ F' N' l) (Nat.le_of_ble_eq_true rfl)
theorem pe_tup3 {k : Nat} {pos : Pos} {e₁ e₂ e₃ : Expr} {n₁ n₂ n₃ : Int} {C D B : Option Prop} {Q : Value → Shared → Prop}
    (F : Fr h₀ L h m) (N : News h₀ L h news) (hk : cs.kind = .function) (O : OrcOk prog w A (envX cn cs L a ccd cl) h orc) (h1 : pei (envX cn cs L a ccd cl) m orc 12 e₁ = some (n₁, C)) (h2 : pei (envX cn cs L a ccd cl) m orc 12 e₂ = some (n₂, D)) (h3 : pei (envX cn cs L a ccd cl) m orc 12 e₃ = some (n₃, B))
    (hst : starEach [e₁, e₂, e₃] (envX cn cs L a ccd cl) = (false, eval e₁ (envX cn cs L a ccd cl)) :: starEach [e₂, e₃] (envX cn cs L a ccd cl))
    (hst2 : starEach [e₂, e₃] (envX cn cs L a ccd cl) = (false, eval e₂ (envX cn cs L a ccd cl)) :: starEach [e₃] (envX cn cs L a ccd cl))
    (hst3 : starEach [e₃] (envX cn cs L a ccd cl) = (false, eval e₃ (envX cn cs L a ccd cl)) :: starEach [] (envX cn cs L a ccd cl)) (hC : cP (cAnd C (cAnd D B)))
    (H : ∀ (b : Addr) (h' : Heap) (t₁ t₂ t₃ : Tok) (tk' : Nat), Fr h₀ L h' m → News h₀ L h' ((b, tupV [Value.int n₁ t₁, .int n₂ t₂, .int n₃ t₃]) :: news) → (∀ p ∈ news, p.1 < b) → Q (.ref b) ⟨h', g, d, tk', o⟩) :
    wpAny (model prog w) A (eval (.Tuple [e₁, e₂, e₃] k pos) (envX cn cs L a ccd cl)) Q E ⟨h, g, d, tk, o⟩ := by
  obtain ⟨c1, c'⟩ := cP_and hC
  obtain ⟨c2, c3⟩ := cP_and c'
  exact Tuple_ (args_cons (pei_ok F hk O _ _ _ _ h1 c1 _ _ _ _ _ _ fun t₁ tk1 => args_cons (pei_ok F hk O _ _ _ _ h2 c2 _ _ _ _ _ _ fun t₂ tk2 => args_cons (pei_ok F hk O _ _ _ _ h3 c3 _ _ _ _ _ _ fun t₃ tk3 => args_nil (kup_newTuple F N (fun D h' F' N' l => H D h' _ _ _ _ F' N' l) (Nat.le_of_ble_eq_true rfl))) hst3) hst2) hst)
end
/-- one step for a plain int expression -/
theorem pe_int {prog : Program} {w : World} {A : Around} {cn : Str} {cs : Scope} {L a : Addr} {ccd : Value} {cl : List (Str × Addr)} {h₀ h : Heap} {m : Str → Option Value} {e : Expr} {n : Int} {C : Option Prop}
    {Q : Value → Shared → Prop} {E : Value → Shared → Prop} {g : Array GenState} {d : Drawn} {tk : Nat} {o : OsState}
    (F : Fr h₀ L h m) (hk : cs.kind = .function) (he : pei (envX cn cs L a ccd cl) m noOrc 12 e = some (n, C)) (hC : cP C) (H : ∀ (t : Tok) (tk' : Nat), Q (.int n t) ⟨h, g, d, tk', o⟩) :
    wpAny (model prog w) A (eval e (envX cn cs L a ccd cl)) Q E ⟨h, g, d, tk, o⟩ := pei_ok F hk noOrc_ok _ _ _ _ he hC _ _ _ _ _ _ H
end Mine
end
noncomputable section
open PySem PySem.W PySem.Spec PySem.Calls PyProof.Rows
namespace Mine
open PySem.Builtin.Int (intBits)
set_option maxRecDepth 100000

/-! bytes as lists -/
def beN (l : List UInt8) : Nat := l.foldl (fun (acc : Nat) (b : UInt8) => acc * 256 + b.toNat) 0
noncomputable def leL : Nat → Nat → List UInt8
  | 0, _ => []
  | k + 1, n => (n % 256).toUInt8 :: leL k (n / 256)
def beL (k n : Nat) : List UInt8 := (leL k n).reverse
theorem leL_length : ∀ (k n : Nat), (leL k n).length = k
  | 0, _ => rfl
  | k + 1, n => by simp [leL, leL_length k]
theorem beL_length (k n : Nat) : (beL k n).length = k := by simp [beL, leL_length]
theorem byte_toNat (n : Nat) : ((n % 256).toUInt8).toNat = n % 256 := by
  show (UInt8.ofNat (n % 256)).toNat = n % 256
  rw [UInt8.toNat_ofNat']; omega
theorem beN_append (l r : List UInt8) : beN (l ++ r) = beN l * 256 ^ r.length + beN r := by
  unfold beN
  rw [List.foldl_append]
  generalize List.foldl (fun (acc : Nat) (b : UInt8) => acc * 256 + b.toNat) 0 l = a
  induction r generalizing a with
  | nil => simp
  | cons c r ih =>
    rw [List.foldl_cons, List.foldl_cons, List.length_cons, ih (a * 256 + c.toNat), ih (0 * 256 + c.toNat), Nat.pow_succ, Nat.add_mul, Nat.add_mul, Nat.zero_mul]
    have e : a * 256 * 256 ^ r.length = a * (256 ^ r.length * 256) := by rw [Nat.mul_comm (256 ^ r.length) 256, Nat.mul_assoc]
    omega
theorem beN_lt (l : List UInt8) : beN l < 256 ^ l.length := by
  have h := KFB.fold_lt l 0
  rw [Nat.zero_add, Nat.one_mul] at h
  exact h
theorem beN_leL : ∀ (k n : Nat), beN (leL k n).reverse = n % 256 ^ k
  | 0, n => by simp [leL, beN, Nat.mod_one]
  | k + 1, n => by
    rw [leL, List.reverse_cons, beN_append, beN_leL k]
    show _ * 256 ^ 1 + (0 * 256 + ((n % 256).toUInt8).toNat) = _
    rw [byte_toNat]
    have e := @Nat.mod_mul 256 (256 ^ k) n
    have e2 : (256 : Nat) ^ (k + 1) = 256 * 256 ^ k := by rw [Nat.pow_succ, Nat.mul_comm]
    rw [e2, e]
    omega
theorem beN_beL (k n : Nat) : beN (beL k n) = n % 256 ^ k := beN_leL k n
theorem leL_eq : ∀ (k n : Nat), (leL k n).map (fun c => ((c.toNat : Nat) : Int)) = KTBy.little k (n : Int)
  | 0, _ => rfl
  | k + 1, n => by
    rw [leL, List.map_cons, leL_eq k, byte_toNat]
    show _ = ((n : Int) % 256) :: KTBy.little k ((n : Int) / 256)
    congr 1
theorem map_toNat_inj {a b : List UInt8} (h : a.map (fun c => ((c.toNat : Nat) : Int)) = b.map (fun c => ((c.toNat : Nat) : Int))) : a = b := by
  induction a generalizing b with
  | nil => cases b with
    | nil => rfl
    | cons _ _ => cases h
  | cons x a ih => cases b with
    | nil => cases h
    | cons y b =>
      rw [List.map_cons, List.map_cons] at h
      injection h with h1 h2
      rw [ih h2, UInt8.toNat_inj.mp (Int.ofNat_inj.mp h1)]
theorem low_eq {n : Nat} {k : Nat} (h : n < 256 ^ k) : KTBy.low (n : Int) k = leL k n := by
  apply map_toNat_inj
  rw [leL_eq, KTBy.little_eq]
  refine KTBy.low_ints (by omega) ?_
  rw [KTBy.p256]
  exact Int.ofNat_lt.mpr h

section
variable {prog : Program} {w : World} {M : Model} {A : Around} {E : Value → Shared → Prop} {s : Shared} {x : Int} {k : Nat} {t u v : Tok}

theorem to_core {Q : Value → Shared → Prop} {o : PySem.Str} {lit : Bool} {K : Int} {X : Nat} (ho : (o = PySem.Str.ofString "big" ∧ lit = false) ∨ (o = PySem.Str.ofString "little" ∧ lit = true))
    (hK : K = (k : Int)) (hX : x = (X : Int)) (hk : k ≤ 100000) (h1 : X < 256 ^ k) (h : ∀ t' k', Q (.bytes (if lit then leL k X else beL k X).toArray t') { s with toks := k' }) :
    wpAny (model prog w) A (call (.builtin "int.to_bytes") [.int x t, .int K u, .str o v]) Q E s := by
  subst hK hX
  refine wpAny_call_entry KTBy.slot (typeIs_int s _ t) KTBy.entry ?_ (KTBy.args _ _ _)
  have h1' : (X : Int) < 256 ^ k := by rw [KTBy.p256]; exact Int.ofNat_lt.mpr h1
  have hb : intBits (X : Int) ≤ 8 * k := KTBy.bits_le rfl (by omega) h1'
  have h0 : ¬ ((X : Int) < 0) := by omega
  show wpAny _ _ (Builtin.Int.intOfSelf (.int (X : Int) t) >>= fun y => _) _ _ s
  refine wpAny_bind (wpAny_of_eq (a := (X : Int)) rfl ?_)
  show wpAny _ _ (Builtin.Int.intBindNamed "to_bytes" ["length", "byteorder", "signed"] 0 2 [.int (k : Int) u, .str o v] [] >>= fun l => _) _ _ s
  refine wpAny_bind (wpAny_of_eq (a := [some (.int (k : Int) u), some (.str o v), none]) (by kernel_rfl) ?_)
  show wpAny _ _ (Builtin.Int.intIndex "int.to_bytes" (.int (k : Int) u) >>= fun n => _) _ _ s
  refine wpAny_bind (wpAny_of_eq (a := (k : Int)) rfl ?_)
  refine KTBy.if_not (by show (decide ((k : Int) < -(2 ^ 63 : Int)) || decide ((k : Int) ≥ 2 ^ 63)) = false; rw [decide_eq_false (show ¬ ((k : Int) < -(2 ^ 63 : Int)) by omega), decide_eq_false (show ¬ ((k : Int) ≥ 2 ^ 63) by omega)]; rfl) ?_
  refine wpAny_bind (wpAny_of_eq (a := o) (by rcases ho with ⟨rfl, _⟩ | ⟨rfl, _⟩ <;> kernel_rfl) ?_)
  refine wpAny_bind (wpAny_of_eq (a := false) rfl ?_)
  refine wpAny_bind (wpAny_of_eq (a := lit) (by rcases ho with ⟨rfl, rfl⟩ | ⟨rfl, rfl⟩ <;> kernel_rfl) ?_)
  refine wpAny_ite_false (decide_eq_false (show ¬ ((k : Int) < 0) by omega)) ?_
  refine wpAny_ite_false (decide_eq_false (show ¬ ((k : Int) > 2 ^ 63 - 1 - 33) by omega)) ?_
  refine wpAny_ite_false (decide_eq_false (show ¬ ((k : Int) > (sizeLine : Int)) by rw [sizeLine_eq]; omega)) ?_
  refine KTBy.if_not (by show (decide ((X : Int) < 0) && !false) = false; rw [decide_eq_false h0]; rfl) ?_
  refine KTBy.if_not (by show (_ && decide ((intBits (X : Int) : Int) > 8 * (k : Int))) = false; rw [decide_eq_false (show ¬ ((intBits (X : Int) : Int) > 8 * (k : Int)) by omega), Bool.and_false]) ?_
  show wpAny _ _ (mkBytes (if lit = true then KTBy.low (X : Int) (Int.toNat (k : Int)) else (KTBy.low (X : Int) (Int.toNat (k : Int))).reverse).toArray >>= fun v => _) _ _ _
  rw [Int.toNat_natCast, low_eq h1]
  exact wpAny_bind (wpAny_mkBytes (wpAny_pure ⟨_, rfl, h _ _⟩) (by
    show (if lit = true then leL k X else beL k X).length ≤ sizeLine
    have : (if lit = true then leL k X else beL k X).length = k := by split <;> simp [leL_length, beL_length]
    rw [this, sizeLine_eq]; omega))
theorem to_big {Q : Value → Shared → Prop} {K : Int} {X : Nat} (hK : K = (k : Int)) (hX : x = (X : Int)) (hk : k ≤ 100000) (h1 : X < 256 ^ k) (h : ∀ t' k', Q (.bytes (beL k X).toArray t') { s with toks := k' }) :
    wpAny (model prog w) A (call (.builtin "int.to_bytes") [.int x t, .int K u, .str (PySem.Str.ofString "big") v]) Q E s :=
  to_core (lit := false) (.inl ⟨rfl, rfl⟩) hK hX hk h1 h
theorem to_little {Q : Value → Shared → Prop} {K : Int} {X : Nat} (hK : K = (k : Int)) (hX : x = (X : Int)) (hk : k ≤ 100000) (h1 : X < 256 ^ k) (h : ∀ t' k', Q (.bytes (leL k X).toArray t') { s with toks := k' }) :
    wpAny (model prog w) A (call (.builtin "int.to_bytes") [.int x t, .int K u, .str (PySem.Str.ofString "little") v]) Q E s :=
  to_core (lit := true) (.inr ⟨rfl, rfl⟩) hK hX hk h1 h

theorem log_lt {n m : Nat} (hm : 0 < m) (hn : n < 2 ^ m) : n.log2 < m := by
  by_cases hz : n = 0
  · subst hz; rw [Nat.log2_zero]; exact hm
  · exact (Nat.log2_lt hz).mpr hn
theorem grown {n : Nat} {Q : Value → Shared → Prop} (hn : n < 2 ^ 1000000) (h : Q (.int (n : Int) s.toks) { s with toks := s.toks + 1 }) : wpAny M A (mkIntGrown (n : Int)) Q E s := by
  unfold mkIntGrown
  have hl : ¬ ((n : Int).natAbs.log2 ≥ bitsLine) := by
    rw [Int.natAbs_natCast]
    have hb : bitsLine = 134217728 := by first | rfl | decide
    have := log_lt (by decide) hn
    omega
  rw [if_neg hl]
  exact wpAny_mkInt h
theorem tree_big {l : List UInt8} {P : Fin → Shared → Prop} (hl : l.length ≤ 100000) (h : P (.done (.ret (.int (beN l : Int) s.toks))) { s with toks := s.toks + 1 }) :
    wpAny M A (Builtin.«int.from_bytes» ⟨[.type "int", .bytes l.toArray t, .str (PySem.Str.ofString "big") u], []⟩) P E s := by
  have hn : beN l < 2 ^ 1000000 := by
    have h1 := beN_lt l
    have h3 : ∀ n : Nat, (256 : Nat) ^ n = 2 ^ (8 * n) := fun n => by rw [Nat.pow_mul]
    rw [h3] at h1
    exact Nat.lt_of_lt_of_le h1 (Nat.pow_le_pow_right (by decide) (by omega))
  unfold Builtin.«int.from_bytes»
  refine wpAny_bind (wpAny_of_eq (a := true) KFB.type_int ?_)
  refine KFB.if_not rfl ?_
  refine wpAny_bind (wpAny_of_eq (a := true) F.conv_sub_int ?_)
  refine KFB.if_not rfl ?_
  refine wpAny_bind (wpAny_of_eq (a := [some (.bytes l.toArray t), some (.str (PySem.Str.ofString "big") u), none]) (by kernel_rfl) ?_)
  refine wpAny_bind (wpAny_of_eq (a := PySem.Str.ofString "big") (by kernel_rfl) ?_)
  refine wpAny_bind (wpAny_of_eq (a := false) rfl ?_)
  refine wpAny_bind (wpAny_of_eq (a := false) (by kernel_rfl) ?_)
  refine wpAny_bind (wpAny_of_eq (a := l.toArray) rfl ?_)
  show wpAny _ _ (mkIntGrown (l.foldl (fun (acc : Int) (b : UInt8) => acc * 256 + (b.toNat : Int)) ((0 : Nat) : Int)) >>= fun v => _) _ _ _
  rw [KFB.foldI_eq]
  refine wpAny_bind (grown hn ?_)
  refine KFB.if_so (by decide +kernel) ?_
  exact wpAny_bind (wpAny_pure (wpAny_pure h))
theorem from_big {h₀ : Heap} {L x : Addr} {news : List (Addr × Obj)} {l : List UInt8} {Q : Value → Shared → Prop} (N : News h₀ L s.heap news) (hm : (x, KFB.bound) ∈ news) (hl : l.length ≤ 100000)
    (h : ∀ t' k, Q (.int (beN l : Int) t') { s with toks := k }) : wpAny (model prog w) A (call (.ref x) [.bytes l.toArray t, .str (PySem.Str.ofString "big") u]) Q E s :=
  KFB.call_of (KFB.at_of N hm) (fun z => tree_big hl z) (h _ _)

/-! slices -/
def cutL (l : List UInt8) (a b : Nat) : List UInt8 := (l.drop a).take (b - a)
theorem cut_clip (l : List UInt8) (a b : Nat) : (l.drop (min a l.length)).take (min b l.length - min a l.length) = cutL l a b := by
  unfold cutL
  by_cases h : a ≤ l.length
  · rw [Nat.min_eq_left h]
    by_cases h2 : b ≤ l.length
    · rw [Nat.min_eq_left h2]
    · rw [Nat.min_eq_right (by omega), List.take_of_length_le (by simp), List.take_of_length_le (by simp; omega)]
  · rw [Nat.min_eq_right (by omega : l.length ≤ a), List.drop_of_length_le (Nat.le_refl _), List.drop_of_length_le (by omega : l.length ≤ a)]
    simp
end
end Mine
end
noncomputable section
open PySem PySem.W PySem.Spec PySem.Calls PyProof.Rows
namespace Mine
open PySem.Builtin.Int (intBits)
set_option maxRecDepth 100000

/-! pow with a modulus -/
theorem pm_step (b e m : Nat) : ∀ (k p j : Nat), e / 2 ^ k = j → p = b ^ j % m →
    (List.range k).reverse.foldl (fun p i => if e.testBit i then p * p % m * b % m else p * p % m) p = b ^ e % m
  | 0, p, j, hj, hp => by
    have : j = e := by rw [← hj]; simp
    rw [hp, this]; rfl
  | k + 1, p, j, hj, hp => by
    rw [List.range_succ, List.reverse_append, List.reverse_cons, List.reverse_nil, List.nil_append, List.singleton_append, List.foldl_cons]
    have h1 : e / 2 ^ k / 2 = j := by rw [Nat.div_div_eq_div_mul, ← Nat.pow_succ]; exact hj
    have hb : e.testBit k = decide (e / 2 ^ k % 2 = 1) := Nat.testBit_eq_decide_div_mod_eq
    have hsq : p * p % m = b ^ (2 * j) % m := by rw [hp, ← Nat.mul_mod, ← Nat.pow_add]; congr 2; omega
    refine pm_step b e m k _ (e / 2 ^ k) rfl ?_
    by_cases hc : e / 2 ^ k % 2 = 1
    · rw [if_pos (by rw [hb]; exact decide_eq_true hc), hsq]
      have e1 : e / 2 ^ k = 2 * j + 1 := by omega
      rw [e1, Nat.pow_succ, Nat.mod_mul_mod]
    · rw [if_neg (by rw [hb]; simpa using hc), hsq]
      have e1 : e / 2 ^ k = 2 * j := by omega
      rw [e1]
theorem powMod_eq (b e m : Nat) : PySem.Builtin.powMod b e m = b ^ e % m := by
  unfold PySem.Builtin.powMod
  refine pm_step b e m _ _ 0 ?_ (by rw [Nat.pow_zero])
  have h := natAbs_lt_pow_bits (e : Int)
  rw [Int.natAbs_natCast] at h
  exact Nat.div_eq_of_lt h

/-- the value of pow(x, y, n) for natural y and positive n -/
def pmod (x : Int) (y n : Nat) : Nat := (x % (n : Int)).toNat ^ y % n

section
variable {prog : Program} {w : World} {M : Model} {A : Around} {E : Value → Shared → Prop} {s : Shared} {t u v : Tok}

theorem args_pow3 (a b c : Value) : argsOk "int.__pow__" ⟨[a, b, c], []⟩ := by unfold argsOk; kernel_rfl
theorem kind_pow : builtinKind "pow" = none := by decide +kernel
theorem plain_pow : plainId "pow" = true := by decide +kernel
theorem entry_pow : entryFor table "pow" = some Builtin.«pow» := by first | exact entryFor_of_fast (by kernel_rfl) | exact entryFor_of_tree (by kernel_rfl)
theorem args_bpow (a b c : Value) : argsOk "pow" ⟨[a, b, c], []⟩ := by unfold argsOk; kernel_rfl

theorem slot_pow3 {x y n : Int} {Y N : Nat} {Q : Value → Shared → Prop} (hy : y = (Y : Int)) (hn : n = (N : Int)) (hN : 0 < N)
    (h : ∀ t', Q (.int (pmod x Y N : Int) t') { s with toks := s.toks + 1 }) :
    wpAny (model prog w) A (call (.builtin "int.__pow__") [.int x t, .int y u, .int n v]) Q E s := by
  subst hy hn
  refine wpAny_call_entry slot_int_pow (typeIs_int s _ t) entry_int_pow ?_ (args_pow3 _ _ _)
  show wpAny _ _ (if ((N : Int) == 0) = true then _ else _) _ _ s
  rw [if_neg (by simp; omega)]
  have ea : (N : Int).natAbs = N := Int.natAbs_natCast N
  show wpAny _ _ (if ((N : Int).natAbs == 1) = true then _ else _) _ _ s
  by_cases h1 : N = 1
  · rw [if_pos (by rw [ea, h1]; rfl)]
    have e0 : (pmod x Y N : Int) = 0 := by rw [h1]; unfold pmod; rw [Nat.mod_one]; rfl
    rw [e0] at h
    repeat (first | refine wpAny_pure ?_ | refine wpAny_mkInt ?_ | refine wpAny_rule ?_ | refine wpAny_bind ?_)
    exact ⟨_, rfl, h _⟩
  · rw [if_neg (by rw [ea]; simpa using h1)]
    show wpAny _ _ (if ((Y : Int) < 0) then _ else _) _ _ s
    rw [if_neg (by omega)]
    show wpAny _ _ (retInt (if ((N : Int) < 0 && _) = true then _ else _)) _ _ s
    rw [if_neg (by simp; omega)]
    rw [ea, Int.natAbs_natCast, powMod_eq]
    show wpAny _ _ (mkInt ((pmod x Y N : Nat) : Int) >>= fun v => ret v) _ _ s
    repeat (first | refine wpAny_pure ?_ | refine wpAny_mkInt ?_ | refine wpAny_rule ?_ | refine wpAny_bind ?_)
    exact ⟨_, rfl, h _⟩

theorem slot_int_pow' : Slot "int" (Str.ofString "__pow__") "int.__pow__" := slot_int_pow
theorem look_pow : typeLookup (.type "int") (Str.ofString "__pow__") = pure (some (.builtin "int.__pow__")) := slot_int_pow'.lookup
set_option maxHeartbeats 4000000 in
theorem pow3 {x y n : Int} {Y N : Nat} {Q : Value → Shared → Prop} (hy : y = (Y : Int)) (hn : n = (N : Int)) (hN : 0 < N)
    (h : ∀ t' k, Q (.int (pmod x Y N : Int) t') { s with toks := k }) :
    wpAny (model prog w) A (call (.builtin "pow") [.int x t, .int y u, .int n v]) Q E s := by
  refine call_function_entry kind_pow plain_pow entry_pow (args_bpow _ _ _) ?_
  unfold Builtin.«pow»
  refine wpAny_bind (wpAny_of_eq (a := [some (.int x t), some (.int y u), some (.int n v)]) (by kernel_rfl) ?_)
  show wpAny _ _ (rule "pow.mod" >>= fun _ => _) _ _ _
  refine wpAny_bind (wpAny_rule ?_)
  refine wpAny_bind (wpAny_typeOf (typeIs_int s x t) ?_)
  show wpAny _ _ (typeLookup (.type "int") (Str.ofString "__pow__") >>= fun r => _) _ _ _
  refine wpAny_bind (wpAny_of_eq look_pow ?_)
  refine wpAny_bind (wpAny_callSpecial?_slot (typeIs_int s x t) slot_int_pow' (slot_pow3 hy hn hN fun t' => ?_))
  refine KFB.if_so rfl ?_
  exact wpAny_pure ⟨_, rfl, h _ _⟩
end
end Mine
end
noncomputable section
open PySem PySem.W PySem.Spec PySem.Calls PyProof.Rows
namespace Mine
set_option maxRecDepth 100000

section
variable {prog : Program} {w : World} {M : Model} {A : Around} {E : Value → Shared → Prop} {s : Shared} {t u v : Tok}

theorem bz_no_bytes : typeLookup (.type "int") (Str.ofString "__bytes__") = pure none := by rw [typeLookup_type, builtinLookup_eq_fast]; kernel_rfl
theorem bz_index : typeLookup (.type "int") (Str.ofString "__index__") = pure (some (.builtin "int.__index__")) := F.slot_int_index.lookup

theorem bz_isType : isType (.type "bytes") = pure true := by first | rfl | kernel_rfl
theorem bz_new {n : Int} {Q : Value → Shared → Prop} (h0 : 0 ≤ n) (hN : n ≤ 16777216)
    (hQ : ∀ t' k, Q (.bytes (List.replicate n.toNat (0 : UInt8)).toArray t') { s with toks := k }) :
    codeAny (model prog w) A (.call (.builtin "bytes.__new__") ⟨[.type "bytes", .int n t], []⟩) (wants Q E) s := by
  refine codeAny_of_tree ?_
  show wpAny _ A.in1 (do checkBuiltinCall "bytes.__new__" ⟨[.type "bytes", .int n t], []⟩; again (.builtin "bytes.__new__" ⟨[.type "bytes", .int n t], []⟩)) _ _ s
  refine wpAny_bind (wpAny_of_eq (F.bm_newCall _) (wpAny_pure ⟨plainId_quiet F.bm_plain _, codeAny_builtin F.bm_entry ?_⟩))
  rw [Around.under_plainId F.bm_plain _]
  unfold Builtin.«bytes.__new__»
  refine wpAny_bind (wpAny_of_eq bz_isType ?_)
  refine bm_if_false rfl ?_
  refine wpAny_bind (wpAny_of_eq F.bm_sub ?_)
  refine bm_if_false rfl ?_
  refine wpAny_bind (wpAny_of_eq (F.bm_bind _) ?_)
  refine wpAny_bind (wpAny_of_eq (a := ()) rfl ?_)
  refine wpAny_bind (wpAny_of_eq (a := ()) rfl ?_)
  refine bm_if_false rfl ?_
  refine wpAny_bind (wpAny_specialOf (typeIs_int s _ t) bz_no_bytes ?_)
  refine wpAny_bind (wpAny_of_eq (a := false) rfl ?_)
  refine bm_if_false rfl ?_
  refine wpAny_bind (wpAny_specialOf (typeIs_int s _ t) bz_index ?_)
  refine bm_if_false rfl ?_
  show wpAny _ _ ((asIndex (.int n t)).attempt >>= fun r => _) _ _ s
  refine wpAny_bind (wpAny_attempt (wpAny_of_eq (a := n) rfl ?_))
  refine bm_if_false (by show (!(Builtin.Bytes.fitsIndex n)) = false; simp only [Builtin.Bytes.fitsIndex, Bool.not_eq_false', Bool.and_eq_true, decide_eq_true_eq]; omega) ?_
  refine wpAny_ite_false (decide_eq_false (show ¬ (n < 0) by omega)) ?_
  refine wpAny_ite_false (decide_eq_false (show ¬ (n > 2 ^ 63 - 34) by omega)) ?_
  refine bm_if_false (KBy.tooLong_not (by omega)) ?_
  refine wpAny_bind (wpAny_rule ?_)
  have e : Array.replicate (Int.toNat n) (0 : UInt8) = (List.replicate n.toNat (0 : UInt8)).toArray := by simp
  rw [e]
  refine wpAny_bind (wpAny_mkBytes ?_ (by rw [List.size_toArray, List.length_replicate, sizeLine_eq]; omega))
  exact wpAny_pure (hQ _ _)
theorem bz_call {n : Int} {Q : Value → Shared → Prop} (h0 : 0 ≤ n) (hN : n ≤ 16777216)
    (hQ : ∀ t' k, Q (.bytes (List.replicate n.toNat (0 : UInt8)).toArray t') { s with toks := k }) : wpAny (model prog w) A (call (.type "bytes") [.int n t]) Q E s := by
  refine callType_codes (Q₁ := fun obj s₁ => s₁.TypeIs obj "bytes" ∧ Q obj s₁) F.bm_called (F.bm_typeCall _) F.entry_object_init
    (bz_new h0 hN fun t' k => ⟨PySem.W.typeIs_bytes _ _ _, hQ t' k⟩) fun obj s₁ h₁ => ?_
  exact ⟨h₁.1, F.args_object_init_2 obj _, object_init_meets F.bm_called.init.lookup F.bm_called.made (by decide) prog w A.in1 _ s₁ ⟨h₁.1, rfl, h₁.2⟩⟩

theorem add_L {b c : List UInt8} {Q : Value → Shared → Prop} (hsz : b.length + c.length ≤ 16777216) (h : ∀ t' k, Q (.bytes (b ++ c).toArray t') { s with toks := k }) :
    wpAny (model prog w) A (binaryOp .Add (.bytes b.toArray t) (.bytes c.toArray u)) Q E s := bytes_add_K (by simpa using hsz) rfl h

theorem len_L {b : List UInt8} {Q : Value → Shared → Prop} (hsz : b.length ≤ 1099511627776) (h : ∀ t' k, Q (.int (b.length : Int) t') { s with toks := k }) :
    wpAny (model prog w) A (call (.builtin "len") [.bytes b.toArray t]) Q E s := len_bytes (by simpa using hsz) (by rw [List.size_toArray]; exact h _ _)

variable {value slice : PySem.Expr} {l : List UInt8} {h₀ : Heap} {L : Addr} {m : PySem.Str → Option Value} {news : List (Addr × Obj)} {lo up : Value} {Q : Value → Shared → Prop}
theorem slice_L {olo ohi : Option Int} {a b : Nat} (hF : Fr h₀ L s.heap m) (hN : News h₀ L s.heap news) (hl : IsPart lo olo) (hu : IsPart up ohi)
    (ha : olo.elim 0 (clipAt l.length) = min a l.length) (hb : ohi.elim l.length (clipAt l.length) = min b l.length) (hz : l.length ≤ 16777216)
    (h : ∀ h' t' k, Fr h₀ L h' m → News h₀ L h' news → Q (.bytes (cutL l a b).toArray t') { s with heap := h', toks := k })
    (hs : subscripted slice false (.bytes l.toArray t) (.ref s.heap.objs.size) = operate [.ref s.heap.objs.size, .bytes l.toArray t] (getItem (.bytes l.toArray t) (.ref s.heap.objs.size)) := by with_unfolding_all rfl)
    (ht : ∀ r, letTemporaryGo value (.bytes l.toArray t) r = pure () := by intro _; with_unfolding_all rfl) :
    wpAny (model prog w) A (subscriptTail value slice (.bytes l.toArray t) (.ref s.heap.objs.size)) Q E { s with heap := s.heap.push { cls := .type "slice", data := .fields #[lo, up, .none] } } := by
  have e : KBy.picked l.toArray olo ohi = (cutL l a b).toArray := by
    rw [KBc.picked_eq]
    simp only [List.size_toArray]
    rw [ha, hb, cut_clip]
  refine tail_of_ItemOn ⟨"bytes", _, FB.slot_bytes_getitem.lookup, typeIs_bytes _ _ _, getItem_meets (typeIs_bytes _ _ _) (by decide) FB.slot_bytes_getitem FB.entry_bytes_getitem (FB.args_bytes_getitem_2 _ _) (KBc.meets_slice2 l.toArray t _ hl hu)
    ⟨Heap.IsSliceOf.new _ _ _ _, Nat.le_trans (KBc.size_picked_le _ olo ohi) (by rw [sizeLine_eq]; simpa using hz), fun t' k => ?_⟩⟩ hs ht
  rw [e]
  exact h _ _ _ (hF.push _) (News.pushKeep hN _)
theorem slice_ab {A' B' : Int} {t1 t2 : Tok} (hF : Fr h₀ L s.heap m) (hN : News h₀ L s.heap news) (hA : 0 ≤ A') (hB : 0 ≤ B') (hz : l.length ≤ 16777216)
    (h : ∀ h' t' k, Fr h₀ L h' m → News h₀ L h' news → Q (.bytes (cutL l A'.toNat B'.toNat).toArray t') { s with heap := h', toks := k })
    (hs : subscripted slice false (.bytes l.toArray t) (.ref s.heap.objs.size) = operate [.ref s.heap.objs.size, .bytes l.toArray t] (getItem (.bytes l.toArray t) (.ref s.heap.objs.size)) := by with_unfolding_all rfl)
    (ht : ∀ r, letTemporaryGo value (.bytes l.toArray t) r = pure () := by intro _; with_unfolding_all rfl) :
    wpAny (model prog w) A (subscriptTail value slice (.bytes l.toArray t) (.ref s.heap.objs.size)) Q E { s with heap := s.heap.push { cls := .type "slice", data := .fields #[.int A' t1, .int B' t2, .none] } } := by
  obtain ⟨a, rfl⟩ := Int.eq_ofNat_of_zero_le hA
  obtain ⟨b, rfl⟩ := Int.eq_ofNat_of_zero_le hB
  exact slice_L hF hN (.int _ _) (.int _ _) (clipAt_nat _ _) (clipAt_nat _ _) hz h hs ht
theorem slice_to {B' : Int} {t2 : Tok} (hF : Fr h₀ L s.heap m) (hN : News h₀ L s.heap news) (hB : 0 ≤ B') (hz : l.length ≤ 16777216)
    (h : ∀ h' t' k, Fr h₀ L h' m → News h₀ L h' news → Q (.bytes (l.take B'.toNat).toArray t') { s with heap := h', toks := k })
    (hs : subscripted slice false (.bytes l.toArray t) (.ref s.heap.objs.size) = operate [.ref s.heap.objs.size, .bytes l.toArray t] (getItem (.bytes l.toArray t) (.ref s.heap.objs.size)) := by with_unfolding_all rfl)
    (ht : ∀ r, letTemporaryGo value (.bytes l.toArray t) r = pure () := by intro _; with_unfolding_all rfl) :
    wpAny (model prog w) A (subscriptTail value slice (.bytes l.toArray t) (.ref s.heap.objs.size)) Q E { s with heap := s.heap.push { cls := .type "slice", data := .fields #[.none, .int B' t2, .none] } } := by
  obtain ⟨b, rfl⟩ := Int.eq_ofNat_of_zero_le hB
  refine slice_L (a := 0) hF hN .none (.int _ _) (by simp) (clipAt_nat _ _) hz (fun h' t' k F' N' => ?_) hs ht
  have e : cutL l 0 b = l.take (b : Int).toNat := by simp [cutL]
  rw [e]
  exact h _ _ _ F' N'
theorem slice_from {A' : Int} {t1 : Tok} (hF : Fr h₀ L s.heap m) (hN : News h₀ L s.heap news) (hA : 0 ≤ A') (hz : l.length ≤ 16777216)
    (h : ∀ h' t' k, Fr h₀ L h' m → News h₀ L h' news → Q (.bytes (l.drop A'.toNat).toArray t') { s with heap := h', toks := k })
    (hs : subscripted slice false (.bytes l.toArray t) (.ref s.heap.objs.size) = operate [.ref s.heap.objs.size, .bytes l.toArray t] (getItem (.bytes l.toArray t) (.ref s.heap.objs.size)) := by with_unfolding_all rfl)
    (ht : ∀ r, letTemporaryGo value (.bytes l.toArray t) r = pure () := by intro _; with_unfolding_all rfl) :
    wpAny (model prog w) A (subscriptTail value slice (.bytes l.toArray t) (.ref s.heap.objs.size)) Q E { s with heap := s.heap.push { cls := .type "slice", data := .fields #[.int A' t1, .none, .none] } } := by
  obtain ⟨a, rfl⟩ := Int.eq_ofNat_of_zero_le hA
  refine slice_L (b := l.length) hF hN (.int _ _) .none (clipAt_nat _ _) (by simp) hz (fun h' t' k F' N' => ?_) hs ht
  have e : cutL l a l.length = l.drop (a : Int).toNat := by simp only [cutL, Int.toNat_natCast]; exact List.take_of_length_le (by simp)
  rw [e]
  exact h _ _ _ F' N'
end
end Mine
end
noncomputable section
open PySem PySem.W PySem.Spec PySem.Calls PyProof.Rows
namespace Mine
set_option maxRecDepth 100000
section
variable {prog : Program} {w : World} {M : Model} {A : Around} {E : Value → Shared → Prop} {s : Shared} {t u v : Tok}
theorem bb_bytes : typeLookup (.type "bytes") (Str.ofString "__bytes__") = pure (some (.builtin "bytes.__bytes__")) := by rw [typeLookup_type, builtinLookup_eq_fast]; kernel_rfl
theorem bb_new {b : Array UInt8} {Q : Value → Shared → Prop} (hQ : Q (.bytes b t) s) :
    codeAny (model prog w) A (.call (.builtin "bytes.__new__") ⟨[.type "bytes", .bytes b t], []⟩) (wants Q E) s := by
  refine codeAny_of_tree ?_
  show wpAny _ A.in1 (do checkBuiltinCall "bytes.__new__" ⟨[.type "bytes", .bytes b t], []⟩; again (.builtin "bytes.__new__" ⟨[.type "bytes", .bytes b t], []⟩)) _ _ s
  refine wpAny_bind (wpAny_of_eq (F.bm_newCall _) (wpAny_pure ⟨plainId_quiet F.bm_plain _, codeAny_builtin F.bm_entry ?_⟩))
  rw [Around.under_plainId F.bm_plain _]
  unfold Builtin.«bytes.__new__»
  refine wpAny_bind (wpAny_of_eq bz_isType ?_)
  refine bm_if_false rfl ?_
  refine wpAny_bind (wpAny_of_eq F.bm_sub ?_)
  refine bm_if_false rfl ?_
  refine wpAny_bind (wpAny_of_eq (F.bm_bind _) ?_)
  refine wpAny_bind (wpAny_of_eq (a := ()) rfl ?_)
  refine wpAny_bind (wpAny_of_eq (a := ()) rfl ?_)
  refine bm_if_false rfl ?_
  refine wpAny_bind (wpAny_specialOf (PySem.W.typeIs_bytes s b t) bb_bytes ?_)
  refine wpAny_bind (wpAny_rule ?_)
  refine wpAny_bind (wpAny_typeOf (PySem.W.typeIs_bytes s b t) ?_)
  refine bm_if_true (by decide +kernel) ?_
  exact wpAny_pure hQ
theorem bb_call {b : Array UInt8} {Q : Value → Shared → Prop} (hQ : Q (.bytes b t) s) : wpAny (model prog w) A (call (.type "bytes") [.bytes b t]) Q E s := by
  refine callType_codes (Q₁ := fun obj s₁ => s₁.TypeIs obj "bytes" ∧ Q obj s₁) F.bm_called (F.bm_typeCall _) F.entry_object_init
    (bb_new ⟨PySem.W.typeIs_bytes _ _ _, hQ⟩) fun obj s₁ h₁ => ?_
  exact ⟨h₁.1, F.args_object_init_2 obj _, object_init_meets F.bm_called.init.lookup F.bm_called.made (by decide) prog w A.in1 _ s₁ ⟨h₁.1, rfl, h₁.2⟩⟩
end
end Mine
end
noncomputable section
open PySem PySem.W PySem.Spec PySem.Calls PyProof.Rows PyProof.Rows.LCg
namespace Mine
set_option maxRecDepth 100000
/-! a comprehension over a tuple of the ledger -/
def TupIn (ax : Addr) (its : Array Value) (news : List (Addr × Obj)) : Prop := (ax, ({ cls := .type "tuple", data := .seq its } : Obj)) ∈ news
theorem TupIn.tup {h₀ h : Heap} {L ax : Addr} {its : Array Value} {news : List (Addr × Obj)} (x : TupIn ax its news) (N : News h₀ L h news) : h.IsTuple ax its := ⟨_, (N _ x).1, rfl, _, rfl⟩
def SrcT (prog : Program) (w : World) (A : Around) (h₀ : Heap) (L : Addr) (m : Str → Option Value) (env : Env) (elt : Expr) (x : Str) (scope : Scope) (cl : List (Str × Addr)) (Fin : Shared → List Value → List (Addr × Obj) → Prop) (xv : Value) (s₁ : Shared) : Prop :=
  ∃ ax its news, xv = .ref ax ∧ A.handled = none ∧ Fr h₀ L s₁.heap m ∧ News h₀ L s₁.heap news ∧ TupIn ax its news ∧ its.size ≤ sizeLine ∧
    ∀ s₂ : Shared, (∃ h, s₂ = { s₁ with heap := h }) → CompRest prog w A h₀ L m env elt x scope cl s₂ (TupIn ax its) (fun i v => its[i]? = some v) (Fin s₂) its.size 0 [] news
theorem compEnd {h₀ : Heap} {L I C D : Addr} {m : Str → Option Value} {s₁ : Shared} {oI oC oD : Obj} {S : List (Addr × Obj) → Prop} {rest : Value → List (Addr × Obj) → Prop} {y : Value} {h' : Heap} {tk : Nat} {news' : List (Addr × Obj)}
    (F : Fr h₀ L h' m) (N : News h₀ L h' ((I, oI) :: (C, oC) :: (D, oD) :: news')) (off : Off3 I C D news') (hS : S news') (r : rest y news') :
    CompEnd h₀ L m s₁ I oI C oC D oD S rest y { s₁ with heap := h', toks := tk } := CompEnd.intro F N news' (fun _ hp => hp) off hS r
section
variable {prog : Program} {w : World} {A : Around} {E : Value → Shared → Prop} {s : Shared} {h₀ : Heap} {L : Addr} {m : Str → Option Value} {env : Env}
theorem SrcT.intro {elt : Expr} {x : Str} {scope : Scope} {cl : List (Str × Addr)} {Fin : Shared → List Value → List (Addr × Obj) → Prop} {ax : Addr} {its : Array Value} {news : List (Addr × Obj)} {s₁ : Shared}
    (hh : A.handled = none) (F : Fr h₀ L s₁.heap m) (N : News h₀ L s₁.heap news) (hm : (ax, ({ cls := .type "tuple", data := .seq its } : Obj)) ∈ news) (hsz : its.size ≤ sizeLine)
    (h : ∀ g, CompRest prog w A h₀ L m env elt x scope cl { s₁ with heap := g } (TupIn ax its) (fun i v => its[i]? = some v) (Fin { s₁ with heap := g }) its.size 0 [] news) :
    SrcT prog w A h₀ L m env elt x scope cl Fin (.ref ax) s₁ := ⟨ax, its, news, rfl, hh, F, N, hm, hsz, fun _ ⟨g, e⟩ => e ▸ h g⟩
theorem tup_st {ax I : Addr} {its : Array Value} : ∀ i (h h' : Heap) (o : Obj) (nw : List (Addr × Obj)), (h.IsTupleIter I ax i ∧ h.IsTuple ax its) → h.get? I = some o → h'.get? I = some o → (∀ b o, h₀.get? b = some o → h'.get? b = some o) → News h₀ L h' nw → TupIn ax its nw → (h'.IsTupleIter I ax i ∧ h'.IsTuple ax its) :=
  fun i h h' o nw st e e' k N S => ⟨by obtain ⟨o', q, r⟩ := st.1; rw [e] at q; cases q; exact ⟨o, e', r⟩, S.tup N⟩
theorem ListComp_T {elt iter : Expr} {x : Str} {px : Pos} {scope : Scope} {cl : List (Str × Addr)} {pos : Pos} {Q : Value → Shared → Prop} (F₀ : Fr h₀ L s.heap m)
    (hclos : closureFor scope env = pure cl) (hcell : ∀ y ∈ scope.names, y.2 ≠ .cell) (hkind : scope.kind = .function)
    (hnames : ∀ y ∈ scope.names, y.2 = .local → scope.names.lookup y.1 = some .local) (hx : scope.names.lookup x = some .local)
    (h : wpAny (model prog w) A (eval iter env) (SrcT prog w A h₀ L m env elt x scope cl (fun s₂ => FinE h₀ L m s₂ Q)) E s)
    (hs : ∀ x, foldedSetIterable iter env x = pure x := by intro _; rfl) :
    wpAny (model prog w) A (eval (.ListComp elt [⟨.Name x px, iter, [], 0⟩] scope pos) env) Q E s := by
  rw [eval_ListComp]
  refine wpAny_comprehension_free (use := none) rfl hs hclos hkind hnames (wpAny_mono h (fun xv s₁ h₁ => ?_) fun _ _ e => e)
  obtain ⟨ax, its, news, rfl, hh, F, N, S, hsz, R⟩ := h₁
  have hl := S.tup N
  have hlt : ax < s₁.heap.objs.size := by obtain ⟨_, e, _⟩ := hl; exact Heap.lt_size e
  refine wpAny_pyIter_tuple hl ?_
  have up : ∀ b o, s₁.heap.get? b = some o → (s₁.heap.push { cls := .type "tuple_iterator", data := .fields #[.ref ax, .int 0 0] }).get? b = some o := fun b o e => Heap.get?_push_of_some _ e
  refine block_U (Walks.tuple hh s₁.heap.objs.size ax (Nat.ne_of_lt hlt) its) hsz (fun i h st => by obtain ⟨o, e, _⟩ := st.1; exact ⟨o, e⟩) tup_st hcell hkind hx ⟨⟨_, Heap.get?_push_size _ rfl, rfl, rfl⟩, hl.at fun o e => up ax o e⟩ (fun b hb => ?_)
    (F.keeps up) (N.grown up) (Nat.ne_of_lt F.ns.lt) (next_is_new F) (fun p hp => Nat.ne_of_lt (Heap.lt_size (N p hp).1)) S (R _ ⟨_, rfl⟩) ?_
  · show b < (s₁.heap.push _).objs.size
    rw [Heap.size_push]
    rcases List.mem_cons.mp hb with rfl | hb
    · exact Nat.lt_succ_self _
    · rw [List.mem_singleton.mp hb]; exact Nat.lt_succ_of_lt hlt
  · intro D C h tk m' ys news' F' N' o1 hn hC₀ hD₀ hCL hDL hCD offC fin
    refine ⟨m', hn, fun h'' hs'' => fin D h'' tk (F'.change hs'' hCL hC₀) (fun p hp => ?_) o1⟩
    refine ⟨hs''.extBut _ _ ?_ (N' p hp).1, (N' p hp).2⟩
    rcases List.mem_cons.mp hp with rfl | hp
    · exact Ne.symm hCD
    · exact offC p hp
end
end Mine
end
noncomputable section
open PySem PySem.W PySem.Spec PySem.Calls PyProof.Rows
namespace Mine
section
variable {prog : Program} {w : World} {A : Around} {E : Value → Shared → Prop} {s : Shared} {h₀ : Heap} {L : Addr} {m : Str → Option Value} {news : List (Addr × Obj)} {a b c : Int} {t u v : Tok} {Q : Value → Shared → Prop}
theorem maxI (hh : A.handled = none) (F : Fr h₀ L s.heap m) (N : News h₀ L s.heap news) (h : ∀ h' t' tk, Fr h₀ L h' m → News h₀ L h' news → Q (.int (max a b) t') { s with heap := h', toks := tk }) :
    wpAny (model prog w) A (call (.builtin "max") [.int a t, .int b u]) Q E s :=
  max_two_N hh F N fun h' tk F' N' => by
    have e : (if b > a then b else a) = max a b := by split <;> omega
    rw [e]; exact h _ _ _ F' N'
theorem minI (hh : A.handled = none) (F : Fr h₀ L s.heap m) (N : News h₀ L s.heap news) (h : ∀ h' t' tk, Fr h₀ L h' m → News h₀ L h' news → Q (.int (min a b) t') { s with heap := h', toks := tk }) :
    wpAny (model prog w) A (call (.builtin "min") [.int a t, .int b u]) Q E s :=
  min_two_N hh F N fun h' tk F' N' => by
    have e : (if b < a then b else a) = min a b := by split <;> omega
    rw [e]; exact h _ _ _ F' N'
theorem max3I (hh : A.handled = none) (F : Fr h₀ L s.heap m) (N : News h₀ L s.heap news) (h : ∀ h' t' tk, Fr h₀ L h' m → News h₀ L h' news → Q (.int (max (max a b) c) t') { s with heap := h', toks := tk }) :
    wpAny (model prog w) A (call (.builtin "max") [.int a t, .int b u, .int c v]) Q E s := by
  refine max_three_ints hh fun h' tk hk => ?_
  have key := fun tok => h h' tok tk (F.grownK hk) (N.grown hk)
  have e : ∀ z : Int, z = max (max a b) c → ∀ tok, Q (.int z tok) { s with heap := h', toks := tk } := fun z hz tok => by rw [hz]; exact key tok
  split <;> split <;> exact e _ (by omega) _
end
end Mine
end
noncomputable section
open PySem PySem.W PySem.Spec PySem.Calls PyProof.Rows PyProof.V
namespace Mine
theorem fd {a b : Int} (h : 0 ≤ b) : a.fdiv b = a / b := Int.fdiv_eq_ediv_of_nonneg _ h
theorem cutL_length (l : List UInt8) (a b : Nat) : (cutL l a b).length = min (b - a) (l.length - a) := by simp [cutL]
theorem KBa_byteArr_length (ns : List Int) : (byteArr ns).toList.length = ns.length := by simp [byteArr]
def padL (f : List UInt8) (n : Nat) : List UInt8 := f ++ List.replicate (n - f.length) 0
def partL (l : List UInt8) (p n : Nat) : List UInt8 := padL (cutL l p (p + n)) n
theorem cutL_le (l : List UInt8) (p n : Nat) : (cutL l p (p + n)).length ≤ n := by rw [cutL_length, Nat.add_sub_cancel_left]; exact Nat.min_le_left _ _
theorem partL_length (l : List UInt8) (p n : Nat) : (partL l p n).length = n := by
  unfold partL padL; rw [List.length_append, List.length_replicate]; exact Nat.add_sub_cancel' (cutL_le l p n)
theorem tn96 (b : Nat) : ((96 : Int) + (b : Int)).toNat = 96 + b := rfl
theorem tnmin (p : Nat) : (min (p : Int) 32).toNat = min p 32 := by
  rcases Nat.le_total p 32 with h | h
  · rw [Nat.min_eq_left h, Int.min_eq_left (b := 32) (Int.ofNat_le.mpr h)]; rfl
  · rw [Nat.min_eq_right h, Int.min_eq_right (b := 32) (Int.ofNat_le.mpr h)]; rfl
theorem cmax (a b : Nat) : max (a : Int) (b : Int) = ((max a b : Nat) : Int) := by
  rcases Nat.le_total a b with h | h
  · rw [Nat.max_eq_right h, Int.max_eq_right (Int.ofNat_le.mpr h)]
  · rw [Nat.max_eq_left h, Int.max_eq_left (Int.ofNat_le.mpr h)]
theorem mm_tn (n a b : Nat) : (((n : Int) * (a : Int)) % (b : Int)).toNat = n * a % b := by rw [← Int.natCast_mul, ← Int.natCast_emod]; rfl
theorem max3_lt {a b c : Nat} (h : (4194304 : Int) < max (max (a : Int) (b : Int)) (c : Int)) : max (max a b) c > 4194304 := by
  rw [cmax, cmax] at h; exact Int.ofNat_lt.mp h
theorem max3_gt {a b c : Nat} (h : max (max a b) c > 4194304) : (4194304 : Int) < max (max (a : Int) (b : Int)) (c : Int) := by
  rw [cmax, cmax]; exact Int.ofNat_lt.mpr h
theorem mulL {a b : Int} (h : -(2 ^ 64) < a ∧ a < 2 ^ 64) : IntMulOk a b := .of_left (PySem.intBits_le_64 h.1 h.2)
theorem mulR {a b : Int} (h : -(2 ^ 64) < b ∧ b < 2 ^ 64) : IntMulOk a b := .of_right (PySem.intBits_le_64 h.1 h.2)
theorem mulLb {a b n : Int} (h : 0 ≤ a ∧ a < n) (hn : n ≤ 2 ^ 64) : IntMulOk a b := mulL ⟨Int.lt_of_lt_of_le (by decide) h.1, Int.lt_of_lt_of_le h.2 hn⟩
theorem mulRb {a b n : Int} (h : 0 ≤ b ∧ b < n) (hn : n ≤ 2 ^ 64) : IntMulOk a b := mulR ⟨Int.lt_of_lt_of_le (by decide) h.1, Int.lt_of_lt_of_le h.2 hn⟩
theorem mulLm {a b n : Int} (hn : 0 < n ∧ n ≤ 2 ^ 64) : IntMulOk (a.fmod n) b := mulLb ⟨Int.fmod_nonneg_of_pos _ hn.1, Int.fmod_lt_of_pos _ hn.1⟩ hn.2
theorem mulRm {a b n : Int} (hn : 0 < n ∧ n ≤ 2 ^ 64) : IntMulOk a (b.fmod n) := mulRb ⟨Int.fmod_nonneg_of_pos _ hn.1, Int.fmod_lt_of_pos _ hn.1⟩ hn.2
theorem c19E {a b c : Nat} {x : Int} (h : ¬ (4194304 : Int) < max (max (a : Int) b) c) : IntMulOk x ((max (a : Int) (c : Int) + 7).fdiv 8) := by
  rw [fd (by decide)]
  have h1 : max (a : Int) (c : Int) ≤ 4194304 := Int.max_le.mpr ⟨Int.le_trans (Int.le_trans (Int.le_max_left _ _) (Int.le_max_left _ _)) (Int.not_lt.mp h), Int.le_trans (Int.le_max_right _ _) (Int.not_lt.mp h)⟩
  have h0 : 0 ≤ max (a : Int) (c : Int) := Int.le_trans (Int.natCast_nonneg a) (Int.le_max_left _ _)
  generalize max (a : Int) (c : Int) = X at *
  clear h
  exact mulRb (n := 4194304) ⟨by omega, by omega⟩ (by decide)
theorem c19R {a b c : Nat} {x R : Int} (hp : 1 ≤ R ∧ R ≤ 257 + 8 * (b : Int)) (h : ¬ (4194304 : Int) < max (max (a : Int) b) c) : IntMulOk x R := by
  have h1 : (b : Int) ≤ 4194304 := Int.le_trans (Int.le_trans (Int.le_max_right _ _) (Int.le_max_left _ _)) (Int.not_lt.mp h)
  obtain ⟨p, q⟩ := hp
  clear h
  exact mulRb (n := 4294967296) ⟨by omega, by omega⟩ (by decide)
theorem d3M {k x : Int} {n : Nat} (h0 : 0 ≤ k) (h : k < 0 + (((n : Int) - 0).toNat : Int)) (hn : n ≤ 100) : IntMulOk x k := mulRb (n := 4294967296) ⟨h0, by omega⟩ (by decide)
theorem cl1 {l : List UInt8} {p n : Nat} (hn : n ≤ 1000) : (cutL l (p : Int).toNat ((p : Int) + (n : Int)).toNat).length ≤ 1099511627776 := Nat.le_trans (cutL_le l p n) (Nat.le_trans hn (by decide))
theorem cl2 {l : List UInt8} {p n : Nat} : (0 : Int) ≤ (n : Int) - ((cutL l (p : Int).toNat ((p : Int) + (n : Int)).toNat).length : Int) := Int.sub_nonneg_of_le (Int.ofNat_le.mpr (cutL_le l p n))
theorem cl3 {l : List UInt8} {p n : Nat} {x : UInt8} (hn : n ≤ 1000) : (cutL l (p : Int).toNat ((p : Int) + (n : Int)).toNat).length + (List.replicate ((n : Int) - ((cutL l (p : Int).toNat ((p : Int) + (n : Int)).toNat).length : Int)).toNat x).length ≤ 16777216 := by
  rw [List.length_replicate, Int.toNat_sub]
  exact Nat.le_trans (Nat.le_of_eq (Nat.add_sub_cancel' (cutL_le l p n))) (Nat.le_trans hn (by decide))
theorem e_of {X : Int} (h : 1 ≤ X) : 1 ≤ (X + 7) / 8 := by omega
theorem e_big {X : Int} (h : 4294967296 ≤ X) : 536870912 ≤ (X + 7) / 8 := by omega
theorem e_zero {X : Nat} (h : (X + 7) / 8 = 0) : X = 0 := by omega
theorem r_big {a : Int} {P : Nat} (ha : -1 ≤ a) (h : 4294967296 ≤ P) : 34359738000 ≤ max (a + 8 * max ((P : Int) - 32) 0) 1 := by
  have b := Int.le_max_left ((P : Int) - 32) 0
  refine Int.le_trans ?_ (Int.le_max_left _ _)
  generalize max ((P : Int) - 32) 0 = Y at *
  omega
theorem partL_end {l : List UInt8} {p n : Nat} (h : l.length ≤ p) : partL l p n = List.replicate n 0 := by
  unfold partL padL cutL; rw [List.drop_of_length_le h]; simp
def numL (l : List UInt8) (p n : Nat) : Nat := beN (partL l p n)
theorem vint {x y : Int} {t : Tok} (h : x = y) : ∃ t', Value.int x t = Value.int y t' := ⟨t, by rw [h]⟩
theorem vbytes {x y : List UInt8} {t : Tok} (h : x = y) : ∃ t', Value.bytes x.toArray t = Value.bytes y.toArray t' := ⟨t, by rw [h]⟩
theorem fm {a b : Int} (h : 0 ≤ b) : a.fmod b = a % b := Int.fmod_eq_emod_of_nonneg _ h
theorem partV {l : List UInt8} {p n : Nat} : cutL l (p : Int).toNat ((p : Int) + (n : Int)).toNat ++ List.replicate ((n : Int) - ((cutL l (p : Int).toNat ((p : Int) + (n : Int)).toNat).length : Int)).toNat 0 = partL l p n := by
  rw [show ((p : Int) + (n : Int)).toNat = p + n from rfl, Int.toNat_natCast, Int.toNat_sub]
  rfl
theorem partV0 {l : List UInt8} {p n : Nat} (h : ¬ (p : Int) < (l.length : Int)) : ([] : List UInt8) ++ List.replicate ((n : Int) - ((([] : List UInt8).length : Nat) : Int)).toNat 0 = partL l p n := by
  rw [partL_end (by omega), List.nil_append]
  congr 1
section
variable {prog : Program} {w : World} {A : Around} {E : Value → Shared → Prop} {s : Shared} {t u v : Tok} {x K : Int} {Q : Value → Shared → Prop}
theorem to_bigI (hK : 0 ≤ K) (hk : K ≤ 100000) (hx : 0 ≤ x) (h1 : x.toNat < 256 ^ K.toNat) (h : ∀ t' k', Q (.bytes (beL K.toNat x.toNat).toArray t') { s with toks := k' }) :
    wpAny (model prog w) A (call (.builtin "int.to_bytes") [.int x t, .int K u, .str (PySem.Str.ofString "big") v]) Q E s :=
  to_big (Int.toNat_of_nonneg hK).symm (Int.toNat_of_nonneg hx).symm (by omega) h1 h
theorem to_littleI (hK : 0 ≤ K) (hk : K ≤ 100000) (hx : 0 ≤ x) (h1 : x.toNat < 256 ^ K.toNat) (h : ∀ t' k', Q (.bytes (leL K.toNat x.toNat).toArray t') { s with toks := k' }) :
    wpAny (model prog w) A (call (.builtin "int.to_bytes") [.int x t, .int K u, .str (PySem.Str.ofString "little") v]) Q E s :=
  to_little (Int.toNat_of_nonneg hK).symm (Int.toNat_of_nonneg hx).symm (by omega) h1 h
end

/-! the objects -/
abbrev tup2O (x : Int) (tx : Tok) (y : Int) (ty : Tok) : Obj := { cls := .type "tuple", data := .seq #[.int x tx, .int y ty] }
abbrev tup3O (x : Int) (tx : Tok) (y : Int) (ty : Tok) (z : Int) (tz : Tok) : Obj := { cls := .type "tuple", data := .seq #[.int x tx, .int y ty, .int z tz] }

abbrev curveD (P : Params) (g : Addr) (t1 t2 t3 t4 t5 t6 t7 : Tok) : Obj := dictOf [⟨PyData.keyHash P (Str.ofString "p"), .str (Str.ofString "p") t1, .int 67 t2⟩, ⟨PyData.keyHash P (Str.ofString "b"), .str (Str.ofString "b") t3, .int 7 t4⟩, ⟨PyData.keyHash P (Str.ofString "g"), .str (Str.ofString "g") t5, .ref g⟩, ⟨PyData.keyHash P (Str.ofString "n"), .str (Str.ofString "n") t6, .int 79 t7⟩] 4
def CurveAt (P : Params) (news : List (Addr × Obj)) (cu : Addr) : Prop :=
  ∃ cd g t1 t2 t3 t4 t5 t6 t7 t8 t9, (cu, instObj 163 cd) ∈ news ∧ (cd, curveD P g t1 t2 t3 t4 t5 t6 t7) ∈ news ∧ (g, tup2O 2 t8 22 t9) ∈ news
theorem CurveAt.more {P : Params} {news news' : List (Addr × Obj)} {cu : Addr} (h : CurveAt P news cu) (hs : ∀ q ∈ news, q ∈ news') : CurveAt P news' cu := by
  obtain ⟨cd, g, t1, t2, t3, t4, t5, t6, t7, t8, t9, h1, h2, h3⟩ := h
  exact ⟨cd, g, t1, t2, t3, t4, t5, t6, t7, t8, t9, hs _ h1, hs _ h2, hs _ h3⟩
section
variable {prog : Program} {w : World} {A : Around} {E : Value → Shared → Prop} {s : Shared} {t u v : Tok} {x y n : Int} {Q : Value → Shared → Prop}
theorem pmod_lt {x : Int} {Y N : Nat} (h : 0 < N) : pmod x Y N < N := Nat.mod_lt _ h
theorem pow3I (hy : 0 ≤ y) (hn : 0 < n) (h : ∀ t' k, 0 ≤ (pmod x y.toNat n.toNat : Int) ∧ (pmod x y.toNat n.toNat : Int) < n → Q (.int (pmod x y.toNat n.toNat : Int) t') { s with toks := k }) :
    wpAny (model prog w) A (call (.builtin "pow") [.int x t, .int y u, .int n v]) Q E s :=
  pow3 (Int.toNat_of_nonneg hy).symm (Int.toNat_of_nonneg (by omega)).symm (by omega) fun t' k => h t' k (by
    have := @pmod_lt x y.toNat n.toNat (by omega)
    omega)
end
/-! the curve's arithmetic, as the text reckons it -/
def wdM (x y z : Int) : Int × Int × Int :=
  if y = 0 ∨ z = 0 then (1, 1, 0) else
    let square := (y * y).fmod 67
    let middle := (4 * x * square).fmod 67
    let slope := (3 * x * x).fmod 67
    let far := (slope * slope - 2 * middle).fmod 67
    (far, (slope * (middle - far) - 8 * square * square).fmod 67, (2 * y * z).fmod 67)
theorem wdM_zero {x y z : Int} (h : y = 0 ∨ z = 0) : (1, 1, 0) = wdM x y z := by unfold wdM; rw [if_pos h]
theorem wdM_pos {x y z : Int} (h : ¬ (y = 0 ∨ z = 0)) : wdM x y z = (let square := (y * y).fmod 67
    let middle := (4 * x * square).fmod 67
    let slope := (3 * x * x).fmod 67
    let far := (slope * slope - 2 * middle).fmod 67
    (far, (slope * (middle - far) - 8 * square * square).fmod 67, (2 * y * z).fmod 67)) := by unfold wdM; rw [if_neg h]
def waM (x y z u v w : Int) : Int × Int × Int :=
  if z = 0 then (u, v, w) else if w = 0 then (x, y, z) else
    let left := (x * w * w).fmod 67
    let right := (u * z * z).fmod 67
    let low := (y * w * w * w).fmod 67
    let high := (v * z * z * z).fmod 67
    if left = right then (if low = high then wdM x y z else (1, 1, 0)) else
      let step := right - left
      let rise := high - low
      let square := (step * step).fmod 67
      let cube := (step * square).fmod 67
      let middle := (left * square).fmod 67
      let far := (rise * rise - cube - 2 * middle).fmod 67
      (far, (rise * (middle - far) - low * cube).fmod 67, (step * z * w).fmod 67)
theorem waM_other {x y z u v o : Int} (h : z = 0) : (u, v, o) = waM x y z u v o := by unfold waM; rw [if_pos h]
theorem waM_one {x y z u v o : Int} (h : z ≠ 0) (h2 : o = 0) : (x, y, z) = waM x y z u v o := by unfold waM; rw [if_neg h, if_pos h2]
theorem waM_far {x y z u v o : Int} (h : z ≠ 0) (h2 : o ≠ 0) (h3 : (x * o * o).fmod 67 ≠ (u * z * z).fmod 67) : (let left := (x * o * o).fmod 67
    let right := (u * z * z).fmod 67
    let low := (y * o * o * o).fmod 67
    let high := (v * z * z * z).fmod 67
    let step := right - left
    let rise := high - low
    let square := (step * step).fmod 67
    let cube := (step * square).fmod 67
    let middle := (left * square).fmod 67
    let far := (rise * rise - cube - 2 * middle).fmod 67
    (far, (rise * (middle - far) - low * cube).fmod 67, (step * z * o).fmod 67)) = waM x y z u v o := by unfold waM; rw [if_neg h, if_neg h2]; simp only [if_neg h3]
theorem waM_none {x y z u v o : Int} (h : z ≠ 0) (h2 : o ≠ 0) (h3 : (x * o * o).fmod 67 = (u * z * z).fmod 67) (h4 : (y * o * o * o).fmod 67 ≠ (v * z * z * z).fmod 67) : (1, 1, 0) = waM x y z u v o := by
  unfold waM; rw [if_neg h, if_neg h2]; simp only [if_pos h3, if_neg h4]
theorem waM_dbl {x y z u v o : Int} (h : z ≠ 0) (h2 : o ≠ 0) (h3 : (x * o * o).fmod 67 = (u * z * z).fmod 67) (h4 : (y * o * o * o).fmod 67 = (v * z * z * z).fmod 67) : ((wdM x y z).1, (wdM x y z).2.1, (wdM x y z).2.2) = waM x y z u v o := by
  unfold waM; rw [if_neg h, if_neg h2]; simp only [if_pos h3, if_pos h4]
def naM (x y z : Int) : Option (Int × Int) :=
  if z = 0 then none else
    let back := (pmod z 65 67 : Int)
    let square := (back * back).fmod 67
    some ((x * square).fmod 67, (y * square * back).fmod 67)
theorem naM_none {x y z : Int} (h : z = 0) : none = naM x y z := by unfold naM; rw [if_pos h]
theorem naM_some {x y z : Int} (h : z ≠ 0) : (let back := (pmod z 65 67 : Int)
    let square := (back * back).fmod 67
    some ((x * square).fmod 67, (y * square * back).fmod 67)) = naM x y z := by unfold naM; rw [if_neg h]
def doM : Option (Int × Int) → Option (Int × Int)
  | none => none
  | some (x, y) => if y = 0 then none else
    let slope := 3 * x * x * (pmod (2 * y) 65 67 : Int)
    let far := (slope * slope - 2 * x).fmod 67
    some (far, (slope * (x - far) - y).fmod 67)
def adM : Option (Int × Int) → Option (Int × Int) → Option (Int × Int)
  | none, o => o
  | some a, none => some a
  | some (x, y), some (u, v) => if x = u then (if y = v then doM (some (x, y)) else none) else
    let slope := (v - y) * (pmod (u - x) 65 67 : Int)
    let far := (slope * slope - x - u).fmod 67
    some (far, (slope * (x - far) - y).fmod 67)
def liM (x : Int) (par : Int) : Option (Int × Int) :=
  if ¬ (0 ≤ x ∧ x < 67) then none else
    let square := (x * x * x + 7).fmod 67
    let y := (pmod square 17 67 : Int)
    if (y * y).fmod 67 ≠ square then none else
      let y := if y.fmod 2 ≠ par then 67 - y else y
      if y < 67 then some (x, y) else none

theorem doM_none {x y : Int} (h : y = 0) : none = doM (some (x, y)) := by simp only [doM, if_pos h]
theorem doM_some {x y : Int} (h : y ≠ 0) : (let slope := 3 * x * x * (pmod (2 * y) 65 67 : Int)
    let far := (slope * slope - 2 * x).fmod 67
    some (far, (slope * (x - far) - y).fmod 67)) = doM (some (x, y)) := by simp only [doM, if_neg h]
theorem adM_dbl {x y u v : Int} (h : x = u) (h2 : y = v) : doM (some (x, y)) = adM (some (x, y)) (some (u, v)) := by subst h; subst h2; simp only [adM, if_true]
theorem adM_none {x y u v : Int} (h : x = u) (h2 : y ≠ v) : none = adM (some (x, y)) (some (u, v)) := by subst h; simp only [adM, if_true, if_neg h2]
theorem adM_far {x y u v : Int} (h : x ≠ u) : (let slope := (v - y) * (pmod (u - x) 65 67 : Int)
    let far := (slope * slope - x - u).fmod 67
    some (far, (slope * (x - far) - y).fmod 67)) = adM (some (x, y)) (some (u, v)) := by simp only [adM, if_neg h]
abbrev liY (x : Int) : Int := (pmod ((x * x * x + 7).fmod 67) 17 67 : Int)
theorem liM_out {x par : Int} (h : ¬ x < 67) : none = liM x par := by unfold liM; rw [if_pos (by omega)]
theorem liM_nosq {x par : Int} (h0 : 0 ≤ x) (h : x < 67) (h2 : (liY x * liY x).fmod 67 ≠ (x * x * x + 7).fmod 67) : none = liM x par := by
  unfold liM; rw [if_neg (by omega)]; simp only [if_pos h2]
theorem liM_flip {x par : Int} (h0 : 0 ≤ x) (h : x < 67) (h2 : (liY x * liY x).fmod 67 = (x * x * x + 7).fmod 67) (h3 : (liY x).fmod 2 ≠ par) (h4 : 67 - liY x < 67) : some (x, 67 - liY x) = liM x par := by
  unfold liM; rw [if_neg (by omega)]; simp only [h2, ne_eq, not_true_eq_false, if_false, h3, not_false_eq_true, if_true, if_pos h4]
theorem liM_flipout {x par : Int} (h0 : 0 ≤ x) (h : x < 67) (h2 : (liY x * liY x).fmod 67 = (x * x * x + 7).fmod 67) (h3 : (liY x).fmod 2 ≠ par) (h4 : ¬ 67 - liY x < 67) : none = liM x par := by
  unfold liM; rw [if_neg (by omega)]; simp only [h2, ne_eq, not_true_eq_false, if_false, h3, not_false_eq_true, if_true, if_neg h4]
theorem liM_keep {x par : Int} (h0 : 0 ≤ x) (h : x < 67) (h2 : (liY x * liY x).fmod 67 = (x * x * x + 7).fmod 67) (h3 : (liY x).fmod 2 = par) : some (x, liY x) = liM x par := by
  have h4 : liY x < 67 := by have := @pmod_lt ((x * x * x + 7).fmod 67) 17 67 (by decide); unfold liY; omega
  unfold liM; rw [if_neg (by omega)]; simp only [h2, ne_eq, not_true_eq_false, if_false, h3, if_pos h4]
theorem vtup3 {x y z : Int} {t1 t2 t3 : Tok} {a : Addr} {news : List (Addr × Obj)} {r : Int × Int × Int} (h : (x, y, z) = r) :
    ∃ a' u1 u2 u3, Value.ref a = .ref a' ∧ (a, tup3O x t1 y t2 z t3) :: news = (a', tup3O r.1 u1 r.2.1 u2 r.2.2 u3) :: news := by
  subst h; exact ⟨_, _, _, _, rfl, rfl⟩
/-- a point or none, handed back -/
def PtBack (news : List (Addr × Obj)) (v : Value) (news' : List (Addr × Obj)) (r : Option (Int × Int)) : Prop :=
  match r with
  | none => v = .none ∧ news' = news
  | some (x, y) => ∃ a t1 t2, v = .ref a ∧ news' = (a, tup2O x t1 y t2) :: news
theorem ptNone {news : List (Addr × Obj)} {r : Option (Int × Int)} (h : none = r) : PtBack news .none news r := by subst h; exact ⟨rfl, rfl⟩
theorem ptSome {news : List (Addr × Obj)} {a : Addr} {x y : Int} {t1 t2 : Tok} {r : Option (Int × Int)} (h : some (x, y) = r) : PtBack news (.ref a) ((a, tup2O x t1 y t2) :: news) r := by subst h; exact ⟨_, _, _, rfl, rfl⟩
theorem ptDbl {news news' : List (Addr × Obj)} {v' : Value} {x y u v : Int} (h : x = u) (h2 : y = v) (hp : PtBack news v' news' (doM (some (x, y)))) : PtBack news v' news' (adM (some (x, y)) (some (u, v))) := by rw [← adM_dbl h h2]; exact hp
inductive PtAt (news : List (Addr × Obj)) : Value → Option (Int × Int) → Prop
  | none : PtAt news .none none
  | some {a : Addr} {x y : Int} {tx ty : Tok} : (a, tup2O x tx y ty) ∈ news → 0 ≤ x ∧ x < 67 → 0 ≤ y ∧ y < 67 → PtAt news (.ref a) (some (x, y))
theorem PtAt.more {news news' : List (Addr × Obj)} {v : Value} {p : Option (Int × Int)} (h : PtAt news v p) (hs : ∀ q ∈ news, q ∈ news') : PtAt news' v p := by
  cases h with
  | none => exact .none
  | some h1 h2 h3 => exact .some (hs _ h1) h2 h3
abbrev P3 := Int × Int × Int
def P3.In (p : P3) : Prop := (0 ≤ p.1 ∧ p.1 < 67) ∧ (0 ≤ p.2.1 ∧ p.2.1 < 67) ∧ (0 ≤ p.2.2 ∧ p.2.2 < 67)
theorem f67 (a : Int) : 0 ≤ a.fmod 67 ∧ a.fmod 67 < 67 := ⟨Int.fmod_nonneg_of_pos a (by decide), Int.fmod_lt_of_pos a (by decide)⟩
theorem wdM_in (x y z : Int) : P3.In (wdM x y z) := by
  unfold wdM
  split
  · exact ⟨by decide, by decide, by decide⟩
  · exact ⟨f67 _, f67 _, f67 _⟩
theorem waM_in {x y z u v o : Int} (h1 : P3.In (x, y, z)) (h2 : P3.In (u, v, o)) : P3.In (waM x y z u v o) := by
  unfold waM
  split
  · exact h2
  split
  · exact h1
  dsimp only
  split
  · split
    · exact wdM_in _ _ _
    · exact ⟨by decide, by decide, by decide⟩
  · exact ⟨f67 _, f67 _, f67 _⟩
noncomputable def tiL : Nat → Nat → P3 → P3 → P3
  | 0, _, t, _ => t
  | f + 1, k, t, h => if k = 0 then t else tiL f (k / 2) (if k % 2 = 1 then waM t.1 t.2.1 t.2.2 h.1 h.2.1 h.2.2 else t) (wdM h.1 h.2.1 h.2.2)
def tiM (k : Nat) (x y : Int) : Option (Int × Int) := let r := tiL 7 k (1, 1, 0) (x, y, 1); naM r.1 r.2.1 r.2.2
def Stop (P : Prop) : Prop := P
theorem Stop.go {P : Prop} (h : Stop P) : P := h
structure TiS where
  k : Nat
  tk : Tok
  a : Addr
  t : P3
  t1 : Tok
  t2 : Tok
  t3 : Tok
  b : Addr
  h : P3
  u1 : Tok
  u2 : Tok
  u3 : Tok
abbrev tiLed (news : List (Addr × Obj)) (c : TiS) : List (Addr × Obj) := (c.a, tup3O c.t.1 c.t1 c.t.2.1 c.t2 c.t.2.2 c.t3) :: (c.b, tup3O c.h.1 c.u1 c.h.2.1 c.u2 c.h.2.2 c.u3) :: news
abbrev tiPs (c : TiS) : List (Str × Value) := [(Str.ofString "number", .int (c.k : Int) c.tk), (Str.ofString "total", .ref c.a), (Str.ofString "here", .ref c.b)]
def tiP (k0 : Nat) (x y : Int) (c : TiS) : Prop := c.t.In ∧ c.h.In ∧ ∃ f, f ≤ 7 ∧ c.k < 2 ^ f ∧ tiL f c.k c.t c.h = tiL 7 k0 (1, 1, 0) (x, y, 1)
theorem bit1 (k : Nat) : Builtin.bitAnd (k : Int) 1 = ((k % 2 : Nat) : Int) := by
  unfold Builtin.bitAnd
  have h0 : decide ((0 : Int) ≤ (k : Int)) = true := decide_eq_true (by omega)
  rw [h0, show decide ((0 : Int) ≤ 1) = true by decide]
  show (((k : Int).toNat &&& (1 : Int).toNat : Nat) : Int) = _
  rw [Int.toNat_natCast, show (1 : Int).toNat = 1 by decide, Nat.and_one_is_mod]
theorem shr1 (k : Nat) : (k : Int).fdiv (2 ^ Int.toNat 1) = ((k / 2 : Nat) : Int) := by
  rw [show (2 : Int) ^ Int.toNat 1 = 2 by decide, fd (by decide)]; rfl
theorem tiP_start {k0 : Nat} {x y : Int} {tk a t1 t2 t3 b u1 u2 u3} (px : 0 ≤ x ∧ x < 67) (py : 0 ≤ y ∧ y < 67) (h : k0 < 79) : tiP k0 x y ⟨k0, tk, a, (1, 1, 0), t1, t2, t3, b, (x, y, 1), u1, u2, u3⟩ :=
  ⟨⟨⟨by show (0 : Int) ≤ 1; decide, by show (1 : Int) < 67; decide⟩, ⟨by show (0 : Int) ≤ 1; decide, by show (1 : Int) < 67; decide⟩, ⟨by show (0 : Int) ≤ 0; decide, by show (0 : Int) < 67; decide⟩⟩, ⟨px, py, ⟨by show (0 : Int) ≤ 1; decide, by show (1 : Int) < 67; decide⟩⟩, 7, Nat.le_refl _, by show k0 < 128; omega, rfl⟩
theorem tiP_end {k0 : Nat} {x y : Int} {c : TiS} (h : tiP k0 x y c) (hk : c.k = 0) : c.t = tiL 7 k0 (1, 1, 0) (x, y, 1) := by
  obtain ⟨_, _, f, _, _, e⟩ := h
  rw [← e, hk]
  cases f <;> simp [tiL]
theorem tiP_odd {k0 : Nat} {x y : Int} {c : TiS} {tk a t1 t2 t3 b u1 u2 u3} (h : tiP k0 x y c) (hk : 0 < c.k) (ho : c.k % 2 = 1) :
    tiP k0 x y ⟨c.k / 2, tk, a, waM c.t.1 c.t.2.1 c.t.2.2 c.h.1 c.h.2.1 c.h.2.2, t1, t2, t3, b, wdM c.h.1 c.h.2.1 c.h.2.2, u1, u2, u3⟩ := by
  obtain ⟨h1, h2, f, hf, hlt, e⟩ := h
  refine ⟨waM_in h1 h2, wdM_in _ _ _, ?_⟩
  cases f with
  | zero => simp at hlt; omega
  | succ f =>
    refine ⟨f, by omega, by rw [Nat.pow_succ] at hlt; show c.k / 2 < 2 ^ f; omega, ?_⟩
    rw [← e]
    show _ = (if c.k = 0 then _ else _)
    rw [if_neg (by omega), if_pos ho]
theorem tiP_even {k0 : Nat} {x y : Int} {c : TiS} {tk b u1 u2 u3} (h : tiP k0 x y c) (hk : 0 < c.k) (ho : ¬ c.k % 2 = 1) :
    tiP k0 x y ⟨c.k / 2, tk, c.a, c.t, c.t1, c.t2, c.t3, b, wdM c.h.1 c.h.2.1 c.h.2.2, u1, u2, u3⟩ := by
  obtain ⟨h1, h2, f, hf, hlt, e⟩ := h
  refine ⟨h1, wdM_in _ _ _, ?_⟩
  cases f with
  | zero => simp at hlt; omega
  | succ f =>
    refine ⟨f, by omega, by rw [Nat.pow_succ] at hlt; show c.k / 2 < 2 ^ f; omega, ?_⟩
    rw [← e]
    show _ = (if c.k = 0 then _ else _)
    rw [if_neg (by omega), if_neg ho]
theorem ptTi {news n1 n2 : List (Addr × Obj)} {v : Value} {k0 : Nat} {x y : Int} {c : TiS} (h : PtBack n1 v n2 (naM c.t.1 c.t.2.1 c.t.2.2)) (hp : tiP k0 x y c) (hk : ¬ (0 : Int) < (c.k : Int)) (hs : ∀ q ∈ news, q ∈ n1) :
    ∃ n3, (∀ q ∈ n3, q ∈ n2) ∧ PtBack news v n3 (tiM k0 x y) := by
  have e := tiP_end hp (by omega)
  unfold tiM
  dsimp only
  rw [← e]
  revert h
  cases naM c.t.1 c.t.2.1 c.t.2.2 with
  | none =>
    rintro ⟨rfl, rfl⟩
    exact ⟨news, hs, rfl, rfl⟩
  | some q =>
    obtain ⟨q1, q2⟩ := q
    rintro ⟨a, u1, u2, rfl, rfl⟩
    exact ⟨(a, tup2O q1 u1 q2 u2) :: news, fun q hq => by
      rcases List.mem_cons.mp hq with rfl | hq
      · exact List.Mem.head _
      · exact List.mem_cons_of_mem _ (hs _ hq), a, u1, u2, rfl, rfl⟩
theorem ptDrop {news n1 n2 : List (Addr × Obj)} {v : Value} {r : Option (Int × Int)} (h : PtBack n1 v n2 r) (hs : ∀ q ∈ news, q ∈ n1) : ∃ n3, (∀ q ∈ n3, q ∈ n2) ∧ PtBack news v n3 r := by
  revert h
  cases r with
  | none =>
    rintro ⟨rfl, rfl⟩
    exact ⟨news, hs, rfl, rfl⟩
  | some q =>
    obtain ⟨q1, q2⟩ := q
    rintro ⟨a, u1, u2, rfl, rfl⟩
    exact ⟨(a, tup2O q1 u1 q2 u2) :: news, fun q hq => by
      rcases List.mem_cons.mp hq with rfl | hq
      · exact List.Mem.head _
      · exact List.mem_cons_of_mem _ (hs _ hq), a, u1, u2, rfl, rfl⟩
theorem PtBack.cases {news news' : List (Addr × Obj)} {v : Value} {r : Option (Int × Int)} (h : PtBack news v news' r) :
    (r = none ∧ v = .none ∧ news' = news) ∨ ∃ x y a t1 t2, r = some (x, y) ∧ v = .ref a ∧ news' = (a, tup2O x t1 y t2) :: news := by
  revert h
  cases r with
  | none => exact fun h => .inl ⟨rfl, h.1, h.2⟩
  | some q =>
    obtain ⟨q1, q2⟩ := q
    rintro ⟨a, u1, u2, h1, h2⟩
    exact .inr ⟨q1, q2, a, u1, u2, rfl, h1, h2⟩
theorem naM_in {x y z q1 q2 : Int} (h : naM x y z = some (q1, q2)) : (0 ≤ q1 ∧ q1 < 67) ∧ (0 ≤ q2 ∧ q2 < 67) := by
  unfold naM at h
  split at h
  · cases h
  · injection h with h
    injection h with h1 h2
    rw [← h1, ← h2]
    exact ⟨f67 _, f67 _⟩
theorem tiM_in {k : Nat} {x y q1 q2 : Int} (h : tiM k x y = some (q1, q2)) : (0 ≤ q1 ∧ q1 < 67) ∧ (0 ≤ q2 ∧ q2 < 67) := naM_in h
theorem liM_in {x par q1 q2 : Int} (h : liM x par = some (q1, q2)) : (0 ≤ q1 ∧ q1 < 67) ∧ (0 ≤ q2 ∧ q2 < 67) := by
  have hy := @pmod_lt ((x * x * x + 7).fmod 67) 17 67 (by decide)
  unfold liM at h
  split at h
  · cases h
  dsimp only at h
  split at h
  · cases h
  split at h
  · split at h
    · injection h with h
      injection h with h1 h2
      omega
    · cases h
  · split at h
    · injection h with h
      injection h with h1 h2
      omega
    · cases h
def reM (word : Nat) (par r s : Int) : Option (Int × Int) :=
  if 0 < r ∧ r < 79 ∧ 0 < s ∧ s < 79 then
    match liM r par with
    | none => none
    | some (x, y) => adM (tiM (s * (pmod r 77 79 : Int) % 79).toNat x y) (tiM (-(word : Int) * (pmod r 77 79 : Int) % 79).toNat 2 22)
  else none
theorem reM_out {word : Nat} {par r s : Int} (h : ¬ (0 < r ∧ r < 79 ∧ 0 < s ∧ s < 79)) : none = reM word par r s := by unfold reM; rw [if_neg h]
theorem reM_none {word : Nat} {par r s : Int} (h : liM r par = none) : none = reM word par r s := by unfold reM; rw [h]; split <;> rfl
theorem reM_some {word : Nat} {par r s x y : Int} (h0 : 0 < r) (h1 : r < 79) (h2 : 0 < s) (h3 : s < 79) (h : liM r par = some (x, y)) :
    adM (tiM (s * (pmod r 77 79 : Int) % 79).toNat x y) (tiM (-(word : Int) * (pmod r 77 79 : Int) % 79).toNat 2 22) = reM word par r s := by unfold reM; rw [if_pos ⟨h0, h1, h2, h3⟩, h]
theorem ptRe {news n1 n2 : List (Addr × Obj)} {v : Value} {p1 p2 : Option (Int × Int)} {word : Nat} {par r s x y : Int} (h : PtBack n1 v n2 (adM p1 p2)) (hs : ∀ q ∈ news, q ∈ n1) (h0 : 0 < r) (h1 : r < 79) (h2 : 0 < s) (h3 : s < 79) (hl : liM r par = some (x, y))
    (e1 : tiM (s * (pmod r 77 79 : Int) % 79).toNat x y = p1) (e2 : tiM (-(word : Int) * (pmod r 77 79 : Int) % 79).toNat 2 22 = p2) : ∃ n3, (∀ q ∈ n3, q ∈ n2) ∧ PtBack news v n3 (reM word par r s) := by
  rw [← reM_some h0 h1 h2 h3 hl, e1, e2]
  exact ptDrop h hs
theorem parOk {par : Int} (h : par = 0 ∨ par = 1) : ¬ (([0, 1] : List Int).any fun x => x == par) = false := by rcases h with rfl | rfl <;> decide
/-! the digest's table -/
noncomputable def dgD : Nat → List Int → List (PyData × PyData)
  | _, [] => []
  | i, k :: r => (.int k, .int ((i : Int) + 1)) :: dgD (i + 1) r
def DigO (w : World) (o : Obj) (ks : List Int) : Prop := ∃ kvs, o.IsDictOf (intKind PySem.Challenge.rw_pq0401_01.row.prog w) kvs ∧ FlatPairs PyData.int kvs (dgD 0 ks)
def DigAt (P : Params) (news : List (Addr × Obj)) (dg kd : Addr) : Prop := ∃ dd t, (dg, instObj 52 dd) ∈ news ∧ (dd, dictOf [⟨PyData.keyHash P (Str.ofString "known"), .str (Str.ofString "known") t, .ref kd⟩] 1) ∈ news
theorem DigAt.more {P : Params} {news news' : List (Addr × Obj)} {dg kd : Addr} (h : DigAt P news dg kd) (hs : ∀ q ∈ news, q ∈ news') : DigAt P news' dg kd := by
  obtain ⟨dd, t, h1, h2⟩ := h
  exact ⟨dd, t, hs _ h1, hs _ h2⟩
theorem dgD_len : ∀ (i : Nat) (ks : List Int), (dgD i ks).length = ks.length
  | _, [] => rfl
  | i, _ :: r => by simp [dgD, dgD_len (i + 1) r]
/-- the number that the table gives a key, and the table's keys behind that -/
def dgN (ks : List Int) (k : Int) : Nat := (ks.findIdx? (· = k)).getD ks.length + 1
def dgK (ks : List Int) (k : Int) : List Int := if k ∈ ks then ks else ks ++ [k]
theorem dgL : ∀ (i : Nat) (ks : List Int) (k : Int), Spec.lookup (.int k) (dgD i ks) = (ks.findIdx? (· = k)).map fun j => PyData.int (((i + j : Nat) : Int) + 1)
  | _, [], _ => rfl
  | i, a :: r, k => by
    rw [dgD, Spec.lookup, same_int, List.findIdx?_cons]
    by_cases h : a = k
    · simp [h]
    · simp only [h, decide_false, Bool.false_eq_true, if_false, dgL (i + 1) r k]
      cases List.findIdx? (fun x => decide (x = k)) r with
      | none => rfl
      | some j => simp only [Option.map_some]; congr 3; omega
theorem dgl_some {ks : List Int} {k : Int} (h : (Spec.lookup (.int k) (dgD 0 ks)).isSome = true) : Spec.lookup (.int k) (dgD 0 ks) = some (.int (dgN ks k : Int)) := by
  rw [dgL] at h ⊢
  unfold dgN
  cases e : List.findIdx? (fun x => decide (x = k)) ks with
  | none => rw [e] at h; cases h
  | some j => simp
theorem dg_find {ks : List Int} {k : Int} (h : (Spec.lookup (.int k) (dgD 0 ks)).isSome = false) : ks.findIdx? (· = k) = none := by
  rw [dgL] at h
  cases e : List.findIdx? (fun x => decide (x = k)) ks with
  | none => rfl
  | some j => rw [e] at h; cases h
theorem dg_in {ks : List Int} {k : Int} (h : (Spec.lookup (.int k) (dgD 0 ks)).isSome = true) : dgK ks k = ks := by
  unfold dgK
  rw [if_pos]
  rw [dgL] at h
  cases e : List.findIdx? (fun x => decide (x = k)) ks with
  | none => rw [e] at h; cases h
  | some j =>
    obtain ⟨hj, hp, _⟩ := List.findIdx?_eq_some_iff_getElem.mp e
    have : ks[j] = k := by simpa using hp
    rw [← this]
    exact List.getElem_mem _
theorem dg_out {ks : List Int} {k : Int} (h : (Spec.lookup (.int k) (dgD 0 ks)).isSome = false) : dgK ks k = ks ++ [k] := by
  unfold dgK
  rw [if_neg]
  intro hm
  have := List.findIdx?_eq_none_iff.mp (dg_find h) k hm
  simp at this
theorem dgD_app : ∀ (i : Nat) (ks : List Int) (k : Int), dgD i (ks ++ [k]) = dgD i ks ++ [(.int k, .int (((i + ks.length : Nat) : Int) + 1))]
  | i, [], k => by simp [dgD]
  | i, a :: r, k => by
    rw [List.cons_append, dgD, dgD, dgD_app (i + 1) r k, List.cons_append, List.length_cons]
    congr 5; omega
theorem dg_any : ∀ (i : Nat) (ks : List Int) (k : Int), (dgD i ks).any (fun p => same p.1 (.int k)) = ks.any (· = k)
  | _, [], _ => rfl
  | i, a :: r, k => by rw [dgD, List.any_cons, List.any_cons, dg_any (i + 1) r k, same_int]
theorem dg_put {ks : List Int} {k n : Int} (h : (Spec.lookup (.int k) (dgD 0 ks)).isSome = false) (hn : n = (ks.length : Int) + 1) : putD (.int k) (.int n) (dgD 0 ks) = dgD 0 (dgK ks k) := by
  have h1 := List.findIdx?_eq_none_iff.mp (dg_find h)
  unfold putD
  rw [dg_any, if_neg, dg_out h, dgD_app, hn, Nat.zero_add]
  simp only [List.any_eq_true, not_exists, not_and]
  intro x hx
  have := h1 x hx
  simpa using this
theorem dgl_put {ks : List Int} {k n : Int} (h : (Spec.lookup (.int k) (dgD 0 ks)).isSome = false) (hn : n = (ks.length : Int) + 1) : Spec.lookup (.int k) (putD (.int k) (.int n) (dgD 0 ks)) = some (.int (dgN ks k : Int)) := by
  rw [dg_put h hn, dg_out h, dgL]
  have h1 := dg_find h
  unfold dgN
  rw [h1, List.findIdx?_append, h1]
  simp
section
variable {w : World} {A : Around} {E : Value → Shared → Prop} {s : Shared} {t : Tok} {Q : Value → Shared → Prop} {d : Addr} {D : List (PyData × PyData)} {k n : Int} {prog : Program}
theorem getItem_dg (T : TabAt (intKind prog w) PyData.int s.heap d D) (hl : Spec.lookup (.int k) D = some (.int n)) (h : ∀ t', Q (.int n t') { s with toks := s.toks + 1 }) :
    wpAny (model prog w) A (getItem (.ref d) (.int k t)) Q E s :=
  getItem_tab same_int (intKind_is prog w k t) T hl fun v hv => by
    obtain ⟨t', rfl⟩ := Flat.int_inv hv
    exact h t'
end
theorem digO_put {w : World} {o' : Obj} {kvs : List (Int × Value)} {ks : List Int} {k n : Int} (h : (Spec.lookup (.int k) (dgD 0 ks)).isSome = false) (hd : o'.IsDictOf (intKind PySem.Challenge.rw_pq0401_01.row.prog w) kvs)
    (hf : FlatPairs PyData.int kvs (putD (.int k) (.int n) (dgD 0 ks))) (hn : n = (ks.length : Int) + 1) : DigO w o' (dgK ks k) := by
  rw [dg_put h hn] at hf
  exact ⟨kvs, hd, hf⟩
def ofN (n : Nat) : List UInt8 := leL 4 n ++ beL 8 (n * 281479271743489 % 18446744073709551616) ++ beL 20 (605153021707326989568713251046585937826284568576 + n)
theorem ofN_eq {n : Nat} {a b c : Int} (ha : a = (n : Int)) (hb : b = ((n : Int) * 281479271743489) % 18446744073709551616) (hc : c = 605153021707326989568713251046585937826284568576 + (n : Int)) :
    leL (Int.toNat 4) a.toNat ++ beL (Int.toNat 8) b.toNat ++ beL (Int.toNat 20) c.toNat = ofN n := by
  have h1 : a.toNat = n := by rw [ha]; rfl
  have h2 : b.toNat = n * 281479271743489 % 18446744073709551616 := by rw [hb]; exact mm_tn n 281479271743489 18446744073709551616
  have h3 : c.toNat = 605153021707326989568713251046585937826284568576 + n := by rw [hc]; rfl
  rw [h1, h2, h3]
  rfl
theorem dgN_le (ks : List Int) (k : Int) : dgN ks k ≤ ks.length + 1 ∧ 1 ≤ dgN ks k := by
  unfold dgN
  cases e : List.findIdx? (fun x => decide (x = k)) ks with
  | none => simp
  | some j =>
    obtain ⟨hj, _, _⟩ := List.findIdx?_eq_some_iff_getElem.mp e
    simp; omega
abbrev settingD (P : Params) (dg cu : Addr) (t1 t2 t3 t4 t5 t6 t7 t8 : Tok) : Obj := dictOf [⟨PyData.keyHash P (Str.ofString "digest"), .str (Str.ofString "digest") t1, .ref dg⟩, ⟨PyData.keyHash P (Str.ofString "curve"), .str (Str.ofString "curve") t2, .ref cu⟩,
  ⟨PyData.keyHash P (Str.ofString "chain"), .str (Str.ofString "chain") t3, .int 1 t4⟩, ⟨PyData.keyHash P (Str.ofString "most_depth"), .str (Str.ofString "most_depth") t5, .int 64 t6⟩, ⟨PyData.keyHash P (Str.ofString "most_code"), .str (Str.ofString "most_code") t7, .int 24576 t8⟩] 5
def SetAt (P : Params) (news : List (Addr × Obj)) (st dg cu kd : Addr) : Prop := (∃ sd t1 t2 t3 t4 t5 t6 t7 t8, (st, instObj 297 sd) ∈ news ∧ (sd, settingD P dg cu t1 t2 t3 t4 t5 t6 t7 t8) ∈ news) ∧ CurveAt P news cu ∧ DigAt P news dg kd
theorem SetAt.more {P : Params} {news news' : List (Addr × Obj)} {st dg cu kd : Addr} (h : SetAt P news st dg cu kd) (hs : ∀ q ∈ news, q ∈ news') : SetAt P news' st dg cu kd := by
  obtain ⟨⟨sd, t1, t2, t3, t4, t5, t6, t7, t8, h1, h2⟩, h3, h4⟩ := h
  exact ⟨⟨sd, t1, t2, t3, t4, t5, t6, t7, t8, hs _ h1, hs _ h2⟩, h3.more hs, h4.more hs⟩
def ptKey (x y : Int) : List UInt8 := beL 32 x.toNat ++ beL 32 y.toNat
def addrOf (ks : List Int) (l : List UInt8) : Int := (beN (ofN (dgN ks (beN (1 :: l) : Int))) : Int) % 1461501637330902918203684832716283019655932542976
theorem ofN_length (n : Nat) : (ofN n).length = 32 := by simp [ofN, leL_length, beL_length]
/-- what recovery gives back for a text, the digest's keys being ks -/
def rcPt (l : List UInt8) : Option (Int × Int) := if (numL l 32 32 : Int) = 27 ∨ (numL l 32 32 : Int) = 28 then reM (numL l 0 32) ((numL l 32 32 : Int) - 27) (numL l 64 32) (numL l 96 32) else none
def rcOut (ks : List Int) (l : List UInt8) : List UInt8 := match rcPt l with | none => [] | some (x, y) => beL 32 (addrOf ks (ptKey x y)).toNat
def rcK (ks : List Int) (l : List UInt8) : List Int := match rcPt l with | none => ks | some (x, y) => dgK ks (beN (1 :: ptKey x y) : Int)
theorem adM_in {p1 p2 : Option (Int × Int)} {x y : Int} (h1 : ∀ x y, p1 = some (x, y) → (0 ≤ x ∧ x < 67) ∧ (0 ≤ y ∧ y < 67)) (h2 : ∀ x y, p2 = some (x, y) → (0 ≤ x ∧ x < 67) ∧ (0 ≤ y ∧ y < 67)) (h : adM p1 p2 = some (x, y)) : (0 ≤ x ∧ x < 67) ∧ (0 ≤ y ∧ y < 67) := by
  cases p1 with
  | none => exact h2 _ _ h
  | some a =>
    obtain ⟨a1, a2⟩ := a
    cases p2 with
    | none => injection h with h; injection h with e1 e2; subst e1; subst e2; exact h1 _ _ rfl
    | some b =>
      obtain ⟨b1, b2⟩ := b
      simp only [adM] at h
      split at h
      · split at h
        · simp only [doM] at h
          split at h
          · cases h
          · injection h with h; injection h with e1 e2
            rw [← e1, ← e2]
            exact ⟨f67 _, f67 _⟩
        · cases h
      · injection h with h; injection h with e1 e2
        rw [← e1, ← e2]
        exact ⟨f67 _, f67 _⟩
theorem reM_in {word : Nat} {par r s x y : Int} (h : reM word par r s = some (x, y)) : (0 ≤ x ∧ x < 67) ∧ (0 ≤ y ∧ y < 67) := by
  unfold reM at h
  split at h
  · split at h
    · cases h
    · exact adM_in (fun _ _ e => tiM_in e) (fun _ _ e => tiM_in e) h
  · cases h
theorem numL_lt (l : List UInt8) (p n : Nat) : numL l p n < 256 ^ n := by
  have h := beN_lt (partL l p n)
  rw [partL_length] at h
  exact h
theorem numL_lt32 (l : List UInt8) (p : Nat) : numL l p 32 < 115792089237316195423570985008687907853269984665640564039457584007913129639936 := numL_lt l p 32
theorem parOf {n : Int} (h : (([27, 28] : List Int).any fun x => x == n) = true) : n - 27 = 0 ∨ n - 27 = 1 := by
  simp only [List.any_cons, List.any_nil, Bool.or_false, Bool.or_eq_true, beq_iff_eq] at h; omega
theorem parNo {n : Int} (h : (([27, 28] : List Int).any fun x => x == n) = false) : ¬ (n = 27 ∨ n = 28) := by
  simp only [List.any_cons, List.any_nil, Bool.or_false, Bool.or_eq_false_iff, beq_eq_false_iff_ne, ne_eq] at h; omega
theorem neTup {w : World} {o : Obj} {ks : List Int} {h₀ h : Heap} {L a d : Addr} {N : List (Addr × Obj)} {x y : Int} {t1 t2 : Tok} (ho : DigO w o ks) (hN : News h₀ L h N) (h1 : (a, tup2O x t1 y t2) ∈ N) (h2 : (d, o) ∈ N) : a ≠ d := by
  rintro rfl
  have e1 := (hN _ h1).1
  have e2 := (hN _ h2).1
  dsimp only at e1 e2
  rw [e1] at e2
  injection e2 with e2
  obtain ⟨kvs, ⟨es, ep, _, hd, _⟩, _⟩ := ho
  rw [← e2] at hd
  cases hd
theorem addrOf_in (ks : List Int) (l : List UInt8) : 0 ≤ addrOf ks l ∧ addrOf ks l < 1461501637330902918203684832716283019655932542976 := by
  unfold addrOf; omega
theorem parYes {n : Int} (h : (([27, 28] : List Int).any fun x => x == n) = true) : n = 27 ∨ n = 28 := by
  simp only [List.any_cons, List.any_nil, Bool.or_false, Bool.or_eq_true, beq_iff_eq] at h; omega
theorem rcPt_no {l : List UInt8} (h : (([27, 28] : List Int).any fun x => x == (numL l 32 32 : Int)) = false) : rcPt l = none := by unfold rcPt; rw [if_neg (parNo h)]
theorem rcPt_yes {l : List UInt8} {r : Option (Int × Int)} (h : (([27, 28] : List Int).any fun x => x == (numL l 32 32 : Int)) = true) (e : reM (numL l 0 32) ((numL l 32 32 : Int) - 27) (numL l 64 32) (numL l 96 32) = r) : rcPt l = r := by unfold rcPt; rw [if_pos (parYes h)]; exact e
theorem rcBackN {w : World} {o : Obj} {ks : List Int} {kd : Addr} {l : List UInt8} {t : Tok} {news : List (Addr × Obj)} (ho : DigO w o ks) (h : rcPt l = none) :
    ∃ o' t', Value.bytes #[] t = .bytes (rcOut ks l).toArray t' ∧ (kd, o) :: news = (kd, o') :: news ∧ DigO w o' (rcK ks l) := by
  refine ⟨o, t, ?_, rfl, ?_⟩
  · unfold rcOut; rw [h]
  · unfold rcK; rw [h]; exact ho
theorem rcBackS {w : World} {o : Obj} {ks : List Int} {kd : Addr} {l : List UInt8} {t : Tok} {news : List (Addr × Obj)} {x y : Int} (ho : DigO w o (dgK ks (beN (1 :: ptKey x y) : Int))) (h : rcPt l = some (x, y)) :
    ∃ o' t', Value.bytes (beL 32 (addrOf ks (ptKey x y)).toNat).toArray t = .bytes (rcOut ks l).toArray t' ∧ (kd, o) :: news = (kd, o') :: news ∧ DigO w o' (rcK ks l) := by
  refine ⟨o, t, ?_, rfl, ?_⟩
  · unfold rcOut; rw [h]
  · unfold rcK; rw [h]; exact ho
/-! the power's price -/
def prF (l : List UInt8) (b p : Nat) : Nat := numL l (96 + b) (min p 32)
def prR (l : List UInt8) (b p : Nat) : Int := max ((if 0 < prF l b p then (Builtin.Int.intBits (prF l b p : Int) : Int) - 1 else 0) + 8 * max ((p : Int) - 32) 0) 1
theorem prF_bits (l : List UInt8) (b p : Nat) : Builtin.Int.intBits (prF l b p : Int) ≤ 256 := by
  refine intBits_le_iff.mpr ?_
  rw [Int.natAbs_natCast]
  have h := numL_lt l (96 + b) (min p 32)
  have h3 : ∀ n : Nat, (256 : Nat) ^ n = 2 ^ (8 * n) := fun n => by rw [Nat.pow_mul]
  rw [h3] at h
  exact Nat.lt_of_lt_of_le h (Nat.pow_le_pow_right (by decide) (by omega))
theorem prR_pos {l : List UInt8} {b p : Nat} (h : (0 : Int) < (numL l ((96 : Int) + (b : Int)).toNat (min (p : Int) 32).toNat : Int)) :
    max (((Builtin.Int.intBits (numL l ((96 : Int) + (b : Int)).toNat (min (p : Int) 32).toNat : Int) : Nat) : Int) - 1 + 8 * max ((p : Int) - 32) 0) 1 = prR l b p := by
  rw [tn96, tnmin] at h ⊢
  unfold prR prF
  rw [if_pos (Int.ofNat_lt.mp h)]
theorem prR_zero {l : List UInt8} {b p : Nat} (h : ¬ (0 : Int) < (numL l ((96 : Int) + (b : Int)).toNat (min (p : Int) 32).toNat : Int)) :
    max (0 + 8 * max ((p : Int) - 32) 0) 1 = prR l b p := by
  rw [tn96, tnmin] at h
  unfold prR prF
  rw [if_neg (fun h' => h (Int.ofNat_lt.mpr h'))]
theorem prR_in (l : List UInt8) (b p : Nat) : 1 ≤ prR l b p ∧ prR l b p ≤ 257 + 8 * (p : Int) := by
  have h := prF_bits l b p
  refine ⟨Int.le_max_right _ _, Int.max_le.mpr ⟨Int.add_le_add ?_ (Int.mul_le_mul_of_nonneg_left (Int.max_le.mpr ⟨Int.sub_le_self _ (by decide), Int.natCast_nonneg _⟩) (by decide)), ?_⟩⟩
  · split
    · exact Int.le_trans (Int.sub_le_self _ (by decide)) (Int.le_trans (Int.ofNat_le.mpr h) (by decide))
    · decide
  · exact Int.le_trans (by decide : (1 : Int) ≤ 257 + 8 * 0) (Int.add_le_add_left (Int.mul_le_mul_of_nonneg_left (Int.natCast_nonneg _) (by decide)) _)
def Szn (n : Nat) : Prop := n ≤ 40 ∨ 4294967296 ≤ n
theorem e_bigN {X : Nat} (h : 4294967296 ≤ X) : (536870912 : Int) ≤ (((X + 7) / 8 : Nat) : Int) := by omega
theorem pr_a {c : Prop} [Decidable c] (k : Nat) : (-1 : Int) ≤ if c then (k : Int) - 1 else 0 := by split <;> omega
theorem szn_le {n : Nat} (z : Szn n) (h : n ≤ 4194304) : n ≤ 40 := z.elim id fun b => absurd (Nat.le_trans b h) (by decide)
def Sz (l : List UInt8) : Prop := Szn (numL l 0 32) ∧ Szn (numL l 32 32) ∧ Szn (numL l 64 32)
def prE (l : List UInt8) : Int := ((max (numL l 0 32) (numL l 64 32) + 7) / 8 : Nat)
def prC (l : List UInt8) : Int := if prE l = 0 then 200 else if max (max (numL l 0 32) (numL l 32 32)) (numL l 64 32) > 4194304 then 4294967297 else max 200 (prE l * prE l * prR l (numL l 0 32) (numL l 32 32) / 3)
theorem prE_eq (l : List UInt8) : (max (numL l 0 32 : Int) (numL l 64 32 : Int) + 7).fdiv 8 = prE l := by
  rw [fd (by decide), cmax]; rfl
theorem pc1 {l : List UInt8} (h : (max (numL l 0 32 : Int) (numL l 64 32 : Int) + 7).fdiv 8 = 0) : (200 : Int) = prC l := by
  rw [prE_eq] at h; unfold prC; rw [if_pos h]
theorem pc2 {l : List UInt8} (h : (max (numL l 0 32 : Int) (numL l 64 32 : Int) + 7).fdiv 8 ≠ 0) (h2 : (4194304 : Int) < max (max (numL l 0 32 : Int) (numL l 32 32 : Int)) (numL l 64 32 : Int)) : (4294967296 + 1 : Int) = prC l := by
  rw [prE_eq] at h; unfold prC; rw [if_neg h, if_pos (max3_lt h2)]; rfl
theorem pc3 {l : List UInt8} (h : (max (numL l 0 32 : Int) (numL l 64 32 : Int) + 7).fdiv 8 ≠ 0) (h2 : ¬ (4194304 : Int) < max (max (numL l 0 32 : Int) (numL l 32 32 : Int)) (numL l 64 32 : Int)) :
    max 200 (((max (numL l 0 32 : Int) (numL l 64 32 : Int) + 7).fdiv 8 * (max (numL l 0 32 : Int) (numL l 64 32 : Int) + 7).fdiv 8 * prR l (numL l 0 32) (numL l 32 32)).fdiv 3) = prC l := by
  rw [prE_eq] at h ⊢; unfold prC; rw [if_neg h, if_neg (fun h' => h2 (max3_gt h')), fd (by decide)]
def raO (l : List UInt8) : List UInt8 := if numL l 64 32 = 0 then [] else if numL l (96 + numL l 0 32 + numL l 32 32) (numL l 64 32) = 0 then List.replicate (numL l 64 32) 0 else
  beL (numL l 64 32) (numL l 96 (numL l 0 32) ^ numL l (96 + numL l 0 32) (numL l 32 32) % numL l (96 + numL l 0 32 + numL l 32 32) (numL l 64 32))
theorem fits_num {x : Int} {l : List UInt8} {p n : Nat} (h : 0 ≤ x ∧ x < (numL l p n : Int)) : x.toNat < 256 ^ (n : Int).toNat := by
  have := numL_lt l p n
  rw [Int.toNat_natCast]
  omega
theorem ra0 {l : List UInt8} (h : (numL l 64 32 : Int) = 0) : ([] : List UInt8) = raO l := by unfold raO; rw [if_pos (by omega)]
theorem ra1 {l : List UInt8} (h : (numL l 64 32 : Int) ≠ 0) (h2 : (numL l (96 + numL l 0 32 + numL l 32 32) (numL l 64 32) : Int) = 0) : List.replicate (numL l 64 32 : Int).toNat (0 : UInt8) = raO l := by
  unfold raO; rw [if_neg (by omega), if_pos (by omega)]; rfl
theorem ra2 {l : List UInt8} (h : (numL l 64 32 : Int) ≠ 0) (h2 : (numL l (96 + numL l 0 32 + numL l 32 32) (numL l 64 32) : Int) ≠ 0) :
    beL (numL l 64 32 : Int).toNat (pmod (numL l 96 (numL l 0 32) : Int) (numL l (96 + numL l 0 32) (numL l 32 32) : Int).toNat (numL l (96 + numL l 0 32 + numL l 32 32) (numL l 64 32) : Int).toNat : Int).toNat = raO l := by
  unfold raO; rw [if_neg (by omega), if_neg (by omega)]
  simp only [Int.toNat_natCast]
  unfold pmod
  rw [← Int.natCast_emod, Int.toNat_natCast, ← Nat.pow_mod]
abbrev outD (P : Params) (b : Bool) (g : Int) (out : List UInt8) (wd : String) (t1 t2 t3 t4 t5 t6 t7 t8 : Tok) : Obj := dictOf [⟨PyData.keyHash P (Str.ofString "is_good"), .str (Str.ofString "is_good") t1, .bool b⟩, ⟨PyData.keyHash P (Str.ofString "gas"), .str (Str.ofString "gas") t2, .int g t3⟩,
  ⟨PyData.keyHash P (Str.ofString "output"), .str (Str.ofString "output") t4, .bytes out.toArray t5⟩, ⟨PyData.keyHash P (Str.ofString "word"), .str (Str.ofString "word") t6, .str (Str.ofString wd) t7⟩, ⟨PyData.keyHash P (Str.ofString "address"), .str (Str.ofString "address") t8, .none⟩] 5
/-- an Outcome made, the digest's table turned to o' -/
def OutB (w : World) (kd : Addr) (news : List (Addr × Obj)) (b : Bool) (g : Int) (out : List UInt8) (wd : String) (ks : List Int) (v : Value) (news' : List (Addr × Obj)) : Prop :=
  ∃ a dx o' t1 t2 t3 t4 t5 t6 t7 t8, v = .ref a ∧ news' = (a, instObj 219 dx) :: (dx, outD w.params b g out wd t1 t2 t3 t4 t5 t6 t7 t8) :: (kd, o') :: news ∧ DigO w o' ks ∧ a ≠ kd ∧ dx ≠ kd
theorem no145 {ad : Int} (h : (([1, 4, 5] : List Int).any fun x => x == ad) = true) (ha : ad ≠ 1 ∧ ad ≠ 4 ∧ ad ≠ 5) : False := by
  simp only [List.any_cons, List.any_nil, Bool.or_false, Bool.or_eq_true, beq_iff_eq] at h
  rcases h with h | h | h
  · exact ha.1 h.symm
  · exact ha.2.1 h.symm
  · exact ha.2.2 h.symm
theorem prC_small {l : List UInt8} (hz : Sz l) : prC l ≤ 4294967296 → numL l 64 32 = 0 ∨ (numL l 0 32 ≤ 40 ∧ numL l 32 32 ≤ 40 ∧ numL l 64 32 ≤ 40) := by
  intro h
  obtain ⟨z0, z1, z2⟩ := hz
  unfold prC at h
  split at h
  · rename_i h0
    exact .inl (Nat.eq_zero_of_le_zero (Nat.le_trans (Nat.le_max_right _ _) (Nat.le_of_eq (e_zero (Int.ofNat_eq_zero.mp h0)))))
  · split at h
    · exact absurd h (by decide)
    · rename_i hm
      have hm' := Nat.le_of_not_lt hm
      exact .inr ⟨szn_le z0 (Nat.le_trans (Nat.le_max_left _ _) (Nat.le_trans (Nat.le_max_left _ _) hm')), szn_le z1 (Nat.le_trans (Nat.le_max_right _ _) (Nat.le_trans (Nat.le_max_left _ _) hm')), szn_le z2 (Nat.le_trans (Nat.le_max_right _ _) hm')⟩
/-! the well -/
abbrev wellO (wl : Addr) (p : Int) (tp : Tok) (q : Int) (tq : Tok) (e : Nat) : Obj := { cls := .type "list", data := .seq #[.ref wl, .int p tp, .int q tq] e }
def WellO (wl : Addr) (o : Obj) : Prop := ∃ p tp q tq e, o = wellO wl p tp q tq e ∧ 0 ≤ p ∧ 0 ≤ q ∧ q < 65537
def WlAt (news : List (Addr × Obj)) (wl : Addr) : Prop := ∃ vs ns e, (wl, ({ cls := .type "list", data := .seq (List.toArray vs) e } : Obj)) ∈ news ∧ IntsAre vs ns ∧ (∀ n ∈ ns, 0 ≤ n ∧ n < 2147483647) ∧ ns.length ≤ 63
theorem WlAt.more {news news' : List (Addr × Obj)} {wl : Addr} (h : WlAt news wl) (hs : ∀ q ∈ news, q ∈ news') : WlAt news' wl := by
  obtain ⟨vs, ns, e, h1, h2, h3, h4⟩ := h
  exact ⟨vs, ns, e, hs _ h1, h2, h3, h4⟩
section
variable {prog : Program} {w : World} {A : Around} {E : Value → Shared → Prop} {s : Shared} {h₀ : Heap} {L l : Addr} {m : Str → Option Value} {news : List (Addr × Obj)} {vs : List Value} {ns : List Int} {k : Int} {e : Nat} {u : Tok} {value slice : PySem.Expr} {Q : Value → Shared → Prop}
theorem len_wl (N : News h₀ L s.heap news) (hm : (l, ({ cls := .type "list", data := .seq (List.toArray vs) e } : Obj)) ∈ news) (hi : IntsAre vs ns) (hf : ns.length ≤ 1000000) (h : ∀ t' k', Q (.int (ns.length : Int) t') { s with toks := k' }) :
    wpAny (model prog w) A (call (.builtin "len") [.ref l]) Q E s := by
  refine len_list (News.isList N hm) ?_ ?_
  · rw [List.size_toArray, hi.length]; omega
  · rw [List.size_toArray, hi.length]; exact h _ _
theorem item_wl {b : Int} (N : News h₀ L s.heap news) (hm : (l, ({ cls := .type "list", data := .seq (List.toArray vs) e } : Obj)) ∈ news) (hi : IntsAre vs ns) (hr : ∀ n ∈ ns, 0 ≤ n ∧ n < b) (hf : ns.length ≤ 1000000) (h0 : 0 ≤ k) (h1 : k < (ns.length : Int)) (h : ∀ r t', 0 ≤ r → r < b → Q (.int r t') s)
    (hs : subscripted slice false (.ref l) (.int k u) = operate [.ref l, .int k u] (getItem (.ref l) (.int k u)) := by with_unfolding_all rfl) (hg : ∀ r, letTemporaryGo value (.ref l) r = pure () := by intro _; with_unfolding_all rfl) :
    wpAny (model prog w) A (subscriptTail value slice (.ref l) (.int k u)) Q E s := by
  have hlt : k.toNat < ns.length := by omega
  obtain ⟨t, hx⟩ := hi.get k.toNat ns[k.toNat] (by simp [hlt])
  have hb := hr _ (List.getElem_mem hlt)
  exact item_list (News.isList N hm) h0 (by omega) (by simpa using hx) (h _ _ hb.1 hb.2) hs hg
end
section
variable {prog : Program} {w : World} {A : Around} {E : Value → Shared → Prop} {s : Shared} {h₀ : Heap} {L D : Addr} {m : Str → Option Value} {news : List (Addr × Obj)} {vs : List Value} {ns : List Int} {Q : Value → Shared → Prop}
theorem make_L (F : Fr h₀ L s.heap m) (N : News h₀ L s.heap news) (hh : A.handled = none) (hl : s.heap.IsList D vs.toArray) (hi : IntsAre vs ns) (hr : KBa.In ns) (hn : ns.length ≤ 16777216)
    (h : ∀ h' t' k, Fr h₀ L h' m → News h₀ L h' news → Q (.bytes (ns.map fun n => n.toNat.toUInt8).toArray t') { s with heap := h', toks := k }) : wpAny (model prog w) A (call (.type "bytes") [.ref D]) Q E s :=
  KBa.make_K F N hh hl hi hr hn fun h' t' k F' N' _ => h h' t' k F' N'
end
theorem cellNe {L' : Nat} {big news : List (Addr × Obj)} (h : ∀ q ∈ big, q.1 < L') (hs : ∀ q ∈ news, q ∈ big) : ∀ q ∈ news, q.1 ≠ L' + 1 := fun q hq => Nat.ne_of_lt (Nat.lt_succ_of_lt (h q (hs q hq)))
def IB (n : Nat) (a : Int) : Prop := Builtin.Int.intBits a ≤ n
theorem ib_of {n : Nat} {a : Int} (h : a.natAbs < 2 ^ n) : IB n a := intBits_le_iff.mpr h
theorem ib_mul {m n : Nat} {a b : Int} (ha : IB m a) (hb : IB n b) : IB (m + n) (a * b) := PyProof.Rows.bits_mul ha hb
theorem mulOk {m n : Nat} {a b : Int} (ha : IB m a) (hb : IB n b) (hk : m + n ≤ 100000) : IntMulOk a b := by
  unfold IntMulOk Builtin.Int.intTooBig
  unfold IB at ha hb
  have hl : bitsLine = 134217728 := by first | rfl | decide
  simp only [Bool.and_eq_true, decide_eq_true_eq, not_and]
  intro _
  rw [hl]
  omega
theorem beN32_lt (l : List UInt8) (p : Nat) : beN (partL l p 32) < 115792089237316195423570985008687907853269984665640564039457584007913129639936 := numL_lt l p 32
theorem part_bits (l : List UInt8) (p n : Nat) (h : n ≤ 32) : Builtin.Int.intBits (beN (partL l p n) : Int) ≤ 256 := by
  refine intBits_le_iff.mpr ?_
  rw [Int.natAbs_natCast]
  have h1 := numL_lt l p n
  have h3 : ∀ n : Nat, (256 : Nat) ^ n = 2 ^ (8 * n) := fun n => by rw [Nat.pow_mul]
  rw [h3] at h1
  exact Nat.lt_of_lt_of_le h1 (Nat.pow_le_pow_right (by decide) (by omega))
theorem price_big {E R : Int} (hR : 1 ≤ R) (h : 536870912 ≤ E ∨ (1 ≤ E ∧ 34359738000 ≤ R)) : 10000000 < max 200 ((E * E * R).fdiv 3) := by
  have hE : 1 ≤ E := by omega
  have h1 : E * 1 ≤ E * E := Int.mul_le_mul_of_nonneg_left hE (by omega)
  have h2 : E * E * 1 ≤ E * E * R := Int.mul_le_mul_of_nonneg_left hR (by omega)
  have h3 : 1 * R ≤ E * E * R := Int.mul_le_mul_of_nonneg_right (by omega) (by omega)
  rw [fd (by decide)]
  refine Int.lt_of_lt_of_le ?_ (Int.le_max_right _ _)
  generalize E * E * R = X at *
  generalize E * E = Y at *
  rcases h with h | h <;> omega
theorem lr_small {B P M bits : Nat} (z0 : Szn B) (z1 : Szn P) (z2 : Szn M) : (M : Int) = 0 ∨ (B ≤ 40 ∧ P ≤ 40 ∧ M ≤ 40) ∨
    10000000 < max 200 (((max (B : Int) (M : Int) + 7).fdiv 8 * (max (B : Int) (M : Int) + 7).fdiv 8 * max (max ((bits : Int) - 1) 0 + 8 * max ((P : Int) - 32) 0) 1).fdiv 3) := by
  by_cases hM : M = 0
  · exact .inl (congrArg _ hM)
  by_cases hs : B ≤ 40 ∧ P ≤ 40 ∧ M ≤ 40
  · exact .inr (.inl hs)
  refine .inr (.inr (price_big (Int.le_max_right _ _) ?_))
  rw [fd (by decide)]
  rcases z0 with b | b
  · rcases z2 with m | m
    · rcases z1 with p | p
      · exact absurd ⟨b, p, m⟩ hs
      · exact .inr ⟨e_of (Int.le_trans (Int.ofNat_le.mpr (Nat.pos_of_ne_zero hM)) (Int.le_max_right _ _)), r_big (Int.le_trans (by decide) (Int.le_max_right _ _)) p⟩
    · exact .inl (e_big (Int.le_trans (Int.ofNat_le.mpr m) (Int.le_max_right _ _)))
  · exact .inl (e_big (Int.le_trans (Int.ofNat_le.mpr b) (Int.le_max_left _ _)))
/-- the law's own price is the program's, up to the lid -/
theorem lr_price {l : List UInt8} {F : Nat} (hF : F = prF l (numL l 0 32) (numL l 32 32)) (hz : Sz l) :
    let p := max 200 (((max (numL l 0 32 : Int) (numL l 64 32 : Int) + 7).fdiv 8 * (max (numL l 0 32 : Int) (numL l 64 32 : Int) + 7).fdiv 8 * max (max (((Builtin.Int.intBits (F : Int) : Nat) : Int) - 1) 0 + 8 * max ((numL l 32 32 : Int) - 32) 0) 1).fdiv 3)
    (10000000 < p ∧ 10000000 < prC l) ∨ (p ≤ 10000000 ∧ p = prC l) := by
  intro p
  have hp : p = max 200 ((prE l * prE l * prR l (numL l 0 32) (numL l 32 32)).fdiv 3) := by
    show max 200 _ = _
    rw [prE_eq]
    congr 3
    unfold prR
    rw [hF]
    congr 2
    split
    · rename_i h0
      have hb : 1 ≤ Builtin.Int.intBits (prF l (numL l 0 32) (numL l 32 32) : Int) := by
        unfold Builtin.Int.intBits
        rw [if_neg (by simp; omega)]
        omega
      omega
    · rename_i h0
      have e : prF l (numL l 0 32) (numL l 32 32) = 0 := by omega
      rw [e]
      rfl
  have hpr := prR_in l (numL l 0 32) (numL l 32 32)
  unfold prC
  by_cases hE : prE l = 0
  · rw [if_pos hE]
    right
    rw [hp, hE]
    simp only [Int.zero_mul, Int.zero_fdiv]
    decide
  · rw [if_neg hE]
    by_cases hm : max (max (numL l 0 32) (numL l 32 32)) (numL l 64 32) > 4194304
    · rw [if_pos hm]
      left
      refine ⟨?_, by decide⟩
      rw [hp]
      obtain ⟨z0, z1, z2⟩ := hz
      refine price_big hpr.1 ?_
      rcases z0 with b | b
      · rcases z2 with m | m
        · rcases z1 with p | p
          · exact absurd hm (Nat.not_lt.mpr (Nat.max_le.mpr ⟨Nat.max_le.mpr ⟨Nat.le_trans b (by decide), Nat.le_trans p (by decide)⟩, Nat.le_trans m (by decide)⟩))
          · exact .inr ⟨Int.ofNat_le.mpr (Nat.pos_of_ne_zero fun h => hE (congrArg Int.ofNat h)), r_big (pr_a _) p⟩
        · exact .inl (e_bigN (Nat.le_trans m (Nat.le_max_right _ _)))
      · exact .inl (e_bigN (Nat.le_trans b (Nat.le_max_left _ _)))
    · rw [if_neg hm, ← fd (by decide), ← hp]
      rcases Int.lt_or_le 10000000 p with h | h
      · exact .inl ⟨h, h⟩
      · exact .inr ⟨h, rfl⟩
/-- the doubling loop of the law -/
structure LrS where
  r : Nat
  b : Nat
  k : Nat
  t1 : Tok
  t2 : Tok
  t3 : Tok
abbrev lrPs (c : LrS) : List (Str × Value) := [(Str.ofString "result", .int (c.r : Int) c.t1), (Str.ofString "base", .int (c.b : Int) c.t2), (Str.ofString "left", .int (c.k : Int) c.t3)]
def lrP (m x e : Nat) (c : LrS) : Prop := c.r < m ∧ c.b < 256 ^ 40 ∧ c.r * c.b ^ c.k % m = x ^ e % m
theorem lrP_start {m x e : Nat} {t1 t2 t3} (hm : 0 < m) (hx : x < 256 ^ 40) : lrP m x e ⟨1 % m, x, e, t1, t2, t3⟩ := ⟨Nat.mod_lt _ hm, hx, by show 1 % m * x ^ e % m = _; rw [Nat.mod_mul_mod, Nat.one_mul]⟩
theorem lrP_end {m x e : Nat} {c : LrS} (h : lrP m x e c) (hk : c.k = 0) : c.r = x ^ e % m := by
  obtain ⟨h1, _, h3⟩ := h
  rw [hk, Nat.pow_zero, Nat.mul_one, Nat.mod_eq_of_lt h1] at h3
  exact h3
theorem lr_sq {m b j : Nat} : (b * b % m) ^ j % m = b ^ (2 * j) % m := by
  rw [← Nat.pow_mod, Nat.pow_mul, Nat.pow_two]
theorem lrP_odd {m x e : Nat} {c : LrS} {t1 t2 t3} (h : lrP m x e c) (hm : m ≤ 256 ^ 40) (h0 : 0 < m) (ho : c.k % 2 = 1) : lrP m x e ⟨c.r * c.b % m, c.b * c.b % m, c.k / 2, t1, t2, t3⟩ := by
  obtain ⟨h1, h2, h3⟩ := h
  refine ⟨Nat.mod_lt _ h0, Nat.lt_of_lt_of_le (Nat.mod_lt _ h0) hm, ?_⟩
  show c.r * c.b % m * (c.b * c.b % m) ^ (c.k / 2) % m = _
  rw [← h3, Nat.mul_mod, lr_sq, ← Nat.mul_mod, Nat.mod_mul_mod, Nat.mul_assoc, ← Nat.pow_succ']
  congr 3; omega
theorem lrP_even {m x e : Nat} {c : LrS} {t1 t2 t3} (h : lrP m x e c) (hm : m ≤ 256 ^ 40) (h0 : 0 < m) (ho : ¬ c.k % 2 = 1) : lrP m x e ⟨c.r, c.b * c.b % m, c.k / 2, t1, t2, t3⟩ := by
  obtain ⟨h1, h2, h3⟩ := h
  refine ⟨h1, Nat.lt_of_lt_of_le (Nat.mod_lt _ h0) hm, ?_⟩
  show c.r * (c.b * c.b % m) ^ (c.k / 2) % m = _
  rw [← h3, Nat.mul_mod, lr_sq, ← Nat.mul_mod]
  congr 3; omega
abbrev prO (P : Int) (t : Tok) (D : Value) : Obj := { cls := .type "tuple", data := .seq #[.int P t, D] }
def LrRes (l : List UInt8) (P : Int) (D : Value) : Prop := (10000000 < P ∧ 10000000 < prC l ∧ D = .none) ∨ (P ≤ 10000000 ∧ P = prC l ∧ ∃ t, D = .bytes (raO l).toArray t)
abbrev lrPx (l : List UInt8) : Int := max 200 (((max (beN (partL l (32 * (0 + 0)) 32) : Int) (beN (partL l (32 * (0 + (0 + 1 + 1))) 32) : Int) + 7).fdiv 8 * (max (beN (partL l (32 * (0 + 0)) 32) : Int) (beN (partL l (32 * (0 + (0 + 1 + 1))) 32) : Int) + 7).fdiv 8 *
  max (max (((Builtin.Int.intBits (beN (partL l ((96 : Int) + (beN (partL l (32 * (0 + 0)) 32) : Int)).toNat (min (beN (partL l (32 * (0 + (0 + 1))) 32) : Int) 32).toNat) : Int) : Nat) : Int) - 1) 0 + 8 * max ((beN (partL l (32 * (0 + (0 + 1))) 32) : Int) - 32) 0) 1).fdiv 3)
theorem lrPx_eq {l : List UInt8} (hz : Sz l) : (10000000 < lrPx l ∧ 10000000 < prC l) ∨ (lrPx l ≤ 10000000 ∧ lrPx l = prC l) := by
  refine lr_price (l := l) (F := beN (partL l ((96 : Int) + (beN (partL l (32 * (0 + 0)) 32) : Int)).toNat (min (beN (partL l (32 * (0 + (0 + 1))) 32) : Int) 32).toNat)) ?_ hz
  have e1 : ((96 : Int) + (beN (partL l (32 * (0 + 0)) 32) : Int)).toNat = 96 + numL l 0 32 := by
    exact tn96 _
  have e2 : (min (beN (partL l (32 * (0 + (0 + 1))) 32) : Int) 32).toNat = min (numL l 32 32) 32 := by
    exact tnmin _
  rw [e1, e2]
  rfl
theorem lrResA {l : List UInt8} (hz : Sz l) (h : 10000000 < lrPx l) : LrRes l (lrPx l) .none := by
  rcases lrPx_eq hz with h1 | h1
  · exact .inl ⟨h, h1.2, rfl⟩
  · exact absurd h1.1 (Int.not_le.mpr h)
theorem lrResB {l x : List UInt8} {t : Tok} (hz : Sz l) (h : ¬ 10000000 < lrPx l) (hx : x = raO l) : LrRes l (lrPx l) (.bytes x.toArray t) := by
  rcases lrPx_eq hz with h1 | h1
  · exact absurd h1.1 h
  · exact .inr ⟨h1.1, h1.2, t, by rw [hx]⟩
theorem part_lt40 {l : List UInt8} {p n : Nat} (h : n ≤ 40) : beN (partL l p n) < 256 ^ 40 := Nat.lt_of_lt_of_le (numL_lt l p n) (Nat.pow_le_pow_right (by decide) h)
theorem ib_nat {n : Nat} (h : n < 256 ^ 40) : IB 400 (n : Int) := ib_of (by
  rw [Int.natAbs_natCast]
  have e : (256 : Nat) ^ 40 = 2 ^ 320 := by decide
  rw [e] at h
  exact Nat.lt_of_lt_of_le h (Nat.pow_le_pow_right (by decide) (by decide)))
theorem mulmod {r b m : Nat} : ((r : Int) * (b : Int)).fmod (m : Int) = ((r * b % m : Nat) : Int) := by rw [fm (by omega)]; rfl
theorem half (k : Nat) : (k : Int).fdiv 2 = ((k / 2 : Nat) : Int) := by rw [fd (by decide)]; rfl
theorem cb_more {h₀ h : Heap} {L : Addr} {news : List (Addr × Obj)} {q : Addr × Obj} (N : News h₀ L h news) (hq : q ∈ news) : News h₀ L h (q :: news) := fun p hp => by
  rcases List.mem_cons.mp hp with rfl | hp
  · exact N _ hq
  · exact N _ hp
end Mine
end
noncomputable section
open PySem PySem.W PySem.Spec PySem.Calls PyProof.Rows
namespace Mine
set_option maxRecDepth 100000
theorem g_field (P : Params) : ∃ t, nsIn (Mine.hd.heap_1 P) mainGlobals (Str.ofString "_law_field") = some (some (.int 67 t)) := ⟨_, by with_unfolding_all rfl⟩
/-- the pairs that two names stand for, and the field -/
def pairOrc (x y u v : Int) : Orc := fun e => match e with
  | .Subscript (.Name n _) (.Constant (.int k) _ _) _ => match n == Str.ofString "one" with
    | true => match k == 0 with
      | true => some x
      | false => match k == 1 with
        | true => some y
        | false => none
    | false => match n == Str.ofString "other" with
      | true => match k == 0 with
        | true => some u
        | false => match k == 1 with
          | true => some v
          | false => none
      | false => none
  | .Name n _ => match n == Str.ofString "_law_field" with
    | true => some 67
    | false => none
  | _ => none
theorem item2 {prog : Program} {w : World} {A : Around} {h₀ h : Heap} {L a : Addr} {m : Str → Option Value} {news : Led} {cn : Str} {cs : Scope} {b : Addr} {ccd : Value} {cl : List (Str × Addr)} {n : Str} {x y z : Int} {t u : Tok} {p1 p2 p3 : Pos} {j k : Nat}
    (F : Fr h₀ L h m) (hk : cs.kind = .function) (N : News h₀ L h news) (hm : m n = some (.ref a)) (hn : (a, tup2O x t y u) ∈ news) (hl : (envX cn cs L b ccd cl).kindOf n = some .local) (hd : (n == Str.ofString "__debug__") = false)
    (hj : j < 2) (hz : z = if j = 0 then x else y) (Q : Value → Shared → Prop) (E : Value → Shared → Prop) (g : Array GenState) (d : Drawn) (tk : Nat) (o : OsState) (H : ∀ (t : Tok) (tk' : Nat), Q (.int z t) ⟨h, g, d, tk', o⟩) :
    wpAny (model prog w) A (eval (.Subscript (.Name n p1) (.Constant (.int (j : Int)) k p2) p3) (envX cn cs L b ccd cl)) Q E ⟨h, g, d, tk, o⟩ := by
  refine Subscript_ (nameX_L F hm ?_ hk hl hd)
  refine wpAny_Constant_int ?_
  have ht := N.isTup hn
  match j, hj with
  | 0, _ =>
    subst hz
    exact item_tupleT ht (by decide) (by decide) rfl rfl (H _ _)
  | 1, _ =>
    subst hz
    exact item_tupleT ht (by decide) (by decide) rfl rfl (H _ _)
theorem orc_pair {prog : Program} {w : World} {A : Around} {h₀ h : Heap} {L a b c : Addr} {m mg mb : Str → Option Value} {news : Led} {cn : Str} {cs : Scope} {ccd : Value} {cl : List (Str × Addr)} {p : Program} {loose : List Str} {x y u v : Int} {t1 t2 t3 t4 : Tok}
    (F : Fr h₀ L h m) (N : News h₀ L h news) (X : (Mine.hd.heap_1 w.params).In h₀) (T : TopRead p loose mg mb h₀) (hk : cs.kind = .function) (h1 : m (Str.ofString "one") = some (.ref a)) (h2 : m (Str.ofString "other") = some (.ref b)) (m1 : (a, tup2O x t1 y t2) ∈ news) (m2 : (b, tup2O u t3 v t4) ∈ news)
    (k1 : (envX cn cs L c ccd cl).kindOf (Str.ofString "one") = some .local) (k2 : (envX cn cs L c ccd cl).kindOf (Str.ofString "other") = some .local) (k3 : (envX cn cs L c ccd cl).kindOf (Str.ofString "_law_field") = some .globalImplicit) : OrcOk prog w A (envX cn cs L c ccd cl) h (pairOrc x y u v) := by
  intro e n he Q E g d tk o H
  unfold pairOrc at he
  split at he
  · split at he
    · rename_i hb
      have hb := eq_of_beq hb
      subst hb
      split at he
      · rename_i hz; have hz := eq_of_beq hz; subst hz; cases he
        exact item2 (j := 0) F hk N h1 m1 k1 (by decide +kernel) (by decide) rfl Q E g d tk o H
      · split at he
        · rename_i hz; have hz := eq_of_beq hz; subst hz; cases he
          exact item2 (j := 1) F hk N h1 m1 k1 (by decide +kernel) (by decide) rfl Q E g d tk o H
        · cases he
    · split at he
      · rename_i hb
        have hb := eq_of_beq hb
        subst hb
        split at he
        · rename_i hz; have hz := eq_of_beq hz; subst hz; cases he
          exact item2 (j := 0) F hk N h2 m2 k2 (by decide +kernel) (by decide) rfl Q E g d tk o H
        · split at he
          · rename_i hz; have hz := eq_of_beq hz; subst hz; cases he
            exact item2 (j := 1) F hk N h2 m2 k2 (by decide +kernel) (by decide) rfl Q E g d tk o H
          · cases he
      · cases he
  · split at he
    · rename_i hb
      have hb := eq_of_beq hb
      subst hb
      cases he
      obtain ⟨t, ht⟩ := g_field w.params
      exact nameX_K F X T ht (H _ _) hk k3 (by decide +kernel)
    · cases he
  · cases he
theorem pe_intO {prog : Program} {w : World} {A : Around} {cn : Str} {cs : Scope} {L a : Addr} {ccd : Value} {cl : List (Str × Addr)} {h₀ h : Heap} {m : Str → Option Value} {orc : Orc} {e : Expr} {n : Int} {C : Option Prop}
    {Q : Value → Shared → Prop} {E : Value → Shared → Prop} {g : Array GenState} {d : Drawn} {tk : Nat} {o : OsState}
    (F : Fr h₀ L h m) (hk : cs.kind = .function) (O : OrcOk prog w A (envX cn cs L a ccd cl) h orc) (he : pei (envX cn cs L a ccd cl) m orc 12 e = some (n, C)) (hC : cP C) (H : ∀ (t : Tok) (tk' : Nat), Q (.int n t) ⟨h, g, d, tk', o⟩) :
    wpAny (model prog w) A (eval e (envX cn cs L a ccd cl)) Q E ⟨h, g, d, tk, o⟩ := pei_ok F hk O _ _ _ _ he hC _ _ _ _ _ _ H
end Mine
end
noncomputable section
open PySem PySem.W PySem.Spec PySem.Calls PyProof.Rows
namespace Mine
set_option maxRecDepth 100000
theorem slot_join : Slot "bytes" "join" "bytes.join" :=
  .of (owner := "bytes") (n := "join") (by rw [typeLookup_type, builtinLookup_eq_fast]; kernel_rfl) (by decide +kernel) (by decide +kernel) (by decide +kernel)
    (by first | exact .inl (by decide +kernel) | exact .inr (by decide +kernel)) (by rw [isSubtype_type]; kernel_rfl)
theorem entry_join : entryFor table "bytes.join" = some Builtin.«bytes.join» := by first | exact entryFor_of_tree (by kernel_rfl) | exact entryFor_of_fast (by kernel_rfl)
theorem args_join (a b : Value) : argsOk "bytes.join" ⟨[a, b], []⟩ := by unfold argsOk; kernel_rfl
theorem joined3 (a b c : List UInt8) : Builtin.Bytes.joined #[] [a.toArray, b.toArray, c.toArray] = (a ++ b ++ c).toArray := by
  simp [Builtin.Bytes.joined]
end Mine
end
noncomputable section
open PySem PySem.W PySem.Spec PySem.Calls PyProof.Rows
namespace Mine
set_option maxRecDepth 100000
/-! a loop over a range whose ledger grows -/
abbrev rgIt (x left : Int) : Obj := { cls := .type "range_iterator", dict := none, data := .fields #[rawInt x, rawInt left, rawInt 1], slots := #[] }
def GrowEnd (h₀ : Heap) (L : Addr) (x : Str) (m₀ : Str → Option Value) (I : Addr) (io : Obj) (Rn : List (Addr × Obj) → Prop) (s₁ : Shared) (Q : Flow → Shared → Prop) (f : Flow) (s₂ : Shared) : Prop :=
  match f with
  | .ret v => Q (.ret v) s₂
  | .brk => Q .next s₂
  | _ => ∃ h' tk m₂ news₂, s₂ = { s₁ with heap := h', toks := tk } ∧ (∀ y, y ≠ x → m₂ y = m₀ y) ∧ Fr h₀ L h' m₂ ∧ News h₀ L h' ((I, io) :: news₂) ∧ (∀ p ∈ news₂, p.1 ≠ I) ∧ Rn news₂
section
variable {prog : Program} {w : World} {A : Around} {E : Value → Shared → Prop} {s : Shared} {env : Env} {h₀ : Heap} {x : Str} {body : List Stmt} {Q : Flow → Shared → Prop}
theorem for_grow {r : Addr} {a₀ b₀ : Int} {t₀ u₀ v₀ : Tok} {n : Nat} {m₀ : Str → Option Value} {news : List (Addr × Obj)} {R : Nat → List (Addr × Obj) → Prop}
    (hh : A.handled = none) (hr : IsRange s.heap r a₀ b₀ 1 t₀ u₀ v₀) (hsmall : Builtin.Range.small a₀ b₀ 1 = true) (hn : Builtin.Range.rangeSize a₀ b₀ 1 = (n : Int)) (F : Fr h₀ env.locals s.heap m₀) (N : News h₀ env.locals s.heap news) (h0 : R 0 news)
    (turn : ∀ (i : Nat) (t : Tok) (I : Addr) (y left : Int) news₁ h tk, i < n → R i news₁ → (∀ p ∈ news₁, p.1 ≠ I) → Fr h₀ env.locals h (fun y => if y = x then some (.int (a₀ + (i : Int)) t) else m₀ y) → News h₀ env.locals h ((I, rgIt y left) :: news₁) →
      wpAny (model prog w) A (execs body env) (GrowEnd h₀ env.locals x m₀ I (rgIt y left) (R (i + 1)) { s with heap := h, toks := tk } Q) E { s with heap := h, toks := tk })
    (done : ∀ (u : Str → Option Value) news₁ h tk, R n news₁ → Fr h₀ env.locals h (fun y => if y = x then u y else m₀ y) → News h₀ env.locals h news₁ → Q .next { s with heap := h, toks := tk }) :
    wpAny (model prog w) A (pyIter (.ref r)) (fun it s₂ => LoopAtV prog w A h₀ env x body Q E it s₂) E s := by
  refine wpAny_pyIter_range hr hsmall ?_
  have W : Walks prog w A s.heap.objs.size [s.heap.objs.size] [s.heap.objs.size] n (fun i v => i < n ∧ ∃ t, v = .int (a₀ + i * 1) t)
      (fun i h => IsRangeIter h s.heap.objs.size (a₀ + (i : Nat) * 1) ((n : Int) - (i : Nat)) 1) := (Walks.range hh _ a₀ 1 n).bound
  refine ⟨s.heap.objs.size, [s.heap.objs.size], [s.heap.objs.size], n, _, _, m₀, news, fun i m₁ news₁ => (∀ y, y ≠ x → m₁ y = m₀ y) ∧ R i news₁, rfl, W, ?_, ?_, ?_, (by show IsRangeIter _ _ _ _ _; rw [hn]; simpa using Heap.get?_push_size _ rfl), F.push _, (fun p hp => ⟨Heap.get?_push_of_some _ (N p hp).1, (N p hp).2⟩), ⟨fun _ _ => rfl, h0⟩, ?_, ?_⟩
  · intro hm
    exact absurd F.ns.lt ((List.mem_singleton.mp hm) ▸ Nat.lt_irrefl _)
  · intro b hb
    rw [List.mem_singleton.mp hb]
    exact next_is_new F
  · intro p hp hI
    exact absurd (Heap.lt_size (N p hp).1) ((List.mem_singleton.mp hI) ▸ Nat.lt_irrefl _)
  · rintro i v m₁ news₁ s₁ own ⟨h, tk, rfl⟩ hin ⟨_, t, rfl⟩ ⟨hm, hR⟩ hnw hown1 hown2 hown3 hst F₁ N₁
    have e1 : a₀ + (i : Int) * 1 = a₀ + (i : Int) := by omega
    rw [e1] at F₁
    have em : (fun y => if y = x then some (Value.int (a₀ + (i : Int)) t) else m₁ y) = fun y => if y = x then some (Value.int (a₀ + (i : Int)) t) else m₀ y := by
      funext y
      by_cases hy : y = x
      · rw [if_pos hy, if_pos hy]
      · rw [if_neg hy, if_neg hy, hm y hy]
    rw [em] at F₁
    have hin' := hown3 _ (List.mem_singleton.mpr rfl) (next_is_new F) _ hst
    have hall : ∀ p ∈ own, p = (s.heap.objs.size, rgIt (a₀ + ((i + 1 : Nat) : Int) * 1) ((n : Int) - ((i + 1 : Nat) : Int))) := by
      intro p hp
      have h1 := List.mem_singleton.mp (hown1 p hp)
      have h2 := hown2 p hp
      rw [h1] at h2
      have h3 : h.get? s.heap.objs.size = _ := hst
      rw [h3] at h2
      injection h2 with h2
      obtain ⟨p1, p2⟩ := p
      cases h1
      cases h2
      rfl
    refine wpAny_mono (turn i t s.heap.objs.size (a₀ + ((i + 1 : Nat) : Int) * 1) ((n : Int) - ((i + 1 : Nat) : Int)) news₁ h tk hin hR (fun p hp e => hnw p hp (List.mem_singleton.mpr e)) F₁ (fun p hp => ?_)) (fun f s₂ p => ?_) fun _ _ e => e
    · rcases List.mem_cons.mp hp with rfl | hp
      · exact N₁ _ (List.mem_append_left _ hin')
      · exact N₁ _ (List.mem_append_right _ hp)
    · have fin : (∃ h' tk' m₂ news₂, s₂ = { { s with heap := h, toks := tk } with heap := h', toks := tk' } ∧ (∀ y, y ≠ x → m₂ y = m₀ y) ∧ Fr h₀ env.locals h' m₂ ∧ News h₀ env.locals h' ((s.heap.objs.size, rgIt (a₀ + ((i + 1 : Nat) : Int) * 1) ((n : Int) - ((i + 1 : Nat) : Int))) :: news₂) ∧ (∀ p ∈ news₂, p.1 ≠ s.heap.objs.size) ∧ R (i + 1) news₂) →
          LoopStepU h₀ env.locals [s.heap.objs.size] own (fun m₁ news₁ => (∀ y, y ≠ x → m₁ y = m₀ y) ∧ R (i + 1) news₁) { s with heap := h, toks := tk } .next s₂ := by
        rintro ⟨h', tk', m₂, news₂, e, hm2, F', N', hn2, hR2⟩
        refine ⟨rfl, h', tk', m₂, news₂, e, F', fun p hp => ?_, fun p hp hq => hn2 p hp (List.mem_singleton.mp hq), hm2, hR2⟩
        rcases List.mem_append.mp hp with hp | hp
        · rw [hall p hp]; exact N' _ (List.Mem.head _)
        · exact N' _ (List.mem_cons_of_mem _ hp)
      cases f with
      | ret v => exact .ret p
      | brk => exact .brk p
      | next => exact .next (fin p)
      | cont => exact .cont (fin p)
  · rintro h' tk m' news' F' N' _ ⟨hm, hJ⟩
    have em : (fun y => if y = x then m' y else m₀ y) = m' := by
      funext y
      by_cases hy : y = x
      · rw [if_pos hy]
      · rw [if_neg hy, hm y hy]
    exact done m' news' h' tk hJ (by rw [em]; exact F') N'
end
end Mine
end
noncomputable section
open PySem PySem.W PySem.Spec PySem.Calls PyProof.Rows
namespace Mine
set_option maxRecDepth 100000
open PySem.Builtin
theorem take_eq {id : String} {b : Array UInt8} {t : Tok} : Bytes.takeBufferQuiet? id (.bytes b t) 0 = pure (some (b, none)) := by
  have e : Bytes.takeBuffer? id (.bytes b t) 0 = pure (some (b, none)) := by
    unfold Bytes.takeBuffer?
    rw [KBy.special_eq KBy.look_buffer, KBy.own_buffer]
    simp only [pure_bind]
    have hf : Bytes.buffer? id (.bytes b t) (full := (0 : Int) == Bytes.fullReadOnly) = pure (some b) := KBy.buffer_eq
    simp only [Bool.not_true, Bool.false_eq_true, if_false]
    first
      | (rw [hf]; rfl)
      | (split <;> first | (rw [hf]; rfl))
  unfold Bytes.takeBufferQuiet?
  rw [e]
  rfl
section
variable {prog : Program} {w : World} {A : Around} {E : Value → Shared → Prop} {s : Shared} {t : Tok} {Q : Value → Shared → Prop}
theorem joinLetGo_all {Q : Unit → Shared → Prop} {keep : List Value} {s : Shared} {M : Model} : ∀ (taken : List (Value × Option Value)), (∀ p ∈ taken, p.2 = none) → Q () s → wpAny M A (Bytes.joinLetGo taken keep) Q E s
  | [], _, h => wpAny_pure h
  | (x, w) :: rest, hw, h => by
    have e : w = none := hw _ (List.Mem.head _)
    subst e
    unfold Bytes.joinLetGo
    exact wpAny_bind (wpAny_letGo (joinLetGo_all rest (fun p hp => hw p (List.mem_cons_of_mem _ hp)) h))
theorem join3 {D : Addr} {a b c : Array UInt8} {ta tb tc : Tok} {e : Nat} (hl : s.heap.get? D = some ({ cls := .type "list", data := .seq #[.bytes a ta, .bytes b tb, .bytes c tc] e } : Obj)) (hz : a.size + b.size + c.size ≤ 1000)
    (h : ∀ t' k', Q (.bytes (Builtin.Bytes.joined #[] [a, b, c]) t') { s with toks := k' }) : wpAny (model prog w) A (call (.builtin "bytes.join") [.bytes #[] t, .ref D]) Q E s := by
  refine wpAny_call_entry slot_join (typeIs_bytes s _ t) entry_join ?_ (args_join _ _)
  have hT : s.TypeIs (.ref D) "list" := Heap.IsList.typeIs ⟨_, hl, rfl, _, rfl⟩
  show wpAny _ _ (selfAndOne _ ⟨[.bytes #[] t, .ref D], []⟩ >>= fun y => _) _ _ s
  refine wpAny_bind (wpAny_of_eq (a := (Value.bytes #[] t, Value.ref D)) rfl ?_)
  dsimp only
  refine wpAny_bind ?_
  show wpAny _ _ (Bytes.joinItems (.ref D)) _ _ s
  unfold Bytes.joinItems
  refine wpAny_bind (wpAny_typeOf hT ?_)
  refine bm_if_true (by decide +kernel) ?_
  refine wpAny_pure ?_
  refine wpAny_bind (wpAny_seqItems hl rfl ?_)
  dsimp only
  refine bm_if_true rfl ?_
  refine wpAny_bind ?_
  rw [Std.Legacy.Range.forIn_eq_forIn_range']
  rw [show List.range' ([:(#[Value.bytes a ta, Value.bytes b tb, Value.bytes c tc]).size] : Std.Legacy.Range).start ([:(#[Value.bytes a ta, Value.bytes b tb, Value.bytes c tc]).size] : Std.Legacy.Range).size ([:(#[Value.bytes a ta, Value.bytes b tb, Value.bytes c tc]).size] : Std.Legacy.Range).step = [0, 1, 2] from by simp [Std.Legacy.Range.size, List.range']]
  rw [List.forIn_cons]
  refine wpAny_bind ?_
  refine wpAny_bind (wpAny_seqItems hl rfl ?_)
  dsimp only
  refine bm_if_false rfl ?_
  refine wpAny_bind (wpAny_holding (wpAny_of_eq take_eq ?_))
  dsimp only
  refine wpAny_bind (wpAny_seqItems hl rfl ?_)
  dsimp only
  refine bm_if_false rfl ?_
  refine wpAny_pure ?_
  dsimp only
  rw [List.forIn_cons]
  refine wpAny_bind ?_
  refine wpAny_bind (wpAny_seqItems hl rfl ?_)
  dsimp only
  refine bm_if_false rfl ?_
  refine wpAny_bind (wpAny_holding (wpAny_of_eq take_eq ?_))
  dsimp only
  refine wpAny_bind (wpAny_seqItems hl rfl ?_)
  dsimp only
  refine bm_if_false rfl ?_
  refine wpAny_pure ?_
  dsimp only
  rw [List.forIn_cons]
  refine wpAny_bind ?_
  refine wpAny_bind (wpAny_seqItems hl rfl ?_)
  dsimp only
  refine bm_if_false rfl ?_
  refine wpAny_bind (wpAny_holding (wpAny_of_eq take_eq ?_))
  dsimp only
  refine wpAny_bind (wpAny_seqItems hl rfl ?_)
  dsimp only
  refine bm_if_false rfl ?_
  refine wpAny_pure ?_
  dsimp only
  rw [List.forIn_nil]
  refine wpAny_pure ?_
  refine wpAny_bind (wpAny_of_eq (a := #[]) rfl ?_)
  refine bm_if_false (KBy.tooLong_not (by simp; omega)) ?_
  refine wpAny_bind ?_
  show wpAny _ _ (mkBytes (Builtin.Bytes.joined #[] [a, b, c])) _ _ _
  refine wpAny_mkBytes ?_ (by simp [Builtin.Bytes.joined, sizeLine_eq]; omega)
  refine wpAny_bind (wpAny_holding (wpAny_point ?_))
  refine wpAny_bind (joinLetGo_all _ (by simp) ?_)
  exact wpAny_pure ⟨_, rfl, h _ _⟩
theorem join_L {h₀ : Heap} {L D : Addr} {news : List (Addr × Obj)} {a b c : List UInt8} {ta tb tc : Tok} {e : Nat} (N : News h₀ L s.heap news) (hm : (D, ({ cls := .type "list", data := .seq #[.bytes a.toArray ta, .bytes b.toArray tb, .bytes c.toArray tc] e } : Obj)) ∈ news) (hz : a.length + b.length + c.length ≤ 1000)
    (h : ∀ t' k', Q (.bytes (a ++ b ++ c).toArray t') { s with toks := k' }) : wpAny (model prog w) A (call (.builtin "bytes.join") [.bytes #[] t, .ref D]) Q E s :=
  join3 (N _ hm).1 (by simpa using hz) fun t' k' => by rw [joined3]; exact h t' k'
end
theorem type_join : typeOf (.builtin "bytes.join") = pure (.type "method_descriptor") := by first | rfl | kernel_rfl
theorem join_method {M : Model} {A : Around} {E : Value → Shared → Prop} {s : Shared} {b : Array UInt8} {t : Tok} {pl : Sem Bool} {Q : Value × List Value → Shared → Prop} (h : Q (.builtin "bytes.join", [.bytes b t]) s) : wpAny M A (getMethod (.bytes b t) (PySem.Str.ofString "join") pl) Q E s :=
  KBd.method_of (.bytes b t) (typeIs_bytes _ _ _) slot_join type_join KBd.noRef h
end Mine
end
noncomputable section
open PySem PySem.W PySem.Spec PySem.Calls PyProof.Rows PyProof.V
namespace Mine
set_option maxRecDepth 100000
def joM (x y : Int) : Option (Int × Int) :=
  if x = 2 ∧ (y + 22).fmod 67 = 0 then none else
    if x = 2 ∧ y = 22 then
      let slope := (3 * x * x * (pmod (2 * y) 65 67 : Int)).fmod 67
      let far := (slope * slope - x - 2).fmod 67
      some (far, (slope * (x - far) - y).fmod 67)
    else
      let slope := ((22 - y) * (pmod (2 - x) 65 67 : Int)).fmod 67
      let far := (slope * slope - x - 2).fmod 67
      some (far, (slope * (x - far) - y).fmod 67)
abbrev rowsO (vs : List Value) (e : Nat) : Obj := { cls := .type "list", data := .seq vs.toArray e }
theorem lrRes1 {l : List UInt8} {sb sp sm : Nat} {F : Nat} (eb : beN (partL l (32 * (0 + 0)) 32) = sb) (ep : beN (partL l (32 * (0 + (0 + 1))) 32) = sp) (em : beN (partL l (32 * (0 + (0 + 1 + 1))) 32) = sm)
    (eF : F = beN (partL l (96 + sb) (min sp 32))) : max 200 (((max (sb : Int) (sm : Int) + 7).fdiv 8 * (max (sb : Int) (sm : Int) + 7).fdiv 8 * max (max (((Builtin.Int.intBits (F : Int) : Nat) : Int) - 1) 0 + 8 * max ((sp : Int) - 32) 0) 1).fdiv 3) = lrPx l := by
  subst eF
  unfold lrPx
  rw [eb, ep, em, tn96, tnmin]
theorem lrH1 (l : List UInt8) (sb sp : Nat) : beN (partL l ((96 : Int) + (sb : Int)).toNat (min (sp : Int) 32).toNat) = beN (partL l (96 + sb) (min sp 32)) := by
  rw [tn96, tnmin]
theorem ib_pos {n : Nat} {a : Int} (h0 : 0 ≤ a) (h1 : a < 2 ^ n) : IB n a := ib_of (Int.ofNat_lt.mp (by rw [Int.natAbs_of_nonneg h0, Int.natCast_pow]; exact h1))
theorem lrH2 {sb sm : Nat} (n0 : sb < 115792089237316195423570985008687907853269984665640564039457584007913129639936) (n2 : sm < 115792089237316195423570985008687907853269984665640564039457584007913129639936) : IB 300 ((max (sb : Int) (sm : Int) + 7).fdiv 8) := by
  rw [fd (by decide)]
  have h0 : 0 ≤ max (sb : Int) (sm : Int) := Int.le_trans (Int.natCast_nonneg sb) (Int.le_max_left _ _)
  have h1 : max (sb : Int) (sm : Int) < 115792089237316195423570985008687907853269984665640564039457584007913129639936 := Int.max_lt.mpr ⟨Int.ofNat_lt.mpr n0, Int.ofNat_lt.mpr n2⟩
  generalize max (sb : Int) (sm : Int) = X at *
  clear n0 n2
  exact ib_pos (by omega) (by omega)
theorem lrH3 {sp bits : Nat} (n1 : sp < 115792089237316195423570985008687907853269984665640564039457584007913129639936) (hF : bits ≤ 256) : IB 300 (max (max (((bits : Nat) : Int) - 1) 0 + 8 * max ((sp : Int) - 32) 0) 1) := by
  have a1 : max (((bits : Nat) : Int) - 1) 0 ≤ 256 := Int.max_le.mpr ⟨Int.le_trans (Int.sub_le_self _ (by decide)) (Int.ofNat_le.mpr hF), by decide⟩
  have a2 : max ((sp : Int) - 32) 0 ≤ (sp : Int) := Int.max_le.mpr ⟨Int.sub_le_self _ (by decide), Int.natCast_nonneg _⟩
  have h := Int.ofNat_lt.mpr n1
  refine ib_pos (Int.le_trans (by decide) (Int.le_max_right _ _)) (Int.max_lt.mpr ⟨?_, by decide⟩)
  generalize max (((bits : Nat) : Int) - 1) 0 = X at *
  generalize max ((sp : Int) - 32) 0 = Y at *
  clear hF n1
  omega
theorem jo_none {x y : Int} (h : x = 2) (h2 : (y + 22).fmod 67 = 0) : none = joM x y := by unfold joM; rw [if_pos ⟨h, h2⟩]
theorem jo_cond {x y : Int} {b : Bool} (h : (x == 2 && y == 22) = b) : (x = 2 ∧ y = 22) ↔ b = true := by
  rw [← h, Bool.and_eq_true, beq_iff_eq, beq_iff_eq]
theorem jo_dbl {x y : Int} (h2 : ¬ (x = 2 ∧ (y + 22).fmod 67 = 0)) (h : (x == 2 && y == 22) = true) : some ((((3 * x * x * (pmod (2 * y) 65 67 : Int)).fmod 67) * ((3 * x * x * (pmod (2 * y) 65 67 : Int)).fmod 67) - x - 2).fmod 67, (((3 * x * x * (pmod (2 * y) 65 67 : Int)).fmod 67) * (x - (((3 * x * x * (pmod (2 * y) 65 67 : Int)).fmod 67) * ((3 * x * x * (pmod (2 * y) 65 67 : Int)).fmod 67) - x - 2).fmod 67) - y).fmod 67) = joM x y := by
  unfold joM; rw [if_neg h2, if_pos ((jo_cond h).mpr rfl)]
theorem jo_far {x y : Int} (h2 : ¬ (x = 2 ∧ (y + 22).fmod 67 = 0)) (h : (x == 2 && y == 22) = false) : some (((((22 - y) * (pmod (2 - x) 65 67 : Int)).fmod 67) * (((22 - y) * (pmod (2 - x) 65 67 : Int)).fmod 67) - x - 2).fmod 67, ((((22 - y) * (pmod (2 - x) 65 67 : Int)).fmod 67) * (x - ((((22 - y) * (pmod (2 - x) 65 67 : Int)).fmod 67) * (((22 - y) * (pmod (2 - x) 65 67 : Int)).fmod 67) - x - 2).fmod 67) - y).fmod 67) = joM x y := by
  unfold joM; rw [if_neg h2, if_neg (fun h9 => by have := (jo_cond h).mp h9; cases this)]
theorem lrResA' {l : List UInt8} {P : Int} (hz : Sz l) (hP : P = lrPx l) (h : 10000000 < P) : LrRes l P .none := by subst hP; exact lrResA hz h
theorem lrResB' {l x : List UInt8} {P : Int} {t : Tok} (hz : Sz l) (hP : P = lrPx l) (h : ¬ 10000000 < P) (hx : x = raO l) : LrRes l P (.bytes x.toArray t) := by subst hP; exact lrResB hz h hx
theorem ra0' {l : List UInt8} {sm : Nat} (em : beN (partL l (32 * (0 + (0 + 1 + 1))) 32) = sm) (h : (sm : Int) = 0) : ([] : List UInt8) = raO l := by subst em; exact ra0 h
theorem ra1' {l : List UInt8} {sb sp sm : Nat} (eb : beN (partL l (32 * (0 + 0)) 32) = sb) (ep : beN (partL l (32 * (0 + (0 + 1))) 32) = sp) (em : beN (partL l (32 * (0 + (0 + 1 + 1))) 32) = sm)
    (h : (sm : Int) ≠ 0) (h2 : (beN (partL l (96 + sb + sp) sm) : Int) = 0) : List.replicate (sm : Int).toNat (0 : UInt8) = raO l := by subst eb; subst ep; subst em; exact ra1 h h2
theorem ra2' {l : List UInt8} {sb sp sm r : Nat} (eb : beN (partL l (32 * (0 + 0)) 32) = sb) (ep : beN (partL l (32 * (0 + (0 + 1))) 32) = sp) (em : beN (partL l (32 * (0 + (0 + 1 + 1))) 32) = sm)
    (h : (sm : Int) ≠ 0) (h2 : (beN (partL l (96 + sb + sp) sm) : Int) ≠ 0) (hr : r = beN (partL l 96 sb) ^ beN (partL l (96 + sb) sp) % beN (partL l (96 + sb + sp) sm)) : beL (sm : Int).toNat (r : Int).toNat = raO l := by
  subst eb; subst ep; subst em
  have h1 : numL l 64 32 ≠ 0 := fun e => h (Int.ofNat_eq_zero.mpr e)
  have h3 : numL l (96 + numL l 0 32 + numL l 32 32) (numL l 64 32) ≠ 0 := fun e => h2 (Int.ofNat_eq_zero.mpr e)
  unfold raO
  rw [if_neg h1, if_neg h3, hr, Int.toNat_natCast, Int.toNat_natCast]
  rfl
theorem onefm (M : Nat) : Int.fmod 1 (M : Int) = ((1 % M : Nat) : Int) := by rw [fm (by omega)]; rfl
theorem two2 (k : Nat) : (k : Int).fmod 2 = ((k % 2 : Nat) : Int) := by rw [fm (by decide)]; rfl
end Mine
end
noncomputable section
open PySem PySem.W PySem.Spec PySem.Calls PyProof.Rows PyProof.V
namespace Mine
set_option maxRecDepth 100000
/-- the law's own table of the group -/
noncomputable def tb : Nat → Option (Int × Int)
  | 0 => none
  | k + 1 => match tb k with | none => some (2, 22) | some (x, y) => joM x y
theorem joM_in {x y a b : Int} (h : joM x y = some (a, b)) : (0 ≤ a ∧ a < 67) ∧ (0 ≤ b ∧ b < 67) := by
  unfold joM at h
  split at h
  · cases h
  · split at h <;> (injection h with h; injection h with e1 e2; rw [← e1, ← e2]; exact ⟨f67 _, f67 _⟩)
theorem tb_in {k : Nat} {a b : Int} (h : tb k = some (a, b)) : (0 ≤ a ∧ a < 67) ∧ (0 ≤ b ∧ b < 67) := by
  cases k with
  | zero => cases h
  | succ k =>
    unfold tb at h
    split at h
    · injection h with h; injection h with e1 e2; rw [← e1, ← e2]; exact ⟨⟨by decide, by decide⟩, by decide, by decide⟩
    · exact joM_in h
theorem tb_none {k : Nat} (h : tb k = none) : tb (k + 1) = some (2, 22) := by rw [tb, h]
theorem tb_some {k : Nat} {x y : Int} (h : tb k = some (x, y)) : tb (k + 1) = joM x y := by rw [tb, h]
/-- a list of the points of the table -/
def RowsIn (N : List (Addr × Obj)) (vs : List Value) : Prop := ∀ j v, vs[j]? = some v → PtAt N v (tb j)
theorem RowsIn.more {N N' : List (Addr × Obj)} {vs : List Value} (h : RowsIn N vs) (hs : ∀ q ∈ N, q ∈ N') : RowsIn N' vs := fun j v hv => (h j v hv).more hs
theorem RowsIn.push {N : List (Addr × Obj)} {vs : List Value} {v : Value} (h : RowsIn N vs) (hv : PtAt N v (tb vs.length)) : RowsIn N (vs ++ [v]) := by
  intro j u hu
  by_cases hj : j < vs.length
  · rw [List.getElem?_append_left hj] at hu
    exact h j u hu
  · have hj2 : vs.length ≤ j := by omega
    rw [List.getElem?_append_right hj2] at hu
    by_cases h0 : j - vs.length = 0
    · rw [h0] at hu
      have : j = vs.length := by omega
      rw [this]
      injection hu with hu
      rw [← hu]; exact hv
    · have h1 : j - vs.length = (j - vs.length - 1) + 1 := by omega
      rw [h1] at hu
      cases hu
def RowsAt (N : List (Addr × Obj)) (ra : Addr) : Prop := ∃ vs e, (ra, rowsO vs e) ∈ N ∧ vs.length = 79 ∧ RowsIn N vs
theorem RowsAt.more {N N' : List (Addr × Obj)} {ra : Addr} (h : RowsAt N ra) (hs : ∀ q ∈ N, q ∈ N') : RowsAt N' ra := by
  obtain ⟨vs, e, h1, h2, h3⟩ := h
  exact ⟨vs, e, hs _ h1, h2, h3.more hs⟩
theorem neData {h₀ h : Heap} {L a b : Addr} {N : List (Addr × Obj)} {o o' : Obj} (hN : News h₀ L h N) (h1 : (a, o) ∈ N) (h2 : (b, o') ∈ N) (hd : o.cls ≠ o'.cls) : a ≠ b := by
  rintro rfl
  have e1 := (hN _ h1).1
  have e2 := (hN _ h2).1
  dsimp only at e1 e2
  rw [e1] at e2
  injection e2 with e2
  exact hd (by rw [e2])
theorem neRow {h₀ h : Heap} {L a b : Addr} {N : List (Addr × Obj)} {x y : Int} {t1 t2 : Tok} {vs : List Value} {e : Nat} (hN : News h₀ L h N) (h1 : (a, tup2O x t1 y t2) ∈ N) (h2 : (b, rowsO vs e) ∈ N) : a ≠ b := neData hN h1 h2 (by intro h; injection h with h; revert h; decide)
def MuR (news : List (Addr × Obj)) (ra : Addr) (i : Nat) (led : List (Addr × Obj)) : Prop := ∃ vs v e N, led = (ra, rowsO (vs ++ [v]) e) :: N ∧ vs.length = i ∧ RowsIn N (vs ++ [v]) ∧ (∀ q ∈ N, q.1 ≠ ra) ∧ (∀ q ∈ news, q ∈ N)
theorem mu0 {news : List (Addr × Obj)} {ra : Addr} (h : ∀ p ∈ news, p.1 < ra) : MuR news ra 0 ((ra, listOf #[Value.none] 0) :: news) :=
  ⟨[], .none, 0, news, rfl, rfl, (fun j v hv => by
    cases j with
    | zero => injection hv with hv; subst hv; exact .none
    | succ j => cases hv), fun q hq => Nat.ne_of_lt (h q hq), fun _ hq => hq⟩
end Mine
end
noncomputable section
open PySem PySem.W PySem.Spec PySem.Calls PyProof.Rows PyProof.V
namespace Mine
set_option maxRecDepth 100000
section
variable {h₀ h' : Heap} {L : Addr} {x : Str} {m₀ m₂ : Str → Option Value} {I : Addr} {yy ll : Int} {s : Shared} {tk : Nat} {Q : Flow → Shared → Prop} {Rn : List (Addr × Obj) → Prop} {NN news₂ : List (Addr × Obj)}
theorem growNext (hm : ∀ y, y ≠ x → m₂ y = m₀ y) (F : Fr h₀ L h' m₂) (N : News h₀ L h' NN) (hI : (I, rgIt yy ll) ∈ NN) (hs : ∀ q ∈ news₂, q ∈ NN) (hc : ∀ q ∈ news₂, q.1 ≠ I) (hR : Rn news₂) :
    GrowEnd h₀ L x m₀ I (rgIt yy ll) Rn s Q .next { s with heap := h', toks := tk } :=
  ⟨h', tk, m₂, news₂, rfl, hm, F, cb_drop N (fun q hq => by
    rcases List.mem_cons.mp hq with rfl | hq
    · exact hI
    · exact hs q hq), hc, hR⟩
theorem muNext {news N1 N2 : List (Addr × Obj)} {ra : Addr} {vs : List Value} {v v' : Value} {e i : Nat} {p : Option (Int × Int)} (hm : ∀ y, y ≠ x → m₂ y = m₀ y) (F : Fr h₀ L h' m₂) (N : News h₀ L h' NN) (hI : (I, rgIt yy ll) ∈ NN) (hra : (ra, listOf (vs ++ [v] ++ [v']).toArray (e + 1)) ∈ NN)
    (h2 : ∀ q ∈ N2, q ∈ NN) (hc : ∀ q ∈ N2, q.1 ≠ I) (hcr : ra ≠ I) (hr2 : ∀ q ∈ N2, q.1 ≠ ra) (hl : vs.length = i) (hR : RowsIn N1 (vs ++ [v])) (h12 : ∀ q ∈ N1, q ∈ N2) (hsb : ∀ q ∈ news, q ∈ N1) (hv' : PtAt N2 v' p) (ep : p = tb (vs.length + 1)) :
    GrowEnd h₀ L x m₀ I (rgIt yy ll) (MuR news ra (i + 1)) s Q .next { s with heap := h', toks := tk } := by
  refine growNext (news₂ := (ra, rowsO (vs ++ [v] ++ [v']) (e + 1)) :: N2) hm F N hI (List.forall_mem_cons.mpr ⟨hra, h2⟩) (List.forall_mem_cons.mpr ⟨hcr, hc⟩) ⟨vs ++ [v], v', e + 1, N2, rfl, by simp; omega, (hR.more h12).push ?_, hr2, fun q hq => h12 q (hsb q hq)⟩
  rw [ep] at hv'
  simpa using hv'
end
theorem mu_end {news N : List (Addr × Obj)} {ra : Addr} (h : MuR news ra 78 N) : RowsAt N ra ∧ (∀ q ∈ news, q ∈ N) := by
  obtain ⟨vs, v, e, N1, rfl, hl, hR, _, hs⟩ := h
  exact ⟨⟨_, _, List.Mem.head _, by simp [hl], hR.more fun q hq => List.mem_cons_of_mem _ hq⟩, fun q hq => List.mem_cons_of_mem _ (hs q hq)⟩
end Mine
end
noncomputable section
open PySem PySem.W PySem.Spec PySem.Calls PyProof.Rows PyProof.V
namespace Mine
set_option maxRecDepth 100000
/-! two ways brought to one -/
def sznB (n : Int) : Bool := decide (0 ≤ n) && decide (n < 115792089237316195423570985008687907853269984665640564039457584007913129639936) && (decide (n ≤ 40) || decide (4294967296 ≤ n))
def Lt256 (n : Nat) : Prop := n < 115792089237316195423570985008687907853269984665640564039457584007913129639936
theorem sznB_is {n : Int} (h : sznB n = true) : 0 ≤ n ∧ Lt256 n.toNat ∧ Szn n.toNat := by
  unfold sznB at h
  unfold Lt256
  simp only [Bool.and_eq_true, Bool.or_eq_true, decide_eq_true_eq] at h
  unfold Szn
  omega
section
variable {prog : Program} {w : World} {A : Around} {E : Value → Shared → Prop} {s : Shared} {h₀ : Heap} {L l : Addr} {m : Str → Option Value} {news : List (Addr × Obj)} {vs : List Value} {ns : List Int} {k : Int} {u : Tok} {value slice : PySem.Expr} {Q : Value → Shared → Prop}
theorem item_tupP {P : Int → Prop} (N : News h₀ L s.heap news) (hm : (l, ({ cls := .type "tuple", data := .seq (List.toArray vs) } : Obj)) ∈ news) (hi : IntsAre vs ns) (hP : ∀ n ∈ ns, P n) (hf : ns.length ≤ 1000000) (h0 : 0 ≤ k) (h1 : k < (ns.length : Int)) (h : ∀ r t', P r → Q (.int r t') s)
    (hs : subscripted slice false (.ref l) (.int k u) = operate [.ref l, .int k u] (getItem (.ref l) (.int k u)) := by with_unfolding_all rfl) (hg : ∀ r, letTemporaryGo value (.ref l) r = pure () := by intro _; with_unfolding_all rfl) :
    wpAny (model prog w) A (subscriptTail value slice (.ref l) (.int k u)) Q E s := by
  have hlt : k.toNat < ns.length := by omega
  obtain ⟨t, hx⟩ := hi.get k.toNat ns[k.toNat] (by simp [hlt])
  have hb := hP _ (List.getElem_mem hlt)
  have hn : k < ((vs.toArray.size : Nat) : Int) := by rw [List.size_toArray, hi.length]; exact h1
  have ht : IsTup s.heap l vs.toArray := News.isTup N hm
  exact subscriptTail_builtin ht.typeIs slot_tuple_getitem.lookup (getItem_tuple ht (by omega) (by omega) (seqIndex_of h0 hn) (x := .int _ t) (by simpa using hx) (h _ _ hb)) hs hg
theorem lsh_lit {a n b : Int} {t u : Tok} (hn : 0 ≤ n) (hsz : (Builtin.Int.intBits a : Int) + n ≤ 2 ^ 27) (e : a * 2 ^ n.toNat = b) (h : Q (.int b s.toks) { s with toks := s.toks + 1 }) : wpAny (model prog w) A (binaryOp .LShift (.int a t) (.int n u)) Q E s := by
  subst e; exact lshift_int hn hsz h
end
/-- a number out of a menu, the well drawn on -/
def MidS (h₀ : Heap) (L : Addr) (m : Str → Option Value) (rest : Led) (wa wl : Addr) (s : Shared) (v : Value) (s' : Shared) : Prop :=
  ∃ n : Nat, ∃ t o' h' tk', v = .int (n : Int) t ∧ s' = { s with heap := h', toks := tk' } ∧ Fr h₀ L h' m ∧ News h₀ L h' ((wa, o') :: rest) ∧ WellO wl o' ∧ Lt256 n ∧ Szn n
theorem midS_go {h₀ : Heap} {L : Addr} {m : Str → Option Value} {rest led : Led} {wa wl : Addr} {s : Shared} {o' : Obj} {h' : Heap} {tk' : Nat} {r : Int} {t : Tok} (hr : sznB r = true) (F : Fr h₀ L h' m) (N : News h₀ L h' led) (hs : ∀ q ∈ (wa, o') :: rest, q ∈ led) (ho : WellO wl o') :
    MidS h₀ L m rest wa wl s (.int r t) { s with heap := h', toks := tk' } := by
  obtain ⟨h1, h2, h3⟩ := sznB_is hr
  exact ⟨r.toNat, t, o', h', tk', by rw [Int.toNat_of_nonneg h1], rfl, F, cb_drop N hs, ho, h2, h3⟩
theorem mid_if {prog : Program} {w : World} {A : Around} {E : Value → Shared → Prop} {s : Shared} {h₀ : Heap} {L wa wl : Addr} {o : Obj} {m : Str → Option Value} {led rest : Led} {x : Sem Value} {Q : Value → Shared → Prop}
    (F : Fr h₀ L s.heap m) (N : News h₀ L s.heap led) (P : Pick wa o led rest) (ho : WellO wl o) (h1 : wpAny (model prog w) A x (MidS h₀ L m rest wa wl s) E s)
    (h2 : ∀ (n : Nat) t o' h' tk', Lt256 n → Szn n → WellO wl o' → Fr h₀ L h' m → News h₀ L h' ((wa, o') :: rest) → Q (.int (n : Int) t) { s with heap := h', toks := tk' }) : wpAny (model prog w) A x Q E s :=
  wpAny_mono h1 (fun _ _ ⟨n, t, o', h', tk', e1, e2, F', N', ho', hn, hz⟩ => by rw [e1, e2]; exact h2 n t o' h' tk' hn hz ho' F' N') fun _ _ e => e
/-- the pieces longer or not, the well drawn on -/
def PB (_ : Nat) : Prop := True
def MidP (h₀ : Heap) (L : Addr) (m : Str → Option Value) (rest : Led) (wa wl : Addr) (b : Nat) (s : Shared) (f : Flow) (s' : Shared) : Prop :=
  ∃ l : List UInt8, ∃ t o' h' tk', f = .next ∧ s' = { s with heap := h', toks := tk' } ∧ Fr h₀ L h' (fun y => if y = Str.ofString "pieces" then some (.bytes l.toArray t) else m y) ∧ News h₀ L h' ((wa, o') :: rest) ∧ WellO wl o' ∧ l.length ≤ b
theorem midP_go {h₀ : Heap} {L : Addr} {m m' : Str → Option Value} {rest led : Led} {wa wl : Addr} {s : Shared} {o' : Obj} {h' : Heap} {tk' b : Nat} {l : List UInt8} {t : Tok} (F : Fr h₀ L h' m') (N : News h₀ L h' led) (hs : ∀ q ∈ (wa, o') :: rest, q ∈ led) (ho : WellO wl o') (hl : l.length ≤ b)
    (h1 : m' (Str.ofString "pieces") = some (.bytes l.toArray t)) (h2 : ∀ y, y ≠ Str.ofString "pieces" → m' y = m y) : MidP h₀ L m rest wa wl b s .next { s with heap := h', toks := tk' } := by
  refine ⟨l, t, o', h', tk', rfl, rfl, ?_, cb_drop N hs, ho, hl⟩
  have em : (fun y => if y = Str.ofString "pieces" then some (.bytes l.toArray t) else m y) = m' := by
    funext y
    by_cases hy : y = Str.ofString "pieces"
    · rw [if_pos hy, hy, h1]
    · rw [if_neg hy, h2 y hy]
  rw [em]; exact F
theorem mid_pieces {prog : Program} {w : World} {A : Around} {E : Value → Shared → Prop} {s : Shared} {h₀ : Heap} {L wa wl : Addr} {o : Obj} {m : Str → Option Value} {led rest : Led} {x : Sem Flow} {Q : Flow → Shared → Prop} {k : Nat}
    (F : Fr h₀ L s.heap m) (N : News h₀ L s.heap led) (P : Pick wa o led rest) (ho : WellO wl o) (hb : PB k) (h1 : wpAny (model prog w) A x (MidP h₀ L m rest wa wl (k + 40) s) E s)
    (h2 : ∀ (l : List UInt8) (t : Tok) o' h' tk', l.length ≤ k + 40 → PB (k + 40) → WellO wl o' → Fr h₀ L h' (fun y => if y = Str.ofString "pieces" then some (.bytes l.toArray t) else m y) → News h₀ L h' ((wa, o') :: rest) → Q .next { s with heap := h', toks := tk' }) : wpAny (model prog w) A x Q E s :=
  wpAny_mono h1 (fun _ _ ⟨l, t, o', h', tk', e1, e2, F', N', ho', hn⟩ => by rw [e1, e2]; exact h2 l t o' h' tk' hn trivial ho' F' N') fun _ _ e => e
theorem bigNe {I : Addr} {big news : Led} (h : ∀ q ∈ big, q.1 < I) (hs : ∀ q ∈ news, q ∈ big) : ∀ q ∈ news, q.1 ≠ I := fun q hq => Nat.ne_of_lt (h q (hs q hq))
theorem unrEnd {h₀ h' : Heap} {L I : Addr} {it : Obj} {led news' : Led} {keep : (Str → Option Value) → Led → Prop} {s₁ : Shared} {tk : Nat} {m' : Str → Option Value} (F : Fr h₀ L h' m') (N : News h₀ L h' led) (P : Pick I it led news') (off : ∀ q ∈ news', q.1 ≠ I) (r : keep m' news') :
    UnrEndW h₀ L s₁ [(I, it)] keep { s₁ with heap := h', toks := tk } :=
  ⟨h', tk, m', news', rfl, F, cb_drop N P.sub, fun p hp q hq => by rw [List.mem_singleton.mp hq]; exact off p hp, r⟩
def SzL (l : List UInt8) : Prop := ∃ a b c p, l = beL 32 a ++ beL 32 b ++ beL 32 c ++ p ∧ Szn a ∧ Szn b ∧ Szn c ∧ Lt256 a ∧ Lt256 b ∧ Lt256 c ∧ p.length ≤ 120
theorem srcAt_of {h₀ : Heap} {ax : Addr} {its : Array Value} {k : Nat} {news : Led} (hm : (ax, ({ cls := .type "list", data := .seq its k } : Obj)) ∈ news) : LCg.SrcAt h₀ ax its news := .inr ⟨_, hm, rfl, _, rfl⟩
end Mine
end
noncomputable section
open PySem PySem.W PySem.Spec PySem.Calls PyProof.Rows PyProof.V
namespace Mine
set_option maxRecDepth 100000
/-- a word of thirty-two octets -/
def WB (n : Int) : Prop := 0 ≤ n ∧ n < 115792089237316195423570985008687907853269984665640564039457584007913129639936
def wB (n : Int) : Bool := decide (0 ≤ n) && decide (n < 115792089237316195423570985008687907853269984665640564039457584007913129639936)
theorem wB_is {n : Int} (h : wB n = true) : WB n := by
  unfold wB at h
  simp only [Bool.and_eq_true, decide_eq_true_eq] at h
  exact h
def wM (n : Int) : Bool := decide (0 ≤ n) && decide (n ≤ 2 ^ 230)
theorem wM_mul {a b : Int} (h0 : 0 ≤ a) (h1 : a < 1000003) (h : wM b = true) : WB (a * b) := by
  unfold wM at h
  simp only [Bool.and_eq_true, decide_eq_true_eq] at h
  obtain ⟨b0, b1⟩ := h
  refine ⟨Int.mul_nonneg h0 b0, ?_⟩
  have h2 : a * b ≤ 1000003 * b := Int.mul_le_mul_of_nonneg_right (by omega) b0
  have h3 : 1000003 * b ≤ 1000003 * 2 ^ 230 := Int.mul_le_mul_of_nonneg_left b1 (by decide)
  exact Int.lt_of_le_of_lt (Int.le_trans h2 h3) (by decide)
theorem wb_small {n : Int} (h0 : 0 ≤ n) (h1 : n < 1000000) : WB n := ⟨h0, by omega⟩
theorem wb_79 (x : Int) : WB (x.fmod 79) := wb_small (Int.fmod_nonneg_of_pos _ (by decide)) (Int.lt_trans (Int.fmod_lt_of_pos _ (by decide)) (by decide))
theorem wb_v (y : Int) : WB (27 + y.fmod 2) := by
  have h0 := Int.fmod_nonneg_of_pos y (show (0 : Int) < 2 by decide)
  have h1 := Int.fmod_lt_of_pos y (show (0 : Int) < 2 by decide)
  exact wb_small (by omega) (by omega)
theorem ib_small {n : Int} (h0 : 0 ≤ n) (h1 : n < 1000000000) : IB 40 n := ib_of (by omega)
theorem ib_word {n : Int} (h : WB n) : IB 300 n := by
  unfold WB at h
  exact ib_of (by omega)
theorem ib_M {n : Int} (h : wM n = true) : IB 300 n := by
  unfold wM at h
  simp only [Bool.and_eq_true, decide_eq_true_eq] at h
  exact ib_of (by omega)
theorem ib_add {a b : Int} (ha : WB a) (h0 : 0 ≤ b) (h1 : b < 1000000000) : IB 300 (a + b) := by
  unfold WB at ha
  exact ib_of (by omega)
theorem ib_mod {x : Int} {Y : Nat} : IB 40 (pmod x Y 79 : Int) := by
  have := @pmod_lt x Y 79 (by decide)
  exact ib_small (by omega) (by omega)
theorem tb_pt : ∀ k, k < 78 → (tb (k + 1)).isSome = true := by decide +kernel
section
variable {prog : Program} {w : World} {A : Around} {E : Value → Shared → Prop} {s : Shared} {h₀ : Heap} {L ra : Addr} {led : Led} {k : Int} {u : Tok} {value slice : PySem.Expr} {Q : Value → Shared → Prop}
theorem item_rows0 (N : News h₀ L s.heap led) (hr : RowsAt led ra) (h0 : 0 ≤ k) (h1 : k < 79) (h : ∀ v, PtAt led v (tb k.toNat) → Q v s)
    (hs : subscripted slice false (.ref ra) (.int k u) = operate [.ref ra, .int k u] (getItem (.ref ra) (.int k u)) := by with_unfolding_all rfl) (hg : ∀ r, letTemporaryGo value (.ref ra) r = pure () := by intro _; with_unfolding_all rfl) :
    wpAny (model prog w) A (subscriptTail value slice (.ref ra) (.int k u)) Q E s := by
  obtain ⟨vs, e, hm, hl, hR⟩ := hr
  have hlt : k.toNat < vs.length := by omega
  exact item_list (News.isList N hm) h0 (by omega) (x := vs[k.toNat]) (by simp [hlt]) (h _ (hR _ _ (by simp [hlt]))) hs hg
theorem item_rows (N : News h₀ L s.heap led) (hr : RowsAt led ra) (h0 : 1 ≤ k) (h1 : k < 79) (h : ∀ a x y tx ty, tb k.toNat = some (x, y) → (a, tup2O x tx y ty) ∈ led → (0 ≤ x ∧ x < 67) → (0 ≤ y ∧ y < 67) → Q (.ref a) s)
    (hs : subscripted slice false (.ref ra) (.int k u) = operate [.ref ra, .int k u] (getItem (.ref ra) (.int k u)) := by with_unfolding_all rfl) (hg : ∀ r, letTemporaryGo value (.ref ra) r = pure () := by intro _; with_unfolding_all rfl) :
    wpAny (model prog w) A (subscriptTail value slice (.ref ra) (.int k u)) Q E s := by
  refine item_rows0 N hr (by omega) h1 (fun v hv => ?_) hs hg
  have h2 := tb_pt (k.toNat - 1) (by omega)
  have e : k.toNat - 1 + 1 = k.toNat := by omega
  rw [e] at h2
  generalize hp : tb k.toNat = p at hv h2
  cases hv with
  | none => cases h2
  | some hm px py => exact h _ _ _ _ _ hp hm px py
end
/-- a word out of a menu or drawn -/
def MidW (h₀ : Heap) (L : Addr) (m : Str → Option Value) (rest : Led) (wa wl : Addr) (s : Shared) (v : Value) (s' : Shared) : Prop :=
  ∃ n t o' h' tk', v = .int n t ∧ s' = { s with heap := h', toks := tk' } ∧ Fr h₀ L h' m ∧ News h₀ L h' ((wa, o') :: rest) ∧ WellO wl o' ∧ WB n
theorem midW_go {h₀ : Heap} {L : Addr} {m : Str → Option Value} {rest led : Led} {wa wl : Addr} {s : Shared} {o' : Obj} {h' : Heap} {tk' : Nat} {r : Int} {t : Tok} (hr : WB r) (F : Fr h₀ L h' m) (N : News h₀ L h' led) (hs : ∀ q ∈ (wa, o') :: rest, q ∈ led) (ho : WellO wl o') :
    MidW h₀ L m rest wa wl s (.int r t) { s with heap := h', toks := tk' } := ⟨r, t, o', h', tk', rfl, rfl, F, cb_drop N hs, ho, hr⟩
theorem mid_w {prog : Program} {w : World} {A : Around} {E : Value → Shared → Prop} {s : Shared} {h₀ : Heap} {L wa wl : Addr} {o : Obj} {m : Str → Option Value} {led rest : Led} {x : Sem Value} {Q : Value → Shared → Prop}
    (F : Fr h₀ L s.heap m) (N : News h₀ L s.heap led) (P : Pick wa o led rest) (ho : WellO wl o) (h1 : wpAny (model prog w) A x (MidW h₀ L m rest wa wl s) E s)
    (h2 : ∀ n t o' h' tk', WB n → WellO wl o' → Fr h₀ L h' m → News h₀ L h' ((wa, o') :: rest) → Q (.int n t) { s with heap := h', toks := tk' }) : wpAny (model prog w) A x Q E s :=
  wpAny_mono h1 (fun _ _ ⟨n, t, o', h', tk', e1, e2, F', N', ho', hn⟩ => by rw [e1, e2]; exact h2 n t o' h' tk' hn ho' F' N') fun _ _ e => e
theorem pow_lit {prog : Program} {w : World} {A : Around} {E : Value → Shared → Prop} {s : Shared} {Q : Value → Shared → Prop} {a n b : Int} {t u : Tok} (hn : 0 ≤ n) (hn2 : n ≤ 1000000) (ha : a.natAbs < 2 ^ 64) (e : a ^ n.toNat = b) (h : Q (.int b s.toks) { s with toks := s.toks + 1 }) : wpAny (model prog w) A (binaryOp .Pow (.int a t) (.int n u)) Q E s := by
  subst e; exact pow_int_small hn hn2 ha h
end Mine
end
noncomputable section
open PySem PySem.W PySem.Spec PySem.Calls PyProof.Rows PyProof.V
namespace Mine
set_option maxRecDepth 100000
/-! what the law's signer tells -/
def homeB (r par k : Int) : Bool := match tb k.toNat with | some (x, y) => decide (x = r) && decide (y.fmod 2 = par) | none => false
def homeG (r par : Int) (l : List Int) (k : Int) : List Int := if homeB r par k then l ++ [k] else l
def homes (r par : Int) : List Int := (rangeKs 1 78).foldl (homeG r par) []
theorem homeG_yes {r par k x y : Int} {l : List Int} (e : tb k.toNat = some (x, y)) (h1 : x = r) (h2 : y.fmod 2 = par) : homeG r par l k = l ++ [k] := by
  unfold homeG homeB; rw [e]; simp [h1, h2]
theorem homeG_no1 {r par k x y : Int} {l : List Int} (e : tb k.toNat = some (x, y)) (h1 : x ≠ r) : homeG r par l k = l := by
  unfold homeG homeB; rw [e]; simp [h1]
theorem homeG_no2 {r par k x y : Int} {l : List Int} (e : tb k.toNat = some (x, y)) (h2 : y.fmod 2 ≠ par) : homeG r par l k = l := by
  unfold homeG homeB; rw [e]; simp [h2]
theorem homeG_len (r par : Int) : KPfGrows (homeG r par) := fun l k => by
  unfold homeG
  split <;> simp
def hmCheck (r par : Int) : Bool := match liM r par, homes r par with
  | none, [] => true
  | some p, [h] => decide (1 ≤ h) && decide (h < 79) && decide (tb h.toNat = some p)
  | _, _ => false
theorem hm_all : ∀ r : Nat, r < 78 → ∀ p : Nat, p < 2 → hmCheck ((r : Int) + 1) (p : Int) = true := by decide +kernel
theorem hm_is {r par : Int} (h0 : 0 < r) (h1 : r < 79) (hp : par = 0 ∨ par = 1) : (liM r par = none ∧ homes r par = []) ∨ ∃ p h, liM r par = some p ∧ homes r par = [h] ∧ 1 ≤ h ∧ h < 79 ∧ tb h.toNat = some p := by
  have h := hm_all (r.toNat - 1) (by omega) par.toNat (by omega)
  have e1 : ((r.toNat - 1 : Nat) : Int) + 1 = r := by omega
  have e2 : ((par.toNat : Nat) : Int) = par := by omega
  rw [e1, e2] at h
  unfold hmCheck at h
  split at h
  · rename_i a b; exact .inl ⟨a, b⟩
  · rename_i p hh a b
    simp only [Bool.and_eq_true, decide_eq_true_eq] at h
    exact .inr ⟨p, hh, a, b, h.1.1, h.1.2, h.2⟩
  · cases h
def sgPt (l : List UInt8) : Option (Int × Int) :=
  if ((numL l 32 32 : Int) = 27 ∨ (numL l 32 32 : Int) = 28) ∧ (0 < (numL l 64 32 : Int) ∧ (numL l 64 32 : Int) < 79) ∧ (0 < (numL l 96 32 : Int) ∧ (numL l 96 32 : Int) < 79) then
    match homes (numL l 64 32 : Int) ((numL l 32 32 : Int) - 27) with
    | [] => none
    | h :: _ => tb ((((numL l 96 32 : Int) * h - (numL l 0 32 : Int)) * (pmod (numL l 64 32 : Int) 77 79 : Int)).fmod 79).toNat
  else none
def sgOut (ks : List Int) (l : List UInt8) : List UInt8 := match sgPt l with | none => [] | some (x, y) => List.replicate 12 0 ++ (ofN (dgN ks (beN (1 :: ptKey x y) : Int))).drop 12
def sgK (ks : List Int) (l : List UInt8) : List Int := match sgPt l with | none => ks | some (x, y) => dgK ks (beN (1 :: ptKey x y) : Int)
theorem sg_v {l : List UInt8} (h : (([27, 28] : List Int).any fun x => x == (beN (partL l (32 * (0 + (0 + 1))) 32) : Int)) = false) : sgPt l = none := by unfold sgPt; exact if_neg (fun c => parNo h c.1)
theorem sg_r0 {l : List UInt8} (h : ¬ (0 : Int) < (beN (partL l (32 * (0 + (0 + 1 + 1))) 32) : Int)) : sgPt l = none := by unfold sgPt; exact if_neg (fun c => h c.2.1.1)
theorem sg_r1 {l : List UInt8} (h : ¬ (beN (partL l (32 * (0 + (0 + 1 + 1))) 32) : Int) < 79) : sgPt l = none := by unfold sgPt; exact if_neg (fun c => h c.2.1.2)
theorem sg_s0 {l : List UInt8} (h : ¬ (0 : Int) < (beN (partL l (32 * (0 + (0 + 1 + 1 + 1))) 32) : Int)) : sgPt l = none := by unfold sgPt; exact if_neg (fun c => h c.2.2.1)
theorem sg_s1 {l : List UInt8} (h : ¬ (beN (partL l (32 * (0 + (0 + 1 + 1 + 1))) 32) : Int) < 79) : sgPt l = none := by unfold sgPt; exact if_neg (fun c => h c.2.2.2)
theorem sgBackN {w : World} {o : Obj} {ks : List Int} {kd : Addr} {l : List UInt8} {t : Tok} {news : List (Addr × Obj)} (ho : DigO w o ks) (h : sgPt l = none) :
    ∃ o' t', Value.bytes #[] t = .bytes (sgOut ks l).toArray t' ∧ (kd, o) :: news = (kd, o') :: news ∧ DigO w o' (sgK ks l) := by
  refine ⟨o, t, ?_, rfl, ?_⟩
  · unfold sgOut; rw [h]
  · unfold sgK; rw [h]; exact ho
end Mine
end
noncomputable section
open PySem PySem.W PySem.Spec PySem.Calls PyProof.Rows PyProof.V
namespace Mine
set_option maxRecDepth 100000
/-! the law's table of the group and the text's own reckoning -/
theorem ad_tb : ∀ i, i < 79 → ∀ j, j < 79 → adM (tb i) (tb j) = tb ((i + j) % 79) := by decide +kernel
noncomputable def trB : Nat → Nat → Nat → P3 → P3 → Nat → Nat → Bool
  | 0, _, _, t, _, j, _ => decide (naM t.1 t.2.1 t.2.2 = tb j)
  | f + 1, k, b, t, h, j, st => trB f k (2 * b) t (wdM h.1 h.2.1 h.2.2) j ((2 * st) % 79) && (if k + b < 79 then trB f (k + b) (2 * b) (waM t.1 t.2.1 t.2.2 h.1 h.2.1 h.2.2) (wdM h.1 h.2.1 h.2.2) ((j + st) % 79) ((2 * st) % 79) else true)
def trP (h : Nat) : Bool := match tb h with | none => false | some (x, y) => trB 7 0 1 (1, 1, 0) (x, y, 1) 0 h
theorem trP_all : ∀ h, h < 78 → trP (h + 1) = true := by decide +kernel
theorem tiL_zero : ∀ (f : Nat) (t h : P3), tiL f 0 t h = t
  | 0, _, _ => rfl
  | _ + 1, _, _ => by unfold tiL; rw [if_pos rfl]
theorem tr_mod {j st m : Nat} : (j + m * (2 * st % 79)) % 79 = (j + 2 * m * st) % 79 := by
  rw [Nat.add_mod, Nat.mul_mod, Nat.mod_mod, ← Nat.mul_mod, ← Nat.add_mod, ← Nat.mul_assoc, Nat.mul_comm m 2]
theorem trB_is : ∀ (f k b : Nat) (t h : P3) (j st : Nat), trB f k b t h j st = true → 0 < b → j < 79 → ∀ n, n < 2 ^ f → k + b * n < 79 →
    naM (tiL f n t h).1 (tiL f n t h).2.1 (tiL f n t h).2.2 = tb ((j + n * st) % 79)
  | 0, k, b, t, h, j, st, hb, _, hj, n, hn, _ => by
    have : n = 0 := by omega
    subst this
    rw [tiL_zero, Nat.zero_mul, Nat.add_zero, Nat.mod_eq_of_lt hj]
    simpa [trB] using hb
  | f + 1, k, b, t, h, j, st, hb, h0, hj, n, hn, hk => by
    unfold trB at hb
    rw [Bool.and_eq_true] at hb
    obtain ⟨hE, hO⟩ := hb
    have hn2 : n / 2 < 2 ^ f := by rw [Nat.pow_succ] at hn; omega
    by_cases hz : n = 0
    · subst hz
      have := trB_is f k (2 * b) t _ j _ hE (by omega) hj 0 (Nat.pow_pos (by decide)) (by omega)
      rw [tiL_zero] at this ⊢
      rw [this, Nat.zero_mul, Nat.zero_mul]
    · by_cases ho : n % 2 = 1
      · have e : n = 2 * (n / 2) + 1 := by omega
        have ek : k + b + 2 * b * (n / 2) = k + b * n := by
          conv => rhs; rw [e, Nat.mul_add, Nat.mul_one, ← Nat.mul_assoc, Nat.mul_comm b 2]
          omega
        have hkb : k + b < 79 := by have := Nat.zero_le (2 * b * (n / 2)); omega
        rw [if_pos hkb] at hO
        have := trB_is f (k + b) (2 * b) _ _ _ _ hO (by omega) (Nat.mod_lt _ (by decide)) (n / 2) hn2 (by omega)
        unfold tiL
        rw [if_neg hz, if_pos ho, this, tr_mod, Nat.mod_add_mod]
        congr 2
        conv => rhs; rw [e, Nat.add_mul, Nat.one_mul]
        omega
      · have e : n = 2 * (n / 2) := by omega
        have ek : k + 2 * b * (n / 2) = k + b * n := by
          conv => rhs; rw [e, ← Nat.mul_assoc, Nat.mul_comm b 2]
        have := trB_is f k (2 * b) t _ j _ hE (by omega) hj (n / 2) hn2 (by omega)
        unfold tiL
        rw [if_neg hz, if_neg ho, this, tr_mod, ← e]
theorem tiM_is {h n : Nat} {x y : Int} (e : tb h = some (x, y)) (h0 : 1 ≤ h) (h1 : h < 79) (hn : n < 79) : tiM n x y = tb (n * h % 79) := by
  have := trP_all (h - 1) (by omega)
  rw [Nat.sub_add_cancel h0] at this
  unfold trP at this
  rw [e] at this
  have r := trB_is 7 0 1 (1, 1, 0) (x, y, 1) 0 h this (by decide) (by decide) n (by omega) (by omega)
  rw [Nat.zero_add] at r
  exact r
theorem sg_mod {s h w q : Int} (hh : 0 ≤ h) : (((s * h - w) * q).fmod 79).toNat = ((s * q % 79).toNat * h.toNat % 79 + (-w * q % 79).toNat * 1 % 79) % 79 := by
  have a0 := Int.emod_nonneg (s * q) (b := 79) (by decide)
  have b0 := Int.emod_nonneg (-w * q) (b := 79) (by decide)
  have e1 : ((s * q % 79) * h) % 79 = s * q * h % 79 := by rw [Int.mul_emod, Int.emod_emod, ← Int.mul_emod]
  have e2 : (-w * q % 79) * 1 % 79 = -w * q % 79 := by rw [Int.mul_one, Int.emod_emod]
  have e3 : s * q * h + -w * q = (s * h - w) * q := by rw [Int.sub_mul, Int.neg_mul, Int.mul_right_comm, Int.sub_eq_add_neg]
  rw [fm (by decide)]
  have e : ((((s * q % 79).toNat * h.toNat % 79 + (-w * q % 79).toNat * 1 % 79) % 79 : Nat) : Int) = ((s * h - w) * q) % 79 := by
    have ea : (((s * q % 79).toNat : Nat) : Int) = s * q % 79 := Int.toNat_of_nonneg a0
    have eb : (((-w * q % 79).toNat : Nat) : Int) = -w * q % 79 := Int.toNat_of_nonneg b0
    have eh : ((h.toNat : Nat) : Int) = h := Int.toNat_of_nonneg hh
    show (((((s * q % 79).toNat : Nat) : Int) * ((h.toNat : Nat) : Int)) % 79 + ((((-w * q % 79).toNat : Nat) : Int) * 1) % 79) % 79 = _
    rw [ea, eb, eh, e1, e2, ← Int.add_emod, e3]
  rw [← e, Int.toNat_natCast]
theorem tb_one : tb 1 = some (2, 22) := rfl
theorem n79 (x : Int) : (x % 79).toNat < 79 := by omega
/-- the law's signer and the text's recovery tell the same point -/
theorem sg_rc (l : List UInt8) : sgPt l = rcPt l := by
  unfold sgPt rcPt reM
  by_cases hv : (numL l 32 32 : Int) = 27 ∨ (numL l 32 32 : Int) = 28
  · rw [if_pos hv]
    by_cases hr : 0 < (numL l 64 32 : Int) ∧ (numL l 64 32 : Int) < 79
    · by_cases hs : 0 < (numL l 96 32 : Int) ∧ (numL l 96 32 : Int) < 79
      · rw [if_pos ⟨hv, hr, hs⟩, if_pos ⟨hr.1, hr.2, hs.1, hs.2⟩]
        rcases hm_is (par := (numL l 32 32 : Int) - 27) hr.1 hr.2 (by omega) with ⟨hA, hB⟩ | ⟨⟨x, y⟩, h, hA, hB, h1, h2, h3⟩
        · rw [hA, hB]
        · rw [hA, hB]
          show tb _ = adM (tiM _ x y) (tiM _ 2 22)
          rw [tiM_is h3 (by omega) (by omega) (n79 _), tiM_is tb_one (by decide) (by decide) (n79 _), ad_tb _ (Nat.mod_lt _ (by decide)) _ (Nat.mod_lt _ (by decide)), sg_mod (by omega)]
      · rw [if_neg (fun c => hs c.2.2), if_neg (fun c => hs c.2.2)]
    · rw [if_neg (fun c => hr c.2.1), if_neg (fun c => hr ⟨c.1, c.2.1⟩)]
  · rw [if_neg hv, if_neg (fun c => hv c.1)]
end Mine
end
noncomputable section
open PySem PySem.W PySem.Spec PySem.Calls PyProof.Rows PyProof.V
namespace Mine
set_option maxRecDepth 100000
/-! texts cut and lengthened -/
theorem beN_zeros : ∀ n, beN (List.replicate n (0 : UInt8)) = 0
  | 0 => rfl
  | n + 1 => by
    rw [List.replicate_succ', beN_append, beN_zeros n, Nat.zero_mul]; rfl
theorem beN_cut {X : List UInt8} (hX : X.length = 32) (j : Nat) : beN (padL (X.take j) 32) = beN X / 256 ^ (32 - j) * 256 ^ (32 - j) := by
  by_cases hj : j ≤ 32
  · have hl : (X.take j).length = j := by rw [List.length_take, hX]; exact Nat.min_eq_left hj
    have hd : (X.drop j).length = 32 - j := by rw [List.length_drop, hX]
    have h1 := beN_lt (X.drop j)
    rw [hd] at h1
    unfold padL
    rw [beN_append, beN_zeros, List.length_replicate, hl, Nat.add_zero]
    conv => rhs; rw [← List.take_append_drop j X, beN_append, hd]
    rw [Nat.add_comm, Nat.add_mul_div_right _ _ (Nat.pow_pos (by decide)), Nat.div_eq_of_lt h1, Nat.zero_add]
  · have e : 32 - j = 0 := by omega
    rw [e, List.take_of_length_le (by rw [hX]; exact Nat.le_of_not_le hj), Nat.pow_zero, Nat.div_one, Nat.mul_one]
    unfold padL
    rw [hX]; simp
theorem szn_cut {n : Nat} (h : Szn n) (e : Nat) : Szn (n / 256 ^ e * 256 ^ e) := by
  rcases e with _ | e
  · rw [Nat.pow_zero, Nat.div_one, Nat.mul_one]; exact h
  · rcases h with h | h
    · left
      have h1 : (256 : Nat) ^ (e + 1) ≥ 256 := by
        have := Nat.pow_le_pow_right (n := 256) (by decide) (show 1 ≤ e + 1 by omega)
        omega
      rw [Nat.div_eq_of_lt (by omega)]; omega
    · by_cases h4 : e < 4
      · right
        have : e = 0 ∨ e = 1 ∨ e = 2 ∨ e = 3 := by omega
        rcases this with rfl | rfl | rfl | rfl <;> simp only [Nat.reduceAdd, Nat.reducePow] <;> omega
      · by_cases hz : n / 256 ^ (e + 1) = 0
        · left; rw [hz]; omega
        · right
          have h1 : (256 : Nat) ^ (e + 1) ≥ 256 ^ 5 := Nat.pow_le_pow_right (by decide) (by omega)
          have h2 : 1 * 256 ^ (e + 1) ≤ n / 256 ^ (e + 1) * 256 ^ (e + 1) := Nat.mul_le_mul_right _ (Nat.pos_of_ne_zero hz)
          have h3 : (256 : Nat) ^ 5 = 1099511627776 := by decide
          omega
theorem num_first {A R : List UInt8} (hA : A.length = 32) (k : Nat) : numL ((A ++ R).take k) 0 32 = beN A / 256 ^ (32 - k) * 256 ^ (32 - k) := by
  unfold numL partL cutL
  rw [List.drop_zero, Nat.zero_add, Nat.sub_zero, List.take_take]
  have e : (A ++ R).take (min 32 k) = A.take k := by
    by_cases hk : k ≤ 32
    · rw [Nat.min_eq_right hk, List.take_append_of_le_length (by omega)]
    · rw [Nat.min_eq_left (by omega), List.take_append_of_le_length (by omega), List.take_of_length_le (by omega), List.take_of_length_le (by omega)]
  rw [e]
  exact beN_cut hA k
theorem num_next {A R : List UInt8} (hA : A.length = 32) (k q : Nat) : numL ((A ++ R).take k) (32 + q) 32 = numL (R.take (k - 32)) q 32 := by
  unfold numL partL cutL
  rw [List.take_append, hA]
  congr 2
  by_cases hk : 32 ≤ k
  · rw [List.take_of_length_le (l := A) (by rw [hA]; exact hk), ← hA, List.drop_append, List.drop_of_length_le (Nat.le_add_right _ _), List.nil_append]
    congr 1
    · omega
    · congr 1; omega
  · have e : k - 32 = 0 := by omega
    rw [e, List.take_zero, List.append_nil, List.drop_of_length_le (by rw [List.length_take]; omega)]
    simp
theorem sz_take {A B C p : List UInt8} (hA : A.length = 32) (hB : B.length = 32) (hC : C.length = 32) (a : Szn (beN A)) (b : Szn (beN B)) (c : Szn (beN C)) (k : Nat) : Sz ((A ++ (B ++ (C ++ p))).take k) := by
  refine ⟨?_, ?_, ?_⟩
  · rw [num_first hA]; exact szn_cut a _
  · have := num_next (R := B ++ (C ++ p)) hA k 0
    rw [Nat.add_zero] at this
    rw [this, num_first hB]; exact szn_cut b _
  · have h1 := num_next (R := B ++ (C ++ p)) hA k 32
    have h2 := num_next (R := C ++ p) hB (k - 32) 0
    rw [show 32 + 32 = 64 from rfl] at h1
    rw [Nat.add_zero] at h2
    rw [h1, h2, num_first hC]; exact szn_cut c _
theorem beN_word {a : Nat} (h : Lt256 a) : beN (beL 32 a) = a := by
  rw [beN_beL]; exact Nat.mod_eq_of_lt h
abbrev Bent (l l' : List UInt8) : Prop := (∃ k, l' = l.take k) ∨ l' = l ++ [7, 0, 9] ∨ l' = l
theorem bent_len {l l' : List UInt8} (h : Bent l l') : l'.length ≤ l.length + 3 := by
  rcases h with ⟨k, rfl⟩ | rfl | rfl
  · rw [List.length_take]; omega
  · simp
  · omega
theorem szL_len {l : List UInt8} (h : SzL l) : l.length ≤ 216 := by
  obtain ⟨a, b, c, p, rfl, _, _, _, _, _, _, hp⟩ := h
  simp only [List.length_append, beL_length]; omega
theorem sz_bent {l l' : List UInt8} (h : SzL l) (hb : Bent l l') : Sz l' := by
  obtain ⟨a, b, c, p, rfl, ha, hb', hc, la, lb, lc, hp⟩ := h
  have key : ∀ (q : List UInt8) (k : Nat), Sz ((beL 32 a ++ (beL 32 b ++ (beL 32 c ++ q))).take k) := fun q k =>
    sz_take (beL_length _ _) (beL_length _ _) (beL_length _ _) (by rw [beN_word la]; exact ha) (by rw [beN_word lb]; exact hb') (by rw [beN_word lc]; exact hc) k
  rcases hb with ⟨k, rfl⟩ | rfl | rfl
  · have := key p k
    simpa only [List.append_assoc] using this
  · have := key (p ++ [7, 0, 9]) (beL 32 a ++ (beL 32 b ++ (beL 32 c ++ (p ++ [7, 0, 9])))).length
    rw [List.take_length] at this
    simpa only [List.append_assoc] using this
  · have := key p (beL 32 a ++ (beL 32 b ++ (beL 32 c ++ p))).length
    rw [List.take_length] at this
    simpa only [List.append_assoc] using this
/-! the digest's octets -/
theorem leL_beN : ∀ M : List UInt8, leL M.length (beN M.reverse) = M
  | [] => rfl
  | b :: M => by
    have hb : b.toNat < 256 := b.toNat_lt
    have e1 : beN [b] = b.toNat := by show 0 * 256 + b.toNat = _; omega
    rw [List.reverse_cons, beN_append, List.length_cons, leL, e1]
    have e2 : (beN M.reverse * 256 ^ [b].length + b.toNat) % 256 = b.toNat := by
      exact Nat.mul_add_mod_of_lt hb
    have e3 : (beN M.reverse * 256 ^ [b].length + b.toNat) / 256 = beN M.reverse := by
      show (beN M.reverse * 256 + b.toNat) / 256 = _
      rw [Nat.add_comm, Nat.add_mul_div_right _ _ (by decide), Nat.div_eq_of_lt hb, Nat.zero_add]
    rw [e2, e3, leL_beN M]
    congr 1
    exact UInt8.ofNat_toNat
theorem beL_beN (L : List UInt8) : beL L.length (beN L) = L := by
  have := leL_beN L.reverse
  rw [List.reverse_reverse, List.length_reverse] at this
  unfold beL
  rw [this, List.reverse_reverse]
theorem addr_octets {X : List UInt8} (hX : X.length = 32) : beL 32 ((beN X : Int) % 1461501637330902918203684832716283019655932542976).toNat = List.replicate 12 0 ++ X.drop 12 := by
  have hd : (X.drop 12).length = 20 := by rw [List.length_drop, hX]
  have h1 := beN_lt (X.drop 12)
  rw [hd] at h1
  have h20 : (256 : Nat) ^ 20 = 1461501637330902918203684832716283019655932542976 := by decide +kernel
  have e : beN X = beN (X.take 12) * 256 ^ 20 + beN (X.drop 12) := by
    conv => lhs; rw [← List.take_append_drop 12 X, beN_append, hd]
  have e2 : ((beN X : Int) % 1461501637330902918203684832716283019655932542976).toNat = beN (X.drop 12) := by
    have h3 : (beN X : Int) % 1461501637330902918203684832716283019655932542976 = ((beN X % 256 ^ 20 : Nat) : Int) := by rw [h20]; rfl
    rw [h3, Int.toNat_natCast, e, Nat.add_comm, Nat.add_mul_mod_self_right, Nat.mod_eq_of_lt h1]
  rw [e2]
  have h4 := beL_beN (List.replicate 12 0 ++ X.drop 12)
  rw [beN_append, beN_zeros, Nat.zero_mul, Nat.zero_add, List.length_append, List.length_replicate, hd] at h4
  exact h4
theorem dgN_again (ks : List Int) (k : Int) : dgN (dgK ks k) k = dgN ks k := by
  unfold dgK
  split
  · rfl
  · rename_i h
    have hn : ks.findIdx? (fun x => decide (x = k)) = none := by
      rw [List.findIdx?_eq_none_iff]
      intro x hx
      simp only [decide_eq_false_iff_not]
      rintro rfl; exact h hx
    unfold dgN
    rw [hn, List.findIdx?_append, hn]
    simp [List.findIdx?_cons]
theorem dgK_again (ks : List Int) (k : Int) : dgK (dgK ks k) k = dgK ks k := by
  have h : k ∈ dgK ks k := by unfold dgK; split; · assumption
                              · simp
  show (if k ∈ dgK ks k then dgK ks k else dgK ks k ++ [k]) = _
  rw [if_pos h]
theorem dgK_len (ks : List Int) (k : Int) : (dgK ks k).length ≤ ks.length + 1 := by
  unfold dgK; split <;> simp
theorem sgK_len (ks : List Int) (l : List UInt8) : (sgK ks l).length ≤ ks.length + 1 := by
  unfold sgK; split
  · omega
  · exact dgK_len _ _
theorem rc_again {ks : List Int} {l : List UInt8} (h : sgPt l = rcPt l) : rcOut (sgK ks l) l = sgOut ks l ∧ rcK (sgK ks l) l = sgK ks l := by
  unfold rcOut rcK sgOut sgK
  rw [← h]
  cases sgPt l with
  | none => exact ⟨rfl, rfl⟩
  | some p =>
    obtain ⟨x, y⟩ := p
    dsimp only
    refine ⟨?_, dgK_again _ _⟩
    unfold addrOf
    rw [dgN_again]
    exact addr_octets (ofN_length _)
/-! what the law draws -/
abbrev drO (ad : Int) (t1 : Tok) (l : List UInt8) (t2 : Tok) (P : Int) (t3 : Tok) (D : Value) : Obj := { cls := .type "tuple", data := .seq #[.int ad t1, .bytes l.toArray t2, .int P t3, D] }
def DrR (ks : List Int) (l : List UInt8) (ad P : Int) (D : Value) (ks' : List Int) : Prop :=
  (ad = 5 ∧ l.length ≤ 300 ∧ Sz l ∧ LrRes l P D ∧ ks' = ks) ∨ (ad = 1 ∧ l.length ≤ 300 ∧ P = 3000 ∧ (∃ t, D = .bytes (sgOut ks l).toArray t) ∧ ks' = sgK ks l) ∨
  (ad = 4 ∧ l.length ≤ 300 ∧ P = 15 + 3 * (((l.length + 31) / 32 : Nat) : Int) ∧ (∃ t, D = .bytes l.toArray t) ∧ ks' = ks) ∨ ((ad ≠ 1 ∧ ad ≠ 4 ∧ ad ≠ 5) ∧ l.length ≤ 300 ∧ P = -1 ∧ (∃ t, D = .bytes #[] t) ∧ ks' = ks)
theorem drR5 {ks : List Int} {l : List UInt8} {P : Int} {D : Value} (h1 : l.length ≤ 300) (h2 : Sz l) (h3 : LrRes l P D) : DrR ks l 5 P D ks := .inl ⟨rfl, h1, h2, h3, rfl⟩
theorem drR1 {ks : List Int} {l : List UInt8} {t : Tok} (h1 : l.length ≤ 300) : DrR ks l 1 3000 (.bytes (sgOut ks l).toArray t) (sgK ks l) := .inr (.inl ⟨rfl, h1, rfl, ⟨t, rfl⟩, rfl⟩)
theorem drR4 {ks : List Int} {l : List UInt8} {t : Tok} {P : Int} (h1 : l.length ≤ 300) (h2 : P = 15 + 3 * ((l.length : Int) + 31).fdiv 32) : DrR ks l 4 P (.bytes l.toArray t) ks := .inr (.inr (.inl ⟨rfl, h1, by rw [h2, fd (by decide)]; rfl, ⟨t, rfl⟩, rfl⟩))
theorem drR0 {ks : List Int} {l : List UInt8} {t : Tok} {ad : Int} (h1 : l.length ≤ 300) (h : (ad != 1 && ad != 4 && ad != 5) = true) : DrR ks l ad (-1) (.bytes #[] t) ks := by
  refine .inr (.inr (.inr ⟨?_, h1, rfl, ⟨t, rfl⟩, rfl⟩))
  simpa [and_assoc] using h
end Mine
end
noncomputable section
open PySem PySem.W PySem.Spec PySem.Calls PyProof.Rows PyProof.V
namespace Mine
set_option maxRecDepth 100000
/-! the law's ledger, the well and the digest's table ahead of all else -/
theorem neObj {h₀ h : Heap} {L a b : Addr} {N : List (Addr × Obj)} {o o' : Obj} (hN : News h₀ L h N) (h1 : (a, o) ∈ N) (h2 : (b, o') ∈ N) (hd : o ≠ o') : a ≠ b := by
  rintro rfl
  have e1 := (hN _ h1).1
  have e2 := (hN _ h2).1
  dsimp only at e1 e2
  rw [e1] at e2
  injection e2 with e2
  exact hd e2
theorem neWell {wl wa a : Addr} {o o1 : Obj} {h₀ h : Heap} {L : Addr} {N : List (Addr × Obj)} (ho : WellO wl o) (hN : News h₀ L h N) (h1 : (a, o1) ∈ N) (h2 : (wa, o) ∈ N) (hc : o1.cls ≠ .type "list") : a ≠ wa := by
  refine neObj hN h1 h2 ?_
  rintro rfl
  obtain ⟨p, tp, q, tq, e, rfl, _⟩ := ho
  exact hc rfl
theorem neDig {w : World} {kd a : Addr} {ks : List Int} {o o1 : Obj} {h₀ h : Heap} {L : Addr} {N : List (Addr × Obj)} {es : Array Value} {ee : Nat} (ho : DigO w o ks) (hN : News h₀ L h N) (h1 : (a, o1) ∈ N) (h2 : (kd, o) ∈ N) (hc : o1.data = .seq es ee) : a ≠ kd := by
  refine neObj hN h1 h2 ?_
  rintro rfl
  obtain ⟨kvs, ⟨es, ep, _, hd, _⟩, _⟩ := ho
  rw [hc] at hd
  cases hd
theorem tup_cls : (.type "tuple" : Value) ≠ .type "list" := by intro h; injection h with h; revert h; decide
theorem PtAt.flt {w : World} {ks : List Int} {wa wl kd : Addr} {o ko : Obj} {h₀ h : Heap} {L : Addr} {N R : List (Addr × Obj)} {v : Value} {p : Option (Int × Int)} (hW : WellO wl o) (hD : DigO w ko ks) (hN : News h₀ L h N) (h1 : (wa, o) ∈ N) (h2 : (kd, ko) ∈ N)
    (hs : ∀ q ∈ N, q.1 ≠ wa → q.1 ≠ kd → q ∈ R) (hp : PtAt N v p) : PtAt R v p := by
  cases hp with
  | none => exact .none
  | some hm hx hy => exact .some (hs _ hm (neWell hW hN hm h1 tup_cls) (neDig hD hN hm h2 rfl)) hx hy
theorem RowsAt.flt {w : World} {ks : List Int} {wa wl kd ra : Addr} {o ko : Obj} {h₀ h : Heap} {L : Addr} {N R : List (Addr × Obj)} (hW : WellO wl o) (hD : DigO w ko ks) (hN : News h₀ L h N) (h1 : (wa, o) ∈ N) (h2 : (kd, ko) ∈ N)
    (hs : ∀ q ∈ N, q.1 ≠ wa → q.1 ≠ kd → q ∈ R) (hr : RowsAt N ra) : RowsAt R ra := by
  obtain ⟨vs, e, hm, hl, hR⟩ := hr
  refine ⟨vs, e, hs _ hm (neObj hN hm h1 ?_) (neDig hD hN hm h2 rfl), hl, fun j v hv => (hR j v hv).flt hW hD hN h1 h2 hs⟩
  rintro rfl
  obtain ⟨p, tp, q, tq, e', he, _⟩ := hW
  have hd := congrArg Obj.data he
  dsimp only [rowsO] at hd
  injection hd with hd
  have hz := congrArg Array.size hd
  rw [List.size_toArray, hl] at hz
  cases hz
theorem law_ledger {w : World} {wa wl kd st dg cu ra x : Addr} {ko xo : Obj} {h₀ h : Heap} {L : Addr} {N M : List (Addr × Obj)} {t t' : Tok} {ys : List Value} {sc : List Int} (hN : News h₀ L h N) (hs : ∀ q ∈ (kd, ko) :: M, q ∈ N) (hr : RowsAt N ra)
    (hst : SetAt w.params M st dg cu kd) (hne : ∀ q ∈ M, q.1 ≠ kd) (hdo : DigO w ko []) (hsb : ∀ q ∈ [(wa, listOf #[.ref wl, .int 0 t, .int 41 t'] 0), (wl, LCg.lst ys), (x, xo)], q ∈ M)
    (hI : IntsAre ys (List.map (fun k => k.fmod 2147483647) (List.take 60 sc))) (hlt : wl ≠ wa) :
    ∃ R o, WellO wl o ∧ News h₀ L h ((wa, o) :: (kd, ko) :: R) ∧ WlAt R wl ∧ (∀ q ∈ R, q.1 ≠ wa) ∧ (∀ q ∈ R, q.1 ≠ kd) ∧ wa ≠ kd ∧ kd ≠ wa ∧ RowsAt R ra ∧ SetAt w.params R st dg cu kd := by
  have hW : WellO wl (listOf #[.ref wl, .int 0 t, .int 41 t'] 0) := ⟨0, t, 41, t', 0, rfl, by decide, by decide, by decide⟩
  have m1 := hsb _ (List.Mem.head _)
  have m2 := hsb _ (List.Mem.tail _ (List.Mem.head _))
  have n1 := hs _ (List.Mem.tail _ m1)
  have n2 := hs _ (List.Mem.tail _ m2)
  have nk := hs _ (List.Mem.head _)
  have w1 : wa ≠ kd := hne _ m1
  have key : ∀ q ∈ N, q.1 ≠ wa → q.1 ≠ kd → q ∈ N.filter (fun q => decide (q.1 ≠ wa ∧ q.1 ≠ kd)) := fun q hq a b => List.mem_filter.mpr ⟨hq, decide_eq_true ⟨a, b⟩⟩
  have back : ∀ q ∈ N.filter (fun q => decide (q.1 ≠ wa ∧ q.1 ≠ kd)), q ∈ N ∧ q.1 ≠ wa ∧ q.1 ≠ kd := fun q hq => ⟨(List.mem_filter.mp hq).1, of_decide_eq_true (List.mem_filter.mp hq).2⟩
  generalize N.filter (fun q => decide (q.1 ≠ wa ∧ q.1 ≠ kd)) = R at key back
  have kM : ∀ q ∈ M, q.2.cls ≠ .type "list" → q ∈ R := fun q hq hc => key q (hs _ (List.Mem.tail _ hq)) (neWell (a := q.1) (o1 := q.2) hW hN (hs _ (List.Mem.tail _ hq)) n1 hc) (hne _ hq)
  refine ⟨R, _, hW, ?_, ?_, fun q hq => (back q hq).2.1, fun q hq => (back q hq).2.2, w1, fun e => w1 e.symm, hr.flt hW hdo hN n1 nk key, ?_⟩
  · intro q hq
    rcases List.mem_cons.mp hq with rfl | hq
    · exact hN _ n1
    · rcases List.mem_cons.mp hq with rfl | hq
      · exact hN _ nk
      · exact hN _ (back q hq).1
  · refine ⟨ys, _, _, key _ n2 hlt (hne _ m2), hI, ?_, ?_⟩
    · intro n hn
      obtain ⟨k, _, rfl⟩ := List.mem_map.mp hn
      rw [Int.fmod_eq_emod_of_nonneg _ (by decide)]
      omega
    · rw [List.length_map, List.length_take]; omega
  · obtain ⟨⟨sd, u1, u2, u3, u4, u5, u6, u7, u8, a1, a2⟩, ⟨cd, g, v1, v2, v3, v4, v5, v6, v7, v8, v9, b1, b2, b3⟩, ⟨dd, t9, c1, c2⟩⟩ := hst
    exact ⟨⟨sd, u1, u2, u3, u4, u5, u6, u7, u8, kM _ a1 (by intro h; cases h), kM _ a2 (by intro h; injection h with h; revert h; decide)⟩, ⟨cd, g, v1, v2, v3, v4, v5, v6, v7, v8, v9, kM _ b1 (by intro h; cases h), kM _ b2 (by intro h; injection h with h; revert h; decide), kM _ b3 tup_cls⟩, ⟨dd, t9, kM _ c1 (by intro h; cases h), kM _ c2 (by intro h; injection h with h; revert h; decide)⟩⟩
end Mine
end
noncomputable section
open PySem PySem.W PySem.Spec PySem.Calls PyProof.Rows PyProof.V
namespace Mine
set_option maxRecDepth 100000
set_option maxHeartbeats 8000000
local macro_rules | `(tactic| walk_at $s) => do let k := Lean.Syntax.mkStrLit ("M " ++ s.getString); `(tactic| k_extra $k)
local macro_rules | `(tactic| k_room) => `(tactic| k_extra "MINE t k_room")
local macro_rules | `(tactic| k_units) => `(tactic| k_extra "MINE t k_units")
local macro_rules | `(tactic| k_mem) => `(tactic| k_extra "MINE t k_mem")
local macro_rules | `(tactic| k_all) => `(tactic| k_extra "MINE t k_all")
local macro_rules | `(tactic| ktr_room) => `(tactic| k_extra "MINE t ktr_room")
local macro_rules | `(tactic| ktr_units) => `(tactic| k_extra "MINE t ktr_units")
local macro_rules | `(tactic| k_ne) => `(tactic| k_extra "MINE t k_ne")
local macro_rules | `(tactic| k_head) => `(tactic| k_extra "MINE t k_head")
theorem lines_C1 : True := by
  w_top off
  k_with_none
  k_with "MINE len" => (((try simp only [List.length_append, List.length_take, List.length_drop, List.length_replicate, List.length_cons, List.length_nil, cutL_length, beL_length, leL_length, partL_length, KBa_byteArr_length, List.length_map, rangeKs_length] at *); omega))
  k_with "MINE num" => (first | omega | assumption | (simp only [Int.reduceToNat, Int.reducePow, Int.reduceMul, Int.fmod_eq_emod_of_nonneg, Int.reduceLE]; omega) | k_extra "MINE len")
  k_with "M call type:bytes" => ((k_here; (with_reducible show wpAny _ _ (call (Value.type "bytes") [Value.int _ _]) _ _ _); refine' bz_call ?h0q2 ?hNq2 ?_; (case h0q2 => k_extra "MINE num"); (case hNq2 => k_extra "MINE num"); intro _ _))
  k_with "M call builtin:len" => ((k_here; (with_reducible show wpAny _ _ (call (Value.builtin "len") [Value.bytes (List.toArray _) _]) _ _ _); refine' len_L ?h0q3 ?_; (case h0q3 => k_extra "MINE num"); intro _ _))
  k_with "M binaryOp Add bytes bytes" => ((k_here; (with_reducible show wpAny _ _ (binaryOp Operator.Add (Value.bytes (List.toArray _) _) (Value.bytes (List.toArray _) _)) _ _ _); refine' add_L ?h0q4 ?_; (case h0q4 => k_extra "MINE num"); intro _ _))
  k_with "M call ref" => ((k_here; (with_reducible show wpAny _ _ (call (Value.ref _) [Value.bytes (List.toArray _) _, Value.str _ _]) _ _ _); kfb_any; k_dflt (refine' from_big ?h1q5 ?h2q5 ?h3q5 ?_; (case h1q5 => k_asm); (case h2q5 => k_mem); (case h3q5 => k_extra "MINE num")); intro _ _))
  k_with "M subscriptTail" => ((k_here; (with_reducible show wpAny _ _ (subscriptTail _ (Expr.Slice _ _ none _) (Value.bytes (List.toArray _) _) (Value.ref _)) _ _ _); (with_reducible rename Fr _ _ _ _ => F'); (with_reducible rename News _ _ _ _ => N'); (first | (refine' slice_ab (s := ⟨_, _, _, _, _⟩) F' N' ?aq6 ?bq6 ?zq6 ?_; (case aq6 => k_extra "MINE num"); (case bq6 => k_extra "MINE num"); (case zq6 => k_extra "MINE num")) | (refine' slice_to (s := ⟨_, _, _, _, _⟩) F' N' ?bq6 ?zq6 ?_; (case bq6 => k_extra "MINE num"); (case zq6 => k_extra "MINE num")) | (refine' slice_from (s := ⟨_, _, _, _, _⟩) F' N' ?aq6 ?zq6 ?_; (case aq6 => k_extra "MINE num"); (case zq6 => k_extra "MINE num"))); intro _ _ _ F' N'))
  k_with "M call builtin:int.to_bytes" => ((k_here; (with_reducible show wpAny _ _ (call (Value.builtin "int.to_bytes") [Value.int _ _, Value.int _ _, Value.str _ _]) _ _ _); (first | (refine' to_bigI ?aq7 ?cq7 ?bq7 ?dq7 ?_; (case aq7 => k_extra "MINE num"); (case cq7 => k_extra "MINE num"); (case bq7 => k_extra "MINE num"); (case dq7 => k_extra "MINE fits")) | (refine' to_littleI ?aq7 ?cq7 ?bq7 ?dq7 ?_; (case aq7 => k_extra "MINE num"); (case cq7 => k_extra "MINE num"); (case bq7 => k_extra "MINE num"); (case dq7 => k_extra "MINE fits"))); intro _ _))
  k_with "MINE fits" => (first | assumption | exact fits_num (by assumption) | (simp only [Int.reduceToNat, Nat.reducePow]; omega) | (simp only [Int.reduceToNat, Nat.reducePow, Int.reducePow, Int.reduceMul, Int.fmod_eq_emod_of_nonneg, Int.reduceLE]; omega))
  k_with "MINE enter" => ((unfold Fn; k_fill; intro p loose mean mg mb dp un gd cn cs a ccd cl outer A₀ base h₀ L m hp₀ gs₀ dr₀ tk₀ os₀ Q E B F X N T hk hd hu hret; refine wpAny_call ?_; k_dflt ktr_enter))
  k_with "MINE use" => (((case k1 => k_asm); (case k2 => k_asm); (case k3 => k_asm); (case k4 => k_asm); (case k5 => k_asm); (case kK => first | exact rfl | assumption); (case kd => ktr_room); (case ku => ktr_units)))
  k_with "M call builtin:pow" => ((k_here; (with_reducible show wpAny _ _ (call (Value.builtin "pow") [Value.int _ _, Value.int _ _, Value.int _ _]) _ _ _); refine' pow3I ?aq11 ?bq11 ?_; (case aq11 => first | decide | k_extra "MINE num"); (case bq11 => first | decide | k_extra "MINE num"); intro _ _ _))
  k_with "MINE sub" => (first | (intro q hq; exact hq) | ((with_reducible refine' List.forall_mem_cons.mpr ⟨?aq12, ?bq12⟩); (case aq12 => k_mem); (case bq12 => k_extra "MINE sub")) | (intro q hq; (repeat (first | exact hq | refine List.mem_cons_of_mem _ ?_))))
  k_with "M call type:bytes" => ((k_here; (with_reducible show wpAny _ _ (call (Value.type "bytes") [Value.bytes _ _]) _ _ _); refine bb_call ?_))
  k_with "MINE pick" => ((repeat (first | exact Pick.head | apply Pick.tail)))
  k_with "M call builtin:max" => ((k_here; (with_reducible show wpAny _ _ (call (Value.builtin "max") [Value.int _ _, Value.int _ _]) _ _ _); k_dflt (refine' maxI ?hq15 ?Fq15 ?Nq15 ?_; (case hq15 => rfl); (case Fq15 => k_asm); (case Nq15 => k_asm)); intro _ _ _ F' N'; (try k_sweep)))
  k_with "M call builtin:min" => ((k_here; (with_reducible show wpAny _ _ (call (Value.builtin "min") [Value.int _ _, Value.int _ _]) _ _ _); k_dflt (refine' minI ?hq16 ?Fq16 ?Nq16 ?_; (case hq16 => rfl); (case Fq16 => k_asm); (case Nq16 => k_asm)); intro _ _ _ F' N'; (try k_sweep)))
  k_with "M call builtin:max" => ((k_here; (with_reducible show wpAny _ _ (call (Value.builtin "max") [Value.int _ _, Value.int _ _, Value.int _ _]) _ _ _); k_dflt (refine' max3I ?hq17 ?Fq17 ?Nq17 ?_; (case hq17 => rfl); (case Fq17 => k_asm); (case Nq17 => k_asm)); intro _ _ _ F' N'; (try k_sweep)))
  k_with "MINE subD" => ((intro q hq; exact List.mem_cons_of_mem _ hq))
  k_with "MINE steps" => (repeat' (first | (k_unfold; (try dsimp only)) | walk1 | (dsimp only; walk1) | (leave1; walk_say "STEP leave1"; try dsimp only) | fail "no step"))
  k_with "M callWith ref" => ((k_here; (with_reducible show wpAny _ _ (callWith _ (Value.ref (OfNat.ofNat _)) _ _ _) _ _ _); k_dflt (refine' callWith_K ?k1q20 ?k2q20 ?_; (case k1q20 => k_asm); (case k2q20 => k_is); k_whole)))
  k_with "M execs cons" => ((k_here; (try dsimp only); with_reducible refine tk_sum ?_; intro tk9; (try (with_reducible rename Fr _ _ _ _ => Fx9; refine fr_let Fx9 ?_; intro mK Fy9; clear Fx9)); (try k_extra "MINE led")))
  k_with "M execs nil" => ((k_here; (try dsimp only); with_reducible refine tk_sum ?_; intro tk9))
  k_with "MINE lt" => (first | assumption | exact And.left (by assumption) | exact And.left (And.right (by assumption)) | exact And.left (And.right (And.right (by assumption))) | exact And.left (And.right (And.right (And.right (by assumption)))) | exact And.left (And.right (And.right (And.right (And.right (by assumption))))) | exact And.left (And.right (And.right (And.right (And.right (And.right (by assumption)))))) | exact And.left (And.right (And.right (And.right (And.right (And.right (And.right (by assumption))))))) | exact And.left (And.right (And.right (And.right (And.right (And.right (And.right (And.right (by assumption)))))))) | exact And.left (And.right (And.right (And.right (And.right (And.right (And.right (And.right (And.right (by assumption))))))))) | exact And.right (by assumption) | exact And.right (And.right (by assumption)) | exact And.right (And.right (And.right (by assumption))) | fail "not seen less")
  k_with "MINE mul" => (first | ((with_reducible refine mulL ?_); decide) | ((with_reducible refine mulR ?_); decide) | ((with_reducible refine' mulRb ?_ ?_); (focus assumption); decide) | ((with_reducible refine' mulLb ?_ ?_); (focus assumption); decide) | ((with_reducible refine mulRm ?_); decide) | ((with_reducible refine mulLm ?_); decide) | fail "not seen small")
  k_with "M binaryOp Mult int int" => ((k_here; k_dflt (refine' PyProof.Rows.mul_int ?_ ?hmq25; rotate_left; (case hmq25 => k_extra "MINE mul"))))
  k_with "M newTuple" => ((k_here; kup_bare; k_dflt (refine' newTupleV ?Fq26 ?Nq26 ?_ ?zq26; (case Fq26 => k_asm); (case Nq26 => k_asm); (case zq26 => kmk_size)); intro D' h' F' N' l1; (try k_lt l1); (try k_sweep)))
  k_with "M eval Call" => (k_fold)
  k_with "M eval Tuple" => (k_fold)
  k_with "M eval BinOp" => (k_fold)
  k_with "M eval Subscript" => (k_fold)
  k_with "M eval IfExp" => (k_fold)
  k_with "M isTrue Compare" => (k_fold)
  k_with "M isTrue BoolOp" => (k_fold)
  k_with "M exec If" => (k_fold)
  k_with "M exec Return" => (k_fold)
  k_with "MINE t k_room" => (ktr_room)
  k_with "MINE t k_units" => (ktr_units)
  k_with "MINE t k_mem" => (first | with_reducible assumption | assumption | exact List.Mem.head _ | (refine' List.Mem.tail _ ?_; k_mem))
  k_with "MINE t k_all" => (first | assumption | exact cellNe (by assumption) (by k_extra "MINE sub") | exact List.forall_mem_nil _ | (refine' List.forall_mem_cons.mpr ⟨?aq39, ?bq39⟩; (case aq39 => first | k_ne | assumption); (case bq39 => k_all)))
  k_with "MINE t ktr_room" => (first | (refine' rm2 ?hq40 ?bq40; (case hq40 => assumption); (case bq40 => exact rfl)) | (refine' rm1 ?hq40 ?bq40; (case hq40 => assumption); (case bq40 => exact rfl)) | (refine' rm3 ?hq40 ?bq40; (case hq40 => assumption); (case bq40 => exact rfl)) | exact rm0 (by assumption) | fail "no room")
  k_with "MINE t ktr_units" => (first | (refine' rm2 ?hq41 ?bq41; (case hq41 => assumption); (case bq41 => exact rfl)) | (refine' rm1 ?hq41 ?bq41; (case hq41 => assumption); (case bq41 => exact rfl)) | (refine' rm3 ?hq41 ?bq41; (case hq41 => assumption); (case bq41 => exact rfl)) | exact rm0 (by assumption) | fail "no room")
  k_with "MINE t k_ne" => (with_reducible (first | assumption | exact Nat.ne_of_lt (by k_extra "MINE lt") | exact Nat.ne_of_gt (by k_extra "MINE lt") | exact Ne.symm (by assumption) | k_extra "MINE lt" | exact Ne.symm (by k_extra "MINE lt") | fail "not seen unlike"))
  trivial
theorem fn_led (w : World) (news : Led) (n : Int) (t : Tok) : Fn w 10 40 90 news [.int n t] (fun v news' => news' = news ∧ ∃ t', v = .int (n % 115792089237316195423570985008687907853269984665640564039457584007913129639936) t') := by
  (unfold Fn; k_fill; intro pg loose mean mg mb dp un gd cn cs a ccd cl outer A₀ base h₀ L m hp₀ gs₀ dr₀ tk₀ os₀ Q E B F X N T hk hd hu hret; refine wpAny_call ?_; k_dflt ktr_enter; refine wp_let ?_; intro Ak)
  k_steps
  all_goals (refine hret _ _ _ _ (by k_asm) (by k_asm) ?_; exact ⟨rfl, vint (fm (by decide))⟩)
theorem fn_address_of (w : World) (news : Led) (n : Int) (t : Tok) : Fn w 10 40 104 news [.int n t] (fun v news' => news' = news ∧ ∃ t', v = .int (n % 1461501637330902918203684832716283019655932542976) t') := by
  (unfold Fn; k_fill; intro pg loose mean mg mb dp un gd cn cs a ccd cl outer A₀ base h₀ L m hp₀ gs₀ dr₀ tk₀ os₀ Q E B F X N T hk hd hu hret; refine wpAny_call ?_; k_dflt ktr_enter; refine wp_let ?_; intro Ak)
  k_steps
  all_goals (refine hret _ _ _ _ (by k_asm) (by k_asm) ?_; exact ⟨rfl, vint (fm (by decide))⟩)
theorem fn_law_word (w : World) (news : Led) (n : Nat) (t : Tok) (hn : n < 256 ^ 32) : Fn w 10 40 336 news [.int (n : Int) t] (fun v news' => news' = news ∧ ∃ t', v = .bytes (beL 32 n).toArray t') := by
  (unfold Fn; k_fill; intro pg loose mean mg mb dp un gd cn cs a ccd cl outer A₀ base h₀ L m hp₀ gs₀ dr₀ tk₀ os₀ Q E B F X N T hk hd hu hret; refine wpAny_call ?_; k_dflt ktr_enter; refine wp_let ?_; intro Ak)
  k_steps
  all_goals (refine hret _ _ _ _ (by k_asm) (by k_asm) ?_; exact ⟨rfl, vbytes rfl⟩)
theorem fn_words_of (w : World) (news : Led) (n : Nat) (t : Tok) : Fn w 10 40 230 news [.int (n : Int) t] (fun v news' => news' = news ∧ ∃ t', v = .int (((n + 31) / 32 : Nat) : Int) t') := by
  (unfold Fn; k_fill; intro pg loose mean mg mb dp un gd cn cs a ccd cl outer A₀ base h₀ L m hp₀ gs₀ dr₀ tk₀ os₀ Q E B F X N T hk hd hu hret; refine wpAny_call ?_; k_dflt ktr_enter; refine wp_let ?_; intro Ak)
  k_steps
  all_goals (refine hret _ _ _ _ (by k_asm) (by k_asm) ?_; exact ⟨rfl, vint (by rw [fd (by decide)]; rfl)⟩)
theorem lines_C2 : True := by
  w_top off
  k_with_none
  k_with "MINE len" => (((try simp only [List.length_append, List.length_take, List.length_drop, List.length_replicate, List.length_cons, List.length_nil, cutL_length, beL_length, leL_length, partL_length, KBa_byteArr_length, List.length_map, rangeKs_length] at *); omega))
  k_with "MINE num" => (first | omega | assumption | (simp only [Int.reduceToNat, Int.reducePow, Int.reduceMul, Int.fmod_eq_emod_of_nonneg, Int.reduceLE]; omega) | k_extra "MINE len")
  k_with "M call type:bytes" => ((k_here; (with_reducible show wpAny _ _ (call (Value.type "bytes") [Value.int _ _]) _ _ _); refine' bz_call ?h0q2 ?hNq2 ?_; (case h0q2 => k_extra "MINE num"); (case hNq2 => k_extra "MINE num"); intro _ _))
  k_with "M call builtin:len" => ((k_here; (with_reducible show wpAny _ _ (call (Value.builtin "len") [Value.bytes (List.toArray _) _]) _ _ _); refine' len_L ?h0q3 ?_; (case h0q3 => k_extra "MINE num"); intro _ _))
  k_with "M binaryOp Add bytes bytes" => ((k_here; (with_reducible show wpAny _ _ (binaryOp Operator.Add (Value.bytes (List.toArray _) _) (Value.bytes (List.toArray _) _)) _ _ _); refine' add_L ?h0q4 ?_; (case h0q4 => k_extra "MINE num"); intro _ _))
  k_with "M call ref" => ((k_here; (with_reducible show wpAny _ _ (call (Value.ref _) [Value.bytes (List.toArray _) _, Value.str _ _]) _ _ _); kfb_any; k_dflt (refine' from_big ?h1q5 ?h2q5 ?h3q5 ?_; (case h1q5 => k_asm); (case h2q5 => k_mem); (case h3q5 => k_extra "MINE num")); intro _ _))
  k_with "M subscriptTail" => ((k_here; (with_reducible show wpAny _ _ (subscriptTail _ (Expr.Slice _ _ none _) (Value.bytes (List.toArray _) _) (Value.ref _)) _ _ _); (with_reducible rename Fr _ _ _ _ => F'); (with_reducible rename News _ _ _ _ => N'); (first | (refine' slice_ab (s := ⟨_, _, _, _, _⟩) F' N' ?aq6 ?bq6 ?zq6 ?_; (case aq6 => k_extra "MINE num"); (case bq6 => k_extra "MINE num"); (case zq6 => k_extra "MINE num")) | (refine' slice_to (s := ⟨_, _, _, _, _⟩) F' N' ?bq6 ?zq6 ?_; (case bq6 => k_extra "MINE num"); (case zq6 => k_extra "MINE num")) | (refine' slice_from (s := ⟨_, _, _, _, _⟩) F' N' ?aq6 ?zq6 ?_; (case aq6 => k_extra "MINE num"); (case zq6 => k_extra "MINE num"))); intro _ _ _ F' N'))
  k_with "M call builtin:int.to_bytes" => ((k_here; (with_reducible show wpAny _ _ (call (Value.builtin "int.to_bytes") [Value.int _ _, Value.int _ _, Value.str _ _]) _ _ _); (first | (refine' to_bigI ?aq7 ?cq7 ?bq7 ?dq7 ?_; (case aq7 => k_extra "MINE num"); (case cq7 => k_extra "MINE num"); (case bq7 => k_extra "MINE num"); (case dq7 => k_extra "MINE fits")) | (refine' to_littleI ?aq7 ?cq7 ?bq7 ?dq7 ?_; (case aq7 => k_extra "MINE num"); (case cq7 => k_extra "MINE num"); (case bq7 => k_extra "MINE num"); (case dq7 => k_extra "MINE fits"))); intro _ _))
  k_with "MINE fits" => (first | assumption | exact fits_num (by assumption) | (simp only [Int.reduceToNat, Nat.reducePow]; omega) | (simp only [Int.reduceToNat, Nat.reducePow, Int.reducePow, Int.reduceMul, Int.fmod_eq_emod_of_nonneg, Int.reduceLE]; omega))
  k_with "MINE enter" => ((unfold Fn; k_fill; intro p loose mean mg mb dp un gd cn cs a ccd cl outer A₀ base h₀ L m hp₀ gs₀ dr₀ tk₀ os₀ Q E B F X N T hk hd hu hret; refine wpAny_call ?_; k_dflt ktr_enter))
  k_with "MINE use" => (((case k1 => k_asm); (case k2 => k_asm); (case k3 => k_asm); (case k4 => k_asm); (case k5 => k_asm); (case kK => first | exact rfl | assumption); (case kd => ktr_room); (case ku => ktr_units)))
  k_with "M call builtin:pow" => ((k_here; (with_reducible show wpAny _ _ (call (Value.builtin "pow") [Value.int _ _, Value.int _ _, Value.int _ _]) _ _ _); refine' pow3I ?aq11 ?bq11 ?_; (case aq11 => first | decide | k_extra "MINE num"); (case bq11 => first | decide | k_extra "MINE num"); intro _ _ _))
  k_with "MINE sub" => (first | (intro q hq; exact hq) | ((with_reducible refine' List.forall_mem_cons.mpr ⟨?aq12, ?bq12⟩); (case aq12 => k_mem); (case bq12 => k_extra "MINE sub")) | (intro q hq; (repeat (first | exact hq | refine List.mem_cons_of_mem _ ?_))))
  k_with "M call type:bytes" => ((k_here; (with_reducible show wpAny _ _ (call (Value.type "bytes") [Value.bytes _ _]) _ _ _); refine bb_call ?_))
  k_with "MINE pick" => ((repeat (first | exact Pick.head | apply Pick.tail)))
  k_with "M call builtin:max" => ((k_here; (with_reducible show wpAny _ _ (call (Value.builtin "max") [Value.int _ _, Value.int _ _]) _ _ _); k_dflt (refine' maxI ?hq15 ?Fq15 ?Nq15 ?_; (case hq15 => rfl); (case Fq15 => k_asm); (case Nq15 => k_asm)); intro _ _ _ F' N'; (try k_sweep)))
  k_with "M call builtin:min" => ((k_here; (with_reducible show wpAny _ _ (call (Value.builtin "min") [Value.int _ _, Value.int _ _]) _ _ _); k_dflt (refine' minI ?hq16 ?Fq16 ?Nq16 ?_; (case hq16 => rfl); (case Fq16 => k_asm); (case Nq16 => k_asm)); intro _ _ _ F' N'; (try k_sweep)))
  k_with "M call builtin:max" => ((k_here; (with_reducible show wpAny _ _ (call (Value.builtin "max") [Value.int _ _, Value.int _ _, Value.int _ _]) _ _ _); k_dflt (refine' max3I ?hq17 ?Fq17 ?Nq17 ?_; (case hq17 => rfl); (case Fq17 => k_asm); (case Nq17 => k_asm)); intro _ _ _ F' N'; (try k_sweep)))
  k_with "MINE subD" => ((intro q hq; exact List.mem_cons_of_mem _ hq))
  k_with "MINE steps" => (repeat' (first | (k_unfold; (try dsimp only)) | walk1 | (dsimp only; walk1) | (leave1; walk_say "STEP leave1"; try dsimp only) | fail "no step"))
  k_with "M callWith ref" => ((k_here; (with_reducible show wpAny _ _ (callWith _ (Value.ref (OfNat.ofNat _)) _ _ _) _ _ _); k_dflt (refine' callWith_K ?k1q20 ?k2q20 ?_; (case k1q20 => k_asm); (case k2q20 => k_is); k_whole)))
  k_with "M execs cons" => ((k_here; (try dsimp only); with_reducible refine tk_sum ?_; intro tk9; (try (with_reducible rename Fr _ _ _ _ => Fx9; refine fr_let Fx9 ?_; intro mK Fy9; clear Fx9)); (try k_extra "MINE led")))
  k_with "M execs nil" => ((k_here; (try dsimp only); with_reducible refine tk_sum ?_; intro tk9))
  k_with "MINE lt" => (first | assumption | exact And.left (by assumption) | exact And.left (And.right (by assumption)) | exact And.left (And.right (And.right (by assumption))) | exact And.left (And.right (And.right (And.right (by assumption)))) | exact And.left (And.right (And.right (And.right (And.right (by assumption))))) | exact And.left (And.right (And.right (And.right (And.right (And.right (by assumption)))))) | exact And.left (And.right (And.right (And.right (And.right (And.right (And.right (by assumption))))))) | exact And.left (And.right (And.right (And.right (And.right (And.right (And.right (And.right (by assumption)))))))) | exact And.left (And.right (And.right (And.right (And.right (And.right (And.right (And.right (And.right (by assumption))))))))) | exact And.right (by assumption) | exact And.right (And.right (by assumption)) | exact And.right (And.right (And.right (by assumption))) | fail "not seen less")
  k_with "MINE mul" => (first | ((with_reducible refine mulL ?_); decide) | ((with_reducible refine mulR ?_); decide) | ((with_reducible refine' mulRb ?_ ?_); (focus assumption); decide) | ((with_reducible refine' mulLb ?_ ?_); (focus assumption); decide) | ((with_reducible refine mulRm ?_); decide) | ((with_reducible refine mulLm ?_); decide) | fail "not seen small")
  k_with "M binaryOp Mult int int" => ((k_here; k_dflt (refine' PyProof.Rows.mul_int ?_ ?hmq25; rotate_left; (case hmq25 => k_extra "MINE mul"))))
  k_with "M newTuple" => ((k_here; kup_bare; k_dflt (refine' newTupleV ?Fq26 ?Nq26 ?_ ?zq26; (case Fq26 => k_asm); (case Nq26 => k_asm); (case zq26 => kmk_size)); intro D' h' F' N' l1; (try k_lt l1); (try k_sweep)))
  k_with "MINE got" => ((intro v9 n9 h9 tk9 F9 N9 hp9; obtain ⟨hn9, t9, hv9⟩ := hp9; subst hn9 hv9; (try dsimp only); (try k_fold)))
  k_with "M call ref" => ((k_here; (with_reducible show wpAny _ _ (call (Value.ref 90) [Value.int _ _]) _ _ _); k_dflt (refine' Fn.use ?k1 ?k2 ?k3 ?k4 ?k5 ?kK (fn_led _ _ _ _ ) ?kd ?ku ?_; k_extra "MINE use"); k_extra "MINE got"))
  k_with "M call ref" => ((k_here; (with_reducible show wpAny _ _ (call (Value.ref 104) [Value.int _ _]) _ _ _); k_dflt (refine' Fn.use ?k1 ?k2 ?k3 ?k4 ?k5 ?kK (fn_address_of _ _ _ _ ) ?kd ?ku ?_; k_extra "MINE use"); k_extra "MINE got"))
  k_with "M call ref" => ((k_here; (with_reducible show wpAny _ _ (call (Value.ref 230) [Value.int _ _]) _ _ _); k_dflt (refine' Fn.use ?k1 ?k2 ?k3 ?k4 ?k5 ?kK (fn_words_of _ _ _ _ ) ?kd ?ku ?_; k_extra "MINE use"); k_extra "MINE got"))
  k_with "M eval Call" => (k_fold)
  k_with "M eval Tuple" => (k_fold)
  k_with "M eval BinOp" => (k_fold)
  k_with "M eval Subscript" => (k_fold)
  k_with "M eval IfExp" => (k_fold)
  k_with "M isTrue Compare" => (k_fold)
  k_with "M isTrue BoolOp" => (k_fold)
  k_with "M exec If" => (k_fold)
  k_with "M exec Return" => (k_fold)
  k_with "MINE num" => (first | exact cl2 | exact cl1 (by assumption) | exact cl3 (by assumption))
  k_with "MINE t k_room" => (ktr_room)
  k_with "MINE t k_units" => (ktr_units)
  k_with "MINE t k_mem" => (first | with_reducible assumption | assumption | exact List.Mem.head _ | (refine' List.Mem.tail _ ?_; k_mem))
  k_with "MINE t k_all" => (first | assumption | exact cellNe (by assumption) (by k_extra "MINE sub") | exact List.forall_mem_nil _ | (refine' List.forall_mem_cons.mpr ⟨?aq44, ?bq44⟩; (case aq44 => first | k_ne | assumption); (case bq44 => k_all)))
  k_with "MINE t ktr_room" => (first | (refine' rm2 ?hq45 ?bq45; (case hq45 => assumption); (case bq45 => exact rfl)) | (refine' rm1 ?hq45 ?bq45; (case hq45 => assumption); (case bq45 => exact rfl)) | (refine' rm3 ?hq45 ?bq45; (case hq45 => assumption); (case bq45 => exact rfl)) | exact rm0 (by assumption) | fail "no room")
  k_with "MINE t ktr_units" => (first | (refine' rm2 ?hq46 ?bq46; (case hq46 => assumption); (case bq46 => exact rfl)) | (refine' rm1 ?hq46 ?bq46; (case hq46 => assumption); (case bq46 => exact rfl)) | (refine' rm3 ?hq46 ?bq46; (case hq46 => assumption); (case bq46 => exact rfl)) | exact rm0 (by assumption) | fail "no room")
  k_with "MINE t k_ne" => (with_reducible (first | assumption | exact Nat.ne_of_lt (by k_extra "MINE lt") | exact Nat.ne_of_gt (by k_extra "MINE lt") | exact Ne.symm (by assumption) | k_extra "MINE lt" | exact Ne.symm (by k_extra "MINE lt") | fail "not seen unlike"))
  trivial
theorem fn_word_octets (w : World) (news : Led) (n : Int) (t : Tok) : Fn w 20 80 97 news [.int n t] (fun v news' => news' = news ∧ ∃ t', v = .bytes (beL 32 (n % 115792089237316195423570985008687907853269984665640564039457584007913129639936).toNat).toArray t') := by
  (unfold Fn; k_fill; intro pg loose mean mg mb dp un gd cn cs a ccd cl outer A₀ base h₀ L m hp₀ gs₀ dr₀ tk₀ os₀ Q E B F X N T hk hd hu hret; refine wpAny_call ?_; k_dflt ktr_enter; refine wp_let ?_; intro Ak)
  k_steps
  all_goals (refine hret _ _ _ _ (by k_asm) (by k_asm) ?_; exact ⟨rfl, vbytes rfl⟩)
theorem fn_part_of (w : World) (news : Led) (l : List UInt8) (t : Tok) (p n : Nat) (tp tn : Tok) (hl : l.length ≤ 1000) (hn : n ≤ 1000) : Fn w 10 40 237 news [.bytes l.toArray t, .int (p : Int) tp, .int (n : Int) tn] (fun v news' => news' = news ∧ ∃ t', v = .bytes (partL l p n).toArray t') := by
  (unfold Fn; k_fill; intro pg loose mean mg mb dp un gd cn cs a ccd cl outer A₀ base h₀ L m hp₀ gs₀ dr₀ tk₀ os₀ Q E B F X N T hk hd hu hret; refine wpAny_call ?_; k_dflt ktr_enter; refine wp_let ?_; intro Ak)
  k_steps
  all_goals (refine hret _ _ _ _ (by k_asm) (by k_asm) ?_; exact ⟨rfl, vbytes (by first | exact partV | exact partV0 (by assumption) | exact partV0 (by omega))⟩)
theorem fn_law_part (w : World) (news : Led) (l : List UInt8) (t : Tok) (p n : Nat) (tp tn : Tok) (hl : l.length ≤ 1000) (hn : n ≤ 1000) : Fn w 10 40 343 news [.bytes l.toArray t, .int (p : Int) tp, .int (n : Int) tn] (fun v news' => news' = news ∧ ∃ t', v = .bytes (partL l p n).toArray t') := by
  (unfold Fn; k_fill; intro pg loose mean mg mb dp un gd cn cs a ccd cl outer A₀ base h₀ L m hp₀ gs₀ dr₀ tk₀ os₀ Q E B F X N T hk hd hu hret; refine wpAny_call ?_; k_dflt ktr_enter; refine wp_let ?_; intro Ak)
  k_steps
  all_goals (refine hret _ _ _ _ (by k_asm) (by k_asm) ?_; exact ⟨rfl, vbytes partV⟩)
theorem fn_word_octets' (w : World) (news : Led) (n : Int) (t : Tok) (h0 : 0 ≤ n) (h1 : n < 115792089237316195423570985008687907853269984665640564039457584007913129639936) : Fn w 20 80 97 news [.int n t] (fun v news' => news' = news ∧ ∃ t', v = .bytes (beL 32 n.toNat).toArray t') := by
  have h := fn_word_octets w news n t
  rwa [Int.emod_eq_of_lt h0 h1] at h
theorem fn_law_part' (w : World) (news : Led) (l : List UInt8) (t : Tok) (p n : Int) (tp tn : Tok) (hl : l.length ≤ 1000) (h0 : 0 ≤ p) (h1 : 0 ≤ n) (hn : n ≤ 1000) : Fn w 10 40 343 news [.bytes l.toArray t, .int p tp, .int n tn] (fun v news' => news' = news ∧ ∃ t', v = .bytes (partL l p.toNat n.toNat).toArray t') := by
  have h := fn_law_part w news l t p.toNat n.toNat tp tn hl (by omega)
  rwa [Int.toNat_of_nonneg h0, Int.toNat_of_nonneg h1] at h
theorem lines_C3 : True := by
  w_top off
  k_with_none
  k_with "MINE len" => (((try simp only [List.length_append, List.length_take, List.length_drop, List.length_replicate, List.length_cons, List.length_nil, cutL_length, beL_length, leL_length, partL_length, KBa_byteArr_length, List.length_map, rangeKs_length] at *); omega))
  k_with "MINE num" => (first | omega | assumption | (simp only [Int.reduceToNat, Int.reducePow, Int.reduceMul, Int.fmod_eq_emod_of_nonneg, Int.reduceLE]; omega) | k_extra "MINE len")
  k_with "M call type:bytes" => ((k_here; (with_reducible show wpAny _ _ (call (Value.type "bytes") [Value.int _ _]) _ _ _); refine' bz_call ?h0q2 ?hNq2 ?_; (case h0q2 => k_extra "MINE num"); (case hNq2 => k_extra "MINE num"); intro _ _))
  k_with "M call builtin:len" => ((k_here; (with_reducible show wpAny _ _ (call (Value.builtin "len") [Value.bytes (List.toArray _) _]) _ _ _); refine' len_L ?h0q3 ?_; (case h0q3 => k_extra "MINE num"); intro _ _))
  k_with "M binaryOp Add bytes bytes" => ((k_here; (with_reducible show wpAny _ _ (binaryOp Operator.Add (Value.bytes (List.toArray _) _) (Value.bytes (List.toArray _) _)) _ _ _); refine' add_L ?h0q4 ?_; (case h0q4 => k_extra "MINE num"); intro _ _))
  k_with "M call ref" => ((k_here; (with_reducible show wpAny _ _ (call (Value.ref _) [Value.bytes (List.toArray _) _, Value.str _ _]) _ _ _); kfb_any; k_dflt (refine' from_big ?h1q5 ?h2q5 ?h3q5 ?_; (case h1q5 => k_asm); (case h2q5 => k_mem); (case h3q5 => k_extra "MINE num")); intro _ _))
  k_with "M subscriptTail" => ((k_here; (with_reducible show wpAny _ _ (subscriptTail _ (Expr.Slice _ _ none _) (Value.bytes (List.toArray _) _) (Value.ref _)) _ _ _); (with_reducible rename Fr _ _ _ _ => F'); (with_reducible rename News _ _ _ _ => N'); (first | (refine' slice_ab (s := ⟨_, _, _, _, _⟩) F' N' ?aq6 ?bq6 ?zq6 ?_; (case aq6 => k_extra "MINE num"); (case bq6 => k_extra "MINE num"); (case zq6 => k_extra "MINE num")) | (refine' slice_to (s := ⟨_, _, _, _, _⟩) F' N' ?bq6 ?zq6 ?_; (case bq6 => k_extra "MINE num"); (case zq6 => k_extra "MINE num")) | (refine' slice_from (s := ⟨_, _, _, _, _⟩) F' N' ?aq6 ?zq6 ?_; (case aq6 => k_extra "MINE num"); (case zq6 => k_extra "MINE num"))); intro _ _ _ F' N'))
  k_with "M call builtin:int.to_bytes" => ((k_here; (with_reducible show wpAny _ _ (call (Value.builtin "int.to_bytes") [Value.int _ _, Value.int _ _, Value.str _ _]) _ _ _); (first | (refine' to_bigI ?aq7 ?cq7 ?bq7 ?dq7 ?_; (case aq7 => k_extra "MINE num"); (case cq7 => k_extra "MINE num"); (case bq7 => k_extra "MINE num"); (case dq7 => k_extra "MINE fits")) | (refine' to_littleI ?aq7 ?cq7 ?bq7 ?dq7 ?_; (case aq7 => k_extra "MINE num"); (case cq7 => k_extra "MINE num"); (case bq7 => k_extra "MINE num"); (case dq7 => k_extra "MINE fits"))); intro _ _))
  k_with "MINE fits" => (first | assumption | exact fits_num (by assumption) | (simp only [Int.reduceToNat, Nat.reducePow]; omega) | (simp only [Int.reduceToNat, Nat.reducePow, Int.reducePow, Int.reduceMul, Int.fmod_eq_emod_of_nonneg, Int.reduceLE]; omega))
  k_with "MINE enter" => ((unfold Fn; k_fill; intro p loose mean mg mb dp un gd cn cs a ccd cl outer A₀ base h₀ L m hp₀ gs₀ dr₀ tk₀ os₀ Q E B F X N T hk hd hu hret; refine wpAny_call ?_; k_dflt ktr_enter))
  k_with "MINE use" => (((case k1 => k_asm); (case k2 => k_asm); (case k3 => k_asm); (case k4 => k_asm); (case k5 => k_asm); (case kK => first | exact rfl | assumption); (case kd => ktr_room); (case ku => ktr_units)))
  k_with "M call builtin:pow" => ((k_here; (with_reducible show wpAny _ _ (call (Value.builtin "pow") [Value.int _ _, Value.int _ _, Value.int _ _]) _ _ _); refine' pow3I ?aq11 ?bq11 ?_; (case aq11 => first | decide | k_extra "MINE num"); (case bq11 => first | decide | k_extra "MINE num"); intro _ _ _))
  k_with "MINE sub" => (first | (intro q hq; exact hq) | ((with_reducible refine' List.forall_mem_cons.mpr ⟨?aq12, ?bq12⟩); (case aq12 => k_mem); (case bq12 => k_extra "MINE sub")) | (intro q hq; (repeat (first | exact hq | refine List.mem_cons_of_mem _ ?_))))
  k_with "M call type:bytes" => ((k_here; (with_reducible show wpAny _ _ (call (Value.type "bytes") [Value.bytes _ _]) _ _ _); refine bb_call ?_))
  k_with "MINE pick" => ((repeat (first | exact Pick.head | apply Pick.tail)))
  k_with "M call builtin:max" => ((k_here; (with_reducible show wpAny _ _ (call (Value.builtin "max") [Value.int _ _, Value.int _ _]) _ _ _); k_dflt (refine' maxI ?hq15 ?Fq15 ?Nq15 ?_; (case hq15 => rfl); (case Fq15 => k_asm); (case Nq15 => k_asm)); intro _ _ _ F' N'; (try k_sweep)))
  k_with "M call builtin:min" => ((k_here; (with_reducible show wpAny _ _ (call (Value.builtin "min") [Value.int _ _, Value.int _ _]) _ _ _); k_dflt (refine' minI ?hq16 ?Fq16 ?Nq16 ?_; (case hq16 => rfl); (case Fq16 => k_asm); (case Nq16 => k_asm)); intro _ _ _ F' N'; (try k_sweep)))
  k_with "M call builtin:max" => ((k_here; (with_reducible show wpAny _ _ (call (Value.builtin "max") [Value.int _ _, Value.int _ _, Value.int _ _]) _ _ _); k_dflt (refine' max3I ?hq17 ?Fq17 ?Nq17 ?_; (case hq17 => rfl); (case Fq17 => k_asm); (case Nq17 => k_asm)); intro _ _ _ F' N'; (try k_sweep)))
  k_with "MINE subD" => ((intro q hq; exact List.mem_cons_of_mem _ hq))
  k_with "MINE steps" => (repeat' (first | (k_unfold; (try dsimp only)) | walk1 | (dsimp only; walk1) | (leave1; walk_say "STEP leave1"; try dsimp only) | fail "no step"))
  k_with "M callWith ref" => ((k_here; (with_reducible show wpAny _ _ (callWith _ (Value.ref (OfNat.ofNat _)) _ _ _) _ _ _); k_dflt (refine' callWith_K ?k1q20 ?k2q20 ?_; (case k1q20 => k_asm); (case k2q20 => k_is); k_whole)))
  k_with "M execs cons" => ((k_here; (try dsimp only); with_reducible refine tk_sum ?_; intro tk9; (try (with_reducible rename Fr _ _ _ _ => Fx9; refine fr_let Fx9 ?_; intro mK Fy9; clear Fx9)); (try k_extra "MINE led")))
  k_with "M execs nil" => ((k_here; (try dsimp only); with_reducible refine tk_sum ?_; intro tk9))
  k_with "MINE lt" => (first | assumption | exact And.left (by assumption) | exact And.left (And.right (by assumption)) | exact And.left (And.right (And.right (by assumption))) | exact And.left (And.right (And.right (And.right (by assumption)))) | exact And.left (And.right (And.right (And.right (And.right (by assumption))))) | exact And.left (And.right (And.right (And.right (And.right (And.right (by assumption)))))) | exact And.left (And.right (And.right (And.right (And.right (And.right (And.right (by assumption))))))) | exact And.left (And.right (And.right (And.right (And.right (And.right (And.right (And.right (by assumption)))))))) | exact And.left (And.right (And.right (And.right (And.right (And.right (And.right (And.right (And.right (by assumption))))))))) | exact And.right (by assumption) | exact And.right (And.right (by assumption)) | exact And.right (And.right (And.right (by assumption))) | fail "not seen less")
  k_with "MINE mul" => (first | ((with_reducible refine mulL ?_); decide) | ((with_reducible refine mulR ?_); decide) | ((with_reducible refine' mulRb ?_ ?_); (focus assumption); decide) | ((with_reducible refine' mulLb ?_ ?_); (focus assumption); decide) | ((with_reducible refine mulRm ?_); decide) | ((with_reducible refine mulLm ?_); decide) | fail "not seen small")
  k_with "M binaryOp Mult int int" => ((k_here; k_dflt (refine' PyProof.Rows.mul_int ?_ ?hmq25; rotate_left; (case hmq25 => k_extra "MINE mul"))))
  k_with "M newTuple" => ((k_here; kup_bare; k_dflt (refine' newTupleV ?Fq26 ?Nq26 ?_ ?zq26; (case Fq26 => k_asm); (case Nq26 => k_asm); (case zq26 => kmk_size)); intro D' h' F' N' l1; (try k_lt l1); (try k_sweep)))
  k_with "MINE got" => ((intro v9 n9 h9 tk9 F9 N9 hp9; obtain ⟨hn9, t9, hv9⟩ := hp9; subst hn9 hv9; (try dsimp only); (try k_fold)))
  k_with "M call ref" => ((k_here; (with_reducible show wpAny _ _ (call (Value.ref 90) [Value.int _ _]) _ _ _); k_dflt (refine' Fn.use ?k1 ?k2 ?k3 ?k4 ?k5 ?kK (fn_led _ _ _ _ ) ?kd ?ku ?_; k_extra "MINE use"); k_extra "MINE got"))
  k_with "M call ref" => ((k_here; (with_reducible show wpAny _ _ (call (Value.ref 104) [Value.int _ _]) _ _ _); k_dflt (refine' Fn.use ?k1 ?k2 ?k3 ?k4 ?k5 ?kK (fn_address_of _ _ _ _ ) ?kd ?ku ?_; k_extra "MINE use"); k_extra "MINE got"))
  k_with "M call ref" => ((k_here; (with_reducible show wpAny _ _ (call (Value.ref 230) [Value.int _ _]) _ _ _); k_dflt (refine' Fn.use ?k1 ?k2 ?k3 ?k4 ?k5 ?kK (fn_words_of _ _ _ _ ) ?kd ?ku ?_; k_extra "MINE use"); k_extra "MINE got"))
  k_with "M call ref" => ((k_here; (with_reducible show wpAny _ _ (call (Value.ref 97) [Value.int _ _]) _ _ _); k_dflt (refine' Fn.use ?k1 ?k2 ?k3 ?k4 ?k5 ?kK (fn_word_octets' _ _ _ _ ?c1q31 ?c2q31) ?kd ?ku ?_; k_extra "MINE use"; (case c1q31 => k_extra "MINE num"); (case c2q31 => k_extra "MINE num")); k_extra "MINE got"))
  k_with "M call ref" => ((k_here; (with_reducible show wpAny _ _ (call (Value.ref 237) [Value.bytes _ _, Value.int _ _, Value.int _ _]) _ _ _); k_dflt (refine' Fn.use ?k1 ?k2 ?k3 ?k4 ?k5 ?kK (fn_part_of _ _ _ _ _ _ _ _ ?c1q32 ?c2q32) ?kd ?ku ?_; k_extra "MINE use"; (case c1q32 => k_extra "MINE num"); (case c2q32 => k_extra "MINE num")); k_extra "MINE got"))
  k_with "M call ref" => ((k_here; (with_reducible show wpAny _ _ (call (Value.ref 343) [Value.bytes _ _, Value.int _ _, Value.int _ _]) _ _ _); k_dflt (refine' Fn.use ?k1 ?k2 ?k3 ?k4 ?k5 ?kK (fn_law_part' _ _ _ _ _ _ _ _ ?c1q33 ?c2q33 ?c3q33 ?c4q33) ?kd ?ku ?_; k_extra "MINE use"; (case c1q33 => k_extra "MINE num"); (case c2q33 => k_extra "MINE num"); (case c3q33 => k_extra "MINE num"); (case c4q33 => k_extra "MINE num")); k_extra "MINE got"))
  k_with "M call ref" => ((k_here; (with_reducible show wpAny _ _ (call (Value.ref 343) [Value.bytes _ _, Value.int _ _, Value.int _ _]) _ _ _); k_dflt (refine' Fn.use ?k1 ?k2 ?k3 ?k4 ?k5 ?kK (fn_law_part _ _ _ _ _ _ _ _ ?c1q34 ?c2q34) ?kd ?ku ?_; k_extra "MINE use"; (case c1q34 => k_extra "MINE num"); (case c2q34 => k_extra "MINE num")); k_extra "MINE got"))
  k_with "MINE cond" => (first | exact True.intro | ((try dsimp only [cP, cAnd]); (repeat' (first | exact True.intro | refine And.intro ?_ ?_)); all_goals first | k_extra "MINE mul" | mul_fits | decide | omega | assumption))
  k_with "M eval BinOp" => ((k_here; (try dsimp only); k_dflt (refine' pe_int ?Fq36 ?fq36 ?hq36 ?cq36 ?_; (case Fq36 => k_asm); (case fq36 => exact rfl); (case hq36 => exact rfl); (case cq36 => k_extra "MINE cond")); intro t9 tk9; (try dsimp only)))
  k_with "M isTrue Compare" => ((k_here; (try dsimp only); k_dflt (refine' pe_cmp ?Fq37 ?fq37 noOrc_ok ?hq37 ?iq37 ?jq37 ?bq37 ?cq37 ?_; (case Fq37 => k_asm); (case fq37 => exact rfl); (case hq37 => exact rfl); (case iq37 => exact rfl); (case jq37 => exact rfl); (case bq37 => exact rfl); (case cq37 => k_extra "MINE cond")); intro tk9; (try dsimp only)))
  k_with "M eval Tuple" => ((k_here; (try dsimp only); k_dflt (first | (refine' pe_tup2 ?Fq38 ?Nq38 ?fq38 noOrc_ok ?hq38 ?iq38 ?sq38 ?uq38 ?cq38 ?_; (case Fq38 => k_asm); (case Nq38 => k_asm); (case fq38 => exact rfl); (case hq38 => exact rfl); (case iq38 => exact rfl); (case sq38 => exact rfl); (case uq38 => exact rfl); (case cq38 => k_extra "MINE cond"); intro a9 h9 t9 u9 tk9 F9 N9 l9) | (refine' pe_tup3 ?Fq38 ?Nq38 ?fq38 noOrc_ok ?hq38 ?iq38 ?jq38 ?sq38 ?uq38 ?vq38 ?cq38 ?_; (case Fq38 => k_asm); (case Nq38 => k_asm); (case fq38 => exact rfl); (case hq38 => exact rfl); (case iq38 => exact rfl); (case jq38 => exact rfl); (case sq38 => exact rfl); (case uq38 => exact rfl); (case vq38 => exact rfl); (case cq38 => k_extra "MINE cond"); intro a9 h9 t9 u9 v9 tk9 F9 N9 l9)); (have l9c := l9); (try k_lt l9); (try k_sweep); (try dsimp only)))
  k_with "M execs cons" => ((k_here; (with_reducible show wpAny _ _ (execs (Stmt.Assign [Expr.Name _ _] _ _ :: _) _) _ _ _); (try dsimp only); k_dflt (refine' pe_one ?Fq39 ?Nq39 ?fq39 noOrc_ok ?hq39 ?xq39 ?sq39 ?cq39 ?_; (case Fq39 => k_asm); (case Nq39 => k_asm); (case fq39 => exact rfl); (case hq39 => exact rfl); (case xq39 => exact rfl); (case sq39 => with_unfolding_all exact rfl); (case cq39 => k_extra "MINE cond"); intro h9 t9 tk9 F9 N9); (try k_sweep)))
  k_with "M execs cons" => ((k_here; (with_reducible show wpAny _ _ (execs (Stmt.Assign [Expr.Tuple [Expr.Name _ _, Expr.Name _ _] _ _] (Expr.Tuple [_, _] _ _) _ :: _) _) _ _ _); (try dsimp only); k_dflt (refine' pe_two ?Fq40 ?Nq40 ?fq40 noOrc_ok ?kq40 ?hq40 ?iq40 ?xq40 ?yq40 ?sq40 ?wq40 ?uq40 ?vq40 ?cq40 ?_; (case Fq40 => k_asm); (case Nq40 => k_asm); (case fq40 => exact rfl); (case kq40 => exact rfl); (case hq40 => exact rfl); (case iq40 => exact rfl); (case xq40 => exact rfl); (case yq40 => exact rfl); (case sq40 => with_unfolding_all exact rfl); (case wq40 => with_unfolding_all exact rfl); (case uq40 => exact rfl); (case vq40 => exact rfl); (case cq40 => k_extra "MINE cond"); intro h9 t9 u9 tk9 F9 N9); (try k_sweep)))
  k_with "M eval Call" => (k_fold)
  k_with "M eval Tuple" => (k_fold)
  k_with "M eval BinOp" => (k_fold)
  k_with "M eval Subscript" => (k_fold)
  k_with "M eval IfExp" => (k_fold)
  k_with "M isTrue Compare" => (k_fold)
  k_with "M isTrue BoolOp" => (k_fold)
  k_with "M exec If" => (k_fold)
  k_with "M exec Return" => (k_fold)
  k_with "MINE t k_room" => (ktr_room)
  k_with "MINE t k_units" => (ktr_units)
  k_with "MINE t k_mem" => (first | with_reducible assumption | assumption | exact List.Mem.head _ | (refine' List.Mem.tail _ ?_; k_mem))
  k_with "MINE t k_all" => (first | assumption | exact cellNe (by assumption) (by k_extra "MINE sub") | exact List.forall_mem_nil _ | (refine' List.forall_mem_cons.mpr ⟨?aq53, ?bq53⟩; (case aq53 => first | k_ne | assumption); (case bq53 => k_all)))
  k_with "MINE t ktr_room" => (first | (refine' rm2 ?hq54 ?bq54; (case hq54 => assumption); (case bq54 => exact rfl)) | (refine' rm1 ?hq54 ?bq54; (case hq54 => assumption); (case bq54 => exact rfl)) | (refine' rm3 ?hq54 ?bq54; (case hq54 => assumption); (case bq54 => exact rfl)) | exact rm0 (by assumption) | fail "no room")
  k_with "MINE t ktr_units" => (first | (refine' rm2 ?hq55 ?bq55; (case hq55 => assumption); (case bq55 => exact rfl)) | (refine' rm1 ?hq55 ?bq55; (case hq55 => assumption); (case bq55 => exact rfl)) | (refine' rm3 ?hq55 ?bq55; (case hq55 => assumption); (case bq55 => exact rfl)) | exact rm0 (by assumption) | fail "no room")
  k_with "MINE t k_ne" => (with_reducible (first | assumption | exact Nat.ne_of_lt (by k_extra "MINE lt") | exact Nat.ne_of_gt (by k_extra "MINE lt") | exact Ne.symm (by assumption) | k_extra "MINE lt" | exact Ne.symm (by k_extra "MINE lt") | fail "not seen unlike"))
  trivial
theorem fn_number_at (w : World) (news : Led) (l : List UInt8) (t : Tok) (p n : Nat) (tp tn : Tok) (hl : l.length ≤ 1000) (hn : n ≤ 1000) : Fn w 20 80 244 news [.bytes l.toArray t, .int (p : Int) tp, .int (n : Int) tn] (fun v news' => news' = news ∧ ∃ t', v = .int (numL l p n : Int) t') := by
  (unfold Fn; k_fill; intro pg loose mean mg mb dp un gd cn cs a ccd cl outer A₀ base h₀ L m hp₀ gs₀ dr₀ tk₀ os₀ Q E B F X N T hk hd hu hret; refine wpAny_call ?_; k_dflt ktr_enter; refine wp_let ?_; intro Ak)
  k_steps
  all_goals (refine hret _ news _ _ (by k_asm) (by refine cb_drop (by k_asm) ?_; intro q hq; repeat (first | exact hq | refine List.mem_cons_of_mem _ ?_)) ?_; exact ⟨rfl, vint rfl⟩)
theorem fn_number_at' (w : World) (news : Led) (l : List UInt8) (t : Tok) (p n : Int) (tp tn : Tok) (hl : l.length ≤ 1000) (h0 : 0 ≤ p) (h1 : 0 ≤ n) (hn : n ≤ 1000) : Fn w 20 80 244 news [.bytes l.toArray t, .int p tp, .int n tn] (fun v news' => news' = news ∧ ∃ t', v = .int (numL l p.toNat n.toNat : Int) t') := by
  have h := fn_number_at w news l t p.toNat n.toNat tp tn hl (by omega)
  rwa [Int.toNat_of_nonneg h0, Int.toNat_of_nonneg h1] at h
theorem lines_D1 : True := by
  w_top off
  k_with_none
  k_with "MINE len" => (((try simp only [List.length_append, List.length_take, List.length_drop, List.length_replicate, List.length_cons, List.length_nil, cutL_length, beL_length, leL_length, partL_length, KBa_byteArr_length, List.length_map, rangeKs_length] at *); omega))
  k_with "MINE num" => (first | omega | assumption | (simp only [Int.reduceToNat, Int.reducePow, Int.reduceMul, Int.fmod_eq_emod_of_nonneg, Int.reduceLE]; omega) | k_extra "MINE len")
  k_with "M call type:bytes" => ((k_here; (with_reducible show wpAny _ _ (call (Value.type "bytes") [Value.int _ _]) _ _ _); refine' bz_call ?h0q2 ?hNq2 ?_; (case h0q2 => k_extra "MINE num"); (case hNq2 => k_extra "MINE num"); intro _ _))
  k_with "M call builtin:len" => ((k_here; (with_reducible show wpAny _ _ (call (Value.builtin "len") [Value.bytes (List.toArray _) _]) _ _ _); refine' len_L ?h0q3 ?_; (case h0q3 => k_extra "MINE num"); intro _ _))
  k_with "M binaryOp Add bytes bytes" => ((k_here; (with_reducible show wpAny _ _ (binaryOp Operator.Add (Value.bytes (List.toArray _) _) (Value.bytes (List.toArray _) _)) _ _ _); refine' add_L ?h0q4 ?_; (case h0q4 => k_extra "MINE num"); intro _ _))
  k_with "M call ref" => ((k_here; (with_reducible show wpAny _ _ (call (Value.ref _) [Value.bytes (List.toArray _) _, Value.str _ _]) _ _ _); kfb_any; k_dflt (refine' from_big ?h1q5 ?h2q5 ?h3q5 ?_; (case h1q5 => k_asm); (case h2q5 => k_mem); (case h3q5 => k_extra "MINE num")); intro _ _))
  k_with "M subscriptTail" => ((k_here; (with_reducible show wpAny _ _ (subscriptTail _ (Expr.Slice _ _ none _) (Value.bytes (List.toArray _) _) (Value.ref _)) _ _ _); (with_reducible rename Fr _ _ _ _ => F'); (with_reducible rename News _ _ _ _ => N'); (first | (refine' slice_ab (s := ⟨_, _, _, _, _⟩) F' N' ?aq6 ?bq6 ?zq6 ?_; (case aq6 => k_extra "MINE num"); (case bq6 => k_extra "MINE num"); (case zq6 => k_extra "MINE num")) | (refine' slice_to (s := ⟨_, _, _, _, _⟩) F' N' ?bq6 ?zq6 ?_; (case bq6 => k_extra "MINE num"); (case zq6 => k_extra "MINE num")) | (refine' slice_from (s := ⟨_, _, _, _, _⟩) F' N' ?aq6 ?zq6 ?_; (case aq6 => k_extra "MINE num"); (case zq6 => k_extra "MINE num"))); intro _ _ _ F' N'))
  k_with "M call builtin:int.to_bytes" => ((k_here; (with_reducible show wpAny _ _ (call (Value.builtin "int.to_bytes") [Value.int _ _, Value.int _ _, Value.str _ _]) _ _ _); (first | (refine' to_bigI ?aq7 ?cq7 ?bq7 ?dq7 ?_; (case aq7 => k_extra "MINE num"); (case cq7 => k_extra "MINE num"); (case bq7 => k_extra "MINE num"); (case dq7 => k_extra "MINE fits")) | (refine' to_littleI ?aq7 ?cq7 ?bq7 ?dq7 ?_; (case aq7 => k_extra "MINE num"); (case cq7 => k_extra "MINE num"); (case bq7 => k_extra "MINE num"); (case dq7 => k_extra "MINE fits"))); intro _ _))
  k_with "MINE fits" => (first | assumption | exact fits_num (by assumption) | (simp only [Int.reduceToNat, Nat.reducePow]; omega) | (simp only [Int.reduceToNat, Nat.reducePow, Int.reducePow, Int.reduceMul, Int.fmod_eq_emod_of_nonneg, Int.reduceLE]; omega))
  k_with "MINE enter" => ((unfold Fn; k_fill; intro p loose mean mg mb dp un gd cn cs a ccd cl outer A₀ base h₀ L m hp₀ gs₀ dr₀ tk₀ os₀ Q E B F X N T hk hd hu hret; refine wpAny_call ?_; k_dflt ktr_enter))
  k_with "MINE use" => (((case k1 => k_asm); (case k2 => k_asm); (case k3 => k_asm); (case k4 => k_asm); (case k5 => k_asm); (case kK => first | exact rfl | assumption); (case kd => ktr_room); (case ku => ktr_units)))
  k_with "M call builtin:pow" => ((k_here; (with_reducible show wpAny _ _ (call (Value.builtin "pow") [Value.int _ _, Value.int _ _, Value.int _ _]) _ _ _); refine' pow3I ?aq11 ?bq11 ?_; (case aq11 => first | decide | k_extra "MINE num"); (case bq11 => first | decide | k_extra "MINE num"); intro _ _ _))
  k_with "MINE sub" => (first | (intro q hq; exact hq) | ((with_reducible refine' List.forall_mem_cons.mpr ⟨?aq12, ?bq12⟩); (case aq12 => k_mem); (case bq12 => k_extra "MINE sub")) | (intro q hq; (repeat (first | exact hq | refine List.mem_cons_of_mem _ ?_))))
  k_with "M call type:bytes" => ((k_here; (with_reducible show wpAny _ _ (call (Value.type "bytes") [Value.bytes _ _]) _ _ _); refine bb_call ?_))
  k_with "MINE pick" => ((repeat (first | exact Pick.head | apply Pick.tail)))
  k_with "M call builtin:max" => ((k_here; (with_reducible show wpAny _ _ (call (Value.builtin "max") [Value.int _ _, Value.int _ _]) _ _ _); k_dflt (refine' maxI ?hq15 ?Fq15 ?Nq15 ?_; (case hq15 => rfl); (case Fq15 => k_asm); (case Nq15 => k_asm)); intro _ _ _ F' N'; (try k_sweep)))
  k_with "M call builtin:min" => ((k_here; (with_reducible show wpAny _ _ (call (Value.builtin "min") [Value.int _ _, Value.int _ _]) _ _ _); k_dflt (refine' minI ?hq16 ?Fq16 ?Nq16 ?_; (case hq16 => rfl); (case Fq16 => k_asm); (case Nq16 => k_asm)); intro _ _ _ F' N'; (try k_sweep)))
  k_with "M call builtin:max" => ((k_here; (with_reducible show wpAny _ _ (call (Value.builtin "max") [Value.int _ _, Value.int _ _, Value.int _ _]) _ _ _); k_dflt (refine' max3I ?hq17 ?Fq17 ?Nq17 ?_; (case hq17 => rfl); (case Fq17 => k_asm); (case Nq17 => k_asm)); intro _ _ _ F' N'; (try k_sweep)))
  k_with "MINE subD" => ((intro q hq; exact List.mem_cons_of_mem _ hq))
  k_with "MINE steps" => (repeat' (first | (k_unfold; (try dsimp only)) | walk1 | (dsimp only; walk1) | (leave1; walk_say "STEP leave1"; try dsimp only) | fail "no step"))
  k_with "M callWith ref" => ((k_here; (with_reducible show wpAny _ _ (callWith _ (Value.ref (OfNat.ofNat _)) _ _ _) _ _ _); k_dflt (refine' callWith_K ?k1q20 ?k2q20 ?_; (case k1q20 => k_asm); (case k2q20 => k_is); k_whole)))
  k_with "M execs cons" => ((k_here; (try dsimp only); with_reducible refine tk_sum ?_; intro tk9; (try (with_reducible rename Fr _ _ _ _ => Fx9; refine fr_let Fx9 ?_; intro mK Fy9; clear Fx9)); (try k_extra "MINE led")))
  k_with "M execs nil" => ((k_here; (try dsimp only); with_reducible refine tk_sum ?_; intro tk9))
  k_with "MINE lt" => (first | assumption | exact And.left (by assumption) | exact And.left (And.right (by assumption)) | exact And.left (And.right (And.right (by assumption))) | exact And.left (And.right (And.right (And.right (by assumption)))) | exact And.left (And.right (And.right (And.right (And.right (by assumption))))) | exact And.left (And.right (And.right (And.right (And.right (And.right (by assumption)))))) | exact And.left (And.right (And.right (And.right (And.right (And.right (And.right (by assumption))))))) | exact And.left (And.right (And.right (And.right (And.right (And.right (And.right (And.right (by assumption)))))))) | exact And.left (And.right (And.right (And.right (And.right (And.right (And.right (And.right (And.right (by assumption))))))))) | exact And.right (by assumption) | exact And.right (And.right (by assumption)) | exact And.right (And.right (And.right (by assumption))) | fail "not seen less")
  k_with "MINE mul" => (first | ((with_reducible refine mulL ?_); decide) | ((with_reducible refine mulR ?_); decide) | ((with_reducible refine' mulRb ?_ ?_); (focus assumption); decide) | ((with_reducible refine' mulLb ?_ ?_); (focus assumption); decide) | ((with_reducible refine mulRm ?_); decide) | ((with_reducible refine mulLm ?_); decide) | fail "not seen small")
  k_with "M binaryOp Mult int int" => ((k_here; k_dflt (refine' PyProof.Rows.mul_int ?_ ?hmq25; rotate_left; (case hmq25 => k_extra "MINE mul"))))
  k_with "M newTuple" => ((k_here; kup_bare; k_dflt (refine' newTupleV ?Fq26 ?Nq26 ?_ ?zq26; (case Fq26 => k_asm); (case Nq26 => k_asm); (case zq26 => kmk_size)); intro D' h' F' N' l1; (try k_lt l1); (try k_sweep)))
  k_with "MINE got" => ((intro v9 n9 h9 tk9 F9 N9 hp9; obtain ⟨hn9, t9, hv9⟩ := hp9; subst hn9 hv9; (try dsimp only); (try k_fold)))
  k_with "M call ref" => ((k_here; (with_reducible show wpAny _ _ (call (Value.ref 90) [Value.int _ _]) _ _ _); k_dflt (refine' Fn.use ?k1 ?k2 ?k3 ?k4 ?k5 ?kK (fn_led _ _ _ _ ) ?kd ?ku ?_; k_extra "MINE use"); k_extra "MINE got"))
  k_with "M call ref" => ((k_here; (with_reducible show wpAny _ _ (call (Value.ref 104) [Value.int _ _]) _ _ _); k_dflt (refine' Fn.use ?k1 ?k2 ?k3 ?k4 ?k5 ?kK (fn_address_of _ _ _ _ ) ?kd ?ku ?_; k_extra "MINE use"); k_extra "MINE got"))
  k_with "M call ref" => ((k_here; (with_reducible show wpAny _ _ (call (Value.ref 230) [Value.int _ _]) _ _ _); k_dflt (refine' Fn.use ?k1 ?k2 ?k3 ?k4 ?k5 ?kK (fn_words_of _ _ _ _ ) ?kd ?ku ?_; k_extra "MINE use"); k_extra "MINE got"))
  k_with "MINE cond" => (first | exact True.intro | ((try dsimp only [cP, cAnd]); (repeat' (first | exact True.intro | refine And.intro ?_ ?_)); all_goals first | k_extra "MINE mul" | mul_fits | decide | omega | assumption))
  k_with "M eval BinOp" => ((k_here; (try dsimp only); k_dflt (refine' pe_int ?Fq32 ?fq32 ?hq32 ?cq32 ?_; (case Fq32 => k_asm); (case fq32 => exact rfl); (case hq32 => exact rfl); (case cq32 => k_extra "MINE cond")); intro t9 tk9; (try dsimp only)))
  k_with "M isTrue Compare" => ((k_here; (try dsimp only); k_dflt (refine' pe_cmp ?Fq33 ?fq33 noOrc_ok ?hq33 ?iq33 ?jq33 ?bq33 ?cq33 ?_; (case Fq33 => k_asm); (case fq33 => exact rfl); (case hq33 => exact rfl); (case iq33 => exact rfl); (case jq33 => exact rfl); (case bq33 => exact rfl); (case cq33 => k_extra "MINE cond")); intro tk9; (try dsimp only)))
  k_with "M eval Tuple" => ((k_here; (try dsimp only); k_dflt (first | (refine' pe_tup2 ?Fq34 ?Nq34 ?fq34 noOrc_ok ?hq34 ?iq34 ?sq34 ?uq34 ?cq34 ?_; (case Fq34 => k_asm); (case Nq34 => k_asm); (case fq34 => exact rfl); (case hq34 => exact rfl); (case iq34 => exact rfl); (case sq34 => exact rfl); (case uq34 => exact rfl); (case cq34 => k_extra "MINE cond"); intro a9 h9 t9 u9 tk9 F9 N9 l9) | (refine' pe_tup3 ?Fq34 ?Nq34 ?fq34 noOrc_ok ?hq34 ?iq34 ?jq34 ?sq34 ?uq34 ?vq34 ?cq34 ?_; (case Fq34 => k_asm); (case Nq34 => k_asm); (case fq34 => exact rfl); (case hq34 => exact rfl); (case iq34 => exact rfl); (case jq34 => exact rfl); (case sq34 => exact rfl); (case uq34 => exact rfl); (case vq34 => exact rfl); (case cq34 => k_extra "MINE cond"); intro a9 h9 t9 u9 v9 tk9 F9 N9 l9)); (have l9c := l9); (try k_lt l9); (try k_sweep); (try dsimp only)))
  k_with "M execs cons" => ((k_here; (with_reducible show wpAny _ _ (execs (Stmt.Assign [Expr.Name _ _] _ _ :: _) _) _ _ _); (try dsimp only); k_dflt (refine' pe_one ?Fq35 ?Nq35 ?fq35 noOrc_ok ?hq35 ?xq35 ?sq35 ?cq35 ?_; (case Fq35 => k_asm); (case Nq35 => k_asm); (case fq35 => exact rfl); (case hq35 => exact rfl); (case xq35 => exact rfl); (case sq35 => with_unfolding_all exact rfl); (case cq35 => k_extra "MINE cond"); intro h9 t9 tk9 F9 N9); (try k_sweep)))
  k_with "M execs cons" => ((k_here; (with_reducible show wpAny _ _ (execs (Stmt.Assign [Expr.Tuple [Expr.Name _ _, Expr.Name _ _] _ _] (Expr.Tuple [_, _] _ _) _ :: _) _) _ _ _); (try dsimp only); k_dflt (refine' pe_two ?Fq36 ?Nq36 ?fq36 noOrc_ok ?kq36 ?hq36 ?iq36 ?xq36 ?yq36 ?sq36 ?wq36 ?uq36 ?vq36 ?cq36 ?_; (case Fq36 => k_asm); (case Nq36 => k_asm); (case fq36 => exact rfl); (case kq36 => exact rfl); (case hq36 => exact rfl); (case iq36 => exact rfl); (case xq36 => exact rfl); (case yq36 => exact rfl); (case sq36 => with_unfolding_all exact rfl); (case wq36 => with_unfolding_all exact rfl); (case uq36 => exact rfl); (case vq36 => exact rfl); (case cq36 => k_extra "MINE cond"); intro h9 t9 u9 tk9 F9 N9); (try k_sweep)))
  k_with "M eval Call" => (k_fold)
  k_with "M eval Tuple" => (k_fold)
  k_with "M eval BinOp" => (k_fold)
  k_with "M eval Subscript" => (k_fold)
  k_with "M eval IfExp" => (k_fold)
  k_with "M isTrue Compare" => (k_fold)
  k_with "M isTrue BoolOp" => (k_fold)
  k_with "M exec If" => (k_fold)
  k_with "M exec Return" => (k_fold)
  k_with "M call builtin:len" => ((k_here; (with_reducible show wpAny _ _ (call (Value.builtin "len") [Value.ref _]) _ _ _); k_dflt (refine' len_wl ?Nq46 ?mq46 ?iq46 ?fq46 ?_; (case Nq46 => k_asm); (case mq46 => k_mem); (case iq46 => assumption); (case fq46 => omega)); intro _ _))
  k_with "MINE t k_room" => (ktr_room)
  k_with "MINE t k_units" => (ktr_units)
  k_with "MINE t k_mem" => (first | with_reducible assumption | assumption | exact List.Mem.head _ | (refine' List.Mem.tail _ ?_; k_mem))
  k_with "MINE t k_all" => (first | assumption | exact cellNe (by assumption) (by k_extra "MINE sub") | exact List.forall_mem_nil _ | (refine' List.forall_mem_cons.mpr ⟨?aq50, ?bq50⟩; (case aq50 => first | k_ne | assumption); (case bq50 => k_all)))
  k_with "MINE t ktr_room" => (first | (refine' rm2 ?hq51 ?bq51; (case hq51 => assumption); (case bq51 => exact rfl)) | (refine' rm1 ?hq51 ?bq51; (case hq51 => assumption); (case bq51 => exact rfl)) | (refine' rm3 ?hq51 ?bq51; (case hq51 => assumption); (case bq51 => exact rfl)) | exact rm0 (by assumption) | fail "no room")
  k_with "MINE t ktr_units" => (first | (refine' rm2 ?hq52 ?bq52; (case hq52 => assumption); (case bq52 => exact rfl)) | (refine' rm1 ?hq52 ?bq52; (case hq52 => assumption); (case bq52 => exact rfl)) | (refine' rm3 ?hq52 ?bq52; (case hq52 => assumption); (case bq52 => exact rfl)) | exact rm0 (by assumption) | fail "no room")
  k_with "MINE t k_ne" => (with_reducible (first | assumption | exact Nat.ne_of_lt (by k_extra "MINE lt") | exact Nat.ne_of_gt (by k_extra "MINE lt") | exact Ne.symm (by assumption) | k_extra "MINE lt" | exact Ne.symm (by k_extra "MINE lt") | fail "not seen unlike"))
  trivial
theorem fn_draw {w : World} {news : Led} {wa wl : Addr} {o : Obj} {n : Int} {ts : Tok} (ho : WellO wl o) (hw : WlAt news wl) (hne : ∀ q ∈ news, q.1 ≠ wa) (hn : 0 < n) :
    Fn w 10 40 315 ((wa, o) :: news) [.ref wa, .int n ts] (fun v news' => ∃ o' r t, v = .int r t ∧ news' = (wa, o') :: news ∧ WellO wl o' ∧ 0 ≤ r ∧ r < n) := by
  obtain ⟨p, tp, q, tq, e, rfl, hp, hq, hq'⟩ := ho
  obtain ⟨vs, ns, e', h1, h2, h3, h4⟩ := hw
  (unfold Fn; k_fill; intro pg loose mean mg mb dp un gd cn cs a ccd cl outer A₀ base h₀ L m hp₀ gs₀ dr₀ tk₀ os₀ Q E B F X N T hk hd hu hret; refine wpAny_call ?_; k_dflt ktr_enter; refine wp_let ?_; intro Ak)
  k_steps
  all_goals (refine' hret _ ((wa, wellO wl (p + 1) _ _ _ e) :: news) _ _ (by k_asm) (by refine cb_drop (by k_asm) ?_; k_extra "MINE sub") ⟨_, _, _, rfl, rfl, ⟨_, _, _, _, _, rfl, by omega, Int.fmod_nonneg_of_pos _ (by decide), Int.fmod_lt_of_pos _ (by decide)⟩, Int.fmod_nonneg_of_pos _ hn, Int.fmod_lt_of_pos _ hn⟩)
theorem lines_D2 : True := by
  w_top off
  k_with_none
  k_with "MINE len" => (((try simp only [List.length_append, List.length_take, List.length_drop, List.length_replicate, List.length_cons, List.length_nil, cutL_length, beL_length, leL_length, partL_length, KBa_byteArr_length, List.length_map, rangeKs_length] at *); omega))
  k_with "MINE num" => (first | omega | assumption | (simp only [Int.reduceToNat, Int.reducePow, Int.reduceMul, Int.fmod_eq_emod_of_nonneg, Int.reduceLE]; omega) | k_extra "MINE len")
  k_with "M call type:bytes" => ((k_here; (with_reducible show wpAny _ _ (call (Value.type "bytes") [Value.int _ _]) _ _ _); refine' bz_call ?h0q2 ?hNq2 ?_; (case h0q2 => k_extra "MINE num"); (case hNq2 => k_extra "MINE num"); intro _ _))
  k_with "M call builtin:len" => ((k_here; (with_reducible show wpAny _ _ (call (Value.builtin "len") [Value.bytes (List.toArray _) _]) _ _ _); refine' len_L ?h0q3 ?_; (case h0q3 => k_extra "MINE num"); intro _ _))
  k_with "M binaryOp Add bytes bytes" => ((k_here; (with_reducible show wpAny _ _ (binaryOp Operator.Add (Value.bytes (List.toArray _) _) (Value.bytes (List.toArray _) _)) _ _ _); refine' add_L ?h0q4 ?_; (case h0q4 => k_extra "MINE num"); intro _ _))
  k_with "M call ref" => ((k_here; (with_reducible show wpAny _ _ (call (Value.ref _) [Value.bytes (List.toArray _) _, Value.str _ _]) _ _ _); kfb_any; k_dflt (refine' from_big ?h1q5 ?h2q5 ?h3q5 ?_; (case h1q5 => k_asm); (case h2q5 => k_mem); (case h3q5 => k_extra "MINE num")); intro _ _))
  k_with "M subscriptTail" => ((k_here; (with_reducible show wpAny _ _ (subscriptTail _ (Expr.Slice _ _ none _) (Value.bytes (List.toArray _) _) (Value.ref _)) _ _ _); (with_reducible rename Fr _ _ _ _ => F'); (with_reducible rename News _ _ _ _ => N'); (first | (refine' slice_ab (s := ⟨_, _, _, _, _⟩) F' N' ?aq6 ?bq6 ?zq6 ?_; (case aq6 => k_extra "MINE num"); (case bq6 => k_extra "MINE num"); (case zq6 => k_extra "MINE num")) | (refine' slice_to (s := ⟨_, _, _, _, _⟩) F' N' ?bq6 ?zq6 ?_; (case bq6 => k_extra "MINE num"); (case zq6 => k_extra "MINE num")) | (refine' slice_from (s := ⟨_, _, _, _, _⟩) F' N' ?aq6 ?zq6 ?_; (case aq6 => k_extra "MINE num"); (case zq6 => k_extra "MINE num"))); intro _ _ _ F' N'))
  k_with "M call builtin:int.to_bytes" => ((k_here; (with_reducible show wpAny _ _ (call (Value.builtin "int.to_bytes") [Value.int _ _, Value.int _ _, Value.str _ _]) _ _ _); (first | (refine' to_bigI ?aq7 ?cq7 ?bq7 ?dq7 ?_; (case aq7 => k_extra "MINE num"); (case cq7 => k_extra "MINE num"); (case bq7 => k_extra "MINE num"); (case dq7 => k_extra "MINE fits")) | (refine' to_littleI ?aq7 ?cq7 ?bq7 ?dq7 ?_; (case aq7 => k_extra "MINE num"); (case cq7 => k_extra "MINE num"); (case bq7 => k_extra "MINE num"); (case dq7 => k_extra "MINE fits"))); intro _ _))
  k_with "MINE fits" => (first | assumption | exact fits_num (by assumption) | (simp only [Int.reduceToNat, Nat.reducePow]; omega) | (simp only [Int.reduceToNat, Nat.reducePow, Int.reducePow, Int.reduceMul, Int.fmod_eq_emod_of_nonneg, Int.reduceLE]; omega))
  k_with "MINE enter" => ((unfold Fn; k_fill; intro p loose mean mg mb dp un gd cn cs a ccd cl outer A₀ base h₀ L m hp₀ gs₀ dr₀ tk₀ os₀ Q E B F X N T hk hd hu hret; refine wpAny_call ?_; k_dflt ktr_enter))
  k_with "MINE use" => (((case k1 => k_asm); (case k2 => k_asm); (case k3 => k_asm); (case k4 => k_asm); (case k5 => k_asm); (case kK => first | exact rfl | assumption); (case kd => ktr_room); (case ku => ktr_units)))
  k_with "M call builtin:pow" => ((k_here; (with_reducible show wpAny _ _ (call (Value.builtin "pow") [Value.int _ _, Value.int _ _, Value.int _ _]) _ _ _); refine' pow3I ?aq11 ?bq11 ?_; (case aq11 => first | decide | k_extra "MINE num"); (case bq11 => first | decide | k_extra "MINE num"); intro _ _ _))
  k_with "MINE sub" => (first | (intro q hq; exact hq) | ((with_reducible refine' List.forall_mem_cons.mpr ⟨?aq12, ?bq12⟩); (case aq12 => k_mem); (case bq12 => k_extra "MINE sub")) | (intro q hq; (repeat (first | exact hq | refine List.mem_cons_of_mem _ ?_))))
  k_with "M call type:bytes" => ((k_here; (with_reducible show wpAny _ _ (call (Value.type "bytes") [Value.bytes _ _]) _ _ _); refine bb_call ?_))
  k_with "MINE pick" => ((repeat (first | exact Pick.head | apply Pick.tail)))
  k_with "M call builtin:max" => ((k_here; (with_reducible show wpAny _ _ (call (Value.builtin "max") [Value.int _ _, Value.int _ _]) _ _ _); k_dflt (refine' maxI ?hq15 ?Fq15 ?Nq15 ?_; (case hq15 => rfl); (case Fq15 => k_asm); (case Nq15 => k_asm)); intro _ _ _ F' N'; (try k_sweep)))
  k_with "M call builtin:min" => ((k_here; (with_reducible show wpAny _ _ (call (Value.builtin "min") [Value.int _ _, Value.int _ _]) _ _ _); k_dflt (refine' minI ?hq16 ?Fq16 ?Nq16 ?_; (case hq16 => rfl); (case Fq16 => k_asm); (case Nq16 => k_asm)); intro _ _ _ F' N'; (try k_sweep)))
  k_with "M call builtin:max" => ((k_here; (with_reducible show wpAny _ _ (call (Value.builtin "max") [Value.int _ _, Value.int _ _, Value.int _ _]) _ _ _); k_dflt (refine' max3I ?hq17 ?Fq17 ?Nq17 ?_; (case hq17 => rfl); (case Fq17 => k_asm); (case Nq17 => k_asm)); intro _ _ _ F' N'; (try k_sweep)))
  k_with "MINE subD" => ((intro q hq; exact List.mem_cons_of_mem _ hq))
  k_with "MINE steps" => (repeat' (first | (k_unfold; (try dsimp only)) | walk1 | (dsimp only; walk1) | (leave1; walk_say "STEP leave1"; try dsimp only) | fail "no step"))
  k_with "M callWith ref" => ((k_here; (with_reducible show wpAny _ _ (callWith _ (Value.ref (OfNat.ofNat _)) _ _ _) _ _ _); k_dflt (refine' callWith_K ?k1q20 ?k2q20 ?_; (case k1q20 => k_asm); (case k2q20 => k_is); k_whole)))
  k_with "M execs cons" => ((k_here; (try dsimp only); with_reducible refine tk_sum ?_; intro tk9; (try (with_reducible rename Fr _ _ _ _ => Fx9; refine fr_let Fx9 ?_; intro mK Fy9; clear Fx9)); (try k_extra "MINE led")))
  k_with "M execs nil" => ((k_here; (try dsimp only); with_reducible refine tk_sum ?_; intro tk9))
  k_with "MINE lt" => (first | assumption | exact And.left (by assumption) | exact And.left (And.right (by assumption)) | exact And.left (And.right (And.right (by assumption))) | exact And.left (And.right (And.right (And.right (by assumption)))) | exact And.left (And.right (And.right (And.right (And.right (by assumption))))) | exact And.left (And.right (And.right (And.right (And.right (And.right (by assumption)))))) | exact And.left (And.right (And.right (And.right (And.right (And.right (And.right (by assumption))))))) | exact And.left (And.right (And.right (And.right (And.right (And.right (And.right (And.right (by assumption)))))))) | exact And.left (And.right (And.right (And.right (And.right (And.right (And.right (And.right (And.right (by assumption))))))))) | exact And.right (by assumption) | exact And.right (And.right (by assumption)) | exact And.right (And.right (And.right (by assumption))) | fail "not seen less")
  k_with "MINE mul" => (first | ((with_reducible refine mulL ?_); decide) | ((with_reducible refine mulR ?_); decide) | ((with_reducible refine' mulRb ?_ ?_); (focus assumption); decide) | ((with_reducible refine' mulLb ?_ ?_); (focus assumption); decide) | ((with_reducible refine mulRm ?_); decide) | ((with_reducible refine mulLm ?_); decide) | fail "not seen small")
  k_with "M binaryOp Mult int int" => ((k_here; k_dflt (refine' PyProof.Rows.mul_int ?_ ?hmq25; rotate_left; (case hmq25 => k_extra "MINE mul"))))
  k_with "M newTuple" => ((k_here; kup_bare; k_dflt (refine' newTupleV ?Fq26 ?Nq26 ?_ ?zq26; (case Fq26 => k_asm); (case Nq26 => k_asm); (case zq26 => kmk_size)); intro D' h' F' N' l1; (try k_lt l1); (try k_sweep)))
  k_with "MINE gotW" => ((intro v9 n9 h9 tk9 F9 N9 hp9; obtain ⟨o9, r9, t9, hv9, hn9, hw9, hr9, hr9'⟩ := hp9; subst hn9 hv9; (try dsimp only); (try k_fold)))
  k_with "MINE got" => ((intro v9 n9 h9 tk9 F9 N9 hp9; obtain ⟨hn9, t9, hv9⟩ := hp9; subst hn9 hv9; (try dsimp only); (try k_fold)))
  k_with "M call ref" => ((k_here; (with_reducible show wpAny _ _ (call (Value.ref 90) [Value.int _ _]) _ _ _); k_dflt (refine' Fn.use ?k1 ?k2 ?k3 ?k4 ?k5 ?kK (fn_led _ _ _ _ ) ?kd ?ku ?_; k_extra "MINE use"); k_extra "MINE got"))
  k_with "M call ref" => ((k_here; (with_reducible show wpAny _ _ (call (Value.ref 104) [Value.int _ _]) _ _ _); k_dflt (refine' Fn.use ?k1 ?k2 ?k3 ?k4 ?k5 ?kK (fn_address_of _ _ _ _ ) ?kd ?ku ?_; k_extra "MINE use"); k_extra "MINE got"))
  k_with "M call ref" => ((k_here; (with_reducible show wpAny _ _ (call (Value.ref 230) [Value.int _ _]) _ _ _); k_dflt (refine' Fn.use ?k1 ?k2 ?k3 ?k4 ?k5 ?kK (fn_words_of _ _ _ _ ) ?kd ?ku ?_; k_extra "MINE use"); k_extra "MINE got"))
  k_with "M call ref" => ((k_here; (with_reducible show wpAny _ _ (call (Value.ref 315) [Value.ref _, Value.int _ _]) _ _ _); k_dflt (refine' Fn.useP ?k1 ?k2 ?k3 ?k4 ?k5 ?kK ?kpq32 (fn_draw  ?c1q32 ?c2q32 ?c3q32 ?c4q32) ?kd ?ku ?_; k_extra "MINE use"; (case kpq32 => k_extra "MINE pick"); (case c1q32 => first | assumption | decide | omega); (case c2q32 => first | assumption | exact WlAt.more (by assumption) (by k_extra "MINE sub")); (case c3q32 => k_all); (case c4q32 => first | assumption | decide | omega)); k_extra "MINE gotW"))
  k_with "MINE cond" => (first | exact True.intro | ((try dsimp only [cP, cAnd]); (repeat' (first | exact True.intro | refine And.intro ?_ ?_)); all_goals first | k_extra "MINE mul" | mul_fits | decide | omega | assumption))
  k_with "M eval BinOp" => ((k_here; (try dsimp only); k_dflt (refine' pe_int ?Fq34 ?fq34 ?hq34 ?cq34 ?_; (case Fq34 => k_asm); (case fq34 => exact rfl); (case hq34 => exact rfl); (case cq34 => k_extra "MINE cond")); intro t9 tk9; (try dsimp only)))
  k_with "M isTrue Compare" => ((k_here; (try dsimp only); k_dflt (refine' pe_cmp ?Fq35 ?fq35 noOrc_ok ?hq35 ?iq35 ?jq35 ?bq35 ?cq35 ?_; (case Fq35 => k_asm); (case fq35 => exact rfl); (case hq35 => exact rfl); (case iq35 => exact rfl); (case jq35 => exact rfl); (case bq35 => exact rfl); (case cq35 => k_extra "MINE cond")); intro tk9; (try dsimp only)))
  k_with "M eval Tuple" => ((k_here; (try dsimp only); k_dflt (first | (refine' pe_tup2 ?Fq36 ?Nq36 ?fq36 noOrc_ok ?hq36 ?iq36 ?sq36 ?uq36 ?cq36 ?_; (case Fq36 => k_asm); (case Nq36 => k_asm); (case fq36 => exact rfl); (case hq36 => exact rfl); (case iq36 => exact rfl); (case sq36 => exact rfl); (case uq36 => exact rfl); (case cq36 => k_extra "MINE cond"); intro a9 h9 t9 u9 tk9 F9 N9 l9) | (refine' pe_tup3 ?Fq36 ?Nq36 ?fq36 noOrc_ok ?hq36 ?iq36 ?jq36 ?sq36 ?uq36 ?vq36 ?cq36 ?_; (case Fq36 => k_asm); (case Nq36 => k_asm); (case fq36 => exact rfl); (case hq36 => exact rfl); (case iq36 => exact rfl); (case jq36 => exact rfl); (case sq36 => exact rfl); (case uq36 => exact rfl); (case vq36 => exact rfl); (case cq36 => k_extra "MINE cond"); intro a9 h9 t9 u9 v9 tk9 F9 N9 l9)); (have l9c := l9); (try k_lt l9); (try k_sweep); (try dsimp only)))
  k_with "M execs cons" => ((k_here; (with_reducible show wpAny _ _ (execs (Stmt.Assign [Expr.Name _ _] _ _ :: _) _) _ _ _); (try dsimp only); k_dflt (refine' pe_one ?Fq37 ?Nq37 ?fq37 noOrc_ok ?hq37 ?xq37 ?sq37 ?cq37 ?_; (case Fq37 => k_asm); (case Nq37 => k_asm); (case fq37 => exact rfl); (case hq37 => exact rfl); (case xq37 => exact rfl); (case sq37 => with_unfolding_all exact rfl); (case cq37 => k_extra "MINE cond"); intro h9 t9 tk9 F9 N9); (try k_sweep)))
  k_with "M execs cons" => ((k_here; (with_reducible show wpAny _ _ (execs (Stmt.Assign [Expr.Tuple [Expr.Name _ _, Expr.Name _ _] _ _] (Expr.Tuple [_, _] _ _) _ :: _) _) _ _ _); (try dsimp only); k_dflt (refine' pe_two ?Fq38 ?Nq38 ?fq38 noOrc_ok ?kq38 ?hq38 ?iq38 ?xq38 ?yq38 ?sq38 ?wq38 ?uq38 ?vq38 ?cq38 ?_; (case Fq38 => k_asm); (case Nq38 => k_asm); (case fq38 => exact rfl); (case kq38 => exact rfl); (case hq38 => exact rfl); (case iq38 => exact rfl); (case xq38 => exact rfl); (case yq38 => exact rfl); (case sq38 => with_unfolding_all exact rfl); (case wq38 => with_unfolding_all exact rfl); (case uq38 => exact rfl); (case vq38 => exact rfl); (case cq38 => k_extra "MINE cond"); intro h9 t9 u9 tk9 F9 N9); (try k_sweep)))
  k_with "M eval Call" => (k_fold)
  k_with "M eval Tuple" => (k_fold)
  k_with "M eval BinOp" => (k_fold)
  k_with "M eval Subscript" => (k_fold)
  k_with "M eval IfExp" => (k_fold)
  k_with "M isTrue Compare" => (k_fold)
  k_with "M isTrue BoolOp" => (k_fold)
  k_with "M exec If" => (k_fold)
  k_with "M exec Return" => (k_fold)
  k_with "MINE t k_room" => (ktr_room)
  k_with "MINE t k_units" => (ktr_units)
  k_with "MINE t k_mem" => (first | with_reducible assumption | assumption | exact List.Mem.head _ | (refine' List.Mem.tail _ ?_; k_mem))
  k_with "MINE t k_all" => (first | assumption | exact cellNe (by assumption) (by k_extra "MINE sub") | exact List.forall_mem_nil _ | (refine' List.forall_mem_cons.mpr ⟨?aq51, ?bq51⟩; (case aq51 => first | k_ne | assumption); (case bq51 => k_all)))
  k_with "MINE t ktr_room" => (first | (refine' rm2 ?hq52 ?bq52; (case hq52 => assumption); (case bq52 => exact rfl)) | (refine' rm1 ?hq52 ?bq52; (case hq52 => assumption); (case bq52 => exact rfl)) | (refine' rm3 ?hq52 ?bq52; (case hq52 => assumption); (case bq52 => exact rfl)) | exact rm0 (by assumption) | fail "no room")
  k_with "MINE t ktr_units" => (first | (refine' rm2 ?hq53 ?bq53; (case hq53 => assumption); (case bq53 => exact rfl)) | (refine' rm1 ?hq53 ?bq53; (case hq53 => assumption); (case bq53 => exact rfl)) | (refine' rm3 ?hq53 ?bq53; (case hq53 => assumption); (case bq53 => exact rfl)) | exact rm0 (by assumption) | fail "no room")
  k_with "MINE t k_ne" => (with_reducible (first | assumption | exact Nat.ne_of_lt (by k_extra "MINE lt") | exact Nat.ne_of_gt (by k_extra "MINE lt") | exact Ne.symm (by assumption) | k_extra "MINE lt" | exact Ne.symm (by k_extra "MINE lt") | fail "not seen unlike"))
  trivial
theorem fn_bent {w : World} {news : Led} {wa wl : Addr} {o : Obj} {l : List UInt8} {t : Tok} (ho : WellO wl o) (hw : WlAt news wl) (hne : ∀ q ∈ news, q.1 ≠ wa) (hl : l.length ≤ 1000) :
    Fn w 20 80 355 ((wa, o) :: news) [.ref wa, .bytes l.toArray t] (fun v news' => ∃ o' l' t', v = .bytes (List.toArray l') t' ∧ news' = (wa, o') :: news ∧ WellO wl o' ∧ ((∃ k, l' = l.take k) ∨ l' = l ++ [7, 0, 9] ∨ l' = l)) := by
  (unfold Fn; k_fill; intro pg loose mean mg mb dp un gd cn cs a ccd cl outer A₀ base h₀ L m hp₀ gs₀ dr₀ tk₀ os₀ Q E B F X N T hk hd hu hret; refine wpAny_call ?_; k_dflt ktr_enter; refine wp_let ?_; intro Ak)
  k_steps
  · refine' hret _ ((wa, _) :: news) _ _ (by k_asm) (by refine cb_drop (by k_asm) ?_; k_extra "MINE sub") ⟨_, _, _, rfl, rfl, by assumption, .inl ⟨_, rfl⟩⟩
  · refine' hret _ ((wa, _) :: news) _ _ (by k_asm) (by refine cb_drop (by k_asm) ?_; k_extra "MINE sub") ⟨_, _, _, rfl, rfl, by assumption, .inr (.inl rfl)⟩
  · refine' hret _ ((wa, _) :: news) _ _ (by k_asm) (by refine cb_drop (by k_asm) ?_; k_extra "MINE sub") ⟨_, _, _, rfl, rfl, by assumption, .inr (.inr rfl)⟩
theorem lines_D3 : True := by
  w_top off
  k_with_none
  k_with "MINE len" => (((try simp only [List.length_append, List.length_take, List.length_drop, List.length_replicate, List.length_cons, List.length_nil, cutL_length, beL_length, leL_length, partL_length, KBa_byteArr_length, List.length_map, rangeKs_length] at *); omega))
  k_with "MINE num" => (first | omega | assumption | (simp only [Int.reduceToNat, Int.reducePow, Int.reduceMul, Int.fmod_eq_emod_of_nonneg, Int.reduceLE]; omega) | k_extra "MINE len")
  k_with "M call type:bytes" => ((k_here; (with_reducible show wpAny _ _ (call (Value.type "bytes") [Value.int _ _]) _ _ _); refine' bz_call ?h0q2 ?hNq2 ?_; (case h0q2 => k_extra "MINE num"); (case hNq2 => k_extra "MINE num"); intro _ _))
  k_with "M call builtin:len" => ((k_here; (with_reducible show wpAny _ _ (call (Value.builtin "len") [Value.bytes (List.toArray _) _]) _ _ _); refine' len_L ?h0q3 ?_; (case h0q3 => k_extra "MINE num"); intro _ _))
  k_with "M binaryOp Add bytes bytes" => ((k_here; (with_reducible show wpAny _ _ (binaryOp Operator.Add (Value.bytes (List.toArray _) _) (Value.bytes (List.toArray _) _)) _ _ _); refine' add_L ?h0q4 ?_; (case h0q4 => k_extra "MINE num"); intro _ _))
  k_with "M call ref" => ((k_here; (with_reducible show wpAny _ _ (call (Value.ref _) [Value.bytes (List.toArray _) _, Value.str _ _]) _ _ _); kfb_any; k_dflt (refine' from_big ?h1q5 ?h2q5 ?h3q5 ?_; (case h1q5 => k_asm); (case h2q5 => k_mem); (case h3q5 => k_extra "MINE num")); intro _ _))
  k_with "M subscriptTail" => ((k_here; (with_reducible show wpAny _ _ (subscriptTail _ (Expr.Slice _ _ none _) (Value.bytes (List.toArray _) _) (Value.ref _)) _ _ _); (with_reducible rename Fr _ _ _ _ => F'); (with_reducible rename News _ _ _ _ => N'); (first | (refine' slice_ab (s := ⟨_, _, _, _, _⟩) F' N' ?aq6 ?bq6 ?zq6 ?_; (case aq6 => k_extra "MINE num"); (case bq6 => k_extra "MINE num"); (case zq6 => k_extra "MINE num")) | (refine' slice_to (s := ⟨_, _, _, _, _⟩) F' N' ?bq6 ?zq6 ?_; (case bq6 => k_extra "MINE num"); (case zq6 => k_extra "MINE num")) | (refine' slice_from (s := ⟨_, _, _, _, _⟩) F' N' ?aq6 ?zq6 ?_; (case aq6 => k_extra "MINE num"); (case zq6 => k_extra "MINE num"))); intro _ _ _ F' N'))
  k_with "M call builtin:int.to_bytes" => ((k_here; (with_reducible show wpAny _ _ (call (Value.builtin "int.to_bytes") [Value.int _ _, Value.int _ _, Value.str _ _]) _ _ _); (first | (refine' to_bigI ?aq7 ?cq7 ?bq7 ?dq7 ?_; (case aq7 => k_extra "MINE num"); (case cq7 => k_extra "MINE num"); (case bq7 => k_extra "MINE num"); (case dq7 => k_extra "MINE fits")) | (refine' to_littleI ?aq7 ?cq7 ?bq7 ?dq7 ?_; (case aq7 => k_extra "MINE num"); (case cq7 => k_extra "MINE num"); (case bq7 => k_extra "MINE num"); (case dq7 => k_extra "MINE fits"))); intro _ _))
  k_with "MINE fits" => (first | assumption | exact fits_num (by assumption) | (simp only [Int.reduceToNat, Nat.reducePow]; omega) | (simp only [Int.reduceToNat, Nat.reducePow, Int.reducePow, Int.reduceMul, Int.fmod_eq_emod_of_nonneg, Int.reduceLE]; omega))
  k_with "MINE enter" => ((unfold Fn; k_fill; intro p loose mean mg mb dp un gd cn cs a ccd cl outer A₀ base h₀ L m hp₀ gs₀ dr₀ tk₀ os₀ Q E B F X N T hk hd hu hret; refine wpAny_call ?_; k_dflt ktr_enter))
  k_with "MINE use" => (((case k1 => k_asm); (case k2 => k_asm); (case k3 => k_asm); (case k4 => k_asm); (case k5 => k_asm); (case kK => first | exact rfl | assumption); (case kd => ktr_room); (case ku => ktr_units)))
  k_with "M call builtin:pow" => ((k_here; (with_reducible show wpAny _ _ (call (Value.builtin "pow") [Value.int _ _, Value.int _ _, Value.int _ _]) _ _ _); refine' pow3I ?aq11 ?bq11 ?_; (case aq11 => first | decide | k_extra "MINE num"); (case bq11 => first | decide | k_extra "MINE num"); intro _ _ _))
  k_with "MINE sub" => (first | (intro q hq; exact hq) | ((with_reducible refine' List.forall_mem_cons.mpr ⟨?aq12, ?bq12⟩); (case aq12 => k_mem); (case bq12 => k_extra "MINE sub")) | (intro q hq; (repeat (first | exact hq | refine List.mem_cons_of_mem _ ?_))))
  k_with "M call type:bytes" => ((k_here; (with_reducible show wpAny _ _ (call (Value.type "bytes") [Value.bytes _ _]) _ _ _); refine bb_call ?_))
  k_with "MINE pick" => ((repeat (first | exact Pick.head | apply Pick.tail)))
  k_with "M call builtin:max" => ((k_here; (with_reducible show wpAny _ _ (call (Value.builtin "max") [Value.int _ _, Value.int _ _]) _ _ _); k_dflt (refine' maxI ?hq15 ?Fq15 ?Nq15 ?_; (case hq15 => rfl); (case Fq15 => k_asm); (case Nq15 => k_asm)); intro _ _ _ F' N'; (try k_sweep)))
  k_with "M call builtin:min" => ((k_here; (with_reducible show wpAny _ _ (call (Value.builtin "min") [Value.int _ _, Value.int _ _]) _ _ _); k_dflt (refine' minI ?hq16 ?Fq16 ?Nq16 ?_; (case hq16 => rfl); (case Fq16 => k_asm); (case Nq16 => k_asm)); intro _ _ _ F' N'; (try k_sweep)))
  k_with "M call builtin:max" => ((k_here; (with_reducible show wpAny _ _ (call (Value.builtin "max") [Value.int _ _, Value.int _ _, Value.int _ _]) _ _ _); k_dflt (refine' max3I ?hq17 ?Fq17 ?Nq17 ?_; (case hq17 => rfl); (case Fq17 => k_asm); (case Nq17 => k_asm)); intro _ _ _ F' N'; (try k_sweep)))
  k_with "MINE subD" => ((intro q hq; exact List.mem_cons_of_mem _ hq))
  k_with "MINE steps" => (repeat' (first | (k_unfold; (try dsimp only)) | walk1 | (dsimp only; walk1) | (leave1; walk_say "STEP leave1"; try dsimp only) | fail "no step"))
  k_with "M callWith ref" => ((k_here; (with_reducible show wpAny _ _ (callWith _ (Value.ref (OfNat.ofNat _)) _ _ _) _ _ _); k_dflt (refine' callWith_K ?k1q20 ?k2q20 ?_; (case k1q20 => k_asm); (case k2q20 => k_is); k_whole)))
  k_with "M execs cons" => ((k_here; (try dsimp only); with_reducible refine tk_sum ?_; intro tk9; (try (with_reducible rename Fr _ _ _ _ => Fx9; refine fr_let Fx9 ?_; intro mK Fy9; clear Fx9)); (try k_extra "MINE led")))
  k_with "M execs nil" => ((k_here; (try dsimp only); with_reducible refine tk_sum ?_; intro tk9))
  k_with "MINE lt" => (first | assumption | exact And.left (by assumption) | exact And.left (And.right (by assumption)) | exact And.left (And.right (And.right (by assumption))) | exact And.left (And.right (And.right (And.right (by assumption)))) | exact And.left (And.right (And.right (And.right (And.right (by assumption))))) | exact And.left (And.right (And.right (And.right (And.right (And.right (by assumption)))))) | exact And.left (And.right (And.right (And.right (And.right (And.right (And.right (by assumption))))))) | exact And.left (And.right (And.right (And.right (And.right (And.right (And.right (And.right (by assumption)))))))) | exact And.left (And.right (And.right (And.right (And.right (And.right (And.right (And.right (And.right (by assumption))))))))) | exact And.right (by assumption) | exact And.right (And.right (by assumption)) | exact And.right (And.right (And.right (by assumption))) | fail "not seen less")
  k_with "MINE mul" => (first | ((with_reducible refine mulL ?_); decide) | ((with_reducible refine mulR ?_); decide) | ((with_reducible refine' mulRb ?_ ?_); (focus assumption); decide) | ((with_reducible refine' mulLb ?_ ?_); (focus assumption); decide) | ((with_reducible refine mulRm ?_); decide) | ((with_reducible refine mulLm ?_); decide) | fail "not seen small")
  k_with "M binaryOp Mult int int" => ((k_here; k_dflt (refine' PyProof.Rows.mul_int ?_ ?hmq25; rotate_left; (case hmq25 => k_extra "MINE mul"))))
  k_with "M newTuple" => ((k_here; kup_bare; k_dflt (refine' newTupleV ?Fq26 ?Nq26 ?_ ?zq26; (case Fq26 => k_asm); (case Nq26 => k_asm); (case zq26 => kmk_size)); intro D' h' F' N' l1; (try k_lt l1); (try k_sweep)))
  k_with "MINE gotW" => ((intro v9 n9 h9 tk9 F9 N9 hp9; obtain ⟨o9, r9, t9, hv9, hn9, hw9, hr9, hr9'⟩ := hp9; subst hn9 hv9; (try dsimp only); (try k_fold)))
  k_with "MINE got" => ((intro v9 n9 h9 tk9 F9 N9 hp9; obtain ⟨hn9, t9, hv9⟩ := hp9; subst hn9 hv9; (try dsimp only); (try k_fold)))
  k_with "M call ref" => ((k_here; (with_reducible show wpAny _ _ (call (Value.ref 90) [Value.int _ _]) _ _ _); k_dflt (refine' Fn.use ?k1 ?k2 ?k3 ?k4 ?k5 ?kK (fn_led _ _ _ _ ) ?kd ?ku ?_; k_extra "MINE use"); k_extra "MINE got"))
  k_with "M call ref" => ((k_here; (with_reducible show wpAny _ _ (call (Value.ref 104) [Value.int _ _]) _ _ _); k_dflt (refine' Fn.use ?k1 ?k2 ?k3 ?k4 ?k5 ?kK (fn_address_of _ _ _ _ ) ?kd ?ku ?_; k_extra "MINE use"); k_extra "MINE got"))
  k_with "M call ref" => ((k_here; (with_reducible show wpAny _ _ (call (Value.ref 230) [Value.int _ _]) _ _ _); k_dflt (refine' Fn.use ?k1 ?k2 ?k3 ?k4 ?k5 ?kK (fn_words_of _ _ _ _ ) ?kd ?ku ?_; k_extra "MINE use"); k_extra "MINE got"))
  k_with "M call ref" => ((k_here; (with_reducible show wpAny _ _ (call (Value.ref 315) [Value.ref _, Value.int _ _]) _ _ _); k_dflt (refine' Fn.useP ?k1 ?k2 ?k3 ?k4 ?k5 ?kK ?kpq32 (fn_draw  ?c1q32 ?c2q32 ?c3q32 ?c4q32) ?kd ?ku ?_; k_extra "MINE use"; (case kpq32 => k_extra "MINE pick"); (case c1q32 => first | assumption | decide | omega); (case c2q32 => first | assumption | exact WlAt.more (by assumption) (by k_extra "MINE sub")); (case c3q32 => k_all); (case c4q32 => first | assumption | decide | omega)); k_extra "MINE gotW"))
  k_with "MINE cond" => (first | exact True.intro | ((try dsimp only [cP, cAnd]); (repeat' (first | exact True.intro | refine And.intro ?_ ?_)); all_goals first | k_extra "MINE mul" | mul_fits | decide | omega | assumption))
  k_with "M eval BinOp" => ((k_here; (try dsimp only); k_dflt (refine' pe_int ?Fq34 ?fq34 ?hq34 ?cq34 ?_; (case Fq34 => k_asm); (case fq34 => exact rfl); (case hq34 => exact rfl); (case cq34 => k_extra "MINE cond")); intro t9 tk9; (try dsimp only)))
  k_with "M isTrue Compare" => ((k_here; (try dsimp only); k_dflt (refine' pe_cmp ?Fq35 ?fq35 noOrc_ok ?hq35 ?iq35 ?jq35 ?bq35 ?cq35 ?_; (case Fq35 => k_asm); (case fq35 => exact rfl); (case hq35 => exact rfl); (case iq35 => exact rfl); (case jq35 => exact rfl); (case bq35 => exact rfl); (case cq35 => k_extra "MINE cond")); intro tk9; (try dsimp only)))
  k_with "M eval Tuple" => ((k_here; (try dsimp only); k_dflt (first | (refine' pe_tup2 ?Fq36 ?Nq36 ?fq36 noOrc_ok ?hq36 ?iq36 ?sq36 ?uq36 ?cq36 ?_; (case Fq36 => k_asm); (case Nq36 => k_asm); (case fq36 => exact rfl); (case hq36 => exact rfl); (case iq36 => exact rfl); (case sq36 => exact rfl); (case uq36 => exact rfl); (case cq36 => k_extra "MINE cond"); intro a9 h9 t9 u9 tk9 F9 N9 l9) | (refine' pe_tup3 ?Fq36 ?Nq36 ?fq36 noOrc_ok ?hq36 ?iq36 ?jq36 ?sq36 ?uq36 ?vq36 ?cq36 ?_; (case Fq36 => k_asm); (case Nq36 => k_asm); (case fq36 => exact rfl); (case hq36 => exact rfl); (case iq36 => exact rfl); (case jq36 => exact rfl); (case sq36 => exact rfl); (case uq36 => exact rfl); (case vq36 => exact rfl); (case cq36 => k_extra "MINE cond"); intro a9 h9 t9 u9 v9 tk9 F9 N9 l9)); (have l9c := l9); (try k_lt l9); (try k_sweep); (try dsimp only)))
  k_with "M execs cons" => ((k_here; (with_reducible show wpAny _ _ (execs (Stmt.Assign [Expr.Name _ _] _ _ :: _) _) _ _ _); (try dsimp only); k_dflt (refine' pe_one ?Fq37 ?Nq37 ?fq37 noOrc_ok ?hq37 ?xq37 ?sq37 ?cq37 ?_; (case Fq37 => k_asm); (case Nq37 => k_asm); (case fq37 => exact rfl); (case hq37 => exact rfl); (case xq37 => exact rfl); (case sq37 => with_unfolding_all exact rfl); (case cq37 => k_extra "MINE cond"); intro h9 t9 tk9 F9 N9); (try k_sweep)))
  k_with "M execs cons" => ((k_here; (with_reducible show wpAny _ _ (execs (Stmt.Assign [Expr.Tuple [Expr.Name _ _, Expr.Name _ _] _ _] (Expr.Tuple [_, _] _ _) _ :: _) _) _ _ _); (try dsimp only); k_dflt (refine' pe_two ?Fq38 ?Nq38 ?fq38 noOrc_ok ?kq38 ?hq38 ?iq38 ?xq38 ?yq38 ?sq38 ?wq38 ?uq38 ?vq38 ?cq38 ?_; (case Fq38 => k_asm); (case Nq38 => k_asm); (case fq38 => exact rfl); (case kq38 => exact rfl); (case hq38 => exact rfl); (case iq38 => exact rfl); (case xq38 => exact rfl); (case yq38 => exact rfl); (case sq38 => with_unfolding_all exact rfl); (case wq38 => with_unfolding_all exact rfl); (case uq38 => exact rfl); (case vq38 => exact rfl); (case cq38 => k_extra "MINE cond"); intro h9 t9 u9 tk9 F9 N9); (try k_sweep)))
  k_with "M eval Call" => (k_fold)
  k_with "M eval Tuple" => (k_fold)
  k_with "M eval BinOp" => (k_fold)
  k_with "M eval Subscript" => (k_fold)
  k_with "M eval IfExp" => (k_fold)
  k_with "M isTrue Compare" => (k_fold)
  k_with "M isTrue BoolOp" => (k_fold)
  k_with "M exec If" => (k_fold)
  k_with "M exec Return" => (k_fold)
  k_with "MINE mul" => (exact d3M (by assumption) (by assumption) (by assumption))
  k_with "M call type:bytes" => ((k_here; (with_reducible show wpAny _ _ (call (Value.type "bytes") [Value.ref _]) _ _ _); k_dflt (refine' make_L ?kbaFq49 ?kbaNq49 ?kbahq49 ?kbalq49 ?kbaiq49 ?kbarq49 ?kbanq49 ?_; (case kbaFq49 => k_asm); (case kbaNq49 => k_asm); (case kbahq49 => rfl); (case kbalq49 => kba_isList); (case kbaiq49 => kba_listInts); (case kbarq49 => kba_in); (case kbanq49 => kba_size)); intro _ _ _ F' N'))
  k_with "MINE t k_room" => (ktr_room)
  k_with "MINE t k_units" => (ktr_units)
  k_with "MINE t k_mem" => (first | with_reducible assumption | assumption | exact List.Mem.head _ | (refine' List.Mem.tail _ ?_; k_mem))
  k_with "MINE t k_all" => (first | assumption | exact cellNe (by assumption) (by k_extra "MINE sub") | exact List.forall_mem_nil _ | (refine' List.forall_mem_cons.mpr ⟨?aq53, ?bq53⟩; (case aq53 => first | k_ne | assumption); (case bq53 => k_all)))
  k_with "MINE t ktr_room" => (first | (refine' rm2 ?hq54 ?bq54; (case hq54 => assumption); (case bq54 => exact rfl)) | (refine' rm1 ?hq54 ?bq54; (case hq54 => assumption); (case bq54 => exact rfl)) | (refine' rm3 ?hq54 ?bq54; (case hq54 => assumption); (case bq54 => exact rfl)) | exact rm0 (by assumption) | fail "no room")
  k_with "MINE t ktr_units" => (first | (refine' rm2 ?hq55 ?bq55; (case hq55 => assumption); (case bq55 => exact rfl)) | (refine' rm1 ?hq55 ?bq55; (case hq55 => assumption); (case bq55 => exact rfl)) | (refine' rm3 ?hq55 ?bq55; (case hq55 => assumption); (case bq55 => exact rfl)) | exact rm0 (by assumption) | fail "no room")
  k_with "MINE t k_ne" => (with_reducible (first | assumption | exact Nat.ne_of_lt (by k_extra "MINE lt") | exact Nat.ne_of_gt (by k_extra "MINE lt") | exact Ne.symm (by assumption) | k_extra "MINE lt" | exact Ne.symm (by k_extra "MINE lt") | fail "not seen unlike"))
  trivial
theorem fn_octets {w : World} {news : Led} {wa wl : Addr} {o : Obj} {n : Nat} {t : Tok} (ho : WellO wl o) (hw : WlAt news wl) (hne : ∀ q ∈ news, q.1 ≠ wa) (hn : n ≤ 100) :
    Fn w 20 80 367 ((wa, o) :: news) [.ref wa, .int (n : Int) t] (fun v news' => ∃ o' l' t', v = .bytes (List.toArray l') t' ∧ news' = (wa, o') :: news ∧ WellO wl o' ∧ l'.length = n) := by
  (unfold Fn; k_fill; intro pg loose mean mg mb dp un gd cn cs a ccd cl outer A₀ base h₀ L m hp₀ gs₀ dr₀ tk₀ os₀ Q E B F X N T hk hd hu hret; refine wpAny_call ?_; k_dflt (refine' code_defC ?k1 ?k2 ?k3 ?k4 ?k5 ?kA ?kF ?kK ?k6 ?k7 ?k8 ?k9 ?kB ?kD ?_ ?c2 ?c3 ?c4; (case kA => exact rfl); (case kF => exact rfl); (case kK => assumption); (case k1 => k_asm); (case k2 => k_asm); (case k3 => k_asm); (case k4 => k_asm); (case k5 => k_asm); (case k6 => k_is); (case k7 => k_is); (case k8 => ktr_room); (case k9 => exact BindsTo.of_eq rfl); (case kB => exact rfl); (case kD => decide +kernel); (case c2 => exact rfl); (case c3 => exact rfl); (case c4 => exact rfl); k_whole; intro g' L' h' tk' cells' FG' F' N' Y' B' X' T' l1; (have l1c := l1); (try k_lt l1); k_cells Y'; (try simp only [List.cons_append, List.nil_append] at N'); (try dsimp only); (try k_fold)); refine wp_letQ ?_; intro qk ek Ak)
  k_steps
  all_goals (refine' hret _ ((wa, _) :: news) _ _ (by k_asm) (by refine cb_drop (by k_asm) ?_; k_extra "MINE sub") ⟨_, _, _, rfl, rfl, by assumption, ?_⟩)
  all_goals first
    | (simp only [List.length_append, List.length_take, List.length_drop, List.length_replicate, List.length_cons, List.length_nil, List.length_map, rangeKs_length, List.length_flatten, List.map_replicate, List.sum_replicate_nat, Int.reduceToNat, Int.sub_zero, Int.toNat_natCast, Nat.zero_add] <;> omega)
theorem lines_C13 : True := by
  w_top off
  k_with_none
  k_with "MINE len" => (((try simp only [List.length_append, List.length_take, List.length_drop, List.length_replicate, List.length_cons, List.length_nil, cutL_length, beL_length, leL_length, partL_length, KBa_byteArr_length, List.length_map, rangeKs_length] at *); omega))
  k_with "MINE num" => (first | omega | assumption | (simp only [Int.reduceToNat, Int.reducePow, Int.reduceMul, Int.fmod_eq_emod_of_nonneg, Int.reduceLE]; omega) | k_extra "MINE len")
  k_with "M call type:bytes" => ((k_here; (with_reducible show wpAny _ _ (call (Value.type "bytes") [Value.int _ _]) _ _ _); refine' bz_call ?h0q2 ?hNq2 ?_; (case h0q2 => k_extra "MINE num"); (case hNq2 => k_extra "MINE num"); intro _ _))
  k_with "M call builtin:len" => ((k_here; (with_reducible show wpAny _ _ (call (Value.builtin "len") [Value.bytes (List.toArray _) _]) _ _ _); refine' len_L ?h0q3 ?_; (case h0q3 => k_extra "MINE num"); intro _ _))
  k_with "M binaryOp Add bytes bytes" => ((k_here; (with_reducible show wpAny _ _ (binaryOp Operator.Add (Value.bytes (List.toArray _) _) (Value.bytes (List.toArray _) _)) _ _ _); refine' add_L ?h0q4 ?_; (case h0q4 => k_extra "MINE num"); intro _ _))
  k_with "M call ref" => ((k_here; (with_reducible show wpAny _ _ (call (Value.ref _) [Value.bytes (List.toArray _) _, Value.str _ _]) _ _ _); kfb_any; k_dflt (refine' from_big ?h1q5 ?h2q5 ?h3q5 ?_; (case h1q5 => k_asm); (case h2q5 => k_mem); (case h3q5 => k_extra "MINE num")); intro _ _))
  k_with "M subscriptTail" => ((k_here; (with_reducible show wpAny _ _ (subscriptTail _ (Expr.Slice _ _ none _) (Value.bytes (List.toArray _) _) (Value.ref _)) _ _ _); (with_reducible rename Fr _ _ _ _ => F'); (with_reducible rename News _ _ _ _ => N'); (first | (refine' slice_ab (s := ⟨_, _, _, _, _⟩) F' N' ?aq6 ?bq6 ?zq6 ?_; (case aq6 => k_extra "MINE num"); (case bq6 => k_extra "MINE num"); (case zq6 => k_extra "MINE num")) | (refine' slice_to (s := ⟨_, _, _, _, _⟩) F' N' ?bq6 ?zq6 ?_; (case bq6 => k_extra "MINE num"); (case zq6 => k_extra "MINE num")) | (refine' slice_from (s := ⟨_, _, _, _, _⟩) F' N' ?aq6 ?zq6 ?_; (case aq6 => k_extra "MINE num"); (case zq6 => k_extra "MINE num"))); intro _ _ _ F' N'))
  k_with "M call builtin:int.to_bytes" => ((k_here; (with_reducible show wpAny _ _ (call (Value.builtin "int.to_bytes") [Value.int _ _, Value.int _ _, Value.str _ _]) _ _ _); (first | (refine' to_bigI ?aq7 ?cq7 ?bq7 ?dq7 ?_; (case aq7 => k_extra "MINE num"); (case cq7 => k_extra "MINE num"); (case bq7 => k_extra "MINE num"); (case dq7 => k_extra "MINE fits")) | (refine' to_littleI ?aq7 ?cq7 ?bq7 ?dq7 ?_; (case aq7 => k_extra "MINE num"); (case cq7 => k_extra "MINE num"); (case bq7 => k_extra "MINE num"); (case dq7 => k_extra "MINE fits"))); intro _ _))
  k_with "MINE fits" => (first | assumption | exact fits_num (by assumption) | (simp only [Int.reduceToNat, Nat.reducePow]; omega) | (simp only [Int.reduceToNat, Nat.reducePow, Int.reducePow, Int.reduceMul, Int.fmod_eq_emod_of_nonneg, Int.reduceLE]; omega))
  k_with "MINE enter" => ((unfold Fn; k_fill; intro p loose mean mg mb dp un gd cn cs a ccd cl outer A₀ base h₀ L m hp₀ gs₀ dr₀ tk₀ os₀ Q E B F X N T hk hd hu hret; refine wpAny_call ?_; k_dflt ktr_enter))
  k_with "MINE use" => (((case k1 => k_asm); (case k2 => k_asm); (case k3 => k_asm); (case k4 => k_asm); (case k5 => k_asm); (case kK => first | exact rfl | assumption); (case kd => ktr_room); (case ku => ktr_units)))
  k_with "M call builtin:pow" => ((k_here; (with_reducible show wpAny _ _ (call (Value.builtin "pow") [Value.int _ _, Value.int _ _, Value.int _ _]) _ _ _); refine' pow3I ?aq11 ?bq11 ?_; (case aq11 => first | decide | k_extra "MINE num"); (case bq11 => first | decide | k_extra "MINE num"); intro _ _ _))
  k_with "MINE sub" => (first | (intro q hq; exact hq) | ((with_reducible refine' List.forall_mem_cons.mpr ⟨?aq12, ?bq12⟩); (case aq12 => k_mem); (case bq12 => k_extra "MINE sub")) | (intro q hq; (repeat (first | exact hq | refine List.mem_cons_of_mem _ ?_))))
  k_with "M call type:bytes" => ((k_here; (with_reducible show wpAny _ _ (call (Value.type "bytes") [Value.bytes _ _]) _ _ _); refine bb_call ?_))
  k_with "MINE pick" => ((repeat (first | exact Pick.head | apply Pick.tail)))
  k_with "M call builtin:max" => ((k_here; (with_reducible show wpAny _ _ (call (Value.builtin "max") [Value.int _ _, Value.int _ _]) _ _ _); k_dflt (refine' maxI ?hq15 ?Fq15 ?Nq15 ?_; (case hq15 => rfl); (case Fq15 => k_asm); (case Nq15 => k_asm)); intro _ _ _ F' N'; (try k_sweep)))
  k_with "M call builtin:min" => ((k_here; (with_reducible show wpAny _ _ (call (Value.builtin "min") [Value.int _ _, Value.int _ _]) _ _ _); k_dflt (refine' minI ?hq16 ?Fq16 ?Nq16 ?_; (case hq16 => rfl); (case Fq16 => k_asm); (case Nq16 => k_asm)); intro _ _ _ F' N'; (try k_sweep)))
  k_with "M call builtin:max" => ((k_here; (with_reducible show wpAny _ _ (call (Value.builtin "max") [Value.int _ _, Value.int _ _, Value.int _ _]) _ _ _); k_dflt (refine' max3I ?hq17 ?Fq17 ?Nq17 ?_; (case hq17 => rfl); (case Fq17 => k_asm); (case Nq17 => k_asm)); intro _ _ _ F' N'; (try k_sweep)))
  k_with "MINE subD" => ((intro q hq; exact List.mem_cons_of_mem _ hq))
  k_with "MINE steps" => (repeat' (first | (k_unfold; (try dsimp only)) | walk1 | (dsimp only; walk1) | (leave1; walk_say "STEP leave1"; try dsimp only) | fail "no step"))
  k_with "M callWith ref" => ((k_here; (with_reducible show wpAny _ _ (callWith _ (Value.ref (OfNat.ofNat _)) _ _ _) _ _ _); k_dflt (refine' callWith_K ?k1q20 ?k2q20 ?_; (case k1q20 => k_asm); (case k2q20 => k_is); k_whole)))
  k_with "M execs cons" => ((k_here; (try dsimp only); with_reducible refine tk_sum ?_; intro tk9; (try (with_reducible rename Fr _ _ _ _ => Fx9; refine fr_let Fx9 ?_; intro mK Fy9; clear Fx9)); (try k_extra "MINE led")))
  k_with "M execs nil" => ((k_here; (try dsimp only); with_reducible refine tk_sum ?_; intro tk9))
  k_with "MINE lt" => (first | assumption | exact And.left (by assumption) | exact And.left (And.right (by assumption)) | exact And.left (And.right (And.right (by assumption))) | exact And.left (And.right (And.right (And.right (by assumption)))) | exact And.left (And.right (And.right (And.right (And.right (by assumption))))) | exact And.left (And.right (And.right (And.right (And.right (And.right (by assumption)))))) | exact And.left (And.right (And.right (And.right (And.right (And.right (And.right (by assumption))))))) | exact And.left (And.right (And.right (And.right (And.right (And.right (And.right (And.right (by assumption)))))))) | exact And.left (And.right (And.right (And.right (And.right (And.right (And.right (And.right (And.right (by assumption))))))))) | exact And.right (by assumption) | exact And.right (And.right (by assumption)) | exact And.right (And.right (And.right (by assumption))) | fail "not seen less")
  k_with "MINE mul" => (first | ((with_reducible refine mulL ?_); decide) | ((with_reducible refine mulR ?_); decide) | ((with_reducible refine' mulRb ?_ ?_); (focus assumption); decide) | ((with_reducible refine' mulLb ?_ ?_); (focus assumption); decide) | ((with_reducible refine mulRm ?_); decide) | ((with_reducible refine mulLm ?_); decide) | fail "not seen small")
  k_with "M binaryOp Mult int int" => ((k_here; k_dflt (refine' PyProof.Rows.mul_int ?_ ?hmq25; rotate_left; (case hmq25 => k_extra "MINE mul"))))
  k_with "M newTuple" => ((k_here; kup_bare; k_dflt (refine' newTupleV ?Fq26 ?Nq26 ?_ ?zq26; (case Fq26 => k_asm); (case Nq26 => k_asm); (case zq26 => kmk_size)); intro D' h' F' N' l1; (try k_lt l1); (try k_sweep)))
  k_with "MINE got" => ((intro v9 n9 h9 tk9 F9 N9 hp9; obtain ⟨hn9, t9, hv9⟩ := hp9; subst hn9 hv9; (try dsimp only); (try k_fold)))
  k_with "M call ref" => ((k_here; (with_reducible show wpAny _ _ (call (Value.ref 90) [Value.int _ _]) _ _ _); k_dflt (refine' Fn.use ?k1 ?k2 ?k3 ?k4 ?k5 ?kK (fn_led _ _ _ _ ) ?kd ?ku ?_; k_extra "MINE use"); k_extra "MINE got"))
  k_with "M call ref" => ((k_here; (with_reducible show wpAny _ _ (call (Value.ref 104) [Value.int _ _]) _ _ _); k_dflt (refine' Fn.use ?k1 ?k2 ?k3 ?k4 ?k5 ?kK (fn_address_of _ _ _ _ ) ?kd ?ku ?_; k_extra "MINE use"); k_extra "MINE got"))
  k_with "M call ref" => ((k_here; (with_reducible show wpAny _ _ (call (Value.ref 230) [Value.int _ _]) _ _ _); k_dflt (refine' Fn.use ?k1 ?k2 ?k3 ?k4 ?k5 ?kK (fn_words_of _ _ _ _ ) ?kd ?ku ?_; k_extra "MINE use"); k_extra "MINE got"))
  k_with "M call ref" => ((k_here; (with_reducible show wpAny _ _ (call (Value.ref 97) [Value.int _ _]) _ _ _); k_dflt (refine' Fn.use ?k1 ?k2 ?k3 ?k4 ?k5 ?kK (fn_word_octets' _ _ _ _ ?c1q31 ?c2q31) ?kd ?ku ?_; k_extra "MINE use"; (case c1q31 => k_extra "MINE num"); (case c2q31 => k_extra "MINE num")); k_extra "MINE got"))
  k_with "M call ref" => ((k_here; (with_reducible show wpAny _ _ (call (Value.ref 237) [Value.bytes _ _, Value.int _ _, Value.int _ _]) _ _ _); k_dflt (refine' Fn.use ?k1 ?k2 ?k3 ?k4 ?k5 ?kK (fn_part_of _ _ _ _ _ _ _ _ ?c1q32 ?c2q32) ?kd ?ku ?_; k_extra "MINE use"; (case c1q32 => k_extra "MINE num"); (case c2q32 => k_extra "MINE num")); k_extra "MINE got"))
  k_with "M call ref" => ((k_here; (with_reducible show wpAny _ _ (call (Value.ref 343) [Value.bytes _ _, Value.int _ _, Value.int _ _]) _ _ _); k_dflt (refine' Fn.use ?k1 ?k2 ?k3 ?k4 ?k5 ?kK (fn_law_part' _ _ _ _ _ _ _ _ ?c1q33 ?c2q33 ?c3q33 ?c4q33) ?kd ?ku ?_; k_extra "MINE use"; (case c1q33 => k_extra "MINE num"); (case c2q33 => k_extra "MINE num"); (case c3q33 => k_extra "MINE num"); (case c4q33 => k_extra "MINE num")); k_extra "MINE got"))
  k_with "M call ref" => ((k_here; (with_reducible show wpAny _ _ (call (Value.ref 343) [Value.bytes _ _, Value.int _ _, Value.int _ _]) _ _ _); k_dflt (refine' Fn.use ?k1 ?k2 ?k3 ?k4 ?k5 ?kK (fn_law_part _ _ _ _ _ _ _ _ ?c1q34 ?c2q34) ?kd ?ku ?_; k_extra "MINE use"; (case c1q34 => k_extra "MINE num"); (case c2q34 => k_extra "MINE num")); k_extra "MINE got"))
  k_with "M call ref" => ((k_here; (with_reducible show wpAny _ _ (call (Value.ref 244) [Value.bytes _ _, Value.int _ _, Value.int _ _]) _ _ _); k_dflt (refine' Fn.use ?k1 ?k2 ?k3 ?k4 ?k5 ?kK (fn_number_at' _ _ _ _ _ _ _ _ ?c1q35 ?c2q35 ?c3q35 ?c4q35) ?kd ?ku ?_; k_extra "MINE use"; (case c1q35 => k_extra "MINE num"); (case c2q35 => k_extra "MINE num"); (case c3q35 => k_extra "MINE num"); (case c4q35 => k_extra "MINE num")); k_extra "MINE got"))
  k_with "M call ref" => ((k_here; (with_reducible show wpAny _ _ (call (Value.ref 244) [Value.bytes _ _, Value.int _ _, Value.int _ _]) _ _ _); k_dflt (refine' Fn.use ?k1 ?k2 ?k3 ?k4 ?k5 ?kK (fn_number_at _ _ _ _ _ _ _ _ ?c1q36 ?c2q36) ?kd ?ku ?_; k_extra "MINE use"; (case c1q36 => k_extra "MINE num"); (case c2q36 => k_extra "MINE num")); k_extra "MINE got"))
  k_with "MINE cond" => (first | exact True.intro | ((try dsimp only [cP, cAnd]); (repeat' (first | exact True.intro | refine And.intro ?_ ?_)); all_goals first | k_extra "MINE mul" | mul_fits | decide | omega | assumption))
  k_with "M eval BinOp" => ((k_here; (try dsimp only); k_dflt (refine' pe_int ?Fq38 ?fq38 ?hq38 ?cq38 ?_; (case Fq38 => k_asm); (case fq38 => exact rfl); (case hq38 => exact rfl); (case cq38 => k_extra "MINE cond")); intro t9 tk9; (try dsimp only)))
  k_with "M isTrue Compare" => ((k_here; (try dsimp only); k_dflt (refine' pe_cmp ?Fq39 ?fq39 noOrc_ok ?hq39 ?iq39 ?jq39 ?bq39 ?cq39 ?_; (case Fq39 => k_asm); (case fq39 => exact rfl); (case hq39 => exact rfl); (case iq39 => exact rfl); (case jq39 => exact rfl); (case bq39 => exact rfl); (case cq39 => k_extra "MINE cond")); intro tk9; (try dsimp only)))
  k_with "M eval Tuple" => ((k_here; (try dsimp only); k_dflt (first | (refine' pe_tup2 ?Fq40 ?Nq40 ?fq40 noOrc_ok ?hq40 ?iq40 ?sq40 ?uq40 ?cq40 ?_; (case Fq40 => k_asm); (case Nq40 => k_asm); (case fq40 => exact rfl); (case hq40 => exact rfl); (case iq40 => exact rfl); (case sq40 => exact rfl); (case uq40 => exact rfl); (case cq40 => k_extra "MINE cond"); intro a9 h9 t9 u9 tk9 F9 N9 l9) | (refine' pe_tup3 ?Fq40 ?Nq40 ?fq40 noOrc_ok ?hq40 ?iq40 ?jq40 ?sq40 ?uq40 ?vq40 ?cq40 ?_; (case Fq40 => k_asm); (case Nq40 => k_asm); (case fq40 => exact rfl); (case hq40 => exact rfl); (case iq40 => exact rfl); (case jq40 => exact rfl); (case sq40 => exact rfl); (case uq40 => exact rfl); (case vq40 => exact rfl); (case cq40 => k_extra "MINE cond"); intro a9 h9 t9 u9 v9 tk9 F9 N9 l9)); (have l9c := l9); (try k_lt l9); (try k_sweep); (try dsimp only)))
  k_with "M execs cons" => ((k_here; (with_reducible show wpAny _ _ (execs (Stmt.Assign [Expr.Name _ _] _ _ :: _) _) _ _ _); (try dsimp only); k_dflt (refine' pe_one ?Fq41 ?Nq41 ?fq41 noOrc_ok ?hq41 ?xq41 ?sq41 ?cq41 ?_; (case Fq41 => k_asm); (case Nq41 => k_asm); (case fq41 => exact rfl); (case hq41 => exact rfl); (case xq41 => exact rfl); (case sq41 => with_unfolding_all exact rfl); (case cq41 => k_extra "MINE cond"); intro h9 t9 tk9 F9 N9); (try k_sweep)))
  k_with "M execs cons" => ((k_here; (with_reducible show wpAny _ _ (execs (Stmt.Assign [Expr.Tuple [Expr.Name _ _, Expr.Name _ _] _ _] (Expr.Tuple [_, _] _ _) _ :: _) _) _ _ _); (try dsimp only); k_dflt (refine' pe_two ?Fq42 ?Nq42 ?fq42 noOrc_ok ?kq42 ?hq42 ?iq42 ?xq42 ?yq42 ?sq42 ?wq42 ?uq42 ?vq42 ?cq42 ?_; (case Fq42 => k_asm); (case Nq42 => k_asm); (case fq42 => exact rfl); (case kq42 => exact rfl); (case hq42 => exact rfl); (case iq42 => exact rfl); (case xq42 => exact rfl); (case yq42 => exact rfl); (case sq42 => with_unfolding_all exact rfl); (case wq42 => with_unfolding_all exact rfl); (case uq42 => exact rfl); (case vq42 => exact rfl); (case cq42 => k_extra "MINE cond"); intro h9 t9 u9 tk9 F9 N9); (try k_sweep)))
  k_with "M eval Call" => (k_fold)
  k_with "M eval Tuple" => (k_fold)
  k_with "M eval BinOp" => (k_fold)
  k_with "M eval Subscript" => (k_fold)
  k_with "M eval IfExp" => (k_fold)
  k_with "M isTrue Compare" => (k_fold)
  k_with "M isTrue BoolOp" => (k_fold)
  k_with "M exec If" => (k_fold)
  k_with "M exec Return" => (k_fold)
  k_with "MINE dgn" => ((rw [dgD_len]))
  k_with "M getItem ref int" => ((k_here; k_dflt (refine' getItem_dg ?Tq53 ?hlq53 ?_; (case Tq53 => k_tabat); (case hlq53 => first | exact dgl_some (by assumption) | exact dgl_put (by assumption) (by rw [dgD_len]))); intro _))
  k_with "M call builtin:len" => ((k_here; (with_reducible show wpAny _ _ (call (Value.builtin "len") [Value.ref _]) _ _ _); k_dflt (refine' len_tab (knd := intKind _ _) (enc := PyData.int) ?Tq54 ?fq54 ?_; (case Tq54 => k_tabat); (case fq54 => (rw [dgD_len]; omega)))))
  k_with "M setItem ref int" => ((k_here; k_dflt (refine' setItem_K PyProof.V.same_int (intKind_is _ _ _ _) ?vq55 ?Fq55 ?Nq55 ?Uq55 ?dq55 ?fq55 ?_ ?zq55; (case Fq55 => k_asm); (case Nq55 => k_asm); (case Uq55 => k_updF); (case dq55 => k_asm); (case fq55 => k_asm); (case zq55 => (rw [sizeLine_eq, dgD_len]; omega)); (case vq55 => k_flat)); intro h' o' F' N' hd' hf'; (try dsimp only at N'); (try k_sweep)))
  k_with "MINE t k_room" => (ktr_room)
  k_with "MINE t k_units" => (ktr_units)
  k_with "MINE t k_mem" => (first | with_reducible assumption | assumption | exact List.Mem.head _ | (refine' List.Mem.tail _ ?_; k_mem))
  k_with "MINE t k_all" => (first | assumption | exact cellNe (by assumption) (by k_extra "MINE sub") | exact List.forall_mem_nil _ | (refine' List.forall_mem_cons.mpr ⟨?aq59, ?bq59⟩; (case aq59 => first | k_ne | assumption); (case bq59 => k_all)))
  k_with "MINE t ktr_room" => (first | (refine' rm2 ?hq60 ?bq60; (case hq60 => assumption); (case bq60 => exact rfl)) | (refine' rm1 ?hq60 ?bq60; (case hq60 => assumption); (case bq60 => exact rfl)) | (refine' rm3 ?hq60 ?bq60; (case hq60 => assumption); (case bq60 => exact rfl)) | exact rm0 (by assumption) | fail "no room")
  k_with "MINE t ktr_units" => (first | (refine' rm2 ?hq61 ?bq61; (case hq61 => assumption); (case bq61 => exact rfl)) | (refine' rm1 ?hq61 ?bq61; (case hq61 => assumption); (case bq61 => exact rfl)) | (refine' rm3 ?hq61 ?bq61; (case hq61 => assumption); (case bq61 => exact rfl)) | exact rm0 (by assumption) | fail "no room")
  k_with "MINE t k_ne" => (with_reducible (first | assumption | exact Nat.ne_of_lt (by k_extra "MINE lt") | exact Nat.ne_of_gt (by k_extra "MINE lt") | exact Ne.symm (by assumption) | k_extra "MINE lt" | exact Ne.symm (by k_extra "MINE lt") | fail "not seen unlike"))
  trivial
theorem fn_number {w : World} {news : Led} {dg kd : Addr} {o : Obj} {ks : List Int} {l : List UInt8} {t : Tok} (hdg : DigAt w.params news dg kd) (hne : ∀ q ∈ news, q.1 ≠ kd) (hsy : (kd == sysModules) = false) (ho : DigO w o ks) (hks : ks.length ≤ 10) (hl : l.length ≤ 100) :
    Fn w 10 40 42 ((kd, o) :: news) [.ref dg, .bytes l.toArray t] (fun v news' => ∃ o' t', v = .int (dgN ks (beN (1 :: l) : Int) : Int) t' ∧ news' = (kd, o') :: news ∧ DigO w o' (dgK ks (beN (1 :: l) : Int)) ∧ 1 ≤ dgN ks (beN (1 :: l) : Int) ∧ dgN ks (beN (1 :: l) : Int) ≤ 11) := by
  have hb := dgN_le ks (beN (1 :: l) : Int)
  have hb' : 1 ≤ dgN ks (beN (1 :: l) : Int) ∧ dgN ks (beN (1 :: l) : Int) ≤ 11 := by omega
  obtain ⟨dd, t1, hd1, hd2⟩ := hdg
  have ho' := ho
  obtain ⟨kvs, ho1, ho2⟩ := ho'
  (unfold Fn; k_fill; intro pg loose mean mg mb dp un gd cn cs a ccd cl outer A₀ base h₀ L m hp₀ gs₀ dr₀ tk₀ os₀ Q E B F X N T hk hd hu hret; refine wpAny_call ?_; k_dflt ktr_enter; refine wp_let ?_; intro Ak)
  k_steps
  · refine hret _ ((kd, o) :: news) _ _ (by k_asm) (by refine cb_drop (by k_asm) ?_; k_extra "MINE sub") ⟨o, _, rfl, rfl, ?_, hb'⟩
    rw [dg_in (by assumption)]
    exact ho
  · refine hret _ ((kd, _) :: news) _ _ (by k_asm) (by refine cb_drop (by k_asm) ?_; k_extra "MINE sub") ⟨_, _, rfl, rfl, ?_, hb'⟩
    exact digO_put (by assumption) (by assumption) (by assumption) (by rw [dgD_len])
theorem lines_C14 : True := by
  w_top off
  k_with_none
  k_with "MINE len" => (((try simp only [List.length_append, List.length_take, List.length_drop, List.length_replicate, List.length_cons, List.length_nil, cutL_length, beL_length, leL_length, partL_length, KBa_byteArr_length, List.length_map, rangeKs_length] at *); omega))
  k_with "MINE num" => (first | omega | assumption | (simp only [Int.reduceToNat, Int.reducePow, Int.reduceMul, Int.fmod_eq_emod_of_nonneg, Int.reduceLE]; omega) | k_extra "MINE len")
  k_with "M call type:bytes" => ((k_here; (with_reducible show wpAny _ _ (call (Value.type "bytes") [Value.int _ _]) _ _ _); refine' bz_call ?h0q2 ?hNq2 ?_; (case h0q2 => k_extra "MINE num"); (case hNq2 => k_extra "MINE num"); intro _ _))
  k_with "M call builtin:len" => ((k_here; (with_reducible show wpAny _ _ (call (Value.builtin "len") [Value.bytes (List.toArray _) _]) _ _ _); refine' len_L ?h0q3 ?_; (case h0q3 => k_extra "MINE num"); intro _ _))
  k_with "M binaryOp Add bytes bytes" => ((k_here; (with_reducible show wpAny _ _ (binaryOp Operator.Add (Value.bytes (List.toArray _) _) (Value.bytes (List.toArray _) _)) _ _ _); refine' add_L ?h0q4 ?_; (case h0q4 => k_extra "MINE num"); intro _ _))
  k_with "M call ref" => ((k_here; (with_reducible show wpAny _ _ (call (Value.ref _) [Value.bytes (List.toArray _) _, Value.str _ _]) _ _ _); kfb_any; k_dflt (refine' from_big ?h1q5 ?h2q5 ?h3q5 ?_; (case h1q5 => k_asm); (case h2q5 => k_mem); (case h3q5 => k_extra "MINE num")); intro _ _))
  k_with "M subscriptTail" => ((k_here; (with_reducible show wpAny _ _ (subscriptTail _ (Expr.Slice _ _ none _) (Value.bytes (List.toArray _) _) (Value.ref _)) _ _ _); (with_reducible rename Fr _ _ _ _ => F'); (with_reducible rename News _ _ _ _ => N'); (first | (refine' slice_ab (s := ⟨_, _, _, _, _⟩) F' N' ?aq6 ?bq6 ?zq6 ?_; (case aq6 => k_extra "MINE num"); (case bq6 => k_extra "MINE num"); (case zq6 => k_extra "MINE num")) | (refine' slice_to (s := ⟨_, _, _, _, _⟩) F' N' ?bq6 ?zq6 ?_; (case bq6 => k_extra "MINE num"); (case zq6 => k_extra "MINE num")) | (refine' slice_from (s := ⟨_, _, _, _, _⟩) F' N' ?aq6 ?zq6 ?_; (case aq6 => k_extra "MINE num"); (case zq6 => k_extra "MINE num"))); intro _ _ _ F' N'))
  k_with "M call builtin:int.to_bytes" => ((k_here; (with_reducible show wpAny _ _ (call (Value.builtin "int.to_bytes") [Value.int _ _, Value.int _ _, Value.str _ _]) _ _ _); (first | (refine' to_bigI ?aq7 ?cq7 ?bq7 ?dq7 ?_; (case aq7 => k_extra "MINE num"); (case cq7 => k_extra "MINE num"); (case bq7 => k_extra "MINE num"); (case dq7 => k_extra "MINE fits")) | (refine' to_littleI ?aq7 ?cq7 ?bq7 ?dq7 ?_; (case aq7 => k_extra "MINE num"); (case cq7 => k_extra "MINE num"); (case bq7 => k_extra "MINE num"); (case dq7 => k_extra "MINE fits"))); intro _ _))
  k_with "MINE fits" => (first | assumption | exact fits_num (by assumption) | (simp only [Int.reduceToNat, Nat.reducePow]; omega) | (simp only [Int.reduceToNat, Nat.reducePow, Int.reducePow, Int.reduceMul, Int.fmod_eq_emod_of_nonneg, Int.reduceLE]; omega))
  k_with "MINE enter" => ((unfold Fn; k_fill; intro p loose mean mg mb dp un gd cn cs a ccd cl outer A₀ base h₀ L m hp₀ gs₀ dr₀ tk₀ os₀ Q E B F X N T hk hd hu hret; refine wpAny_call ?_; k_dflt ktr_enter))
  k_with "MINE use" => (((case k1 => k_asm); (case k2 => k_asm); (case k3 => k_asm); (case k4 => k_asm); (case k5 => k_asm); (case kK => first | exact rfl | assumption); (case kd => ktr_room); (case ku => ktr_units)))
  k_with "M call builtin:pow" => ((k_here; (with_reducible show wpAny _ _ (call (Value.builtin "pow") [Value.int _ _, Value.int _ _, Value.int _ _]) _ _ _); refine' pow3I ?aq11 ?bq11 ?_; (case aq11 => first | decide | k_extra "MINE num"); (case bq11 => first | decide | k_extra "MINE num"); intro _ _ _))
  k_with "MINE sub" => (first | (intro q hq; exact hq) | ((with_reducible refine' List.forall_mem_cons.mpr ⟨?aq12, ?bq12⟩); (case aq12 => k_mem); (case bq12 => k_extra "MINE sub")) | (intro q hq; (repeat (first | exact hq | refine List.mem_cons_of_mem _ ?_))))
  k_with "M call type:bytes" => ((k_here; (with_reducible show wpAny _ _ (call (Value.type "bytes") [Value.bytes _ _]) _ _ _); refine bb_call ?_))
  k_with "MINE pick" => ((repeat (first | exact Pick.head | apply Pick.tail)))
  k_with "M call builtin:max" => ((k_here; (with_reducible show wpAny _ _ (call (Value.builtin "max") [Value.int _ _, Value.int _ _]) _ _ _); k_dflt (refine' maxI ?hq15 ?Fq15 ?Nq15 ?_; (case hq15 => rfl); (case Fq15 => k_asm); (case Nq15 => k_asm)); intro _ _ _ F' N'; (try k_sweep)))
  k_with "M call builtin:min" => ((k_here; (with_reducible show wpAny _ _ (call (Value.builtin "min") [Value.int _ _, Value.int _ _]) _ _ _); k_dflt (refine' minI ?hq16 ?Fq16 ?Nq16 ?_; (case hq16 => rfl); (case Fq16 => k_asm); (case Nq16 => k_asm)); intro _ _ _ F' N'; (try k_sweep)))
  k_with "M call builtin:max" => ((k_here; (with_reducible show wpAny _ _ (call (Value.builtin "max") [Value.int _ _, Value.int _ _, Value.int _ _]) _ _ _); k_dflt (refine' max3I ?hq17 ?Fq17 ?Nq17 ?_; (case hq17 => rfl); (case Fq17 => k_asm); (case Nq17 => k_asm)); intro _ _ _ F' N'; (try k_sweep)))
  k_with "MINE subD" => ((intro q hq; exact List.mem_cons_of_mem _ hq))
  k_with "MINE steps" => (repeat' (first | (k_unfold; (try dsimp only)) | walk1 | (dsimp only; walk1) | (leave1; walk_say "STEP leave1"; try dsimp only) | fail "no step"))
  k_with "M callWith ref" => ((k_here; (with_reducible show wpAny _ _ (callWith _ (Value.ref (OfNat.ofNat _)) _ _ _) _ _ _); k_dflt (refine' callWith_K ?k1q20 ?k2q20 ?_; (case k1q20 => k_asm); (case k2q20 => k_is); k_whole)))
  k_with "M execs cons" => ((k_here; (try dsimp only); with_reducible refine tk_sum ?_; intro tk9; (try (with_reducible rename Fr _ _ _ _ => Fx9; refine fr_let Fx9 ?_; intro mK Fy9; clear Fx9)); (try k_extra "MINE led")))
  k_with "M execs nil" => ((k_here; (try dsimp only); with_reducible refine tk_sum ?_; intro tk9))
  k_with "MINE lt" => (first | assumption | exact And.left (by assumption) | exact And.left (And.right (by assumption)) | exact And.left (And.right (And.right (by assumption))) | exact And.left (And.right (And.right (And.right (by assumption)))) | exact And.left (And.right (And.right (And.right (And.right (by assumption))))) | exact And.left (And.right (And.right (And.right (And.right (And.right (by assumption)))))) | exact And.left (And.right (And.right (And.right (And.right (And.right (And.right (by assumption))))))) | exact And.left (And.right (And.right (And.right (And.right (And.right (And.right (And.right (by assumption)))))))) | exact And.left (And.right (And.right (And.right (And.right (And.right (And.right (And.right (And.right (by assumption))))))))) | exact And.right (by assumption) | exact And.right (And.right (by assumption)) | exact And.right (And.right (And.right (by assumption))) | fail "not seen less")
  k_with "MINE mul" => (first | ((with_reducible refine mulL ?_); decide) | ((with_reducible refine mulR ?_); decide) | ((with_reducible refine' mulRb ?_ ?_); (focus assumption); decide) | ((with_reducible refine' mulLb ?_ ?_); (focus assumption); decide) | ((with_reducible refine mulRm ?_); decide) | ((with_reducible refine mulLm ?_); decide) | fail "not seen small")
  k_with "M binaryOp Mult int int" => ((k_here; k_dflt (refine' PyProof.Rows.mul_int ?_ ?hmq25; rotate_left; (case hmq25 => k_extra "MINE mul"))))
  k_with "M newTuple" => ((k_here; kup_bare; k_dflt (refine' newTupleV ?Fq26 ?Nq26 ?_ ?zq26; (case Fq26 => k_asm); (case Nq26 => k_asm); (case zq26 => kmk_size)); intro D' h' F' N' l1; (try k_lt l1); (try k_sweep)))
  k_with "MINE gotD" => ((intro v9 n9 h9 tk9 F9 N9 hp9; obtain ⟨o9, t9, hv9, hn9, ho9, hb9, hb9'⟩ := hp9; subst hn9 hv9; (try dsimp only); (try k_fold)))
  k_with "MINE got" => ((intro v9 n9 h9 tk9 F9 N9 hp9; obtain ⟨hn9, t9, hv9⟩ := hp9; subst hn9 hv9; (try dsimp only); (try k_fold)))
  k_with "M call ref" => ((k_here; (with_reducible show wpAny _ _ (call (Value.ref 90) [Value.int _ _]) _ _ _); k_dflt (refine' Fn.use ?k1 ?k2 ?k3 ?k4 ?k5 ?kK (fn_led _ _ _ _ ) ?kd ?ku ?_; k_extra "MINE use"); k_extra "MINE got"))
  k_with "M call ref" => ((k_here; (with_reducible show wpAny _ _ (call (Value.ref 104) [Value.int _ _]) _ _ _); k_dflt (refine' Fn.use ?k1 ?k2 ?k3 ?k4 ?k5 ?kK (fn_address_of _ _ _ _ ) ?kd ?ku ?_; k_extra "MINE use"); k_extra "MINE got"))
  k_with "M call ref" => ((k_here; (with_reducible show wpAny _ _ (call (Value.ref 230) [Value.int _ _]) _ _ _); k_dflt (refine' Fn.use ?k1 ?k2 ?k3 ?k4 ?k5 ?kK (fn_words_of _ _ _ _ ) ?kd ?ku ?_; k_extra "MINE use"); k_extra "MINE got"))
  k_with "M call ref" => ((k_here; (with_reducible show wpAny _ _ (call (Value.ref 97) [Value.int _ _]) _ _ _); k_dflt (refine' Fn.use ?k1 ?k2 ?k3 ?k4 ?k5 ?kK (fn_word_octets' _ _ _ _ ?c1q32 ?c2q32) ?kd ?ku ?_; k_extra "MINE use"; (case c1q32 => k_extra "MINE num"); (case c2q32 => k_extra "MINE num")); k_extra "MINE got"))
  k_with "M call ref" => ((k_here; (with_reducible show wpAny _ _ (call (Value.ref 237) [Value.bytes _ _, Value.int _ _, Value.int _ _]) _ _ _); k_dflt (refine' Fn.use ?k1 ?k2 ?k3 ?k4 ?k5 ?kK (fn_part_of _ _ _ _ _ _ _ _ ?c1q33 ?c2q33) ?kd ?ku ?_; k_extra "MINE use"; (case c1q33 => k_extra "MINE num"); (case c2q33 => k_extra "MINE num")); k_extra "MINE got"))
  k_with "M call ref" => ((k_here; (with_reducible show wpAny _ _ (call (Value.ref 343) [Value.bytes _ _, Value.int _ _, Value.int _ _]) _ _ _); k_dflt (refine' Fn.use ?k1 ?k2 ?k3 ?k4 ?k5 ?kK (fn_law_part' _ _ _ _ _ _ _ _ ?c1q34 ?c2q34 ?c3q34 ?c4q34) ?kd ?ku ?_; k_extra "MINE use"; (case c1q34 => k_extra "MINE num"); (case c2q34 => k_extra "MINE num"); (case c3q34 => k_extra "MINE num"); (case c4q34 => k_extra "MINE num")); k_extra "MINE got"))
  k_with "M call ref" => ((k_here; (with_reducible show wpAny _ _ (call (Value.ref 343) [Value.bytes _ _, Value.int _ _, Value.int _ _]) _ _ _); k_dflt (refine' Fn.use ?k1 ?k2 ?k3 ?k4 ?k5 ?kK (fn_law_part _ _ _ _ _ _ _ _ ?c1q35 ?c2q35) ?kd ?ku ?_; k_extra "MINE use"; (case c1q35 => k_extra "MINE num"); (case c2q35 => k_extra "MINE num")); k_extra "MINE got"))
  k_with "M call ref" => ((k_here; (with_reducible show wpAny _ _ (call (Value.ref 244) [Value.bytes _ _, Value.int _ _, Value.int _ _]) _ _ _); k_dflt (refine' Fn.use ?k1 ?k2 ?k3 ?k4 ?k5 ?kK (fn_number_at' _ _ _ _ _ _ _ _ ?c1q36 ?c2q36 ?c3q36 ?c4q36) ?kd ?ku ?_; k_extra "MINE use"; (case c1q36 => k_extra "MINE num"); (case c2q36 => k_extra "MINE num"); (case c3q36 => k_extra "MINE num"); (case c4q36 => k_extra "MINE num")); k_extra "MINE got"))
  k_with "M call ref" => ((k_here; (with_reducible show wpAny _ _ (call (Value.ref 244) [Value.bytes _ _, Value.int _ _, Value.int _ _]) _ _ _); k_dflt (refine' Fn.use ?k1 ?k2 ?k3 ?k4 ?k5 ?kK (fn_number_at _ _ _ _ _ _ _ _ ?c1q37 ?c2q37) ?kd ?ku ?_; k_extra "MINE use"; (case c1q37 => k_extra "MINE num"); (case c2q37 => k_extra "MINE num")); k_extra "MINE got"))
  k_with "M call ref" => ((k_here; (with_reducible show wpAny _ _ (call (Value.ref 42) [Value.ref _, Value.bytes _ _]) _ _ _); k_dflt (refine' Fn.useP ?k1 ?k2 ?k3 ?k4 ?k5 ?kK ?kpq38 (fn_number  ?c1q38 ?c2q38 ?c3q38 ?c4q38 ?c5q38 ?c6q38) ?kd ?ku ?_; k_extra "MINE use"; (case c3q38 => first | assumption | omega); (case kpq38 => k_extra "MINE pick"); (case c1q38 => first | assumption | exact DigAt.more (by assumption) (by k_extra "MINE sub")); (case c2q38 => k_all); (case c4q38 => first | assumption | omega); (case c5q38 => k_extra "MINE num"); (case c6q38 => k_extra "MINE num")); k_extra "MINE gotD"))
  k_with "MINE cond" => (first | exact True.intro | ((try dsimp only [cP, cAnd]); (repeat' (first | exact True.intro | refine And.intro ?_ ?_)); all_goals first | k_extra "MINE mul" | mul_fits | decide | omega | assumption))
  k_with "M eval BinOp" => ((k_here; (try dsimp only); k_dflt (refine' pe_int ?Fq40 ?fq40 ?hq40 ?cq40 ?_; (case Fq40 => k_asm); (case fq40 => exact rfl); (case hq40 => exact rfl); (case cq40 => k_extra "MINE cond")); intro t9 tk9; (try dsimp only)))
  k_with "M isTrue Compare" => ((k_here; (try dsimp only); k_dflt (refine' pe_cmp ?Fq41 ?fq41 noOrc_ok ?hq41 ?iq41 ?jq41 ?bq41 ?cq41 ?_; (case Fq41 => k_asm); (case fq41 => exact rfl); (case hq41 => exact rfl); (case iq41 => exact rfl); (case jq41 => exact rfl); (case bq41 => exact rfl); (case cq41 => k_extra "MINE cond")); intro tk9; (try dsimp only)))
  k_with "M eval Tuple" => ((k_here; (try dsimp only); k_dflt (first | (refine' pe_tup2 ?Fq42 ?Nq42 ?fq42 noOrc_ok ?hq42 ?iq42 ?sq42 ?uq42 ?cq42 ?_; (case Fq42 => k_asm); (case Nq42 => k_asm); (case fq42 => exact rfl); (case hq42 => exact rfl); (case iq42 => exact rfl); (case sq42 => exact rfl); (case uq42 => exact rfl); (case cq42 => k_extra "MINE cond"); intro a9 h9 t9 u9 tk9 F9 N9 l9) | (refine' pe_tup3 ?Fq42 ?Nq42 ?fq42 noOrc_ok ?hq42 ?iq42 ?jq42 ?sq42 ?uq42 ?vq42 ?cq42 ?_; (case Fq42 => k_asm); (case Nq42 => k_asm); (case fq42 => exact rfl); (case hq42 => exact rfl); (case iq42 => exact rfl); (case jq42 => exact rfl); (case sq42 => exact rfl); (case uq42 => exact rfl); (case vq42 => exact rfl); (case cq42 => k_extra "MINE cond"); intro a9 h9 t9 u9 v9 tk9 F9 N9 l9)); (have l9c := l9); (try k_lt l9); (try k_sweep); (try dsimp only)))
  k_with "M execs cons" => ((k_here; (with_reducible show wpAny _ _ (execs (Stmt.Assign [Expr.Name _ _] _ _ :: _) _) _ _ _); (try dsimp only); k_dflt (refine' pe_one ?Fq43 ?Nq43 ?fq43 noOrc_ok ?hq43 ?xq43 ?sq43 ?cq43 ?_; (case Fq43 => k_asm); (case Nq43 => k_asm); (case fq43 => exact rfl); (case hq43 => exact rfl); (case xq43 => exact rfl); (case sq43 => with_unfolding_all exact rfl); (case cq43 => k_extra "MINE cond"); intro h9 t9 tk9 F9 N9); (try k_sweep)))
  k_with "M execs cons" => ((k_here; (with_reducible show wpAny _ _ (execs (Stmt.Assign [Expr.Tuple [Expr.Name _ _, Expr.Name _ _] _ _] (Expr.Tuple [_, _] _ _) _ :: _) _) _ _ _); (try dsimp only); k_dflt (refine' pe_two ?Fq44 ?Nq44 ?fq44 noOrc_ok ?kq44 ?hq44 ?iq44 ?xq44 ?yq44 ?sq44 ?wq44 ?uq44 ?vq44 ?cq44 ?_; (case Fq44 => k_asm); (case Nq44 => k_asm); (case fq44 => exact rfl); (case kq44 => exact rfl); (case hq44 => exact rfl); (case iq44 => exact rfl); (case xq44 => exact rfl); (case yq44 => exact rfl); (case sq44 => with_unfolding_all exact rfl); (case wq44 => with_unfolding_all exact rfl); (case uq44 => exact rfl); (case vq44 => exact rfl); (case cq44 => k_extra "MINE cond"); intro h9 t9 u9 tk9 F9 N9); (try k_sweep)))
  k_with "M eval Call" => (k_fold)
  k_with "M eval Tuple" => (k_fold)
  k_with "M eval BinOp" => (k_fold)
  k_with "M eval Subscript" => (k_fold)
  k_with "M eval IfExp" => (k_fold)
  k_with "M isTrue Compare" => (k_fold)
  k_with "M isTrue BoolOp" => (k_fold)
  k_with "M exec If" => (k_fold)
  k_with "M exec Return" => (k_fold)
  k_with "MINE t k_room" => (ktr_room)
  k_with "MINE t k_units" => (ktr_units)
  k_with "MINE t k_mem" => (first | with_reducible assumption | assumption | exact List.Mem.head _ | (refine' List.Mem.tail _ ?_; k_mem))
  k_with "MINE t k_all" => (first | assumption | exact cellNe (by assumption) (by k_extra "MINE sub") | exact List.forall_mem_nil _ | (refine' List.forall_mem_cons.mpr ⟨?aq57, ?bq57⟩; (case aq57 => first | k_ne | assumption); (case bq57 => k_all)))
  k_with "MINE t ktr_room" => (first | (refine' rm2 ?hq58 ?bq58; (case hq58 => assumption); (case bq58 => exact rfl)) | (refine' rm1 ?hq58 ?bq58; (case hq58 => assumption); (case bq58 => exact rfl)) | (refine' rm3 ?hq58 ?bq58; (case hq58 => assumption); (case bq58 => exact rfl)) | exact rm0 (by assumption) | fail "no room")
  k_with "MINE t ktr_units" => (first | (refine' rm2 ?hq59 ?bq59; (case hq59 => assumption); (case bq59 => exact rfl)) | (refine' rm1 ?hq59 ?bq59; (case hq59 => assumption); (case bq59 => exact rfl)) | (refine' rm3 ?hq59 ?bq59; (case hq59 => assumption); (case bq59 => exact rfl)) | exact rm0 (by assumption) | fail "no room")
  k_with "MINE t k_ne" => (with_reducible (first | assumption | exact Nat.ne_of_lt (by k_extra "MINE lt") | exact Nat.ne_of_gt (by k_extra "MINE lt") | exact Ne.symm (by assumption) | k_extra "MINE lt" | exact Ne.symm (by k_extra "MINE lt") | fail "not seen unlike"))
  trivial
theorem fn_of {w : World} {news : Led} {dg kd : Addr} {o : Obj} {ks : List Int} {l : List UInt8} {t : Tok} (hdg : DigAt w.params news dg kd) (hne : ∀ q ∈ news, q.1 ≠ kd) (hsy : (kd == sysModules) = false) (ho : DigO w o ks) (hks : ks.length ≤ 10) (hl : l.length ≤ 100) :
    Fn w 20 80 49 ((kd, o) :: news) [.ref dg, .bytes l.toArray t] (fun v news' => ∃ o' t', v = .bytes (ofN (dgN ks (beN (1 :: l) : Int))).toArray t' ∧ news' = (kd, o') :: news ∧ DigO w o' (dgK ks (beN (1 :: l) : Int))) := by
  have hdg' := hdg
  obtain ⟨dd, t1, hd1, hd2⟩ := hdg'
  (unfold Fn; k_fill; intro pg loose mean mg mb dp un gd cn cs a ccd cl outer A₀ base h₀ L m hp₀ gs₀ dr₀ tk₀ os₀ Q E B F X N T hk hd hu hret; refine wpAny_call ?_; k_dflt ktr_enter; refine wp_let ?_; intro Ak)
  k_steps
  all_goals (refine hret _ _ _ _ (by k_asm) (by k_asm) ?_; refine' ⟨_, _, ?e, rfl, by assumption⟩; (case e => exact congrArg (fun z : List UInt8 => Value.bytes z.toArray _) (ofN_eq rfl (fm (by decide)) rfl)))
theorem lines_C15 : True := by
  w_top off
  k_with_none
  k_with "MINE len" => (((try simp only [List.length_append, List.length_take, List.length_drop, List.length_replicate, List.length_cons, List.length_nil, cutL_length, beL_length, leL_length, partL_length, KBa_byteArr_length, List.length_map, rangeKs_length] at *); omega))
  k_with "MINE num" => (first | omega | assumption | (simp only [Int.reduceToNat, Int.reducePow, Int.reduceMul, Int.fmod_eq_emod_of_nonneg, Int.reduceLE]; omega) | k_extra "MINE len")
  k_with "M call type:bytes" => ((k_here; (with_reducible show wpAny _ _ (call (Value.type "bytes") [Value.int _ _]) _ _ _); refine' bz_call ?h0q2 ?hNq2 ?_; (case h0q2 => k_extra "MINE num"); (case hNq2 => k_extra "MINE num"); intro _ _))
  k_with "M call builtin:len" => ((k_here; (with_reducible show wpAny _ _ (call (Value.builtin "len") [Value.bytes (List.toArray _) _]) _ _ _); refine' len_L ?h0q3 ?_; (case h0q3 => k_extra "MINE num"); intro _ _))
  k_with "M binaryOp Add bytes bytes" => ((k_here; (with_reducible show wpAny _ _ (binaryOp Operator.Add (Value.bytes (List.toArray _) _) (Value.bytes (List.toArray _) _)) _ _ _); refine' add_L ?h0q4 ?_; (case h0q4 => k_extra "MINE num"); intro _ _))
  k_with "M call ref" => ((k_here; (with_reducible show wpAny _ _ (call (Value.ref _) [Value.bytes (List.toArray _) _, Value.str _ _]) _ _ _); kfb_any; k_dflt (refine' from_big ?h1q5 ?h2q5 ?h3q5 ?_; (case h1q5 => k_asm); (case h2q5 => k_mem); (case h3q5 => k_extra "MINE num")); intro _ _))
  k_with "M subscriptTail" => ((k_here; (with_reducible show wpAny _ _ (subscriptTail _ (Expr.Slice _ _ none _) (Value.bytes (List.toArray _) _) (Value.ref _)) _ _ _); (with_reducible rename Fr _ _ _ _ => F'); (with_reducible rename News _ _ _ _ => N'); (first | (refine' slice_ab (s := ⟨_, _, _, _, _⟩) F' N' ?aq6 ?bq6 ?zq6 ?_; (case aq6 => k_extra "MINE num"); (case bq6 => k_extra "MINE num"); (case zq6 => k_extra "MINE num")) | (refine' slice_to (s := ⟨_, _, _, _, _⟩) F' N' ?bq6 ?zq6 ?_; (case bq6 => k_extra "MINE num"); (case zq6 => k_extra "MINE num")) | (refine' slice_from (s := ⟨_, _, _, _, _⟩) F' N' ?aq6 ?zq6 ?_; (case aq6 => k_extra "MINE num"); (case zq6 => k_extra "MINE num"))); intro _ _ _ F' N'))
  k_with "M call builtin:int.to_bytes" => ((k_here; (with_reducible show wpAny _ _ (call (Value.builtin "int.to_bytes") [Value.int _ _, Value.int _ _, Value.str _ _]) _ _ _); (first | (refine' to_bigI ?aq7 ?cq7 ?bq7 ?dq7 ?_; (case aq7 => k_extra "MINE num"); (case cq7 => k_extra "MINE num"); (case bq7 => k_extra "MINE num"); (case dq7 => k_extra "MINE fits")) | (refine' to_littleI ?aq7 ?cq7 ?bq7 ?dq7 ?_; (case aq7 => k_extra "MINE num"); (case cq7 => k_extra "MINE num"); (case bq7 => k_extra "MINE num"); (case dq7 => k_extra "MINE fits"))); intro _ _))
  k_with "MINE fits" => (first | assumption | exact fits_num (by assumption) | (simp only [Int.reduceToNat, Nat.reducePow]; omega) | (simp only [Int.reduceToNat, Nat.reducePow, Int.reducePow, Int.reduceMul, Int.fmod_eq_emod_of_nonneg, Int.reduceLE]; omega))
  k_with "MINE enter" => ((unfold Fn; k_fill; intro p loose mean mg mb dp un gd cn cs a ccd cl outer A₀ base h₀ L m hp₀ gs₀ dr₀ tk₀ os₀ Q E B F X N T hk hd hu hret; refine wpAny_call ?_; k_dflt ktr_enter))
  k_with "MINE use" => (((case k1 => k_asm); (case k2 => k_asm); (case k3 => k_asm); (case k4 => k_asm); (case k5 => k_asm); (case kK => first | exact rfl | assumption); (case kd => ktr_room); (case ku => ktr_units)))
  k_with "M call builtin:pow" => ((k_here; (with_reducible show wpAny _ _ (call (Value.builtin "pow") [Value.int _ _, Value.int _ _, Value.int _ _]) _ _ _); refine' pow3I ?aq11 ?bq11 ?_; (case aq11 => first | decide | k_extra "MINE num"); (case bq11 => first | decide | k_extra "MINE num"); intro _ _ _))
  k_with "MINE sub" => (first | (intro q hq; exact hq) | ((with_reducible refine' List.forall_mem_cons.mpr ⟨?aq12, ?bq12⟩); (case aq12 => k_mem); (case bq12 => k_extra "MINE sub")) | (intro q hq; (repeat (first | exact hq | refine List.mem_cons_of_mem _ ?_))))
  k_with "M call type:bytes" => ((k_here; (with_reducible show wpAny _ _ (call (Value.type "bytes") [Value.bytes _ _]) _ _ _); refine bb_call ?_))
  k_with "MINE pick" => ((repeat (first | exact Pick.head | apply Pick.tail)))
  k_with "M call builtin:max" => ((k_here; (with_reducible show wpAny _ _ (call (Value.builtin "max") [Value.int _ _, Value.int _ _]) _ _ _); k_dflt (refine' maxI ?hq15 ?Fq15 ?Nq15 ?_; (case hq15 => rfl); (case Fq15 => k_asm); (case Nq15 => k_asm)); intro _ _ _ F' N'; (try k_sweep)))
  k_with "M call builtin:min" => ((k_here; (with_reducible show wpAny _ _ (call (Value.builtin "min") [Value.int _ _, Value.int _ _]) _ _ _); k_dflt (refine' minI ?hq16 ?Fq16 ?Nq16 ?_; (case hq16 => rfl); (case Fq16 => k_asm); (case Nq16 => k_asm)); intro _ _ _ F' N'; (try k_sweep)))
  k_with "M call builtin:max" => ((k_here; (with_reducible show wpAny _ _ (call (Value.builtin "max") [Value.int _ _, Value.int _ _, Value.int _ _]) _ _ _); k_dflt (refine' max3I ?hq17 ?Fq17 ?Nq17 ?_; (case hq17 => rfl); (case Fq17 => k_asm); (case Nq17 => k_asm)); intro _ _ _ F' N'; (try k_sweep)))
  k_with "MINE subD" => ((intro q hq; exact List.mem_cons_of_mem _ hq))
  k_with "MINE steps" => (repeat' (first | (k_unfold; (try dsimp only)) | walk1 | (dsimp only; walk1) | (leave1; walk_say "STEP leave1"; try dsimp only) | fail "no step"))
  k_with "M callWith ref" => ((k_here; (with_reducible show wpAny _ _ (callWith _ (Value.ref (OfNat.ofNat _)) _ _ _) _ _ _); k_dflt (refine' callWith_K ?k1q20 ?k2q20 ?_; (case k1q20 => k_asm); (case k2q20 => k_is); k_whole)))
  k_with "M execs cons" => ((k_here; (try dsimp only); with_reducible refine tk_sum ?_; intro tk9; (try (with_reducible rename Fr _ _ _ _ => Fx9; refine fr_let Fx9 ?_; intro mK Fy9; clear Fx9)); (try k_extra "MINE led")))
  k_with "M execs nil" => ((k_here; (try dsimp only); with_reducible refine tk_sum ?_; intro tk9))
  k_with "MINE lt" => (first | assumption | exact And.left (by assumption) | exact And.left (And.right (by assumption)) | exact And.left (And.right (And.right (by assumption))) | exact And.left (And.right (And.right (And.right (by assumption)))) | exact And.left (And.right (And.right (And.right (And.right (by assumption))))) | exact And.left (And.right (And.right (And.right (And.right (And.right (by assumption)))))) | exact And.left (And.right (And.right (And.right (And.right (And.right (And.right (by assumption))))))) | exact And.left (And.right (And.right (And.right (And.right (And.right (And.right (And.right (by assumption)))))))) | exact And.left (And.right (And.right (And.right (And.right (And.right (And.right (And.right (And.right (by assumption))))))))) | exact And.right (by assumption) | exact And.right (And.right (by assumption)) | exact And.right (And.right (And.right (by assumption))) | fail "not seen less")
  k_with "MINE mul" => (first | ((with_reducible refine mulL ?_); decide) | ((with_reducible refine mulR ?_); decide) | ((with_reducible refine' mulRb ?_ ?_); (focus assumption); decide) | ((with_reducible refine' mulLb ?_ ?_); (focus assumption); decide) | ((with_reducible refine mulRm ?_); decide) | ((with_reducible refine mulLm ?_); decide) | fail "not seen small")
  k_with "M binaryOp Mult int int" => ((k_here; k_dflt (refine' PyProof.Rows.mul_int ?_ ?hmq25; rotate_left; (case hmq25 => k_extra "MINE mul"))))
  k_with "M newTuple" => ((k_here; kup_bare; k_dflt (refine' newTupleV ?Fq26 ?Nq26 ?_ ?zq26; (case Fq26 => k_asm); (case Nq26 => k_asm); (case zq26 => kmk_size)); intro D' h' F' N' l1; (try k_lt l1); (try k_sweep)))
  k_with "MINE gotD" => ((intro v9 n9 h9 tk9 F9 N9 hp9; obtain ⟨o9, t9, hv9, hn9, ho9, hb9, hb9'⟩ := hp9; subst hn9 hv9; (try dsimp only); (try k_fold)))
  k_with "MINE gotB" => ((intro v9 n9 h9 tk9 F9 N9 hp9; obtain ⟨o9, t9, hv9, hn9, ho9⟩ := hp9; subst hn9 hv9; (try dsimp only); (try k_fold)))
  k_with "MINE got" => ((intro v9 n9 h9 tk9 F9 N9 hp9; obtain ⟨hn9, t9, hv9⟩ := hp9; subst hn9 hv9; (try dsimp only); (try k_fold)))
  k_with "M call ref" => ((k_here; (with_reducible show wpAny _ _ (call (Value.ref 90) [Value.int _ _]) _ _ _); k_dflt (refine' Fn.use ?k1 ?k2 ?k3 ?k4 ?k5 ?kK (fn_led _ _ _ _ ) ?kd ?ku ?_; k_extra "MINE use"); k_extra "MINE got"))
  k_with "M call ref" => ((k_here; (with_reducible show wpAny _ _ (call (Value.ref 104) [Value.int _ _]) _ _ _); k_dflt (refine' Fn.use ?k1 ?k2 ?k3 ?k4 ?k5 ?kK (fn_address_of _ _ _ _ ) ?kd ?ku ?_; k_extra "MINE use"); k_extra "MINE got"))
  k_with "M call ref" => ((k_here; (with_reducible show wpAny _ _ (call (Value.ref 230) [Value.int _ _]) _ _ _); k_dflt (refine' Fn.use ?k1 ?k2 ?k3 ?k4 ?k5 ?kK (fn_words_of _ _ _ _ ) ?kd ?ku ?_; k_extra "MINE use"); k_extra "MINE got"))
  k_with "M call ref" => ((k_here; (with_reducible show wpAny _ _ (call (Value.ref 97) [Value.int _ _]) _ _ _); k_dflt (refine' Fn.use ?k1 ?k2 ?k3 ?k4 ?k5 ?kK (fn_word_octets' _ _ _ _ ?c1q33 ?c2q33) ?kd ?ku ?_; k_extra "MINE use"; (case c1q33 => k_extra "MINE num"); (case c2q33 => k_extra "MINE num")); k_extra "MINE got"))
  k_with "M call ref" => ((k_here; (with_reducible show wpAny _ _ (call (Value.ref 237) [Value.bytes _ _, Value.int _ _, Value.int _ _]) _ _ _); k_dflt (refine' Fn.use ?k1 ?k2 ?k3 ?k4 ?k5 ?kK (fn_part_of _ _ _ _ _ _ _ _ ?c1q34 ?c2q34) ?kd ?ku ?_; k_extra "MINE use"; (case c1q34 => k_extra "MINE num"); (case c2q34 => k_extra "MINE num")); k_extra "MINE got"))
  k_with "M call ref" => ((k_here; (with_reducible show wpAny _ _ (call (Value.ref 343) [Value.bytes _ _, Value.int _ _, Value.int _ _]) _ _ _); k_dflt (refine' Fn.use ?k1 ?k2 ?k3 ?k4 ?k5 ?kK (fn_law_part' _ _ _ _ _ _ _ _ ?c1q35 ?c2q35 ?c3q35 ?c4q35) ?kd ?ku ?_; k_extra "MINE use"; (case c1q35 => k_extra "MINE num"); (case c2q35 => k_extra "MINE num"); (case c3q35 => k_extra "MINE num"); (case c4q35 => k_extra "MINE num")); k_extra "MINE got"))
  k_with "M call ref" => ((k_here; (with_reducible show wpAny _ _ (call (Value.ref 343) [Value.bytes _ _, Value.int _ _, Value.int _ _]) _ _ _); k_dflt (refine' Fn.use ?k1 ?k2 ?k3 ?k4 ?k5 ?kK (fn_law_part _ _ _ _ _ _ _ _ ?c1q36 ?c2q36) ?kd ?ku ?_; k_extra "MINE use"; (case c1q36 => k_extra "MINE num"); (case c2q36 => k_extra "MINE num")); k_extra "MINE got"))
  k_with "M call ref" => ((k_here; (with_reducible show wpAny _ _ (call (Value.ref 244) [Value.bytes _ _, Value.int _ _, Value.int _ _]) _ _ _); k_dflt (refine' Fn.use ?k1 ?k2 ?k3 ?k4 ?k5 ?kK (fn_number_at' _ _ _ _ _ _ _ _ ?c1q37 ?c2q37 ?c3q37 ?c4q37) ?kd ?ku ?_; k_extra "MINE use"; (case c1q37 => k_extra "MINE num"); (case c2q37 => k_extra "MINE num"); (case c3q37 => k_extra "MINE num"); (case c4q37 => k_extra "MINE num")); k_extra "MINE got"))
  k_with "M call ref" => ((k_here; (with_reducible show wpAny _ _ (call (Value.ref 244) [Value.bytes _ _, Value.int _ _, Value.int _ _]) _ _ _); k_dflt (refine' Fn.use ?k1 ?k2 ?k3 ?k4 ?k5 ?kK (fn_number_at _ _ _ _ _ _ _ _ ?c1q38 ?c2q38) ?kd ?ku ?_; k_extra "MINE use"; (case c1q38 => k_extra "MINE num"); (case c2q38 => k_extra "MINE num")); k_extra "MINE got"))
  k_with "M call ref" => ((k_here; (with_reducible show wpAny _ _ (call (Value.ref 42) [Value.ref _, Value.bytes _ _]) _ _ _); k_dflt (refine' Fn.useP ?k1 ?k2 ?k3 ?k4 ?k5 ?kK ?kpq39 (fn_number  ?c1q39 ?c2q39 ?c3q39 ?c4q39 ?c5q39 ?c6q39) ?kd ?ku ?_; k_extra "MINE use"; (case c3q39 => first | assumption | omega); (case kpq39 => k_extra "MINE pick"); (case c1q39 => first | assumption | exact DigAt.more (by assumption) (by k_extra "MINE sub")); (case c2q39 => k_all); (case c4q39 => first | assumption | omega); (case c5q39 => k_extra "MINE num"); (case c6q39 => k_extra "MINE num")); k_extra "MINE gotD"))
  k_with "M call ref" => ((k_here; (with_reducible show wpAny _ _ (call (Value.ref 49) [Value.ref _, Value.bytes _ _]) _ _ _); k_dflt (refine' Fn.useP ?k1 ?k2 ?k3 ?k4 ?k5 ?kK ?kpq40 (fn_of  ?c1q40 ?c2q40 ?c3q40 ?c4q40 ?c5q40 ?c6q40) ?kd ?ku ?_; k_extra "MINE use"; (case c3q40 => first | assumption | omega); (case kpq40 => k_extra "MINE pick"); (case c1q40 => first | assumption | exact DigAt.more (by assumption) (by k_extra "MINE sub")); (case c2q40 => k_all); (case c4q40 => first | assumption | omega); (case c5q40 => k_extra "MINE num"); (case c6q40 => k_extra "MINE num")); k_extra "MINE gotB"))
  k_with "MINE cond" => (first | exact True.intro | ((try dsimp only [cP, cAnd]); (repeat' (first | exact True.intro | refine And.intro ?_ ?_)); all_goals first | k_extra "MINE mul" | mul_fits | decide | omega | assumption))
  k_with "M eval BinOp" => ((k_here; (try dsimp only); k_dflt (refine' pe_int ?Fq42 ?fq42 ?hq42 ?cq42 ?_; (case Fq42 => k_asm); (case fq42 => exact rfl); (case hq42 => exact rfl); (case cq42 => k_extra "MINE cond")); intro t9 tk9; (try dsimp only)))
  k_with "M isTrue Compare" => ((k_here; (try dsimp only); k_dflt (refine' pe_cmp ?Fq43 ?fq43 noOrc_ok ?hq43 ?iq43 ?jq43 ?bq43 ?cq43 ?_; (case Fq43 => k_asm); (case fq43 => exact rfl); (case hq43 => exact rfl); (case iq43 => exact rfl); (case jq43 => exact rfl); (case bq43 => exact rfl); (case cq43 => k_extra "MINE cond")); intro tk9; (try dsimp only)))
  k_with "M eval Tuple" => ((k_here; (try dsimp only); k_dflt (first | (refine' pe_tup2 ?Fq44 ?Nq44 ?fq44 noOrc_ok ?hq44 ?iq44 ?sq44 ?uq44 ?cq44 ?_; (case Fq44 => k_asm); (case Nq44 => k_asm); (case fq44 => exact rfl); (case hq44 => exact rfl); (case iq44 => exact rfl); (case sq44 => exact rfl); (case uq44 => exact rfl); (case cq44 => k_extra "MINE cond"); intro a9 h9 t9 u9 tk9 F9 N9 l9) | (refine' pe_tup3 ?Fq44 ?Nq44 ?fq44 noOrc_ok ?hq44 ?iq44 ?jq44 ?sq44 ?uq44 ?vq44 ?cq44 ?_; (case Fq44 => k_asm); (case Nq44 => k_asm); (case fq44 => exact rfl); (case hq44 => exact rfl); (case iq44 => exact rfl); (case jq44 => exact rfl); (case sq44 => exact rfl); (case uq44 => exact rfl); (case vq44 => exact rfl); (case cq44 => k_extra "MINE cond"); intro a9 h9 t9 u9 v9 tk9 F9 N9 l9)); (have l9c := l9); (try k_lt l9); (try k_sweep); (try dsimp only)))
  k_with "M execs cons" => ((k_here; (with_reducible show wpAny _ _ (execs (Stmt.Assign [Expr.Name _ _] _ _ :: _) _) _ _ _); (try dsimp only); k_dflt (refine' pe_one ?Fq45 ?Nq45 ?fq45 noOrc_ok ?hq45 ?xq45 ?sq45 ?cq45 ?_; (case Fq45 => k_asm); (case Nq45 => k_asm); (case fq45 => exact rfl); (case hq45 => exact rfl); (case xq45 => exact rfl); (case sq45 => with_unfolding_all exact rfl); (case cq45 => k_extra "MINE cond"); intro h9 t9 tk9 F9 N9); (try k_sweep)))
  k_with "M execs cons" => ((k_here; (with_reducible show wpAny _ _ (execs (Stmt.Assign [Expr.Tuple [Expr.Name _ _, Expr.Name _ _] _ _] (Expr.Tuple [_, _] _ _) _ :: _) _) _ _ _); (try dsimp only); k_dflt (refine' pe_two ?Fq46 ?Nq46 ?fq46 noOrc_ok ?kq46 ?hq46 ?iq46 ?xq46 ?yq46 ?sq46 ?wq46 ?uq46 ?vq46 ?cq46 ?_; (case Fq46 => k_asm); (case Nq46 => k_asm); (case fq46 => exact rfl); (case kq46 => exact rfl); (case hq46 => exact rfl); (case iq46 => exact rfl); (case xq46 => exact rfl); (case yq46 => exact rfl); (case sq46 => with_unfolding_all exact rfl); (case wq46 => with_unfolding_all exact rfl); (case uq46 => exact rfl); (case vq46 => exact rfl); (case cq46 => k_extra "MINE cond"); intro h9 t9 u9 tk9 F9 N9); (try k_sweep)))
  k_with "M eval Call" => (k_fold)
  k_with "M eval Tuple" => (k_fold)
  k_with "M eval BinOp" => (k_fold)
  k_with "M eval Subscript" => (k_fold)
  k_with "M eval IfExp" => (k_fold)
  k_with "M isTrue Compare" => (k_fold)
  k_with "M isTrue BoolOp" => (k_fold)
  k_with "M exec If" => (k_fold)
  k_with "M exec Return" => (k_fold)
  k_with "MINE t k_room" => (ktr_room)
  k_with "MINE t k_units" => (ktr_units)
  k_with "MINE t k_mem" => (first | with_reducible assumption | assumption | exact List.Mem.head _ | (refine' List.Mem.tail _ ?_; k_mem))
  k_with "MINE t k_all" => (first | assumption | exact cellNe (by assumption) (by k_extra "MINE sub") | exact List.forall_mem_nil _ | (refine' List.forall_mem_cons.mpr ⟨?aq59, ?bq59⟩; (case aq59 => first | k_ne | assumption); (case bq59 => k_all)))
  k_with "MINE t ktr_room" => (first | (refine' rm2 ?hq60 ?bq60; (case hq60 => assumption); (case bq60 => exact rfl)) | (refine' rm1 ?hq60 ?bq60; (case hq60 => assumption); (case bq60 => exact rfl)) | (refine' rm3 ?hq60 ?bq60; (case hq60 => assumption); (case bq60 => exact rfl)) | exact rm0 (by assumption) | fail "no room")
  k_with "MINE t ktr_units" => (first | (refine' rm2 ?hq61 ?bq61; (case hq61 => assumption); (case bq61 => exact rfl)) | (refine' rm1 ?hq61 ?bq61; (case hq61 => assumption); (case bq61 => exact rfl)) | (refine' rm3 ?hq61 ?bq61; (case hq61 => assumption); (case bq61 => exact rfl)) | exact rm0 (by assumption) | fail "no room")
  k_with "MINE t k_ne" => (with_reducible (first | assumption | exact Nat.ne_of_lt (by k_extra "MINE lt") | exact Nat.ne_of_gt (by k_extra "MINE lt") | exact Ne.symm (by assumption) | k_extra "MINE lt" | exact Ne.symm (by k_extra "MINE lt") | fail "not seen unlike"))
  trivial
theorem fn_word_of {w : World} {news : Led} {dg kd : Addr} {o : Obj} {ks : List Int} {l : List UInt8} {t : Tok} (hdg : DigAt w.params news dg kd) (hne : ∀ q ∈ news, q.1 ≠ kd) (hsy : (kd == sysModules) = false) (ho : DigO w o ks) (hks : ks.length ≤ 10) (hl : l.length ≤ 100) :
    Fn w 30 120 63 ((kd, o) :: news) [.ref dg, .bytes l.toArray t] (fun v news' => ∃ o' t', v = .int (beN (ofN (dgN ks (beN (1 :: l) : Int))) : Int) t' ∧ news' = (kd, o') :: news ∧ DigO w o' (dgK ks (beN (1 :: l) : Int))) := by
  have hdg' := hdg
  obtain ⟨dd, t1, hd1, hd2⟩ := hdg'
  have hof := ofN_length (dgN ks (beN (1 :: l) : Int))
  (unfold Fn; k_fill; intro pg loose mean mg mb dp un gd cn cs a ccd cl outer A₀ base h₀ L m hp₀ gs₀ dr₀ tk₀ os₀ Q E B F X N T hk hd hu hret; refine wpAny_call ?_; k_dflt ktr_enter; refine wp_let ?_; intro Ak)
  k_steps
  all_goals (refine' hret _ ((kd, _) :: news) _ _ (by k_asm) (by refine cb_drop (by k_asm) ?_; k_extra "MINE sub") ⟨_, _, rfl, rfl, by assumption⟩)
theorem lines_C16 : True := by
  w_top off
  k_with_none
  k_with "MINE len" => (((try simp only [List.length_append, List.length_take, List.length_drop, List.length_replicate, List.length_cons, List.length_nil, cutL_length, beL_length, leL_length, partL_length, KBa_byteArr_length, List.length_map, rangeKs_length] at *); omega))
  k_with "MINE num" => (first | omega | assumption | (simp only [Int.reduceToNat, Int.reducePow, Int.reduceMul, Int.fmod_eq_emod_of_nonneg, Int.reduceLE]; omega) | k_extra "MINE len")
  k_with "M call type:bytes" => ((k_here; (with_reducible show wpAny _ _ (call (Value.type "bytes") [Value.int _ _]) _ _ _); refine' bz_call ?h0q2 ?hNq2 ?_; (case h0q2 => k_extra "MINE num"); (case hNq2 => k_extra "MINE num"); intro _ _))
  k_with "M call builtin:len" => ((k_here; (with_reducible show wpAny _ _ (call (Value.builtin "len") [Value.bytes (List.toArray _) _]) _ _ _); refine' len_L ?h0q3 ?_; (case h0q3 => k_extra "MINE num"); intro _ _))
  k_with "M binaryOp Add bytes bytes" => ((k_here; (with_reducible show wpAny _ _ (binaryOp Operator.Add (Value.bytes (List.toArray _) _) (Value.bytes (List.toArray _) _)) _ _ _); refine' add_L ?h0q4 ?_; (case h0q4 => k_extra "MINE num"); intro _ _))
  k_with "M call ref" => ((k_here; (with_reducible show wpAny _ _ (call (Value.ref _) [Value.bytes (List.toArray _) _, Value.str _ _]) _ _ _); kfb_any; k_dflt (refine' from_big ?h1q5 ?h2q5 ?h3q5 ?_; (case h1q5 => k_asm); (case h2q5 => k_mem); (case h3q5 => k_extra "MINE num")); intro _ _))
  k_with "M subscriptTail" => ((k_here; (with_reducible show wpAny _ _ (subscriptTail _ (Expr.Slice _ _ none _) (Value.bytes (List.toArray _) _) (Value.ref _)) _ _ _); (with_reducible rename Fr _ _ _ _ => F'); (with_reducible rename News _ _ _ _ => N'); (first | (refine' slice_ab (s := ⟨_, _, _, _, _⟩) F' N' ?aq6 ?bq6 ?zq6 ?_; (case aq6 => k_extra "MINE num"); (case bq6 => k_extra "MINE num"); (case zq6 => k_extra "MINE num")) | (refine' slice_to (s := ⟨_, _, _, _, _⟩) F' N' ?bq6 ?zq6 ?_; (case bq6 => k_extra "MINE num"); (case zq6 => k_extra "MINE num")) | (refine' slice_from (s := ⟨_, _, _, _, _⟩) F' N' ?aq6 ?zq6 ?_; (case aq6 => k_extra "MINE num"); (case zq6 => k_extra "MINE num"))); intro _ _ _ F' N'))
  k_with "M call builtin:int.to_bytes" => ((k_here; (with_reducible show wpAny _ _ (call (Value.builtin "int.to_bytes") [Value.int _ _, Value.int _ _, Value.str _ _]) _ _ _); (first | (refine' to_bigI ?aq7 ?cq7 ?bq7 ?dq7 ?_; (case aq7 => k_extra "MINE num"); (case cq7 => k_extra "MINE num"); (case bq7 => k_extra "MINE num"); (case dq7 => k_extra "MINE fits")) | (refine' to_littleI ?aq7 ?cq7 ?bq7 ?dq7 ?_; (case aq7 => k_extra "MINE num"); (case cq7 => k_extra "MINE num"); (case bq7 => k_extra "MINE num"); (case dq7 => k_extra "MINE fits"))); intro _ _))
  k_with "MINE fits" => (first | assumption | exact fits_num (by assumption) | (simp only [Int.reduceToNat, Nat.reducePow]; omega) | (simp only [Int.reduceToNat, Nat.reducePow, Int.reducePow, Int.reduceMul, Int.fmod_eq_emod_of_nonneg, Int.reduceLE]; omega))
  k_with "MINE enter" => ((unfold Fn; k_fill; intro p loose mean mg mb dp un gd cn cs a ccd cl outer A₀ base h₀ L m hp₀ gs₀ dr₀ tk₀ os₀ Q E B F X N T hk hd hu hret; refine wpAny_call ?_; k_dflt ktr_enter))
  k_with "MINE use" => (((case k1 => k_asm); (case k2 => k_asm); (case k3 => k_asm); (case k4 => k_asm); (case k5 => k_asm); (case kK => first | exact rfl | assumption); (case kd => ktr_room); (case ku => ktr_units)))
  k_with "M call builtin:pow" => ((k_here; (with_reducible show wpAny _ _ (call (Value.builtin "pow") [Value.int _ _, Value.int _ _, Value.int _ _]) _ _ _); refine' pow3I ?aq11 ?bq11 ?_; (case aq11 => first | decide | k_extra "MINE num"); (case bq11 => first | decide | k_extra "MINE num"); intro _ _ _))
  k_with "MINE sub" => (first | (intro q hq; exact hq) | ((with_reducible refine' List.forall_mem_cons.mpr ⟨?aq12, ?bq12⟩); (case aq12 => k_mem); (case bq12 => k_extra "MINE sub")) | (intro q hq; (repeat (first | exact hq | refine List.mem_cons_of_mem _ ?_))))
  k_with "M call type:bytes" => ((k_here; (with_reducible show wpAny _ _ (call (Value.type "bytes") [Value.bytes _ _]) _ _ _); refine bb_call ?_))
  k_with "MINE pick" => ((repeat (first | exact Pick.head | apply Pick.tail)))
  k_with "M call builtin:max" => ((k_here; (with_reducible show wpAny _ _ (call (Value.builtin "max") [Value.int _ _, Value.int _ _]) _ _ _); k_dflt (refine' maxI ?hq15 ?Fq15 ?Nq15 ?_; (case hq15 => rfl); (case Fq15 => k_asm); (case Nq15 => k_asm)); intro _ _ _ F' N'; (try k_sweep)))
  k_with "M call builtin:min" => ((k_here; (with_reducible show wpAny _ _ (call (Value.builtin "min") [Value.int _ _, Value.int _ _]) _ _ _); k_dflt (refine' minI ?hq16 ?Fq16 ?Nq16 ?_; (case hq16 => rfl); (case Fq16 => k_asm); (case Nq16 => k_asm)); intro _ _ _ F' N'; (try k_sweep)))
  k_with "M call builtin:max" => ((k_here; (with_reducible show wpAny _ _ (call (Value.builtin "max") [Value.int _ _, Value.int _ _, Value.int _ _]) _ _ _); k_dflt (refine' max3I ?hq17 ?Fq17 ?Nq17 ?_; (case hq17 => rfl); (case Fq17 => k_asm); (case Nq17 => k_asm)); intro _ _ _ F' N'; (try k_sweep)))
  k_with "MINE subD" => ((intro q hq; exact List.mem_cons_of_mem _ hq))
  k_with "MINE steps" => (repeat' (first | (k_unfold; (try dsimp only)) | walk1 | (dsimp only; walk1) | (leave1; walk_say "STEP leave1"; try dsimp only) | fail "no step"))
  k_with "M callWith ref" => ((k_here; (with_reducible show wpAny _ _ (callWith _ (Value.ref (OfNat.ofNat _)) _ _ _) _ _ _); k_dflt (refine' callWith_K ?k1q20 ?k2q20 ?_; (case k1q20 => k_asm); (case k2q20 => k_is); k_whole)))
  k_with "M execs cons" => ((k_here; (try dsimp only); with_reducible refine tk_sum ?_; intro tk9; (try (with_reducible rename Fr _ _ _ _ => Fx9; refine fr_let Fx9 ?_; intro mK Fy9; clear Fx9)); (try k_extra "MINE led")))
  k_with "M execs nil" => ((k_here; (try dsimp only); with_reducible refine tk_sum ?_; intro tk9))
  k_with "MINE lt" => (first | assumption | exact And.left (by assumption) | exact And.left (And.right (by assumption)) | exact And.left (And.right (And.right (by assumption))) | exact And.left (And.right (And.right (And.right (by assumption)))) | exact And.left (And.right (And.right (And.right (And.right (by assumption))))) | exact And.left (And.right (And.right (And.right (And.right (And.right (by assumption)))))) | exact And.left (And.right (And.right (And.right (And.right (And.right (And.right (by assumption))))))) | exact And.left (And.right (And.right (And.right (And.right (And.right (And.right (And.right (by assumption)))))))) | exact And.left (And.right (And.right (And.right (And.right (And.right (And.right (And.right (And.right (by assumption))))))))) | exact And.right (by assumption) | exact And.right (And.right (by assumption)) | exact And.right (And.right (And.right (by assumption))) | fail "not seen less")
  k_with "MINE mul" => (first | ((with_reducible refine mulL ?_); decide) | ((with_reducible refine mulR ?_); decide) | ((with_reducible refine' mulRb ?_ ?_); (focus assumption); decide) | ((with_reducible refine' mulLb ?_ ?_); (focus assumption); decide) | ((with_reducible refine mulRm ?_); decide) | ((with_reducible refine mulLm ?_); decide) | fail "not seen small")
  k_with "M binaryOp Mult int int" => ((k_here; k_dflt (refine' PyProof.Rows.mul_int ?_ ?hmq25; rotate_left; (case hmq25 => k_extra "MINE mul"))))
  k_with "M newTuple" => ((k_here; kup_bare; k_dflt (refine' newTupleV ?Fq26 ?Nq26 ?_ ?zq26; (case Fq26 => k_asm); (case Nq26 => k_asm); (case zq26 => kmk_size)); intro D' h' F' N' l1; (try k_lt l1); (try k_sweep)))
  k_with "MINE gotD" => ((intro v9 n9 h9 tk9 F9 N9 hp9; obtain ⟨o9, t9, hv9, hn9, ho9, hb9, hb9'⟩ := hp9; subst hn9 hv9; (try dsimp only); (try k_fold)))
  k_with "MINE gotB" => ((intro v9 n9 h9 tk9 F9 N9 hp9; obtain ⟨o9, t9, hv9, hn9, ho9⟩ := hp9; subst hn9 hv9; (try dsimp only); (try k_fold)))
  k_with "MINE got" => ((intro v9 n9 h9 tk9 F9 N9 hp9; obtain ⟨hn9, t9, hv9⟩ := hp9; subst hn9 hv9; (try dsimp only); (try k_fold)))
  k_with "M call ref" => ((k_here; (with_reducible show wpAny _ _ (call (Value.ref 90) [Value.int _ _]) _ _ _); k_dflt (refine' Fn.use ?k1 ?k2 ?k3 ?k4 ?k5 ?kK (fn_led _ _ _ _ ) ?kd ?ku ?_; k_extra "MINE use"); k_extra "MINE got"))
  k_with "M call ref" => ((k_here; (with_reducible show wpAny _ _ (call (Value.ref 104) [Value.int _ _]) _ _ _); k_dflt (refine' Fn.use ?k1 ?k2 ?k3 ?k4 ?k5 ?kK (fn_address_of _ _ _ _ ) ?kd ?ku ?_; k_extra "MINE use"); k_extra "MINE got"))
  k_with "M call ref" => ((k_here; (with_reducible show wpAny _ _ (call (Value.ref 230) [Value.int _ _]) _ _ _); k_dflt (refine' Fn.use ?k1 ?k2 ?k3 ?k4 ?k5 ?kK (fn_words_of _ _ _ _ ) ?kd ?ku ?_; k_extra "MINE use"); k_extra "MINE got"))
  k_with "M call ref" => ((k_here; (with_reducible show wpAny _ _ (call (Value.ref 97) [Value.int _ _]) _ _ _); k_dflt (refine' Fn.use ?k1 ?k2 ?k3 ?k4 ?k5 ?kK (fn_word_octets' _ _ _ _ ?c1q33 ?c2q33) ?kd ?ku ?_; k_extra "MINE use"; (case c1q33 => k_extra "MINE num"); (case c2q33 => k_extra "MINE num")); k_extra "MINE got"))
  k_with "M call ref" => ((k_here; (with_reducible show wpAny _ _ (call (Value.ref 237) [Value.bytes _ _, Value.int _ _, Value.int _ _]) _ _ _); k_dflt (refine' Fn.use ?k1 ?k2 ?k3 ?k4 ?k5 ?kK (fn_part_of _ _ _ _ _ _ _ _ ?c1q34 ?c2q34) ?kd ?ku ?_; k_extra "MINE use"; (case c1q34 => k_extra "MINE num"); (case c2q34 => k_extra "MINE num")); k_extra "MINE got"))
  k_with "M call ref" => ((k_here; (with_reducible show wpAny _ _ (call (Value.ref 343) [Value.bytes _ _, Value.int _ _, Value.int _ _]) _ _ _); k_dflt (refine' Fn.use ?k1 ?k2 ?k3 ?k4 ?k5 ?kK (fn_law_part' _ _ _ _ _ _ _ _ ?c1q35 ?c2q35 ?c3q35 ?c4q35) ?kd ?ku ?_; k_extra "MINE use"; (case c1q35 => k_extra "MINE num"); (case c2q35 => k_extra "MINE num"); (case c3q35 => k_extra "MINE num"); (case c4q35 => k_extra "MINE num")); k_extra "MINE got"))
  k_with "M call ref" => ((k_here; (with_reducible show wpAny _ _ (call (Value.ref 343) [Value.bytes _ _, Value.int _ _, Value.int _ _]) _ _ _); k_dflt (refine' Fn.use ?k1 ?k2 ?k3 ?k4 ?k5 ?kK (fn_law_part _ _ _ _ _ _ _ _ ?c1q36 ?c2q36) ?kd ?ku ?_; k_extra "MINE use"; (case c1q36 => k_extra "MINE num"); (case c2q36 => k_extra "MINE num")); k_extra "MINE got"))
  k_with "M call ref" => ((k_here; (with_reducible show wpAny _ _ (call (Value.ref 244) [Value.bytes _ _, Value.int _ _, Value.int _ _]) _ _ _); k_dflt (refine' Fn.use ?k1 ?k2 ?k3 ?k4 ?k5 ?kK (fn_number_at' _ _ _ _ _ _ _ _ ?c1q37 ?c2q37 ?c3q37 ?c4q37) ?kd ?ku ?_; k_extra "MINE use"; (case c1q37 => k_extra "MINE num"); (case c2q37 => k_extra "MINE num"); (case c3q37 => k_extra "MINE num"); (case c4q37 => k_extra "MINE num")); k_extra "MINE got"))
  k_with "M call ref" => ((k_here; (with_reducible show wpAny _ _ (call (Value.ref 244) [Value.bytes _ _, Value.int _ _, Value.int _ _]) _ _ _); k_dflt (refine' Fn.use ?k1 ?k2 ?k3 ?k4 ?k5 ?kK (fn_number_at _ _ _ _ _ _ _ _ ?c1q38 ?c2q38) ?kd ?ku ?_; k_extra "MINE use"; (case c1q38 => k_extra "MINE num"); (case c2q38 => k_extra "MINE num")); k_extra "MINE got"))
  k_with "M call ref" => ((k_here; (with_reducible show wpAny _ _ (call (Value.ref 42) [Value.ref _, Value.bytes _ _]) _ _ _); k_dflt (refine' Fn.useP ?k1 ?k2 ?k3 ?k4 ?k5 ?kK ?kpq39 (fn_number  ?c1q39 ?c2q39 ?c3q39 ?c4q39 ?c5q39 ?c6q39) ?kd ?ku ?_; k_extra "MINE use"; (case c3q39 => first | assumption | omega); (case kpq39 => k_extra "MINE pick"); (case c1q39 => first | assumption | exact DigAt.more (by assumption) (by k_extra "MINE sub")); (case c2q39 => k_all); (case c4q39 => first | assumption | omega); (case c5q39 => k_extra "MINE num"); (case c6q39 => k_extra "MINE num")); k_extra "MINE gotD"))
  k_with "M call ref" => ((k_here; (with_reducible show wpAny _ _ (call (Value.ref 49) [Value.ref _, Value.bytes _ _]) _ _ _); k_dflt (refine' Fn.useP ?k1 ?k2 ?k3 ?k4 ?k5 ?kK ?kpq40 (fn_of  ?c1q40 ?c2q40 ?c3q40 ?c4q40 ?c5q40 ?c6q40) ?kd ?ku ?_; k_extra "MINE use"; (case c3q40 => first | assumption | omega); (case kpq40 => k_extra "MINE pick"); (case c1q40 => first | assumption | exact DigAt.more (by assumption) (by k_extra "MINE sub")); (case c2q40 => k_all); (case c4q40 => first | assumption | omega); (case c5q40 => k_extra "MINE num"); (case c6q40 => k_extra "MINE num")); k_extra "MINE gotB"))
  k_with "M call ref" => ((k_here; (with_reducible show wpAny _ _ (call (Value.ref 63) [Value.ref _, Value.bytes _ _]) _ _ _); k_dflt (refine' Fn.useP ?k1 ?k2 ?k3 ?k4 ?k5 ?kK ?kpq41 (fn_word_of  ?c1q41 ?c2q41 ?c3q41 ?c4q41 ?c5q41 ?c6q41) ?kd ?ku ?_; k_extra "MINE use"; (case c3q41 => first | assumption | omega); (case kpq41 => k_extra "MINE pick"); (case c1q41 => first | assumption | exact DigAt.more (by assumption) (by k_extra "MINE sub")); (case c2q41 => k_all); (case c4q41 => first | assumption | omega); (case c5q41 => k_extra "MINE num"); (case c6q41 => k_extra "MINE num")); k_extra "MINE gotB"))
  k_with "MINE cond" => (first | exact True.intro | ((try dsimp only [cP, cAnd]); (repeat' (first | exact True.intro | refine And.intro ?_ ?_)); all_goals first | k_extra "MINE mul" | mul_fits | decide | omega | assumption))
  k_with "M eval BinOp" => ((k_here; (try dsimp only); k_dflt (refine' pe_int ?Fq43 ?fq43 ?hq43 ?cq43 ?_; (case Fq43 => k_asm); (case fq43 => exact rfl); (case hq43 => exact rfl); (case cq43 => k_extra "MINE cond")); intro t9 tk9; (try dsimp only)))
  k_with "M isTrue Compare" => ((k_here; (try dsimp only); k_dflt (refine' pe_cmp ?Fq44 ?fq44 noOrc_ok ?hq44 ?iq44 ?jq44 ?bq44 ?cq44 ?_; (case Fq44 => k_asm); (case fq44 => exact rfl); (case hq44 => exact rfl); (case iq44 => exact rfl); (case jq44 => exact rfl); (case bq44 => exact rfl); (case cq44 => k_extra "MINE cond")); intro tk9; (try dsimp only)))
  k_with "M eval Tuple" => ((k_here; (try dsimp only); k_dflt (first | (refine' pe_tup2 ?Fq45 ?Nq45 ?fq45 noOrc_ok ?hq45 ?iq45 ?sq45 ?uq45 ?cq45 ?_; (case Fq45 => k_asm); (case Nq45 => k_asm); (case fq45 => exact rfl); (case hq45 => exact rfl); (case iq45 => exact rfl); (case sq45 => exact rfl); (case uq45 => exact rfl); (case cq45 => k_extra "MINE cond"); intro a9 h9 t9 u9 tk9 F9 N9 l9) | (refine' pe_tup3 ?Fq45 ?Nq45 ?fq45 noOrc_ok ?hq45 ?iq45 ?jq45 ?sq45 ?uq45 ?vq45 ?cq45 ?_; (case Fq45 => k_asm); (case Nq45 => k_asm); (case fq45 => exact rfl); (case hq45 => exact rfl); (case iq45 => exact rfl); (case jq45 => exact rfl); (case sq45 => exact rfl); (case uq45 => exact rfl); (case vq45 => exact rfl); (case cq45 => k_extra "MINE cond"); intro a9 h9 t9 u9 v9 tk9 F9 N9 l9)); (have l9c := l9); (try k_lt l9); (try k_sweep); (try dsimp only)))
  k_with "M execs cons" => ((k_here; (with_reducible show wpAny _ _ (execs (Stmt.Assign [Expr.Name _ _] _ _ :: _) _) _ _ _); (try dsimp only); k_dflt (refine' pe_one ?Fq46 ?Nq46 ?fq46 noOrc_ok ?hq46 ?xq46 ?sq46 ?cq46 ?_; (case Fq46 => k_asm); (case Nq46 => k_asm); (case fq46 => exact rfl); (case hq46 => exact rfl); (case xq46 => exact rfl); (case sq46 => with_unfolding_all exact rfl); (case cq46 => k_extra "MINE cond"); intro h9 t9 tk9 F9 N9); (try k_sweep)))
  k_with "M execs cons" => ((k_here; (with_reducible show wpAny _ _ (execs (Stmt.Assign [Expr.Tuple [Expr.Name _ _, Expr.Name _ _] _ _] (Expr.Tuple [_, _] _ _) _ :: _) _) _ _ _); (try dsimp only); k_dflt (refine' pe_two ?Fq47 ?Nq47 ?fq47 noOrc_ok ?kq47 ?hq47 ?iq47 ?xq47 ?yq47 ?sq47 ?wq47 ?uq47 ?vq47 ?cq47 ?_; (case Fq47 => k_asm); (case Nq47 => k_asm); (case fq47 => exact rfl); (case kq47 => exact rfl); (case hq47 => exact rfl); (case iq47 => exact rfl); (case xq47 => exact rfl); (case yq47 => exact rfl); (case sq47 => with_unfolding_all exact rfl); (case wq47 => with_unfolding_all exact rfl); (case uq47 => exact rfl); (case vq47 => exact rfl); (case cq47 => k_extra "MINE cond"); intro h9 t9 u9 tk9 F9 N9); (try k_sweep)))
  k_with "M eval Call" => (k_fold)
  k_with "M eval Tuple" => (k_fold)
  k_with "M eval BinOp" => (k_fold)
  k_with "M eval Subscript" => (k_fold)
  k_with "M eval IfExp" => (k_fold)
  k_with "M isTrue Compare" => (k_fold)
  k_with "M isTrue BoolOp" => (k_fold)
  k_with "M exec If" => (k_fold)
  k_with "M exec Return" => (k_fold)
  k_with "MINE t k_room" => (ktr_room)
  k_with "MINE t k_units" => (ktr_units)
  k_with "MINE t k_mem" => (first | with_reducible assumption | assumption | exact List.Mem.head _ | (refine' List.Mem.tail _ ?_; k_mem))
  k_with "MINE t k_all" => (first | assumption | exact cellNe (by assumption) (by k_extra "MINE sub") | exact List.forall_mem_nil _ | (refine' List.forall_mem_cons.mpr ⟨?aq60, ?bq60⟩; (case aq60 => first | k_ne | assumption); (case bq60 => k_all)))
  k_with "MINE t ktr_room" => (first | (refine' rm2 ?hq61 ?bq61; (case hq61 => assumption); (case bq61 => exact rfl)) | (refine' rm1 ?hq61 ?bq61; (case hq61 => assumption); (case bq61 => exact rfl)) | (refine' rm3 ?hq61 ?bq61; (case hq61 => assumption); (case bq61 => exact rfl)) | exact rm0 (by assumption) | fail "no room")
  k_with "MINE t ktr_units" => (first | (refine' rm2 ?hq62 ?bq62; (case hq62 => assumption); (case bq62 => exact rfl)) | (refine' rm1 ?hq62 ?bq62; (case hq62 => assumption); (case bq62 => exact rfl)) | (refine' rm3 ?hq62 ?bq62; (case hq62 => assumption); (case bq62 => exact rfl)) | exact rm0 (by assumption) | fail "no room")
  k_with "MINE t k_ne" => (with_reducible (first | assumption | exact Nat.ne_of_lt (by k_extra "MINE lt") | exact Nat.ne_of_gt (by k_extra "MINE lt") | exact Ne.symm (by assumption) | k_extra "MINE lt" | exact Ne.symm (by k_extra "MINE lt") | fail "not seen unlike"))
  trivial
theorem fn_address_of_point {w : World} {news : Led} {st dg cu kd pa : Addr} {o : Obj} {ks : List Int} {x y : Int} {tx ty : Tok} (hst : SetAt w.params news st dg cu kd) (hm : (pa, tup2O x tx y ty) ∈ news) (hne : ∀ q ∈ news, q.1 ≠ kd) (hsy : (kd == sysModules) = false) (ho : DigO w o ks) (hks : ks.length ≤ 10)
    (px : 0 ≤ x ∧ x < 67) (py : 0 ≤ y ∧ y < 67) :
    Fn w 40 160 111 ((kd, o) :: news) [.ref pa, .ref st] (fun v news' => ∃ o' t', v = .int (addrOf ks (ptKey x y)) t' ∧ news' = (kd, o') :: news ∧ DigO w o' (dgK ks (beN (1 :: ptKey x y) : Int)) ∧ 0 ≤ addrOf ks (ptKey x y) ∧ addrOf ks (ptKey x y) < 1461501637330902918203684832716283019655932542976) := by
  have hst' := hst
  obtain ⟨⟨sd, t1, t2, t3, t4, t5, t6, t7, t8, h1, h2⟩, h3, h4⟩ := hst'
  (unfold Fn; k_fill; intro pg loose mean mg mb dp un gd cn cs a ccd cl outer A₀ base h₀ L m hp₀ gs₀ dr₀ tk₀ os₀ Q E B F X N T hk hd hu hret; refine wpAny_call ?_; k_dflt ktr_enter; refine wp_let ?_; intro Ak)
  k_steps
  all_goals (refine' hret _ ((kd, _) :: news) _ _ (by k_asm) (by refine cb_drop (by k_asm) ?_; k_extra "MINE sub") ⟨_, _, ?e, rfl, by assumption, addrOf_in _ _⟩; (case e => exact rfl))
theorem lines_C18 : True := by
  w_top off
  k_with_none
  k_with "MINE len" => (((try simp only [List.length_append, List.length_take, List.length_drop, List.length_replicate, List.length_cons, List.length_nil, cutL_length, beL_length, leL_length, partL_length, KBa_byteArr_length, List.length_map, rangeKs_length] at *); omega))
  k_with "MINE num" => (first | omega | assumption | (simp only [Int.reduceToNat, Int.reducePow, Int.reduceMul, Int.fmod_eq_emod_of_nonneg, Int.reduceLE]; omega) | k_extra "MINE len")
  k_with "M call type:bytes" => ((k_here; (with_reducible show wpAny _ _ (call (Value.type "bytes") [Value.int _ _]) _ _ _); refine' bz_call ?h0q2 ?hNq2 ?_; (case h0q2 => k_extra "MINE num"); (case hNq2 => k_extra "MINE num"); intro _ _))
  k_with "M call builtin:len" => ((k_here; (with_reducible show wpAny _ _ (call (Value.builtin "len") [Value.bytes (List.toArray _) _]) _ _ _); refine' len_L ?h0q3 ?_; (case h0q3 => k_extra "MINE num"); intro _ _))
  k_with "M binaryOp Add bytes bytes" => ((k_here; (with_reducible show wpAny _ _ (binaryOp Operator.Add (Value.bytes (List.toArray _) _) (Value.bytes (List.toArray _) _)) _ _ _); refine' add_L ?h0q4 ?_; (case h0q4 => k_extra "MINE num"); intro _ _))
  k_with "M call ref" => ((k_here; (with_reducible show wpAny _ _ (call (Value.ref _) [Value.bytes (List.toArray _) _, Value.str _ _]) _ _ _); kfb_any; k_dflt (refine' from_big ?h1q5 ?h2q5 ?h3q5 ?_; (case h1q5 => k_asm); (case h2q5 => k_mem); (case h3q5 => k_extra "MINE num")); intro _ _))
  k_with "M subscriptTail" => ((k_here; (with_reducible show wpAny _ _ (subscriptTail _ (Expr.Slice _ _ none _) (Value.bytes (List.toArray _) _) (Value.ref _)) _ _ _); (with_reducible rename Fr _ _ _ _ => F'); (with_reducible rename News _ _ _ _ => N'); (first | (refine' slice_ab (s := ⟨_, _, _, _, _⟩) F' N' ?aq6 ?bq6 ?zq6 ?_; (case aq6 => k_extra "MINE num"); (case bq6 => k_extra "MINE num"); (case zq6 => k_extra "MINE num")) | (refine' slice_to (s := ⟨_, _, _, _, _⟩) F' N' ?bq6 ?zq6 ?_; (case bq6 => k_extra "MINE num"); (case zq6 => k_extra "MINE num")) | (refine' slice_from (s := ⟨_, _, _, _, _⟩) F' N' ?aq6 ?zq6 ?_; (case aq6 => k_extra "MINE num"); (case zq6 => k_extra "MINE num"))); intro _ _ _ F' N'))
  k_with "M call builtin:int.to_bytes" => ((k_here; (with_reducible show wpAny _ _ (call (Value.builtin "int.to_bytes") [Value.int _ _, Value.int _ _, Value.str _ _]) _ _ _); (first | (refine' to_bigI ?aq7 ?cq7 ?bq7 ?dq7 ?_; (case aq7 => k_extra "MINE num"); (case cq7 => k_extra "MINE num"); (case bq7 => k_extra "MINE num"); (case dq7 => k_extra "MINE fits")) | (refine' to_littleI ?aq7 ?cq7 ?bq7 ?dq7 ?_; (case aq7 => k_extra "MINE num"); (case cq7 => k_extra "MINE num"); (case bq7 => k_extra "MINE num"); (case dq7 => k_extra "MINE fits"))); intro _ _))
  k_with "MINE fits" => (first | assumption | exact fits_num (by assumption) | (simp only [Int.reduceToNat, Nat.reducePow]; omega) | (simp only [Int.reduceToNat, Nat.reducePow, Int.reducePow, Int.reduceMul, Int.fmod_eq_emod_of_nonneg, Int.reduceLE]; omega))
  k_with "MINE enter" => ((unfold Fn; k_fill; intro p loose mean mg mb dp un gd cn cs a ccd cl outer A₀ base h₀ L m hp₀ gs₀ dr₀ tk₀ os₀ Q E B F X N T hk hd hu hret; refine wpAny_call ?_; k_dflt ktr_enter))
  k_with "MINE use" => (((case k1 => k_asm); (case k2 => k_asm); (case k3 => k_asm); (case k4 => k_asm); (case k5 => k_asm); (case kK => first | exact rfl | assumption); (case kd => ktr_room); (case ku => ktr_units)))
  k_with "M call builtin:pow" => ((k_here; (with_reducible show wpAny _ _ (call (Value.builtin "pow") [Value.int _ _, Value.int _ _, Value.int _ _]) _ _ _); refine' pow3I ?aq11 ?bq11 ?_; (case aq11 => first | decide | k_extra "MINE num"); (case bq11 => first | decide | k_extra "MINE num"); intro _ _ _))
  k_with "MINE sub" => (first | (intro q hq; exact hq) | ((with_reducible refine' List.forall_mem_cons.mpr ⟨?aq12, ?bq12⟩); (case aq12 => k_mem); (case bq12 => k_extra "MINE sub")) | (intro q hq; (repeat (first | exact hq | refine List.mem_cons_of_mem _ ?_))))
  k_with "M call type:bytes" => ((k_here; (with_reducible show wpAny _ _ (call (Value.type "bytes") [Value.bytes _ _]) _ _ _); refine bb_call ?_))
  k_with "MINE pick" => ((repeat (first | exact Pick.head | apply Pick.tail)))
  k_with "M call builtin:max" => ((k_here; (with_reducible show wpAny _ _ (call (Value.builtin "max") [Value.int _ _, Value.int _ _]) _ _ _); k_dflt (refine' maxI ?hq15 ?Fq15 ?Nq15 ?_; (case hq15 => rfl); (case Fq15 => k_asm); (case Nq15 => k_asm)); intro _ _ _ F' N'; (try k_sweep)))
  k_with "M call builtin:min" => ((k_here; (with_reducible show wpAny _ _ (call (Value.builtin "min") [Value.int _ _, Value.int _ _]) _ _ _); k_dflt (refine' minI ?hq16 ?Fq16 ?Nq16 ?_; (case hq16 => rfl); (case Fq16 => k_asm); (case Nq16 => k_asm)); intro _ _ _ F' N'; (try k_sweep)))
  k_with "M call builtin:max" => ((k_here; (with_reducible show wpAny _ _ (call (Value.builtin "max") [Value.int _ _, Value.int _ _, Value.int _ _]) _ _ _); k_dflt (refine' max3I ?hq17 ?Fq17 ?Nq17 ?_; (case hq17 => rfl); (case Fq17 => k_asm); (case Nq17 => k_asm)); intro _ _ _ F' N'; (try k_sweep)))
  k_with "MINE subD" => ((intro q hq; exact List.mem_cons_of_mem _ hq))
  k_with "MINE steps" => (repeat' (first | (k_unfold; (try dsimp only)) | walk1 | (dsimp only; walk1) | (leave1; walk_say "STEP leave1"; try dsimp only) | fail "no step"))
  k_with "M callWith ref" => ((k_here; (with_reducible show wpAny _ _ (callWith _ (Value.ref (OfNat.ofNat _)) _ _ _) _ _ _); k_dflt (refine' callWith_K ?k1q20 ?k2q20 ?_; (case k1q20 => k_asm); (case k2q20 => k_is); k_whole)))
  k_with "M execs cons" => ((k_here; (try dsimp only); with_reducible refine tk_sum ?_; intro tk9; (try (with_reducible rename Fr _ _ _ _ => Fx9; refine fr_let Fx9 ?_; intro mK Fy9; clear Fx9)); (try k_extra "MINE led")))
  k_with "M execs nil" => ((k_here; (try dsimp only); with_reducible refine tk_sum ?_; intro tk9))
  k_with "MINE lt" => (first | assumption | exact And.left (by assumption) | exact And.left (And.right (by assumption)) | exact And.left (And.right (And.right (by assumption))) | exact And.left (And.right (And.right (And.right (by assumption)))) | exact And.left (And.right (And.right (And.right (And.right (by assumption))))) | exact And.left (And.right (And.right (And.right (And.right (And.right (by assumption)))))) | exact And.left (And.right (And.right (And.right (And.right (And.right (And.right (by assumption))))))) | exact And.left (And.right (And.right (And.right (And.right (And.right (And.right (And.right (by assumption)))))))) | exact And.left (And.right (And.right (And.right (And.right (And.right (And.right (And.right (And.right (by assumption))))))))) | exact And.right (by assumption) | exact And.right (And.right (by assumption)) | exact And.right (And.right (And.right (by assumption))) | fail "not seen less")
  k_with "MINE mul" => (first | ((with_reducible refine mulL ?_); decide) | ((with_reducible refine mulR ?_); decide) | ((with_reducible refine' mulRb ?_ ?_); (focus assumption); decide) | ((with_reducible refine' mulLb ?_ ?_); (focus assumption); decide) | ((with_reducible refine mulRm ?_); decide) | ((with_reducible refine mulLm ?_); decide) | fail "not seen small")
  k_with "M binaryOp Mult int int" => ((k_here; k_dflt (refine' PyProof.Rows.mul_int ?_ ?hmq25; rotate_left; (case hmq25 => k_extra "MINE mul"))))
  k_with "M newTuple" => ((k_here; kup_bare; k_dflt (refine' newTupleV ?Fq26 ?Nq26 ?_ ?zq26; (case Fq26 => k_asm); (case Nq26 => k_asm); (case zq26 => kmk_size)); intro D' h' F' N' l1; (try k_lt l1); (try k_sweep)))
  k_with "MINE got" => ((intro v9 n9 h9 tk9 F9 N9 hp9; obtain ⟨hn9, t9, hv9⟩ := hp9; subst hn9 hv9; (try dsimp only); (try k_fold)))
  k_with "M call ref" => ((k_here; (with_reducible show wpAny _ _ (call (Value.ref 90) [Value.int _ _]) _ _ _); k_dflt (refine' Fn.use ?k1 ?k2 ?k3 ?k4 ?k5 ?kK (fn_led _ _ _ _ ) ?kd ?ku ?_; k_extra "MINE use"); k_extra "MINE got"))
  k_with "M call ref" => ((k_here; (with_reducible show wpAny _ _ (call (Value.ref 104) [Value.int _ _]) _ _ _); k_dflt (refine' Fn.use ?k1 ?k2 ?k3 ?k4 ?k5 ?kK (fn_address_of _ _ _ _ ) ?kd ?ku ?_; k_extra "MINE use"); k_extra "MINE got"))
  k_with "M call ref" => ((k_here; (with_reducible show wpAny _ _ (call (Value.ref 230) [Value.int _ _]) _ _ _); k_dflt (refine' Fn.use ?k1 ?k2 ?k3 ?k4 ?k5 ?kK (fn_words_of _ _ _ _ ) ?kd ?ku ?_; k_extra "MINE use"); k_extra "MINE got"))
  k_with "M call ref" => ((k_here; (with_reducible show wpAny _ _ (call (Value.ref 97) [Value.int _ _]) _ _ _); k_dflt (refine' Fn.use ?k1 ?k2 ?k3 ?k4 ?k5 ?kK (fn_word_octets' _ _ _ _ ?c1q31 ?c2q31) ?kd ?ku ?_; k_extra "MINE use"; (case c1q31 => k_extra "MINE num"); (case c2q31 => k_extra "MINE num")); k_extra "MINE got"))
  k_with "M call ref" => ((k_here; (with_reducible show wpAny _ _ (call (Value.ref 237) [Value.bytes _ _, Value.int _ _, Value.int _ _]) _ _ _); k_dflt (refine' Fn.use ?k1 ?k2 ?k3 ?k4 ?k5 ?kK (fn_part_of _ _ _ _ _ _ _ _ ?c1q32 ?c2q32) ?kd ?ku ?_; k_extra "MINE use"; (case c1q32 => k_extra "MINE num"); (case c2q32 => k_extra "MINE num")); k_extra "MINE got"))
  k_with "M call ref" => ((k_here; (with_reducible show wpAny _ _ (call (Value.ref 343) [Value.bytes _ _, Value.int _ _, Value.int _ _]) _ _ _); k_dflt (refine' Fn.use ?k1 ?k2 ?k3 ?k4 ?k5 ?kK (fn_law_part' _ _ _ _ _ _ _ _ ?c1q33 ?c2q33 ?c3q33 ?c4q33) ?kd ?ku ?_; k_extra "MINE use"; (case c1q33 => k_extra "MINE num"); (case c2q33 => k_extra "MINE num"); (case c3q33 => k_extra "MINE num"); (case c4q33 => k_extra "MINE num")); k_extra "MINE got"))
  k_with "M call ref" => ((k_here; (with_reducible show wpAny _ _ (call (Value.ref 343) [Value.bytes _ _, Value.int _ _, Value.int _ _]) _ _ _); k_dflt (refine' Fn.use ?k1 ?k2 ?k3 ?k4 ?k5 ?kK (fn_law_part _ _ _ _ _ _ _ _ ?c1q34 ?c2q34) ?kd ?ku ?_; k_extra "MINE use"; (case c1q34 => k_extra "MINE num"); (case c2q34 => k_extra "MINE num")); k_extra "MINE got"))
  k_with "M call ref" => ((k_here; (with_reducible show wpAny _ _ (call (Value.ref 244) [Value.bytes _ _, Value.int _ _, Value.int _ _]) _ _ _); k_dflt (refine' Fn.use ?k1 ?k2 ?k3 ?k4 ?k5 ?kK (fn_number_at' _ _ _ _ _ _ _ _ ?c1q35 ?c2q35 ?c3q35 ?c4q35) ?kd ?ku ?_; k_extra "MINE use"; (case c1q35 => k_extra "MINE num"); (case c2q35 => k_extra "MINE num"); (case c3q35 => k_extra "MINE num"); (case c4q35 => k_extra "MINE num")); k_extra "MINE got"))
  k_with "M call ref" => ((k_here; (with_reducible show wpAny _ _ (call (Value.ref 244) [Value.bytes _ _, Value.int _ _, Value.int _ _]) _ _ _); k_dflt (refine' Fn.use ?k1 ?k2 ?k3 ?k4 ?k5 ?kK (fn_number_at _ _ _ _ _ _ _ _ ?c1q36 ?c2q36) ?kd ?ku ?_; k_extra "MINE use"; (case c1q36 => k_extra "MINE num"); (case c2q36 => k_extra "MINE num")); k_extra "MINE got"))
  k_with "MINE cond" => (first | exact True.intro | ((try dsimp only [cP, cAnd]); (repeat' (first | exact True.intro | refine And.intro ?_ ?_)); all_goals first | k_extra "MINE mul" | mul_fits | decide | omega | assumption))
  k_with "M eval BinOp" => ((k_here; (try dsimp only); k_dflt (refine' pe_int ?Fq38 ?fq38 ?hq38 ?cq38 ?_; (case Fq38 => k_asm); (case fq38 => exact rfl); (case hq38 => exact rfl); (case cq38 => k_extra "MINE cond")); intro t9 tk9; (try dsimp only)))
  k_with "M isTrue Compare" => ((k_here; (try dsimp only); k_dflt (refine' pe_cmp ?Fq39 ?fq39 noOrc_ok ?hq39 ?iq39 ?jq39 ?bq39 ?cq39 ?_; (case Fq39 => k_asm); (case fq39 => exact rfl); (case hq39 => exact rfl); (case iq39 => exact rfl); (case jq39 => exact rfl); (case bq39 => exact rfl); (case cq39 => k_extra "MINE cond")); intro tk9; (try dsimp only)))
  k_with "M eval Tuple" => ((k_here; (try dsimp only); k_dflt (first | (refine' pe_tup2 ?Fq40 ?Nq40 ?fq40 noOrc_ok ?hq40 ?iq40 ?sq40 ?uq40 ?cq40 ?_; (case Fq40 => k_asm); (case Nq40 => k_asm); (case fq40 => exact rfl); (case hq40 => exact rfl); (case iq40 => exact rfl); (case sq40 => exact rfl); (case uq40 => exact rfl); (case cq40 => k_extra "MINE cond"); intro a9 h9 t9 u9 tk9 F9 N9 l9) | (refine' pe_tup3 ?Fq40 ?Nq40 ?fq40 noOrc_ok ?hq40 ?iq40 ?jq40 ?sq40 ?uq40 ?vq40 ?cq40 ?_; (case Fq40 => k_asm); (case Nq40 => k_asm); (case fq40 => exact rfl); (case hq40 => exact rfl); (case iq40 => exact rfl); (case jq40 => exact rfl); (case sq40 => exact rfl); (case uq40 => exact rfl); (case vq40 => exact rfl); (case cq40 => k_extra "MINE cond"); intro a9 h9 t9 u9 v9 tk9 F9 N9 l9)); (have l9c := l9); (try k_lt l9); (try k_sweep); (try dsimp only)))
  k_with "M execs cons" => ((k_here; (with_reducible show wpAny _ _ (execs (Stmt.Assign [Expr.Name _ _] _ _ :: _) _) _ _ _); (try dsimp only); k_dflt (refine' pe_one ?Fq41 ?Nq41 ?fq41 noOrc_ok ?hq41 ?xq41 ?sq41 ?cq41 ?_; (case Fq41 => k_asm); (case Nq41 => k_asm); (case fq41 => exact rfl); (case hq41 => exact rfl); (case xq41 => exact rfl); (case sq41 => with_unfolding_all exact rfl); (case cq41 => k_extra "MINE cond"); intro h9 t9 tk9 F9 N9); (try k_sweep)))
  k_with "M execs cons" => ((k_here; (with_reducible show wpAny _ _ (execs (Stmt.Assign [Expr.Tuple [Expr.Name _ _, Expr.Name _ _] _ _] (Expr.Tuple [_, _] _ _) _ :: _) _) _ _ _); (try dsimp only); k_dflt (refine' pe_two ?Fq42 ?Nq42 ?fq42 noOrc_ok ?kq42 ?hq42 ?iq42 ?xq42 ?yq42 ?sq42 ?wq42 ?uq42 ?vq42 ?cq42 ?_; (case Fq42 => k_asm); (case Nq42 => k_asm); (case fq42 => exact rfl); (case kq42 => exact rfl); (case hq42 => exact rfl); (case iq42 => exact rfl); (case xq42 => exact rfl); (case yq42 => exact rfl); (case sq42 => with_unfolding_all exact rfl); (case wq42 => with_unfolding_all exact rfl); (case uq42 => exact rfl); (case vq42 => exact rfl); (case cq42 => k_extra "MINE cond"); intro h9 t9 u9 tk9 F9 N9); (try k_sweep)))
  k_with "M eval Call" => (k_fold)
  k_with "M eval Tuple" => (k_fold)
  k_with "M eval BinOp" => (k_fold)
  k_with "M eval Subscript" => (k_fold)
  k_with "M eval IfExp" => (k_fold)
  k_with "M isTrue Compare" => (k_fold)
  k_with "M isTrue BoolOp" => (k_fold)
  k_with "M exec If" => (k_fold)
  k_with "M exec Return" => (k_fold)
  k_with "MINE t k_room" => (ktr_room)
  k_with "MINE t k_units" => (ktr_units)
  k_with "MINE t k_mem" => (first | with_reducible assumption | assumption | exact List.Mem.head _ | (refine' List.Mem.tail _ ?_; k_mem))
  k_with "MINE t k_all" => (first | assumption | exact cellNe (by assumption) (by k_extra "MINE sub") | exact List.forall_mem_nil _ | (refine' List.forall_mem_cons.mpr ⟨?aq55, ?bq55⟩; (case aq55 => first | k_ne | assumption); (case bq55 => k_all)))
  k_with "MINE t ktr_room" => (first | (refine' rm2 ?hq56 ?bq56; (case hq56 => assumption); (case bq56 => exact rfl)) | (refine' rm1 ?hq56 ?bq56; (case hq56 => assumption); (case bq56 => exact rfl)) | (refine' rm3 ?hq56 ?bq56; (case hq56 => assumption); (case bq56 => exact rfl)) | exact rm0 (by assumption) | fail "no room")
  k_with "MINE t ktr_units" => (first | (refine' rm2 ?hq57 ?bq57; (case hq57 => assumption); (case bq57 => exact rfl)) | (refine' rm1 ?hq57 ?bq57; (case hq57 => assumption); (case bq57 => exact rfl)) | (refine' rm3 ?hq57 ?bq57; (case hq57 => assumption); (case bq57 => exact rfl)) | exact rm0 (by assumption) | fail "no room")
  k_with "MINE t k_ne" => (with_reducible (first | assumption | exact Nat.ne_of_lt (by k_extra "MINE lt") | exact Nat.ne_of_gt (by k_extra "MINE lt") | exact Ne.symm (by assumption) | k_extra "MINE lt" | exact Ne.symm (by k_extra "MINE lt") | fail "not seen unlike"))
  trivial
theorem fn_power_rounds (w : World) (news : Led) (l : List UInt8) (b p : Nat) (t tb tp : Tok) (hl : l.length ≤ 300) (hb : b ≤ 4194304) (hp : p ≤ 4194304) :
    Fn w 30 120 256 news [.bytes l.toArray t, .int (b : Int) tb, .int (p : Int) tp] (fun v news' => news' = news ∧ ∃ t', v = .int (prR l b p) t') := by
  (unfold Fn; k_fill; intro pg loose mean mg mb dp un gd cn cs a ccd cl outer A₀ base h₀ L m hp₀ gs₀ dr₀ tk₀ os₀ Q E B F X N T hk hd hu hret; refine wpAny_call ?_; k_dflt ktr_enter; refine wp_let ?_; intro Ak)
  k_steps
  all_goals refine hret _ _ _ _ (by k_asm) (by k_asm) ?_
  · exact ⟨rfl, vint (prR_pos (by assumption))⟩
  · exact ⟨rfl, vint (prR_zero (by assumption))⟩
theorem lines_C19 : True := by
  w_top off
  k_with_none
  k_with "MINE len" => (((try simp only [List.length_append, List.length_take, List.length_drop, List.length_replicate, List.length_cons, List.length_nil, cutL_length, beL_length, leL_length, partL_length, KBa_byteArr_length, List.length_map, rangeKs_length] at *); omega))
  k_with "MINE num" => (first | omega | assumption | (simp only [Int.reduceToNat, Int.reducePow, Int.reduceMul, Int.fmod_eq_emod_of_nonneg, Int.reduceLE]; omega) | k_extra "MINE len")
  k_with "M call type:bytes" => ((k_here; (with_reducible show wpAny _ _ (call (Value.type "bytes") [Value.int _ _]) _ _ _); refine' bz_call ?h0q2 ?hNq2 ?_; (case h0q2 => k_extra "MINE num"); (case hNq2 => k_extra "MINE num"); intro _ _))
  k_with "M call builtin:len" => ((k_here; (with_reducible show wpAny _ _ (call (Value.builtin "len") [Value.bytes (List.toArray _) _]) _ _ _); refine' len_L ?h0q3 ?_; (case h0q3 => k_extra "MINE num"); intro _ _))
  k_with "M binaryOp Add bytes bytes" => ((k_here; (with_reducible show wpAny _ _ (binaryOp Operator.Add (Value.bytes (List.toArray _) _) (Value.bytes (List.toArray _) _)) _ _ _); refine' add_L ?h0q4 ?_; (case h0q4 => k_extra "MINE num"); intro _ _))
  k_with "M call ref" => ((k_here; (with_reducible show wpAny _ _ (call (Value.ref _) [Value.bytes (List.toArray _) _, Value.str _ _]) _ _ _); kfb_any; k_dflt (refine' from_big ?h1q5 ?h2q5 ?h3q5 ?_; (case h1q5 => k_asm); (case h2q5 => k_mem); (case h3q5 => k_extra "MINE num")); intro _ _))
  k_with "M subscriptTail" => ((k_here; (with_reducible show wpAny _ _ (subscriptTail _ (Expr.Slice _ _ none _) (Value.bytes (List.toArray _) _) (Value.ref _)) _ _ _); (with_reducible rename Fr _ _ _ _ => F'); (with_reducible rename News _ _ _ _ => N'); (first | (refine' slice_ab (s := ⟨_, _, _, _, _⟩) F' N' ?aq6 ?bq6 ?zq6 ?_; (case aq6 => k_extra "MINE num"); (case bq6 => k_extra "MINE num"); (case zq6 => k_extra "MINE num")) | (refine' slice_to (s := ⟨_, _, _, _, _⟩) F' N' ?bq6 ?zq6 ?_; (case bq6 => k_extra "MINE num"); (case zq6 => k_extra "MINE num")) | (refine' slice_from (s := ⟨_, _, _, _, _⟩) F' N' ?aq6 ?zq6 ?_; (case aq6 => k_extra "MINE num"); (case zq6 => k_extra "MINE num"))); intro _ _ _ F' N'))
  k_with "M call builtin:int.to_bytes" => ((k_here; (with_reducible show wpAny _ _ (call (Value.builtin "int.to_bytes") [Value.int _ _, Value.int _ _, Value.str _ _]) _ _ _); (first | (refine' to_bigI ?aq7 ?cq7 ?bq7 ?dq7 ?_; (case aq7 => k_extra "MINE num"); (case cq7 => k_extra "MINE num"); (case bq7 => k_extra "MINE num"); (case dq7 => k_extra "MINE fits")) | (refine' to_littleI ?aq7 ?cq7 ?bq7 ?dq7 ?_; (case aq7 => k_extra "MINE num"); (case cq7 => k_extra "MINE num"); (case bq7 => k_extra "MINE num"); (case dq7 => k_extra "MINE fits"))); intro _ _))
  k_with "MINE fits" => (first | assumption | exact fits_num (by assumption) | (simp only [Int.reduceToNat, Nat.reducePow]; omega) | (simp only [Int.reduceToNat, Nat.reducePow, Int.reducePow, Int.reduceMul, Int.fmod_eq_emod_of_nonneg, Int.reduceLE]; omega))
  k_with "MINE enter" => ((unfold Fn; k_fill; intro p loose mean mg mb dp un gd cn cs a ccd cl outer A₀ base h₀ L m hp₀ gs₀ dr₀ tk₀ os₀ Q E B F X N T hk hd hu hret; refine wpAny_call ?_; k_dflt ktr_enter))
  k_with "MINE use" => (((case k1 => k_asm); (case k2 => k_asm); (case k3 => k_asm); (case k4 => k_asm); (case k5 => k_asm); (case kK => first | exact rfl | assumption); (case kd => ktr_room); (case ku => ktr_units)))
  k_with "M call builtin:pow" => ((k_here; (with_reducible show wpAny _ _ (call (Value.builtin "pow") [Value.int _ _, Value.int _ _, Value.int _ _]) _ _ _); refine' pow3I ?aq11 ?bq11 ?_; (case aq11 => first | decide | k_extra "MINE num"); (case bq11 => first | decide | k_extra "MINE num"); intro _ _ _))
  k_with "MINE sub" => (first | (intro q hq; exact hq) | ((with_reducible refine' List.forall_mem_cons.mpr ⟨?aq12, ?bq12⟩); (case aq12 => k_mem); (case bq12 => k_extra "MINE sub")) | (intro q hq; (repeat (first | exact hq | refine List.mem_cons_of_mem _ ?_))))
  k_with "M call type:bytes" => ((k_here; (with_reducible show wpAny _ _ (call (Value.type "bytes") [Value.bytes _ _]) _ _ _); refine bb_call ?_))
  k_with "MINE pick" => ((repeat (first | exact Pick.head | apply Pick.tail)))
  k_with "M call builtin:max" => ((k_here; (with_reducible show wpAny _ _ (call (Value.builtin "max") [Value.int _ _, Value.int _ _]) _ _ _); k_dflt (refine' maxI ?hq15 ?Fq15 ?Nq15 ?_; (case hq15 => rfl); (case Fq15 => k_asm); (case Nq15 => k_asm)); intro _ _ _ F' N'; (try k_sweep)))
  k_with "M call builtin:min" => ((k_here; (with_reducible show wpAny _ _ (call (Value.builtin "min") [Value.int _ _, Value.int _ _]) _ _ _); k_dflt (refine' minI ?hq16 ?Fq16 ?Nq16 ?_; (case hq16 => rfl); (case Fq16 => k_asm); (case Nq16 => k_asm)); intro _ _ _ F' N'; (try k_sweep)))
  k_with "M call builtin:max" => ((k_here; (with_reducible show wpAny _ _ (call (Value.builtin "max") [Value.int _ _, Value.int _ _, Value.int _ _]) _ _ _); k_dflt (refine' max3I ?hq17 ?Fq17 ?Nq17 ?_; (case hq17 => rfl); (case Fq17 => k_asm); (case Nq17 => k_asm)); intro _ _ _ F' N'; (try k_sweep)))
  k_with "MINE subD" => ((intro q hq; exact List.mem_cons_of_mem _ hq))
  k_with "MINE steps" => (repeat' (first | (k_unfold; (try dsimp only)) | walk1 | (dsimp only; walk1) | (leave1; walk_say "STEP leave1"; try dsimp only) | fail "no step"))
  k_with "M callWith ref" => ((k_here; (with_reducible show wpAny _ _ (callWith _ (Value.ref (OfNat.ofNat _)) _ _ _) _ _ _); k_dflt (refine' callWith_K ?k1q20 ?k2q20 ?_; (case k1q20 => k_asm); (case k2q20 => k_is); k_whole)))
  k_with "M execs cons" => ((k_here; (try dsimp only); with_reducible refine tk_sum ?_; intro tk9; (try (with_reducible rename Fr _ _ _ _ => Fx9; refine fr_let Fx9 ?_; intro mK Fy9; clear Fx9)); (try k_extra "MINE led")))
  k_with "M execs nil" => ((k_here; (try dsimp only); with_reducible refine tk_sum ?_; intro tk9))
  k_with "MINE lt" => (first | assumption | exact And.left (by assumption) | exact And.left (And.right (by assumption)) | exact And.left (And.right (And.right (by assumption))) | exact And.left (And.right (And.right (And.right (by assumption)))) | exact And.left (And.right (And.right (And.right (And.right (by assumption))))) | exact And.left (And.right (And.right (And.right (And.right (And.right (by assumption)))))) | exact And.left (And.right (And.right (And.right (And.right (And.right (And.right (by assumption))))))) | exact And.left (And.right (And.right (And.right (And.right (And.right (And.right (And.right (by assumption)))))))) | exact And.left (And.right (And.right (And.right (And.right (And.right (And.right (And.right (And.right (by assumption))))))))) | exact And.right (by assumption) | exact And.right (And.right (by assumption)) | exact And.right (And.right (And.right (by assumption))) | fail "not seen less")
  k_with "MINE mul" => (first | ((with_reducible refine mulL ?_); decide) | ((with_reducible refine mulR ?_); decide) | ((with_reducible refine' mulRb ?_ ?_); (focus assumption); decide) | ((with_reducible refine' mulLb ?_ ?_); (focus assumption); decide) | ((with_reducible refine mulRm ?_); decide) | ((with_reducible refine mulLm ?_); decide) | fail "not seen small")
  k_with "M binaryOp Mult int int" => ((k_here; k_dflt (refine' PyProof.Rows.mul_int ?_ ?hmq25; rotate_left; (case hmq25 => k_extra "MINE mul"))))
  k_with "M newTuple" => ((k_here; kup_bare; k_dflt (refine' newTupleV ?Fq26 ?Nq26 ?_ ?zq26; (case Fq26 => k_asm); (case Nq26 => k_asm); (case zq26 => kmk_size)); intro D' h' F' N' l1; (try k_lt l1); (try k_sweep)))
  k_with "MINE gotPR" => ((intro v9 n9 h9 tk9 F9 N9 hp9; obtain ⟨hn9, t9, hv9⟩ := hp9; subst hn9 hv9; (try dsimp only); (try k_fold)))
  k_with "MINE got" => ((intro v9 n9 h9 tk9 F9 N9 hp9; obtain ⟨hn9, t9, hv9⟩ := hp9; subst hn9 hv9; (try dsimp only); (try k_fold)))
  k_with "M call ref" => ((k_here; (with_reducible show wpAny _ _ (call (Value.ref 90) [Value.int _ _]) _ _ _); k_dflt (refine' Fn.use ?k1 ?k2 ?k3 ?k4 ?k5 ?kK (fn_led _ _ _ _ ) ?kd ?ku ?_; k_extra "MINE use"); k_extra "MINE got"))
  k_with "M call ref" => ((k_here; (with_reducible show wpAny _ _ (call (Value.ref 104) [Value.int _ _]) _ _ _); k_dflt (refine' Fn.use ?k1 ?k2 ?k3 ?k4 ?k5 ?kK (fn_address_of _ _ _ _ ) ?kd ?ku ?_; k_extra "MINE use"); k_extra "MINE got"))
  k_with "M call ref" => ((k_here; (with_reducible show wpAny _ _ (call (Value.ref 230) [Value.int _ _]) _ _ _); k_dflt (refine' Fn.use ?k1 ?k2 ?k3 ?k4 ?k5 ?kK (fn_words_of _ _ _ _ ) ?kd ?ku ?_; k_extra "MINE use"); k_extra "MINE got"))
  k_with "M call ref" => ((k_here; (with_reducible show wpAny _ _ (call (Value.ref 97) [Value.int _ _]) _ _ _); k_dflt (refine' Fn.use ?k1 ?k2 ?k3 ?k4 ?k5 ?kK (fn_word_octets' _ _ _ _ ?c1q32 ?c2q32) ?kd ?ku ?_; k_extra "MINE use"; (case c1q32 => k_extra "MINE num"); (case c2q32 => k_extra "MINE num")); k_extra "MINE got"))
  k_with "M call ref" => ((k_here; (with_reducible show wpAny _ _ (call (Value.ref 237) [Value.bytes _ _, Value.int _ _, Value.int _ _]) _ _ _); k_dflt (refine' Fn.use ?k1 ?k2 ?k3 ?k4 ?k5 ?kK (fn_part_of _ _ _ _ _ _ _ _ ?c1q33 ?c2q33) ?kd ?ku ?_; k_extra "MINE use"; (case c1q33 => k_extra "MINE num"); (case c2q33 => k_extra "MINE num")); k_extra "MINE got"))
  k_with "M call ref" => ((k_here; (with_reducible show wpAny _ _ (call (Value.ref 343) [Value.bytes _ _, Value.int _ _, Value.int _ _]) _ _ _); k_dflt (refine' Fn.use ?k1 ?k2 ?k3 ?k4 ?k5 ?kK (fn_law_part' _ _ _ _ _ _ _ _ ?c1q34 ?c2q34 ?c3q34 ?c4q34) ?kd ?ku ?_; k_extra "MINE use"; (case c1q34 => k_extra "MINE num"); (case c2q34 => k_extra "MINE num"); (case c3q34 => k_extra "MINE num"); (case c4q34 => k_extra "MINE num")); k_extra "MINE got"))
  k_with "M call ref" => ((k_here; (with_reducible show wpAny _ _ (call (Value.ref 343) [Value.bytes _ _, Value.int _ _, Value.int _ _]) _ _ _); k_dflt (refine' Fn.use ?k1 ?k2 ?k3 ?k4 ?k5 ?kK (fn_law_part _ _ _ _ _ _ _ _ ?c1q35 ?c2q35) ?kd ?ku ?_; k_extra "MINE use"; (case c1q35 => k_extra "MINE num"); (case c2q35 => k_extra "MINE num")); k_extra "MINE got"))
  k_with "M call ref" => ((k_here; (with_reducible show wpAny _ _ (call (Value.ref 244) [Value.bytes _ _, Value.int _ _, Value.int _ _]) _ _ _); k_dflt (refine' Fn.use ?k1 ?k2 ?k3 ?k4 ?k5 ?kK (fn_number_at' _ _ _ _ _ _ _ _ ?c1q36 ?c2q36 ?c3q36 ?c4q36) ?kd ?ku ?_; k_extra "MINE use"; (case c1q36 => k_extra "MINE num"); (case c2q36 => k_extra "MINE num"); (case c3q36 => k_extra "MINE num"); (case c4q36 => k_extra "MINE num")); k_extra "MINE got"))
  k_with "M call ref" => ((k_here; (with_reducible show wpAny _ _ (call (Value.ref 244) [Value.bytes _ _, Value.int _ _, Value.int _ _]) _ _ _); k_dflt (refine' Fn.use ?k1 ?k2 ?k3 ?k4 ?k5 ?kK (fn_number_at _ _ _ _ _ _ _ _ ?c1q37 ?c2q37) ?kd ?ku ?_; k_extra "MINE use"; (case c1q37 => k_extra "MINE num"); (case c2q37 => k_extra "MINE num")); k_extra "MINE got"))
  k_with "M call ref" => ((k_here; (with_reducible show wpAny _ _ (call (Value.ref 256) [Value.bytes _ _, Value.int _ _, Value.int _ _]) _ _ _); k_dflt (refine' Fn.use ?k1 ?k2 ?k3 ?k4 ?k5 ?kK (fn_power_rounds _ _ _ _ _ _ _ _ ?c1q38 ?c2q38 ?c3q38) ?kd ?ku ?_; k_extra "MINE use"; (case c1q38 => k_extra "MINE num"); (case c2q38 => k_extra "MINE num"); (case c3q38 => k_extra "MINE num")); k_extra "MINE gotPR"))
  k_with "MINE cond" => (first | exact True.intro | ((try dsimp only [cP, cAnd]); (repeat' (first | exact True.intro | refine And.intro ?_ ?_)); all_goals first | k_extra "MINE mul" | mul_fits | decide | omega | assumption))
  k_with "M eval BinOp" => ((k_here; (try dsimp only); k_dflt (refine' pe_int ?Fq40 ?fq40 ?hq40 ?cq40 ?_; (case Fq40 => k_asm); (case fq40 => exact rfl); (case hq40 => exact rfl); (case cq40 => k_extra "MINE cond")); intro t9 tk9; (try dsimp only)))
  k_with "M isTrue Compare" => ((k_here; (try dsimp only); k_dflt (refine' pe_cmp ?Fq41 ?fq41 noOrc_ok ?hq41 ?iq41 ?jq41 ?bq41 ?cq41 ?_; (case Fq41 => k_asm); (case fq41 => exact rfl); (case hq41 => exact rfl); (case iq41 => exact rfl); (case jq41 => exact rfl); (case bq41 => exact rfl); (case cq41 => k_extra "MINE cond")); intro tk9; (try dsimp only)))
  k_with "M eval Tuple" => ((k_here; (try dsimp only); k_dflt (first | (refine' pe_tup2 ?Fq42 ?Nq42 ?fq42 noOrc_ok ?hq42 ?iq42 ?sq42 ?uq42 ?cq42 ?_; (case Fq42 => k_asm); (case Nq42 => k_asm); (case fq42 => exact rfl); (case hq42 => exact rfl); (case iq42 => exact rfl); (case sq42 => exact rfl); (case uq42 => exact rfl); (case cq42 => k_extra "MINE cond"); intro a9 h9 t9 u9 tk9 F9 N9 l9) | (refine' pe_tup3 ?Fq42 ?Nq42 ?fq42 noOrc_ok ?hq42 ?iq42 ?jq42 ?sq42 ?uq42 ?vq42 ?cq42 ?_; (case Fq42 => k_asm); (case Nq42 => k_asm); (case fq42 => exact rfl); (case hq42 => exact rfl); (case iq42 => exact rfl); (case jq42 => exact rfl); (case sq42 => exact rfl); (case uq42 => exact rfl); (case vq42 => exact rfl); (case cq42 => k_extra "MINE cond"); intro a9 h9 t9 u9 v9 tk9 F9 N9 l9)); (have l9c := l9); (try k_lt l9); (try k_sweep); (try dsimp only)))
  k_with "M execs cons" => ((k_here; (with_reducible show wpAny _ _ (execs (Stmt.Assign [Expr.Name _ _] _ _ :: _) _) _ _ _); (try dsimp only); k_dflt (refine' pe_one ?Fq43 ?Nq43 ?fq43 noOrc_ok ?hq43 ?xq43 ?sq43 ?cq43 ?_; (case Fq43 => k_asm); (case Nq43 => k_asm); (case fq43 => exact rfl); (case hq43 => exact rfl); (case xq43 => exact rfl); (case sq43 => with_unfolding_all exact rfl); (case cq43 => k_extra "MINE cond"); intro h9 t9 tk9 F9 N9); (try k_sweep)))
  k_with "M execs cons" => ((k_here; (with_reducible show wpAny _ _ (execs (Stmt.Assign [Expr.Tuple [Expr.Name _ _, Expr.Name _ _] _ _] (Expr.Tuple [_, _] _ _) _ :: _) _) _ _ _); (try dsimp only); k_dflt (refine' pe_two ?Fq44 ?Nq44 ?fq44 noOrc_ok ?kq44 ?hq44 ?iq44 ?xq44 ?yq44 ?sq44 ?wq44 ?uq44 ?vq44 ?cq44 ?_; (case Fq44 => k_asm); (case Nq44 => k_asm); (case fq44 => exact rfl); (case kq44 => exact rfl); (case hq44 => exact rfl); (case iq44 => exact rfl); (case xq44 => exact rfl); (case yq44 => exact rfl); (case sq44 => with_unfolding_all exact rfl); (case wq44 => with_unfolding_all exact rfl); (case uq44 => exact rfl); (case vq44 => exact rfl); (case cq44 => k_extra "MINE cond"); intro h9 t9 u9 tk9 F9 N9); (try k_sweep)))
  k_with "MINE led" => ((with_reducible rename News _ _ _ _ => Nx9; refine news_let Nx9 ?_; intro lK Ny9; clear Nx9))
  k_with "MINE mul" => (first | (with_reducible exact c19E (by assumption)) | (with_reducible exact c19R (by assumption) (by assumption)))
  k_with "M eval ListComp" => ((k_here; k_dflt (refine ListComp_T (F₀ := by k_asm) (by with_unfolding_all rfl) (by decide) (by rfl) (by decide) (by rfl) ?_)))
  k_with "M SrcT" => ((k_here; k_dflt (refine SrcT.intro (by rfl) (by k_asm) (by k_asm) (by k_mem) (by first | size_fits | exact Nat.le_of_ble_eq_true rfl) ?_; intro g'; lcg_lit)))
  k_with "M CompRest" => ((with_unfolding_all first | (refine LCg.CompRest.succ ?_; intro v' I' oI' C' oC' D' m' h' tk' E' hv' hC' hx' F' N' off' ne'; (first | lcg_open hv' | (obtain ⟨t9', hv9'⟩ := hv'; subst hv9'))) | refine LCg.CompRest.zero ?_))
  k_with "M CompEnd" => ((k_dflt (refine' compEnd ?Fq50 ?Nq50 ?offq50 ?Sq50 ?_; (case Fq50 => assumption); (case Nq50 => k_asm); (case offq50 => assumption); (case Sq50 => first | assumption | exact trivial | (unfold TupIn; k_mem)))))
  k_with "M exec Assign cons ListComp" => (((with_reducible show wpAny _ _ (exec (Stmt.Assign [Expr.Tuple _ _ _] (Expr.ListComp _ _ _ _) _) _) _ _ _); refine Assign_Tuple ?_ (by kernel_rfl) (by kernel_rfl)))
  k_with "MINE t k_room" => (ktr_room)
  k_with "MINE t k_units" => (ktr_units)
  k_with "MINE t k_mem" => (first | with_reducible assumption | assumption | exact List.Mem.head _ | (refine' List.Mem.tail _ ?_; k_mem))
  k_with "MINE t k_all" => (first | assumption | exact cellNe (by assumption) (by k_extra "MINE sub") | exact List.forall_mem_nil _ | (refine' List.forall_mem_cons.mpr ⟨?aq55, ?bq55⟩; (case aq55 => first | k_ne | assumption); (case bq55 => k_all)))
  k_with "MINE t ktr_room" => (first | (refine' rm2 ?hq56 ?bq56; (case hq56 => assumption); (case bq56 => exact rfl)) | (refine' rm1 ?hq56 ?bq56; (case hq56 => assumption); (case bq56 => exact rfl)) | (refine' rm3 ?hq56 ?bq56; (case hq56 => assumption); (case bq56 => exact rfl)) | exact rm0 (by assumption) | fail "no room")
  k_with "MINE t ktr_units" => (first | (refine' rm2 ?hq57 ?bq57; (case hq57 => assumption); (case bq57 => exact rfl)) | (refine' rm1 ?hq57 ?bq57; (case hq57 => assumption); (case bq57 => exact rfl)) | (refine' rm3 ?hq57 ?bq57; (case hq57 => assumption); (case bq57 => exact rfl)) | exact rm0 (by assumption) | fail "no room")
  k_with "MINE t k_ne" => (with_reducible (first | assumption | exact Nat.ne_of_lt (by k_extra "MINE lt") | exact Nat.ne_of_gt (by k_extra "MINE lt") | exact Ne.symm (by assumption) | k_extra "MINE lt" | exact Ne.symm (by k_extra "MINE lt") | fail "not seen unlike"))
  trivial
theorem fn_power_cost (w : World) (news : Led) (l : List UInt8) (t : Tok) (hl : l.length ≤ 300) (hz : Sz l) :
    Fn w 40 160 261 news [.bytes l.toArray t] (fun v news' => news' = news ∧ ∃ t', v = .int (prC l) t') := by
  have n0 := numL_lt32 l 0
  have n1 := numL_lt32 l 32
  have n2 := numL_lt32 l 64
  obtain ⟨z0, z1, z2⟩ := hz
  unfold Szn at z0 z1 z2
  have hpr := prR_in l (numL l 0 32) (numL l 32 32)
  (unfold Fn; k_fill; intro pg loose mean mg mb dp un gd cn cs a ccd cl outer A₀ base h₀ L m hp₀ gs₀ dr₀ tk₀ os₀ Q E B F X N T hk hd hu hret; refine wpAny_call ?_; k_dflt (refine' code_defC ?k1 ?k2 ?k3 ?k4 ?k5 ?kA ?kF ?kK ?k6 ?k7 ?k8 ?k9 ?kB ?kD ?_ ?c2 ?c3 ?c4; (case kA => exact rfl); (case kF => exact rfl); (case kK => assumption); (case k1 => k_asm); (case k2 => k_asm); (case k3 => k_asm); (case k4 => k_asm); (case k5 => k_asm); (case k6 => k_is); (case k7 => k_is); (case k8 => ktr_room); (case k9 => exact BindsTo.of_eq rfl); (case kB => exact rfl); (case kD => decide +kernel); (case c2 => exact rfl); (case c3 => exact rfl); (case c4 => exact rfl); k_whole; intro g' L' h' tk' cells' FG' F' N' Y' B' X' T' l1; (have l1c := l1); (try k_lt l1); k_cells Y'; (try simp only [List.cons_append, List.nil_append] at N'); (try dsimp only); (try k_fold)); refine wp_letQ ?_; intro qk ek Ak)
  k_steps
  · refine hret _ news _ _ (by k_asm) (by refine cb_drop (by k_asm) ?_; intro q hq; repeat (first | exact hq | refine List.mem_cons_of_mem _ ?_)) ?_; exact ⟨rfl, vint (pc1 (by assumption))⟩
  · refine hret _ news _ _ (by k_asm) (by refine cb_drop (by k_asm) ?_; intro q hq; repeat (first | exact hq | refine List.mem_cons_of_mem _ ?_)) ?_; exact ⟨rfl, vint (pc2 (by assumption) (by assumption))⟩
  · refine hret _ news _ _ (by k_asm) (by refine cb_drop (by k_asm) ?_; intro q hq; repeat (first | exact hq | refine List.mem_cons_of_mem _ ?_)) ?_; exact ⟨rfl, vint (pc3 (by assumption) (by assumption))⟩
theorem lines_C20 : True := by
  w_top off
  k_with_none
  k_with "MINE len" => (((try simp only [List.length_append, List.length_take, List.length_drop, List.length_replicate, List.length_cons, List.length_nil, cutL_length, beL_length, leL_length, partL_length, KBa_byteArr_length, List.length_map, rangeKs_length] at *); omega))
  k_with "MINE num" => (first | omega | assumption | (simp only [Int.reduceToNat, Int.reducePow, Int.reduceMul, Int.fmod_eq_emod_of_nonneg, Int.reduceLE]; omega) | k_extra "MINE len")
  k_with "M call type:bytes" => ((k_here; (with_reducible show wpAny _ _ (call (Value.type "bytes") [Value.int _ _]) _ _ _); refine' bz_call ?h0q2 ?hNq2 ?_; (case h0q2 => k_extra "MINE num"); (case hNq2 => k_extra "MINE num"); intro _ _))
  k_with "M call builtin:len" => ((k_here; (with_reducible show wpAny _ _ (call (Value.builtin "len") [Value.bytes (List.toArray _) _]) _ _ _); refine' len_L ?h0q3 ?_; (case h0q3 => k_extra "MINE num"); intro _ _))
  k_with "M binaryOp Add bytes bytes" => ((k_here; (with_reducible show wpAny _ _ (binaryOp Operator.Add (Value.bytes (List.toArray _) _) (Value.bytes (List.toArray _) _)) _ _ _); refine' add_L ?h0q4 ?_; (case h0q4 => k_extra "MINE num"); intro _ _))
  k_with "M call ref" => ((k_here; (with_reducible show wpAny _ _ (call (Value.ref _) [Value.bytes (List.toArray _) _, Value.str _ _]) _ _ _); kfb_any; k_dflt (refine' from_big ?h1q5 ?h2q5 ?h3q5 ?_; (case h1q5 => k_asm); (case h2q5 => k_mem); (case h3q5 => k_extra "MINE num")); intro _ _))
  k_with "M subscriptTail" => ((k_here; (with_reducible show wpAny _ _ (subscriptTail _ (Expr.Slice _ _ none _) (Value.bytes (List.toArray _) _) (Value.ref _)) _ _ _); (with_reducible rename Fr _ _ _ _ => F'); (with_reducible rename News _ _ _ _ => N'); (first | (refine' slice_ab (s := ⟨_, _, _, _, _⟩) F' N' ?aq6 ?bq6 ?zq6 ?_; (case aq6 => k_extra "MINE num"); (case bq6 => k_extra "MINE num"); (case zq6 => k_extra "MINE num")) | (refine' slice_to (s := ⟨_, _, _, _, _⟩) F' N' ?bq6 ?zq6 ?_; (case bq6 => k_extra "MINE num"); (case zq6 => k_extra "MINE num")) | (refine' slice_from (s := ⟨_, _, _, _, _⟩) F' N' ?aq6 ?zq6 ?_; (case aq6 => k_extra "MINE num"); (case zq6 => k_extra "MINE num"))); intro _ _ _ F' N'))
  k_with "M call builtin:int.to_bytes" => ((k_here; (with_reducible show wpAny _ _ (call (Value.builtin "int.to_bytes") [Value.int _ _, Value.int _ _, Value.str _ _]) _ _ _); (first | (refine' to_bigI ?aq7 ?cq7 ?bq7 ?dq7 ?_; (case aq7 => k_extra "MINE num"); (case cq7 => k_extra "MINE num"); (case bq7 => k_extra "MINE num"); (case dq7 => k_extra "MINE fits")) | (refine' to_littleI ?aq7 ?cq7 ?bq7 ?dq7 ?_; (case aq7 => k_extra "MINE num"); (case cq7 => k_extra "MINE num"); (case bq7 => k_extra "MINE num"); (case dq7 => k_extra "MINE fits"))); intro _ _))
  k_with "MINE fits" => (first | assumption | exact fits_num (by assumption) | (simp only [Int.reduceToNat, Nat.reducePow]; omega) | (simp only [Int.reduceToNat, Nat.reducePow, Int.reducePow, Int.reduceMul, Int.fmod_eq_emod_of_nonneg, Int.reduceLE]; omega))
  k_with "MINE enter" => ((unfold Fn; k_fill; intro p loose mean mg mb dp un gd cn cs a ccd cl outer A₀ base h₀ L m hp₀ gs₀ dr₀ tk₀ os₀ Q E B F X N T hk hd hu hret; refine wpAny_call ?_; k_dflt ktr_enter))
  k_with "MINE use" => (((case k1 => k_asm); (case k2 => k_asm); (case k3 => k_asm); (case k4 => k_asm); (case k5 => k_asm); (case kK => first | exact rfl | assumption); (case kd => ktr_room); (case ku => ktr_units)))
  k_with "M call builtin:pow" => ((k_here; (with_reducible show wpAny _ _ (call (Value.builtin "pow") [Value.int _ _, Value.int _ _, Value.int _ _]) _ _ _); refine' pow3I ?aq11 ?bq11 ?_; (case aq11 => first | decide | k_extra "MINE num"); (case bq11 => first | decide | k_extra "MINE num"); intro _ _ _))
  k_with "MINE sub" => (first | (intro q hq; exact hq) | ((with_reducible refine' List.forall_mem_cons.mpr ⟨?aq12, ?bq12⟩); (case aq12 => k_mem); (case bq12 => k_extra "MINE sub")) | (intro q hq; (repeat (first | exact hq | refine List.mem_cons_of_mem _ ?_))))
  k_with "M call type:bytes" => ((k_here; (with_reducible show wpAny _ _ (call (Value.type "bytes") [Value.bytes _ _]) _ _ _); refine bb_call ?_))
  k_with "MINE pick" => ((repeat (first | exact Pick.head | apply Pick.tail)))
  k_with "M call builtin:max" => ((k_here; (with_reducible show wpAny _ _ (call (Value.builtin "max") [Value.int _ _, Value.int _ _]) _ _ _); k_dflt (refine' maxI ?hq15 ?Fq15 ?Nq15 ?_; (case hq15 => rfl); (case Fq15 => k_asm); (case Nq15 => k_asm)); intro _ _ _ F' N'; (try k_sweep)))
  k_with "M call builtin:min" => ((k_here; (with_reducible show wpAny _ _ (call (Value.builtin "min") [Value.int _ _, Value.int _ _]) _ _ _); k_dflt (refine' minI ?hq16 ?Fq16 ?Nq16 ?_; (case hq16 => rfl); (case Fq16 => k_asm); (case Nq16 => k_asm)); intro _ _ _ F' N'; (try k_sweep)))
  k_with "M call builtin:max" => ((k_here; (with_reducible show wpAny _ _ (call (Value.builtin "max") [Value.int _ _, Value.int _ _, Value.int _ _]) _ _ _); k_dflt (refine' max3I ?hq17 ?Fq17 ?Nq17 ?_; (case hq17 => rfl); (case Fq17 => k_asm); (case Nq17 => k_asm)); intro _ _ _ F' N'; (try k_sweep)))
  k_with "MINE subD" => ((intro q hq; exact List.mem_cons_of_mem _ hq))
  k_with "MINE steps" => (repeat' (first | (k_unfold; (try dsimp only)) | walk1 | (dsimp only; walk1) | (leave1; walk_say "STEP leave1"; try dsimp only) | fail "no step"))
  k_with "M callWith ref" => ((k_here; (with_reducible show wpAny _ _ (callWith _ (Value.ref (OfNat.ofNat _)) _ _ _) _ _ _); k_dflt (refine' callWith_K ?k1q20 ?k2q20 ?_; (case k1q20 => k_asm); (case k2q20 => k_is); k_whole)))
  k_with "M execs cons" => ((k_here; (try dsimp only); with_reducible refine tk_sum ?_; intro tk9; (try (with_reducible rename Fr _ _ _ _ => Fx9; refine fr_let Fx9 ?_; intro mK Fy9; clear Fx9)); (try k_extra "MINE led")))
  k_with "M execs nil" => ((k_here; (try dsimp only); with_reducible refine tk_sum ?_; intro tk9))
  k_with "MINE lt" => (first | assumption | exact And.left (by assumption) | exact And.left (And.right (by assumption)) | exact And.left (And.right (And.right (by assumption))) | exact And.left (And.right (And.right (And.right (by assumption)))) | exact And.left (And.right (And.right (And.right (And.right (by assumption))))) | exact And.left (And.right (And.right (And.right (And.right (And.right (by assumption)))))) | exact And.left (And.right (And.right (And.right (And.right (And.right (And.right (by assumption))))))) | exact And.left (And.right (And.right (And.right (And.right (And.right (And.right (And.right (by assumption)))))))) | exact And.left (And.right (And.right (And.right (And.right (And.right (And.right (And.right (And.right (by assumption))))))))) | exact And.right (by assumption) | exact And.right (And.right (by assumption)) | exact And.right (And.right (And.right (by assumption))) | fail "not seen less")
  k_with "MINE mul" => (first | ((with_reducible refine mulL ?_); decide) | ((with_reducible refine mulR ?_); decide) | ((with_reducible refine' mulRb ?_ ?_); (focus assumption); decide) | ((with_reducible refine' mulLb ?_ ?_); (focus assumption); decide) | ((with_reducible refine mulRm ?_); decide) | ((with_reducible refine mulLm ?_); decide) | fail "not seen small")
  k_with "M binaryOp Mult int int" => ((k_here; k_dflt (refine' PyProof.Rows.mul_int ?_ ?hmq25; rotate_left; (case hmq25 => k_extra "MINE mul"))))
  k_with "M newTuple" => ((k_here; kup_bare; k_dflt (refine' newTupleV ?Fq26 ?Nq26 ?_ ?zq26; (case Fq26 => k_asm); (case Nq26 => k_asm); (case zq26 => kmk_size)); intro D' h' F' N' l1; (try k_lt l1); (try k_sweep)))
  k_with "MINE gotPR" => ((intro v9 n9 h9 tk9 F9 N9 hp9; obtain ⟨hn9, t9, hv9⟩ := hp9; subst hn9 hv9; (try dsimp only); (try k_fold)))
  k_with "MINE got" => ((intro v9 n9 h9 tk9 F9 N9 hp9; obtain ⟨hn9, t9, hv9⟩ := hp9; subst hn9 hv9; (try dsimp only); (try k_fold)))
  k_with "M call ref" => ((k_here; (with_reducible show wpAny _ _ (call (Value.ref 90) [Value.int _ _]) _ _ _); k_dflt (refine' Fn.use ?k1 ?k2 ?k3 ?k4 ?k5 ?kK (fn_led _ _ _ _ ) ?kd ?ku ?_; k_extra "MINE use"); k_extra "MINE got"))
  k_with "M call ref" => ((k_here; (with_reducible show wpAny _ _ (call (Value.ref 104) [Value.int _ _]) _ _ _); k_dflt (refine' Fn.use ?k1 ?k2 ?k3 ?k4 ?k5 ?kK (fn_address_of _ _ _ _ ) ?kd ?ku ?_; k_extra "MINE use"); k_extra "MINE got"))
  k_with "M call ref" => ((k_here; (with_reducible show wpAny _ _ (call (Value.ref 230) [Value.int _ _]) _ _ _); k_dflt (refine' Fn.use ?k1 ?k2 ?k3 ?k4 ?k5 ?kK (fn_words_of _ _ _ _ ) ?kd ?ku ?_; k_extra "MINE use"); k_extra "MINE got"))
  k_with "M call ref" => ((k_here; (with_reducible show wpAny _ _ (call (Value.ref 97) [Value.int _ _]) _ _ _); k_dflt (refine' Fn.use ?k1 ?k2 ?k3 ?k4 ?k5 ?kK (fn_word_octets' _ _ _ _ ?c1q32 ?c2q32) ?kd ?ku ?_; k_extra "MINE use"; (case c1q32 => k_extra "MINE num"); (case c2q32 => k_extra "MINE num")); k_extra "MINE got"))
  k_with "M call ref" => ((k_here; (with_reducible show wpAny _ _ (call (Value.ref 237) [Value.bytes _ _, Value.int _ _, Value.int _ _]) _ _ _); k_dflt (refine' Fn.use ?k1 ?k2 ?k3 ?k4 ?k5 ?kK (fn_part_of _ _ _ _ _ _ _ _ ?c1q33 ?c2q33) ?kd ?ku ?_; k_extra "MINE use"; (case c1q33 => k_extra "MINE num"); (case c2q33 => k_extra "MINE num")); k_extra "MINE got"))
  k_with "M call ref" => ((k_here; (with_reducible show wpAny _ _ (call (Value.ref 343) [Value.bytes _ _, Value.int _ _, Value.int _ _]) _ _ _); k_dflt (refine' Fn.use ?k1 ?k2 ?k3 ?k4 ?k5 ?kK (fn_law_part' _ _ _ _ _ _ _ _ ?c1q34 ?c2q34 ?c3q34 ?c4q34) ?kd ?ku ?_; k_extra "MINE use"; (case c1q34 => k_extra "MINE num"); (case c2q34 => k_extra "MINE num"); (case c3q34 => k_extra "MINE num"); (case c4q34 => k_extra "MINE num")); k_extra "MINE got"))
  k_with "M call ref" => ((k_here; (with_reducible show wpAny _ _ (call (Value.ref 343) [Value.bytes _ _, Value.int _ _, Value.int _ _]) _ _ _); k_dflt (refine' Fn.use ?k1 ?k2 ?k3 ?k4 ?k5 ?kK (fn_law_part _ _ _ _ _ _ _ _ ?c1q35 ?c2q35) ?kd ?ku ?_; k_extra "MINE use"; (case c1q35 => k_extra "MINE num"); (case c2q35 => k_extra "MINE num")); k_extra "MINE got"))
  k_with "M call ref" => ((k_here; (with_reducible show wpAny _ _ (call (Value.ref 244) [Value.bytes _ _, Value.int _ _, Value.int _ _]) _ _ _); k_dflt (refine' Fn.use ?k1 ?k2 ?k3 ?k4 ?k5 ?kK (fn_number_at' _ _ _ _ _ _ _ _ ?c1q36 ?c2q36 ?c3q36 ?c4q36) ?kd ?ku ?_; k_extra "MINE use"; (case c1q36 => k_extra "MINE num"); (case c2q36 => k_extra "MINE num"); (case c3q36 => k_extra "MINE num"); (case c4q36 => k_extra "MINE num")); k_extra "MINE got"))
  k_with "M call ref" => ((k_here; (with_reducible show wpAny _ _ (call (Value.ref 244) [Value.bytes _ _, Value.int _ _, Value.int _ _]) _ _ _); k_dflt (refine' Fn.use ?k1 ?k2 ?k3 ?k4 ?k5 ?kK (fn_number_at _ _ _ _ _ _ _ _ ?c1q37 ?c2q37) ?kd ?ku ?_; k_extra "MINE use"; (case c1q37 => k_extra "MINE num"); (case c2q37 => k_extra "MINE num")); k_extra "MINE got"))
  k_with "M call ref" => ((k_here; (with_reducible show wpAny _ _ (call (Value.ref 256) [Value.bytes _ _, Value.int _ _, Value.int _ _]) _ _ _); k_dflt (refine' Fn.use ?k1 ?k2 ?k3 ?k4 ?k5 ?kK (fn_power_rounds _ _ _ _ _ _ _ _ ?c1q38 ?c2q38 ?c3q38) ?kd ?ku ?_; k_extra "MINE use"; (case c1q38 => k_extra "MINE num"); (case c2q38 => k_extra "MINE num"); (case c3q38 => k_extra "MINE num")); k_extra "MINE gotPR"))
  k_with "MINE cond" => (first | exact True.intro | ((try dsimp only [cP, cAnd]); (repeat' (first | exact True.intro | refine And.intro ?_ ?_)); all_goals first | k_extra "MINE mul" | mul_fits | decide | omega | assumption))
  k_with "M eval BinOp" => ((k_here; (try dsimp only); k_dflt (refine' pe_int ?Fq40 ?fq40 ?hq40 ?cq40 ?_; (case Fq40 => k_asm); (case fq40 => exact rfl); (case hq40 => exact rfl); (case cq40 => k_extra "MINE cond")); intro t9 tk9; (try dsimp only)))
  k_with "M isTrue Compare" => ((k_here; (try dsimp only); k_dflt (refine' pe_cmp ?Fq41 ?fq41 noOrc_ok ?hq41 ?iq41 ?jq41 ?bq41 ?cq41 ?_; (case Fq41 => k_asm); (case fq41 => exact rfl); (case hq41 => exact rfl); (case iq41 => exact rfl); (case jq41 => exact rfl); (case bq41 => exact rfl); (case cq41 => k_extra "MINE cond")); intro tk9; (try dsimp only)))
  k_with "M eval Tuple" => ((k_here; (try dsimp only); k_dflt (first | (refine' pe_tup2 ?Fq42 ?Nq42 ?fq42 noOrc_ok ?hq42 ?iq42 ?sq42 ?uq42 ?cq42 ?_; (case Fq42 => k_asm); (case Nq42 => k_asm); (case fq42 => exact rfl); (case hq42 => exact rfl); (case iq42 => exact rfl); (case sq42 => exact rfl); (case uq42 => exact rfl); (case cq42 => k_extra "MINE cond"); intro a9 h9 t9 u9 tk9 F9 N9 l9) | (refine' pe_tup3 ?Fq42 ?Nq42 ?fq42 noOrc_ok ?hq42 ?iq42 ?jq42 ?sq42 ?uq42 ?vq42 ?cq42 ?_; (case Fq42 => k_asm); (case Nq42 => k_asm); (case fq42 => exact rfl); (case hq42 => exact rfl); (case iq42 => exact rfl); (case jq42 => exact rfl); (case sq42 => exact rfl); (case uq42 => exact rfl); (case vq42 => exact rfl); (case cq42 => k_extra "MINE cond"); intro a9 h9 t9 u9 v9 tk9 F9 N9 l9)); (have l9c := l9); (try k_lt l9); (try k_sweep); (try dsimp only)))
  k_with "M execs cons" => ((k_here; (with_reducible show wpAny _ _ (execs (Stmt.Assign [Expr.Name _ _] _ _ :: _) _) _ _ _); (try dsimp only); k_dflt (refine' pe_one ?Fq43 ?Nq43 ?fq43 noOrc_ok ?hq43 ?xq43 ?sq43 ?cq43 ?_; (case Fq43 => k_asm); (case Nq43 => k_asm); (case fq43 => exact rfl); (case hq43 => exact rfl); (case xq43 => exact rfl); (case sq43 => with_unfolding_all exact rfl); (case cq43 => k_extra "MINE cond"); intro h9 t9 tk9 F9 N9); (try k_sweep)))
  k_with "M execs cons" => ((k_here; (with_reducible show wpAny _ _ (execs (Stmt.Assign [Expr.Tuple [Expr.Name _ _, Expr.Name _ _] _ _] (Expr.Tuple [_, _] _ _) _ :: _) _) _ _ _); (try dsimp only); k_dflt (refine' pe_two ?Fq44 ?Nq44 ?fq44 noOrc_ok ?kq44 ?hq44 ?iq44 ?xq44 ?yq44 ?sq44 ?wq44 ?uq44 ?vq44 ?cq44 ?_; (case Fq44 => k_asm); (case Nq44 => k_asm); (case fq44 => exact rfl); (case kq44 => exact rfl); (case hq44 => exact rfl); (case iq44 => exact rfl); (case xq44 => exact rfl); (case yq44 => exact rfl); (case sq44 => with_unfolding_all exact rfl); (case wq44 => with_unfolding_all exact rfl); (case uq44 => exact rfl); (case vq44 => exact rfl); (case cq44 => k_extra "MINE cond"); intro h9 t9 u9 tk9 F9 N9); (try k_sweep)))
  k_with "MINE led" => ((with_reducible rename News _ _ _ _ => Nx9; refine news_let Nx9 ?_; intro lK Ny9; clear Nx9))
  k_with "M eval ListComp" => ((k_here; k_dflt (refine ListComp_T (F₀ := by k_asm) (by with_unfolding_all rfl) (by decide) (by rfl) (by decide) (by rfl) ?_)))
  k_with "M SrcT" => ((k_here; k_dflt (refine SrcT.intro (by rfl) (by k_asm) (by k_asm) (by k_mem) (by first | size_fits | exact Nat.le_of_ble_eq_true rfl) ?_; intro g'; lcg_lit)))
  k_with "M CompRest" => ((with_unfolding_all first | (refine LCg.CompRest.succ ?_; intro v' I' oI' C' oC' D' m' h' tk' E' hv' hC' hx' F' N' off' ne'; (first | lcg_open hv' | (obtain ⟨t9', hv9'⟩ := hv'; subst hv9'))) | refine LCg.CompRest.zero ?_))
  k_with "M CompEnd" => ((k_dflt (refine' compEnd ?Fq49 ?Nq49 ?offq49 ?Sq49 ?_; (case Fq49 => assumption); (case Nq49 => k_asm); (case offq49 => assumption); (case Sq49 => first | assumption | exact trivial | (unfold TupIn; k_mem)))))
  k_with "M exec Assign cons ListComp" => (((with_reducible show wpAny _ _ (exec (Stmt.Assign [Expr.Tuple _ _ _] (Expr.ListComp _ _ _ _) _) _) _ _ _); refine Assign_Tuple ?_ (by kernel_rfl) (by kernel_rfl)))
  k_with "MINE t k_room" => (ktr_room)
  k_with "MINE t k_units" => (ktr_units)
  k_with "MINE t k_mem" => (first | with_reducible assumption | assumption | exact List.Mem.head _ | (refine' List.Mem.tail _ ?_; k_mem))
  k_with "MINE t k_all" => (first | assumption | exact cellNe (by assumption) (by k_extra "MINE sub") | exact List.forall_mem_nil _ | (refine' List.forall_mem_cons.mpr ⟨?aq54, ?bq54⟩; (case aq54 => first | k_ne | assumption); (case bq54 => k_all)))
  k_with "MINE t ktr_room" => (first | (refine' rm2 ?hq55 ?bq55; (case hq55 => assumption); (case bq55 => exact rfl)) | (refine' rm1 ?hq55 ?bq55; (case hq55 => assumption); (case bq55 => exact rfl)) | (refine' rm3 ?hq55 ?bq55; (case hq55 => assumption); (case bq55 => exact rfl)) | exact rm0 (by assumption) | fail "no room")
  k_with "MINE t ktr_units" => (first | (refine' rm2 ?hq56 ?bq56; (case hq56 => assumption); (case bq56 => exact rfl)) | (refine' rm1 ?hq56 ?bq56; (case hq56 => assumption); (case bq56 => exact rfl)) | (refine' rm3 ?hq56 ?bq56; (case hq56 => assumption); (case bq56 => exact rfl)) | exact rm0 (by assumption) | fail "no room")
  k_with "MINE t k_ne" => (with_reducible (first | assumption | exact Nat.ne_of_lt (by k_extra "MINE lt") | exact Nat.ne_of_gt (by k_extra "MINE lt") | exact Ne.symm (by assumption) | k_extra "MINE lt" | exact Ne.symm (by k_extra "MINE lt") | fail "not seen unlike"))
  trivial
theorem fn_raised (w : World) (news : Led) (l : List UInt8) (t : Tok) (hl : l.length ≤ 300) (hz : Sz l) (hs : numL l 64 32 = 0 ∨ (numL l 0 32 ≤ 40 ∧ numL l 32 32 ≤ 40 ∧ numL l 64 32 ≤ 40)) :
    Fn w 40 160 266 news [.bytes l.toArray t] (fun v news' => news' = news ∧ ∃ t', v = .bytes (raO l).toArray t') := by
  have n0 := numL_lt32 l 0
  have n1 := numL_lt32 l 32
  have n2 := numL_lt32 l 64
  rcases hs with hs | ⟨ha, hb, hc⟩
  · (unfold Fn; k_fill; intro pg loose mean mg mb dp un gd cn cs a ccd cl outer A₀ base h₀ L m hp₀ gs₀ dr₀ tk₀ os₀ Q E B F X N T hk hd hu hret; refine wpAny_call ?_; k_dflt (refine' code_defC ?k1 ?k2 ?k3 ?k4 ?k5 ?kA ?kF ?kK ?k6 ?k7 ?k8 ?k9 ?kB ?kD ?_ ?c2 ?c3 ?c4; (case kA => exact rfl); (case kF => exact rfl); (case kK => assumption); (case k1 => k_asm); (case k2 => k_asm); (case k3 => k_asm); (case k4 => k_asm); (case k5 => k_asm); (case k6 => k_is); (case k7 => k_is); (case k8 => ktr_room); (case k9 => exact BindsTo.of_eq rfl); (case kB => exact rfl); (case kD => decide +kernel); (case c2 => exact rfl); (case c3 => exact rfl); (case c4 => exact rfl); k_whole; intro g' L' h' tk' cells' FG' F' N' Y' B' X' T' l1; (have l1c := l1); (try k_lt l1); k_cells Y'; (try simp only [List.cons_append, List.nil_append] at N'); (try dsimp only); (try k_fold)); refine wp_letQ ?_; intro qk ek Ak)
    k_steps
    all_goals first
      | (refine hret _ news _ _ (by k_asm) (by refine cb_drop (by k_asm) ?_; intro q hq; repeat (first | exact hq | refine List.mem_cons_of_mem _ ?_)) ?_; exact ⟨rfl, vbytes (ra0 (by assumption))⟩)
      | (exfalso; omega)
  · (unfold Fn; k_fill; intro pg loose mean mg mb dp un gd cn cs a ccd cl outer A₀ base h₀ L m hp₀ gs₀ dr₀ tk₀ os₀ Q E B F X N T hk hd hu hret; refine wpAny_call ?_; k_dflt (refine' code_defC ?k1 ?k2 ?k3 ?k4 ?k5 ?kA ?kF ?kK ?k6 ?k7 ?k8 ?k9 ?kB ?kD ?_ ?c2 ?c3 ?c4; (case kA => exact rfl); (case kF => exact rfl); (case kK => assumption); (case k1 => k_asm); (case k2 => k_asm); (case k3 => k_asm); (case k4 => k_asm); (case k5 => k_asm); (case k6 => k_is); (case k7 => k_is); (case k8 => ktr_room); (case k9 => exact BindsTo.of_eq rfl); (case kB => exact rfl); (case kD => decide +kernel); (case c2 => exact rfl); (case c3 => exact rfl); (case c4 => exact rfl); k_whole; intro g' L' h' tk' cells' FG' F' N' Y' B' X' T' l1; (have l1c := l1); (try k_lt l1); k_cells Y'; (try simp only [List.cons_append, List.nil_append] at N'); (try dsimp only); (try k_fold)); refine wp_letQ ?_; intro qk ek Ak)
    k_steps
    · refine hret _ news _ _ (by k_asm) (by refine cb_drop (by k_asm) ?_; intro q hq; repeat (first | exact hq | refine List.mem_cons_of_mem _ ?_)) ?_; exact ⟨rfl, vbytes (ra0 (by assumption))⟩
    · refine hret _ news _ _ (by k_asm) (by refine cb_drop (by k_asm) ?_; intro q hq; repeat (first | exact hq | refine List.mem_cons_of_mem _ ?_)) ?_; exact ⟨rfl, vbytes (ra1 (by assumption) (by assumption))⟩
    · refine hret _ news _ _ (by k_asm) (by refine cb_drop (by k_asm) ?_; intro q hq; repeat (first | exact hq | refine List.mem_cons_of_mem _ ?_)) ?_; exact ⟨rfl, vbytes (ra2 (by assumption) (by assumption))⟩
theorem lines_C5 : True := by
  w_top off
  k_with_none
  k_with "MINE len" => (((try simp only [List.length_append, List.length_take, List.length_drop, List.length_replicate, List.length_cons, List.length_nil, cutL_length, beL_length, leL_length, partL_length, KBa_byteArr_length, List.length_map, rangeKs_length] at *); omega))
  k_with "MINE num" => (first | omega | assumption | (simp only [Int.reduceToNat, Int.reducePow, Int.reduceMul, Int.fmod_eq_emod_of_nonneg, Int.reduceLE]; omega) | k_extra "MINE len")
  k_with "M call type:bytes" => ((k_here; (with_reducible show wpAny _ _ (call (Value.type "bytes") [Value.int _ _]) _ _ _); refine' bz_call ?h0q2 ?hNq2 ?_; (case h0q2 => k_extra "MINE num"); (case hNq2 => k_extra "MINE num"); intro _ _))
  k_with "M call builtin:len" => ((k_here; (with_reducible show wpAny _ _ (call (Value.builtin "len") [Value.bytes (List.toArray _) _]) _ _ _); refine' len_L ?h0q3 ?_; (case h0q3 => k_extra "MINE num"); intro _ _))
  k_with "M binaryOp Add bytes bytes" => ((k_here; (with_reducible show wpAny _ _ (binaryOp Operator.Add (Value.bytes (List.toArray _) _) (Value.bytes (List.toArray _) _)) _ _ _); refine' add_L ?h0q4 ?_; (case h0q4 => k_extra "MINE num"); intro _ _))
  k_with "M call ref" => ((k_here; (with_reducible show wpAny _ _ (call (Value.ref _) [Value.bytes (List.toArray _) _, Value.str _ _]) _ _ _); kfb_any; k_dflt (refine' from_big ?h1q5 ?h2q5 ?h3q5 ?_; (case h1q5 => k_asm); (case h2q5 => k_mem); (case h3q5 => k_extra "MINE num")); intro _ _))
  k_with "M subscriptTail" => ((k_here; (with_reducible show wpAny _ _ (subscriptTail _ (Expr.Slice _ _ none _) (Value.bytes (List.toArray _) _) (Value.ref _)) _ _ _); (with_reducible rename Fr _ _ _ _ => F'); (with_reducible rename News _ _ _ _ => N'); (first | (refine' slice_ab (s := ⟨_, _, _, _, _⟩) F' N' ?aq6 ?bq6 ?zq6 ?_; (case aq6 => k_extra "MINE num"); (case bq6 => k_extra "MINE num"); (case zq6 => k_extra "MINE num")) | (refine' slice_to (s := ⟨_, _, _, _, _⟩) F' N' ?bq6 ?zq6 ?_; (case bq6 => k_extra "MINE num"); (case zq6 => k_extra "MINE num")) | (refine' slice_from (s := ⟨_, _, _, _, _⟩) F' N' ?aq6 ?zq6 ?_; (case aq6 => k_extra "MINE num"); (case zq6 => k_extra "MINE num"))); intro _ _ _ F' N'))
  k_with "M call builtin:int.to_bytes" => ((k_here; (with_reducible show wpAny _ _ (call (Value.builtin "int.to_bytes") [Value.int _ _, Value.int _ _, Value.str _ _]) _ _ _); (first | (refine' to_bigI ?aq7 ?cq7 ?bq7 ?dq7 ?_; (case aq7 => k_extra "MINE num"); (case cq7 => k_extra "MINE num"); (case bq7 => k_extra "MINE num"); (case dq7 => k_extra "MINE fits")) | (refine' to_littleI ?aq7 ?cq7 ?bq7 ?dq7 ?_; (case aq7 => k_extra "MINE num"); (case cq7 => k_extra "MINE num"); (case bq7 => k_extra "MINE num"); (case dq7 => k_extra "MINE fits"))); intro _ _))
  k_with "MINE fits" => (first | assumption | exact fits_num (by assumption) | (simp only [Int.reduceToNat, Nat.reducePow]; omega) | (simp only [Int.reduceToNat, Nat.reducePow, Int.reducePow, Int.reduceMul, Int.fmod_eq_emod_of_nonneg, Int.reduceLE]; omega))
  k_with "MINE enter" => ((unfold Fn; k_fill; intro p loose mean mg mb dp un gd cn cs a ccd cl outer A₀ base h₀ L m hp₀ gs₀ dr₀ tk₀ os₀ Q E B F X N T hk hd hu hret; refine wpAny_call ?_; k_dflt ktr_enter))
  k_with "MINE use" => (((case k1 => k_asm); (case k2 => k_asm); (case k3 => k_asm); (case k4 => k_asm); (case k5 => k_asm); (case kK => first | exact rfl | assumption); (case kd => ktr_room); (case ku => ktr_units)))
  k_with "M call builtin:pow" => ((k_here; (with_reducible show wpAny _ _ (call (Value.builtin "pow") [Value.int _ _, Value.int _ _, Value.int _ _]) _ _ _); refine' pow3I ?aq11 ?bq11 ?_; (case aq11 => first | decide | k_extra "MINE num"); (case bq11 => first | decide | k_extra "MINE num"); intro _ _ _))
  k_with "MINE sub" => (first | (intro q hq; exact hq) | ((with_reducible refine' List.forall_mem_cons.mpr ⟨?aq12, ?bq12⟩); (case aq12 => k_mem); (case bq12 => k_extra "MINE sub")) | (intro q hq; (repeat (first | exact hq | refine List.mem_cons_of_mem _ ?_))))
  k_with "M call type:bytes" => ((k_here; (with_reducible show wpAny _ _ (call (Value.type "bytes") [Value.bytes _ _]) _ _ _); refine bb_call ?_))
  k_with "MINE pick" => ((repeat (first | exact Pick.head | apply Pick.tail)))
  k_with "M call builtin:max" => ((k_here; (with_reducible show wpAny _ _ (call (Value.builtin "max") [Value.int _ _, Value.int _ _]) _ _ _); k_dflt (refine' maxI ?hq15 ?Fq15 ?Nq15 ?_; (case hq15 => rfl); (case Fq15 => k_asm); (case Nq15 => k_asm)); intro _ _ _ F' N'; (try k_sweep)))
  k_with "M call builtin:min" => ((k_here; (with_reducible show wpAny _ _ (call (Value.builtin "min") [Value.int _ _, Value.int _ _]) _ _ _); k_dflt (refine' minI ?hq16 ?Fq16 ?Nq16 ?_; (case hq16 => rfl); (case Fq16 => k_asm); (case Nq16 => k_asm)); intro _ _ _ F' N'; (try k_sweep)))
  k_with "M call builtin:max" => ((k_here; (with_reducible show wpAny _ _ (call (Value.builtin "max") [Value.int _ _, Value.int _ _, Value.int _ _]) _ _ _); k_dflt (refine' max3I ?hq17 ?Fq17 ?Nq17 ?_; (case hq17 => rfl); (case Fq17 => k_asm); (case Nq17 => k_asm)); intro _ _ _ F' N'; (try k_sweep)))
  k_with "MINE subD" => ((intro q hq; exact List.mem_cons_of_mem _ hq))
  k_with "MINE steps" => (repeat' (first | (k_unfold; (try dsimp only)) | walk1 | (dsimp only; walk1) | (leave1; walk_say "STEP leave1"; try dsimp only) | fail "no step"))
  k_with "M callWith ref" => ((k_here; (with_reducible show wpAny _ _ (callWith _ (Value.ref (OfNat.ofNat _)) _ _ _) _ _ _); k_dflt (refine' callWith_K ?k1q20 ?k2q20 ?_; (case k1q20 => k_asm); (case k2q20 => k_is); k_whole)))
  k_with "M execs cons" => ((k_here; (try dsimp only); with_reducible refine tk_sum ?_; intro tk9; (try (with_reducible rename Fr _ _ _ _ => Fx9; refine fr_let Fx9 ?_; intro mK Fy9; clear Fx9)); (try k_extra "MINE led")))
  k_with "M execs nil" => ((k_here; (try dsimp only); with_reducible refine tk_sum ?_; intro tk9))
  k_with "MINE lt" => (first | assumption | exact And.left (by assumption) | exact And.left (And.right (by assumption)) | exact And.left (And.right (And.right (by assumption))) | exact And.left (And.right (And.right (And.right (by assumption)))) | exact And.left (And.right (And.right (And.right (And.right (by assumption))))) | exact And.left (And.right (And.right (And.right (And.right (And.right (by assumption)))))) | exact And.left (And.right (And.right (And.right (And.right (And.right (And.right (by assumption))))))) | exact And.left (And.right (And.right (And.right (And.right (And.right (And.right (And.right (by assumption)))))))) | exact And.left (And.right (And.right (And.right (And.right (And.right (And.right (And.right (And.right (by assumption))))))))) | exact And.right (by assumption) | exact And.right (And.right (by assumption)) | exact And.right (And.right (And.right (by assumption))) | fail "not seen less")
  k_with "MINE mul" => (first | ((with_reducible refine mulL ?_); decide) | ((with_reducible refine mulR ?_); decide) | ((with_reducible refine' mulRb ?_ ?_); (focus assumption); decide) | ((with_reducible refine' mulLb ?_ ?_); (focus assumption); decide) | ((with_reducible refine mulRm ?_); decide) | ((with_reducible refine mulLm ?_); decide) | fail "not seen small")
  k_with "M binaryOp Mult int int" => ((k_here; k_dflt (refine' PyProof.Rows.mul_int ?_ ?hmq25; rotate_left; (case hmq25 => k_extra "MINE mul"))))
  k_with "M newTuple" => ((k_here; kup_bare; k_dflt (refine' newTupleV ?Fq26 ?Nq26 ?_ ?zq26; (case Fq26 => k_asm); (case Nq26 => k_asm); (case zq26 => kmk_size)); intro D' h' F' N' l1; (try k_lt l1); (try k_sweep)))
  k_with "MINE got" => ((intro v9 n9 h9 tk9 F9 N9 hp9; obtain ⟨hn9, t9, hv9⟩ := hp9; subst hn9 hv9; (try dsimp only); (try k_fold)))
  k_with "M call ref" => ((k_here; (with_reducible show wpAny _ _ (call (Value.ref 90) [Value.int _ _]) _ _ _); k_dflt (refine' Fn.use ?k1 ?k2 ?k3 ?k4 ?k5 ?kK (fn_led _ _ _ _ ) ?kd ?ku ?_; k_extra "MINE use"); k_extra "MINE got"))
  k_with "M call ref" => ((k_here; (with_reducible show wpAny _ _ (call (Value.ref 104) [Value.int _ _]) _ _ _); k_dflt (refine' Fn.use ?k1 ?k2 ?k3 ?k4 ?k5 ?kK (fn_address_of _ _ _ _ ) ?kd ?ku ?_; k_extra "MINE use"); k_extra "MINE got"))
  k_with "M call ref" => ((k_here; (with_reducible show wpAny _ _ (call (Value.ref 230) [Value.int _ _]) _ _ _); k_dflt (refine' Fn.use ?k1 ?k2 ?k3 ?k4 ?k5 ?kK (fn_words_of _ _ _ _ ) ?kd ?ku ?_; k_extra "MINE use"); k_extra "MINE got"))
  k_with "M call ref" => ((k_here; (with_reducible show wpAny _ _ (call (Value.ref 97) [Value.int _ _]) _ _ _); k_dflt (refine' Fn.use ?k1 ?k2 ?k3 ?k4 ?k5 ?kK (fn_word_octets' _ _ _ _ ?c1q31 ?c2q31) ?kd ?ku ?_; k_extra "MINE use"; (case c1q31 => k_extra "MINE num"); (case c2q31 => k_extra "MINE num")); k_extra "MINE got"))
  k_with "M call ref" => ((k_here; (with_reducible show wpAny _ _ (call (Value.ref 237) [Value.bytes _ _, Value.int _ _, Value.int _ _]) _ _ _); k_dflt (refine' Fn.use ?k1 ?k2 ?k3 ?k4 ?k5 ?kK (fn_part_of _ _ _ _ _ _ _ _ ?c1q32 ?c2q32) ?kd ?ku ?_; k_extra "MINE use"; (case c1q32 => k_extra "MINE num"); (case c2q32 => k_extra "MINE num")); k_extra "MINE got"))
  k_with "M call ref" => ((k_here; (with_reducible show wpAny _ _ (call (Value.ref 343) [Value.bytes _ _, Value.int _ _, Value.int _ _]) _ _ _); k_dflt (refine' Fn.use ?k1 ?k2 ?k3 ?k4 ?k5 ?kK (fn_law_part' _ _ _ _ _ _ _ _ ?c1q33 ?c2q33 ?c3q33 ?c4q33) ?kd ?ku ?_; k_extra "MINE use"; (case c1q33 => k_extra "MINE num"); (case c2q33 => k_extra "MINE num"); (case c3q33 => k_extra "MINE num"); (case c4q33 => k_extra "MINE num")); k_extra "MINE got"))
  k_with "M call ref" => ((k_here; (with_reducible show wpAny _ _ (call (Value.ref 343) [Value.bytes _ _, Value.int _ _, Value.int _ _]) _ _ _); k_dflt (refine' Fn.use ?k1 ?k2 ?k3 ?k4 ?k5 ?kK (fn_law_part _ _ _ _ _ _ _ _ ?c1q34 ?c2q34) ?kd ?ku ?_; k_extra "MINE use"; (case c1q34 => k_extra "MINE num"); (case c2q34 => k_extra "MINE num")); k_extra "MINE got"))
  k_with "M call ref" => ((k_here; (with_reducible show wpAny _ _ (call (Value.ref 244) [Value.bytes _ _, Value.int _ _, Value.int _ _]) _ _ _); k_dflt (refine' Fn.use ?k1 ?k2 ?k3 ?k4 ?k5 ?kK (fn_number_at' _ _ _ _ _ _ _ _ ?c1q35 ?c2q35 ?c3q35 ?c4q35) ?kd ?ku ?_; k_extra "MINE use"; (case c1q35 => k_extra "MINE num"); (case c2q35 => k_extra "MINE num"); (case c3q35 => k_extra "MINE num"); (case c4q35 => k_extra "MINE num")); k_extra "MINE got"))
  k_with "M call ref" => ((k_here; (with_reducible show wpAny _ _ (call (Value.ref 244) [Value.bytes _ _, Value.int _ _, Value.int _ _]) _ _ _); k_dflt (refine' Fn.use ?k1 ?k2 ?k3 ?k4 ?k5 ?kK (fn_number_at _ _ _ _ _ _ _ _ ?c1q36 ?c2q36) ?kd ?ku ?_; k_extra "MINE use"; (case c1q36 => k_extra "MINE num"); (case c2q36 => k_extra "MINE num")); k_extra "MINE got"))
  k_with "MINE cond" => (first | exact True.intro | ((try dsimp only [cP, cAnd]); (repeat' (first | exact True.intro | refine And.intro ?_ ?_)); all_goals first | k_extra "MINE mul" | mul_fits | decide | omega | assumption))
  k_with "M eval BinOp" => ((k_here; (try dsimp only); k_dflt (refine' pe_int ?Fq38 ?fq38 ?hq38 ?cq38 ?_; (case Fq38 => k_asm); (case fq38 => exact rfl); (case hq38 => exact rfl); (case cq38 => k_extra "MINE cond")); intro t9 tk9; (try dsimp only)))
  k_with "M isTrue Compare" => ((k_here; (try dsimp only); k_dflt (refine' pe_cmp ?Fq39 ?fq39 noOrc_ok ?hq39 ?iq39 ?jq39 ?bq39 ?cq39 ?_; (case Fq39 => k_asm); (case fq39 => exact rfl); (case hq39 => exact rfl); (case iq39 => exact rfl); (case jq39 => exact rfl); (case bq39 => exact rfl); (case cq39 => k_extra "MINE cond")); intro tk9; (try dsimp only)))
  k_with "M eval Tuple" => ((k_here; (try dsimp only); k_dflt (first | (refine' pe_tup2 ?Fq40 ?Nq40 ?fq40 noOrc_ok ?hq40 ?iq40 ?sq40 ?uq40 ?cq40 ?_; (case Fq40 => k_asm); (case Nq40 => k_asm); (case fq40 => exact rfl); (case hq40 => exact rfl); (case iq40 => exact rfl); (case sq40 => exact rfl); (case uq40 => exact rfl); (case cq40 => k_extra "MINE cond"); intro a9 h9 t9 u9 tk9 F9 N9 l9) | (refine' pe_tup3 ?Fq40 ?Nq40 ?fq40 noOrc_ok ?hq40 ?iq40 ?jq40 ?sq40 ?uq40 ?vq40 ?cq40 ?_; (case Fq40 => k_asm); (case Nq40 => k_asm); (case fq40 => exact rfl); (case hq40 => exact rfl); (case iq40 => exact rfl); (case jq40 => exact rfl); (case sq40 => exact rfl); (case uq40 => exact rfl); (case vq40 => exact rfl); (case cq40 => k_extra "MINE cond"); intro a9 h9 t9 u9 v9 tk9 F9 N9 l9)); (have l9c := l9); (try k_lt l9); (try k_sweep); (try dsimp only)))
  k_with "M execs cons" => ((k_here; (with_reducible show wpAny _ _ (execs (Stmt.Assign [Expr.Name _ _] _ _ :: _) _) _ _ _); (try dsimp only); k_dflt (refine' pe_one ?Fq41 ?Nq41 ?fq41 noOrc_ok ?hq41 ?xq41 ?sq41 ?cq41 ?_; (case Fq41 => k_asm); (case Nq41 => k_asm); (case fq41 => exact rfl); (case hq41 => exact rfl); (case xq41 => exact rfl); (case sq41 => with_unfolding_all exact rfl); (case cq41 => k_extra "MINE cond"); intro h9 t9 tk9 F9 N9); (try k_sweep)))
  k_with "M execs cons" => ((k_here; (with_reducible show wpAny _ _ (execs (Stmt.Assign [Expr.Tuple [Expr.Name _ _, Expr.Name _ _] _ _] (Expr.Tuple [_, _] _ _) _ :: _) _) _ _ _); (try dsimp only); k_dflt (refine' pe_two ?Fq42 ?Nq42 ?fq42 noOrc_ok ?kq42 ?hq42 ?iq42 ?xq42 ?yq42 ?sq42 ?wq42 ?uq42 ?vq42 ?cq42 ?_; (case Fq42 => k_asm); (case Nq42 => k_asm); (case fq42 => exact rfl); (case kq42 => exact rfl); (case hq42 => exact rfl); (case iq42 => exact rfl); (case xq42 => exact rfl); (case yq42 => exact rfl); (case sq42 => with_unfolding_all exact rfl); (case wq42 => with_unfolding_all exact rfl); (case uq42 => exact rfl); (case vq42 => exact rfl); (case cq42 => k_extra "MINE cond"); intro h9 t9 u9 tk9 F9 N9); (try k_sweep)))
  k_with "M eval Call" => (k_fold)
  k_with "M eval Tuple" => (k_fold)
  k_with "M eval BinOp" => (k_fold)
  k_with "M eval Subscript" => (k_fold)
  k_with "M eval IfExp" => (k_fold)
  k_with "M isTrue Compare" => (k_fold)
  k_with "M isTrue BoolOp" => (k_fold)
  k_with "M exec If" => (k_fold)
  k_with "M exec Return" => (k_fold)
  k_with "MINE t k_room" => (ktr_room)
  k_with "MINE t k_units" => (ktr_units)
  k_with "MINE t k_mem" => (first | with_reducible assumption | assumption | exact List.Mem.head _ | (refine' List.Mem.tail _ ?_; k_mem))
  k_with "MINE t k_all" => (first | assumption | exact cellNe (by assumption) (by k_extra "MINE sub") | exact List.forall_mem_nil _ | (refine' List.forall_mem_cons.mpr ⟨?aq55, ?bq55⟩; (case aq55 => first | k_ne | assumption); (case bq55 => k_all)))
  k_with "MINE t ktr_room" => (first | (refine' rm2 ?hq56 ?bq56; (case hq56 => assumption); (case bq56 => exact rfl)) | (refine' rm1 ?hq56 ?bq56; (case hq56 => assumption); (case bq56 => exact rfl)) | (refine' rm3 ?hq56 ?bq56; (case hq56 => assumption); (case bq56 => exact rfl)) | exact rm0 (by assumption) | fail "no room")
  k_with "MINE t ktr_units" => (first | (refine' rm2 ?hq57 ?bq57; (case hq57 => assumption); (case bq57 => exact rfl)) | (refine' rm1 ?hq57 ?bq57; (case hq57 => assumption); (case bq57 => exact rfl)) | (refine' rm3 ?hq57 ?bq57; (case hq57 => assumption); (case bq57 => exact rfl)) | exact rm0 (by assumption) | fail "no room")
  k_with "MINE t k_ne" => (with_reducible (first | assumption | exact Nat.ne_of_lt (by k_extra "MINE lt") | exact Nat.ne_of_gt (by k_extra "MINE lt") | exact Ne.symm (by assumption) | k_extra "MINE lt" | exact Ne.symm (by k_extra "MINE lt") | fail "not seen unlike"))
  trivial
theorem fn_wide_doubled (w : World) (news : Led) (pa : Addr) (x y z : Int) (tx ty tz tp : Tok) (hm : (pa, tup3O x tx y ty z tz) ∈ news) (hx : 0 ≤ x ∧ x < 67) (hy : 0 ≤ y ∧ y < 67) (hz : 0 ≤ z ∧ z < 67) :
    Fn w 10 40 174 news [.ref pa, .int 67 tp] (fun v news' => ∃ a t1 t2 t3, v = .ref a ∧ news' = (a, tup3O (wdM x y z).1 t1 (wdM x y z).2.1 t2 (wdM x y z).2.2 t3) :: news) := by
  (unfold Fn; k_fill; intro pg loose mean mg mb dp un gd cn cs a ccd cl outer A₀ base h₀ L m hp₀ gs₀ dr₀ tk₀ os₀ Q E B F X N T hk hd hu hret; refine wpAny_call ?_; k_dflt ktr_enter; refine wp_let ?_; intro Ak)
  k_steps
  all_goals refine hret _ _ _ _ (by k_asm) (by k_asm) ?_
  all_goals first
    | exact vtup3 (wdM_zero (by omega))
    | exact vtup3 (by rw [wdM_pos (by omega)])
theorem lines_C6 : True := by
  w_top off
  k_with_none
  k_with "MINE len" => (((try simp only [List.length_append, List.length_take, List.length_drop, List.length_replicate, List.length_cons, List.length_nil, cutL_length, beL_length, leL_length, partL_length, KBa_byteArr_length, List.length_map, rangeKs_length] at *); omega))
  k_with "MINE num" => (first | omega | assumption | (simp only [Int.reduceToNat, Int.reducePow, Int.reduceMul, Int.fmod_eq_emod_of_nonneg, Int.reduceLE]; omega) | k_extra "MINE len")
  k_with "M call type:bytes" => ((k_here; (with_reducible show wpAny _ _ (call (Value.type "bytes") [Value.int _ _]) _ _ _); refine' bz_call ?h0q2 ?hNq2 ?_; (case h0q2 => k_extra "MINE num"); (case hNq2 => k_extra "MINE num"); intro _ _))
  k_with "M call builtin:len" => ((k_here; (with_reducible show wpAny _ _ (call (Value.builtin "len") [Value.bytes (List.toArray _) _]) _ _ _); refine' len_L ?h0q3 ?_; (case h0q3 => k_extra "MINE num"); intro _ _))
  k_with "M binaryOp Add bytes bytes" => ((k_here; (with_reducible show wpAny _ _ (binaryOp Operator.Add (Value.bytes (List.toArray _) _) (Value.bytes (List.toArray _) _)) _ _ _); refine' add_L ?h0q4 ?_; (case h0q4 => k_extra "MINE num"); intro _ _))
  k_with "M call ref" => ((k_here; (with_reducible show wpAny _ _ (call (Value.ref _) [Value.bytes (List.toArray _) _, Value.str _ _]) _ _ _); kfb_any; k_dflt (refine' from_big ?h1q5 ?h2q5 ?h3q5 ?_; (case h1q5 => k_asm); (case h2q5 => k_mem); (case h3q5 => k_extra "MINE num")); intro _ _))
  k_with "M subscriptTail" => ((k_here; (with_reducible show wpAny _ _ (subscriptTail _ (Expr.Slice _ _ none _) (Value.bytes (List.toArray _) _) (Value.ref _)) _ _ _); (with_reducible rename Fr _ _ _ _ => F'); (with_reducible rename News _ _ _ _ => N'); (first | (refine' slice_ab (s := ⟨_, _, _, _, _⟩) F' N' ?aq6 ?bq6 ?zq6 ?_; (case aq6 => k_extra "MINE num"); (case bq6 => k_extra "MINE num"); (case zq6 => k_extra "MINE num")) | (refine' slice_to (s := ⟨_, _, _, _, _⟩) F' N' ?bq6 ?zq6 ?_; (case bq6 => k_extra "MINE num"); (case zq6 => k_extra "MINE num")) | (refine' slice_from (s := ⟨_, _, _, _, _⟩) F' N' ?aq6 ?zq6 ?_; (case aq6 => k_extra "MINE num"); (case zq6 => k_extra "MINE num"))); intro _ _ _ F' N'))
  k_with "M call builtin:int.to_bytes" => ((k_here; (with_reducible show wpAny _ _ (call (Value.builtin "int.to_bytes") [Value.int _ _, Value.int _ _, Value.str _ _]) _ _ _); (first | (refine' to_bigI ?aq7 ?cq7 ?bq7 ?dq7 ?_; (case aq7 => k_extra "MINE num"); (case cq7 => k_extra "MINE num"); (case bq7 => k_extra "MINE num"); (case dq7 => k_extra "MINE fits")) | (refine' to_littleI ?aq7 ?cq7 ?bq7 ?dq7 ?_; (case aq7 => k_extra "MINE num"); (case cq7 => k_extra "MINE num"); (case bq7 => k_extra "MINE num"); (case dq7 => k_extra "MINE fits"))); intro _ _))
  k_with "MINE fits" => (first | assumption | exact fits_num (by assumption) | (simp only [Int.reduceToNat, Nat.reducePow]; omega) | (simp only [Int.reduceToNat, Nat.reducePow, Int.reducePow, Int.reduceMul, Int.fmod_eq_emod_of_nonneg, Int.reduceLE]; omega))
  k_with "MINE enter" => ((unfold Fn; k_fill; intro p loose mean mg mb dp un gd cn cs a ccd cl outer A₀ base h₀ L m hp₀ gs₀ dr₀ tk₀ os₀ Q E B F X N T hk hd hu hret; refine wpAny_call ?_; k_dflt ktr_enter))
  k_with "MINE use" => (((case k1 => k_asm); (case k2 => k_asm); (case k3 => k_asm); (case k4 => k_asm); (case k5 => k_asm); (case kK => first | exact rfl | assumption); (case kd => ktr_room); (case ku => ktr_units)))
  k_with "M call builtin:pow" => ((k_here; (with_reducible show wpAny _ _ (call (Value.builtin "pow") [Value.int _ _, Value.int _ _, Value.int _ _]) _ _ _); refine' pow3I ?aq11 ?bq11 ?_; (case aq11 => first | decide | k_extra "MINE num"); (case bq11 => first | decide | k_extra "MINE num"); intro _ _ _))
  k_with "MINE sub" => (first | (intro q hq; exact hq) | ((with_reducible refine' List.forall_mem_cons.mpr ⟨?aq12, ?bq12⟩); (case aq12 => k_mem); (case bq12 => k_extra "MINE sub")) | (intro q hq; (repeat (first | exact hq | refine List.mem_cons_of_mem _ ?_))))
  k_with "M call type:bytes" => ((k_here; (with_reducible show wpAny _ _ (call (Value.type "bytes") [Value.bytes _ _]) _ _ _); refine bb_call ?_))
  k_with "MINE pick" => ((repeat (first | exact Pick.head | apply Pick.tail)))
  k_with "M call builtin:max" => ((k_here; (with_reducible show wpAny _ _ (call (Value.builtin "max") [Value.int _ _, Value.int _ _]) _ _ _); k_dflt (refine' maxI ?hq15 ?Fq15 ?Nq15 ?_; (case hq15 => rfl); (case Fq15 => k_asm); (case Nq15 => k_asm)); intro _ _ _ F' N'; (try k_sweep)))
  k_with "M call builtin:min" => ((k_here; (with_reducible show wpAny _ _ (call (Value.builtin "min") [Value.int _ _, Value.int _ _]) _ _ _); k_dflt (refine' minI ?hq16 ?Fq16 ?Nq16 ?_; (case hq16 => rfl); (case Fq16 => k_asm); (case Nq16 => k_asm)); intro _ _ _ F' N'; (try k_sweep)))
  k_with "M call builtin:max" => ((k_here; (with_reducible show wpAny _ _ (call (Value.builtin "max") [Value.int _ _, Value.int _ _, Value.int _ _]) _ _ _); k_dflt (refine' max3I ?hq17 ?Fq17 ?Nq17 ?_; (case hq17 => rfl); (case Fq17 => k_asm); (case Nq17 => k_asm)); intro _ _ _ F' N'; (try k_sweep)))
  k_with "MINE subD" => ((intro q hq; exact List.mem_cons_of_mem _ hq))
  k_with "MINE steps" => (repeat' (first | (k_unfold; (try dsimp only)) | walk1 | (dsimp only; walk1) | (leave1; walk_say "STEP leave1"; try dsimp only) | fail "no step"))
  k_with "M callWith ref" => ((k_here; (with_reducible show wpAny _ _ (callWith _ (Value.ref (OfNat.ofNat _)) _ _ _) _ _ _); k_dflt (refine' callWith_K ?k1q20 ?k2q20 ?_; (case k1q20 => k_asm); (case k2q20 => k_is); k_whole)))
  k_with "M execs cons" => ((k_here; (try dsimp only); with_reducible refine tk_sum ?_; intro tk9; (try (with_reducible rename Fr _ _ _ _ => Fx9; refine fr_let Fx9 ?_; intro mK Fy9; clear Fx9)); (try k_extra "MINE led")))
  k_with "M execs nil" => ((k_here; (try dsimp only); with_reducible refine tk_sum ?_; intro tk9))
  k_with "MINE lt" => (first | assumption | exact And.left (by assumption) | exact And.left (And.right (by assumption)) | exact And.left (And.right (And.right (by assumption))) | exact And.left (And.right (And.right (And.right (by assumption)))) | exact And.left (And.right (And.right (And.right (And.right (by assumption))))) | exact And.left (And.right (And.right (And.right (And.right (And.right (by assumption)))))) | exact And.left (And.right (And.right (And.right (And.right (And.right (And.right (by assumption))))))) | exact And.left (And.right (And.right (And.right (And.right (And.right (And.right (And.right (by assumption)))))))) | exact And.left (And.right (And.right (And.right (And.right (And.right (And.right (And.right (And.right (by assumption))))))))) | exact And.right (by assumption) | exact And.right (And.right (by assumption)) | exact And.right (And.right (And.right (by assumption))) | fail "not seen less")
  k_with "MINE mul" => (first | ((with_reducible refine mulL ?_); decide) | ((with_reducible refine mulR ?_); decide) | ((with_reducible refine' mulRb ?_ ?_); (focus assumption); decide) | ((with_reducible refine' mulLb ?_ ?_); (focus assumption); decide) | ((with_reducible refine mulRm ?_); decide) | ((with_reducible refine mulLm ?_); decide) | fail "not seen small")
  k_with "M binaryOp Mult int int" => ((k_here; k_dflt (refine' PyProof.Rows.mul_int ?_ ?hmq25; rotate_left; (case hmq25 => k_extra "MINE mul"))))
  k_with "M newTuple" => ((k_here; kup_bare; k_dflt (refine' newTupleV ?Fq26 ?Nq26 ?_ ?zq26; (case Fq26 => k_asm); (case Nq26 => k_asm); (case zq26 => kmk_size)); intro D' h' F' N' l1; (try k_lt l1); (try k_sweep)))
  k_with "MINE got" => ((intro v9 n9 h9 tk9 F9 N9 hp9; obtain ⟨hn9, t9, hv9⟩ := hp9; subst hn9 hv9; (try dsimp only); (try k_fold)))
  k_with "MINE got3" => ((intro v9 n9 h9 tk9 F9 N9 hp9; obtain ⟨a9, t9, t9', t9'', hv9, hn9⟩ := hp9; subst hn9 hv9; (try dsimp only); (try k_fold)))
  k_with "M call ref" => ((k_here; (with_reducible show wpAny _ _ (call (Value.ref 90) [Value.int _ _]) _ _ _); k_dflt (refine' Fn.use ?k1 ?k2 ?k3 ?k4 ?k5 ?kK (fn_led _ _ _ _ ) ?kd ?ku ?_; k_extra "MINE use"); k_extra "MINE got"))
  k_with "M call ref" => ((k_here; (with_reducible show wpAny _ _ (call (Value.ref 104) [Value.int _ _]) _ _ _); k_dflt (refine' Fn.use ?k1 ?k2 ?k3 ?k4 ?k5 ?kK (fn_address_of _ _ _ _ ) ?kd ?ku ?_; k_extra "MINE use"); k_extra "MINE got"))
  k_with "M call ref" => ((k_here; (with_reducible show wpAny _ _ (call (Value.ref 230) [Value.int _ _]) _ _ _); k_dflt (refine' Fn.use ?k1 ?k2 ?k3 ?k4 ?k5 ?kK (fn_words_of _ _ _ _ ) ?kd ?ku ?_; k_extra "MINE use"); k_extra "MINE got"))
  k_with "M call ref" => ((k_here; (with_reducible show wpAny _ _ (call (Value.ref 97) [Value.int _ _]) _ _ _); k_dflt (refine' Fn.use ?k1 ?k2 ?k3 ?k4 ?k5 ?kK (fn_word_octets' _ _ _ _ ?c1q32 ?c2q32) ?kd ?ku ?_; k_extra "MINE use"; (case c1q32 => k_extra "MINE num"); (case c2q32 => k_extra "MINE num")); k_extra "MINE got"))
  k_with "M call ref" => ((k_here; (with_reducible show wpAny _ _ (call (Value.ref 237) [Value.bytes _ _, Value.int _ _, Value.int _ _]) _ _ _); k_dflt (refine' Fn.use ?k1 ?k2 ?k3 ?k4 ?k5 ?kK (fn_part_of _ _ _ _ _ _ _ _ ?c1q33 ?c2q33) ?kd ?ku ?_; k_extra "MINE use"; (case c1q33 => k_extra "MINE num"); (case c2q33 => k_extra "MINE num")); k_extra "MINE got"))
  k_with "M call ref" => ((k_here; (with_reducible show wpAny _ _ (call (Value.ref 343) [Value.bytes _ _, Value.int _ _, Value.int _ _]) _ _ _); k_dflt (refine' Fn.use ?k1 ?k2 ?k3 ?k4 ?k5 ?kK (fn_law_part' _ _ _ _ _ _ _ _ ?c1q34 ?c2q34 ?c3q34 ?c4q34) ?kd ?ku ?_; k_extra "MINE use"; (case c1q34 => k_extra "MINE num"); (case c2q34 => k_extra "MINE num"); (case c3q34 => k_extra "MINE num"); (case c4q34 => k_extra "MINE num")); k_extra "MINE got"))
  k_with "M call ref" => ((k_here; (with_reducible show wpAny _ _ (call (Value.ref 343) [Value.bytes _ _, Value.int _ _, Value.int _ _]) _ _ _); k_dflt (refine' Fn.use ?k1 ?k2 ?k3 ?k4 ?k5 ?kK (fn_law_part _ _ _ _ _ _ _ _ ?c1q35 ?c2q35) ?kd ?ku ?_; k_extra "MINE use"; (case c1q35 => k_extra "MINE num"); (case c2q35 => k_extra "MINE num")); k_extra "MINE got"))
  k_with "M call ref" => ((k_here; (with_reducible show wpAny _ _ (call (Value.ref 244) [Value.bytes _ _, Value.int _ _, Value.int _ _]) _ _ _); k_dflt (refine' Fn.use ?k1 ?k2 ?k3 ?k4 ?k5 ?kK (fn_number_at' _ _ _ _ _ _ _ _ ?c1q36 ?c2q36 ?c3q36 ?c4q36) ?kd ?ku ?_; k_extra "MINE use"; (case c1q36 => k_extra "MINE num"); (case c2q36 => k_extra "MINE num"); (case c3q36 => k_extra "MINE num"); (case c4q36 => k_extra "MINE num")); k_extra "MINE got"))
  k_with "M call ref" => ((k_here; (with_reducible show wpAny _ _ (call (Value.ref 244) [Value.bytes _ _, Value.int _ _, Value.int _ _]) _ _ _); k_dflt (refine' Fn.use ?k1 ?k2 ?k3 ?k4 ?k5 ?kK (fn_number_at _ _ _ _ _ _ _ _ ?c1q37 ?c2q37) ?kd ?ku ?_; k_extra "MINE use"; (case c1q37 => k_extra "MINE num"); (case c2q37 => k_extra "MINE num")); k_extra "MINE got"))
  k_with "M call ref" => ((k_here; (with_reducible show wpAny _ _ (call (Value.ref 174) [Value.ref _, Value.int _ _]) _ _ _); k_dflt (refine' Fn.use ?k1 ?k2 ?k3 ?k4 ?k5 ?kK (fn_wide_doubled _ _ _ _ _ _ _ _ _ _ ?c1q38 ?c2q38 ?c3q38 ?c4q38) ?kd ?ku ?_; k_extra "MINE use"; (case c1q38 => k_mem); (case c2q38 => first | assumption | omega); (case c3q38 => first | assumption | omega); (case c4q38 => first | assumption | omega)); k_extra "MINE got3"))
  k_with "MINE cond" => (first | exact True.intro | ((try dsimp only [cP, cAnd]); (repeat' (first | exact True.intro | refine And.intro ?_ ?_)); all_goals first | k_extra "MINE mul" | mul_fits | decide | omega | assumption))
  k_with "M eval BinOp" => ((k_here; (try dsimp only); k_dflt (refine' pe_int ?Fq40 ?fq40 ?hq40 ?cq40 ?_; (case Fq40 => k_asm); (case fq40 => exact rfl); (case hq40 => exact rfl); (case cq40 => k_extra "MINE cond")); intro t9 tk9; (try dsimp only)))
  k_with "M isTrue Compare" => ((k_here; (try dsimp only); k_dflt (refine' pe_cmp ?Fq41 ?fq41 noOrc_ok ?hq41 ?iq41 ?jq41 ?bq41 ?cq41 ?_; (case Fq41 => k_asm); (case fq41 => exact rfl); (case hq41 => exact rfl); (case iq41 => exact rfl); (case jq41 => exact rfl); (case bq41 => exact rfl); (case cq41 => k_extra "MINE cond")); intro tk9; (try dsimp only)))
  k_with "M eval Tuple" => ((k_here; (try dsimp only); k_dflt (first | (refine' pe_tup2 ?Fq42 ?Nq42 ?fq42 noOrc_ok ?hq42 ?iq42 ?sq42 ?uq42 ?cq42 ?_; (case Fq42 => k_asm); (case Nq42 => k_asm); (case fq42 => exact rfl); (case hq42 => exact rfl); (case iq42 => exact rfl); (case sq42 => exact rfl); (case uq42 => exact rfl); (case cq42 => k_extra "MINE cond"); intro a9 h9 t9 u9 tk9 F9 N9 l9) | (refine' pe_tup3 ?Fq42 ?Nq42 ?fq42 noOrc_ok ?hq42 ?iq42 ?jq42 ?sq42 ?uq42 ?vq42 ?cq42 ?_; (case Fq42 => k_asm); (case Nq42 => k_asm); (case fq42 => exact rfl); (case hq42 => exact rfl); (case iq42 => exact rfl); (case jq42 => exact rfl); (case sq42 => exact rfl); (case uq42 => exact rfl); (case vq42 => exact rfl); (case cq42 => k_extra "MINE cond"); intro a9 h9 t9 u9 v9 tk9 F9 N9 l9)); (have l9c := l9); (try k_lt l9); (try k_sweep); (try dsimp only)))
  k_with "M execs cons" => ((k_here; (with_reducible show wpAny _ _ (execs (Stmt.Assign [Expr.Name _ _] _ _ :: _) _) _ _ _); (try dsimp only); k_dflt (refine' pe_one ?Fq43 ?Nq43 ?fq43 noOrc_ok ?hq43 ?xq43 ?sq43 ?cq43 ?_; (case Fq43 => k_asm); (case Nq43 => k_asm); (case fq43 => exact rfl); (case hq43 => exact rfl); (case xq43 => exact rfl); (case sq43 => with_unfolding_all exact rfl); (case cq43 => k_extra "MINE cond"); intro h9 t9 tk9 F9 N9); (try k_sweep)))
  k_with "M execs cons" => ((k_here; (with_reducible show wpAny _ _ (execs (Stmt.Assign [Expr.Tuple [Expr.Name _ _, Expr.Name _ _] _ _] (Expr.Tuple [_, _] _ _) _ :: _) _) _ _ _); (try dsimp only); k_dflt (refine' pe_two ?Fq44 ?Nq44 ?fq44 noOrc_ok ?kq44 ?hq44 ?iq44 ?xq44 ?yq44 ?sq44 ?wq44 ?uq44 ?vq44 ?cq44 ?_; (case Fq44 => k_asm); (case Nq44 => k_asm); (case fq44 => exact rfl); (case kq44 => exact rfl); (case hq44 => exact rfl); (case iq44 => exact rfl); (case xq44 => exact rfl); (case yq44 => exact rfl); (case sq44 => with_unfolding_all exact rfl); (case wq44 => with_unfolding_all exact rfl); (case uq44 => exact rfl); (case vq44 => exact rfl); (case cq44 => k_extra "MINE cond"); intro h9 t9 u9 tk9 F9 N9); (try k_sweep)))
  k_with "M eval Call" => (k_fold)
  k_with "M eval Tuple" => (k_fold)
  k_with "M eval BinOp" => (k_fold)
  k_with "M eval Subscript" => (k_fold)
  k_with "M eval IfExp" => (k_fold)
  k_with "M isTrue Compare" => (k_fold)
  k_with "M isTrue BoolOp" => (k_fold)
  k_with "M exec If" => (k_fold)
  k_with "M exec Return" => (k_fold)
  k_with "MINE t k_room" => (ktr_room)
  k_with "MINE t k_units" => (ktr_units)
  k_with "MINE t k_mem" => (first | with_reducible assumption | assumption | exact List.Mem.head _ | (refine' List.Mem.tail _ ?_; k_mem))
  k_with "MINE t k_all" => (first | assumption | exact cellNe (by assumption) (by k_extra "MINE sub") | exact List.forall_mem_nil _ | (refine' List.forall_mem_cons.mpr ⟨?aq57, ?bq57⟩; (case aq57 => first | k_ne | assumption); (case bq57 => k_all)))
  k_with "MINE t ktr_room" => (first | (refine' rm2 ?hq58 ?bq58; (case hq58 => assumption); (case bq58 => exact rfl)) | (refine' rm1 ?hq58 ?bq58; (case hq58 => assumption); (case bq58 => exact rfl)) | (refine' rm3 ?hq58 ?bq58; (case hq58 => assumption); (case bq58 => exact rfl)) | exact rm0 (by assumption) | fail "no room")
  k_with "MINE t ktr_units" => (first | (refine' rm2 ?hq59 ?bq59; (case hq59 => assumption); (case bq59 => exact rfl)) | (refine' rm1 ?hq59 ?bq59; (case hq59 => assumption); (case bq59 => exact rfl)) | (refine' rm3 ?hq59 ?bq59; (case hq59 => assumption); (case bq59 => exact rfl)) | exact rm0 (by assumption) | fail "no room")
  k_with "MINE t k_ne" => (with_reducible (first | assumption | exact Nat.ne_of_lt (by k_extra "MINE lt") | exact Nat.ne_of_gt (by k_extra "MINE lt") | exact Ne.symm (by assumption) | k_extra "MINE lt" | exact Ne.symm (by k_extra "MINE lt") | fail "not seen unlike"))
  trivial
theorem fn_wide_added (w : World) (news : Led) (pa qa : Addr) (x y z u v o : Int) (tx ty tz tu tv to tp : Tok) (hm : (pa, tup3O x tx y ty z tz) ∈ news) (hn : (qa, tup3O u tu v tv o to) ∈ news) (px : 0 ≤ x ∧ x < 67) (py : 0 ≤ y ∧ y < 67) (pz : 0 ≤ z ∧ z < 67)
    (pu : 0 ≤ u ∧ u < 67) (pv : 0 ≤ v ∧ v < 67) (po : 0 ≤ o ∧ o < 67) :
    Fn w 20 80 181 news [.ref pa, .ref qa, .int 67 tp] (fun v' news' => ∃ a t1 t2 t3, v' = .ref a ∧ news' = (a, tup3O (waM x y z u v o).1 t1 (waM x y z u v o).2.1 t2 (waM x y z u v o).2.2 t3) :: news) := by
  (unfold Fn; k_fill; intro pg loose mean mg mb dp un gd cn cs a ccd cl outer A₀ base h₀ L m hp₀ gs₀ dr₀ tk₀ os₀ Q E B F X N T hk hd hu hret; refine wpAny_call ?_; k_dflt ktr_enter; refine wp_let ?_; intro Ak)
  k_steps
  all_goals first
    | (exfalso; omega)
    | (refine hret _ ((pa, _) :: news) _ _ (by k_asm) (by (exact cb_more (by k_asm) (by k_mem))) ?_; exact vtup3 (waM_one (by omega) (by omega)))
    | (refine hret _ ((qa, _) :: news) _ _ (by k_asm) (by (exact cb_more (by k_asm) (by k_mem))) ?_; exact vtup3 (waM_other (by omega)))
    | (refine hret _ ((_, _) :: news) _ _ (by k_asm) (by (refine cb_drop (by k_asm) ?_; intro q hq; rcases List.mem_cons.mp hq with rfl | hq; (exact List.Mem.head _); (repeat (first | exact hq | refine List.mem_cons_of_mem _ ?_)))) ?_; exact vtup3 (waM_far (by assumption) (by assumption) (by assumption)))
    | (refine hret _ ((_, _) :: news) _ _ (by k_asm) (by (refine cb_drop (by k_asm) ?_; intro q hq; rcases List.mem_cons.mp hq with rfl | hq; (exact List.Mem.head _); (repeat (first | exact hq | refine List.mem_cons_of_mem _ ?_)))) ?_; exact vtup3 (waM_none (by assumption) (by assumption) (by assumption) (by assumption)))
    | (refine hret _ ((_, _) :: news) _ _ (by k_asm) (by (refine cb_drop (by k_asm) ?_; intro q hq; rcases List.mem_cons.mp hq with rfl | hq; (exact List.Mem.head _); (repeat (first | exact hq | refine List.mem_cons_of_mem _ ?_)))) ?_; exact vtup3 (waM_dbl (by assumption) (by assumption) (by assumption) (by assumption)))
theorem lines_C7 : True := by
  w_top off
  k_with_none
  k_with "MINE len" => (((try simp only [List.length_append, List.length_take, List.length_drop, List.length_replicate, List.length_cons, List.length_nil, cutL_length, beL_length, leL_length, partL_length, KBa_byteArr_length, List.length_map, rangeKs_length] at *); omega))
  k_with "MINE num" => (first | omega | assumption | (simp only [Int.reduceToNat, Int.reducePow, Int.reduceMul, Int.fmod_eq_emod_of_nonneg, Int.reduceLE]; omega) | k_extra "MINE len")
  k_with "M call type:bytes" => ((k_here; (with_reducible show wpAny _ _ (call (Value.type "bytes") [Value.int _ _]) _ _ _); refine' bz_call ?h0q2 ?hNq2 ?_; (case h0q2 => k_extra "MINE num"); (case hNq2 => k_extra "MINE num"); intro _ _))
  k_with "M call builtin:len" => ((k_here; (with_reducible show wpAny _ _ (call (Value.builtin "len") [Value.bytes (List.toArray _) _]) _ _ _); refine' len_L ?h0q3 ?_; (case h0q3 => k_extra "MINE num"); intro _ _))
  k_with "M binaryOp Add bytes bytes" => ((k_here; (with_reducible show wpAny _ _ (binaryOp Operator.Add (Value.bytes (List.toArray _) _) (Value.bytes (List.toArray _) _)) _ _ _); refine' add_L ?h0q4 ?_; (case h0q4 => k_extra "MINE num"); intro _ _))
  k_with "M call ref" => ((k_here; (with_reducible show wpAny _ _ (call (Value.ref _) [Value.bytes (List.toArray _) _, Value.str _ _]) _ _ _); kfb_any; k_dflt (refine' from_big ?h1q5 ?h2q5 ?h3q5 ?_; (case h1q5 => k_asm); (case h2q5 => k_mem); (case h3q5 => k_extra "MINE num")); intro _ _))
  k_with "M subscriptTail" => ((k_here; (with_reducible show wpAny _ _ (subscriptTail _ (Expr.Slice _ _ none _) (Value.bytes (List.toArray _) _) (Value.ref _)) _ _ _); (with_reducible rename Fr _ _ _ _ => F'); (with_reducible rename News _ _ _ _ => N'); (first | (refine' slice_ab (s := ⟨_, _, _, _, _⟩) F' N' ?aq6 ?bq6 ?zq6 ?_; (case aq6 => k_extra "MINE num"); (case bq6 => k_extra "MINE num"); (case zq6 => k_extra "MINE num")) | (refine' slice_to (s := ⟨_, _, _, _, _⟩) F' N' ?bq6 ?zq6 ?_; (case bq6 => k_extra "MINE num"); (case zq6 => k_extra "MINE num")) | (refine' slice_from (s := ⟨_, _, _, _, _⟩) F' N' ?aq6 ?zq6 ?_; (case aq6 => k_extra "MINE num"); (case zq6 => k_extra "MINE num"))); intro _ _ _ F' N'))
  k_with "M call builtin:int.to_bytes" => ((k_here; (with_reducible show wpAny _ _ (call (Value.builtin "int.to_bytes") [Value.int _ _, Value.int _ _, Value.str _ _]) _ _ _); (first | (refine' to_bigI ?aq7 ?cq7 ?bq7 ?dq7 ?_; (case aq7 => k_extra "MINE num"); (case cq7 => k_extra "MINE num"); (case bq7 => k_extra "MINE num"); (case dq7 => k_extra "MINE fits")) | (refine' to_littleI ?aq7 ?cq7 ?bq7 ?dq7 ?_; (case aq7 => k_extra "MINE num"); (case cq7 => k_extra "MINE num"); (case bq7 => k_extra "MINE num"); (case dq7 => k_extra "MINE fits"))); intro _ _))
  k_with "MINE fits" => (first | assumption | exact fits_num (by assumption) | (simp only [Int.reduceToNat, Nat.reducePow]; omega) | (simp only [Int.reduceToNat, Nat.reducePow, Int.reducePow, Int.reduceMul, Int.fmod_eq_emod_of_nonneg, Int.reduceLE]; omega))
  k_with "MINE enter" => ((unfold Fn; k_fill; intro p loose mean mg mb dp un gd cn cs a ccd cl outer A₀ base h₀ L m hp₀ gs₀ dr₀ tk₀ os₀ Q E B F X N T hk hd hu hret; refine wpAny_call ?_; k_dflt ktr_enter))
  k_with "MINE use" => (((case k1 => k_asm); (case k2 => k_asm); (case k3 => k_asm); (case k4 => k_asm); (case k5 => k_asm); (case kK => first | exact rfl | assumption); (case kd => ktr_room); (case ku => ktr_units)))
  k_with "M call builtin:pow" => ((k_here; (with_reducible show wpAny _ _ (call (Value.builtin "pow") [Value.int _ _, Value.int _ _, Value.int _ _]) _ _ _); refine' pow3I ?aq11 ?bq11 ?_; (case aq11 => first | decide | k_extra "MINE num"); (case bq11 => first | decide | k_extra "MINE num"); intro _ _ _))
  k_with "MINE sub" => (first | (intro q hq; exact hq) | ((with_reducible refine' List.forall_mem_cons.mpr ⟨?aq12, ?bq12⟩); (case aq12 => k_mem); (case bq12 => k_extra "MINE sub")) | (intro q hq; (repeat (first | exact hq | refine List.mem_cons_of_mem _ ?_))))
  k_with "M call type:bytes" => ((k_here; (with_reducible show wpAny _ _ (call (Value.type "bytes") [Value.bytes _ _]) _ _ _); refine bb_call ?_))
  k_with "MINE pick" => ((repeat (first | exact Pick.head | apply Pick.tail)))
  k_with "M call builtin:max" => ((k_here; (with_reducible show wpAny _ _ (call (Value.builtin "max") [Value.int _ _, Value.int _ _]) _ _ _); k_dflt (refine' maxI ?hq15 ?Fq15 ?Nq15 ?_; (case hq15 => rfl); (case Fq15 => k_asm); (case Nq15 => k_asm)); intro _ _ _ F' N'; (try k_sweep)))
  k_with "M call builtin:min" => ((k_here; (with_reducible show wpAny _ _ (call (Value.builtin "min") [Value.int _ _, Value.int _ _]) _ _ _); k_dflt (refine' minI ?hq16 ?Fq16 ?Nq16 ?_; (case hq16 => rfl); (case Fq16 => k_asm); (case Nq16 => k_asm)); intro _ _ _ F' N'; (try k_sweep)))
  k_with "M call builtin:max" => ((k_here; (with_reducible show wpAny _ _ (call (Value.builtin "max") [Value.int _ _, Value.int _ _, Value.int _ _]) _ _ _); k_dflt (refine' max3I ?hq17 ?Fq17 ?Nq17 ?_; (case hq17 => rfl); (case Fq17 => k_asm); (case Nq17 => k_asm)); intro _ _ _ F' N'; (try k_sweep)))
  k_with "MINE subD" => ((intro q hq; exact List.mem_cons_of_mem _ hq))
  k_with "MINE steps" => (repeat' (first | (k_unfold; (try dsimp only)) | walk1 | (dsimp only; walk1) | (leave1; walk_say "STEP leave1"; try dsimp only) | fail "no step"))
  k_with "M callWith ref" => ((k_here; (with_reducible show wpAny _ _ (callWith _ (Value.ref (OfNat.ofNat _)) _ _ _) _ _ _); k_dflt (refine' callWith_K ?k1q20 ?k2q20 ?_; (case k1q20 => k_asm); (case k2q20 => k_is); k_whole)))
  k_with "M execs cons" => ((k_here; (try dsimp only); with_reducible refine tk_sum ?_; intro tk9; (try (with_reducible rename Fr _ _ _ _ => Fx9; refine fr_let Fx9 ?_; intro mK Fy9; clear Fx9)); (try k_extra "MINE led")))
  k_with "M execs nil" => ((k_here; (try dsimp only); with_reducible refine tk_sum ?_; intro tk9))
  k_with "MINE lt" => (first | assumption | exact And.left (by assumption) | exact And.left (And.right (by assumption)) | exact And.left (And.right (And.right (by assumption))) | exact And.left (And.right (And.right (And.right (by assumption)))) | exact And.left (And.right (And.right (And.right (And.right (by assumption))))) | exact And.left (And.right (And.right (And.right (And.right (And.right (by assumption)))))) | exact And.left (And.right (And.right (And.right (And.right (And.right (And.right (by assumption))))))) | exact And.left (And.right (And.right (And.right (And.right (And.right (And.right (And.right (by assumption)))))))) | exact And.left (And.right (And.right (And.right (And.right (And.right (And.right (And.right (And.right (by assumption))))))))) | exact And.right (by assumption) | exact And.right (And.right (by assumption)) | exact And.right (And.right (And.right (by assumption))) | fail "not seen less")
  k_with "MINE mul" => (first | ((with_reducible refine mulL ?_); decide) | ((with_reducible refine mulR ?_); decide) | ((with_reducible refine' mulRb ?_ ?_); (focus assumption); decide) | ((with_reducible refine' mulLb ?_ ?_); (focus assumption); decide) | ((with_reducible refine mulRm ?_); decide) | ((with_reducible refine mulLm ?_); decide) | fail "not seen small")
  k_with "M binaryOp Mult int int" => ((k_here; k_dflt (refine' PyProof.Rows.mul_int ?_ ?hmq25; rotate_left; (case hmq25 => k_extra "MINE mul"))))
  k_with "M newTuple" => ((k_here; kup_bare; k_dflt (refine' newTupleV ?Fq26 ?Nq26 ?_ ?zq26; (case Fq26 => k_asm); (case Nq26 => k_asm); (case zq26 => kmk_size)); intro D' h' F' N' l1; (try k_lt l1); (try k_sweep)))
  k_with "MINE got" => ((intro v9 n9 h9 tk9 F9 N9 hp9; obtain ⟨hn9, t9, hv9⟩ := hp9; subst hn9 hv9; (try dsimp only); (try k_fold)))
  k_with "MINE got3" => ((intro v9 n9 h9 tk9 F9 N9 hp9; obtain ⟨a9, t9, t9', t9'', hv9, hn9⟩ := hp9; subst hn9 hv9; (try dsimp only); (try k_fold)))
  k_with "M call ref" => ((k_here; (with_reducible show wpAny _ _ (call (Value.ref 90) [Value.int _ _]) _ _ _); k_dflt (refine' Fn.use ?k1 ?k2 ?k3 ?k4 ?k5 ?kK (fn_led _ _ _ _ ) ?kd ?ku ?_; k_extra "MINE use"); k_extra "MINE got"))
  k_with "M call ref" => ((k_here; (with_reducible show wpAny _ _ (call (Value.ref 104) [Value.int _ _]) _ _ _); k_dflt (refine' Fn.use ?k1 ?k2 ?k3 ?k4 ?k5 ?kK (fn_address_of _ _ _ _ ) ?kd ?ku ?_; k_extra "MINE use"); k_extra "MINE got"))
  k_with "M call ref" => ((k_here; (with_reducible show wpAny _ _ (call (Value.ref 230) [Value.int _ _]) _ _ _); k_dflt (refine' Fn.use ?k1 ?k2 ?k3 ?k4 ?k5 ?kK (fn_words_of _ _ _ _ ) ?kd ?ku ?_; k_extra "MINE use"); k_extra "MINE got"))
  k_with "M call ref" => ((k_here; (with_reducible show wpAny _ _ (call (Value.ref 97) [Value.int _ _]) _ _ _); k_dflt (refine' Fn.use ?k1 ?k2 ?k3 ?k4 ?k5 ?kK (fn_word_octets' _ _ _ _ ?c1q32 ?c2q32) ?kd ?ku ?_; k_extra "MINE use"; (case c1q32 => k_extra "MINE num"); (case c2q32 => k_extra "MINE num")); k_extra "MINE got"))
  k_with "M call ref" => ((k_here; (with_reducible show wpAny _ _ (call (Value.ref 237) [Value.bytes _ _, Value.int _ _, Value.int _ _]) _ _ _); k_dflt (refine' Fn.use ?k1 ?k2 ?k3 ?k4 ?k5 ?kK (fn_part_of _ _ _ _ _ _ _ _ ?c1q33 ?c2q33) ?kd ?ku ?_; k_extra "MINE use"; (case c1q33 => k_extra "MINE num"); (case c2q33 => k_extra "MINE num")); k_extra "MINE got"))
  k_with "M call ref" => ((k_here; (with_reducible show wpAny _ _ (call (Value.ref 343) [Value.bytes _ _, Value.int _ _, Value.int _ _]) _ _ _); k_dflt (refine' Fn.use ?k1 ?k2 ?k3 ?k4 ?k5 ?kK (fn_law_part' _ _ _ _ _ _ _ _ ?c1q34 ?c2q34 ?c3q34 ?c4q34) ?kd ?ku ?_; k_extra "MINE use"; (case c1q34 => k_extra "MINE num"); (case c2q34 => k_extra "MINE num"); (case c3q34 => k_extra "MINE num"); (case c4q34 => k_extra "MINE num")); k_extra "MINE got"))
  k_with "M call ref" => ((k_here; (with_reducible show wpAny _ _ (call (Value.ref 343) [Value.bytes _ _, Value.int _ _, Value.int _ _]) _ _ _); k_dflt (refine' Fn.use ?k1 ?k2 ?k3 ?k4 ?k5 ?kK (fn_law_part _ _ _ _ _ _ _ _ ?c1q35 ?c2q35) ?kd ?ku ?_; k_extra "MINE use"; (case c1q35 => k_extra "MINE num"); (case c2q35 => k_extra "MINE num")); k_extra "MINE got"))
  k_with "M call ref" => ((k_here; (with_reducible show wpAny _ _ (call (Value.ref 244) [Value.bytes _ _, Value.int _ _, Value.int _ _]) _ _ _); k_dflt (refine' Fn.use ?k1 ?k2 ?k3 ?k4 ?k5 ?kK (fn_number_at' _ _ _ _ _ _ _ _ ?c1q36 ?c2q36 ?c3q36 ?c4q36) ?kd ?ku ?_; k_extra "MINE use"; (case c1q36 => k_extra "MINE num"); (case c2q36 => k_extra "MINE num"); (case c3q36 => k_extra "MINE num"); (case c4q36 => k_extra "MINE num")); k_extra "MINE got"))
  k_with "M call ref" => ((k_here; (with_reducible show wpAny _ _ (call (Value.ref 244) [Value.bytes _ _, Value.int _ _, Value.int _ _]) _ _ _); k_dflt (refine' Fn.use ?k1 ?k2 ?k3 ?k4 ?k5 ?kK (fn_number_at _ _ _ _ _ _ _ _ ?c1q37 ?c2q37) ?kd ?ku ?_; k_extra "MINE use"; (case c1q37 => k_extra "MINE num"); (case c2q37 => k_extra "MINE num")); k_extra "MINE got"))
  k_with "M call ref" => ((k_here; (with_reducible show wpAny _ _ (call (Value.ref 174) [Value.ref _, Value.int _ _]) _ _ _); k_dflt (refine' Fn.use ?k1 ?k2 ?k3 ?k4 ?k5 ?kK (fn_wide_doubled _ _ _ _ _ _ _ _ _ _ ?c1q38 ?c2q38 ?c3q38 ?c4q38) ?kd ?ku ?_; k_extra "MINE use"; (case c1q38 => k_mem); (case c2q38 => first | assumption | omega); (case c3q38 => first | assumption | omega); (case c4q38 => first | assumption | omega)); k_extra "MINE got3"))
  k_with "M call ref" => ((k_here; (with_reducible show wpAny _ _ (call (Value.ref 181) [Value.ref _, Value.ref _, Value.int _ _]) _ _ _); k_dflt (refine' Fn.use ?k1 ?k2 ?k3 ?k4 ?k5 ?kK (fn_wide_added _ _ _ _ _ _ _ _ _ _ _ _ _ _ _ _ _ ?c1q39 ?c2q39 ?c3q39 ?c4q39 ?c5q39 ?c6q39 ?c7q39 ?c8q39) ?kd ?ku ?_; k_extra "MINE use"; (case c1q39 => k_mem); (case c2q39 => k_mem); (case c3q39 => first | assumption | omega); (case c4q39 => first | assumption | omega); (case c5q39 => first | assumption | omega); (case c6q39 => first | assumption | omega); (case c7q39 => first | assumption | omega); (case c8q39 => first | assumption | omega)); k_extra "MINE got3"))
  k_with "MINE cond" => (first | exact True.intro | ((try dsimp only [cP, cAnd]); (repeat' (first | exact True.intro | refine And.intro ?_ ?_)); all_goals first | k_extra "MINE mul" | mul_fits | decide | omega | assumption))
  k_with "M eval BinOp" => ((k_here; (try dsimp only); k_dflt (refine' pe_int ?Fq41 ?fq41 ?hq41 ?cq41 ?_; (case Fq41 => k_asm); (case fq41 => exact rfl); (case hq41 => exact rfl); (case cq41 => k_extra "MINE cond")); intro t9 tk9; (try dsimp only)))
  k_with "M isTrue Compare" => ((k_here; (try dsimp only); k_dflt (refine' pe_cmp ?Fq42 ?fq42 noOrc_ok ?hq42 ?iq42 ?jq42 ?bq42 ?cq42 ?_; (case Fq42 => k_asm); (case fq42 => exact rfl); (case hq42 => exact rfl); (case iq42 => exact rfl); (case jq42 => exact rfl); (case bq42 => exact rfl); (case cq42 => k_extra "MINE cond")); intro tk9; (try dsimp only)))
  k_with "M eval Tuple" => ((k_here; (try dsimp only); k_dflt (first | (refine' pe_tup2 ?Fq43 ?Nq43 ?fq43 noOrc_ok ?hq43 ?iq43 ?sq43 ?uq43 ?cq43 ?_; (case Fq43 => k_asm); (case Nq43 => k_asm); (case fq43 => exact rfl); (case hq43 => exact rfl); (case iq43 => exact rfl); (case sq43 => exact rfl); (case uq43 => exact rfl); (case cq43 => k_extra "MINE cond"); intro a9 h9 t9 u9 tk9 F9 N9 l9) | (refine' pe_tup3 ?Fq43 ?Nq43 ?fq43 noOrc_ok ?hq43 ?iq43 ?jq43 ?sq43 ?uq43 ?vq43 ?cq43 ?_; (case Fq43 => k_asm); (case Nq43 => k_asm); (case fq43 => exact rfl); (case hq43 => exact rfl); (case iq43 => exact rfl); (case jq43 => exact rfl); (case sq43 => exact rfl); (case uq43 => exact rfl); (case vq43 => exact rfl); (case cq43 => k_extra "MINE cond"); intro a9 h9 t9 u9 v9 tk9 F9 N9 l9)); (have l9c := l9); (try k_lt l9); (try k_sweep); (try dsimp only)))
  k_with "M execs cons" => ((k_here; (with_reducible show wpAny _ _ (execs (Stmt.Assign [Expr.Name _ _] _ _ :: _) _) _ _ _); (try dsimp only); k_dflt (refine' pe_one ?Fq44 ?Nq44 ?fq44 noOrc_ok ?hq44 ?xq44 ?sq44 ?cq44 ?_; (case Fq44 => k_asm); (case Nq44 => k_asm); (case fq44 => exact rfl); (case hq44 => exact rfl); (case xq44 => exact rfl); (case sq44 => with_unfolding_all exact rfl); (case cq44 => k_extra "MINE cond"); intro h9 t9 tk9 F9 N9); (try k_sweep)))
  k_with "M execs cons" => ((k_here; (with_reducible show wpAny _ _ (execs (Stmt.Assign [Expr.Tuple [Expr.Name _ _, Expr.Name _ _] _ _] (Expr.Tuple [_, _] _ _) _ :: _) _) _ _ _); (try dsimp only); k_dflt (refine' pe_two ?Fq45 ?Nq45 ?fq45 noOrc_ok ?kq45 ?hq45 ?iq45 ?xq45 ?yq45 ?sq45 ?wq45 ?uq45 ?vq45 ?cq45 ?_; (case Fq45 => k_asm); (case Nq45 => k_asm); (case fq45 => exact rfl); (case kq45 => exact rfl); (case hq45 => exact rfl); (case iq45 => exact rfl); (case xq45 => exact rfl); (case yq45 => exact rfl); (case sq45 => with_unfolding_all exact rfl); (case wq45 => with_unfolding_all exact rfl); (case uq45 => exact rfl); (case vq45 => exact rfl); (case cq45 => k_extra "MINE cond"); intro h9 t9 u9 tk9 F9 N9); (try k_sweep)))
  k_with "M eval Call" => (k_fold)
  k_with "M eval Tuple" => (k_fold)
  k_with "M eval BinOp" => (k_fold)
  k_with "M eval Subscript" => (k_fold)
  k_with "M eval IfExp" => (k_fold)
  k_with "M isTrue Compare" => (k_fold)
  k_with "M isTrue BoolOp" => (k_fold)
  k_with "M exec If" => (k_fold)
  k_with "M exec Return" => (k_fold)
  k_with "MINE t k_room" => (ktr_room)
  k_with "MINE t k_units" => (ktr_units)
  k_with "MINE t k_mem" => (first | with_reducible assumption | assumption | exact List.Mem.head _ | (refine' List.Mem.tail _ ?_; k_mem))
  k_with "MINE t k_all" => (first | assumption | exact cellNe (by assumption) (by k_extra "MINE sub") | exact List.forall_mem_nil _ | (refine' List.forall_mem_cons.mpr ⟨?aq58, ?bq58⟩; (case aq58 => first | k_ne | assumption); (case bq58 => k_all)))
  k_with "MINE t ktr_room" => (first | (refine' rm2 ?hq59 ?bq59; (case hq59 => assumption); (case bq59 => exact rfl)) | (refine' rm1 ?hq59 ?bq59; (case hq59 => assumption); (case bq59 => exact rfl)) | (refine' rm3 ?hq59 ?bq59; (case hq59 => assumption); (case bq59 => exact rfl)) | exact rm0 (by assumption) | fail "no room")
  k_with "MINE t ktr_units" => (first | (refine' rm2 ?hq60 ?bq60; (case hq60 => assumption); (case bq60 => exact rfl)) | (refine' rm1 ?hq60 ?bq60; (case hq60 => assumption); (case bq60 => exact rfl)) | (refine' rm3 ?hq60 ?bq60; (case hq60 => assumption); (case bq60 => exact rfl)) | exact rm0 (by assumption) | fail "no room")
  k_with "MINE t k_ne" => (with_reducible (first | assumption | exact Nat.ne_of_lt (by k_extra "MINE lt") | exact Nat.ne_of_gt (by k_extra "MINE lt") | exact Ne.symm (by assumption) | k_extra "MINE lt" | exact Ne.symm (by k_extra "MINE lt") | fail "not seen unlike"))
  trivial
theorem fn_narrowed (w : World) (news : Led) (pa : Addr) (x y z : Int) (tx ty tz tp : Tok) (hm : (pa, tup3O x tx y ty z tz) ∈ news) (px : 0 ≤ x ∧ x < 67) (py : 0 ≤ y ∧ y < 67) (pz : 0 ≤ z ∧ z < 67) :
    Fn w 10 40 188 news [.ref pa, .int 67 tp] (fun v news' => PtBack news v news' (naM x y z)) := by
  (unfold Fn; k_fill; intro pg loose mean mg mb dp un gd cn cs a ccd cl outer A₀ base h₀ L m hp₀ gs₀ dr₀ tk₀ os₀ Q E B F X N T hk hd hu hret; refine wpAny_call ?_; k_dflt ktr_enter; refine wp_let ?_; intro Ak)
  k_steps
  all_goals first
    | (refine hret _ _ _ _ (by k_asm) (by k_asm) ?_; exact ptNone (naM_none (by assumption)))
    | (refine hret _ _ _ _ (by k_asm) (by k_asm) ?_; exact ptSome (naM_some (by assumption)))
theorem lines_C8 : True := by
  w_top off
  k_with_none
  k_with "MINE len" => (((try simp only [List.length_append, List.length_take, List.length_drop, List.length_replicate, List.length_cons, List.length_nil, cutL_length, beL_length, leL_length, partL_length, KBa_byteArr_length, List.length_map, rangeKs_length] at *); omega))
  k_with "MINE num" => (first | omega | assumption | (simp only [Int.reduceToNat, Int.reducePow, Int.reduceMul, Int.fmod_eq_emod_of_nonneg, Int.reduceLE]; omega) | k_extra "MINE len")
  k_with "M call type:bytes" => ((k_here; (with_reducible show wpAny _ _ (call (Value.type "bytes") [Value.int _ _]) _ _ _); refine' bz_call ?h0q2 ?hNq2 ?_; (case h0q2 => k_extra "MINE num"); (case hNq2 => k_extra "MINE num"); intro _ _))
  k_with "M call builtin:len" => ((k_here; (with_reducible show wpAny _ _ (call (Value.builtin "len") [Value.bytes (List.toArray _) _]) _ _ _); refine' len_L ?h0q3 ?_; (case h0q3 => k_extra "MINE num"); intro _ _))
  k_with "M binaryOp Add bytes bytes" => ((k_here; (with_reducible show wpAny _ _ (binaryOp Operator.Add (Value.bytes (List.toArray _) _) (Value.bytes (List.toArray _) _)) _ _ _); refine' add_L ?h0q4 ?_; (case h0q4 => k_extra "MINE num"); intro _ _))
  k_with "M call ref" => ((k_here; (with_reducible show wpAny _ _ (call (Value.ref _) [Value.bytes (List.toArray _) _, Value.str _ _]) _ _ _); kfb_any; k_dflt (refine' from_big ?h1q5 ?h2q5 ?h3q5 ?_; (case h1q5 => k_asm); (case h2q5 => k_mem); (case h3q5 => k_extra "MINE num")); intro _ _))
  k_with "M subscriptTail" => ((k_here; (with_reducible show wpAny _ _ (subscriptTail _ (Expr.Slice _ _ none _) (Value.bytes (List.toArray _) _) (Value.ref _)) _ _ _); (with_reducible rename Fr _ _ _ _ => F'); (with_reducible rename News _ _ _ _ => N'); (first | (refine' slice_ab (s := ⟨_, _, _, _, _⟩) F' N' ?aq6 ?bq6 ?zq6 ?_; (case aq6 => k_extra "MINE num"); (case bq6 => k_extra "MINE num"); (case zq6 => k_extra "MINE num")) | (refine' slice_to (s := ⟨_, _, _, _, _⟩) F' N' ?bq6 ?zq6 ?_; (case bq6 => k_extra "MINE num"); (case zq6 => k_extra "MINE num")) | (refine' slice_from (s := ⟨_, _, _, _, _⟩) F' N' ?aq6 ?zq6 ?_; (case aq6 => k_extra "MINE num"); (case zq6 => k_extra "MINE num"))); intro _ _ _ F' N'))
  k_with "M call builtin:int.to_bytes" => ((k_here; (with_reducible show wpAny _ _ (call (Value.builtin "int.to_bytes") [Value.int _ _, Value.int _ _, Value.str _ _]) _ _ _); (first | (refine' to_bigI ?aq7 ?cq7 ?bq7 ?dq7 ?_; (case aq7 => k_extra "MINE num"); (case cq7 => k_extra "MINE num"); (case bq7 => k_extra "MINE num"); (case dq7 => k_extra "MINE fits")) | (refine' to_littleI ?aq7 ?cq7 ?bq7 ?dq7 ?_; (case aq7 => k_extra "MINE num"); (case cq7 => k_extra "MINE num"); (case bq7 => k_extra "MINE num"); (case dq7 => k_extra "MINE fits"))); intro _ _))
  k_with "MINE fits" => (first | assumption | exact fits_num (by assumption) | (simp only [Int.reduceToNat, Nat.reducePow]; omega) | (simp only [Int.reduceToNat, Nat.reducePow, Int.reducePow, Int.reduceMul, Int.fmod_eq_emod_of_nonneg, Int.reduceLE]; omega))
  k_with "MINE enter" => ((unfold Fn; k_fill; intro p loose mean mg mb dp un gd cn cs a ccd cl outer A₀ base h₀ L m hp₀ gs₀ dr₀ tk₀ os₀ Q E B F X N T hk hd hu hret; refine wpAny_call ?_; k_dflt ktr_enter))
  k_with "MINE use" => (((case k1 => k_asm); (case k2 => k_asm); (case k3 => k_asm); (case k4 => k_asm); (case k5 => k_asm); (case kK => first | exact rfl | assumption); (case kd => ktr_room); (case ku => ktr_units)))
  k_with "M call builtin:pow" => ((k_here; (with_reducible show wpAny _ _ (call (Value.builtin "pow") [Value.int _ _, Value.int _ _, Value.int _ _]) _ _ _); refine' pow3I ?aq11 ?bq11 ?_; (case aq11 => first | decide | k_extra "MINE num"); (case bq11 => first | decide | k_extra "MINE num"); intro _ _ _))
  k_with "MINE sub" => (first | (intro q hq; exact hq) | ((with_reducible refine' List.forall_mem_cons.mpr ⟨?aq12, ?bq12⟩); (case aq12 => k_mem); (case bq12 => k_extra "MINE sub")) | (intro q hq; (repeat (first | exact hq | refine List.mem_cons_of_mem _ ?_))))
  k_with "M call type:bytes" => ((k_here; (with_reducible show wpAny _ _ (call (Value.type "bytes") [Value.bytes _ _]) _ _ _); refine bb_call ?_))
  k_with "MINE pick" => ((repeat (first | exact Pick.head | apply Pick.tail)))
  k_with "M call builtin:max" => ((k_here; (with_reducible show wpAny _ _ (call (Value.builtin "max") [Value.int _ _, Value.int _ _]) _ _ _); k_dflt (refine' maxI ?hq15 ?Fq15 ?Nq15 ?_; (case hq15 => rfl); (case Fq15 => k_asm); (case Nq15 => k_asm)); intro _ _ _ F' N'; (try k_sweep)))
  k_with "M call builtin:min" => ((k_here; (with_reducible show wpAny _ _ (call (Value.builtin "min") [Value.int _ _, Value.int _ _]) _ _ _); k_dflt (refine' minI ?hq16 ?Fq16 ?Nq16 ?_; (case hq16 => rfl); (case Fq16 => k_asm); (case Nq16 => k_asm)); intro _ _ _ F' N'; (try k_sweep)))
  k_with "M call builtin:max" => ((k_here; (with_reducible show wpAny _ _ (call (Value.builtin "max") [Value.int _ _, Value.int _ _, Value.int _ _]) _ _ _); k_dflt (refine' max3I ?hq17 ?Fq17 ?Nq17 ?_; (case hq17 => rfl); (case Fq17 => k_asm); (case Nq17 => k_asm)); intro _ _ _ F' N'; (try k_sweep)))
  k_with "MINE subD" => ((intro q hq; exact List.mem_cons_of_mem _ hq))
  k_with "MINE steps" => (repeat' (first | (k_unfold; (try dsimp only)) | walk1 | (dsimp only; walk1) | (leave1; walk_say "STEP leave1"; try dsimp only) | fail "no step"))
  k_with "M callWith ref" => ((k_here; (with_reducible show wpAny _ _ (callWith _ (Value.ref (OfNat.ofNat _)) _ _ _) _ _ _); k_dflt (refine' callWith_K ?k1q20 ?k2q20 ?_; (case k1q20 => k_asm); (case k2q20 => k_is); k_whole)))
  k_with "M execs cons" => ((k_here; (try dsimp only); with_reducible refine tk_sum ?_; intro tk9; (try (with_reducible rename Fr _ _ _ _ => Fx9; refine fr_let Fx9 ?_; intro mK Fy9; clear Fx9)); (try k_extra "MINE led")))
  k_with "M execs nil" => ((k_here; (try dsimp only); with_reducible refine tk_sum ?_; intro tk9))
  k_with "MINE lt" => (first | assumption | exact And.left (by assumption) | exact And.left (And.right (by assumption)) | exact And.left (And.right (And.right (by assumption))) | exact And.left (And.right (And.right (And.right (by assumption)))) | exact And.left (And.right (And.right (And.right (And.right (by assumption))))) | exact And.left (And.right (And.right (And.right (And.right (And.right (by assumption)))))) | exact And.left (And.right (And.right (And.right (And.right (And.right (And.right (by assumption))))))) | exact And.left (And.right (And.right (And.right (And.right (And.right (And.right (And.right (by assumption)))))))) | exact And.left (And.right (And.right (And.right (And.right (And.right (And.right (And.right (And.right (by assumption))))))))) | exact And.right (by assumption) | exact And.right (And.right (by assumption)) | exact And.right (And.right (And.right (by assumption))) | fail "not seen less")
  k_with "MINE mul" => (first | ((with_reducible refine mulL ?_); decide) | ((with_reducible refine mulR ?_); decide) | ((with_reducible refine' mulRb ?_ ?_); (focus assumption); decide) | ((with_reducible refine' mulLb ?_ ?_); (focus assumption); decide) | ((with_reducible refine mulRm ?_); decide) | ((with_reducible refine mulLm ?_); decide) | fail "not seen small")
  k_with "M binaryOp Mult int int" => ((k_here; k_dflt (refine' PyProof.Rows.mul_int ?_ ?hmq25; rotate_left; (case hmq25 => k_extra "MINE mul"))))
  k_with "M newTuple" => ((k_here; kup_bare; k_dflt (refine' newTupleV ?Fq26 ?Nq26 ?_ ?zq26; (case Fq26 => k_asm); (case Nq26 => k_asm); (case zq26 => kmk_size)); intro D' h' F' N' l1; (try k_lt l1); (try k_sweep)))
  k_with "MINE got" => ((intro v9 n9 h9 tk9 F9 N9 hp9; obtain ⟨hn9, t9, hv9⟩ := hp9; subst hn9 hv9; (try dsimp only); (try k_fold)))
  k_with "MINE got3" => ((intro v9 n9 h9 tk9 F9 N9 hp9; obtain ⟨a9, t9, t9', t9'', hv9, hn9⟩ := hp9; subst hn9 hv9; (try dsimp only); (try k_fold)))
  k_with "M call ref" => ((k_here; (with_reducible show wpAny _ _ (call (Value.ref 90) [Value.int _ _]) _ _ _); k_dflt (refine' Fn.use ?k1 ?k2 ?k3 ?k4 ?k5 ?kK (fn_led _ _ _ _ ) ?kd ?ku ?_; k_extra "MINE use"); k_extra "MINE got"))
  k_with "M call ref" => ((k_here; (with_reducible show wpAny _ _ (call (Value.ref 104) [Value.int _ _]) _ _ _); k_dflt (refine' Fn.use ?k1 ?k2 ?k3 ?k4 ?k5 ?kK (fn_address_of _ _ _ _ ) ?kd ?ku ?_; k_extra "MINE use"); k_extra "MINE got"))
  k_with "M call ref" => ((k_here; (with_reducible show wpAny _ _ (call (Value.ref 230) [Value.int _ _]) _ _ _); k_dflt (refine' Fn.use ?k1 ?k2 ?k3 ?k4 ?k5 ?kK (fn_words_of _ _ _ _ ) ?kd ?ku ?_; k_extra "MINE use"); k_extra "MINE got"))
  k_with "M call ref" => ((k_here; (with_reducible show wpAny _ _ (call (Value.ref 97) [Value.int _ _]) _ _ _); k_dflt (refine' Fn.use ?k1 ?k2 ?k3 ?k4 ?k5 ?kK (fn_word_octets' _ _ _ _ ?c1q32 ?c2q32) ?kd ?ku ?_; k_extra "MINE use"; (case c1q32 => k_extra "MINE num"); (case c2q32 => k_extra "MINE num")); k_extra "MINE got"))
  k_with "M call ref" => ((k_here; (with_reducible show wpAny _ _ (call (Value.ref 237) [Value.bytes _ _, Value.int _ _, Value.int _ _]) _ _ _); k_dflt (refine' Fn.use ?k1 ?k2 ?k3 ?k4 ?k5 ?kK (fn_part_of _ _ _ _ _ _ _ _ ?c1q33 ?c2q33) ?kd ?ku ?_; k_extra "MINE use"; (case c1q33 => k_extra "MINE num"); (case c2q33 => k_extra "MINE num")); k_extra "MINE got"))
  k_with "M call ref" => ((k_here; (with_reducible show wpAny _ _ (call (Value.ref 343) [Value.bytes _ _, Value.int _ _, Value.int _ _]) _ _ _); k_dflt (refine' Fn.use ?k1 ?k2 ?k3 ?k4 ?k5 ?kK (fn_law_part' _ _ _ _ _ _ _ _ ?c1q34 ?c2q34 ?c3q34 ?c4q34) ?kd ?ku ?_; k_extra "MINE use"; (case c1q34 => k_extra "MINE num"); (case c2q34 => k_extra "MINE num"); (case c3q34 => k_extra "MINE num"); (case c4q34 => k_extra "MINE num")); k_extra "MINE got"))
  k_with "M call ref" => ((k_here; (with_reducible show wpAny _ _ (call (Value.ref 343) [Value.bytes _ _, Value.int _ _, Value.int _ _]) _ _ _); k_dflt (refine' Fn.use ?k1 ?k2 ?k3 ?k4 ?k5 ?kK (fn_law_part _ _ _ _ _ _ _ _ ?c1q35 ?c2q35) ?kd ?ku ?_; k_extra "MINE use"; (case c1q35 => k_extra "MINE num"); (case c2q35 => k_extra "MINE num")); k_extra "MINE got"))
  k_with "M call ref" => ((k_here; (with_reducible show wpAny _ _ (call (Value.ref 244) [Value.bytes _ _, Value.int _ _, Value.int _ _]) _ _ _); k_dflt (refine' Fn.use ?k1 ?k2 ?k3 ?k4 ?k5 ?kK (fn_number_at' _ _ _ _ _ _ _ _ ?c1q36 ?c2q36 ?c3q36 ?c4q36) ?kd ?ku ?_; k_extra "MINE use"; (case c1q36 => k_extra "MINE num"); (case c2q36 => k_extra "MINE num"); (case c3q36 => k_extra "MINE num"); (case c4q36 => k_extra "MINE num")); k_extra "MINE got"))
  k_with "M call ref" => ((k_here; (with_reducible show wpAny _ _ (call (Value.ref 244) [Value.bytes _ _, Value.int _ _, Value.int _ _]) _ _ _); k_dflt (refine' Fn.use ?k1 ?k2 ?k3 ?k4 ?k5 ?kK (fn_number_at _ _ _ _ _ _ _ _ ?c1q37 ?c2q37) ?kd ?ku ?_; k_extra "MINE use"; (case c1q37 => k_extra "MINE num"); (case c2q37 => k_extra "MINE num")); k_extra "MINE got"))
  k_with "M call ref" => ((k_here; (with_reducible show wpAny _ _ (call (Value.ref 174) [Value.ref _, Value.int _ _]) _ _ _); k_dflt (refine' Fn.use ?k1 ?k2 ?k3 ?k4 ?k5 ?kK (fn_wide_doubled _ _ _ _ _ _ _ _ _ _ ?c1q38 ?c2q38 ?c3q38 ?c4q38) ?kd ?ku ?_; k_extra "MINE use"; (case c1q38 => k_mem); (case c2q38 => first | assumption | omega); (case c3q38 => first | assumption | omega); (case c4q38 => first | assumption | omega)); k_extra "MINE got3"))
  k_with "M call ref" => ((k_here; (with_reducible show wpAny _ _ (call (Value.ref 181) [Value.ref _, Value.ref _, Value.int _ _]) _ _ _); k_dflt (refine' Fn.use ?k1 ?k2 ?k3 ?k4 ?k5 ?kK (fn_wide_added _ _ _ _ _ _ _ _ _ _ _ _ _ _ _ _ _ ?c1q39 ?c2q39 ?c3q39 ?c4q39 ?c5q39 ?c6q39 ?c7q39 ?c8q39) ?kd ?ku ?_; k_extra "MINE use"; (case c1q39 => k_mem); (case c2q39 => k_mem); (case c3q39 => first | assumption | omega); (case c4q39 => first | assumption | omega); (case c5q39 => first | assumption | omega); (case c6q39 => first | assumption | omega); (case c7q39 => first | assumption | omega); (case c8q39 => first | assumption | omega)); k_extra "MINE got3"))
  k_with "MINE cond" => (first | exact True.intro | ((try dsimp only [cP, cAnd]); (repeat' (first | exact True.intro | refine And.intro ?_ ?_)); all_goals first | k_extra "MINE mul" | mul_fits | decide | omega | assumption))
  k_with "M eval BinOp" => ((k_here; (try dsimp only); k_dflt (refine' pe_int ?Fq41 ?fq41 ?hq41 ?cq41 ?_; (case Fq41 => k_asm); (case fq41 => exact rfl); (case hq41 => exact rfl); (case cq41 => k_extra "MINE cond")); intro t9 tk9; (try dsimp only)))
  k_with "M isTrue Compare" => ((k_here; (try dsimp only); k_dflt (refine' pe_cmp ?Fq42 ?fq42 noOrc_ok ?hq42 ?iq42 ?jq42 ?bq42 ?cq42 ?_; (case Fq42 => k_asm); (case fq42 => exact rfl); (case hq42 => exact rfl); (case iq42 => exact rfl); (case jq42 => exact rfl); (case bq42 => exact rfl); (case cq42 => k_extra "MINE cond")); intro tk9; (try dsimp only)))
  k_with "M eval Tuple" => ((k_here; (try dsimp only); k_dflt (first | (refine' pe_tup2 ?Fq43 ?Nq43 ?fq43 noOrc_ok ?hq43 ?iq43 ?sq43 ?uq43 ?cq43 ?_; (case Fq43 => k_asm); (case Nq43 => k_asm); (case fq43 => exact rfl); (case hq43 => exact rfl); (case iq43 => exact rfl); (case sq43 => exact rfl); (case uq43 => exact rfl); (case cq43 => k_extra "MINE cond"); intro a9 h9 t9 u9 tk9 F9 N9 l9) | (refine' pe_tup3 ?Fq43 ?Nq43 ?fq43 noOrc_ok ?hq43 ?iq43 ?jq43 ?sq43 ?uq43 ?vq43 ?cq43 ?_; (case Fq43 => k_asm); (case Nq43 => k_asm); (case fq43 => exact rfl); (case hq43 => exact rfl); (case iq43 => exact rfl); (case jq43 => exact rfl); (case sq43 => exact rfl); (case uq43 => exact rfl); (case vq43 => exact rfl); (case cq43 => k_extra "MINE cond"); intro a9 h9 t9 u9 v9 tk9 F9 N9 l9)); (have l9c := l9); (try k_lt l9); (try k_sweep); (try dsimp only)))
  k_with "M execs cons" => ((k_here; (with_reducible show wpAny _ _ (execs (Stmt.Assign [Expr.Name _ _] _ _ :: _) _) _ _ _); (try dsimp only); k_dflt (refine' pe_one ?Fq44 ?Nq44 ?fq44 noOrc_ok ?hq44 ?xq44 ?sq44 ?cq44 ?_; (case Fq44 => k_asm); (case Nq44 => k_asm); (case fq44 => exact rfl); (case hq44 => exact rfl); (case xq44 => exact rfl); (case sq44 => with_unfolding_all exact rfl); (case cq44 => k_extra "MINE cond"); intro h9 t9 tk9 F9 N9); (try k_sweep)))
  k_with "M execs cons" => ((k_here; (with_reducible show wpAny _ _ (execs (Stmt.Assign [Expr.Tuple [Expr.Name _ _, Expr.Name _ _] _ _] (Expr.Tuple [_, _] _ _) _ :: _) _) _ _ _); (try dsimp only); k_dflt (refine' pe_two ?Fq45 ?Nq45 ?fq45 noOrc_ok ?kq45 ?hq45 ?iq45 ?xq45 ?yq45 ?sq45 ?wq45 ?uq45 ?vq45 ?cq45 ?_; (case Fq45 => k_asm); (case Nq45 => k_asm); (case fq45 => exact rfl); (case kq45 => exact rfl); (case hq45 => exact rfl); (case iq45 => exact rfl); (case xq45 => exact rfl); (case yq45 => exact rfl); (case sq45 => with_unfolding_all exact rfl); (case wq45 => with_unfolding_all exact rfl); (case uq45 => exact rfl); (case vq45 => exact rfl); (case cq45 => k_extra "MINE cond"); intro h9 t9 u9 tk9 F9 N9); (try k_sweep)))
  k_with "M eval Call" => (k_fold)
  k_with "M eval Tuple" => (k_fold)
  k_with "M eval BinOp" => (k_fold)
  k_with "M eval Subscript" => (k_fold)
  k_with "M eval IfExp" => (k_fold)
  k_with "M isTrue Compare" => (k_fold)
  k_with "M isTrue BoolOp" => (k_fold)
  k_with "M exec If" => (k_fold)
  k_with "M exec Return" => (k_fold)
  k_with "MINE t k_room" => (ktr_room)
  k_with "MINE t k_units" => (ktr_units)
  k_with "MINE t k_mem" => (first | with_reducible assumption | assumption | exact List.Mem.head _ | (refine' List.Mem.tail _ ?_; k_mem))
  k_with "MINE t k_all" => (first | assumption | exact cellNe (by assumption) (by k_extra "MINE sub") | exact List.forall_mem_nil _ | (refine' List.forall_mem_cons.mpr ⟨?aq58, ?bq58⟩; (case aq58 => first | k_ne | assumption); (case bq58 => k_all)))
  k_with "MINE t ktr_room" => (first | (refine' rm2 ?hq59 ?bq59; (case hq59 => assumption); (case bq59 => exact rfl)) | (refine' rm1 ?hq59 ?bq59; (case hq59 => assumption); (case bq59 => exact rfl)) | (refine' rm3 ?hq59 ?bq59; (case hq59 => assumption); (case bq59 => exact rfl)) | exact rm0 (by assumption) | fail "no room")
  k_with "MINE t ktr_units" => (first | (refine' rm2 ?hq60 ?bq60; (case hq60 => assumption); (case bq60 => exact rfl)) | (refine' rm1 ?hq60 ?bq60; (case hq60 => assumption); (case bq60 => exact rfl)) | (refine' rm3 ?hq60 ?bq60; (case hq60 => assumption); (case bq60 => exact rfl)) | exact rm0 (by assumption) | fail "no room")
  k_with "MINE t k_ne" => (with_reducible (first | assumption | exact Nat.ne_of_lt (by k_extra "MINE lt") | exact Nat.ne_of_gt (by k_extra "MINE lt") | exact Ne.symm (by assumption) | k_extra "MINE lt" | exact Ne.symm (by k_extra "MINE lt") | fail "not seen unlike"))
  trivial
theorem fn_doubled (w : World) (news : Led) (cu pa : Addr) (x y : Int) (tx ty : Tok) (hc : CurveAt w.params news cu) (hm : (pa, tup2O x tx y ty) ∈ news) (px : 0 ≤ x ∧ x < 67) (py : 0 ≤ y ∧ y < 67) :
    Fn w 10 40 139 news [.ref cu, .ref pa] (fun v news' => PtBack news v news' (doM (some (x, y)))) := by
  obtain ⟨cd, g, t1, t2, t3, t4, t5, t6, t7, t8, t9, hc1, hc2, hc3⟩ := hc
  (unfold Fn; k_fill; intro pg loose mean mg mb dp un gd cn cs a ccd cl outer A₀ base h₀ L m hp₀ gs₀ dr₀ tk₀ os₀ Q E B F X N T hk hd hu hret; refine wpAny_call ?_; k_dflt ktr_enter; refine wp_let ?_; intro Ak)
  k_steps
  all_goals first
    | (refine hret _ _ _ _ (by k_asm) (by k_asm) ?_; exact ptNone (doM_none (by assumption)))
    | (refine hret _ _ _ _ (by k_asm) (by k_asm) ?_; exact ptSome (doM_some (by assumption)))
theorem lines_C9 : True := by
  w_top off
  k_with_none
  k_with "MINE len" => (((try simp only [List.length_append, List.length_take, List.length_drop, List.length_replicate, List.length_cons, List.length_nil, cutL_length, beL_length, leL_length, partL_length, KBa_byteArr_length, List.length_map, rangeKs_length] at *); omega))
  k_with "MINE num" => (first | omega | assumption | (simp only [Int.reduceToNat, Int.reducePow, Int.reduceMul, Int.fmod_eq_emod_of_nonneg, Int.reduceLE]; omega) | k_extra "MINE len")
  k_with "M call type:bytes" => ((k_here; (with_reducible show wpAny _ _ (call (Value.type "bytes") [Value.int _ _]) _ _ _); refine' bz_call ?h0q2 ?hNq2 ?_; (case h0q2 => k_extra "MINE num"); (case hNq2 => k_extra "MINE num"); intro _ _))
  k_with "M call builtin:len" => ((k_here; (with_reducible show wpAny _ _ (call (Value.builtin "len") [Value.bytes (List.toArray _) _]) _ _ _); refine' len_L ?h0q3 ?_; (case h0q3 => k_extra "MINE num"); intro _ _))
  k_with "M binaryOp Add bytes bytes" => ((k_here; (with_reducible show wpAny _ _ (binaryOp Operator.Add (Value.bytes (List.toArray _) _) (Value.bytes (List.toArray _) _)) _ _ _); refine' add_L ?h0q4 ?_; (case h0q4 => k_extra "MINE num"); intro _ _))
  k_with "M call ref" => ((k_here; (with_reducible show wpAny _ _ (call (Value.ref _) [Value.bytes (List.toArray _) _, Value.str _ _]) _ _ _); kfb_any; k_dflt (refine' from_big ?h1q5 ?h2q5 ?h3q5 ?_; (case h1q5 => k_asm); (case h2q5 => k_mem); (case h3q5 => k_extra "MINE num")); intro _ _))
  k_with "M subscriptTail" => ((k_here; (with_reducible show wpAny _ _ (subscriptTail _ (Expr.Slice _ _ none _) (Value.bytes (List.toArray _) _) (Value.ref _)) _ _ _); (with_reducible rename Fr _ _ _ _ => F'); (with_reducible rename News _ _ _ _ => N'); (first | (refine' slice_ab (s := ⟨_, _, _, _, _⟩) F' N' ?aq6 ?bq6 ?zq6 ?_; (case aq6 => k_extra "MINE num"); (case bq6 => k_extra "MINE num"); (case zq6 => k_extra "MINE num")) | (refine' slice_to (s := ⟨_, _, _, _, _⟩) F' N' ?bq6 ?zq6 ?_; (case bq6 => k_extra "MINE num"); (case zq6 => k_extra "MINE num")) | (refine' slice_from (s := ⟨_, _, _, _, _⟩) F' N' ?aq6 ?zq6 ?_; (case aq6 => k_extra "MINE num"); (case zq6 => k_extra "MINE num"))); intro _ _ _ F' N'))
  k_with "M call builtin:int.to_bytes" => ((k_here; (with_reducible show wpAny _ _ (call (Value.builtin "int.to_bytes") [Value.int _ _, Value.int _ _, Value.str _ _]) _ _ _); (first | (refine' to_bigI ?aq7 ?cq7 ?bq7 ?dq7 ?_; (case aq7 => k_extra "MINE num"); (case cq7 => k_extra "MINE num"); (case bq7 => k_extra "MINE num"); (case dq7 => k_extra "MINE fits")) | (refine' to_littleI ?aq7 ?cq7 ?bq7 ?dq7 ?_; (case aq7 => k_extra "MINE num"); (case cq7 => k_extra "MINE num"); (case bq7 => k_extra "MINE num"); (case dq7 => k_extra "MINE fits"))); intro _ _))
  k_with "MINE fits" => (first | assumption | exact fits_num (by assumption) | (simp only [Int.reduceToNat, Nat.reducePow]; omega) | (simp only [Int.reduceToNat, Nat.reducePow, Int.reducePow, Int.reduceMul, Int.fmod_eq_emod_of_nonneg, Int.reduceLE]; omega))
  k_with "MINE enter" => ((unfold Fn; k_fill; intro p loose mean mg mb dp un gd cn cs a ccd cl outer A₀ base h₀ L m hp₀ gs₀ dr₀ tk₀ os₀ Q E B F X N T hk hd hu hret; refine wpAny_call ?_; k_dflt ktr_enter))
  k_with "MINE use" => (((case k1 => k_asm); (case k2 => k_asm); (case k3 => k_asm); (case k4 => k_asm); (case k5 => k_asm); (case kK => first | exact rfl | assumption); (case kd => ktr_room); (case ku => ktr_units)))
  k_with "M call builtin:pow" => ((k_here; (with_reducible show wpAny _ _ (call (Value.builtin "pow") [Value.int _ _, Value.int _ _, Value.int _ _]) _ _ _); refine' pow3I ?aq11 ?bq11 ?_; (case aq11 => first | decide | k_extra "MINE num"); (case bq11 => first | decide | k_extra "MINE num"); intro _ _ _))
  k_with "MINE sub" => (first | (intro q hq; exact hq) | ((with_reducible refine' List.forall_mem_cons.mpr ⟨?aq12, ?bq12⟩); (case aq12 => k_mem); (case bq12 => k_extra "MINE sub")) | (intro q hq; (repeat (first | exact hq | refine List.mem_cons_of_mem _ ?_))))
  k_with "M call type:bytes" => ((k_here; (with_reducible show wpAny _ _ (call (Value.type "bytes") [Value.bytes _ _]) _ _ _); refine bb_call ?_))
  k_with "MINE pick" => ((repeat (first | exact Pick.head | apply Pick.tail)))
  k_with "M call builtin:max" => ((k_here; (with_reducible show wpAny _ _ (call (Value.builtin "max") [Value.int _ _, Value.int _ _]) _ _ _); k_dflt (refine' maxI ?hq15 ?Fq15 ?Nq15 ?_; (case hq15 => rfl); (case Fq15 => k_asm); (case Nq15 => k_asm)); intro _ _ _ F' N'; (try k_sweep)))
  k_with "M call builtin:min" => ((k_here; (with_reducible show wpAny _ _ (call (Value.builtin "min") [Value.int _ _, Value.int _ _]) _ _ _); k_dflt (refine' minI ?hq16 ?Fq16 ?Nq16 ?_; (case hq16 => rfl); (case Fq16 => k_asm); (case Nq16 => k_asm)); intro _ _ _ F' N'; (try k_sweep)))
  k_with "M call builtin:max" => ((k_here; (with_reducible show wpAny _ _ (call (Value.builtin "max") [Value.int _ _, Value.int _ _, Value.int _ _]) _ _ _); k_dflt (refine' max3I ?hq17 ?Fq17 ?Nq17 ?_; (case hq17 => rfl); (case Fq17 => k_asm); (case Nq17 => k_asm)); intro _ _ _ F' N'; (try k_sweep)))
  k_with "MINE subD" => ((intro q hq; exact List.mem_cons_of_mem _ hq))
  k_with "MINE steps" => (repeat' (first | (k_unfold; (try dsimp only)) | walk1 | (dsimp only; walk1) | (leave1; walk_say "STEP leave1"; try dsimp only) | fail "no step"))
  k_with "M callWith ref" => ((k_here; (with_reducible show wpAny _ _ (callWith _ (Value.ref (OfNat.ofNat _)) _ _ _) _ _ _); k_dflt (refine' callWith_K ?k1q20 ?k2q20 ?_; (case k1q20 => k_asm); (case k2q20 => k_is); k_whole)))
  k_with "M execs cons" => ((k_here; (try dsimp only); with_reducible refine tk_sum ?_; intro tk9; (try (with_reducible rename Fr _ _ _ _ => Fx9; refine fr_let Fx9 ?_; intro mK Fy9; clear Fx9)); (try k_extra "MINE led")))
  k_with "M execs nil" => ((k_here; (try dsimp only); with_reducible refine tk_sum ?_; intro tk9))
  k_with "MINE lt" => (first | assumption | exact And.left (by assumption) | exact And.left (And.right (by assumption)) | exact And.left (And.right (And.right (by assumption))) | exact And.left (And.right (And.right (And.right (by assumption)))) | exact And.left (And.right (And.right (And.right (And.right (by assumption))))) | exact And.left (And.right (And.right (And.right (And.right (And.right (by assumption)))))) | exact And.left (And.right (And.right (And.right (And.right (And.right (And.right (by assumption))))))) | exact And.left (And.right (And.right (And.right (And.right (And.right (And.right (And.right (by assumption)))))))) | exact And.left (And.right (And.right (And.right (And.right (And.right (And.right (And.right (And.right (by assumption))))))))) | exact And.right (by assumption) | exact And.right (And.right (by assumption)) | exact And.right (And.right (And.right (by assumption))) | fail "not seen less")
  k_with "MINE mul" => (first | ((with_reducible refine mulL ?_); decide) | ((with_reducible refine mulR ?_); decide) | ((with_reducible refine' mulRb ?_ ?_); (focus assumption); decide) | ((with_reducible refine' mulLb ?_ ?_); (focus assumption); decide) | ((with_reducible refine mulRm ?_); decide) | ((with_reducible refine mulLm ?_); decide) | fail "not seen small")
  k_with "M binaryOp Mult int int" => ((k_here; k_dflt (refine' PyProof.Rows.mul_int ?_ ?hmq25; rotate_left; (case hmq25 => k_extra "MINE mul"))))
  k_with "M newTuple" => ((k_here; kup_bare; k_dflt (refine' newTupleV ?Fq26 ?Nq26 ?_ ?zq26; (case Fq26 => k_asm); (case Nq26 => k_asm); (case zq26 => kmk_size)); intro D' h' F' N' l1; (try k_lt l1); (try k_sweep)))
  k_with "MINE got" => ((intro v9 n9 h9 tk9 F9 N9 hp9; obtain ⟨hn9, t9, hv9⟩ := hp9; subst hn9 hv9; (try dsimp only); (try k_fold)))
  k_with "MINE got3" => ((intro v9 n9 h9 tk9 F9 N9 hp9; obtain ⟨a9, t9, t9', t9'', hv9, hn9⟩ := hp9; subst hn9 hv9; (try dsimp only); (try k_fold)))
  k_with "M call ref" => ((k_here; (with_reducible show wpAny _ _ (call (Value.ref 90) [Value.int _ _]) _ _ _); k_dflt (refine' Fn.use ?k1 ?k2 ?k3 ?k4 ?k5 ?kK (fn_led _ _ _ _ ) ?kd ?ku ?_; k_extra "MINE use"); k_extra "MINE got"))
  k_with "M call ref" => ((k_here; (with_reducible show wpAny _ _ (call (Value.ref 104) [Value.int _ _]) _ _ _); k_dflt (refine' Fn.use ?k1 ?k2 ?k3 ?k4 ?k5 ?kK (fn_address_of _ _ _ _ ) ?kd ?ku ?_; k_extra "MINE use"); k_extra "MINE got"))
  k_with "M call ref" => ((k_here; (with_reducible show wpAny _ _ (call (Value.ref 230) [Value.int _ _]) _ _ _); k_dflt (refine' Fn.use ?k1 ?k2 ?k3 ?k4 ?k5 ?kK (fn_words_of _ _ _ _ ) ?kd ?ku ?_; k_extra "MINE use"); k_extra "MINE got"))
  k_with "M call ref" => ((k_here; (with_reducible show wpAny _ _ (call (Value.ref 97) [Value.int _ _]) _ _ _); k_dflt (refine' Fn.use ?k1 ?k2 ?k3 ?k4 ?k5 ?kK (fn_word_octets' _ _ _ _ ?c1q32 ?c2q32) ?kd ?ku ?_; k_extra "MINE use"; (case c1q32 => k_extra "MINE num"); (case c2q32 => k_extra "MINE num")); k_extra "MINE got"))
  k_with "M call ref" => ((k_here; (with_reducible show wpAny _ _ (call (Value.ref 237) [Value.bytes _ _, Value.int _ _, Value.int _ _]) _ _ _); k_dflt (refine' Fn.use ?k1 ?k2 ?k3 ?k4 ?k5 ?kK (fn_part_of _ _ _ _ _ _ _ _ ?c1q33 ?c2q33) ?kd ?ku ?_; k_extra "MINE use"; (case c1q33 => k_extra "MINE num"); (case c2q33 => k_extra "MINE num")); k_extra "MINE got"))
  k_with "M call ref" => ((k_here; (with_reducible show wpAny _ _ (call (Value.ref 343) [Value.bytes _ _, Value.int _ _, Value.int _ _]) _ _ _); k_dflt (refine' Fn.use ?k1 ?k2 ?k3 ?k4 ?k5 ?kK (fn_law_part' _ _ _ _ _ _ _ _ ?c1q34 ?c2q34 ?c3q34 ?c4q34) ?kd ?ku ?_; k_extra "MINE use"; (case c1q34 => k_extra "MINE num"); (case c2q34 => k_extra "MINE num"); (case c3q34 => k_extra "MINE num"); (case c4q34 => k_extra "MINE num")); k_extra "MINE got"))
  k_with "M call ref" => ((k_here; (with_reducible show wpAny _ _ (call (Value.ref 343) [Value.bytes _ _, Value.int _ _, Value.int _ _]) _ _ _); k_dflt (refine' Fn.use ?k1 ?k2 ?k3 ?k4 ?k5 ?kK (fn_law_part _ _ _ _ _ _ _ _ ?c1q35 ?c2q35) ?kd ?ku ?_; k_extra "MINE use"; (case c1q35 => k_extra "MINE num"); (case c2q35 => k_extra "MINE num")); k_extra "MINE got"))
  k_with "M call ref" => ((k_here; (with_reducible show wpAny _ _ (call (Value.ref 244) [Value.bytes _ _, Value.int _ _, Value.int _ _]) _ _ _); k_dflt (refine' Fn.use ?k1 ?k2 ?k3 ?k4 ?k5 ?kK (fn_number_at' _ _ _ _ _ _ _ _ ?c1q36 ?c2q36 ?c3q36 ?c4q36) ?kd ?ku ?_; k_extra "MINE use"; (case c1q36 => k_extra "MINE num"); (case c2q36 => k_extra "MINE num"); (case c3q36 => k_extra "MINE num"); (case c4q36 => k_extra "MINE num")); k_extra "MINE got"))
  k_with "M call ref" => ((k_here; (with_reducible show wpAny _ _ (call (Value.ref 244) [Value.bytes _ _, Value.int _ _, Value.int _ _]) _ _ _); k_dflt (refine' Fn.use ?k1 ?k2 ?k3 ?k4 ?k5 ?kK (fn_number_at _ _ _ _ _ _ _ _ ?c1q37 ?c2q37) ?kd ?ku ?_; k_extra "MINE use"; (case c1q37 => k_extra "MINE num"); (case c2q37 => k_extra "MINE num")); k_extra "MINE got"))
  k_with "M call ref" => ((k_here; (with_reducible show wpAny _ _ (call (Value.ref 174) [Value.ref _, Value.int _ _]) _ _ _); k_dflt (refine' Fn.use ?k1 ?k2 ?k3 ?k4 ?k5 ?kK (fn_wide_doubled _ _ _ _ _ _ _ _ _ _ ?c1q38 ?c2q38 ?c3q38 ?c4q38) ?kd ?ku ?_; k_extra "MINE use"; (case c1q38 => k_mem); (case c2q38 => first | assumption | omega); (case c3q38 => first | assumption | omega); (case c4q38 => first | assumption | omega)); k_extra "MINE got3"))
  k_with "M call ref" => ((k_here; (with_reducible show wpAny _ _ (call (Value.ref 181) [Value.ref _, Value.ref _, Value.int _ _]) _ _ _); k_dflt (refine' Fn.use ?k1 ?k2 ?k3 ?k4 ?k5 ?kK (fn_wide_added _ _ _ _ _ _ _ _ _ _ _ _ _ _ _ _ _ ?c1q39 ?c2q39 ?c3q39 ?c4q39 ?c5q39 ?c6q39 ?c7q39 ?c8q39) ?kd ?ku ?_; k_extra "MINE use"; (case c1q39 => k_mem); (case c2q39 => k_mem); (case c3q39 => first | assumption | omega); (case c4q39 => first | assumption | omega); (case c5q39 => first | assumption | omega); (case c6q39 => first | assumption | omega); (case c7q39 => first | assumption | omega); (case c8q39 => first | assumption | omega)); k_extra "MINE got3"))
  k_with "MINE cond" => (first | exact True.intro | ((try dsimp only [cP, cAnd]); (repeat' (first | exact True.intro | refine And.intro ?_ ?_)); all_goals first | k_extra "MINE mul" | mul_fits | decide | omega | assumption))
  k_with "M eval BinOp" => ((k_here; (try dsimp only); k_dflt (refine' pe_int ?Fq41 ?fq41 ?hq41 ?cq41 ?_; (case Fq41 => k_asm); (case fq41 => exact rfl); (case hq41 => exact rfl); (case cq41 => k_extra "MINE cond")); intro t9 tk9; (try dsimp only)))
  k_with "M isTrue Compare" => ((k_here; (try dsimp only); k_dflt (refine' pe_cmp ?Fq42 ?fq42 noOrc_ok ?hq42 ?iq42 ?jq42 ?bq42 ?cq42 ?_; (case Fq42 => k_asm); (case fq42 => exact rfl); (case hq42 => exact rfl); (case iq42 => exact rfl); (case jq42 => exact rfl); (case bq42 => exact rfl); (case cq42 => k_extra "MINE cond")); intro tk9; (try dsimp only)))
  k_with "M eval Tuple" => ((k_here; (try dsimp only); k_dflt (first | (refine' pe_tup2 ?Fq43 ?Nq43 ?fq43 noOrc_ok ?hq43 ?iq43 ?sq43 ?uq43 ?cq43 ?_; (case Fq43 => k_asm); (case Nq43 => k_asm); (case fq43 => exact rfl); (case hq43 => exact rfl); (case iq43 => exact rfl); (case sq43 => exact rfl); (case uq43 => exact rfl); (case cq43 => k_extra "MINE cond"); intro a9 h9 t9 u9 tk9 F9 N9 l9) | (refine' pe_tup3 ?Fq43 ?Nq43 ?fq43 noOrc_ok ?hq43 ?iq43 ?jq43 ?sq43 ?uq43 ?vq43 ?cq43 ?_; (case Fq43 => k_asm); (case Nq43 => k_asm); (case fq43 => exact rfl); (case hq43 => exact rfl); (case iq43 => exact rfl); (case jq43 => exact rfl); (case sq43 => exact rfl); (case uq43 => exact rfl); (case vq43 => exact rfl); (case cq43 => k_extra "MINE cond"); intro a9 h9 t9 u9 v9 tk9 F9 N9 l9)); (have l9c := l9); (try k_lt l9); (try k_sweep); (try dsimp only)))
  k_with "M execs cons" => ((k_here; (with_reducible show wpAny _ _ (execs (Stmt.Assign [Expr.Name _ _] _ _ :: _) _) _ _ _); (try dsimp only); k_dflt (refine' pe_one ?Fq44 ?Nq44 ?fq44 noOrc_ok ?hq44 ?xq44 ?sq44 ?cq44 ?_; (case Fq44 => k_asm); (case Nq44 => k_asm); (case fq44 => exact rfl); (case hq44 => exact rfl); (case xq44 => exact rfl); (case sq44 => with_unfolding_all exact rfl); (case cq44 => k_extra "MINE cond"); intro h9 t9 tk9 F9 N9); (try k_sweep)))
  k_with "M execs cons" => ((k_here; (with_reducible show wpAny _ _ (execs (Stmt.Assign [Expr.Tuple [Expr.Name _ _, Expr.Name _ _] _ _] (Expr.Tuple [_, _] _ _) _ :: _) _) _ _ _); (try dsimp only); k_dflt (refine' pe_two ?Fq45 ?Nq45 ?fq45 noOrc_ok ?kq45 ?hq45 ?iq45 ?xq45 ?yq45 ?sq45 ?wq45 ?uq45 ?vq45 ?cq45 ?_; (case Fq45 => k_asm); (case Nq45 => k_asm); (case fq45 => exact rfl); (case kq45 => exact rfl); (case hq45 => exact rfl); (case iq45 => exact rfl); (case xq45 => exact rfl); (case yq45 => exact rfl); (case sq45 => with_unfolding_all exact rfl); (case wq45 => with_unfolding_all exact rfl); (case uq45 => exact rfl); (case vq45 => exact rfl); (case cq45 => k_extra "MINE cond"); intro h9 t9 u9 tk9 F9 N9); (try k_sweep)))
  k_with "M eval Call" => (k_fold)
  k_with "M eval Tuple" => (k_fold)
  k_with "M eval BinOp" => (k_fold)
  k_with "M eval Subscript" => (k_fold)
  k_with "M eval IfExp" => (k_fold)
  k_with "M isTrue Compare" => (k_fold)
  k_with "M isTrue BoolOp" => (k_fold)
  k_with "M exec If" => (k_fold)
  k_with "M exec Return" => (k_fold)
  k_with "MINE t k_room" => (ktr_room)
  k_with "MINE t k_units" => (ktr_units)
  k_with "MINE t k_mem" => (first | with_reducible assumption | assumption | exact List.Mem.head _ | (refine' List.Mem.tail _ ?_; k_mem))
  k_with "MINE t k_all" => (first | assumption | exact cellNe (by assumption) (by k_extra "MINE sub") | exact List.forall_mem_nil _ | (refine' List.forall_mem_cons.mpr ⟨?aq58, ?bq58⟩; (case aq58 => first | k_ne | assumption); (case bq58 => k_all)))
  k_with "MINE t ktr_room" => (first | (refine' rm2 ?hq59 ?bq59; (case hq59 => assumption); (case bq59 => exact rfl)) | (refine' rm1 ?hq59 ?bq59; (case hq59 => assumption); (case bq59 => exact rfl)) | (refine' rm3 ?hq59 ?bq59; (case hq59 => assumption); (case bq59 => exact rfl)) | exact rm0 (by assumption) | fail "no room")
  k_with "MINE t ktr_units" => (first | (refine' rm2 ?hq60 ?bq60; (case hq60 => assumption); (case bq60 => exact rfl)) | (refine' rm1 ?hq60 ?bq60; (case hq60 => assumption); (case bq60 => exact rfl)) | (refine' rm3 ?hq60 ?bq60; (case hq60 => assumption); (case bq60 => exact rfl)) | exact rm0 (by assumption) | fail "no room")
  k_with "MINE t k_ne" => (with_reducible (first | assumption | exact Nat.ne_of_lt (by k_extra "MINE lt") | exact Nat.ne_of_gt (by k_extra "MINE lt") | exact Ne.symm (by assumption) | k_extra "MINE lt" | exact Ne.symm (by k_extra "MINE lt") | fail "not seen unlike"))
  trivial
theorem fn_lifted (w : World) (news : Led) (cu : Addr) (x par : Int) (tx ty : Tok) (hc : CurveAt w.params news cu) (px : 0 ≤ x ∧ x < 1000) (hp : par = 0 ∨ par = 1) :
    Fn w 10 40 160 news [.ref cu, .int x tx, .int par ty] (fun v news' => PtBack news v news' (liM x par)) := by
  obtain ⟨cd, g, t1, t2, t3, t4, t5, t6, t7, t8, t9, hc1, hc2, hc3⟩ := hc
  (unfold Fn; k_fill; intro pg loose mean mg mb dp un gd cn cs a ccd cl outer A₀ base h₀ L m hp₀ gs₀ dr₀ tk₀ os₀ Q E B F X N T hk hd hu hret; refine wpAny_call ?_; k_dflt ktr_enter; refine wp_let ?_; intro Ak)
  k_steps
  all_goals refine hret _ _ _ _ (by k_asm) (by k_asm) ?_
  all_goals first
    | exact ptNone (liM_out (by assumption))
    | exact ptSome (liM_keep (by omega) (by omega) (by assumption) (by assumption))
    | exact ptSome (liM_flip (by omega) (by omega) (by assumption) (by assumption) (by assumption))
    | exact ptNone (liM_flipout (by omega) (by omega) (by assumption) (by assumption) (by assumption))
    | exact ptNone (liM_nosq (by omega) (by omega) (by assumption))
theorem lines_C10 : True := by
  w_top off
  k_with_none
  k_with "MINE len" => (((try simp only [List.length_append, List.length_take, List.length_drop, List.length_replicate, List.length_cons, List.length_nil, cutL_length, beL_length, leL_length, partL_length, KBa_byteArr_length, List.length_map, rangeKs_length] at *); omega))
  k_with "MINE num" => (first | omega | assumption | (simp only [Int.reduceToNat, Int.reducePow, Int.reduceMul, Int.fmod_eq_emod_of_nonneg, Int.reduceLE]; omega) | k_extra "MINE len")
  k_with "M call type:bytes" => ((k_here; (with_reducible show wpAny _ _ (call (Value.type "bytes") [Value.int _ _]) _ _ _); refine' bz_call ?h0q2 ?hNq2 ?_; (case h0q2 => k_extra "MINE num"); (case hNq2 => k_extra "MINE num"); intro _ _))
  k_with "M call builtin:len" => ((k_here; (with_reducible show wpAny _ _ (call (Value.builtin "len") [Value.bytes (List.toArray _) _]) _ _ _); refine' len_L ?h0q3 ?_; (case h0q3 => k_extra "MINE num"); intro _ _))
  k_with "M binaryOp Add bytes bytes" => ((k_here; (with_reducible show wpAny _ _ (binaryOp Operator.Add (Value.bytes (List.toArray _) _) (Value.bytes (List.toArray _) _)) _ _ _); refine' add_L ?h0q4 ?_; (case h0q4 => k_extra "MINE num"); intro _ _))
  k_with "M call ref" => ((k_here; (with_reducible show wpAny _ _ (call (Value.ref _) [Value.bytes (List.toArray _) _, Value.str _ _]) _ _ _); kfb_any; k_dflt (refine' from_big ?h1q5 ?h2q5 ?h3q5 ?_; (case h1q5 => k_asm); (case h2q5 => k_mem); (case h3q5 => k_extra "MINE num")); intro _ _))
  k_with "M subscriptTail" => ((k_here; (with_reducible show wpAny _ _ (subscriptTail _ (Expr.Slice _ _ none _) (Value.bytes (List.toArray _) _) (Value.ref _)) _ _ _); (with_reducible rename Fr _ _ _ _ => F'); (with_reducible rename News _ _ _ _ => N'); (first | (refine' slice_ab (s := ⟨_, _, _, _, _⟩) F' N' ?aq6 ?bq6 ?zq6 ?_; (case aq6 => k_extra "MINE num"); (case bq6 => k_extra "MINE num"); (case zq6 => k_extra "MINE num")) | (refine' slice_to (s := ⟨_, _, _, _, _⟩) F' N' ?bq6 ?zq6 ?_; (case bq6 => k_extra "MINE num"); (case zq6 => k_extra "MINE num")) | (refine' slice_from (s := ⟨_, _, _, _, _⟩) F' N' ?aq6 ?zq6 ?_; (case aq6 => k_extra "MINE num"); (case zq6 => k_extra "MINE num"))); intro _ _ _ F' N'))
  k_with "M call builtin:int.to_bytes" => ((k_here; (with_reducible show wpAny _ _ (call (Value.builtin "int.to_bytes") [Value.int _ _, Value.int _ _, Value.str _ _]) _ _ _); (first | (refine' to_bigI ?aq7 ?cq7 ?bq7 ?dq7 ?_; (case aq7 => k_extra "MINE num"); (case cq7 => k_extra "MINE num"); (case bq7 => k_extra "MINE num"); (case dq7 => k_extra "MINE fits")) | (refine' to_littleI ?aq7 ?cq7 ?bq7 ?dq7 ?_; (case aq7 => k_extra "MINE num"); (case cq7 => k_extra "MINE num"); (case bq7 => k_extra "MINE num"); (case dq7 => k_extra "MINE fits"))); intro _ _))
  k_with "MINE fits" => (first | assumption | exact fits_num (by assumption) | (simp only [Int.reduceToNat, Nat.reducePow]; omega) | (simp only [Int.reduceToNat, Nat.reducePow, Int.reducePow, Int.reduceMul, Int.fmod_eq_emod_of_nonneg, Int.reduceLE]; omega))
  k_with "MINE enter" => ((unfold Fn; k_fill; intro p loose mean mg mb dp un gd cn cs a ccd cl outer A₀ base h₀ L m hp₀ gs₀ dr₀ tk₀ os₀ Q E B F X N T hk hd hu hret; refine wpAny_call ?_; k_dflt ktr_enter))
  k_with "MINE use" => (((case k1 => k_asm); (case k2 => k_asm); (case k3 => k_asm); (case k4 => k_asm); (case k5 => k_asm); (case kK => first | exact rfl | assumption); (case kd => ktr_room); (case ku => ktr_units)))
  k_with "M call builtin:pow" => ((k_here; (with_reducible show wpAny _ _ (call (Value.builtin "pow") [Value.int _ _, Value.int _ _, Value.int _ _]) _ _ _); refine' pow3I ?aq11 ?bq11 ?_; (case aq11 => first | decide | k_extra "MINE num"); (case bq11 => first | decide | k_extra "MINE num"); intro _ _ _))
  k_with "MINE sub" => (first | (intro q hq; exact hq) | ((with_reducible refine' List.forall_mem_cons.mpr ⟨?aq12, ?bq12⟩); (case aq12 => k_mem); (case bq12 => k_extra "MINE sub")) | (intro q hq; (repeat (first | exact hq | refine List.mem_cons_of_mem _ ?_))))
  k_with "M call type:bytes" => ((k_here; (with_reducible show wpAny _ _ (call (Value.type "bytes") [Value.bytes _ _]) _ _ _); refine bb_call ?_))
  k_with "MINE pick" => ((repeat (first | exact Pick.head | apply Pick.tail)))
  k_with "M call builtin:max" => ((k_here; (with_reducible show wpAny _ _ (call (Value.builtin "max") [Value.int _ _, Value.int _ _]) _ _ _); k_dflt (refine' maxI ?hq15 ?Fq15 ?Nq15 ?_; (case hq15 => rfl); (case Fq15 => k_asm); (case Nq15 => k_asm)); intro _ _ _ F' N'; (try k_sweep)))
  k_with "M call builtin:min" => ((k_here; (with_reducible show wpAny _ _ (call (Value.builtin "min") [Value.int _ _, Value.int _ _]) _ _ _); k_dflt (refine' minI ?hq16 ?Fq16 ?Nq16 ?_; (case hq16 => rfl); (case Fq16 => k_asm); (case Nq16 => k_asm)); intro _ _ _ F' N'; (try k_sweep)))
  k_with "M call builtin:max" => ((k_here; (with_reducible show wpAny _ _ (call (Value.builtin "max") [Value.int _ _, Value.int _ _, Value.int _ _]) _ _ _); k_dflt (refine' max3I ?hq17 ?Fq17 ?Nq17 ?_; (case hq17 => rfl); (case Fq17 => k_asm); (case Nq17 => k_asm)); intro _ _ _ F' N'; (try k_sweep)))
  k_with "MINE subD" => ((intro q hq; exact List.mem_cons_of_mem _ hq))
  k_with "MINE steps" => (repeat' (first | (k_unfold; (try dsimp only)) | walk1 | (dsimp only; walk1) | (leave1; walk_say "STEP leave1"; try dsimp only) | fail "no step"))
  k_with "M callWith ref" => ((k_here; (with_reducible show wpAny _ _ (callWith _ (Value.ref (OfNat.ofNat _)) _ _ _) _ _ _); k_dflt (refine' callWith_K ?k1q20 ?k2q20 ?_; (case k1q20 => k_asm); (case k2q20 => k_is); k_whole)))
  k_with "M execs cons" => ((k_here; (try dsimp only); with_reducible refine tk_sum ?_; intro tk9; (try (with_reducible rename Fr _ _ _ _ => Fx9; refine fr_let Fx9 ?_; intro mK Fy9; clear Fx9)); (try k_extra "MINE led")))
  k_with "M execs nil" => ((k_here; (try dsimp only); with_reducible refine tk_sum ?_; intro tk9))
  k_with "MINE lt" => (first | assumption | exact And.left (by assumption) | exact And.left (And.right (by assumption)) | exact And.left (And.right (And.right (by assumption))) | exact And.left (And.right (And.right (And.right (by assumption)))) | exact And.left (And.right (And.right (And.right (And.right (by assumption))))) | exact And.left (And.right (And.right (And.right (And.right (And.right (by assumption)))))) | exact And.left (And.right (And.right (And.right (And.right (And.right (And.right (by assumption))))))) | exact And.left (And.right (And.right (And.right (And.right (And.right (And.right (And.right (by assumption)))))))) | exact And.left (And.right (And.right (And.right (And.right (And.right (And.right (And.right (And.right (by assumption))))))))) | exact And.right (by assumption) | exact And.right (And.right (by assumption)) | exact And.right (And.right (And.right (by assumption))) | fail "not seen less")
  k_with "MINE mul" => (first | ((with_reducible refine mulL ?_); decide) | ((with_reducible refine mulR ?_); decide) | ((with_reducible refine' mulRb ?_ ?_); (focus assumption); decide) | ((with_reducible refine' mulLb ?_ ?_); (focus assumption); decide) | ((with_reducible refine mulRm ?_); decide) | ((with_reducible refine mulLm ?_); decide) | fail "not seen small")
  k_with "M binaryOp Mult int int" => ((k_here; k_dflt (refine' PyProof.Rows.mul_int ?_ ?hmq25; rotate_left; (case hmq25 => k_extra "MINE mul"))))
  k_with "M newTuple" => ((k_here; kup_bare; k_dflt (refine' newTupleV ?Fq26 ?Nq26 ?_ ?zq26; (case Fq26 => k_asm); (case Nq26 => k_asm); (case zq26 => kmk_size)); intro D' h' F' N' l1; (try k_lt l1); (try k_sweep)))
  k_with "MINE gotL" => ((intro v9 n9 h9 tk9 F9 N9 hp9; rcases PtBack.cases hp9 with ⟨er9, hv9, hn9⟩ | ⟨x9, y9, a9, t9, t9', er9, hv9, hn9⟩; all_goals (clear hp9; subst hv9 hn9; (try (have hr9 := liM_in er9; obtain ⟨hr9x, hr9y⟩ := hr9)); (try dsimp only); (try k_fold))))
  k_with "MINE gotP" => ((intro v9 n9 h9 tk9 F9 N9 hp9; (try dsimp only); (try k_fold)))
  k_with "MINE got" => ((intro v9 n9 h9 tk9 F9 N9 hp9; obtain ⟨hn9, t9, hv9⟩ := hp9; subst hn9 hv9; (try dsimp only); (try k_fold)))
  k_with "MINE got3" => ((intro v9 n9 h9 tk9 F9 N9 hp9; obtain ⟨a9, t9, t9', t9'', hv9, hn9⟩ := hp9; subst hn9 hv9; (try dsimp only); (try k_fold)))
  k_with "M call ref" => ((k_here; (with_reducible show wpAny _ _ (call (Value.ref 90) [Value.int _ _]) _ _ _); k_dflt (refine' Fn.use ?k1 ?k2 ?k3 ?k4 ?k5 ?kK (fn_led _ _ _ _ ) ?kd ?ku ?_; k_extra "MINE use"); k_extra "MINE got"))
  k_with "M call ref" => ((k_here; (with_reducible show wpAny _ _ (call (Value.ref 104) [Value.int _ _]) _ _ _); k_dflt (refine' Fn.use ?k1 ?k2 ?k3 ?k4 ?k5 ?kK (fn_address_of _ _ _ _ ) ?kd ?ku ?_; k_extra "MINE use"); k_extra "MINE got"))
  k_with "M call ref" => ((k_here; (with_reducible show wpAny _ _ (call (Value.ref 230) [Value.int _ _]) _ _ _); k_dflt (refine' Fn.use ?k1 ?k2 ?k3 ?k4 ?k5 ?kK (fn_words_of _ _ _ _ ) ?kd ?ku ?_; k_extra "MINE use"); k_extra "MINE got"))
  k_with "M call ref" => ((k_here; (with_reducible show wpAny _ _ (call (Value.ref 97) [Value.int _ _]) _ _ _); k_dflt (refine' Fn.use ?k1 ?k2 ?k3 ?k4 ?k5 ?kK (fn_word_octets' _ _ _ _ ?c1q34 ?c2q34) ?kd ?ku ?_; k_extra "MINE use"; (case c1q34 => k_extra "MINE num"); (case c2q34 => k_extra "MINE num")); k_extra "MINE got"))
  k_with "M call ref" => ((k_here; (with_reducible show wpAny _ _ (call (Value.ref 237) [Value.bytes _ _, Value.int _ _, Value.int _ _]) _ _ _); k_dflt (refine' Fn.use ?k1 ?k2 ?k3 ?k4 ?k5 ?kK (fn_part_of _ _ _ _ _ _ _ _ ?c1q35 ?c2q35) ?kd ?ku ?_; k_extra "MINE use"; (case c1q35 => k_extra "MINE num"); (case c2q35 => k_extra "MINE num")); k_extra "MINE got"))
  k_with "M call ref" => ((k_here; (with_reducible show wpAny _ _ (call (Value.ref 343) [Value.bytes _ _, Value.int _ _, Value.int _ _]) _ _ _); k_dflt (refine' Fn.use ?k1 ?k2 ?k3 ?k4 ?k5 ?kK (fn_law_part' _ _ _ _ _ _ _ _ ?c1q36 ?c2q36 ?c3q36 ?c4q36) ?kd ?ku ?_; k_extra "MINE use"; (case c1q36 => k_extra "MINE num"); (case c2q36 => k_extra "MINE num"); (case c3q36 => k_extra "MINE num"); (case c4q36 => k_extra "MINE num")); k_extra "MINE got"))
  k_with "M call ref" => ((k_here; (with_reducible show wpAny _ _ (call (Value.ref 343) [Value.bytes _ _, Value.int _ _, Value.int _ _]) _ _ _); k_dflt (refine' Fn.use ?k1 ?k2 ?k3 ?k4 ?k5 ?kK (fn_law_part _ _ _ _ _ _ _ _ ?c1q37 ?c2q37) ?kd ?ku ?_; k_extra "MINE use"; (case c1q37 => k_extra "MINE num"); (case c2q37 => k_extra "MINE num")); k_extra "MINE got"))
  k_with "M call ref" => ((k_here; (with_reducible show wpAny _ _ (call (Value.ref 244) [Value.bytes _ _, Value.int _ _, Value.int _ _]) _ _ _); k_dflt (refine' Fn.use ?k1 ?k2 ?k3 ?k4 ?k5 ?kK (fn_number_at' _ _ _ _ _ _ _ _ ?c1q38 ?c2q38 ?c3q38 ?c4q38) ?kd ?ku ?_; k_extra "MINE use"; (case c1q38 => k_extra "MINE num"); (case c2q38 => k_extra "MINE num"); (case c3q38 => k_extra "MINE num"); (case c4q38 => k_extra "MINE num")); k_extra "MINE got"))
  k_with "M call ref" => ((k_here; (with_reducible show wpAny _ _ (call (Value.ref 244) [Value.bytes _ _, Value.int _ _, Value.int _ _]) _ _ _); k_dflt (refine' Fn.use ?k1 ?k2 ?k3 ?k4 ?k5 ?kK (fn_number_at _ _ _ _ _ _ _ _ ?c1q39 ?c2q39) ?kd ?ku ?_; k_extra "MINE use"; (case c1q39 => k_extra "MINE num"); (case c2q39 => k_extra "MINE num")); k_extra "MINE got"))
  k_with "M call ref" => ((k_here; (with_reducible show wpAny _ _ (call (Value.ref 174) [Value.ref _, Value.int _ _]) _ _ _); k_dflt (refine' Fn.use ?k1 ?k2 ?k3 ?k4 ?k5 ?kK (fn_wide_doubled _ _ _ _ _ _ _ _ _ _ ?c1q40 ?c2q40 ?c3q40 ?c4q40) ?kd ?ku ?_; k_extra "MINE use"; (case c1q40 => k_mem); (case c2q40 => first | assumption | omega); (case c3q40 => first | assumption | omega); (case c4q40 => first | assumption | omega)); k_extra "MINE got3"))
  k_with "M call ref" => ((k_here; (with_reducible show wpAny _ _ (call (Value.ref 181) [Value.ref _, Value.ref _, Value.int _ _]) _ _ _); k_dflt (refine' Fn.use ?k1 ?k2 ?k3 ?k4 ?k5 ?kK (fn_wide_added _ _ _ _ _ _ _ _ _ _ _ _ _ _ _ _ _ ?c1q41 ?c2q41 ?c3q41 ?c4q41 ?c5q41 ?c6q41 ?c7q41 ?c8q41) ?kd ?ku ?_; k_extra "MINE use"; (case c1q41 => k_mem); (case c2q41 => k_mem); (case c3q41 => first | assumption | omega); (case c4q41 => first | assumption | omega); (case c5q41 => first | assumption | omega); (case c6q41 => first | assumption | omega); (case c7q41 => first | assumption | omega); (case c8q41 => first | assumption | omega)); k_extra "MINE got3"))
  k_with "M call ref" => ((k_here; (with_reducible show wpAny _ _ (call (Value.ref 188) [Value.ref _, Value.int _ _]) _ _ _); k_dflt (refine' Fn.use ?k1 ?k2 ?k3 ?k4 ?k5 ?kK (fn_narrowed _ _ _ _ _ _ _ _ _ _ ?c1q42 ?c2q42 ?c3q42 ?c4q42) ?kd ?ku ?_; k_extra "MINE use"; (case c1q42 => k_mem); (case c2q42 => first | assumption | omega); (case c3q42 => first | assumption | omega); (case c4q42 => first | assumption | omega)); k_extra "MINE gotP"))
  k_with "M call ref" => ((k_here; (with_reducible show wpAny _ _ (call (Value.ref 139) [Value.ref _, Value.ref _]) _ _ _); k_dflt (refine' Fn.use ?k1 ?k2 ?k3 ?k4 ?k5 ?kK (fn_doubled _ _ _ _ _ _ _ _ ?c1q43 ?c2q43 ?c3q43 ?c4q43) ?kd ?ku ?_; k_extra "MINE use"; (case c1q43 => first | assumption | exact CurveAt.more (by assumption) (by k_extra "MINE sub") | exact CurveAt.more (SetAt.cur (by assumption)) (by k_extra "MINE sub")); (case c2q43 => k_mem); (case c3q43 => first | assumption | omega); (case c4q43 => first | assumption | omega)); k_extra "MINE gotP"))
  k_with "M call ref" => ((k_here; (with_reducible show wpAny _ _ (call (Value.ref 160) [Value.ref _, Value.int _ _, Value.int _ _]) _ _ _); k_dflt (refine' Fn.use ?k1 ?k2 ?k3 ?k4 ?k5 ?kK (fn_lifted _ _ _ _ _ _ _ ?c1q44 ?c2q44 ?c3q44) ?kd ?ku ?_; k_extra "MINE use"; (case c1q44 => first | assumption | exact CurveAt.more (by assumption) (by k_extra "MINE sub") | exact CurveAt.more (SetAt.cur (by assumption)) (by k_extra "MINE sub")); (case c2q44 => first | assumption | omega); (case c3q44 => first | assumption | omega)); k_extra "MINE gotL"))
  k_with "MINE cond" => (first | exact True.intro | ((try dsimp only [cP, cAnd]); (repeat' (first | exact True.intro | refine And.intro ?_ ?_)); all_goals first | k_extra "MINE mul" | mul_fits | decide | omega | assumption))
  k_with "M eval BinOp" => ((k_here; (try dsimp only); k_dflt (refine' pe_int ?Fq46 ?fq46 ?hq46 ?cq46 ?_; (case Fq46 => k_asm); (case fq46 => exact rfl); (case hq46 => exact rfl); (case cq46 => k_extra "MINE cond")); intro t9 tk9; (try dsimp only)))
  k_with "M isTrue Compare" => ((k_here; (try dsimp only); k_dflt (refine' pe_cmp ?Fq47 ?fq47 noOrc_ok ?hq47 ?iq47 ?jq47 ?bq47 ?cq47 ?_; (case Fq47 => k_asm); (case fq47 => exact rfl); (case hq47 => exact rfl); (case iq47 => exact rfl); (case jq47 => exact rfl); (case bq47 => exact rfl); (case cq47 => k_extra "MINE cond")); intro tk9; (try dsimp only)))
  k_with "M eval Tuple" => ((k_here; (try dsimp only); k_dflt (first | (refine' pe_tup2 ?Fq48 ?Nq48 ?fq48 noOrc_ok ?hq48 ?iq48 ?sq48 ?uq48 ?cq48 ?_; (case Fq48 => k_asm); (case Nq48 => k_asm); (case fq48 => exact rfl); (case hq48 => exact rfl); (case iq48 => exact rfl); (case sq48 => exact rfl); (case uq48 => exact rfl); (case cq48 => k_extra "MINE cond"); intro a9 h9 t9 u9 tk9 F9 N9 l9) | (refine' pe_tup3 ?Fq48 ?Nq48 ?fq48 noOrc_ok ?hq48 ?iq48 ?jq48 ?sq48 ?uq48 ?vq48 ?cq48 ?_; (case Fq48 => k_asm); (case Nq48 => k_asm); (case fq48 => exact rfl); (case hq48 => exact rfl); (case iq48 => exact rfl); (case jq48 => exact rfl); (case sq48 => exact rfl); (case uq48 => exact rfl); (case vq48 => exact rfl); (case cq48 => k_extra "MINE cond"); intro a9 h9 t9 u9 v9 tk9 F9 N9 l9)); (have l9c := l9); (try k_lt l9); (try k_sweep); (try dsimp only)))
  k_with "M execs cons" => ((k_here; (with_reducible show wpAny _ _ (execs (Stmt.Assign [Expr.Name _ _] _ _ :: _) _) _ _ _); (try dsimp only); k_dflt (refine' pe_one ?Fq49 ?Nq49 ?fq49 noOrc_ok ?hq49 ?xq49 ?sq49 ?cq49 ?_; (case Fq49 => k_asm); (case Nq49 => k_asm); (case fq49 => exact rfl); (case hq49 => exact rfl); (case xq49 => exact rfl); (case sq49 => with_unfolding_all exact rfl); (case cq49 => k_extra "MINE cond"); intro h9 t9 tk9 F9 N9); (try k_sweep)))
  k_with "M execs cons" => ((k_here; (with_reducible show wpAny _ _ (execs (Stmt.Assign [Expr.Tuple [Expr.Name _ _, Expr.Name _ _] _ _] (Expr.Tuple [_, _] _ _) _ :: _) _) _ _ _); (try dsimp only); k_dflt (refine' pe_two ?Fq50 ?Nq50 ?fq50 noOrc_ok ?kq50 ?hq50 ?iq50 ?xq50 ?yq50 ?sq50 ?wq50 ?uq50 ?vq50 ?cq50 ?_; (case Fq50 => k_asm); (case Nq50 => k_asm); (case fq50 => exact rfl); (case kq50 => exact rfl); (case hq50 => exact rfl); (case iq50 => exact rfl); (case xq50 => exact rfl); (case yq50 => exact rfl); (case sq50 => with_unfolding_all exact rfl); (case wq50 => with_unfolding_all exact rfl); (case uq50 => exact rfl); (case vq50 => exact rfl); (case cq50 => k_extra "MINE cond"); intro h9 t9 u9 tk9 F9 N9); (try k_sweep)))
  k_with "M eval Call" => (k_fold)
  k_with "M eval Tuple" => (k_fold)
  k_with "M eval BinOp" => (k_fold)
  k_with "M eval Subscript" => (k_fold)
  k_with "M eval IfExp" => (k_fold)
  k_with "M isTrue Compare" => (k_fold)
  k_with "M isTrue BoolOp" => (k_fold)
  k_with "M exec If" => (k_fold)
  k_with "M exec Return" => (k_fold)
  k_with "MINE t k_room" => (ktr_room)
  k_with "MINE t k_units" => (ktr_units)
  k_with "MINE t k_mem" => (first | with_reducible assumption | assumption | exact List.Mem.head _ | (refine' List.Mem.tail _ ?_; k_mem))
  k_with "MINE t k_all" => (first | assumption | exact cellNe (by assumption) (by k_extra "MINE sub") | exact List.forall_mem_nil _ | (refine' List.forall_mem_cons.mpr ⟨?aq63, ?bq63⟩; (case aq63 => first | k_ne | assumption); (case bq63 => k_all)))
  k_with "MINE t ktr_room" => (first | (refine' rm2 ?hq64 ?bq64; (case hq64 => assumption); (case bq64 => exact rfl)) | (refine' rm1 ?hq64 ?bq64; (case hq64 => assumption); (case bq64 => exact rfl)) | (refine' rm3 ?hq64 ?bq64; (case hq64 => assumption); (case bq64 => exact rfl)) | exact rm0 (by assumption) | fail "no room")
  k_with "MINE t ktr_units" => (first | (refine' rm2 ?hq65 ?bq65; (case hq65 => assumption); (case bq65 => exact rfl)) | (refine' rm1 ?hq65 ?bq65; (case hq65 => assumption); (case bq65 => exact rfl)) | (refine' rm3 ?hq65 ?bq65; (case hq65 => assumption); (case bq65 => exact rfl)) | exact rm0 (by assumption) | fail "no room")
  k_with "MINE t k_ne" => (with_reducible (first | assumption | exact Nat.ne_of_lt (by k_extra "MINE lt") | exact Nat.ne_of_gt (by k_extra "MINE lt") | exact Ne.symm (by assumption) | k_extra "MINE lt" | exact Ne.symm (by k_extra "MINE lt") | fail "not seen unlike"))
  trivial
theorem fn_added (w : World) (news : Led) (cu : Addr) (v1 v2 : Value) (p1 p2 : Option (Int × Int)) (hc : CurveAt w.params news cu) (h1 : PtAt news v1 p1) (h2 : PtAt news v2 p2) :
    Fn w 20 80 146 news [.ref cu, v1, v2] (fun v news' => PtBack news v news' (adM p1 p2)) := by
  have hc' := hc
  obtain ⟨cd, g, t1, t2, t3, t4, t5, t6, t7, t8, t9, hc1, hc2, hc3⟩ := hc'
  cases h1 with
  | none =>
    cases h2 with
    | none =>
      (unfold Fn; k_fill; intro pg loose mean mg mb dp un gd cn cs a ccd cl outer A₀ base h₀ L m hp₀ gs₀ dr₀ tk₀ os₀ Q E B F X N T hk hd hu hret; refine wpAny_call ?_; k_dflt ktr_enter; refine wp_let ?_; intro Ak)
      k_steps
      all_goals (refine hret _ _ _ _ (by k_asm) (by k_asm) ?_; exact ptNone rfl)
    | some m2 px2 py2 =>
      (unfold Fn; k_fill; intro pg loose mean mg mb dp un gd cn cs a ccd cl outer A₀ base h₀ L m hp₀ gs₀ dr₀ tk₀ os₀ Q E B F X N T hk hd hu hret; refine wpAny_call ?_; k_dflt ktr_enter; refine wp_let ?_; intro Ak)
      k_steps
      all_goals (refine hret _ ((_, _) :: news) _ _ (by k_asm) (cb_more (by k_asm) m2) (ptSome rfl))
  | some m1 px1 py1 =>
    cases h2 with
    | none =>
      (unfold Fn; k_fill; intro pg loose mean mg mb dp un gd cn cs a ccd cl outer A₀ base h₀ L m hp₀ gs₀ dr₀ tk₀ os₀ Q E B F X N T hk hd hu hret; refine wpAny_call ?_; k_dflt ktr_enter; refine wp_let ?_; intro Ak)
      k_steps
      all_goals (refine hret _ ((_, _) :: news) _ _ (by k_asm) (cb_more (by k_asm) m1) (ptSome rfl))
    | some m2 px2 py2 =>
      (unfold Fn; k_fill; intro pg loose mean mg mb dp un gd cn cs a ccd cl outer A₀ base h₀ L m hp₀ gs₀ dr₀ tk₀ os₀ Q E B F X N T hk hd hu hret; refine wpAny_call ?_; k_dflt ktr_enter; refine wp_let ?_; intro Ak)
      k_steps
      all_goals refine hret _ _ _ _ (by k_asm) (by k_asm) ?_
      all_goals first
        | exact ptNone (adM_none (by assumption) (by assumption))
        | exact ptSome (adM_far (by assumption))
        | exact ptDbl (by assumption) (by assumption) (by assumption)
theorem lines_C11 : True := by
  w_top off
  k_with_none
  k_with "MINE len" => (((try simp only [List.length_append, List.length_take, List.length_drop, List.length_replicate, List.length_cons, List.length_nil, cutL_length, beL_length, leL_length, partL_length, KBa_byteArr_length, List.length_map, rangeKs_length] at *); omega))
  k_with "MINE num" => (first | omega | assumption | (simp only [Int.reduceToNat, Int.reducePow, Int.reduceMul, Int.fmod_eq_emod_of_nonneg, Int.reduceLE]; omega) | k_extra "MINE len")
  k_with "M call type:bytes" => ((k_here; (with_reducible show wpAny _ _ (call (Value.type "bytes") [Value.int _ _]) _ _ _); refine' bz_call ?h0q2 ?hNq2 ?_; (case h0q2 => k_extra "MINE num"); (case hNq2 => k_extra "MINE num"); intro _ _))
  k_with "M call builtin:len" => ((k_here; (with_reducible show wpAny _ _ (call (Value.builtin "len") [Value.bytes (List.toArray _) _]) _ _ _); refine' len_L ?h0q3 ?_; (case h0q3 => k_extra "MINE num"); intro _ _))
  k_with "M binaryOp Add bytes bytes" => ((k_here; (with_reducible show wpAny _ _ (binaryOp Operator.Add (Value.bytes (List.toArray _) _) (Value.bytes (List.toArray _) _)) _ _ _); refine' add_L ?h0q4 ?_; (case h0q4 => k_extra "MINE num"); intro _ _))
  k_with "M call ref" => ((k_here; (with_reducible show wpAny _ _ (call (Value.ref _) [Value.bytes (List.toArray _) _, Value.str _ _]) _ _ _); kfb_any; k_dflt (refine' from_big ?h1q5 ?h2q5 ?h3q5 ?_; (case h1q5 => k_asm); (case h2q5 => k_mem); (case h3q5 => k_extra "MINE num")); intro _ _))
  k_with "M subscriptTail" => ((k_here; (with_reducible show wpAny _ _ (subscriptTail _ (Expr.Slice _ _ none _) (Value.bytes (List.toArray _) _) (Value.ref _)) _ _ _); (with_reducible rename Fr _ _ _ _ => F'); (with_reducible rename News _ _ _ _ => N'); (first | (refine' slice_ab (s := ⟨_, _, _, _, _⟩) F' N' ?aq6 ?bq6 ?zq6 ?_; (case aq6 => k_extra "MINE num"); (case bq6 => k_extra "MINE num"); (case zq6 => k_extra "MINE num")) | (refine' slice_to (s := ⟨_, _, _, _, _⟩) F' N' ?bq6 ?zq6 ?_; (case bq6 => k_extra "MINE num"); (case zq6 => k_extra "MINE num")) | (refine' slice_from (s := ⟨_, _, _, _, _⟩) F' N' ?aq6 ?zq6 ?_; (case aq6 => k_extra "MINE num"); (case zq6 => k_extra "MINE num"))); intro _ _ _ F' N'))
  k_with "M call builtin:int.to_bytes" => ((k_here; (with_reducible show wpAny _ _ (call (Value.builtin "int.to_bytes") [Value.int _ _, Value.int _ _, Value.str _ _]) _ _ _); (first | (refine' to_bigI ?aq7 ?cq7 ?bq7 ?dq7 ?_; (case aq7 => k_extra "MINE num"); (case cq7 => k_extra "MINE num"); (case bq7 => k_extra "MINE num"); (case dq7 => k_extra "MINE fits")) | (refine' to_littleI ?aq7 ?cq7 ?bq7 ?dq7 ?_; (case aq7 => k_extra "MINE num"); (case cq7 => k_extra "MINE num"); (case bq7 => k_extra "MINE num"); (case dq7 => k_extra "MINE fits"))); intro _ _))
  k_with "MINE fits" => (first | assumption | exact fits_num (by assumption) | (simp only [Int.reduceToNat, Nat.reducePow]; omega) | (simp only [Int.reduceToNat, Nat.reducePow, Int.reducePow, Int.reduceMul, Int.fmod_eq_emod_of_nonneg, Int.reduceLE]; omega))
  k_with "MINE enter" => ((unfold Fn; k_fill; intro p loose mean mg mb dp un gd cn cs a ccd cl outer A₀ base h₀ L m hp₀ gs₀ dr₀ tk₀ os₀ Q E B F X N T hk hd hu hret; refine wpAny_call ?_; k_dflt ktr_enter))
  k_with "MINE use" => (((case k1 => k_asm); (case k2 => k_asm); (case k3 => k_asm); (case k4 => k_asm); (case k5 => k_asm); (case kK => first | exact rfl | assumption); (case kd => ktr_room); (case ku => ktr_units)))
  k_with "M call builtin:pow" => ((k_here; (with_reducible show wpAny _ _ (call (Value.builtin "pow") [Value.int _ _, Value.int _ _, Value.int _ _]) _ _ _); refine' pow3I ?aq11 ?bq11 ?_; (case aq11 => first | decide | k_extra "MINE num"); (case bq11 => first | decide | k_extra "MINE num"); intro _ _ _))
  k_with "MINE sub" => (first | (intro q hq; exact hq) | ((with_reducible refine' List.forall_mem_cons.mpr ⟨?aq12, ?bq12⟩); (case aq12 => k_mem); (case bq12 => k_extra "MINE sub")) | (intro q hq; (repeat (first | exact hq | refine List.mem_cons_of_mem _ ?_))))
  k_with "M call type:bytes" => ((k_here; (with_reducible show wpAny _ _ (call (Value.type "bytes") [Value.bytes _ _]) _ _ _); refine bb_call ?_))
  k_with "MINE pick" => ((repeat (first | exact Pick.head | apply Pick.tail)))
  k_with "M call builtin:max" => ((k_here; (with_reducible show wpAny _ _ (call (Value.builtin "max") [Value.int _ _, Value.int _ _]) _ _ _); k_dflt (refine' maxI ?hq15 ?Fq15 ?Nq15 ?_; (case hq15 => rfl); (case Fq15 => k_asm); (case Nq15 => k_asm)); intro _ _ _ F' N'; (try k_sweep)))
  k_with "M call builtin:min" => ((k_here; (with_reducible show wpAny _ _ (call (Value.builtin "min") [Value.int _ _, Value.int _ _]) _ _ _); k_dflt (refine' minI ?hq16 ?Fq16 ?Nq16 ?_; (case hq16 => rfl); (case Fq16 => k_asm); (case Nq16 => k_asm)); intro _ _ _ F' N'; (try k_sweep)))
  k_with "M call builtin:max" => ((k_here; (with_reducible show wpAny _ _ (call (Value.builtin "max") [Value.int _ _, Value.int _ _, Value.int _ _]) _ _ _); k_dflt (refine' max3I ?hq17 ?Fq17 ?Nq17 ?_; (case hq17 => rfl); (case Fq17 => k_asm); (case Nq17 => k_asm)); intro _ _ _ F' N'; (try k_sweep)))
  k_with "MINE subD" => ((intro q hq; exact List.mem_cons_of_mem _ hq))
  k_with "MINE steps" => (repeat' (first | (k_unfold; (try dsimp only)) | walk1 | (dsimp only; walk1) | (leave1; walk_say "STEP leave1"; try dsimp only) | fail "no step"))
  k_with "M callWith ref" => ((k_here; (with_reducible show wpAny _ _ (callWith _ (Value.ref (OfNat.ofNat _)) _ _ _) _ _ _); k_dflt (refine' callWith_K ?k1q20 ?k2q20 ?_; (case k1q20 => k_asm); (case k2q20 => k_is); k_whole)))
  k_with "M execs cons" => ((k_here; (try dsimp only); with_reducible refine tk_sum ?_; intro tk9; (try (with_reducible rename Fr _ _ _ _ => Fx9; refine fr_let Fx9 ?_; intro mK Fy9; clear Fx9)); (try k_extra "MINE led")))
  k_with "M execs nil" => ((k_here; (try dsimp only); with_reducible refine tk_sum ?_; intro tk9))
  k_with "MINE lt" => (first | assumption | exact And.left (by assumption) | exact And.left (And.right (by assumption)) | exact And.left (And.right (And.right (by assumption))) | exact And.left (And.right (And.right (And.right (by assumption)))) | exact And.left (And.right (And.right (And.right (And.right (by assumption))))) | exact And.left (And.right (And.right (And.right (And.right (And.right (by assumption)))))) | exact And.left (And.right (And.right (And.right (And.right (And.right (And.right (by assumption))))))) | exact And.left (And.right (And.right (And.right (And.right (And.right (And.right (And.right (by assumption)))))))) | exact And.left (And.right (And.right (And.right (And.right (And.right (And.right (And.right (And.right (by assumption))))))))) | exact And.right (by assumption) | exact And.right (And.right (by assumption)) | exact And.right (And.right (And.right (by assumption))) | fail "not seen less")
  k_with "MINE mul" => (first | ((with_reducible refine mulL ?_); decide) | ((with_reducible refine mulR ?_); decide) | ((with_reducible refine' mulRb ?_ ?_); (focus assumption); decide) | ((with_reducible refine' mulLb ?_ ?_); (focus assumption); decide) | ((with_reducible refine mulRm ?_); decide) | ((with_reducible refine mulLm ?_); decide) | fail "not seen small")
  k_with "M binaryOp Mult int int" => ((k_here; k_dflt (refine' PyProof.Rows.mul_int ?_ ?hmq25; rotate_left; (case hmq25 => k_extra "MINE mul"))))
  k_with "M newTuple" => ((k_here; kup_bare; k_dflt (refine' newTupleV ?Fq26 ?Nq26 ?_ ?zq26; (case Fq26 => k_asm); (case Nq26 => k_asm); (case zq26 => kmk_size)); intro D' h' F' N' l1; (try k_lt l1); (try k_sweep)))
  k_with "MINE gotP" => ((intro v9 n9 h9 tk9 F9 N9 hp9; (try dsimp only); (try k_fold)))
  k_with "MINE got" => ((intro v9 n9 h9 tk9 F9 N9 hp9; obtain ⟨hn9, t9, hv9⟩ := hp9; subst hn9 hv9; (try dsimp only); (try k_fold)))
  k_with "MINE got3" => ((intro v9 n9 h9 tk9 F9 N9 hp9; obtain ⟨a9, t9, t9', t9'', hv9, hn9⟩ := hp9; subst hn9 hv9; (try dsimp only); (try k_fold)))
  k_with "M call ref" => ((k_here; (with_reducible show wpAny _ _ (call (Value.ref 90) [Value.int _ _]) _ _ _); k_dflt (refine' Fn.use ?k1 ?k2 ?k3 ?k4 ?k5 ?kK (fn_led _ _ _ _ ) ?kd ?ku ?_; k_extra "MINE use"); k_extra "MINE got"))
  k_with "M call ref" => ((k_here; (with_reducible show wpAny _ _ (call (Value.ref 104) [Value.int _ _]) _ _ _); k_dflt (refine' Fn.use ?k1 ?k2 ?k3 ?k4 ?k5 ?kK (fn_address_of _ _ _ _ ) ?kd ?ku ?_; k_extra "MINE use"); k_extra "MINE got"))
  k_with "M call ref" => ((k_here; (with_reducible show wpAny _ _ (call (Value.ref 230) [Value.int _ _]) _ _ _); k_dflt (refine' Fn.use ?k1 ?k2 ?k3 ?k4 ?k5 ?kK (fn_words_of _ _ _ _ ) ?kd ?ku ?_; k_extra "MINE use"); k_extra "MINE got"))
  k_with "M call ref" => ((k_here; (with_reducible show wpAny _ _ (call (Value.ref 97) [Value.int _ _]) _ _ _); k_dflt (refine' Fn.use ?k1 ?k2 ?k3 ?k4 ?k5 ?kK (fn_word_octets' _ _ _ _ ?c1q33 ?c2q33) ?kd ?ku ?_; k_extra "MINE use"; (case c1q33 => k_extra "MINE num"); (case c2q33 => k_extra "MINE num")); k_extra "MINE got"))
  k_with "M call ref" => ((k_here; (with_reducible show wpAny _ _ (call (Value.ref 237) [Value.bytes _ _, Value.int _ _, Value.int _ _]) _ _ _); k_dflt (refine' Fn.use ?k1 ?k2 ?k3 ?k4 ?k5 ?kK (fn_part_of _ _ _ _ _ _ _ _ ?c1q34 ?c2q34) ?kd ?ku ?_; k_extra "MINE use"; (case c1q34 => k_extra "MINE num"); (case c2q34 => k_extra "MINE num")); k_extra "MINE got"))
  k_with "M call ref" => ((k_here; (with_reducible show wpAny _ _ (call (Value.ref 343) [Value.bytes _ _, Value.int _ _, Value.int _ _]) _ _ _); k_dflt (refine' Fn.use ?k1 ?k2 ?k3 ?k4 ?k5 ?kK (fn_law_part' _ _ _ _ _ _ _ _ ?c1q35 ?c2q35 ?c3q35 ?c4q35) ?kd ?ku ?_; k_extra "MINE use"; (case c1q35 => k_extra "MINE num"); (case c2q35 => k_extra "MINE num"); (case c3q35 => k_extra "MINE num"); (case c4q35 => k_extra "MINE num")); k_extra "MINE got"))
  k_with "M call ref" => ((k_here; (with_reducible show wpAny _ _ (call (Value.ref 343) [Value.bytes _ _, Value.int _ _, Value.int _ _]) _ _ _); k_dflt (refine' Fn.use ?k1 ?k2 ?k3 ?k4 ?k5 ?kK (fn_law_part _ _ _ _ _ _ _ _ ?c1q36 ?c2q36) ?kd ?ku ?_; k_extra "MINE use"; (case c1q36 => k_extra "MINE num"); (case c2q36 => k_extra "MINE num")); k_extra "MINE got"))
  k_with "M call ref" => ((k_here; (with_reducible show wpAny _ _ (call (Value.ref 244) [Value.bytes _ _, Value.int _ _, Value.int _ _]) _ _ _); k_dflt (refine' Fn.use ?k1 ?k2 ?k3 ?k4 ?k5 ?kK (fn_number_at' _ _ _ _ _ _ _ _ ?c1q37 ?c2q37 ?c3q37 ?c4q37) ?kd ?ku ?_; k_extra "MINE use"; (case c1q37 => k_extra "MINE num"); (case c2q37 => k_extra "MINE num"); (case c3q37 => k_extra "MINE num"); (case c4q37 => k_extra "MINE num")); k_extra "MINE got"))
  k_with "M call ref" => ((k_here; (with_reducible show wpAny _ _ (call (Value.ref 244) [Value.bytes _ _, Value.int _ _, Value.int _ _]) _ _ _); k_dflt (refine' Fn.use ?k1 ?k2 ?k3 ?k4 ?k5 ?kK (fn_number_at _ _ _ _ _ _ _ _ ?c1q38 ?c2q38) ?kd ?ku ?_; k_extra "MINE use"; (case c1q38 => k_extra "MINE num"); (case c2q38 => k_extra "MINE num")); k_extra "MINE got"))
  k_with "M call ref" => ((k_here; (with_reducible show wpAny _ _ (call (Value.ref 174) [Value.ref _, Value.int _ _]) _ _ _); k_dflt (refine' Fn.use ?k1 ?k2 ?k3 ?k4 ?k5 ?kK (fn_wide_doubled _ _ _ _ _ _ _ _ _ _ ?c1q39 ?c2q39 ?c3q39 ?c4q39) ?kd ?ku ?_; k_extra "MINE use"; (case c1q39 => k_mem); (case c2q39 => first | assumption | omega); (case c3q39 => first | assumption | omega); (case c4q39 => first | assumption | omega)); k_extra "MINE got3"))
  k_with "M call ref" => ((k_here; (with_reducible show wpAny _ _ (call (Value.ref 181) [Value.ref _, Value.ref _, Value.int _ _]) _ _ _); k_dflt (refine' Fn.use ?k1 ?k2 ?k3 ?k4 ?k5 ?kK (fn_wide_added _ _ _ _ _ _ _ _ _ _ _ _ _ _ _ _ _ ?c1q40 ?c2q40 ?c3q40 ?c4q40 ?c5q40 ?c6q40 ?c7q40 ?c8q40) ?kd ?ku ?_; k_extra "MINE use"; (case c1q40 => k_mem); (case c2q40 => k_mem); (case c3q40 => first | assumption | omega); (case c4q40 => first | assumption | omega); (case c5q40 => first | assumption | omega); (case c6q40 => first | assumption | omega); (case c7q40 => first | assumption | omega); (case c8q40 => first | assumption | omega)); k_extra "MINE got3"))
  k_with "M call ref" => ((k_here; (with_reducible show wpAny _ _ (call (Value.ref 188) [Value.ref _, Value.int _ _]) _ _ _); k_dflt (refine' Fn.use ?k1 ?k2 ?k3 ?k4 ?k5 ?kK (fn_narrowed _ _ _ _ _ _ _ _ _ _ ?c1q41 ?c2q41 ?c3q41 ?c4q41) ?kd ?ku ?_; k_extra "MINE use"; (case c1q41 => k_mem); (case c2q41 => first | assumption | omega); (case c3q41 => first | assumption | omega); (case c4q41 => first | assumption | omega)); k_extra "MINE gotP"))
  k_with "MINE cond" => (first | exact True.intro | ((try dsimp only [cP, cAnd]); (repeat' (first | exact True.intro | refine And.intro ?_ ?_)); all_goals first | k_extra "MINE mul" | mul_fits | decide | omega | assumption))
  k_with "M eval BinOp" => ((k_here; (try dsimp only); k_dflt (refine' pe_int ?Fq43 ?fq43 ?hq43 ?cq43 ?_; (case Fq43 => k_asm); (case fq43 => exact rfl); (case hq43 => exact rfl); (case cq43 => k_extra "MINE cond")); intro t9 tk9; (try dsimp only)))
  k_with "M isTrue Compare" => ((k_here; (try dsimp only); k_dflt (refine' pe_cmp ?Fq44 ?fq44 noOrc_ok ?hq44 ?iq44 ?jq44 ?bq44 ?cq44 ?_; (case Fq44 => k_asm); (case fq44 => exact rfl); (case hq44 => exact rfl); (case iq44 => exact rfl); (case jq44 => exact rfl); (case bq44 => exact rfl); (case cq44 => k_extra "MINE cond")); intro tk9; (try dsimp only)))
  k_with "M eval Tuple" => ((k_here; (try dsimp only); k_dflt (first | (refine' pe_tup2 ?Fq45 ?Nq45 ?fq45 noOrc_ok ?hq45 ?iq45 ?sq45 ?uq45 ?cq45 ?_; (case Fq45 => k_asm); (case Nq45 => k_asm); (case fq45 => exact rfl); (case hq45 => exact rfl); (case iq45 => exact rfl); (case sq45 => exact rfl); (case uq45 => exact rfl); (case cq45 => k_extra "MINE cond"); intro a9 h9 t9 u9 tk9 F9 N9 l9) | (refine' pe_tup3 ?Fq45 ?Nq45 ?fq45 noOrc_ok ?hq45 ?iq45 ?jq45 ?sq45 ?uq45 ?vq45 ?cq45 ?_; (case Fq45 => k_asm); (case Nq45 => k_asm); (case fq45 => exact rfl); (case hq45 => exact rfl); (case iq45 => exact rfl); (case jq45 => exact rfl); (case sq45 => exact rfl); (case uq45 => exact rfl); (case vq45 => exact rfl); (case cq45 => k_extra "MINE cond"); intro a9 h9 t9 u9 v9 tk9 F9 N9 l9)); (have l9c := l9); (try k_lt l9); (try k_sweep); (try dsimp only)))
  k_with "M execs cons" => ((k_here; (with_reducible show wpAny _ _ (execs (Stmt.Assign [Expr.Name _ _] _ _ :: _) _) _ _ _); (try dsimp only); k_dflt (refine' pe_one ?Fq46 ?Nq46 ?fq46 noOrc_ok ?hq46 ?xq46 ?sq46 ?cq46 ?_; (case Fq46 => k_asm); (case Nq46 => k_asm); (case fq46 => exact rfl); (case hq46 => exact rfl); (case xq46 => exact rfl); (case sq46 => with_unfolding_all exact rfl); (case cq46 => k_extra "MINE cond"); intro h9 t9 tk9 F9 N9); (try k_sweep)))
  k_with "M execs cons" => ((k_here; (with_reducible show wpAny _ _ (execs (Stmt.Assign [Expr.Tuple [Expr.Name _ _, Expr.Name _ _] _ _] (Expr.Tuple [_, _] _ _) _ :: _) _) _ _ _); (try dsimp only); k_dflt (refine' pe_two ?Fq47 ?Nq47 ?fq47 noOrc_ok ?kq47 ?hq47 ?iq47 ?xq47 ?yq47 ?sq47 ?wq47 ?uq47 ?vq47 ?cq47 ?_; (case Fq47 => k_asm); (case Nq47 => k_asm); (case fq47 => exact rfl); (case kq47 => exact rfl); (case hq47 => exact rfl); (case iq47 => exact rfl); (case xq47 => exact rfl); (case yq47 => exact rfl); (case sq47 => with_unfolding_all exact rfl); (case wq47 => with_unfolding_all exact rfl); (case uq47 => exact rfl); (case vq47 => exact rfl); (case cq47 => k_extra "MINE cond"); intro h9 t9 u9 tk9 F9 N9); (try k_sweep)))
  k_with "M eval Call" => (k_fold)
  k_with "M eval Tuple" => (k_fold)
  k_with "M eval BinOp" => (k_fold)
  k_with "M eval Subscript" => (k_fold)
  k_with "M eval IfExp" => (k_fold)
  k_with "M isTrue Compare" => (k_fold)
  k_with "M isTrue BoolOp" => (k_fold)
  k_with "M exec If" => (k_fold)
  k_with "M exec Return" => (k_fold)
  k_with "M exec While Compare cons nil" => ((k_here; refine Stop.go ?_))
  k_with "MINE t k_room" => (ktr_room)
  k_with "MINE t k_units" => (ktr_units)
  k_with "MINE t k_mem" => (first | with_reducible assumption | assumption | exact List.Mem.head _ | (refine' List.Mem.tail _ ?_; k_mem))
  k_with "MINE t k_all" => (first | assumption | exact cellNe (by assumption) (by k_extra "MINE sub") | exact List.forall_mem_nil _ | (refine' List.forall_mem_cons.mpr ⟨?aq61, ?bq61⟩; (case aq61 => first | k_ne | assumption); (case bq61 => k_all)))
  k_with "MINE t ktr_room" => (first | (refine' rm2 ?hq62 ?bq62; (case hq62 => assumption); (case bq62 => exact rfl)) | (refine' rm1 ?hq62 ?bq62; (case hq62 => assumption); (case bq62 => exact rfl)) | (refine' rm3 ?hq62 ?bq62; (case hq62 => assumption); (case bq62 => exact rfl)) | exact rm0 (by assumption) | fail "no room")
  k_with "MINE t ktr_units" => (first | (refine' rm2 ?hq63 ?bq63; (case hq63 => assumption); (case bq63 => exact rfl)) | (refine' rm1 ?hq63 ?bq63; (case hq63 => assumption); (case bq63 => exact rfl)) | (refine' rm3 ?hq63 ?bq63; (case hq63 => assumption); (case bq63 => exact rfl)) | exact rm0 (by assumption) | fail "no room")
  k_with "MINE t k_ne" => (with_reducible (first | assumption | exact Nat.ne_of_lt (by k_extra "MINE lt") | exact Nat.ne_of_gt (by k_extra "MINE lt") | exact Ne.symm (by assumption) | k_extra "MINE lt" | exact Ne.symm (by k_extra "MINE lt") | fail "not seen unlike"))
  trivial
theorem fn_times (w : World) (news : Led) (cu pa : Addr) (n x y : Int) (tn tx ty : Tok) (hc : CurveAt w.params news cu) (hm : (pa, tup2O x tx y ty) ∈ news) (px : 0 ≤ x ∧ x < 67) (py : 0 ≤ y ∧ y < 67) :
    Fn w 30 120 153 news [.ref cu, .int n tn, .ref pa] (fun v news' => PtBack news v news' (tiM (n % 79).toNat x y)) := by
  have hc' := hc
  obtain ⟨cd, g, t1, t2, t3, t4, t5, t6, t7, t8, t9, hc1, hc2, hc3⟩ := hc'
  (unfold Fn; k_fill; intro pg loose mean mg mb dp un gd cn cs a ccd cl outer A₀ base h₀ L m hp₀ gs₀ dr₀ tk₀ os₀ Q E B F X N T hk hd hu hret; refine wpAny_call ?_; k_dflt ktr_enter; refine wp_let ?_; intro Ak)
  k_steps
  delta Stop
  rename Fr _ _ _ _ => lF
  rename News _ _ _ _ => lN
  have e : n.fmod 79 = ((n % 79).toNat : Int) := by rw [fm (by decide)]; omega
  try dsimp +zetaDelta only at lF
  rw [e] at lF
  refine' ksw_while (tiLed news) tiPs (fun _ => True) [] (tiP (n % 79).toNat x y) TiS.k ⟨(n % 79).toNat, _, _, (1, 1, 0), _, _, _, _, (x, y, 1), _, _, _⟩ lF ?kn trivial ?kk ?kp ?_
  case kk => kst_all
  case kn =>
    refine' cb_drop lN (List.forall_mem_cons.mpr ⟨?m1, List.forall_mem_cons.mpr ⟨?m2, ?m3⟩⟩)
    case m1 => k_mem
    case m2 => k_mem
    case m3 => k_extra "MINE sub"
  case kp => exact tiP_start px py (by omega)
  intro c u1 h1 tk1 _ hP lF lN
  have hP' := hP
  obtain ⟨⟨q1, q2, q3⟩, ⟨r1, r2, r3⟩, _⟩ := hP'
  try k_fold
  k_steps
  all_goals have hb := bit1 c.k
  · rename Fr _ _ _ _ => lF2
    try dsimp +zetaDelta only at lF2
    rw [shr1] at lF2
    refine' ksw_end (⟨c.k / 2, _, _, waM c.t.1 c.t.2.1 c.t.2.2 c.h.1 c.h.2.1 c.h.2.2, _, _, _, _, wdM c.h.1 c.h.2.1 c.h.2.2, _, _, _⟩ : TiS) lF2 (by assumption) ?hn trivial ?hk ?hr (tiP_odd hP (by omega) (by omega)) ?hm
    case hk => kst_all
    case hr => intro z h2 h3; simp only [List.forall_mem_cons, List.not_mem_nil, false_implies, implies_true, and_true, ne_eq] at h2; obtain ⟨e1, e2, e3⟩ := h2; simp only [if_neg e1, if_neg e2, if_neg e3, kstB, List.contains_nil, Bool.false_eq_true, if_false]
    case hn => refine' List.forall_mem_cons.mpr ⟨?m1, List.forall_mem_cons.mpr ⟨?m2, ?m3⟩⟩; (case m1 => k_mem); (case m2 => k_mem); (case m3 => k_extra "MINE sub")
    case hm => show c.k / 2 < c.k; omega
  · rename Fr _ _ _ _ => lF2
    try dsimp +zetaDelta only at lF2
    rw [shr1] at lF2
    refine' ksw_end (⟨c.k / 2, _, c.a, c.t, c.t1, c.t2, c.t3, _, wdM c.h.1 c.h.2.1 c.h.2.2, _, _, _⟩ : TiS) lF2 (by assumption) ?hn trivial ?hk ?hr (tiP_even hP (by omega) (by omega)) ?hm
    case hk => kst_all
    case hr => intro z h2 h3; simp only [List.forall_mem_cons, List.not_mem_nil, false_implies, implies_true, and_true, ne_eq] at h2; obtain ⟨e1, e2, e3⟩ := h2; simp only [if_neg e1, if_neg e2, if_neg e3, kstB, List.contains_nil, Bool.false_eq_true, if_false]
    case hn => refine' List.forall_mem_cons.mpr ⟨?m1, List.forall_mem_cons.mpr ⟨?m2, ?m3⟩⟩; (case m1 => k_mem); (case m2 => k_mem); (case m3 => k_extra "MINE sub")
    case hm => show c.k / 2 < c.k; omega
  · obtain ⟨n3, g1, g2⟩ := ptTi (news := news) (by assumption) hP (by assumption) (by k_extra "MINE sub")
    exact hret _ _ _ _ (by k_asm) (cb_drop (by k_asm) g1) g2
theorem lines_C12 : True := by
  w_top off
  k_with_none
  k_with "MINE len" => (((try simp only [List.length_append, List.length_take, List.length_drop, List.length_replicate, List.length_cons, List.length_nil, cutL_length, beL_length, leL_length, partL_length, KBa_byteArr_length, List.length_map, rangeKs_length] at *); omega))
  k_with "MINE num" => (first | omega | assumption | (simp only [Int.reduceToNat, Int.reducePow, Int.reduceMul, Int.fmod_eq_emod_of_nonneg, Int.reduceLE]; omega) | k_extra "MINE len")
  k_with "M call type:bytes" => ((k_here; (with_reducible show wpAny _ _ (call (Value.type "bytes") [Value.int _ _]) _ _ _); refine' bz_call ?h0q2 ?hNq2 ?_; (case h0q2 => k_extra "MINE num"); (case hNq2 => k_extra "MINE num"); intro _ _))
  k_with "M call builtin:len" => ((k_here; (with_reducible show wpAny _ _ (call (Value.builtin "len") [Value.bytes (List.toArray _) _]) _ _ _); refine' len_L ?h0q3 ?_; (case h0q3 => k_extra "MINE num"); intro _ _))
  k_with "M binaryOp Add bytes bytes" => ((k_here; (with_reducible show wpAny _ _ (binaryOp Operator.Add (Value.bytes (List.toArray _) _) (Value.bytes (List.toArray _) _)) _ _ _); refine' add_L ?h0q4 ?_; (case h0q4 => k_extra "MINE num"); intro _ _))
  k_with "M call ref" => ((k_here; (with_reducible show wpAny _ _ (call (Value.ref _) [Value.bytes (List.toArray _) _, Value.str _ _]) _ _ _); kfb_any; k_dflt (refine' from_big ?h1q5 ?h2q5 ?h3q5 ?_; (case h1q5 => k_asm); (case h2q5 => k_mem); (case h3q5 => k_extra "MINE num")); intro _ _))
  k_with "M subscriptTail" => ((k_here; (with_reducible show wpAny _ _ (subscriptTail _ (Expr.Slice _ _ none _) (Value.bytes (List.toArray _) _) (Value.ref _)) _ _ _); (with_reducible rename Fr _ _ _ _ => F'); (with_reducible rename News _ _ _ _ => N'); (first | (refine' slice_ab (s := ⟨_, _, _, _, _⟩) F' N' ?aq6 ?bq6 ?zq6 ?_; (case aq6 => k_extra "MINE num"); (case bq6 => k_extra "MINE num"); (case zq6 => k_extra "MINE num")) | (refine' slice_to (s := ⟨_, _, _, _, _⟩) F' N' ?bq6 ?zq6 ?_; (case bq6 => k_extra "MINE num"); (case zq6 => k_extra "MINE num")) | (refine' slice_from (s := ⟨_, _, _, _, _⟩) F' N' ?aq6 ?zq6 ?_; (case aq6 => k_extra "MINE num"); (case zq6 => k_extra "MINE num"))); intro _ _ _ F' N'))
  k_with "M call builtin:int.to_bytes" => ((k_here; (with_reducible show wpAny _ _ (call (Value.builtin "int.to_bytes") [Value.int _ _, Value.int _ _, Value.str _ _]) _ _ _); (first | (refine' to_bigI ?aq7 ?cq7 ?bq7 ?dq7 ?_; (case aq7 => k_extra "MINE num"); (case cq7 => k_extra "MINE num"); (case bq7 => k_extra "MINE num"); (case dq7 => k_extra "MINE fits")) | (refine' to_littleI ?aq7 ?cq7 ?bq7 ?dq7 ?_; (case aq7 => k_extra "MINE num"); (case cq7 => k_extra "MINE num"); (case bq7 => k_extra "MINE num"); (case dq7 => k_extra "MINE fits"))); intro _ _))
  k_with "MINE fits" => (first | assumption | exact fits_num (by assumption) | (simp only [Int.reduceToNat, Nat.reducePow]; omega) | (simp only [Int.reduceToNat, Nat.reducePow, Int.reducePow, Int.reduceMul, Int.fmod_eq_emod_of_nonneg, Int.reduceLE]; omega))
  k_with "MINE enter" => ((unfold Fn; k_fill; intro p loose mean mg mb dp un gd cn cs a ccd cl outer A₀ base h₀ L m hp₀ gs₀ dr₀ tk₀ os₀ Q E B F X N T hk hd hu hret; refine wpAny_call ?_; k_dflt ktr_enter))
  k_with "MINE use" => (((case k1 => k_asm); (case k2 => k_asm); (case k3 => k_asm); (case k4 => k_asm); (case k5 => k_asm); (case kK => first | exact rfl | assumption); (case kd => ktr_room); (case ku => ktr_units)))
  k_with "M call builtin:pow" => ((k_here; (with_reducible show wpAny _ _ (call (Value.builtin "pow") [Value.int _ _, Value.int _ _, Value.int _ _]) _ _ _); refine' pow3I ?aq11 ?bq11 ?_; (case aq11 => first | decide | k_extra "MINE num"); (case bq11 => first | decide | k_extra "MINE num"); intro _ _ _))
  k_with "MINE sub" => (first | (intro q hq; exact hq) | ((with_reducible refine' List.forall_mem_cons.mpr ⟨?aq12, ?bq12⟩); (case aq12 => k_mem); (case bq12 => k_extra "MINE sub")) | (intro q hq; (repeat (first | exact hq | refine List.mem_cons_of_mem _ ?_))))
  k_with "M call type:bytes" => ((k_here; (with_reducible show wpAny _ _ (call (Value.type "bytes") [Value.bytes _ _]) _ _ _); refine bb_call ?_))
  k_with "MINE pick" => ((repeat (first | exact Pick.head | apply Pick.tail)))
  k_with "M call builtin:max" => ((k_here; (with_reducible show wpAny _ _ (call (Value.builtin "max") [Value.int _ _, Value.int _ _]) _ _ _); k_dflt (refine' maxI ?hq15 ?Fq15 ?Nq15 ?_; (case hq15 => rfl); (case Fq15 => k_asm); (case Nq15 => k_asm)); intro _ _ _ F' N'; (try k_sweep)))
  k_with "M call builtin:min" => ((k_here; (with_reducible show wpAny _ _ (call (Value.builtin "min") [Value.int _ _, Value.int _ _]) _ _ _); k_dflt (refine' minI ?hq16 ?Fq16 ?Nq16 ?_; (case hq16 => rfl); (case Fq16 => k_asm); (case Nq16 => k_asm)); intro _ _ _ F' N'; (try k_sweep)))
  k_with "M call builtin:max" => ((k_here; (with_reducible show wpAny _ _ (call (Value.builtin "max") [Value.int _ _, Value.int _ _, Value.int _ _]) _ _ _); k_dflt (refine' max3I ?hq17 ?Fq17 ?Nq17 ?_; (case hq17 => rfl); (case Fq17 => k_asm); (case Nq17 => k_asm)); intro _ _ _ F' N'; (try k_sweep)))
  k_with "MINE subD" => ((intro q hq; exact List.mem_cons_of_mem _ hq))
  k_with "MINE steps" => (repeat' (first | (k_unfold; (try dsimp only)) | walk1 | (dsimp only; walk1) | (leave1; walk_say "STEP leave1"; try dsimp only) | fail "no step"))
  k_with "M callWith ref" => ((k_here; (with_reducible show wpAny _ _ (callWith _ (Value.ref (OfNat.ofNat _)) _ _ _) _ _ _); k_dflt (refine' callWith_K ?k1q20 ?k2q20 ?_; (case k1q20 => k_asm); (case k2q20 => k_is); k_whole)))
  k_with "M execs cons" => ((k_here; (try dsimp only); with_reducible refine tk_sum ?_; intro tk9; (try (with_reducible rename Fr _ _ _ _ => Fx9; refine fr_let Fx9 ?_; intro mK Fy9; clear Fx9)); (try k_extra "MINE led")))
  k_with "M execs nil" => ((k_here; (try dsimp only); with_reducible refine tk_sum ?_; intro tk9))
  k_with "MINE lt" => (first | assumption | exact And.left (by assumption) | exact And.left (And.right (by assumption)) | exact And.left (And.right (And.right (by assumption))) | exact And.left (And.right (And.right (And.right (by assumption)))) | exact And.left (And.right (And.right (And.right (And.right (by assumption))))) | exact And.left (And.right (And.right (And.right (And.right (And.right (by assumption)))))) | exact And.left (And.right (And.right (And.right (And.right (And.right (And.right (by assumption))))))) | exact And.left (And.right (And.right (And.right (And.right (And.right (And.right (And.right (by assumption)))))))) | exact And.left (And.right (And.right (And.right (And.right (And.right (And.right (And.right (And.right (by assumption))))))))) | exact And.right (by assumption) | exact And.right (And.right (by assumption)) | exact And.right (And.right (And.right (by assumption))) | fail "not seen less")
  k_with "MINE mul" => (first | ((with_reducible refine mulL ?_); decide) | ((with_reducible refine mulR ?_); decide) | ((with_reducible refine' mulRb ?_ ?_); (focus assumption); decide) | ((with_reducible refine' mulLb ?_ ?_); (focus assumption); decide) | ((with_reducible refine mulRm ?_); decide) | ((with_reducible refine mulLm ?_); decide) | fail "not seen small")
  k_with "M binaryOp Mult int int" => ((k_here; k_dflt (refine' PyProof.Rows.mul_int ?_ ?hmq25; rotate_left; (case hmq25 => k_extra "MINE mul"))))
  k_with "M newTuple" => ((k_here; kup_bare; k_dflt (refine' newTupleV ?Fq26 ?Nq26 ?_ ?zq26; (case Fq26 => k_asm); (case Nq26 => k_asm); (case zq26 => kmk_size)); intro D' h' F' N' l1; (try k_lt l1); (try k_sweep)))
  k_with "MINE gotL" => ((intro v9 n9 h9 tk9 F9 N9 hp9; rcases PtBack.cases hp9 with ⟨er9, hv9, hn9⟩ | ⟨x9, y9, a9, t9, t9', er9, hv9, hn9⟩; all_goals (clear hp9; subst hv9 hn9; (try (have hr9 := liM_in er9; obtain ⟨hr9x, hr9y⟩ := hr9)); (try dsimp only); (try k_fold))))
  k_with "MINE gotT" => ((intro v9 n9 h9 tk9 F9 N9 hp9; rcases PtBack.cases hp9 with ⟨er9, hv9, hn9⟩ | ⟨x9, y9, a9, t9, t9', er9, hv9, hn9⟩; all_goals (clear hp9; subst hv9 hn9; (try (have hr9 := tiM_in er9; obtain ⟨hr9x, hr9y⟩ := hr9)); (try dsimp only); (try k_fold))))
  k_with "MINE gotP" => ((intro v9 n9 h9 tk9 F9 N9 hp9; (try dsimp only); (try k_fold)))
  k_with "MINE got" => ((intro v9 n9 h9 tk9 F9 N9 hp9; obtain ⟨hn9, t9, hv9⟩ := hp9; subst hn9 hv9; (try dsimp only); (try k_fold)))
  k_with "MINE got3" => ((intro v9 n9 h9 tk9 F9 N9 hp9; obtain ⟨a9, t9, t9', t9'', hv9, hn9⟩ := hp9; subst hn9 hv9; (try dsimp only); (try k_fold)))
  k_with "M call ref" => ((k_here; (with_reducible show wpAny _ _ (call (Value.ref 90) [Value.int _ _]) _ _ _); k_dflt (refine' Fn.use ?k1 ?k2 ?k3 ?k4 ?k5 ?kK (fn_led _ _ _ _ ) ?kd ?ku ?_; k_extra "MINE use"); k_extra "MINE got"))
  k_with "M call ref" => ((k_here; (with_reducible show wpAny _ _ (call (Value.ref 104) [Value.int _ _]) _ _ _); k_dflt (refine' Fn.use ?k1 ?k2 ?k3 ?k4 ?k5 ?kK (fn_address_of _ _ _ _ ) ?kd ?ku ?_; k_extra "MINE use"); k_extra "MINE got"))
  k_with "M call ref" => ((k_here; (with_reducible show wpAny _ _ (call (Value.ref 230) [Value.int _ _]) _ _ _); k_dflt (refine' Fn.use ?k1 ?k2 ?k3 ?k4 ?k5 ?kK (fn_words_of _ _ _ _ ) ?kd ?ku ?_; k_extra "MINE use"); k_extra "MINE got"))
  k_with "M call ref" => ((k_here; (with_reducible show wpAny _ _ (call (Value.ref 97) [Value.int _ _]) _ _ _); k_dflt (refine' Fn.use ?k1 ?k2 ?k3 ?k4 ?k5 ?kK (fn_word_octets' _ _ _ _ ?c1q35 ?c2q35) ?kd ?ku ?_; k_extra "MINE use"; (case c1q35 => k_extra "MINE num"); (case c2q35 => k_extra "MINE num")); k_extra "MINE got"))
  k_with "M call ref" => ((k_here; (with_reducible show wpAny _ _ (call (Value.ref 237) [Value.bytes _ _, Value.int _ _, Value.int _ _]) _ _ _); k_dflt (refine' Fn.use ?k1 ?k2 ?k3 ?k4 ?k5 ?kK (fn_part_of _ _ _ _ _ _ _ _ ?c1q36 ?c2q36) ?kd ?ku ?_; k_extra "MINE use"; (case c1q36 => k_extra "MINE num"); (case c2q36 => k_extra "MINE num")); k_extra "MINE got"))
  k_with "M call ref" => ((k_here; (with_reducible show wpAny _ _ (call (Value.ref 343) [Value.bytes _ _, Value.int _ _, Value.int _ _]) _ _ _); k_dflt (refine' Fn.use ?k1 ?k2 ?k3 ?k4 ?k5 ?kK (fn_law_part' _ _ _ _ _ _ _ _ ?c1q37 ?c2q37 ?c3q37 ?c4q37) ?kd ?ku ?_; k_extra "MINE use"; (case c1q37 => k_extra "MINE num"); (case c2q37 => k_extra "MINE num"); (case c3q37 => k_extra "MINE num"); (case c4q37 => k_extra "MINE num")); k_extra "MINE got"))
  k_with "M call ref" => ((k_here; (with_reducible show wpAny _ _ (call (Value.ref 343) [Value.bytes _ _, Value.int _ _, Value.int _ _]) _ _ _); k_dflt (refine' Fn.use ?k1 ?k2 ?k3 ?k4 ?k5 ?kK (fn_law_part _ _ _ _ _ _ _ _ ?c1q38 ?c2q38) ?kd ?ku ?_; k_extra "MINE use"; (case c1q38 => k_extra "MINE num"); (case c2q38 => k_extra "MINE num")); k_extra "MINE got"))
  k_with "M call ref" => ((k_here; (with_reducible show wpAny _ _ (call (Value.ref 244) [Value.bytes _ _, Value.int _ _, Value.int _ _]) _ _ _); k_dflt (refine' Fn.use ?k1 ?k2 ?k3 ?k4 ?k5 ?kK (fn_number_at' _ _ _ _ _ _ _ _ ?c1q39 ?c2q39 ?c3q39 ?c4q39) ?kd ?ku ?_; k_extra "MINE use"; (case c1q39 => k_extra "MINE num"); (case c2q39 => k_extra "MINE num"); (case c3q39 => k_extra "MINE num"); (case c4q39 => k_extra "MINE num")); k_extra "MINE got"))
  k_with "M call ref" => ((k_here; (with_reducible show wpAny _ _ (call (Value.ref 244) [Value.bytes _ _, Value.int _ _, Value.int _ _]) _ _ _); k_dflt (refine' Fn.use ?k1 ?k2 ?k3 ?k4 ?k5 ?kK (fn_number_at _ _ _ _ _ _ _ _ ?c1q40 ?c2q40) ?kd ?ku ?_; k_extra "MINE use"; (case c1q40 => k_extra "MINE num"); (case c2q40 => k_extra "MINE num")); k_extra "MINE got"))
  k_with "M call ref" => ((k_here; (with_reducible show wpAny _ _ (call (Value.ref 174) [Value.ref _, Value.int _ _]) _ _ _); k_dflt (refine' Fn.use ?k1 ?k2 ?k3 ?k4 ?k5 ?kK (fn_wide_doubled _ _ _ _ _ _ _ _ _ _ ?c1q41 ?c2q41 ?c3q41 ?c4q41) ?kd ?ku ?_; k_extra "MINE use"; (case c1q41 => k_mem); (case c2q41 => first | assumption | omega); (case c3q41 => first | assumption | omega); (case c4q41 => first | assumption | omega)); k_extra "MINE got3"))
  k_with "M call ref" => ((k_here; (with_reducible show wpAny _ _ (call (Value.ref 181) [Value.ref _, Value.ref _, Value.int _ _]) _ _ _); k_dflt (refine' Fn.use ?k1 ?k2 ?k3 ?k4 ?k5 ?kK (fn_wide_added _ _ _ _ _ _ _ _ _ _ _ _ _ _ _ _ _ ?c1q42 ?c2q42 ?c3q42 ?c4q42 ?c5q42 ?c6q42 ?c7q42 ?c8q42) ?kd ?ku ?_; k_extra "MINE use"; (case c1q42 => k_mem); (case c2q42 => k_mem); (case c3q42 => first | assumption | omega); (case c4q42 => first | assumption | omega); (case c5q42 => first | assumption | omega); (case c6q42 => first | assumption | omega); (case c7q42 => first | assumption | omega); (case c8q42 => first | assumption | omega)); k_extra "MINE got3"))
  k_with "M call ref" => ((k_here; (with_reducible show wpAny _ _ (call (Value.ref 188) [Value.ref _, Value.int _ _]) _ _ _); k_dflt (refine' Fn.use ?k1 ?k2 ?k3 ?k4 ?k5 ?kK (fn_narrowed _ _ _ _ _ _ _ _ _ _ ?c1q43 ?c2q43 ?c3q43 ?c4q43) ?kd ?ku ?_; k_extra "MINE use"; (case c1q43 => k_mem); (case c2q43 => first | assumption | omega); (case c3q43 => first | assumption | omega); (case c4q43 => first | assumption | omega)); k_extra "MINE gotP"))
  k_with "M call ref" => ((k_here; (with_reducible show wpAny _ _ (call (Value.ref 139) [Value.ref _, Value.ref _]) _ _ _); k_dflt (refine' Fn.use ?k1 ?k2 ?k3 ?k4 ?k5 ?kK (fn_doubled _ _ _ _ _ _ _ _ ?c1q44 ?c2q44 ?c3q44 ?c4q44) ?kd ?ku ?_; k_extra "MINE use"; (case c1q44 => first | assumption | exact CurveAt.more (by assumption) (by k_extra "MINE sub") | exact CurveAt.more (SetAt.cur (by assumption)) (by k_extra "MINE sub")); (case c2q44 => k_mem); (case c3q44 => first | assumption | omega); (case c4q44 => first | assumption | omega)); k_extra "MINE gotP"))
  k_with "M call ref" => ((k_here; (with_reducible show wpAny _ _ (call (Value.ref 160) [Value.ref _, Value.int _ _, Value.int _ _]) _ _ _); k_dflt (refine' Fn.use ?k1 ?k2 ?k3 ?k4 ?k5 ?kK (fn_lifted _ _ _ _ _ _ _ ?c1q45 ?c2q45 ?c3q45) ?kd ?ku ?_; k_extra "MINE use"; (case c1q45 => first | assumption | exact CurveAt.more (by assumption) (by k_extra "MINE sub") | exact CurveAt.more (SetAt.cur (by assumption)) (by k_extra "MINE sub")); (case c2q45 => first | assumption | omega); (case c3q45 => first | assumption | omega)); k_extra "MINE gotL"))
  k_with "M call ref" => ((k_here; (with_reducible show wpAny _ _ (call (Value.ref 146) [Value.ref _, _, _]) _ _ _); k_dflt (refine' Fn.use ?k1 ?k2 ?k3 ?k4 ?k5 ?kK (fn_added _ _ _ _ _ _ _ ?c1q46 ?c2q46 ?c3q46) ?kd ?ku ?_; k_extra "MINE use"; (case c1q46 => first | assumption | exact CurveAt.more (by assumption) (by k_extra "MINE sub") | exact CurveAt.more (SetAt.cur (by assumption)) (by k_extra "MINE sub")); (case c2q46 => first | exact PtAt.none | (refine' PtAt.some ?mq46 ?_ ?_; (case mq46 => k_mem); all_goals first | assumption | omega)); (case c3q46 => first | exact PtAt.none | (refine' PtAt.some ?mq46 ?_ ?_; (case mq46 => k_mem); all_goals first | assumption | omega))); k_extra "MINE gotP"))
  k_with "M call ref" => ((k_here; (with_reducible show wpAny _ _ (call (Value.ref 153) [Value.ref _, Value.int _ _, Value.ref _]) _ _ _); k_dflt (refine' Fn.use ?k1 ?k2 ?k3 ?k4 ?k5 ?kK (fn_times _ _ _ _ _ _ _ _ _ _ ?c1q47 ?c2q47 ?c3q47 ?c4q47) ?kd ?ku ?_; k_extra "MINE use"; (case c1q47 => first | assumption | exact CurveAt.more (by assumption) (by k_extra "MINE sub") | exact CurveAt.more (SetAt.cur (by assumption)) (by k_extra "MINE sub")); (case c2q47 => k_mem); (case c3q47 => first | assumption | omega); (case c4q47 => first | assumption | omega)); k_extra "MINE gotT"))
  k_with "MINE cond" => (first | exact True.intro | ((try dsimp only [cP, cAnd]); (repeat' (first | exact True.intro | refine And.intro ?_ ?_)); all_goals first | k_extra "MINE mul" | mul_fits | decide | omega | assumption))
  k_with "M eval BinOp" => ((k_here; (try dsimp only); k_dflt (refine' pe_int ?Fq49 ?fq49 ?hq49 ?cq49 ?_; (case Fq49 => k_asm); (case fq49 => exact rfl); (case hq49 => exact rfl); (case cq49 => k_extra "MINE cond")); intro t9 tk9; (try dsimp only)))
  k_with "M isTrue Compare" => ((k_here; (try dsimp only); k_dflt (refine' pe_cmp ?Fq50 ?fq50 noOrc_ok ?hq50 ?iq50 ?jq50 ?bq50 ?cq50 ?_; (case Fq50 => k_asm); (case fq50 => exact rfl); (case hq50 => exact rfl); (case iq50 => exact rfl); (case jq50 => exact rfl); (case bq50 => exact rfl); (case cq50 => k_extra "MINE cond")); intro tk9; (try dsimp only)))
  k_with "M eval Tuple" => ((k_here; (try dsimp only); k_dflt (first | (refine' pe_tup2 ?Fq51 ?Nq51 ?fq51 noOrc_ok ?hq51 ?iq51 ?sq51 ?uq51 ?cq51 ?_; (case Fq51 => k_asm); (case Nq51 => k_asm); (case fq51 => exact rfl); (case hq51 => exact rfl); (case iq51 => exact rfl); (case sq51 => exact rfl); (case uq51 => exact rfl); (case cq51 => k_extra "MINE cond"); intro a9 h9 t9 u9 tk9 F9 N9 l9) | (refine' pe_tup3 ?Fq51 ?Nq51 ?fq51 noOrc_ok ?hq51 ?iq51 ?jq51 ?sq51 ?uq51 ?vq51 ?cq51 ?_; (case Fq51 => k_asm); (case Nq51 => k_asm); (case fq51 => exact rfl); (case hq51 => exact rfl); (case iq51 => exact rfl); (case jq51 => exact rfl); (case sq51 => exact rfl); (case uq51 => exact rfl); (case vq51 => exact rfl); (case cq51 => k_extra "MINE cond"); intro a9 h9 t9 u9 v9 tk9 F9 N9 l9)); (have l9c := l9); (try k_lt l9); (try k_sweep); (try dsimp only)))
  k_with "M execs cons" => ((k_here; (with_reducible show wpAny _ _ (execs (Stmt.Assign [Expr.Name _ _] _ _ :: _) _) _ _ _); (try dsimp only); k_dflt (refine' pe_one ?Fq52 ?Nq52 ?fq52 noOrc_ok ?hq52 ?xq52 ?sq52 ?cq52 ?_; (case Fq52 => k_asm); (case Nq52 => k_asm); (case fq52 => exact rfl); (case hq52 => exact rfl); (case xq52 => exact rfl); (case sq52 => with_unfolding_all exact rfl); (case cq52 => k_extra "MINE cond"); intro h9 t9 tk9 F9 N9); (try k_sweep)))
  k_with "M execs cons" => ((k_here; (with_reducible show wpAny _ _ (execs (Stmt.Assign [Expr.Tuple [Expr.Name _ _, Expr.Name _ _] _ _] (Expr.Tuple [_, _] _ _) _ :: _) _) _ _ _); (try dsimp only); k_dflt (refine' pe_two ?Fq53 ?Nq53 ?fq53 noOrc_ok ?kq53 ?hq53 ?iq53 ?xq53 ?yq53 ?sq53 ?wq53 ?uq53 ?vq53 ?cq53 ?_; (case Fq53 => k_asm); (case Nq53 => k_asm); (case fq53 => exact rfl); (case kq53 => exact rfl); (case hq53 => exact rfl); (case iq53 => exact rfl); (case xq53 => exact rfl); (case yq53 => exact rfl); (case sq53 => with_unfolding_all exact rfl); (case wq53 => with_unfolding_all exact rfl); (case uq53 => exact rfl); (case vq53 => exact rfl); (case cq53 => k_extra "MINE cond"); intro h9 t9 u9 tk9 F9 N9); (try k_sweep)))
  k_with "M eval Call" => (k_fold)
  k_with "M eval Tuple" => (k_fold)
  k_with "M eval BinOp" => (k_fold)
  k_with "M eval Subscript" => (k_fold)
  k_with "M eval IfExp" => (k_fold)
  k_with "M isTrue Compare" => (k_fold)
  k_with "M isTrue BoolOp" => (k_fold)
  k_with "M exec If" => (k_fold)
  k_with "M exec Return" => (k_fold)
  k_with "MINE t k_room" => (ktr_room)
  k_with "MINE t k_units" => (ktr_units)
  k_with "MINE t k_mem" => (first | with_reducible assumption | assumption | exact List.Mem.head _ | (refine' List.Mem.tail _ ?_; k_mem))
  k_with "MINE t k_all" => (first | assumption | exact cellNe (by assumption) (by k_extra "MINE sub") | exact List.forall_mem_nil _ | (refine' List.forall_mem_cons.mpr ⟨?aq66, ?bq66⟩; (case aq66 => first | k_ne | assumption); (case bq66 => k_all)))
  k_with "MINE t ktr_room" => (first | (refine' rm2 ?hq67 ?bq67; (case hq67 => assumption); (case bq67 => exact rfl)) | (refine' rm1 ?hq67 ?bq67; (case hq67 => assumption); (case bq67 => exact rfl)) | (refine' rm3 ?hq67 ?bq67; (case hq67 => assumption); (case bq67 => exact rfl)) | exact rm0 (by assumption) | fail "no room")
  k_with "MINE t ktr_units" => (first | (refine' rm2 ?hq68 ?bq68; (case hq68 => assumption); (case bq68 => exact rfl)) | (refine' rm1 ?hq68 ?bq68; (case hq68 => assumption); (case bq68 => exact rfl)) | (refine' rm3 ?hq68 ?bq68; (case hq68 => assumption); (case bq68 => exact rfl)) | exact rm0 (by assumption) | fail "no room")
  k_with "MINE t k_ne" => (with_reducible (first | assumption | exact Nat.ne_of_lt (by k_extra "MINE lt") | exact Nat.ne_of_gt (by k_extra "MINE lt") | exact Ne.symm (by assumption) | k_extra "MINE lt" | exact Ne.symm (by k_extra "MINE lt") | fail "not seen unlike"))
  trivial
theorem fn_recovered (w : World) (news : Led) (cu : Addr) (word : Nat) (par r y : Int) (t1 t2 t3 t4 : Tok) (hc : CurveAt w.params news cu) (hw : word < 115792089237316195423570985008687907853269984665640564039457584007913129639936) (hp : par = 0 ∨ par = 1) (h0r : 0 ≤ r) (h0y : 0 ≤ y) :
    Fn w 40 160 195 news [.ref cu, .int (word : Int) t1, .int par t2, .int r t3, .int y t4] (fun v news' => PtBack news v news' (reM word par r y)) := by
  have hc' := hc
  obtain ⟨cd, g, k1, k2, k3, k4, k5, k6, k7, k8, k9, hc1, hc2, hc3⟩ := hc'
  (unfold Fn; k_fill; intro pg loose mean mg mb dp un gd cn cs a ccd cl outer A₀ base h₀ L m hp₀ gs₀ dr₀ tk₀ os₀ Q E B F X N T hk hd hu hret; refine wpAny_call ?_; k_dflt ktr_enter; refine wp_let ?_; intro Ak)
  k_steps
  all_goals (try (rename PtBack _ _ _ _ => hx; refine Stop.go ?_))
  all_goals first
    | (refine hret _ news _ _ (by k_asm) (by refine cb_drop (by k_asm) ?_; intro q hq; repeat (first | exact hq | refine List.mem_cons_of_mem _ ?_)) ?_; exact ptNone (reM_none (by assumption)))
    | (exfalso; exact parOk hp (by assumption))
    | (refine hret _ news _ _ (by k_asm) (by refine cb_drop (by k_asm) ?_; intro q hq; repeat (first | exact hq | refine List.mem_cons_of_mem _ ?_)) ?_; exact ptNone (reM_out (by omega)))
    | skip
  all_goals delta Stop
  all_goals rename PtBack _ _ _ _ => hx
  all_goals obtain ⟨n3, g1, g2⟩ := ptRe (news := news) (word := word) (par := par) (r := r) (s := y) hx (by k_extra "MINE sub") (by assumption) (by assumption) (by assumption) (by assumption) (by assumption) (by assumption) (by assumption)
  all_goals exact hret _ _ _ _ (by k_asm) (cb_drop (by k_asm) g1) g2
theorem lines_C17 : True := by
  w_top off
  k_with_none
  k_with "MINE len" => (((try simp only [List.length_append, List.length_take, List.length_drop, List.length_replicate, List.length_cons, List.length_nil, cutL_length, beL_length, leL_length, partL_length, KBa_byteArr_length, List.length_map, rangeKs_length] at *); omega))
  k_with "MINE num" => (first | omega | assumption | (simp only [Int.reduceToNat, Int.reducePow, Int.reduceMul, Int.fmod_eq_emod_of_nonneg, Int.reduceLE]; omega) | k_extra "MINE len")
  k_with "M call type:bytes" => ((k_here; (with_reducible show wpAny _ _ (call (Value.type "bytes") [Value.int _ _]) _ _ _); refine' bz_call ?h0q2 ?hNq2 ?_; (case h0q2 => k_extra "MINE num"); (case hNq2 => k_extra "MINE num"); intro _ _))
  k_with "M call builtin:len" => ((k_here; (with_reducible show wpAny _ _ (call (Value.builtin "len") [Value.bytes (List.toArray _) _]) _ _ _); refine' len_L ?h0q3 ?_; (case h0q3 => k_extra "MINE num"); intro _ _))
  k_with "M binaryOp Add bytes bytes" => ((k_here; (with_reducible show wpAny _ _ (binaryOp Operator.Add (Value.bytes (List.toArray _) _) (Value.bytes (List.toArray _) _)) _ _ _); refine' add_L ?h0q4 ?_; (case h0q4 => k_extra "MINE num"); intro _ _))
  k_with "M call ref" => ((k_here; (with_reducible show wpAny _ _ (call (Value.ref _) [Value.bytes (List.toArray _) _, Value.str _ _]) _ _ _); kfb_any; k_dflt (refine' from_big ?h1q5 ?h2q5 ?h3q5 ?_; (case h1q5 => k_asm); (case h2q5 => k_mem); (case h3q5 => k_extra "MINE num")); intro _ _))
  k_with "M subscriptTail" => ((k_here; (with_reducible show wpAny _ _ (subscriptTail _ (Expr.Slice _ _ none _) (Value.bytes (List.toArray _) _) (Value.ref _)) _ _ _); (with_reducible rename Fr _ _ _ _ => F'); (with_reducible rename News _ _ _ _ => N'); (first | (refine' slice_ab (s := ⟨_, _, _, _, _⟩) F' N' ?aq6 ?bq6 ?zq6 ?_; (case aq6 => k_extra "MINE num"); (case bq6 => k_extra "MINE num"); (case zq6 => k_extra "MINE num")) | (refine' slice_to (s := ⟨_, _, _, _, _⟩) F' N' ?bq6 ?zq6 ?_; (case bq6 => k_extra "MINE num"); (case zq6 => k_extra "MINE num")) | (refine' slice_from (s := ⟨_, _, _, _, _⟩) F' N' ?aq6 ?zq6 ?_; (case aq6 => k_extra "MINE num"); (case zq6 => k_extra "MINE num"))); intro _ _ _ F' N'))
  k_with "M call builtin:int.to_bytes" => ((k_here; (with_reducible show wpAny _ _ (call (Value.builtin "int.to_bytes") [Value.int _ _, Value.int _ _, Value.str _ _]) _ _ _); (first | (refine' to_bigI ?aq7 ?cq7 ?bq7 ?dq7 ?_; (case aq7 => k_extra "MINE num"); (case cq7 => k_extra "MINE num"); (case bq7 => k_extra "MINE num"); (case dq7 => k_extra "MINE fits")) | (refine' to_littleI ?aq7 ?cq7 ?bq7 ?dq7 ?_; (case aq7 => k_extra "MINE num"); (case cq7 => k_extra "MINE num"); (case bq7 => k_extra "MINE num"); (case dq7 => k_extra "MINE fits"))); intro _ _))
  k_with "MINE fits" => (first | assumption | exact fits_num (by assumption) | (simp only [Int.reduceToNat, Nat.reducePow]; omega) | (simp only [Int.reduceToNat, Nat.reducePow, Int.reducePow, Int.reduceMul, Int.fmod_eq_emod_of_nonneg, Int.reduceLE]; omega))
  k_with "MINE enter" => ((unfold Fn; k_fill; intro p loose mean mg mb dp un gd cn cs a ccd cl outer A₀ base h₀ L m hp₀ gs₀ dr₀ tk₀ os₀ Q E B F X N T hk hd hu hret; refine wpAny_call ?_; k_dflt ktr_enter))
  k_with "MINE use" => (((case k1 => k_asm); (case k2 => k_asm); (case k3 => k_asm); (case k4 => k_asm); (case k5 => k_asm); (case kK => first | exact rfl | assumption); (case kd => ktr_room); (case ku => ktr_units)))
  k_with "M call builtin:pow" => ((k_here; (with_reducible show wpAny _ _ (call (Value.builtin "pow") [Value.int _ _, Value.int _ _, Value.int _ _]) _ _ _); refine' pow3I ?aq11 ?bq11 ?_; (case aq11 => first | decide | k_extra "MINE num"); (case bq11 => first | decide | k_extra "MINE num"); intro _ _ _))
  k_with "MINE sub" => (first | (intro q hq; exact hq) | ((with_reducible refine' List.forall_mem_cons.mpr ⟨?aq12, ?bq12⟩); (case aq12 => k_mem); (case bq12 => k_extra "MINE sub")) | (intro q hq; (repeat (first | exact hq | refine List.mem_cons_of_mem _ ?_))))
  k_with "M call type:bytes" => ((k_here; (with_reducible show wpAny _ _ (call (Value.type "bytes") [Value.bytes _ _]) _ _ _); refine bb_call ?_))
  k_with "MINE pick" => ((repeat (first | exact Pick.head | apply Pick.tail)))
  k_with "M call builtin:max" => ((k_here; (with_reducible show wpAny _ _ (call (Value.builtin "max") [Value.int _ _, Value.int _ _]) _ _ _); k_dflt (refine' maxI ?hq15 ?Fq15 ?Nq15 ?_; (case hq15 => rfl); (case Fq15 => k_asm); (case Nq15 => k_asm)); intro _ _ _ F' N'; (try k_sweep)))
  k_with "M call builtin:min" => ((k_here; (with_reducible show wpAny _ _ (call (Value.builtin "min") [Value.int _ _, Value.int _ _]) _ _ _); k_dflt (refine' minI ?hq16 ?Fq16 ?Nq16 ?_; (case hq16 => rfl); (case Fq16 => k_asm); (case Nq16 => k_asm)); intro _ _ _ F' N'; (try k_sweep)))
  k_with "M call builtin:max" => ((k_here; (with_reducible show wpAny _ _ (call (Value.builtin "max") [Value.int _ _, Value.int _ _, Value.int _ _]) _ _ _); k_dflt (refine' max3I ?hq17 ?Fq17 ?Nq17 ?_; (case hq17 => rfl); (case Fq17 => k_asm); (case Nq17 => k_asm)); intro _ _ _ F' N'; (try k_sweep)))
  k_with "MINE subD" => ((intro q hq; exact List.mem_cons_of_mem _ hq))
  k_with "MINE steps" => (repeat' (first | (k_unfold; (try dsimp only)) | walk1 | (dsimp only; walk1) | (leave1; walk_say "STEP leave1"; try dsimp only) | fail "no step"))
  k_with "M callWith ref" => ((k_here; (with_reducible show wpAny _ _ (callWith _ (Value.ref (OfNat.ofNat _)) _ _ _) _ _ _); k_dflt (refine' callWith_K ?k1q20 ?k2q20 ?_; (case k1q20 => k_asm); (case k2q20 => k_is); k_whole)))
  k_with "M execs cons" => ((k_here; (try dsimp only); with_reducible refine tk_sum ?_; intro tk9; (try (with_reducible rename Fr _ _ _ _ => Fx9; refine fr_let Fx9 ?_; intro mK Fy9; clear Fx9)); (try k_extra "MINE led")))
  k_with "M execs nil" => ((k_here; (try dsimp only); with_reducible refine tk_sum ?_; intro tk9))
  k_with "MINE lt" => (first | assumption | exact And.left (by assumption) | exact And.left (And.right (by assumption)) | exact And.left (And.right (And.right (by assumption))) | exact And.left (And.right (And.right (And.right (by assumption)))) | exact And.left (And.right (And.right (And.right (And.right (by assumption))))) | exact And.left (And.right (And.right (And.right (And.right (And.right (by assumption)))))) | exact And.left (And.right (And.right (And.right (And.right (And.right (And.right (by assumption))))))) | exact And.left (And.right (And.right (And.right (And.right (And.right (And.right (And.right (by assumption)))))))) | exact And.left (And.right (And.right (And.right (And.right (And.right (And.right (And.right (And.right (by assumption))))))))) | exact And.right (by assumption) | exact And.right (And.right (by assumption)) | exact And.right (And.right (And.right (by assumption))) | fail "not seen less")
  k_with "MINE mul" => (first | ((with_reducible refine mulL ?_); decide) | ((with_reducible refine mulR ?_); decide) | ((with_reducible refine' mulRb ?_ ?_); (focus assumption); decide) | ((with_reducible refine' mulLb ?_ ?_); (focus assumption); decide) | ((with_reducible refine mulRm ?_); decide) | ((with_reducible refine mulLm ?_); decide) | fail "not seen small")
  k_with "M binaryOp Mult int int" => ((k_here; k_dflt (refine' PyProof.Rows.mul_int ?_ ?hmq25; rotate_left; (case hmq25 => k_extra "MINE mul"))))
  k_with "M newTuple" => ((k_here; kup_bare; k_dflt (refine' newTupleV ?Fq26 ?Nq26 ?_ ?zq26; (case Fq26 => k_asm); (case Nq26 => k_asm); (case zq26 => kmk_size)); intro D' h' F' N' l1; (try k_lt l1); (try k_sweep)))
  k_with "MINE gotA" => ((intro v9 n9 h9 tk9 F9 N9 hp9; obtain ⟨o9, t9, hv9, hn9, ho9, hb9, hb9'⟩ := hp9; subst hn9 hv9; (try dsimp only); (try k_fold)))
  k_with "MINE gotR" => ((intro v9 n9 h9 tk9 F9 N9 hp9; rcases PtBack.cases hp9 with ⟨er9, hv9, hn9⟩ | ⟨x9, y9, a9, t9, t9', er9, hv9, hn9⟩; all_goals (clear hp9; subst hv9 hn9; (try (have hr9 := reM_in er9; obtain ⟨hr9x, hr9y⟩ := hr9)); (try (k_dflt (have hne9 := neTup (by assumption) N9 (List.Mem.head _) (by k_mem)))); (try dsimp only); (try k_fold))))
  k_with "MINE gotD" => ((intro v9 n9 h9 tk9 F9 N9 hp9; obtain ⟨o9, t9, hv9, hn9, ho9, hb9, hb9'⟩ := hp9; subst hn9 hv9; (try dsimp only); (try k_fold)))
  k_with "MINE gotB" => ((intro v9 n9 h9 tk9 F9 N9 hp9; obtain ⟨o9, t9, hv9, hn9, ho9⟩ := hp9; subst hn9 hv9; (try dsimp only); (try k_fold)))
  k_with "MINE got" => ((intro v9 n9 h9 tk9 F9 N9 hp9; obtain ⟨hn9, t9, hv9⟩ := hp9; subst hn9 hv9; (try dsimp only); (try k_fold)))
  k_with "M call ref" => ((k_here; (with_reducible show wpAny _ _ (call (Value.ref 90) [Value.int _ _]) _ _ _); k_dflt (refine' Fn.use ?k1 ?k2 ?k3 ?k4 ?k5 ?kK (fn_led _ _ _ _ ) ?kd ?ku ?_; k_extra "MINE use"); k_extra "MINE got"))
  k_with "M call ref" => ((k_here; (with_reducible show wpAny _ _ (call (Value.ref 104) [Value.int _ _]) _ _ _); k_dflt (refine' Fn.use ?k1 ?k2 ?k3 ?k4 ?k5 ?kK (fn_address_of _ _ _ _ ) ?kd ?ku ?_; k_extra "MINE use"); k_extra "MINE got"))
  k_with "M call ref" => ((k_here; (with_reducible show wpAny _ _ (call (Value.ref 230) [Value.int _ _]) _ _ _); k_dflt (refine' Fn.use ?k1 ?k2 ?k3 ?k4 ?k5 ?kK (fn_words_of _ _ _ _ ) ?kd ?ku ?_; k_extra "MINE use"); k_extra "MINE got"))
  k_with "M call ref" => ((k_here; (with_reducible show wpAny _ _ (call (Value.ref 97) [Value.int _ _]) _ _ _); k_dflt (refine' Fn.use ?k1 ?k2 ?k3 ?k4 ?k5 ?kK (fn_word_octets' _ _ _ _ ?c1q35 ?c2q35) ?kd ?ku ?_; k_extra "MINE use"; (case c1q35 => k_extra "MINE num"); (case c2q35 => k_extra "MINE num")); k_extra "MINE got"))
  k_with "M call ref" => ((k_here; (with_reducible show wpAny _ _ (call (Value.ref 237) [Value.bytes _ _, Value.int _ _, Value.int _ _]) _ _ _); k_dflt (refine' Fn.use ?k1 ?k2 ?k3 ?k4 ?k5 ?kK (fn_part_of _ _ _ _ _ _ _ _ ?c1q36 ?c2q36) ?kd ?ku ?_; k_extra "MINE use"; (case c1q36 => k_extra "MINE num"); (case c2q36 => k_extra "MINE num")); k_extra "MINE got"))
  k_with "M call ref" => ((k_here; (with_reducible show wpAny _ _ (call (Value.ref 343) [Value.bytes _ _, Value.int _ _, Value.int _ _]) _ _ _); k_dflt (refine' Fn.use ?k1 ?k2 ?k3 ?k4 ?k5 ?kK (fn_law_part' _ _ _ _ _ _ _ _ ?c1q37 ?c2q37 ?c3q37 ?c4q37) ?kd ?ku ?_; k_extra "MINE use"; (case c1q37 => k_extra "MINE num"); (case c2q37 => k_extra "MINE num"); (case c3q37 => k_extra "MINE num"); (case c4q37 => k_extra "MINE num")); k_extra "MINE got"))
  k_with "M call ref" => ((k_here; (with_reducible show wpAny _ _ (call (Value.ref 343) [Value.bytes _ _, Value.int _ _, Value.int _ _]) _ _ _); k_dflt (refine' Fn.use ?k1 ?k2 ?k3 ?k4 ?k5 ?kK (fn_law_part _ _ _ _ _ _ _ _ ?c1q38 ?c2q38) ?kd ?ku ?_; k_extra "MINE use"; (case c1q38 => k_extra "MINE num"); (case c2q38 => k_extra "MINE num")); k_extra "MINE got"))
  k_with "M call ref" => ((k_here; (with_reducible show wpAny _ _ (call (Value.ref 244) [Value.bytes _ _, Value.int _ _, Value.int _ _]) _ _ _); k_dflt (refine' Fn.use ?k1 ?k2 ?k3 ?k4 ?k5 ?kK (fn_number_at' _ _ _ _ _ _ _ _ ?c1q39 ?c2q39 ?c3q39 ?c4q39) ?kd ?ku ?_; k_extra "MINE use"; (case c1q39 => k_extra "MINE num"); (case c2q39 => k_extra "MINE num"); (case c3q39 => k_extra "MINE num"); (case c4q39 => k_extra "MINE num")); k_extra "MINE got"))
  k_with "M call ref" => ((k_here; (with_reducible show wpAny _ _ (call (Value.ref 244) [Value.bytes _ _, Value.int _ _, Value.int _ _]) _ _ _); k_dflt (refine' Fn.use ?k1 ?k2 ?k3 ?k4 ?k5 ?kK (fn_number_at _ _ _ _ _ _ _ _ ?c1q40 ?c2q40) ?kd ?ku ?_; k_extra "MINE use"; (case c1q40 => k_extra "MINE num"); (case c2q40 => k_extra "MINE num")); k_extra "MINE got"))
  k_with "M call ref" => ((k_here; (with_reducible show wpAny _ _ (call (Value.ref 195) [Value.ref _, Value.int _ _, Value.int _ _, Value.int _ _, Value.int _ _]) _ _ _); k_dflt (refine' Fn.use ?k1 ?k2 ?k3 ?k4 ?k5 ?kK (fn_recovered _ _ _ _ _ _ _ _ _ _ _ ?c1q41 ?c2q41 ?c3q41 ?c4q41 ?c5q41) ?kd ?ku ?_; k_extra "MINE use"; (case c1q41 => first | assumption | exact CurveAt.more (by assumption) (by k_extra "MINE sub") | exact CurveAt.more (SetAt.cur (by assumption)) (by k_extra "MINE sub")); (case c2q41 => k_extra "MINE num"); (case c3q41 => first | assumption | exact parOf (by assumption) | omega); (case c4q41 => k_extra "MINE num"); (case c5q41 => k_extra "MINE num")); k_extra "MINE gotR"))
  k_with "M call ref" => ((k_here; (with_reducible show wpAny _ _ (call (Value.ref 42) [Value.ref _, Value.bytes _ _]) _ _ _); k_dflt (refine' Fn.useP ?k1 ?k2 ?k3 ?k4 ?k5 ?kK ?kpq42 (fn_number  ?c1q42 ?c2q42 ?c3q42 ?c4q42 ?c5q42 ?c6q42) ?kd ?ku ?_; k_extra "MINE use"; (case c3q42 => first | assumption | omega); (case kpq42 => k_extra "MINE pick"); (case c1q42 => first | assumption | exact DigAt.more (by assumption) (by k_extra "MINE sub")); (case c2q42 => k_all); (case c4q42 => first | assumption | omega); (case c5q42 => k_extra "MINE num"); (case c6q42 => k_extra "MINE num")); k_extra "MINE gotD"))
  k_with "M call ref" => ((k_here; (with_reducible show wpAny _ _ (call (Value.ref 49) [Value.ref _, Value.bytes _ _]) _ _ _); k_dflt (refine' Fn.useP ?k1 ?k2 ?k3 ?k4 ?k5 ?kK ?kpq43 (fn_of  ?c1q43 ?c2q43 ?c3q43 ?c4q43 ?c5q43 ?c6q43) ?kd ?ku ?_; k_extra "MINE use"; (case c3q43 => first | assumption | omega); (case kpq43 => k_extra "MINE pick"); (case c1q43 => first | assumption | exact DigAt.more (by assumption) (by k_extra "MINE sub")); (case c2q43 => k_all); (case c4q43 => first | assumption | omega); (case c5q43 => k_extra "MINE num"); (case c6q43 => k_extra "MINE num")); k_extra "MINE gotB"))
  k_with "M call ref" => ((k_here; (with_reducible show wpAny _ _ (call (Value.ref 63) [Value.ref _, Value.bytes _ _]) _ _ _); k_dflt (refine' Fn.useP ?k1 ?k2 ?k3 ?k4 ?k5 ?kK ?kpq44 (fn_word_of  ?c1q44 ?c2q44 ?c3q44 ?c4q44 ?c5q44 ?c6q44) ?kd ?ku ?_; k_extra "MINE use"; (case c3q44 => first | assumption | omega); (case kpq44 => k_extra "MINE pick"); (case c1q44 => first | assumption | exact DigAt.more (by assumption) (by k_extra "MINE sub")); (case c2q44 => k_all); (case c4q44 => first | assumption | omega); (case c5q44 => k_extra "MINE num"); (case c6q44 => k_extra "MINE num")); k_extra "MINE gotB"))
  k_with "M call ref" => ((k_here; (with_reducible show wpAny _ _ (call (Value.ref 111) [Value.ref _, Value.ref _]) _ _ _); k_dflt (refine' Fn.useP ?k1 ?k2 ?k3 ?k4 ?k5 ?kK ?kpq45 (fn_address_of_point  ?c1q45 ?c2q45 ?c3q45 ?c4q45 ?c5q45 ?c6q45 ?c7q45 ?c8q45) ?kd ?ku ?_; k_extra "MINE use"; (case c4q45 => first | assumption | omega); (case kpq45 => k_extra "MINE pick"); (case c1q45 => first | assumption | exact SetAt.more (by assumption) (by k_extra "MINE sub")); (case c2q45 => k_mem); (case c3q45 => k_all); (case c5q45 => first | assumption | omega); (case c6q45 => k_extra "MINE num"); (case c7q45 => first | assumption | omega); (case c8q45 => first | assumption | omega)); k_extra "MINE gotA"))
  k_with "MINE cond" => (first | exact True.intro | ((try dsimp only [cP, cAnd]); (repeat' (first | exact True.intro | refine And.intro ?_ ?_)); all_goals first | k_extra "MINE mul" | mul_fits | decide | omega | assumption))
  k_with "M eval BinOp" => ((k_here; (try dsimp only); k_dflt (refine' pe_int ?Fq47 ?fq47 ?hq47 ?cq47 ?_; (case Fq47 => k_asm); (case fq47 => exact rfl); (case hq47 => exact rfl); (case cq47 => k_extra "MINE cond")); intro t9 tk9; (try dsimp only)))
  k_with "M isTrue Compare" => ((k_here; (try dsimp only); k_dflt (refine' pe_cmp ?Fq48 ?fq48 noOrc_ok ?hq48 ?iq48 ?jq48 ?bq48 ?cq48 ?_; (case Fq48 => k_asm); (case fq48 => exact rfl); (case hq48 => exact rfl); (case iq48 => exact rfl); (case jq48 => exact rfl); (case bq48 => exact rfl); (case cq48 => k_extra "MINE cond")); intro tk9; (try dsimp only)))
  k_with "M eval Tuple" => ((k_here; (try dsimp only); k_dflt (first | (refine' pe_tup2 ?Fq49 ?Nq49 ?fq49 noOrc_ok ?hq49 ?iq49 ?sq49 ?uq49 ?cq49 ?_; (case Fq49 => k_asm); (case Nq49 => k_asm); (case fq49 => exact rfl); (case hq49 => exact rfl); (case iq49 => exact rfl); (case sq49 => exact rfl); (case uq49 => exact rfl); (case cq49 => k_extra "MINE cond"); intro a9 h9 t9 u9 tk9 F9 N9 l9) | (refine' pe_tup3 ?Fq49 ?Nq49 ?fq49 noOrc_ok ?hq49 ?iq49 ?jq49 ?sq49 ?uq49 ?vq49 ?cq49 ?_; (case Fq49 => k_asm); (case Nq49 => k_asm); (case fq49 => exact rfl); (case hq49 => exact rfl); (case iq49 => exact rfl); (case jq49 => exact rfl); (case sq49 => exact rfl); (case uq49 => exact rfl); (case vq49 => exact rfl); (case cq49 => k_extra "MINE cond"); intro a9 h9 t9 u9 v9 tk9 F9 N9 l9)); (have l9c := l9); (try k_lt l9); (try k_sweep); (try dsimp only)))
  k_with "M execs cons" => ((k_here; (with_reducible show wpAny _ _ (execs (Stmt.Assign [Expr.Name _ _] _ _ :: _) _) _ _ _); (try dsimp only); k_dflt (refine' pe_one ?Fq50 ?Nq50 ?fq50 noOrc_ok ?hq50 ?xq50 ?sq50 ?cq50 ?_; (case Fq50 => k_asm); (case Nq50 => k_asm); (case fq50 => exact rfl); (case hq50 => exact rfl); (case xq50 => exact rfl); (case sq50 => with_unfolding_all exact rfl); (case cq50 => k_extra "MINE cond"); intro h9 t9 tk9 F9 N9); (try k_sweep)))
  k_with "M execs cons" => ((k_here; (with_reducible show wpAny _ _ (execs (Stmt.Assign [Expr.Tuple [Expr.Name _ _, Expr.Name _ _] _ _] (Expr.Tuple [_, _] _ _) _ :: _) _) _ _ _); (try dsimp only); k_dflt (refine' pe_two ?Fq51 ?Nq51 ?fq51 noOrc_ok ?kq51 ?hq51 ?iq51 ?xq51 ?yq51 ?sq51 ?wq51 ?uq51 ?vq51 ?cq51 ?_; (case Fq51 => k_asm); (case Nq51 => k_asm); (case fq51 => exact rfl); (case kq51 => exact rfl); (case hq51 => exact rfl); (case iq51 => exact rfl); (case xq51 => exact rfl); (case yq51 => exact rfl); (case sq51 => with_unfolding_all exact rfl); (case wq51 => with_unfolding_all exact rfl); (case uq51 => exact rfl); (case vq51 => exact rfl); (case cq51 => k_extra "MINE cond"); intro h9 t9 u9 tk9 F9 N9); (try k_sweep)))
  k_with "M eval ListComp" => ((k_here; k_dflt (refine ListComp_T (F₀ := by k_asm) (by with_unfolding_all rfl) (by decide) (by rfl) (by decide) (by rfl) ?_)))
  k_with "M SrcT" => ((k_here; k_dflt (refine SrcT.intro (by rfl) (by k_asm) (by k_asm) (by k_mem) (by first | size_fits | exact Nat.le_of_ble_eq_true rfl) ?_; intro g'; lcg_lit)))
  k_with "M CompRest" => ((with_unfolding_all first | (refine LCg.CompRest.succ ?_; intro v' I' oI' C' oC' D' m' h' tk' E' hv' hC' hx' F' N' off' ne'; (first | lcg_open hv' | (obtain ⟨t9', hv9'⟩ := hv'; subst hv9'))) | refine LCg.CompRest.zero ?_))
  k_with "M CompEnd" => ((k_dflt (refine' compEnd ?Fq55 ?Nq55 ?offq55 ?Sq55 ?_; (case Fq55 => assumption); (case Nq55 => k_asm); (case offq55 => assumption); (case Sq55 => first | assumption | exact trivial | (unfold TupIn; k_mem)))))
  k_with "M exec Assign cons ListComp" => (((with_reducible show wpAny _ _ (exec (Stmt.Assign [Expr.Tuple _ _ _] (Expr.ListComp _ _ _ _) _) _) _ _ _); refine Assign_Tuple ?_ (by kernel_rfl) (by kernel_rfl)))
  k_with "MINE t k_room" => (ktr_room)
  k_with "MINE t k_units" => (ktr_units)
  k_with "MINE t k_mem" => (first | with_reducible assumption | assumption | exact List.Mem.head _ | (refine' List.Mem.tail _ ?_; k_mem))
  k_with "MINE t k_all" => (first | assumption | exact cellNe (by assumption) (by k_extra "MINE sub") | exact List.forall_mem_nil _ | (refine' List.forall_mem_cons.mpr ⟨?aq60, ?bq60⟩; (case aq60 => first | k_ne | assumption); (case bq60 => k_all)))
  k_with "MINE t ktr_room" => (first | (refine' rm2 ?hq61 ?bq61; (case hq61 => assumption); (case bq61 => exact rfl)) | (refine' rm1 ?hq61 ?bq61; (case hq61 => assumption); (case bq61 => exact rfl)) | (refine' rm3 ?hq61 ?bq61; (case hq61 => assumption); (case bq61 => exact rfl)) | exact rm0 (by assumption) | fail "no room")
  k_with "MINE t ktr_units" => (first | (refine' rm2 ?hq62 ?bq62; (case hq62 => assumption); (case bq62 => exact rfl)) | (refine' rm1 ?hq62 ?bq62; (case hq62 => assumption); (case bq62 => exact rfl)) | (refine' rm3 ?hq62 ?bq62; (case hq62 => assumption); (case bq62 => exact rfl)) | exact rm0 (by assumption) | fail "no room")
  k_with "MINE t k_ne" => (with_reducible (first | assumption | exact Nat.ne_of_lt (by k_extra "MINE lt") | exact Nat.ne_of_gt (by k_extra "MINE lt") | exact Ne.symm (by assumption) | k_extra "MINE lt" | exact Ne.symm (by k_extra "MINE lt") | fail "not seen unlike"))
  trivial
theorem fn_recovery {w : World} {news : Led} {st dg cu kd : Addr} {o : Obj} {ks : List Int} {l : List UInt8} {t : Tok} (hst : SetAt w.params news st dg cu kd) (hne : ∀ q ∈ news, q.1 ≠ kd) (hsy : (kd == sysModules) = false) (ho : DigO w o ks) (hks : ks.length ≤ 10) (hl : l.length ≤ 300) :
    Fn w 50 200 249 ((kd, o) :: news) [.bytes l.toArray t, .ref st] (fun v news' => ∃ o' t', v = .bytes (rcOut ks l).toArray t' ∧ news' = (kd, o') :: news ∧ DigO w o' (rcK ks l)) := by
  have hst' := hst
  obtain ⟨⟨sd, t1, t2, t3, t4, t5, t6, t7, t8, h1, h2⟩, h3, h4⟩ := hst'
  have n0 := numL_lt32 l 0
  have n1 := numL_lt32 l 32
  have n2 := numL_lt32 l 64
  have n3 := numL_lt32 l 96
  (unfold Fn; k_fill; intro pg loose mean mg mb dp un gd cn cs a ccd cl outer A₀ base h₀ L m hp₀ gs₀ dr₀ tk₀ os₀ Q E B F X N T hk hd hu hret; refine wpAny_call ?_; k_dflt (refine' code_defC ?k1 ?k2 ?k3 ?k4 ?k5 ?kA ?kF ?kK ?k6 ?k7 ?k8 ?k9 ?kB ?kD ?_ ?c2 ?c3 ?c4; (case kA => exact rfl); (case kF => exact rfl); (case kK => assumption); (case k1 => k_asm); (case k2 => k_asm); (case k3 => k_asm); (case k4 => k_asm); (case k5 => k_asm); (case k6 => k_is); (case k7 => k_is); (case k8 => ktr_room); (case k9 => exact BindsTo.of_eq rfl); (case kB => exact rfl); (case kD => decide +kernel); (case c2 => exact rfl); (case c3 => exact rfl); (case c4 => exact rfl); k_whole; intro g' L' h' tk' cells' FG' F' N' Y' B' X' T' l1; (have l1c := l1); (try k_lt l1); k_cells Y'; (try simp only [List.cons_append, List.nil_append] at N'); (try dsimp only); (try k_fold)); refine wp_letQ ?_; intro qk ek Ak)
  k_steps
  · exact hret _ ((kd, o) :: news) _ _ (by k_asm) (by refine cb_drop (by k_asm) ?_; k_extra "MINE sub") (rcBackN ho (rcPt_yes (by assumption) (by assumption)))
  · refine' hret _ ((kd, _) :: news) _ _ (by k_asm) (by refine cb_drop (by k_asm) ?_; k_extra "MINE sub") (rcBackS (by assumption) (rcPt_yes (by assumption) (by assumption)))
  · exact hret _ ((kd, o) :: news) _ _ (by k_asm) (by refine cb_drop (by k_asm) ?_; k_extra "MINE sub") (rcBackN ho (rcPt_no (by assumption)))
theorem lines_C21 : True := by
  w_top off
  k_with_none
  k_with "MINE len" => (((try simp only [List.length_append, List.length_take, List.length_drop, List.length_replicate, List.length_cons, List.length_nil, cutL_length, beL_length, leL_length, partL_length, KBa_byteArr_length, List.length_map, rangeKs_length] at *); omega))
  k_with "MINE num" => (first | omega | assumption | (simp only [Int.reduceToNat, Int.reducePow, Int.reduceMul, Int.fmod_eq_emod_of_nonneg, Int.reduceLE]; omega) | k_extra "MINE len")
  k_with "M call type:bytes" => ((k_here; (with_reducible show wpAny _ _ (call (Value.type "bytes") [Value.int _ _]) _ _ _); refine' bz_call ?h0q2 ?hNq2 ?_; (case h0q2 => k_extra "MINE num"); (case hNq2 => k_extra "MINE num"); intro _ _))
  k_with "M call builtin:len" => ((k_here; (with_reducible show wpAny _ _ (call (Value.builtin "len") [Value.bytes (List.toArray _) _]) _ _ _); refine' len_L ?h0q3 ?_; (case h0q3 => k_extra "MINE num"); intro _ _))
  k_with "M binaryOp Add bytes bytes" => ((k_here; (with_reducible show wpAny _ _ (binaryOp Operator.Add (Value.bytes (List.toArray _) _) (Value.bytes (List.toArray _) _)) _ _ _); refine' add_L ?h0q4 ?_; (case h0q4 => k_extra "MINE num"); intro _ _))
  k_with "M call ref" => ((k_here; (with_reducible show wpAny _ _ (call (Value.ref _) [Value.bytes (List.toArray _) _, Value.str _ _]) _ _ _); kfb_any; k_dflt (refine' from_big ?h1q5 ?h2q5 ?h3q5 ?_; (case h1q5 => k_asm); (case h2q5 => k_mem); (case h3q5 => k_extra "MINE num")); intro _ _))
  k_with "M subscriptTail" => ((k_here; (with_reducible show wpAny _ _ (subscriptTail _ (Expr.Slice _ _ none _) (Value.bytes (List.toArray _) _) (Value.ref _)) _ _ _); (with_reducible rename Fr _ _ _ _ => F'); (with_reducible rename News _ _ _ _ => N'); (first | (refine' slice_ab (s := ⟨_, _, _, _, _⟩) F' N' ?aq6 ?bq6 ?zq6 ?_; (case aq6 => k_extra "MINE num"); (case bq6 => k_extra "MINE num"); (case zq6 => k_extra "MINE num")) | (refine' slice_to (s := ⟨_, _, _, _, _⟩) F' N' ?bq6 ?zq6 ?_; (case bq6 => k_extra "MINE num"); (case zq6 => k_extra "MINE num")) | (refine' slice_from (s := ⟨_, _, _, _, _⟩) F' N' ?aq6 ?zq6 ?_; (case aq6 => k_extra "MINE num"); (case zq6 => k_extra "MINE num"))); intro _ _ _ F' N'))
  k_with "M call builtin:int.to_bytes" => ((k_here; (with_reducible show wpAny _ _ (call (Value.builtin "int.to_bytes") [Value.int _ _, Value.int _ _, Value.str _ _]) _ _ _); (first | (refine' to_bigI ?aq7 ?cq7 ?bq7 ?dq7 ?_; (case aq7 => k_extra "MINE num"); (case cq7 => k_extra "MINE num"); (case bq7 => k_extra "MINE num"); (case dq7 => k_extra "MINE fits")) | (refine' to_littleI ?aq7 ?cq7 ?bq7 ?dq7 ?_; (case aq7 => k_extra "MINE num"); (case cq7 => k_extra "MINE num"); (case bq7 => k_extra "MINE num"); (case dq7 => k_extra "MINE fits"))); intro _ _))
  k_with "MINE fits" => (first | assumption | exact fits_num (by assumption) | (simp only [Int.reduceToNat, Nat.reducePow]; omega) | (simp only [Int.reduceToNat, Nat.reducePow, Int.reducePow, Int.reduceMul, Int.fmod_eq_emod_of_nonneg, Int.reduceLE]; omega))
  k_with "MINE enter" => ((unfold Fn; k_fill; intro p loose mean mg mb dp un gd cn cs a ccd cl outer A₀ base h₀ L m hp₀ gs₀ dr₀ tk₀ os₀ Q E B F X N T hk hd hu hret; refine wpAny_call ?_; k_dflt ktr_enter))
  k_with "MINE use" => (((case k1 => k_asm); (case k2 => k_asm); (case k3 => k_asm); (case k4 => k_asm); (case k5 => k_asm); (case kK => first | exact rfl | assumption); (case kd => ktr_room); (case ku => ktr_units)))
  k_with "M call builtin:pow" => ((k_here; (with_reducible show wpAny _ _ (call (Value.builtin "pow") [Value.int _ _, Value.int _ _, Value.int _ _]) _ _ _); refine' pow3I ?aq11 ?bq11 ?_; (case aq11 => first | decide | k_extra "MINE num"); (case bq11 => first | decide | k_extra "MINE num"); intro _ _ _))
  k_with "MINE sub" => (first | (intro q hq; exact hq) | ((with_reducible refine' List.forall_mem_cons.mpr ⟨?aq12, ?bq12⟩); (case aq12 => k_mem); (case bq12 => k_extra "MINE sub")) | (intro q hq; (repeat (first | exact hq | refine List.mem_cons_of_mem _ ?_))))
  k_with "M call type:bytes" => ((k_here; (with_reducible show wpAny _ _ (call (Value.type "bytes") [Value.bytes _ _]) _ _ _); refine bb_call ?_))
  k_with "MINE pick" => ((repeat (first | exact Pick.head | apply Pick.tail)))
  k_with "M call builtin:max" => ((k_here; (with_reducible show wpAny _ _ (call (Value.builtin "max") [Value.int _ _, Value.int _ _]) _ _ _); k_dflt (refine' maxI ?hq15 ?Fq15 ?Nq15 ?_; (case hq15 => rfl); (case Fq15 => k_asm); (case Nq15 => k_asm)); intro _ _ _ F' N'; (try k_sweep)))
  k_with "M call builtin:min" => ((k_here; (with_reducible show wpAny _ _ (call (Value.builtin "min") [Value.int _ _, Value.int _ _]) _ _ _); k_dflt (refine' minI ?hq16 ?Fq16 ?Nq16 ?_; (case hq16 => rfl); (case Fq16 => k_asm); (case Nq16 => k_asm)); intro _ _ _ F' N'; (try k_sweep)))
  k_with "M call builtin:max" => ((k_here; (with_reducible show wpAny _ _ (call (Value.builtin "max") [Value.int _ _, Value.int _ _, Value.int _ _]) _ _ _); k_dflt (refine' max3I ?hq17 ?Fq17 ?Nq17 ?_; (case hq17 => rfl); (case Fq17 => k_asm); (case Nq17 => k_asm)); intro _ _ _ F' N'; (try k_sweep)))
  k_with "MINE subD" => ((intro q hq; exact List.mem_cons_of_mem _ hq))
  k_with "MINE steps" => (repeat' (first | (k_unfold; (try dsimp only)) | walk1 | (dsimp only; walk1) | (leave1; walk_say "STEP leave1"; try dsimp only) | fail "no step"))
  k_with "M callWith ref" => ((k_here; (with_reducible show wpAny _ _ (callWith _ (Value.ref (OfNat.ofNat _)) _ _ _) _ _ _); k_dflt (refine' callWith_K ?k1q20 ?k2q20 ?_; (case k1q20 => k_asm); (case k2q20 => k_is); k_whole)))
  k_with "M execs cons" => ((k_here; (try dsimp only); with_reducible refine tk_sum ?_; intro tk9; (try (with_reducible rename Fr _ _ _ _ => Fx9; refine fr_let Fx9 ?_; intro mK Fy9; clear Fx9)); (try k_extra "MINE led")))
  k_with "M execs nil" => ((k_here; (try dsimp only); with_reducible refine tk_sum ?_; intro tk9))
  k_with "MINE lt" => (first | assumption | exact And.left (by assumption) | exact And.left (And.right (by assumption)) | exact And.left (And.right (And.right (by assumption))) | exact And.left (And.right (And.right (And.right (by assumption)))) | exact And.left (And.right (And.right (And.right (And.right (by assumption))))) | exact And.left (And.right (And.right (And.right (And.right (And.right (by assumption)))))) | exact And.left (And.right (And.right (And.right (And.right (And.right (And.right (by assumption))))))) | exact And.left (And.right (And.right (And.right (And.right (And.right (And.right (And.right (by assumption)))))))) | exact And.left (And.right (And.right (And.right (And.right (And.right (And.right (And.right (And.right (by assumption))))))))) | exact And.right (by assumption) | exact And.right (And.right (by assumption)) | exact And.right (And.right (And.right (by assumption))) | fail "not seen less")
  k_with "MINE mul" => (first | ((with_reducible refine mulL ?_); decide) | ((with_reducible refine mulR ?_); decide) | ((with_reducible refine' mulRb ?_ ?_); (focus assumption); decide) | ((with_reducible refine' mulLb ?_ ?_); (focus assumption); decide) | ((with_reducible refine mulRm ?_); decide) | ((with_reducible refine mulLm ?_); decide) | fail "not seen small")
  k_with "M binaryOp Mult int int" => ((k_here; k_dflt (refine' PyProof.Rows.mul_int ?_ ?hmq25; rotate_left; (case hmq25 => k_extra "MINE mul"))))
  k_with "M newTuple" => ((k_here; kup_bare; k_dflt (refine' newTupleV ?Fq26 ?Nq26 ?_ ?zq26; (case Fq26 => k_asm); (case Nq26 => k_asm); (case zq26 => kmk_size)); intro D' h' F' N' l1; (try k_lt l1); (try k_sweep)))
  k_with "MINE gotPR" => ((intro v9 n9 h9 tk9 F9 N9 hp9; obtain ⟨hn9, t9, hv9⟩ := hp9; subst hn9 hv9; (try dsimp only); (try k_fold)))
  k_with "MINE gotB" => ((intro v9 n9 h9 tk9 F9 N9 hp9; obtain ⟨o9, t9, hv9, hn9, ho9⟩ := hp9; subst hn9 hv9; (try dsimp only); (try k_fold)))
  k_with "MINE got" => ((intro v9 n9 h9 tk9 F9 N9 hp9; obtain ⟨hn9, t9, hv9⟩ := hp9; subst hn9 hv9; (try dsimp only); (try k_fold)))
  k_with "M call ref" => ((k_here; (with_reducible show wpAny _ _ (call (Value.ref 90) [Value.int _ _]) _ _ _); k_dflt (refine' Fn.use ?k1 ?k2 ?k3 ?k4 ?k5 ?kK (fn_led _ _ _ _ ) ?kd ?ku ?_; k_extra "MINE use"); k_extra "MINE got"))
  k_with "M call ref" => ((k_here; (with_reducible show wpAny _ _ (call (Value.ref 104) [Value.int _ _]) _ _ _); k_dflt (refine' Fn.use ?k1 ?k2 ?k3 ?k4 ?k5 ?kK (fn_address_of _ _ _ _ ) ?kd ?ku ?_; k_extra "MINE use"); k_extra "MINE got"))
  k_with "M call ref" => ((k_here; (with_reducible show wpAny _ _ (call (Value.ref 230) [Value.int _ _]) _ _ _); k_dflt (refine' Fn.use ?k1 ?k2 ?k3 ?k4 ?k5 ?kK (fn_words_of _ _ _ _ ) ?kd ?ku ?_; k_extra "MINE use"); k_extra "MINE got"))
  k_with "M call ref" => ((k_here; (with_reducible show wpAny _ _ (call (Value.ref 97) [Value.int _ _]) _ _ _); k_dflt (refine' Fn.use ?k1 ?k2 ?k3 ?k4 ?k5 ?kK (fn_word_octets' _ _ _ _ ?c1q33 ?c2q33) ?kd ?ku ?_; k_extra "MINE use"; (case c1q33 => k_extra "MINE num"); (case c2q33 => k_extra "MINE num")); k_extra "MINE got"))
  k_with "M call ref" => ((k_here; (with_reducible show wpAny _ _ (call (Value.ref 237) [Value.bytes _ _, Value.int _ _, Value.int _ _]) _ _ _); k_dflt (refine' Fn.use ?k1 ?k2 ?k3 ?k4 ?k5 ?kK (fn_part_of _ _ _ _ _ _ _ _ ?c1q34 ?c2q34) ?kd ?ku ?_; k_extra "MINE use"; (case c1q34 => k_extra "MINE num"); (case c2q34 => k_extra "MINE num")); k_extra "MINE got"))
  k_with "M call ref" => ((k_here; (with_reducible show wpAny _ _ (call (Value.ref 343) [Value.bytes _ _, Value.int _ _, Value.int _ _]) _ _ _); k_dflt (refine' Fn.use ?k1 ?k2 ?k3 ?k4 ?k5 ?kK (fn_law_part' _ _ _ _ _ _ _ _ ?c1q35 ?c2q35 ?c3q35 ?c4q35) ?kd ?ku ?_; k_extra "MINE use"; (case c1q35 => k_extra "MINE num"); (case c2q35 => k_extra "MINE num"); (case c3q35 => k_extra "MINE num"); (case c4q35 => k_extra "MINE num")); k_extra "MINE got"))
  k_with "M call ref" => ((k_here; (with_reducible show wpAny _ _ (call (Value.ref 343) [Value.bytes _ _, Value.int _ _, Value.int _ _]) _ _ _); k_dflt (refine' Fn.use ?k1 ?k2 ?k3 ?k4 ?k5 ?kK (fn_law_part _ _ _ _ _ _ _ _ ?c1q36 ?c2q36) ?kd ?ku ?_; k_extra "MINE use"; (case c1q36 => k_extra "MINE num"); (case c2q36 => k_extra "MINE num")); k_extra "MINE got"))
  k_with "M call ref" => ((k_here; (with_reducible show wpAny _ _ (call (Value.ref 244) [Value.bytes _ _, Value.int _ _, Value.int _ _]) _ _ _); k_dflt (refine' Fn.use ?k1 ?k2 ?k3 ?k4 ?k5 ?kK (fn_number_at' _ _ _ _ _ _ _ _ ?c1q37 ?c2q37 ?c3q37 ?c4q37) ?kd ?ku ?_; k_extra "MINE use"; (case c1q37 => k_extra "MINE num"); (case c2q37 => k_extra "MINE num"); (case c3q37 => k_extra "MINE num"); (case c4q37 => k_extra "MINE num")); k_extra "MINE got"))
  k_with "M call ref" => ((k_here; (with_reducible show wpAny _ _ (call (Value.ref 244) [Value.bytes _ _, Value.int _ _, Value.int _ _]) _ _ _); k_dflt (refine' Fn.use ?k1 ?k2 ?k3 ?k4 ?k5 ?kK (fn_number_at _ _ _ _ _ _ _ _ ?c1q38 ?c2q38) ?kd ?ku ?_; k_extra "MINE use"; (case c1q38 => k_extra "MINE num"); (case c2q38 => k_extra "MINE num")); k_extra "MINE got"))
  k_with "M call ref" => ((k_here; (with_reducible show wpAny _ _ (call (Value.ref 249) [Value.bytes _ _, Value.ref _]) _ _ _); k_dflt (refine' Fn.useP ?k1 ?k2 ?k3 ?k4 ?k5 ?kK ?kpq39 (fn_recovery  ?c1q39 ?c2q39 ?c3q39 ?c4q39 ?c5q39 ?c6q39) ?kd ?ku ?_; k_extra "MINE use"; (case c3q39 => first | assumption | omega); (case kpq39 => k_extra "MINE pick"); (case c1q39 => first | assumption | exact SetAt.more (by assumption) (by k_extra "MINE sub")); (case c2q39 => k_all); (case c4q39 => first | assumption | omega); (case c5q39 => k_extra "MINE num"); (case c6q39 => k_extra "MINE num")); k_extra "MINE gotB"))
  k_with "M call ref" => ((k_here; (with_reducible show wpAny _ _ (call (Value.ref 256) [Value.bytes _ _, Value.int _ _, Value.int _ _]) _ _ _); k_dflt (refine' Fn.use ?k1 ?k2 ?k3 ?k4 ?k5 ?kK (fn_power_rounds _ _ _ _ _ _ _ _ ?c1q40 ?c2q40 ?c3q40) ?kd ?ku ?_; k_extra "MINE use"; (case c1q40 => k_extra "MINE num"); (case c2q40 => k_extra "MINE num"); (case c3q40 => k_extra "MINE num")); k_extra "MINE gotPR"))
  k_with "M call ref" => ((k_here; (with_reducible show wpAny _ _ (call (Value.ref 261) [Value.bytes _ _]) _ _ _); k_dflt (refine' Fn.use ?k1 ?k2 ?k3 ?k4 ?k5 ?kK (fn_power_cost _ _ _ _ ?c1q41 ?c2q41) ?kd ?ku ?_; k_extra "MINE use"; (case c1q41 => k_extra "MINE num"); (case c2q41 => first | assumption | omega)); k_extra "MINE got"))
  k_with "M call ref" => ((k_here; (with_reducible show wpAny _ _ (call (Value.ref 266) [Value.bytes _ _]) _ _ _); k_dflt (refine' Fn.use ?k1 ?k2 ?k3 ?k4 ?k5 ?kK (fn_raised _ _ _ _ ?c1q42 ?c2q42 ?c3q42) ?kd ?ku ?_; k_extra "MINE use"; (case c1q42 => k_extra "MINE num"); (case c2q42 => first | assumption | omega); (case c3q42 => first | assumption | exact prC_small (by assumption) (by omega))); k_extra "MINE got"))
  k_with "MINE cond" => (first | exact True.intro | ((try dsimp only [cP, cAnd]); (repeat' (first | exact True.intro | refine And.intro ?_ ?_)); all_goals first | k_extra "MINE mul" | mul_fits | decide | omega | assumption))
  k_with "M eval BinOp" => ((k_here; (try dsimp only); k_dflt (refine' pe_int ?Fq44 ?fq44 ?hq44 ?cq44 ?_; (case Fq44 => k_asm); (case fq44 => exact rfl); (case hq44 => exact rfl); (case cq44 => k_extra "MINE cond")); intro t9 tk9; (try dsimp only)))
  k_with "M isTrue Compare" => ((k_here; (try dsimp only); k_dflt (refine' pe_cmp ?Fq45 ?fq45 noOrc_ok ?hq45 ?iq45 ?jq45 ?bq45 ?cq45 ?_; (case Fq45 => k_asm); (case fq45 => exact rfl); (case hq45 => exact rfl); (case iq45 => exact rfl); (case jq45 => exact rfl); (case bq45 => exact rfl); (case cq45 => k_extra "MINE cond")); intro tk9; (try dsimp only)))
  k_with "M eval Tuple" => ((k_here; (try dsimp only); k_dflt (first | (refine' pe_tup2 ?Fq46 ?Nq46 ?fq46 noOrc_ok ?hq46 ?iq46 ?sq46 ?uq46 ?cq46 ?_; (case Fq46 => k_asm); (case Nq46 => k_asm); (case fq46 => exact rfl); (case hq46 => exact rfl); (case iq46 => exact rfl); (case sq46 => exact rfl); (case uq46 => exact rfl); (case cq46 => k_extra "MINE cond"); intro a9 h9 t9 u9 tk9 F9 N9 l9) | (refine' pe_tup3 ?Fq46 ?Nq46 ?fq46 noOrc_ok ?hq46 ?iq46 ?jq46 ?sq46 ?uq46 ?vq46 ?cq46 ?_; (case Fq46 => k_asm); (case Nq46 => k_asm); (case fq46 => exact rfl); (case hq46 => exact rfl); (case iq46 => exact rfl); (case jq46 => exact rfl); (case sq46 => exact rfl); (case uq46 => exact rfl); (case vq46 => exact rfl); (case cq46 => k_extra "MINE cond"); intro a9 h9 t9 u9 v9 tk9 F9 N9 l9)); (have l9c := l9); (try k_lt l9); (try k_sweep); (try dsimp only)))
  k_with "M execs cons" => ((k_here; (with_reducible show wpAny _ _ (execs (Stmt.Assign [Expr.Name _ _] _ _ :: _) _) _ _ _); (try dsimp only); k_dflt (refine' pe_one ?Fq47 ?Nq47 ?fq47 noOrc_ok ?hq47 ?xq47 ?sq47 ?cq47 ?_; (case Fq47 => k_asm); (case Nq47 => k_asm); (case fq47 => exact rfl); (case hq47 => exact rfl); (case xq47 => exact rfl); (case sq47 => with_unfolding_all exact rfl); (case cq47 => k_extra "MINE cond"); intro h9 t9 tk9 F9 N9); (try k_sweep)))
  k_with "M execs cons" => ((k_here; (with_reducible show wpAny _ _ (execs (Stmt.Assign [Expr.Tuple [Expr.Name _ _, Expr.Name _ _] _ _] (Expr.Tuple [_, _] _ _) _ :: _) _) _ _ _); (try dsimp only); k_dflt (refine' pe_two ?Fq48 ?Nq48 ?fq48 noOrc_ok ?kq48 ?hq48 ?iq48 ?xq48 ?yq48 ?sq48 ?wq48 ?uq48 ?vq48 ?cq48 ?_; (case Fq48 => k_asm); (case Nq48 => k_asm); (case fq48 => exact rfl); (case kq48 => exact rfl); (case hq48 => exact rfl); (case iq48 => exact rfl); (case xq48 => exact rfl); (case yq48 => exact rfl); (case sq48 => with_unfolding_all exact rfl); (case wq48 => with_unfolding_all exact rfl); (case uq48 => exact rfl); (case vq48 => exact rfl); (case cq48 => k_extra "MINE cond"); intro h9 t9 u9 tk9 F9 N9); (try k_sweep)))
  k_with "M eval Call" => (k_fold)
  k_with "M eval Tuple" => (k_fold)
  k_with "M eval BinOp" => (k_fold)
  k_with "M eval Subscript" => (k_fold)
  k_with "M eval IfExp" => (k_fold)
  k_with "M isTrue Compare" => (k_fold)
  k_with "M isTrue BoolOp" => (k_fold)
  k_with "M exec If" => (k_fold)
  k_with "M exec Return" => (k_fold)
  k_with "M call ref" => ((k_here; (with_reducible show wpAny _ _ (call (Value.ref 273) _) _ _ _); exfalso; exact no145 (by assumption) (by assumption)))
  k_with "MINE t k_room" => (ktr_room)
  k_with "MINE t k_units" => (ktr_units)
  k_with "MINE t k_mem" => (first | with_reducible assumption | assumption | exact List.Mem.head _ | (refine' List.Mem.tail _ ?_; k_mem))
  k_with "MINE t k_all" => (first | assumption | exact cellNe (by assumption) (by k_extra "MINE sub") | exact List.forall_mem_nil _ | (refine' List.forall_mem_cons.mpr ⟨?aq62, ?bq62⟩; (case aq62 => first | k_ne | assumption); (case bq62 => k_all)))
  k_with "MINE t ktr_room" => (first | (refine' rm2 ?hq63 ?bq63; (case hq63 => assumption); (case bq63 => exact rfl)) | (refine' rm1 ?hq63 ?bq63; (case hq63 => assumption); (case bq63 => exact rfl)) | (refine' rm3 ?hq63 ?bq63; (case hq63 => assumption); (case bq63 => exact rfl)) | exact rm0 (by assumption) | fail "no room")
  k_with "MINE t ktr_units" => (first | (refine' rm2 ?hq64 ?bq64; (case hq64 => assumption); (case bq64 => exact rfl)) | (refine' rm1 ?hq64 ?bq64; (case hq64 => assumption); (case bq64 => exact rfl)) | (refine' rm3 ?hq64 ?bq64; (case hq64 => assumption); (case bq64 => exact rfl)) | exact rm0 (by assumption) | fail "no room")
  k_with "MINE t k_ne" => (with_reducible (first | assumption | exact Nat.ne_of_lt (by k_extra "MINE lt") | exact Nat.ne_of_gt (by k_extra "MINE lt") | exact Ne.symm (by assumption) | k_extra "MINE lt" | exact Ne.symm (by k_extra "MINE lt") | fail "not seen unlike"))
  trivial
theorem fn_pre0 {w : World} {news : Led} {v2 v3 : Value} {ad : Int} {t : Tok} {vst : Value} (ha : ad ≠ 1 ∧ ad ≠ 4 ∧ ad ≠ 5) :
    Fn w 60 240 280 news [.int ad t, v2, v3, vst] (fun v news' => v = .none ∧ news' = news) := by
  (unfold Fn; k_fill; intro pg loose mean mg mb dp un gd cn cs a ccd cl outer A₀ base h₀ L m hp₀ gs₀ dr₀ tk₀ os₀ Q E B F X N T hk hd hu hret; refine wpAny_call ?_; k_dflt ktr_enter; refine wp_let ?_; intro Ak)
  k_steps
  all_goals (refine hret _ news _ _ (by k_asm) (by refine cb_drop (by k_asm) ?_; intro q hq; repeat (first | exact hq | refine List.mem_cons_of_mem _ ?_)) ?_; exact ⟨rfl, rfl⟩)
theorem fn_pre1 {w : World} {news : Led} {st dg cu kd : Addr} {o : Obj} {ks : List Int} {l : List UInt8} {t t1 t2 : Tok} {g : Int} (hst : SetAt w.params news st dg cu kd) (hne : ∀ q ∈ news, q.1 ≠ kd) (hsy : (kd == sysModules) = false) (ho : DigO w o ks) (hks : ks.length ≤ 10) (hl : l.length ≤ 300) :
    Fn w 60 240 280 ((kd, o) :: news) [.int 1 t1, .bytes l.toArray t, .int g t2, .ref st] (fun v news' => if 3000 ≤ g then OutB w kd news true (g - 3000) (rcOut ks l) "" (rcK ks l) v news' else OutB w kd news false 0 [] "gas" ks v news') := by
  (unfold Fn; k_fill; intro pg loose mean mg mb dp un gd cn cs a ccd cl outer A₀ base h₀ L m hp₀ gs₀ dr₀ tk₀ os₀ Q E B F X N T hk hd hu hret; refine wpAny_call ?_; k_dflt ktr_enter; refine wp_let ?_; intro Ak)
  k_steps
  · (refine' hret _ ((_, instObj 219 _) :: (_, outD w.params false (0) ([]) "gas" _ _ _ _ _ _ _ _) :: (kd, _) :: news) _ _ (by k_asm) (by refine cb_drop (by k_asm) ?_; k_extra "MINE sub") ?post; (case post => dsimp only; rw [if_neg (show ¬ 3000 ≤ g by omega)]; refine' ⟨_, _, _, _, _, _, _, _, _, _, _, rfl, rfl, ?ob9, ?nb9, ?nc9⟩; (case ob9 => assumption); (case nb9 => k_ne); (case nc9 => k_ne)))
  · (refine' hret _ ((_, instObj 219 _) :: (_, outD w.params true (g - 3000) (rcOut ks l) "" _ _ _ _ _ _ _ _) :: (kd, _) :: news) _ _ (by k_asm) (by refine cb_drop (by k_asm) ?_; k_extra "MINE sub") ?post; (case post => dsimp only; rw [if_pos (show 3000 ≤ g by omega)]; refine' ⟨_, _, _, _, _, _, _, _, _, _, _, rfl, rfl, ?ob9, ?nb9, ?nc9⟩; (case ob9 => assumption); (case nb9 => k_ne); (case nc9 => k_ne)))
theorem lines_C22 : True := by
  w_top off
  k_with_none
  k_with "MINE len" => (((try simp only [List.length_append, List.length_take, List.length_drop, List.length_replicate, List.length_cons, List.length_nil, cutL_length, beL_length, leL_length, partL_length, KBa_byteArr_length, List.length_map, rangeKs_length] at *); omega))
  k_with "MINE num" => (first | omega | assumption | (simp only [Int.reduceToNat, Int.reducePow, Int.reduceMul, Int.fmod_eq_emod_of_nonneg, Int.reduceLE]; omega) | k_extra "MINE len")
  k_with "M call type:bytes" => ((k_here; (with_reducible show wpAny _ _ (call (Value.type "bytes") [Value.int _ _]) _ _ _); refine' bz_call ?h0q2 ?hNq2 ?_; (case h0q2 => k_extra "MINE num"); (case hNq2 => k_extra "MINE num"); intro _ _))
  k_with "M call builtin:len" => ((k_here; (with_reducible show wpAny _ _ (call (Value.builtin "len") [Value.bytes (List.toArray _) _]) _ _ _); refine' len_L ?h0q3 ?_; (case h0q3 => k_extra "MINE num"); intro _ _))
  k_with "M binaryOp Add bytes bytes" => ((k_here; (with_reducible show wpAny _ _ (binaryOp Operator.Add (Value.bytes (List.toArray _) _) (Value.bytes (List.toArray _) _)) _ _ _); refine' add_L ?h0q4 ?_; (case h0q4 => k_extra "MINE num"); intro _ _))
  k_with "M call ref" => ((k_here; (with_reducible show wpAny _ _ (call (Value.ref _) [Value.bytes (List.toArray _) _, Value.str _ _]) _ _ _); kfb_any; k_dflt (refine' from_big ?h1q5 ?h2q5 ?h3q5 ?_; (case h1q5 => k_asm); (case h2q5 => k_mem); (case h3q5 => k_extra "MINE num")); intro _ _))
  k_with "M subscriptTail" => ((k_here; (with_reducible show wpAny _ _ (subscriptTail _ (Expr.Slice _ _ none _) (Value.bytes (List.toArray _) _) (Value.ref _)) _ _ _); (with_reducible rename Fr _ _ _ _ => F'); (with_reducible rename News _ _ _ _ => N'); (first | (refine' slice_ab (s := ⟨_, _, _, _, _⟩) F' N' ?aq6 ?bq6 ?zq6 ?_; (case aq6 => k_extra "MINE num"); (case bq6 => k_extra "MINE num"); (case zq6 => k_extra "MINE num")) | (refine' slice_to (s := ⟨_, _, _, _, _⟩) F' N' ?bq6 ?zq6 ?_; (case bq6 => k_extra "MINE num"); (case zq6 => k_extra "MINE num")) | (refine' slice_from (s := ⟨_, _, _, _, _⟩) F' N' ?aq6 ?zq6 ?_; (case aq6 => k_extra "MINE num"); (case zq6 => k_extra "MINE num"))); intro _ _ _ F' N'))
  k_with "M call builtin:int.to_bytes" => ((k_here; (with_reducible show wpAny _ _ (call (Value.builtin "int.to_bytes") [Value.int _ _, Value.int _ _, Value.str _ _]) _ _ _); (first | (refine' to_bigI ?aq7 ?cq7 ?bq7 ?dq7 ?_; (case aq7 => k_extra "MINE num"); (case cq7 => k_extra "MINE num"); (case bq7 => k_extra "MINE num"); (case dq7 => k_extra "MINE fits")) | (refine' to_littleI ?aq7 ?cq7 ?bq7 ?dq7 ?_; (case aq7 => k_extra "MINE num"); (case cq7 => k_extra "MINE num"); (case bq7 => k_extra "MINE num"); (case dq7 => k_extra "MINE fits"))); intro _ _))
  k_with "MINE fits" => (first | assumption | exact fits_num (by assumption) | (simp only [Int.reduceToNat, Nat.reducePow]; omega) | (simp only [Int.reduceToNat, Nat.reducePow, Int.reducePow, Int.reduceMul, Int.fmod_eq_emod_of_nonneg, Int.reduceLE]; omega))
  k_with "MINE enter" => ((unfold Fn; k_fill; intro p loose mean mg mb dp un gd cn cs a ccd cl outer A₀ base h₀ L m hp₀ gs₀ dr₀ tk₀ os₀ Q E B F X N T hk hd hu hret; refine wpAny_call ?_; k_dflt ktr_enter))
  k_with "MINE use" => (((case k1 => k_asm); (case k2 => k_asm); (case k3 => k_asm); (case k4 => k_asm); (case k5 => k_asm); (case kK => first | exact rfl | assumption); (case kd => ktr_room); (case ku => ktr_units)))
  k_with "M call builtin:pow" => ((k_here; (with_reducible show wpAny _ _ (call (Value.builtin "pow") [Value.int _ _, Value.int _ _, Value.int _ _]) _ _ _); refine' pow3I ?aq11 ?bq11 ?_; (case aq11 => first | decide | k_extra "MINE num"); (case bq11 => first | decide | k_extra "MINE num"); intro _ _ _))
  k_with "MINE sub" => (first | (intro q hq; exact hq) | ((with_reducible refine' List.forall_mem_cons.mpr ⟨?aq12, ?bq12⟩); (case aq12 => k_mem); (case bq12 => k_extra "MINE sub")) | (intro q hq; (repeat (first | exact hq | refine List.mem_cons_of_mem _ ?_))))
  k_with "M call type:bytes" => ((k_here; (with_reducible show wpAny _ _ (call (Value.type "bytes") [Value.bytes _ _]) _ _ _); refine bb_call ?_))
  k_with "MINE pick" => ((repeat (first | exact Pick.head | apply Pick.tail)))
  k_with "M call builtin:max" => ((k_here; (with_reducible show wpAny _ _ (call (Value.builtin "max") [Value.int _ _, Value.int _ _]) _ _ _); k_dflt (refine' maxI ?hq15 ?Fq15 ?Nq15 ?_; (case hq15 => rfl); (case Fq15 => k_asm); (case Nq15 => k_asm)); intro _ _ _ F' N'; (try k_sweep)))
  k_with "M call builtin:min" => ((k_here; (with_reducible show wpAny _ _ (call (Value.builtin "min") [Value.int _ _, Value.int _ _]) _ _ _); k_dflt (refine' minI ?hq16 ?Fq16 ?Nq16 ?_; (case hq16 => rfl); (case Fq16 => k_asm); (case Nq16 => k_asm)); intro _ _ _ F' N'; (try k_sweep)))
  k_with "M call builtin:max" => ((k_here; (with_reducible show wpAny _ _ (call (Value.builtin "max") [Value.int _ _, Value.int _ _, Value.int _ _]) _ _ _); k_dflt (refine' max3I ?hq17 ?Fq17 ?Nq17 ?_; (case hq17 => rfl); (case Fq17 => k_asm); (case Nq17 => k_asm)); intro _ _ _ F' N'; (try k_sweep)))
  k_with "MINE subD" => ((intro q hq; exact List.mem_cons_of_mem _ hq))
  k_with "MINE steps" => (repeat' (first | (k_unfold; (try dsimp only)) | walk1 | (dsimp only; walk1) | (leave1; walk_say "STEP leave1"; try dsimp only) | fail "no step"))
  k_with "M callWith ref" => ((k_here; (with_reducible show wpAny _ _ (callWith _ (Value.ref (OfNat.ofNat _)) _ _ _) _ _ _); k_dflt (refine' callWith_K ?k1q20 ?k2q20 ?_; (case k1q20 => k_asm); (case k2q20 => k_is); k_whole)))
  k_with "M execs cons" => ((k_here; (try dsimp only); with_reducible refine tk_sum ?_; intro tk9; (try (with_reducible rename Fr _ _ _ _ => Fx9; refine fr_let Fx9 ?_; intro mK Fy9; clear Fx9)); (try k_extra "MINE led")))
  k_with "M execs nil" => ((k_here; (try dsimp only); with_reducible refine tk_sum ?_; intro tk9))
  k_with "MINE lt" => (first | assumption | exact And.left (by assumption) | exact And.left (And.right (by assumption)) | exact And.left (And.right (And.right (by assumption))) | exact And.left (And.right (And.right (And.right (by assumption)))) | exact And.left (And.right (And.right (And.right (And.right (by assumption))))) | exact And.left (And.right (And.right (And.right (And.right (And.right (by assumption)))))) | exact And.left (And.right (And.right (And.right (And.right (And.right (And.right (by assumption))))))) | exact And.left (And.right (And.right (And.right (And.right (And.right (And.right (And.right (by assumption)))))))) | exact And.left (And.right (And.right (And.right (And.right (And.right (And.right (And.right (And.right (by assumption))))))))) | exact And.right (by assumption) | exact And.right (And.right (by assumption)) | exact And.right (And.right (And.right (by assumption))) | fail "not seen less")
  k_with "MINE mul" => (first | ((with_reducible refine mulL ?_); decide) | ((with_reducible refine mulR ?_); decide) | ((with_reducible refine' mulRb ?_ ?_); (focus assumption); decide) | ((with_reducible refine' mulLb ?_ ?_); (focus assumption); decide) | ((with_reducible refine mulRm ?_); decide) | ((with_reducible refine mulLm ?_); decide) | fail "not seen small")
  k_with "M binaryOp Mult int int" => ((k_here; k_dflt (refine' PyProof.Rows.mul_int ?_ ?hmq25; rotate_left; (case hmq25 => k_extra "MINE mul"))))
  k_with "M newTuple" => ((k_here; kup_bare; k_dflt (refine' newTupleV ?Fq26 ?Nq26 ?_ ?zq26; (case Fq26 => k_asm); (case Nq26 => k_asm); (case zq26 => kmk_size)); intro D' h' F' N' l1; (try k_lt l1); (try k_sweep)))
  k_with "MINE gotPR" => ((intro v9 n9 h9 tk9 F9 N9 hp9; obtain ⟨hn9, t9, hv9⟩ := hp9; subst hn9 hv9; (try dsimp only); (try k_fold)))
  k_with "MINE gotB" => ((intro v9 n9 h9 tk9 F9 N9 hp9; obtain ⟨o9, t9, hv9, hn9, ho9⟩ := hp9; subst hn9 hv9; (try dsimp only); (try k_fold)))
  k_with "MINE got" => ((intro v9 n9 h9 tk9 F9 N9 hp9; obtain ⟨hn9, t9, hv9⟩ := hp9; subst hn9 hv9; (try dsimp only); (try k_fold)))
  k_with "M call ref" => ((k_here; (with_reducible show wpAny _ _ (call (Value.ref 90) [Value.int _ _]) _ _ _); k_dflt (refine' Fn.use ?k1 ?k2 ?k3 ?k4 ?k5 ?kK (fn_led _ _ _ _ ) ?kd ?ku ?_; k_extra "MINE use"); k_extra "MINE got"))
  k_with "M call ref" => ((k_here; (with_reducible show wpAny _ _ (call (Value.ref 104) [Value.int _ _]) _ _ _); k_dflt (refine' Fn.use ?k1 ?k2 ?k3 ?k4 ?k5 ?kK (fn_address_of _ _ _ _ ) ?kd ?ku ?_; k_extra "MINE use"); k_extra "MINE got"))
  k_with "M call ref" => ((k_here; (with_reducible show wpAny _ _ (call (Value.ref 230) [Value.int _ _]) _ _ _); k_dflt (refine' Fn.use ?k1 ?k2 ?k3 ?k4 ?k5 ?kK (fn_words_of _ _ _ _ ) ?kd ?ku ?_; k_extra "MINE use"); k_extra "MINE got"))
  k_with "M call ref" => ((k_here; (with_reducible show wpAny _ _ (call (Value.ref 97) [Value.int _ _]) _ _ _); k_dflt (refine' Fn.use ?k1 ?k2 ?k3 ?k4 ?k5 ?kK (fn_word_octets' _ _ _ _ ?c1q33 ?c2q33) ?kd ?ku ?_; k_extra "MINE use"; (case c1q33 => k_extra "MINE num"); (case c2q33 => k_extra "MINE num")); k_extra "MINE got"))
  k_with "M call ref" => ((k_here; (with_reducible show wpAny _ _ (call (Value.ref 237) [Value.bytes _ _, Value.int _ _, Value.int _ _]) _ _ _); k_dflt (refine' Fn.use ?k1 ?k2 ?k3 ?k4 ?k5 ?kK (fn_part_of _ _ _ _ _ _ _ _ ?c1q34 ?c2q34) ?kd ?ku ?_; k_extra "MINE use"; (case c1q34 => k_extra "MINE num"); (case c2q34 => k_extra "MINE num")); k_extra "MINE got"))
  k_with "M call ref" => ((k_here; (with_reducible show wpAny _ _ (call (Value.ref 343) [Value.bytes _ _, Value.int _ _, Value.int _ _]) _ _ _); k_dflt (refine' Fn.use ?k1 ?k2 ?k3 ?k4 ?k5 ?kK (fn_law_part' _ _ _ _ _ _ _ _ ?c1q35 ?c2q35 ?c3q35 ?c4q35) ?kd ?ku ?_; k_extra "MINE use"; (case c1q35 => k_extra "MINE num"); (case c2q35 => k_extra "MINE num"); (case c3q35 => k_extra "MINE num"); (case c4q35 => k_extra "MINE num")); k_extra "MINE got"))
  k_with "M call ref" => ((k_here; (with_reducible show wpAny _ _ (call (Value.ref 343) [Value.bytes _ _, Value.int _ _, Value.int _ _]) _ _ _); k_dflt (refine' Fn.use ?k1 ?k2 ?k3 ?k4 ?k5 ?kK (fn_law_part _ _ _ _ _ _ _ _ ?c1q36 ?c2q36) ?kd ?ku ?_; k_extra "MINE use"; (case c1q36 => k_extra "MINE num"); (case c2q36 => k_extra "MINE num")); k_extra "MINE got"))
  k_with "M call ref" => ((k_here; (with_reducible show wpAny _ _ (call (Value.ref 244) [Value.bytes _ _, Value.int _ _, Value.int _ _]) _ _ _); k_dflt (refine' Fn.use ?k1 ?k2 ?k3 ?k4 ?k5 ?kK (fn_number_at' _ _ _ _ _ _ _ _ ?c1q37 ?c2q37 ?c3q37 ?c4q37) ?kd ?ku ?_; k_extra "MINE use"; (case c1q37 => k_extra "MINE num"); (case c2q37 => k_extra "MINE num"); (case c3q37 => k_extra "MINE num"); (case c4q37 => k_extra "MINE num")); k_extra "MINE got"))
  k_with "M call ref" => ((k_here; (with_reducible show wpAny _ _ (call (Value.ref 244) [Value.bytes _ _, Value.int _ _, Value.int _ _]) _ _ _); k_dflt (refine' Fn.use ?k1 ?k2 ?k3 ?k4 ?k5 ?kK (fn_number_at _ _ _ _ _ _ _ _ ?c1q38 ?c2q38) ?kd ?ku ?_; k_extra "MINE use"; (case c1q38 => k_extra "MINE num"); (case c2q38 => k_extra "MINE num")); k_extra "MINE got"))
  k_with "M call ref" => ((k_here; (with_reducible show wpAny _ _ (call (Value.ref 249) [Value.bytes _ _, Value.ref _]) _ _ _); k_dflt (refine' Fn.useP ?k1 ?k2 ?k3 ?k4 ?k5 ?kK ?kpq39 (fn_recovery  ?c1q39 ?c2q39 ?c3q39 ?c4q39 ?c5q39 ?c6q39) ?kd ?ku ?_; k_extra "MINE use"; (case c3q39 => first | assumption | omega); (case kpq39 => k_extra "MINE pick"); (case c1q39 => first | assumption | exact SetAt.more (by assumption) (by k_extra "MINE sub")); (case c2q39 => k_all); (case c4q39 => first | assumption | omega); (case c5q39 => k_extra "MINE num"); (case c6q39 => k_extra "MINE num")); k_extra "MINE gotB"))
  k_with "M call ref" => ((k_here; (with_reducible show wpAny _ _ (call (Value.ref 256) [Value.bytes _ _, Value.int _ _, Value.int _ _]) _ _ _); k_dflt (refine' Fn.use ?k1 ?k2 ?k3 ?k4 ?k5 ?kK (fn_power_rounds _ _ _ _ _ _ _ _ ?c1q40 ?c2q40 ?c3q40) ?kd ?ku ?_; k_extra "MINE use"; (case c1q40 => k_extra "MINE num"); (case c2q40 => k_extra "MINE num"); (case c3q40 => k_extra "MINE num")); k_extra "MINE gotPR"))
  k_with "M call ref" => ((k_here; (with_reducible show wpAny _ _ (call (Value.ref 261) [Value.bytes _ _]) _ _ _); k_dflt (refine' Fn.use ?k1 ?k2 ?k3 ?k4 ?k5 ?kK (fn_power_cost _ _ _ _ ?c1q41 ?c2q41) ?kd ?ku ?_; k_extra "MINE use"; (case c1q41 => k_extra "MINE num"); (case c2q41 => first | assumption | omega)); k_extra "MINE got"))
  k_with "M call ref" => ((k_here; (with_reducible show wpAny _ _ (call (Value.ref 266) [Value.bytes _ _]) _ _ _); k_dflt (refine' Fn.use ?k1 ?k2 ?k3 ?k4 ?k5 ?kK (fn_raised _ _ _ _ ?c1q42 ?c2q42 ?c3q42) ?kd ?ku ?_; k_extra "MINE use"; (case c1q42 => k_extra "MINE num"); (case c2q42 => first | assumption | omega); (case c3q42 => first | assumption | exact prC_small (by assumption) (by omega))); k_extra "MINE got"))
  k_with "MINE cond" => (first | exact True.intro | ((try dsimp only [cP, cAnd]); (repeat' (first | exact True.intro | refine And.intro ?_ ?_)); all_goals first | k_extra "MINE mul" | mul_fits | decide | omega | assumption))
  k_with "M eval BinOp" => ((k_here; (try dsimp only); k_dflt (refine' pe_int ?Fq44 ?fq44 ?hq44 ?cq44 ?_; (case Fq44 => k_asm); (case fq44 => exact rfl); (case hq44 => exact rfl); (case cq44 => k_extra "MINE cond")); intro t9 tk9; (try dsimp only)))
  k_with "M isTrue Compare" => ((k_here; (try dsimp only); k_dflt (refine' pe_cmp ?Fq45 ?fq45 noOrc_ok ?hq45 ?iq45 ?jq45 ?bq45 ?cq45 ?_; (case Fq45 => k_asm); (case fq45 => exact rfl); (case hq45 => exact rfl); (case iq45 => exact rfl); (case jq45 => exact rfl); (case bq45 => exact rfl); (case cq45 => k_extra "MINE cond")); intro tk9; (try dsimp only)))
  k_with "M eval Tuple" => ((k_here; (try dsimp only); k_dflt (first | (refine' pe_tup2 ?Fq46 ?Nq46 ?fq46 noOrc_ok ?hq46 ?iq46 ?sq46 ?uq46 ?cq46 ?_; (case Fq46 => k_asm); (case Nq46 => k_asm); (case fq46 => exact rfl); (case hq46 => exact rfl); (case iq46 => exact rfl); (case sq46 => exact rfl); (case uq46 => exact rfl); (case cq46 => k_extra "MINE cond"); intro a9 h9 t9 u9 tk9 F9 N9 l9) | (refine' pe_tup3 ?Fq46 ?Nq46 ?fq46 noOrc_ok ?hq46 ?iq46 ?jq46 ?sq46 ?uq46 ?vq46 ?cq46 ?_; (case Fq46 => k_asm); (case Nq46 => k_asm); (case fq46 => exact rfl); (case hq46 => exact rfl); (case iq46 => exact rfl); (case jq46 => exact rfl); (case sq46 => exact rfl); (case uq46 => exact rfl); (case vq46 => exact rfl); (case cq46 => k_extra "MINE cond"); intro a9 h9 t9 u9 v9 tk9 F9 N9 l9)); (have l9c := l9); (try k_lt l9); (try k_sweep); (try dsimp only)))
  k_with "M execs cons" => ((k_here; (with_reducible show wpAny _ _ (execs (Stmt.Assign [Expr.Name _ _] _ _ :: _) _) _ _ _); (try dsimp only); k_dflt (refine' pe_one ?Fq47 ?Nq47 ?fq47 noOrc_ok ?hq47 ?xq47 ?sq47 ?cq47 ?_; (case Fq47 => k_asm); (case Nq47 => k_asm); (case fq47 => exact rfl); (case hq47 => exact rfl); (case xq47 => exact rfl); (case sq47 => with_unfolding_all exact rfl); (case cq47 => k_extra "MINE cond"); intro h9 t9 tk9 F9 N9); (try k_sweep)))
  k_with "M execs cons" => ((k_here; (with_reducible show wpAny _ _ (execs (Stmt.Assign [Expr.Tuple [Expr.Name _ _, Expr.Name _ _] _ _] (Expr.Tuple [_, _] _ _) _ :: _) _) _ _ _); (try dsimp only); k_dflt (refine' pe_two ?Fq48 ?Nq48 ?fq48 noOrc_ok ?kq48 ?hq48 ?iq48 ?xq48 ?yq48 ?sq48 ?wq48 ?uq48 ?vq48 ?cq48 ?_; (case Fq48 => k_asm); (case Nq48 => k_asm); (case fq48 => exact rfl); (case kq48 => exact rfl); (case hq48 => exact rfl); (case iq48 => exact rfl); (case xq48 => exact rfl); (case yq48 => exact rfl); (case sq48 => with_unfolding_all exact rfl); (case wq48 => with_unfolding_all exact rfl); (case uq48 => exact rfl); (case vq48 => exact rfl); (case cq48 => k_extra "MINE cond"); intro h9 t9 u9 tk9 F9 N9); (try k_sweep)))
  k_with "M eval Call" => (k_fold)
  k_with "M eval Tuple" => (k_fold)
  k_with "M eval BinOp" => (k_fold)
  k_with "M eval Subscript" => (k_fold)
  k_with "M eval IfExp" => (k_fold)
  k_with "M isTrue Compare" => (k_fold)
  k_with "M isTrue BoolOp" => (k_fold)
  k_with "M exec If" => (k_fold)
  k_with "M exec Return" => (k_fold)
  k_with "MINE t k_room" => (ktr_room)
  k_with "MINE t k_units" => (ktr_units)
  k_with "MINE t k_mem" => (first | with_reducible assumption | assumption | exact List.Mem.head _ | (refine' List.Mem.tail _ ?_; k_mem))
  k_with "MINE t k_all" => (first | assumption | exact cellNe (by assumption) (by k_extra "MINE sub") | exact List.forall_mem_nil _ | (refine' List.forall_mem_cons.mpr ⟨?aq61, ?bq61⟩; (case aq61 => first | k_ne | assumption); (case bq61 => k_all)))
  k_with "MINE t ktr_room" => (first | (refine' rm2 ?hq62 ?bq62; (case hq62 => assumption); (case bq62 => exact rfl)) | (refine' rm1 ?hq62 ?bq62; (case hq62 => assumption); (case bq62 => exact rfl)) | (refine' rm3 ?hq62 ?bq62; (case hq62 => assumption); (case bq62 => exact rfl)) | exact rm0 (by assumption) | fail "no room")
  k_with "MINE t ktr_units" => (first | (refine' rm2 ?hq63 ?bq63; (case hq63 => assumption); (case bq63 => exact rfl)) | (refine' rm1 ?hq63 ?bq63; (case hq63 => assumption); (case bq63 => exact rfl)) | (refine' rm3 ?hq63 ?bq63; (case hq63 => assumption); (case bq63 => exact rfl)) | exact rm0 (by assumption) | fail "no room")
  k_with "MINE t k_ne" => (with_reducible (first | assumption | exact Nat.ne_of_lt (by k_extra "MINE lt") | exact Nat.ne_of_gt (by k_extra "MINE lt") | exact Ne.symm (by assumption) | k_extra "MINE lt" | exact Ne.symm (by k_extra "MINE lt") | fail "not seen unlike"))
  trivial
theorem fn_pre4 {w : World} {news : Led} {kd : Addr} {o : Obj} {ks : List Int} {l : List UInt8} {t t1 t2 : Tok} {g : Int} {vst : Value} (hne : ∀ q ∈ news, q.1 ≠ kd) (ho : DigO w o ks) (hl : l.length ≤ 300) :
    Fn w 60 240 280 ((kd, o) :: news) [.int 4 t1, .bytes l.toArray t, .int g t2, vst] (fun v news' => if 15 + 3 * (((l.length + 31) / 32 : Nat) : Int) ≤ g then OutB w kd news true (g - (15 + 3 * (((l.length + 31) / 32 : Nat) : Int))) l "" ks v news' else OutB w kd news false 0 [] "gas" ks v news') := by
  (unfold Fn; k_fill; intro pg loose mean mg mb dp un gd cn cs a ccd cl outer A₀ base h₀ L m hp₀ gs₀ dr₀ tk₀ os₀ Q E B F X N T hk hd hu hret; refine wpAny_call ?_; k_dflt ktr_enter; refine wp_let ?_; intro Ak)
  k_steps
  · (refine' hret _ ((_, instObj 219 _) :: (_, outD w.params false (0) ([]) "gas" _ _ _ _ _ _ _ _) :: (kd, _) :: news) _ _ (by k_asm) (by refine cb_drop (by k_asm) ?_; k_extra "MINE sub") ?post; (case post => dsimp only; rw [if_neg (show ¬ 15 + 3 * (((l.length + 31) / 32 : Nat) : Int) ≤ g by omega)]; refine' ⟨_, _, _, _, _, _, _, _, _, _, _, rfl, rfl, ?ob9, ?nb9, ?nc9⟩; (case ob9 => assumption); (case nb9 => k_ne); (case nc9 => k_ne)))
  · (refine' hret _ ((_, instObj 219 _) :: (_, outD w.params true (g - (15 + 3 * (((l.length + 31) / 32 : Nat) : Int))) (l) "" _ _ _ _ _ _ _ _) :: (kd, _) :: news) _ _ (by k_asm) (by refine cb_drop (by k_asm) ?_; k_extra "MINE sub") ?post; (case post => dsimp only; rw [if_pos (show 15 + 3 * (((l.length + 31) / 32 : Nat) : Int) ≤ g by omega)]; refine' ⟨_, _, _, _, _, _, _, _, _, _, _, rfl, rfl, ?ob9, ?nb9, ?nc9⟩; (case ob9 => assumption); (case nb9 => k_ne); (case nc9 => k_ne)))
theorem lines_C23 : True := by
  w_top off
  k_with_none
  k_with "MINE len" => (((try simp only [List.length_append, List.length_take, List.length_drop, List.length_replicate, List.length_cons, List.length_nil, cutL_length, beL_length, leL_length, partL_length, KBa_byteArr_length, List.length_map, rangeKs_length] at *); omega))
  k_with "MINE num" => (first | omega | assumption | (simp only [Int.reduceToNat, Int.reducePow, Int.reduceMul, Int.fmod_eq_emod_of_nonneg, Int.reduceLE]; omega) | k_extra "MINE len")
  k_with "M call type:bytes" => ((k_here; (with_reducible show wpAny _ _ (call (Value.type "bytes") [Value.int _ _]) _ _ _); refine' bz_call ?h0q2 ?hNq2 ?_; (case h0q2 => k_extra "MINE num"); (case hNq2 => k_extra "MINE num"); intro _ _))
  k_with "M call builtin:len" => ((k_here; (with_reducible show wpAny _ _ (call (Value.builtin "len") [Value.bytes (List.toArray _) _]) _ _ _); refine' len_L ?h0q3 ?_; (case h0q3 => k_extra "MINE num"); intro _ _))
  k_with "M binaryOp Add bytes bytes" => ((k_here; (with_reducible show wpAny _ _ (binaryOp Operator.Add (Value.bytes (List.toArray _) _) (Value.bytes (List.toArray _) _)) _ _ _); refine' add_L ?h0q4 ?_; (case h0q4 => k_extra "MINE num"); intro _ _))
  k_with "M call ref" => ((k_here; (with_reducible show wpAny _ _ (call (Value.ref _) [Value.bytes (List.toArray _) _, Value.str _ _]) _ _ _); kfb_any; k_dflt (refine' from_big ?h1q5 ?h2q5 ?h3q5 ?_; (case h1q5 => k_asm); (case h2q5 => k_mem); (case h3q5 => k_extra "MINE num")); intro _ _))
  k_with "M subscriptTail" => ((k_here; (with_reducible show wpAny _ _ (subscriptTail _ (Expr.Slice _ _ none _) (Value.bytes (List.toArray _) _) (Value.ref _)) _ _ _); (with_reducible rename Fr _ _ _ _ => F'); (with_reducible rename News _ _ _ _ => N'); (first | (refine' slice_ab (s := ⟨_, _, _, _, _⟩) F' N' ?aq6 ?bq6 ?zq6 ?_; (case aq6 => k_extra "MINE num"); (case bq6 => k_extra "MINE num"); (case zq6 => k_extra "MINE num")) | (refine' slice_to (s := ⟨_, _, _, _, _⟩) F' N' ?bq6 ?zq6 ?_; (case bq6 => k_extra "MINE num"); (case zq6 => k_extra "MINE num")) | (refine' slice_from (s := ⟨_, _, _, _, _⟩) F' N' ?aq6 ?zq6 ?_; (case aq6 => k_extra "MINE num"); (case zq6 => k_extra "MINE num"))); intro _ _ _ F' N'))
  k_with "M call builtin:int.to_bytes" => ((k_here; (with_reducible show wpAny _ _ (call (Value.builtin "int.to_bytes") [Value.int _ _, Value.int _ _, Value.str _ _]) _ _ _); (first | (refine' to_bigI ?aq7 ?cq7 ?bq7 ?dq7 ?_; (case aq7 => k_extra "MINE num"); (case cq7 => k_extra "MINE num"); (case bq7 => k_extra "MINE num"); (case dq7 => k_extra "MINE fits")) | (refine' to_littleI ?aq7 ?cq7 ?bq7 ?dq7 ?_; (case aq7 => k_extra "MINE num"); (case cq7 => k_extra "MINE num"); (case bq7 => k_extra "MINE num"); (case dq7 => k_extra "MINE fits"))); intro _ _))
  k_with "MINE fits" => (first | assumption | exact fits_num (by assumption) | (simp only [Int.reduceToNat, Nat.reducePow]; omega) | (simp only [Int.reduceToNat, Nat.reducePow, Int.reducePow, Int.reduceMul, Int.fmod_eq_emod_of_nonneg, Int.reduceLE]; omega))
  k_with "MINE enter" => ((unfold Fn; k_fill; intro p loose mean mg mb dp un gd cn cs a ccd cl outer A₀ base h₀ L m hp₀ gs₀ dr₀ tk₀ os₀ Q E B F X N T hk hd hu hret; refine wpAny_call ?_; k_dflt ktr_enter))
  k_with "MINE use" => (((case k1 => k_asm); (case k2 => k_asm); (case k3 => k_asm); (case k4 => k_asm); (case k5 => k_asm); (case kK => first | exact rfl | assumption); (case kd => ktr_room); (case ku => ktr_units)))
  k_with "M call builtin:pow" => ((k_here; (with_reducible show wpAny _ _ (call (Value.builtin "pow") [Value.int _ _, Value.int _ _, Value.int _ _]) _ _ _); refine' pow3I ?aq11 ?bq11 ?_; (case aq11 => first | decide | k_extra "MINE num"); (case bq11 => first | decide | k_extra "MINE num"); intro _ _ _))
  k_with "MINE sub" => (first | (intro q hq; exact hq) | ((with_reducible refine' List.forall_mem_cons.mpr ⟨?aq12, ?bq12⟩); (case aq12 => k_mem); (case bq12 => k_extra "MINE sub")) | (intro q hq; (repeat (first | exact hq | refine List.mem_cons_of_mem _ ?_))))
  k_with "M call type:bytes" => ((k_here; (with_reducible show wpAny _ _ (call (Value.type "bytes") [Value.bytes _ _]) _ _ _); refine bb_call ?_))
  k_with "MINE pick" => ((repeat (first | exact Pick.head | apply Pick.tail)))
  k_with "M call builtin:max" => ((k_here; (with_reducible show wpAny _ _ (call (Value.builtin "max") [Value.int _ _, Value.int _ _]) _ _ _); k_dflt (refine' maxI ?hq15 ?Fq15 ?Nq15 ?_; (case hq15 => rfl); (case Fq15 => k_asm); (case Nq15 => k_asm)); intro _ _ _ F' N'; (try k_sweep)))
  k_with "M call builtin:min" => ((k_here; (with_reducible show wpAny _ _ (call (Value.builtin "min") [Value.int _ _, Value.int _ _]) _ _ _); k_dflt (refine' minI ?hq16 ?Fq16 ?Nq16 ?_; (case hq16 => rfl); (case Fq16 => k_asm); (case Nq16 => k_asm)); intro _ _ _ F' N'; (try k_sweep)))
  k_with "M call builtin:max" => ((k_here; (with_reducible show wpAny _ _ (call (Value.builtin "max") [Value.int _ _, Value.int _ _, Value.int _ _]) _ _ _); k_dflt (refine' max3I ?hq17 ?Fq17 ?Nq17 ?_; (case hq17 => rfl); (case Fq17 => k_asm); (case Nq17 => k_asm)); intro _ _ _ F' N'; (try k_sweep)))
  k_with "MINE subD" => ((intro q hq; exact List.mem_cons_of_mem _ hq))
  k_with "MINE steps" => (repeat' (first | (k_unfold; (try dsimp only)) | walk1 | (dsimp only; walk1) | (leave1; walk_say "STEP leave1"; try dsimp only) | fail "no step"))
  k_with "M callWith ref" => ((k_here; (with_reducible show wpAny _ _ (callWith _ (Value.ref (OfNat.ofNat _)) _ _ _) _ _ _); k_dflt (refine' callWith_K ?k1q20 ?k2q20 ?_; (case k1q20 => k_asm); (case k2q20 => k_is); k_whole)))
  k_with "M execs cons" => ((k_here; (try dsimp only); with_reducible refine tk_sum ?_; intro tk9; (try (with_reducible rename Fr _ _ _ _ => Fx9; refine fr_let Fx9 ?_; intro mK Fy9; clear Fx9)); (try k_extra "MINE led")))
  k_with "M execs nil" => ((k_here; (try dsimp only); with_reducible refine tk_sum ?_; intro tk9))
  k_with "MINE lt" => (first | assumption | exact And.left (by assumption) | exact And.left (And.right (by assumption)) | exact And.left (And.right (And.right (by assumption))) | exact And.left (And.right (And.right (And.right (by assumption)))) | exact And.left (And.right (And.right (And.right (And.right (by assumption))))) | exact And.left (And.right (And.right (And.right (And.right (And.right (by assumption)))))) | exact And.left (And.right (And.right (And.right (And.right (And.right (And.right (by assumption))))))) | exact And.left (And.right (And.right (And.right (And.right (And.right (And.right (And.right (by assumption)))))))) | exact And.left (And.right (And.right (And.right (And.right (And.right (And.right (And.right (And.right (by assumption))))))))) | exact And.right (by assumption) | exact And.right (And.right (by assumption)) | exact And.right (And.right (And.right (by assumption))) | fail "not seen less")
  k_with "MINE mul" => (first | ((with_reducible refine mulL ?_); decide) | ((with_reducible refine mulR ?_); decide) | ((with_reducible refine' mulRb ?_ ?_); (focus assumption); decide) | ((with_reducible refine' mulLb ?_ ?_); (focus assumption); decide) | ((with_reducible refine mulRm ?_); decide) | ((with_reducible refine mulLm ?_); decide) | fail "not seen small")
  k_with "M binaryOp Mult int int" => ((k_here; k_dflt (refine' PyProof.Rows.mul_int ?_ ?hmq25; rotate_left; (case hmq25 => k_extra "MINE mul"))))
  k_with "M newTuple" => ((k_here; kup_bare; k_dflt (refine' newTupleV ?Fq26 ?Nq26 ?_ ?zq26; (case Fq26 => k_asm); (case Nq26 => k_asm); (case zq26 => kmk_size)); intro D' h' F' N' l1; (try k_lt l1); (try k_sweep)))
  k_with "MINE gotPR" => ((intro v9 n9 h9 tk9 F9 N9 hp9; obtain ⟨hn9, t9, hv9⟩ := hp9; subst hn9 hv9; (try dsimp only); (try k_fold)))
  k_with "MINE gotB" => ((intro v9 n9 h9 tk9 F9 N9 hp9; obtain ⟨o9, t9, hv9, hn9, ho9⟩ := hp9; subst hn9 hv9; (try dsimp only); (try k_fold)))
  k_with "MINE got" => ((intro v9 n9 h9 tk9 F9 N9 hp9; obtain ⟨hn9, t9, hv9⟩ := hp9; subst hn9 hv9; (try dsimp only); (try k_fold)))
  k_with "M call ref" => ((k_here; (with_reducible show wpAny _ _ (call (Value.ref 90) [Value.int _ _]) _ _ _); k_dflt (refine' Fn.use ?k1 ?k2 ?k3 ?k4 ?k5 ?kK (fn_led _ _ _ _ ) ?kd ?ku ?_; k_extra "MINE use"); k_extra "MINE got"))
  k_with "M call ref" => ((k_here; (with_reducible show wpAny _ _ (call (Value.ref 104) [Value.int _ _]) _ _ _); k_dflt (refine' Fn.use ?k1 ?k2 ?k3 ?k4 ?k5 ?kK (fn_address_of _ _ _ _ ) ?kd ?ku ?_; k_extra "MINE use"); k_extra "MINE got"))
  k_with "M call ref" => ((k_here; (with_reducible show wpAny _ _ (call (Value.ref 230) [Value.int _ _]) _ _ _); k_dflt (refine' Fn.use ?k1 ?k2 ?k3 ?k4 ?k5 ?kK (fn_words_of _ _ _ _ ) ?kd ?ku ?_; k_extra "MINE use"); k_extra "MINE got"))
  k_with "M call ref" => ((k_here; (with_reducible show wpAny _ _ (call (Value.ref 97) [Value.int _ _]) _ _ _); k_dflt (refine' Fn.use ?k1 ?k2 ?k3 ?k4 ?k5 ?kK (fn_word_octets' _ _ _ _ ?c1q33 ?c2q33) ?kd ?ku ?_; k_extra "MINE use"; (case c1q33 => k_extra "MINE num"); (case c2q33 => k_extra "MINE num")); k_extra "MINE got"))
  k_with "M call ref" => ((k_here; (with_reducible show wpAny _ _ (call (Value.ref 237) [Value.bytes _ _, Value.int _ _, Value.int _ _]) _ _ _); k_dflt (refine' Fn.use ?k1 ?k2 ?k3 ?k4 ?k5 ?kK (fn_part_of _ _ _ _ _ _ _ _ ?c1q34 ?c2q34) ?kd ?ku ?_; k_extra "MINE use"; (case c1q34 => k_extra "MINE num"); (case c2q34 => k_extra "MINE num")); k_extra "MINE got"))
  k_with "M call ref" => ((k_here; (with_reducible show wpAny _ _ (call (Value.ref 343) [Value.bytes _ _, Value.int _ _, Value.int _ _]) _ _ _); k_dflt (refine' Fn.use ?k1 ?k2 ?k3 ?k4 ?k5 ?kK (fn_law_part' _ _ _ _ _ _ _ _ ?c1q35 ?c2q35 ?c3q35 ?c4q35) ?kd ?ku ?_; k_extra "MINE use"; (case c1q35 => k_extra "MINE num"); (case c2q35 => k_extra "MINE num"); (case c3q35 => k_extra "MINE num"); (case c4q35 => k_extra "MINE num")); k_extra "MINE got"))
  k_with "M call ref" => ((k_here; (with_reducible show wpAny _ _ (call (Value.ref 343) [Value.bytes _ _, Value.int _ _, Value.int _ _]) _ _ _); k_dflt (refine' Fn.use ?k1 ?k2 ?k3 ?k4 ?k5 ?kK (fn_law_part _ _ _ _ _ _ _ _ ?c1q36 ?c2q36) ?kd ?ku ?_; k_extra "MINE use"; (case c1q36 => k_extra "MINE num"); (case c2q36 => k_extra "MINE num")); k_extra "MINE got"))
  k_with "M call ref" => ((k_here; (with_reducible show wpAny _ _ (call (Value.ref 244) [Value.bytes _ _, Value.int _ _, Value.int _ _]) _ _ _); k_dflt (refine' Fn.use ?k1 ?k2 ?k3 ?k4 ?k5 ?kK (fn_number_at' _ _ _ _ _ _ _ _ ?c1q37 ?c2q37 ?c3q37 ?c4q37) ?kd ?ku ?_; k_extra "MINE use"; (case c1q37 => k_extra "MINE num"); (case c2q37 => k_extra "MINE num"); (case c3q37 => k_extra "MINE num"); (case c4q37 => k_extra "MINE num")); k_extra "MINE got"))
  k_with "M call ref" => ((k_here; (with_reducible show wpAny _ _ (call (Value.ref 244) [Value.bytes _ _, Value.int _ _, Value.int _ _]) _ _ _); k_dflt (refine' Fn.use ?k1 ?k2 ?k3 ?k4 ?k5 ?kK (fn_number_at _ _ _ _ _ _ _ _ ?c1q38 ?c2q38) ?kd ?ku ?_; k_extra "MINE use"; (case c1q38 => k_extra "MINE num"); (case c2q38 => k_extra "MINE num")); k_extra "MINE got"))
  k_with "M call ref" => ((k_here; (with_reducible show wpAny _ _ (call (Value.ref 249) [Value.bytes _ _, Value.ref _]) _ _ _); k_dflt (refine' Fn.useP ?k1 ?k2 ?k3 ?k4 ?k5 ?kK ?kpq39 (fn_recovery  ?c1q39 ?c2q39 ?c3q39 ?c4q39 ?c5q39 ?c6q39) ?kd ?ku ?_; k_extra "MINE use"; (case c3q39 => first | assumption | omega); (case kpq39 => k_extra "MINE pick"); (case c1q39 => first | assumption | exact SetAt.more (by assumption) (by k_extra "MINE sub")); (case c2q39 => k_all); (case c4q39 => first | assumption | omega); (case c5q39 => k_extra "MINE num"); (case c6q39 => k_extra "MINE num")); k_extra "MINE gotB"))
  k_with "M call ref" => ((k_here; (with_reducible show wpAny _ _ (call (Value.ref 256) [Value.bytes _ _, Value.int _ _, Value.int _ _]) _ _ _); k_dflt (refine' Fn.use ?k1 ?k2 ?k3 ?k4 ?k5 ?kK (fn_power_rounds _ _ _ _ _ _ _ _ ?c1q40 ?c2q40 ?c3q40) ?kd ?ku ?_; k_extra "MINE use"; (case c1q40 => k_extra "MINE num"); (case c2q40 => k_extra "MINE num"); (case c3q40 => k_extra "MINE num")); k_extra "MINE gotPR"))
  k_with "M call ref" => ((k_here; (with_reducible show wpAny _ _ (call (Value.ref 261) [Value.bytes _ _]) _ _ _); k_dflt (refine' Fn.use ?k1 ?k2 ?k3 ?k4 ?k5 ?kK (fn_power_cost _ _ _ _ ?c1q41 ?c2q41) ?kd ?ku ?_; k_extra "MINE use"; (case c1q41 => k_extra "MINE num"); (case c2q41 => first | assumption | omega)); k_extra "MINE got"))
  k_with "M call ref" => ((k_here; (with_reducible show wpAny _ _ (call (Value.ref 266) [Value.bytes _ _]) _ _ _); k_dflt (refine' Fn.use ?k1 ?k2 ?k3 ?k4 ?k5 ?kK (fn_raised _ _ _ _ ?c1q42 ?c2q42 ?c3q42) ?kd ?ku ?_; k_extra "MINE use"; (case c1q42 => k_extra "MINE num"); (case c2q42 => first | assumption | omega); (case c3q42 => first | assumption | exact prC_small (by assumption) (by omega))); k_extra "MINE got"))
  k_with "MINE cond" => (first | exact True.intro | ((try dsimp only [cP, cAnd]); (repeat' (first | exact True.intro | refine And.intro ?_ ?_)); all_goals first | k_extra "MINE mul" | mul_fits | decide | omega | assumption))
  k_with "M eval BinOp" => ((k_here; (try dsimp only); k_dflt (refine' pe_int ?Fq44 ?fq44 ?hq44 ?cq44 ?_; (case Fq44 => k_asm); (case fq44 => exact rfl); (case hq44 => exact rfl); (case cq44 => k_extra "MINE cond")); intro t9 tk9; (try dsimp only)))
  k_with "M isTrue Compare" => ((k_here; (try dsimp only); k_dflt (refine' pe_cmp ?Fq45 ?fq45 noOrc_ok ?hq45 ?iq45 ?jq45 ?bq45 ?cq45 ?_; (case Fq45 => k_asm); (case fq45 => exact rfl); (case hq45 => exact rfl); (case iq45 => exact rfl); (case jq45 => exact rfl); (case bq45 => exact rfl); (case cq45 => k_extra "MINE cond")); intro tk9; (try dsimp only)))
  k_with "M eval Tuple" => ((k_here; (try dsimp only); k_dflt (first | (refine' pe_tup2 ?Fq46 ?Nq46 ?fq46 noOrc_ok ?hq46 ?iq46 ?sq46 ?uq46 ?cq46 ?_; (case Fq46 => k_asm); (case Nq46 => k_asm); (case fq46 => exact rfl); (case hq46 => exact rfl); (case iq46 => exact rfl); (case sq46 => exact rfl); (case uq46 => exact rfl); (case cq46 => k_extra "MINE cond"); intro a9 h9 t9 u9 tk9 F9 N9 l9) | (refine' pe_tup3 ?Fq46 ?Nq46 ?fq46 noOrc_ok ?hq46 ?iq46 ?jq46 ?sq46 ?uq46 ?vq46 ?cq46 ?_; (case Fq46 => k_asm); (case Nq46 => k_asm); (case fq46 => exact rfl); (case hq46 => exact rfl); (case iq46 => exact rfl); (case jq46 => exact rfl); (case sq46 => exact rfl); (case uq46 => exact rfl); (case vq46 => exact rfl); (case cq46 => k_extra "MINE cond"); intro a9 h9 t9 u9 v9 tk9 F9 N9 l9)); (have l9c := l9); (try k_lt l9); (try k_sweep); (try dsimp only)))
  k_with "M execs cons" => ((k_here; (with_reducible show wpAny _ _ (execs (Stmt.Assign [Expr.Name _ _] _ _ :: _) _) _ _ _); (try dsimp only); k_dflt (refine' pe_one ?Fq47 ?Nq47 ?fq47 noOrc_ok ?hq47 ?xq47 ?sq47 ?cq47 ?_; (case Fq47 => k_asm); (case Nq47 => k_asm); (case fq47 => exact rfl); (case hq47 => exact rfl); (case xq47 => exact rfl); (case sq47 => with_unfolding_all exact rfl); (case cq47 => k_extra "MINE cond"); intro h9 t9 tk9 F9 N9); (try k_sweep)))
  k_with "M execs cons" => ((k_here; (with_reducible show wpAny _ _ (execs (Stmt.Assign [Expr.Tuple [Expr.Name _ _, Expr.Name _ _] _ _] (Expr.Tuple [_, _] _ _) _ :: _) _) _ _ _); (try dsimp only); k_dflt (refine' pe_two ?Fq48 ?Nq48 ?fq48 noOrc_ok ?kq48 ?hq48 ?iq48 ?xq48 ?yq48 ?sq48 ?wq48 ?uq48 ?vq48 ?cq48 ?_; (case Fq48 => k_asm); (case Nq48 => k_asm); (case fq48 => exact rfl); (case kq48 => exact rfl); (case hq48 => exact rfl); (case iq48 => exact rfl); (case xq48 => exact rfl); (case yq48 => exact rfl); (case sq48 => with_unfolding_all exact rfl); (case wq48 => with_unfolding_all exact rfl); (case uq48 => exact rfl); (case vq48 => exact rfl); (case cq48 => k_extra "MINE cond"); intro h9 t9 u9 tk9 F9 N9); (try k_sweep)))
  k_with "M eval Call" => (k_fold)
  k_with "M eval Tuple" => (k_fold)
  k_with "M eval BinOp" => (k_fold)
  k_with "M eval Subscript" => (k_fold)
  k_with "M eval IfExp" => (k_fold)
  k_with "M isTrue Compare" => (k_fold)
  k_with "M isTrue BoolOp" => (k_fold)
  k_with "M exec If" => (k_fold)
  k_with "M exec Return" => (k_fold)
  k_with "MINE t k_room" => (ktr_room)
  k_with "MINE t k_units" => (ktr_units)
  k_with "MINE t k_mem" => (first | with_reducible assumption | assumption | exact List.Mem.head _ | (refine' List.Mem.tail _ ?_; k_mem))
  k_with "MINE t k_all" => (first | assumption | exact cellNe (by assumption) (by k_extra "MINE sub") | exact List.forall_mem_nil _ | (refine' List.forall_mem_cons.mpr ⟨?aq61, ?bq61⟩; (case aq61 => first | k_ne | assumption); (case bq61 => k_all)))
  k_with "MINE t ktr_room" => (first | (refine' rm2 ?hq62 ?bq62; (case hq62 => assumption); (case bq62 => exact rfl)) | (refine' rm1 ?hq62 ?bq62; (case hq62 => assumption); (case bq62 => exact rfl)) | (refine' rm3 ?hq62 ?bq62; (case hq62 => assumption); (case bq62 => exact rfl)) | exact rm0 (by assumption) | fail "no room")
  k_with "MINE t ktr_units" => (first | (refine' rm2 ?hq63 ?bq63; (case hq63 => assumption); (case bq63 => exact rfl)) | (refine' rm1 ?hq63 ?bq63; (case hq63 => assumption); (case bq63 => exact rfl)) | (refine' rm3 ?hq63 ?bq63; (case hq63 => assumption); (case bq63 => exact rfl)) | exact rm0 (by assumption) | fail "no room")
  k_with "MINE t k_ne" => (with_reducible (first | assumption | exact Nat.ne_of_lt (by k_extra "MINE lt") | exact Nat.ne_of_gt (by k_extra "MINE lt") | exact Ne.symm (by assumption) | k_extra "MINE lt" | exact Ne.symm (by k_extra "MINE lt") | fail "not seen unlike"))
  trivial
theorem fn_pre5 {w : World} {news : Led} {kd : Addr} {o : Obj} {ks : List Int} {l : List UInt8} {t t1 t2 : Tok} {g : Int} {vst : Value} (hne : ∀ q ∈ news, q.1 ≠ kd) (ho : DigO w o ks) (hl : l.length ≤ 300) (hz : Sz l) (hg : g ≤ 20000000) :
    Fn w 60 240 280 ((kd, o) :: news) [.int 5 t1, .bytes l.toArray t, .int g t2, vst] (fun v news' => if prC l ≤ g then OutB w kd news true (g - prC l) (raO l) "" ks v news' else OutB w kd news false 0 [] "gas" ks v news') := by
  have hsm := prC_small (l := l) hz
  (unfold Fn; k_fill; intro pg loose mean mg mb dp un gd cn cs a ccd cl outer A₀ base h₀ L m hp₀ gs₀ dr₀ tk₀ os₀ Q E B F X N T hk hd hu hret; refine wpAny_call ?_; k_dflt ktr_enter; refine wp_let ?_; intro Ak)
  k_steps
  · (refine' hret _ ((_, instObj 219 _) :: (_, outD w.params false (0) ([]) "gas" _ _ _ _ _ _ _ _) :: (kd, _) :: news) _ _ (by k_asm) (by refine cb_drop (by k_asm) ?_; k_extra "MINE sub") ?post; (case post => dsimp only; rw [if_neg (show ¬ prC l ≤ g by omega)]; refine' ⟨_, _, _, _, _, _, _, _, _, _, _, rfl, rfl, ?ob9, ?nb9, ?nc9⟩; (case ob9 => assumption); (case nb9 => k_ne); (case nc9 => k_ne)))
  · (refine' hret _ ((_, instObj 219 _) :: (_, outD w.params true (g - prC l) (raO l) "" _ _ _ _ _ _ _ _) :: (kd, _) :: news) _ _ (by k_asm) (by refine cb_drop (by k_asm) ?_; k_extra "MINE sub") ?post; (case post => dsimp only; rw [if_pos (show prC l ≤ g by omega)]; refine' ⟨_, _, _, _, _, _, _, _, _, _, _, rfl, rfl, ?ob9, ?nb9, ?nc9⟩; (case ob9 => assumption); (case nb9 => k_ne); (case nc9 => k_ne)))
theorem lines_D4 : True := by
  w_top off
  k_with_none
  k_with "MINE len" => (((try simp only [List.length_append, List.length_take, List.length_drop, List.length_replicate, List.length_cons, List.length_nil, cutL_length, beL_length, leL_length, partL_length, KBa_byteArr_length, List.length_map, rangeKs_length] at *); omega))
  k_with "MINE num" => (first | omega | assumption | (simp only [Int.reduceToNat, Int.reducePow, Int.reduceMul, Int.fmod_eq_emod_of_nonneg, Int.reduceLE]; omega) | k_extra "MINE len")
  k_with "M call type:bytes" => ((k_here; (with_reducible show wpAny _ _ (call (Value.type "bytes") [Value.int _ _]) _ _ _); refine' bz_call ?h0q2 ?hNq2 ?_; (case h0q2 => k_extra "MINE num"); (case hNq2 => k_extra "MINE num"); intro _ _))
  k_with "M call builtin:len" => ((k_here; (with_reducible show wpAny _ _ (call (Value.builtin "len") [Value.bytes (List.toArray _) _]) _ _ _); refine' len_L ?h0q3 ?_; (case h0q3 => k_extra "MINE num"); intro _ _))
  k_with "M binaryOp Add bytes bytes" => ((k_here; (with_reducible show wpAny _ _ (binaryOp Operator.Add (Value.bytes (List.toArray _) _) (Value.bytes (List.toArray _) _)) _ _ _); refine' add_L ?h0q4 ?_; (case h0q4 => k_extra "MINE num"); intro _ _))
  k_with "M call ref" => ((k_here; (with_reducible show wpAny _ _ (call (Value.ref _) [Value.bytes (List.toArray _) _, Value.str _ _]) _ _ _); kfb_any; k_dflt (refine' from_big ?h1q5 ?h2q5 ?h3q5 ?_; (case h1q5 => k_asm); (case h2q5 => k_mem); (case h3q5 => k_extra "MINE num")); intro _ _))
  k_with "M subscriptTail" => ((k_here; (with_reducible show wpAny _ _ (subscriptTail _ (Expr.Slice _ _ none _) (Value.bytes (List.toArray _) _) (Value.ref _)) _ _ _); (with_reducible rename Fr _ _ _ _ => F'); (with_reducible rename News _ _ _ _ => N'); (first | (refine' slice_ab (s := ⟨_, _, _, _, _⟩) F' N' ?aq6 ?bq6 ?zq6 ?_; (case aq6 => k_extra "MINE num"); (case bq6 => k_extra "MINE num"); (case zq6 => k_extra "MINE num")) | (refine' slice_to (s := ⟨_, _, _, _, _⟩) F' N' ?bq6 ?zq6 ?_; (case bq6 => k_extra "MINE num"); (case zq6 => k_extra "MINE num")) | (refine' slice_from (s := ⟨_, _, _, _, _⟩) F' N' ?aq6 ?zq6 ?_; (case aq6 => k_extra "MINE num"); (case zq6 => k_extra "MINE num"))); intro _ _ _ F' N'))
  k_with "M call builtin:int.to_bytes" => ((k_here; (with_reducible show wpAny _ _ (call (Value.builtin "int.to_bytes") [Value.int _ _, Value.int _ _, Value.str _ _]) _ _ _); (first | (refine' to_bigI ?aq7 ?cq7 ?bq7 ?dq7 ?_; (case aq7 => k_extra "MINE num"); (case cq7 => k_extra "MINE num"); (case bq7 => k_extra "MINE num"); (case dq7 => k_extra "MINE fits")) | (refine' to_littleI ?aq7 ?cq7 ?bq7 ?dq7 ?_; (case aq7 => k_extra "MINE num"); (case cq7 => k_extra "MINE num"); (case bq7 => k_extra "MINE num"); (case dq7 => k_extra "MINE fits"))); intro _ _))
  k_with "MINE fits" => (first | assumption | exact fits_num (by assumption) | (simp only [Int.reduceToNat, Nat.reducePow]; omega) | (simp only [Int.reduceToNat, Nat.reducePow, Int.reducePow, Int.reduceMul, Int.fmod_eq_emod_of_nonneg, Int.reduceLE]; omega))
  k_with "MINE enter" => ((unfold Fn; k_fill; intro p loose mean mg mb dp un gd cn cs a ccd cl outer A₀ base h₀ L m hp₀ gs₀ dr₀ tk₀ os₀ Q E B F X N T hk hd hu hret; refine wpAny_call ?_; k_dflt ktr_enter))
  k_with "MINE use" => (((case k1 => k_asm); (case k2 => k_asm); (case k3 => k_asm); (case k4 => k_asm); (case k5 => k_asm); (case kK => first | exact rfl | assumption); (case kd => ktr_room); (case ku => ktr_units)))
  k_with "M call builtin:pow" => ((k_here; (with_reducible show wpAny _ _ (call (Value.builtin "pow") [Value.int _ _, Value.int _ _, Value.int _ _]) _ _ _); refine' pow3I ?aq11 ?bq11 ?_; (case aq11 => first | decide | k_extra "MINE num"); (case bq11 => first | decide | k_extra "MINE num"); intro _ _ _))
  k_with "MINE sub" => (first | (intro q hq; exact hq) | ((with_reducible refine' List.forall_mem_cons.mpr ⟨?aq12, ?bq12⟩); (case aq12 => k_mem); (case bq12 => k_extra "MINE sub")) | (intro q hq; (repeat (first | exact hq | refine List.mem_cons_of_mem _ ?_))))
  k_with "M call type:bytes" => ((k_here; (with_reducible show wpAny _ _ (call (Value.type "bytes") [Value.bytes _ _]) _ _ _); refine bb_call ?_))
  k_with "MINE pick" => ((repeat (first | exact Pick.head | apply Pick.tail)))
  k_with "M call builtin:max" => ((k_here; (with_reducible show wpAny _ _ (call (Value.builtin "max") [Value.int _ _, Value.int _ _]) _ _ _); k_dflt (refine' maxI ?hq15 ?Fq15 ?Nq15 ?_; (case hq15 => rfl); (case Fq15 => k_asm); (case Nq15 => k_asm)); intro _ _ _ F' N'; (try k_sweep)))
  k_with "M call builtin:min" => ((k_here; (with_reducible show wpAny _ _ (call (Value.builtin "min") [Value.int _ _, Value.int _ _]) _ _ _); k_dflt (refine' minI ?hq16 ?Fq16 ?Nq16 ?_; (case hq16 => rfl); (case Fq16 => k_asm); (case Nq16 => k_asm)); intro _ _ _ F' N'; (try k_sweep)))
  k_with "M call builtin:max" => ((k_here; (with_reducible show wpAny _ _ (call (Value.builtin "max") [Value.int _ _, Value.int _ _, Value.int _ _]) _ _ _); k_dflt (refine' max3I ?hq17 ?Fq17 ?Nq17 ?_; (case hq17 => rfl); (case Fq17 => k_asm); (case Nq17 => k_asm)); intro _ _ _ F' N'; (try k_sweep)))
  k_with "MINE subD" => ((intro q hq; exact List.mem_cons_of_mem _ hq))
  k_with "MINE steps" => (repeat' (first | (k_unfold; (try dsimp only)) | walk1 | (dsimp only; walk1) | (leave1; walk_say "STEP leave1"; try dsimp only) | fail "no step"))
  k_with "M callWith ref" => ((k_here; (with_reducible show wpAny _ _ (callWith _ (Value.ref (OfNat.ofNat _)) _ _ _) _ _ _); k_dflt (refine' callWith_K ?k1q20 ?k2q20 ?_; (case k1q20 => k_asm); (case k2q20 => k_is); k_whole)))
  k_with "M execs cons" => ((k_here; (try dsimp only); with_reducible refine tk_sum ?_; intro tk9; (try (with_reducible rename Fr _ _ _ _ => Fx9; refine fr_let Fx9 ?_; intro mK Fy9; clear Fx9)); (try k_extra "MINE led")))
  k_with "M execs nil" => ((k_here; (try dsimp only); with_reducible refine tk_sum ?_; intro tk9))
  k_with "MINE lt" => (first | assumption | exact And.left (by assumption) | exact And.left (And.right (by assumption)) | exact And.left (And.right (And.right (by assumption))) | exact And.left (And.right (And.right (And.right (by assumption)))) | exact And.left (And.right (And.right (And.right (And.right (by assumption))))) | exact And.left (And.right (And.right (And.right (And.right (And.right (by assumption)))))) | exact And.left (And.right (And.right (And.right (And.right (And.right (And.right (by assumption))))))) | exact And.left (And.right (And.right (And.right (And.right (And.right (And.right (And.right (by assumption)))))))) | exact And.left (And.right (And.right (And.right (And.right (And.right (And.right (And.right (And.right (by assumption))))))))) | exact And.right (by assumption) | exact And.right (And.right (by assumption)) | exact And.right (And.right (And.right (by assumption))) | fail "not seen less")
  k_with "MINE mul" => (first | ((with_reducible refine mulL ?_); decide) | ((with_reducible refine mulR ?_); decide) | ((with_reducible refine' mulRb ?_ ?_); (focus assumption); decide) | ((with_reducible refine' mulLb ?_ ?_); (focus assumption); decide) | ((with_reducible refine mulRm ?_); decide) | ((with_reducible refine mulLm ?_); decide) | fail "not seen small")
  k_with "M binaryOp Mult int int" => ((k_here; k_dflt (refine' PyProof.Rows.mul_int ?_ ?hmq25; rotate_left; (case hmq25 => k_extra "MINE mul"))))
  k_with "M newTuple" => ((k_here; kup_bare; k_dflt (refine' newTupleV ?Fq26 ?Nq26 ?_ ?zq26; (case Fq26 => k_asm); (case Nq26 => k_asm); (case zq26 => kmk_size)); intro D' h' F' N' l1; (try k_lt l1); (try k_sweep)))
  k_with "MINE got" => ((intro v9 n9 h9 tk9 F9 N9 hp9; obtain ⟨hn9, t9, hv9⟩ := hp9; subst hn9 hv9; (try dsimp only); (try k_fold)))
  k_with "M call ref" => ((k_here; (with_reducible show wpAny _ _ (call (Value.ref 90) [Value.int _ _]) _ _ _); k_dflt (refine' Fn.use ?k1 ?k2 ?k3 ?k4 ?k5 ?kK (fn_led _ _ _ _ ) ?kd ?ku ?_; k_extra "MINE use"); k_extra "MINE got"))
  k_with "M call ref" => ((k_here; (with_reducible show wpAny _ _ (call (Value.ref 104) [Value.int _ _]) _ _ _); k_dflt (refine' Fn.use ?k1 ?k2 ?k3 ?k4 ?k5 ?kK (fn_address_of _ _ _ _ ) ?kd ?ku ?_; k_extra "MINE use"); k_extra "MINE got"))
  k_with "M call ref" => ((k_here; (with_reducible show wpAny _ _ (call (Value.ref 230) [Value.int _ _]) _ _ _); k_dflt (refine' Fn.use ?k1 ?k2 ?k3 ?k4 ?k5 ?kK (fn_words_of _ _ _ _ ) ?kd ?ku ?_; k_extra "MINE use"); k_extra "MINE got"))
  k_with "M call ref" => ((k_here; (with_reducible show wpAny _ _ (call (Value.ref 97) [Value.int _ _]) _ _ _); k_dflt (refine' Fn.use ?k1 ?k2 ?k3 ?k4 ?k5 ?kK (fn_word_octets' _ _ _ _ ?c1q31 ?c2q31) ?kd ?ku ?_; k_extra "MINE use"; (case c1q31 => k_extra "MINE num"); (case c2q31 => k_extra "MINE num")); k_extra "MINE got"))
  k_with "M call ref" => ((k_here; (with_reducible show wpAny _ _ (call (Value.ref 237) [Value.bytes _ _, Value.int _ _, Value.int _ _]) _ _ _); k_dflt (refine' Fn.use ?k1 ?k2 ?k3 ?k4 ?k5 ?kK (fn_part_of _ _ _ _ _ _ _ _ ?c1q32 ?c2q32) ?kd ?ku ?_; k_extra "MINE use"; (case c1q32 => k_extra "MINE num"); (case c2q32 => k_extra "MINE num")); k_extra "MINE got"))
  k_with "M call ref" => ((k_here; (with_reducible show wpAny _ _ (call (Value.ref 343) [Value.bytes _ _, Value.int _ _, Value.int _ _]) _ _ _); k_dflt (refine' Fn.use ?k1 ?k2 ?k3 ?k4 ?k5 ?kK (fn_law_part' _ _ _ _ _ _ _ _ ?c1q33 ?c2q33 ?c3q33 ?c4q33) ?kd ?ku ?_; k_extra "MINE use"; (case c1q33 => k_extra "MINE num"); (case c2q33 => k_extra "MINE num"); (case c3q33 => k_extra "MINE num"); (case c4q33 => k_extra "MINE num")); k_extra "MINE got"))
  k_with "M call ref" => ((k_here; (with_reducible show wpAny _ _ (call (Value.ref 343) [Value.bytes _ _, Value.int _ _, Value.int _ _]) _ _ _); k_dflt (refine' Fn.use ?k1 ?k2 ?k3 ?k4 ?k5 ?kK (fn_law_part _ _ _ _ _ _ _ _ ?c1q34 ?c2q34) ?kd ?ku ?_; k_extra "MINE use"; (case c1q34 => k_extra "MINE num"); (case c2q34 => k_extra "MINE num")); k_extra "MINE got"))
  k_with "MINE cond" => (first | exact True.intro | ((try dsimp only [cP, cAnd]); (repeat' (first | exact True.intro | refine And.intro ?_ ?_)); all_goals first | k_extra "MINE mul" | mul_fits | decide | omega | assumption))
  k_with "M eval Tuple" => ((k_here; (with_reducible show wpAny _ _ (eval (Expr.Tuple (Expr.Constant (Const.int _) _ _ :: _) _ _) _) _ _ _); (try dsimp only); k_dflt (refine' pe_tupL ?Fq36 ?Nq36 ?fq36 ?hq36 ?lq36 ?cq36 ?_; (case Fq36 => k_asm); (case Nq36 => k_asm); (case fq36 => exact rfl); (case hq36 => exact rfl); (case lq36 => exact rfl); (case cq36 => k_extra "MINE cond")); intro a9 h9 vs9 tk9 F9 N9 l9 hi9; (have l9c := l9); (try k_lt l9); (try k_sweep); (try dsimp only)))
  k_with "M eval Tuple" => ((k_here; (with_reducible show wpAny _ _ (eval (Expr.Tuple (Expr.BinOp (Expr.Constant (Const.int _) _ _) _ _ _ :: _) _ _) _) _ _ _); (try dsimp only); k_dflt (refine' pe_tupL ?Fq37 ?Nq37 ?fq37 ?hq37 ?lq37 ?cq37 ?_; (case Fq37 => k_asm); (case Nq37 => k_asm); (case fq37 => exact rfl); (case hq37 => exact rfl); (case lq37 => exact rfl); (case cq37 => k_extra "MINE cond")); intro a9 h9 vs9 tk9 F9 N9 l9 hi9; (have l9c := l9); (try k_lt l9); (try k_sweep); (try dsimp only)))
  k_with "M eval Call" => (k_fold)
  k_with "M eval Tuple" => (k_fold)
  k_with "M eval BinOp" => (k_fold)
  k_with "M eval Subscript" => (k_fold)
  k_with "M eval IfExp" => (k_fold)
  k_with "M eval ListComp" => ((k_here; (with_reducible show wpAny _ _ (eval (Expr.ListComp _ [⟨_, Expr.Tuple _ _ _, _, _⟩] _ _) _) _ _ _); k_dflt (refine ListComp_T (F₀ := by k_asm) (by with_unfolding_all rfl) (by decide) (by rfl) (by decide) (by rfl) ?_)))
  k_with "M eval ListComp" => ((k_here; (with_reducible show wpAny _ _ (eval (Expr.ListComp _ [⟨_, Expr.Call _ _ _ _, [], _⟩] _ _) _) _ _ _); k_dflt (refine LCg.ListComp_U (F₀ := by k_asm) (by with_unfolding_all rfl) (by decide) (by rfl) (by decide) (by rfl) ?_)))
  k_with "M SrcT" => ((k_here; k_dflt (refine SrcT.intro (by rfl) (by k_asm) (by k_asm) (by k_mem) (by first | size_fits | exact Nat.le_of_ble_eq_true rfl) ?_; intro g'; lcg_lit)))
  k_with "M CompRest" => ((with_unfolding_all first | (refine LCg.CompRest.succ ?_; intro v' I' oI' C' oC' D' m' h' tk' E' hv' hC' hx' F' N' off' ne'; (first | lcg_open hv' | (obtain ⟨t9', hv9'⟩ := hv'; subst hv9'))) | refine LCg.CompRest.zero ?_))
  k_with "M CompEnd" => ((k_dflt (refine' compEnd ?Fq47 ?Nq47 ?offq47 ?Sq47 ?_; (case offq47 => assumption); (case Fq47 => assumption); (case Nq47 => first | k_asm | (refine cb_drop (by k_asm) ?_; k_extra "MINE sub")); (case Sq47 => first | assumption | exact trivial | (unfold TupIn; k_mem)))))
  k_with "M exec Assign cons ListComp" => (((with_reducible show wpAny _ _ (exec (Stmt.Assign [Expr.Tuple _ _ _] (Expr.ListComp _ _ _ _) _) _) _ _ _); refine Assign_Tuple ?_ (by kernel_rfl) (by kernel_rfl)))
  k_with "M CompSrc" => ((k_here; k_dflt (first | (refine LCg.CompSrc.range (by rfl) (by k_asm) (by k_asm) (by assumption) (by first | decide | rfl) (by first | rfl | decide) (by first | size_fits | exact Nat.le_of_ble_eq_true rfl) ?_; intro g'; lcg_lit) | (refine LCg.CompSrc.ledger (by rfl) (by k_asm) (by k_asm) (by k_mem) (by first | size_fits | exact Nat.le_of_ble_eq_true rfl) ?_; intro g'; lcg_lit))))
  k_with "M binaryOp Mult int int" => ((k_here; k_dflt (refine' PyProof.Rows.mul_int ?_ (mulOk ?haq50 ?hbq50 ?hkq50); rotate_left; (case haq50 => assumption); (case hbq50 => assumption); (case hkq50 => decide))))
  k_with "M exec While Compare cons nil" => ((k_here; refine Stop.go ?_))
  k_with "M exec Assign cons BinOp" => ((k_here; (with_reducible rename Hold 1 => hold1); clear hold1; refine Stop.go ?_))
  k_with "M exec Assign cons Call" => (((with_reducible rename Hold 2 => hold2); (with_reducible show wpAny _ _ (exec (Stmt.Assign [Expr.Name (Str.ofString "base") _] _ _) _) _ _ _); clear hold2; refine Stop.go ?_))
  k_with "M KswEnd" => (refine Stop.go ?_)
  k_with "MINE t k_room" => (ktr_room)
  k_with "MINE t k_units" => (ktr_units)
  k_with "MINE t k_mem" => (first | with_reducible assumption | assumption | exact List.Mem.head _ | (refine' List.Mem.tail _ ?_; k_mem))
  k_with "MINE t k_all" => (first | assumption | exact cellNe (by assumption) (by k_extra "MINE sub") | exact List.forall_mem_nil _ | (refine' List.forall_mem_cons.mpr ⟨?aq58, ?bq58⟩; (case aq58 => first | k_ne | assumption); (case bq58 => k_all)))
  k_with "MINE t ktr_room" => (first | (refine' rm2 ?hq59 ?bq59; (case hq59 => assumption); (case bq59 => exact rfl)) | (refine' rm1 ?hq59 ?bq59; (case hq59 => assumption); (case bq59 => exact rfl)) | (refine' rm3 ?hq59 ?bq59; (case hq59 => assumption); (case bq59 => exact rfl)) | exact rm0 (by assumption) | fail "no room")
  k_with "MINE t ktr_units" => (first | (refine' rm2 ?hq60 ?bq60; (case hq60 => assumption); (case bq60 => exact rfl)) | (refine' rm1 ?hq60 ?bq60; (case hq60 => assumption); (case bq60 => exact rfl)) | (refine' rm3 ?hq60 ?bq60; (case hq60 => assumption); (case bq60 => exact rfl)) | exact rm0 (by assumption) | fail "no room")
  k_with "MINE t k_ne" => (with_reducible (first | assumption | exact Nat.ne_of_lt (by k_extra "MINE lt") | exact Nat.ne_of_gt (by k_extra "MINE lt") | exact Ne.symm (by assumption) | k_extra "MINE lt" | exact Ne.symm (by k_extra "MINE lt") | fail "not seen unlike"))
  trivial
def Hold (n : Nat) : Prop := n = n
theorem fn_law_raised (w : World) (news : Led) (l : List UInt8) (t : Tok) (hl : l.length ≤ 300) (hz : Sz l) :
    Fn w 40 160 377 news [.bytes l.toArray t] (fun v news' => ∃ a P tp D, v = .ref a ∧ news' = (a, prO P tp D) :: news ∧ LrRes l P D) := by
  have hold1 : Hold 1 := rfl
  (unfold Fn; k_fill; intro pg loose mean mg mb dp un gd cn cs a ccd cl outer A₀ base h₀ L m hp₀ gs₀ dr₀ tk₀ os₀ Q E B F X N T hk hd hu hret; refine wpAny_call ?_; k_dflt (refine' code_defC ?k1 ?k2 ?k3 ?k4 ?k5 ?kA ?kF ?kK ?k6 ?k7 ?k8 ?k9 ?kB ?kD ?_ ?c2 ?c3 ?c4; (case kA => exact rfl); (case kF => exact rfl); (case kK => assumption); (case k1 => k_asm); (case k2 => k_asm); (case k3 => k_asm); (case k4 => k_asm); (case k5 => k_asm); (case k6 => k_is); (case k7 => k_is); (case k8 => ktr_room); (case k9 => exact BindsTo.of_eq rfl); (case kB => exact rfl); (case kD => decide +kernel); (case c2 => exact rfl); (case c3 => exact rfl); (case c4 => exact rfl); k_whole; intro g' L' h' tk' cells' FG' F' N' Y' B' X' T' l1; (have l1c := l1); (try k_lt l1); k_cells Y'; (try simp only [List.cons_append, List.nil_append] at N'); (try dsimp only); (try k_fold)); refine wp_letQ ?_; intro qk ek Ak)
  k_steps
  delta Stop
  ((rename Fr _ _ _ _ => lF); (rename News _ _ _ _ => lN); (try (rename Obj.data _ = _ => dC)))
  try dsimp +zetaDelta only at lF
  have hN9 := cb_drop lN (by k_extra "MINE subD")
  clear lN
  have hz' := hz
  obtain ⟨z0, z1, z2⟩ := hz'
  have n0 := beN32_lt l (32 * (0 + 0))
  have n1 := beN32_lt l (32 * (0 + (0 + 1)))
  have n2 := beN32_lt l (32 * (0 + (0 + 1 + 1)))
  replace z0 : Szn (beN (partL l (32 * (0 + 0)) 32)) := z0
  replace z1 : Szn (beN (partL l (32 * (0 + (0 + 1))) 32)) := z1
  replace z2 : Szn (beN (partL l (32 * (0 + (0 + 1 + 1))) 32)) := z2
  generalize eb : beN (partL l (32 * (0 + 0)) 32) = sb at *
  generalize ep : beN (partL l (32 * (0 + (0 + 1))) 32) = sp at *
  generalize em : beN (partL l (32 * (0 + (0 + 1 + 1))) 32) = sm at *
  have eF := lrH1 l sb sp
  have hF := part_bits l ((96 : Int) + (sb : Int)).toNat (min (sp : Int) 32).toNat (by omega)
  have hPx := lrRes1 eb ep em eF
  have hsm := lr_small (B := sb) (P := sp) (M := sm) (bits := Builtin.Int.intBits (beN (partL l ((96 : Int) + (sb : Int)).toNat (min (sp : Int) 32).toNat) : Int)) z0 z1 z2
  have hE : IB 300 ((max (sb : Int) (sm : Int) + 7).fdiv 8) := lrH2 n0 n2
  have hEE := ib_mul hE hE
  have hR : IB 300 (max (max (((Builtin.Int.intBits (beN (partL l ((96 : Int) + (sb : Int)).toNat (min (sp : Int) 32).toNat) : Int) : Nat) : Int) - 1) 0 + 8 * max ((sp : Int) - 32) 0) 1) := lrH3 n1 hF
  clear n0 n1 n2 z0 z1 z2
  have hold2 : Hold 2 := rfl
  as_aux_lemma =>
    try k_fold
    k_steps
    · exact hret _ ((_, prO _ _ _) :: news) _ _ (by k_asm) (by refine cb_drop (by k_asm) ?_; k_extra "MINE sub") ⟨_, _, _, _, rfl, rfl, lrResA' hz hPx (by assumption)⟩
    · exact hret _ ((_, prO _ _ _) :: news) _ _ (by k_asm) (by refine cb_drop (by k_asm) ?_; k_extra "MINE sub") ⟨_, _, _, _, rfl, rfl, lrResB' hz hPx (by assumption) (ra0' em (by assumption))⟩
    · delta Stop
      have hm9 : (sm : Int) ≠ 0 := by assumption
      rename ¬ (10000000 : Int) < _ => hp9
      have hs : sb ≤ 40 ∧ sp ≤ 40 ∧ sm ≤ 40 := by
        rcases hsm with h | h | h
        · exact absurd h hm9
        · exact h
        · exact absurd h hp9
      clear hsm hE hEE hR hF eF
      ((rename Fr _ _ _ _ => lF); (rename News _ _ _ _ => lN); (try (rename Obj.data _ = _ => dC)))
      try dsimp +zetaDelta only at lF
      obtain ⟨s1, s2, s3⟩ := hs
      try k_fold
      k_steps
      · exact hret _ ((_, prO _ _ _) :: news) _ _ (by k_asm) (by refine cb_drop (by k_asm) ?_; k_extra "MINE sub") ⟨_, _, _, _, rfl, rfl, lrResB' hz hPx hp9 (ra1' eb ep em hm9 (by assumption))⟩
      · delta Stop
        rename (beN _ : Int) ≠ 0 => hM9
        ((rename Fr _ _ _ _ => lF); (rename News _ _ _ _ => lN); (try (rename Obj.data _ = _ => dC)))
        try dsimp +zetaDelta only at lF
        have hra := fun r => ra2' (r := r) eb ep em hm9 hM9
        have hmB := part_lt40 (l := l) (p := 96 + sb + sp) s3
        have hxB := part_lt40 (l := l) (p := 96) s1
        have hfz := numL_lt l (96 + sb + sp) sm
        replace hfz : beN (partL l (96 + sb + sp) sm) < 256 ^ sm := hfz
        generalize beN (partL l (96 + sb + sp) sm) = M at *
        generalize beN (partL l 96 sb) = Bx at *
        generalize beN (partL l (96 + sb) sp) = Ex at *
        as_aux_lemma =>
          have hm0 : 0 < M := by omega
          rw [onefm] at lF
          refine' ksw_while (fun _ => news) lrPs (fun _ => True) [] (lrP M Bx Ex) LrS.k ⟨1 % M, Bx, Ex, _, _, _⟩ lF ?kn trivial ?kk ?kp ?_
          case kk => kst_all
          case kn => exact cb_drop lN (by k_extra "MINE sub")
          case kp => exact lrP_start hm0 hxB
          intro c u1 h1 tk1 _ hP lF lN
          have hP' := hP
          obtain ⟨p1, p2, _⟩ := hP'
          have ib1 := ib_nat (Nat.lt_trans p1 hmB)
          have ib2 := ib_nat p2
          have hk2 := two2 c.k
          have hfit : ((c.r : Int)).toNat < 256 ^ ((sm : Int)).toNat := by rw [Int.toNat_natCast, Int.toNat_natCast]; exact Nat.lt_trans p1 hfz
          try k_fold
          k_steps
          · delta Stop
            rename Fr _ _ _ _ => lF2
            try dsimp +zetaDelta only at lF2
            rw [mulmod, mulmod, half] at lF2
            rename Int.fmod _ 2 = 1 => ho9
            rw [hk2] at ho9
            refine' ksw_end (⟨c.r * c.b % M, c.b * c.b % M, c.k / 2, _, _, _⟩ : LrS) lF2 (by assumption) ?hn trivial ?hk ?hr (lrP_odd hP (Nat.le_of_lt hmB) hm0 (by omega)) ?hm
            case hk => kst_all
            case hr => intro z h2 h3; simp only [List.forall_mem_cons, List.not_mem_nil, false_implies, implies_true, and_true, ne_eq] at h2; obtain ⟨e1, e2, e3⟩ := h2; simp only [if_neg e1, if_neg e2, if_neg e3, kstB, List.contains_nil, Bool.false_eq_true, if_false]
            case hn => k_extra "MINE sub"
            case hm => show c.k / 2 < c.k; omega
          · delta Stop
            rename Fr _ _ _ _ => lF2
            try dsimp +zetaDelta only at lF2
            rw [mulmod, half] at lF2
            rename Int.fmod _ 2 ≠ 1 => ho9
            rw [hk2] at ho9
            refine' ksw_end (⟨c.r, c.b * c.b % M, c.k / 2, _, _, _⟩ : LrS) lF2 (by assumption) ?hn trivial ?hk ?hr (lrP_even hP (Nat.le_of_lt hmB) hm0 (by omega)) ?hm
            case hk => kst_all
            case hr => intro z h2 h3; simp only [List.forall_mem_cons, List.not_mem_nil, false_implies, implies_true, and_true, ne_eq] at h2; obtain ⟨e1, e2, e3⟩ := h2; simp only [if_neg e1, if_neg e2, if_neg e3, kstB, List.contains_nil, Bool.false_eq_true, if_false]
            case hn => k_extra "MINE sub"
            case hm => show c.k / 2 < c.k; omega
          · exact hret _ ((_, prO _ _ _) :: news) _ _ (by k_asm) (by refine cb_drop (by k_asm) ?_; k_extra "MINE sub") ⟨_, _, _, _, rfl, rfl, lrResB' hz hPx hp9 (hra c.r (lrP_end hP (by omega)))⟩
theorem lines_E1 : True := by
  w_top off
  k_with_none
  k_with "MINE len" => (((try simp only [List.length_append, List.length_take, List.length_drop, List.length_replicate, List.length_cons, List.length_nil, cutL_length, beL_length, leL_length, partL_length, KBa_byteArr_length, List.length_map, rangeKs_length] at *); omega))
  k_with "MINE num" => (first | omega | assumption | (simp only [Int.reduceToNat, Int.reducePow, Int.reduceMul, Int.fmod_eq_emod_of_nonneg, Int.reduceLE]; omega) | k_extra "MINE len")
  k_with "M call type:bytes" => ((k_here; (with_reducible show wpAny _ _ (call (Value.type "bytes") [Value.int _ _]) _ _ _); refine' bz_call ?h0q2 ?hNq2 ?_; (case h0q2 => k_extra "MINE num"); (case hNq2 => k_extra "MINE num"); intro _ _))
  k_with "M call builtin:len" => ((k_here; (with_reducible show wpAny _ _ (call (Value.builtin "len") [Value.bytes (List.toArray _) _]) _ _ _); refine' len_L ?h0q3 ?_; (case h0q3 => k_extra "MINE num"); intro _ _))
  k_with "M binaryOp Add bytes bytes" => ((k_here; (with_reducible show wpAny _ _ (binaryOp Operator.Add (Value.bytes (List.toArray _) _) (Value.bytes (List.toArray _) _)) _ _ _); refine' add_L ?h0q4 ?_; (case h0q4 => k_extra "MINE num"); intro _ _))
  k_with "M call ref" => ((k_here; (with_reducible show wpAny _ _ (call (Value.ref _) [Value.bytes (List.toArray _) _, Value.str _ _]) _ _ _); kfb_any; k_dflt (refine' from_big ?h1q5 ?h2q5 ?h3q5 ?_; (case h1q5 => k_asm); (case h2q5 => k_mem); (case h3q5 => k_extra "MINE num")); intro _ _))
  k_with "M subscriptTail" => ((k_here; (with_reducible show wpAny _ _ (subscriptTail _ (Expr.Slice _ _ none _) (Value.bytes (List.toArray _) _) (Value.ref _)) _ _ _); (with_reducible rename Fr _ _ _ _ => F'); (with_reducible rename News _ _ _ _ => N'); (first | (refine' slice_ab (s := ⟨_, _, _, _, _⟩) F' N' ?aq6 ?bq6 ?zq6 ?_; (case aq6 => k_extra "MINE num"); (case bq6 => k_extra "MINE num"); (case zq6 => k_extra "MINE num")) | (refine' slice_to (s := ⟨_, _, _, _, _⟩) F' N' ?bq6 ?zq6 ?_; (case bq6 => k_extra "MINE num"); (case zq6 => k_extra "MINE num")) | (refine' slice_from (s := ⟨_, _, _, _, _⟩) F' N' ?aq6 ?zq6 ?_; (case aq6 => k_extra "MINE num"); (case zq6 => k_extra "MINE num"))); intro _ _ _ F' N'))
  k_with "M call builtin:int.to_bytes" => ((k_here; (with_reducible show wpAny _ _ (call (Value.builtin "int.to_bytes") [Value.int _ _, Value.int _ _, Value.str _ _]) _ _ _); (first | (refine' to_bigI ?aq7 ?cq7 ?bq7 ?dq7 ?_; (case aq7 => k_extra "MINE num"); (case cq7 => k_extra "MINE num"); (case bq7 => k_extra "MINE num"); (case dq7 => k_extra "MINE fits")) | (refine' to_littleI ?aq7 ?cq7 ?bq7 ?dq7 ?_; (case aq7 => k_extra "MINE num"); (case cq7 => k_extra "MINE num"); (case bq7 => k_extra "MINE num"); (case dq7 => k_extra "MINE fits"))); intro _ _))
  k_with "MINE fits" => (first | assumption | exact fits_num (by assumption) | (simp only [Int.reduceToNat, Nat.reducePow]; omega) | (simp only [Int.reduceToNat, Nat.reducePow, Int.reducePow, Int.reduceMul, Int.fmod_eq_emod_of_nonneg, Int.reduceLE]; omega))
  k_with "MINE enter" => ((unfold Fn; k_fill; intro p loose mean mg mb dp un gd cn cs a ccd cl outer A₀ base h₀ L m hp₀ gs₀ dr₀ tk₀ os₀ Q E B F X N T hk hd hu hret; refine wpAny_call ?_; k_dflt ktr_enter))
  k_with "MINE use" => (((case k1 => k_asm); (case k2 => k_asm); (case k3 => k_asm); (case k4 => k_asm); (case k5 => k_asm); (case kK => first | exact rfl | assumption); (case kd => ktr_room); (case ku => ktr_units)))
  k_with "M call builtin:pow" => ((k_here; (with_reducible show wpAny _ _ (call (Value.builtin "pow") [Value.int _ _, Value.int _ _, Value.int _ _]) _ _ _); refine' pow3I ?aq11 ?bq11 ?_; (case aq11 => first | decide | k_extra "MINE num"); (case bq11 => first | decide | k_extra "MINE num"); intro _ _ _))
  k_with "MINE sub" => (first | (intro q hq; exact hq) | ((with_reducible refine' List.forall_mem_cons.mpr ⟨?aq12, ?bq12⟩); (case aq12 => k_mem); (case bq12 => k_extra "MINE sub")) | (intro q hq; (repeat (first | exact hq | refine List.mem_cons_of_mem _ ?_))))
  k_with "M call type:bytes" => ((k_here; (with_reducible show wpAny _ _ (call (Value.type "bytes") [Value.bytes _ _]) _ _ _); refine bb_call ?_))
  k_with "MINE pick" => ((repeat (first | exact Pick.head | apply Pick.tail)))
  k_with "M call builtin:max" => ((k_here; (with_reducible show wpAny _ _ (call (Value.builtin "max") [Value.int _ _, Value.int _ _]) _ _ _); k_dflt (refine' maxI ?hq15 ?Fq15 ?Nq15 ?_; (case hq15 => rfl); (case Fq15 => k_asm); (case Nq15 => k_asm)); intro _ _ _ F' N'; (try k_sweep)))
  k_with "M call builtin:min" => ((k_here; (with_reducible show wpAny _ _ (call (Value.builtin "min") [Value.int _ _, Value.int _ _]) _ _ _); k_dflt (refine' minI ?hq16 ?Fq16 ?Nq16 ?_; (case hq16 => rfl); (case Fq16 => k_asm); (case Nq16 => k_asm)); intro _ _ _ F' N'; (try k_sweep)))
  k_with "M call builtin:max" => ((k_here; (with_reducible show wpAny _ _ (call (Value.builtin "max") [Value.int _ _, Value.int _ _, Value.int _ _]) _ _ _); k_dflt (refine' max3I ?hq17 ?Fq17 ?Nq17 ?_; (case hq17 => rfl); (case Fq17 => k_asm); (case Nq17 => k_asm)); intro _ _ _ F' N'; (try k_sweep)))
  k_with "MINE subD" => ((intro q hq; exact List.mem_cons_of_mem _ hq))
  k_with "MINE steps" => (repeat' (first | (k_unfold; (try dsimp only)) | walk1 | (dsimp only; walk1) | (leave1; walk_say "STEP leave1"; try dsimp only) | fail "no step"))
  k_with "M callWith ref" => ((k_here; (with_reducible show wpAny _ _ (callWith _ (Value.ref (OfNat.ofNat _)) _ _ _) _ _ _); k_dflt (refine' callWith_K ?k1q20 ?k2q20 ?_; (case k1q20 => k_asm); (case k2q20 => k_is); k_whole)))
  k_with "M execs cons" => ((k_here; (try dsimp only); with_reducible refine tk_sum ?_; intro tk9; (try (with_reducible rename Fr _ _ _ _ => Fx9; refine fr_let Fx9 ?_; intro mK Fy9; clear Fx9)); (try k_extra "MINE led")))
  k_with "M execs nil" => ((k_here; (try dsimp only); with_reducible refine tk_sum ?_; intro tk9))
  k_with "MINE lt" => (first | assumption | exact And.left (by assumption) | exact And.left (And.right (by assumption)) | exact And.left (And.right (And.right (by assumption))) | exact And.left (And.right (And.right (And.right (by assumption)))) | exact And.left (And.right (And.right (And.right (And.right (by assumption))))) | exact And.left (And.right (And.right (And.right (And.right (And.right (by assumption)))))) | exact And.left (And.right (And.right (And.right (And.right (And.right (And.right (by assumption))))))) | exact And.left (And.right (And.right (And.right (And.right (And.right (And.right (And.right (by assumption)))))))) | exact And.left (And.right (And.right (And.right (And.right (And.right (And.right (And.right (And.right (by assumption))))))))) | exact And.right (by assumption) | exact And.right (And.right (by assumption)) | exact And.right (And.right (And.right (by assumption))) | fail "not seen less")
  k_with "MINE mul" => (first | ((with_reducible refine mulL ?_); decide) | ((with_reducible refine mulR ?_); decide) | ((with_reducible refine' mulRb ?_ ?_); (focus assumption); decide) | ((with_reducible refine' mulLb ?_ ?_); (focus assumption); decide) | ((with_reducible refine mulRm ?_); decide) | ((with_reducible refine mulLm ?_); decide) | fail "not seen small")
  k_with "M binaryOp Mult int int" => ((k_here; k_dflt (refine' PyProof.Rows.mul_int ?_ ?hmq25; rotate_left; (case hmq25 => k_extra "MINE mul"))))
  k_with "M newTuple" => ((k_here; kup_bare; k_dflt (refine' newTupleV ?Fq26 ?Nq26 ?_ ?zq26; (case Fq26 => k_asm); (case Nq26 => k_asm); (case zq26 => kmk_size)); intro D' h' F' N' l1; (try k_lt l1); (try k_sweep)))
  k_with "MINE got" => ((intro v9 n9 h9 tk9 F9 N9 hp9; obtain ⟨hn9, t9, hv9⟩ := hp9; subst hn9 hv9; (try dsimp only); (try k_fold)))
  k_with "M call ref" => ((k_here; (with_reducible show wpAny _ _ (call (Value.ref 90) [Value.int _ _]) _ _ _); k_dflt (refine' Fn.use ?k1 ?k2 ?k3 ?k4 ?k5 ?kK (fn_led _ _ _ _ ) ?kd ?ku ?_; k_extra "MINE use"); k_extra "MINE got"))
  k_with "M call ref" => ((k_here; (with_reducible show wpAny _ _ (call (Value.ref 104) [Value.int _ _]) _ _ _); k_dflt (refine' Fn.use ?k1 ?k2 ?k3 ?k4 ?k5 ?kK (fn_address_of _ _ _ _ ) ?kd ?ku ?_; k_extra "MINE use"); k_extra "MINE got"))
  k_with "M call ref" => ((k_here; (with_reducible show wpAny _ _ (call (Value.ref 230) [Value.int _ _]) _ _ _); k_dflt (refine' Fn.use ?k1 ?k2 ?k3 ?k4 ?k5 ?kK (fn_words_of _ _ _ _ ) ?kd ?ku ?_; k_extra "MINE use"); k_extra "MINE got"))
  k_with "MINE orc" => ((refine' orc_pair ?Fq31 ?Nq31 ?Xq31 ?Tq31 ?kq31 ?aq31 ?bq31 ?pq31 ?qq31 ?xq31 ?yq31 ?zq31; (case Fq31 => k_asm); (case Nq31 => k_asm); (case Xq31 => k_asm); (case Tq31 => k_asm); (case kq31 => exact rfl); (case aq31 => exact rfl); (case bq31 => exact rfl); (case pq31 => k_mem); (case qq31 => k_mem); (case xq31 => exact rfl); (case yq31 => exact rfl); (case zq31 => exact rfl)))
  k_with "MINE cond" => (first | exact True.intro | ((try dsimp only [cP, cAnd]); (repeat' (first | exact True.intro | refine And.intro ?_ ?_)); all_goals first | k_extra "MINE mul" | mul_fits | decide | omega | assumption))
  k_with "M eval BinOp" => ((k_here; (try dsimp only); k_dflt (refine' pe_intO ?Fq33 ?fq33 ?Oq33 ?hq33 ?cq33 ?_; (case Fq33 => k_asm); (case fq33 => exact rfl); (case Oq33 => k_extra "MINE orc"); (case hq33 => exact rfl); (case cq33 => k_extra "MINE cond")); intro t9 tk9; (try dsimp only)))
  k_with "M isTrue Compare" => ((k_here; (try dsimp only); k_dflt (refine' pe_cmp ?Fq34 ?fq34 ?Oq34 ?hq34 ?iq34 ?jq34 ?bq34 ?cq34 ?_; (case Fq34 => k_asm); (case fq34 => exact rfl); (case Oq34 => k_extra "MINE orc"); (case hq34 => exact rfl); (case iq34 => exact rfl); (case jq34 => exact rfl); (case bq34 => exact rfl); (case cq34 => k_extra "MINE cond")); intro tk9; (try dsimp only)))
  k_with "M eval Tuple" => ((k_here; (try dsimp only); k_dflt (first | (refine' pe_tup2 ?Fq35 ?Nq35 ?fq35 ?Oq35 ?hq35 ?iq35 ?sq35 ?uq35 ?cq35 ?_; (case Fq35 => k_asm); (case Nq35 => k_asm); (case fq35 => exact rfl); (case Oq35 => k_extra "MINE orc"); (case hq35 => exact rfl); (case iq35 => exact rfl); (case sq35 => exact rfl); (case uq35 => exact rfl); (case cq35 => k_extra "MINE cond"); intro a9 h9 t9 u9 tk9 F9 N9 l9) | (refine' pe_tup3 ?Fq35 ?Nq35 ?fq35 ?Oq35 ?hq35 ?iq35 ?jq35 ?sq35 ?uq35 ?vq35 ?cq35 ?_; (case Fq35 => k_asm); (case Nq35 => k_asm); (case fq35 => exact rfl); (case Oq35 => k_extra "MINE orc"); (case hq35 => exact rfl); (case iq35 => exact rfl); (case jq35 => exact rfl); (case sq35 => exact rfl); (case uq35 => exact rfl); (case vq35 => exact rfl); (case cq35 => k_extra "MINE cond"); intro a9 h9 t9 u9 v9 tk9 F9 N9 l9)); (have l9c := l9); (try k_lt l9); (try k_sweep); (try dsimp only)))
  k_with "M execs cons" => ((k_here; (with_reducible show wpAny _ _ (execs (Stmt.Assign [Expr.Name _ _] _ _ :: _) _) _ _ _); (try dsimp only); k_dflt (refine' pe_one ?Fq36 ?Nq36 ?fq36 ?Oq36 ?hq36 ?xq36 ?sq36 ?cq36 ?_; (case Fq36 => k_asm); (case Nq36 => k_asm); (case fq36 => exact rfl); (case Oq36 => k_extra "MINE orc"); (case hq36 => exact rfl); (case xq36 => exact rfl); (case sq36 => with_unfolding_all exact rfl); (case cq36 => k_extra "MINE cond"); intro h9 t9 tk9 F9 N9); (try k_sweep)))
  k_with "M execs cons" => ((k_here; (with_reducible show wpAny _ _ (execs (Stmt.Assign [Expr.Tuple [Expr.Name _ _, Expr.Name _ _] _ _] (Expr.Tuple [_, _] _ _) _ :: _) _) _ _ _); (try dsimp only); k_dflt (refine' pe_two ?Fq37 ?Nq37 ?fq37 ?Oq37 ?kq37 ?hq37 ?iq37 ?xq37 ?yq37 ?sq37 ?wq37 ?uq37 ?vq37 ?cq37 ?_; (case Fq37 => k_asm); (case Nq37 => k_asm); (case fq37 => exact rfl); (case Oq37 => k_extra "MINE orc"); (case kq37 => exact rfl); (case hq37 => exact rfl); (case iq37 => exact rfl); (case xq37 => exact rfl); (case yq37 => exact rfl); (case sq37 => with_unfolding_all exact rfl); (case wq37 => with_unfolding_all exact rfl); (case uq37 => exact rfl); (case vq37 => exact rfl); (case cq37 => k_extra "MINE cond"); intro h9 t9 u9 tk9 F9 N9); (try k_sweep)))
  k_with "M eval Call" => (k_fold)
  k_with "M eval Tuple" => (k_fold)
  k_with "M eval BinOp" => (k_fold)
  k_with "M eval Subscript" => (k_fold)
  k_with "M eval IfExp" => (k_fold)
  k_with "M isTrue Compare" => (k_fold)
  k_with "M isTrue BoolOp" => (k_fold)
  k_with "M exec If" => (k_fold)
  k_with "M exec Return" => (k_fold)
  k_with "M compareOp Eq ref ref" => ((k_here; (with_reducible show wpAny _ _ (compareOp CmpOp.Eq (Value.ref _) (Value.ref _)) _ _ _); k_dflt (refine eq_dataH (by ked_read) (by ked_read) (by ked_shaped) (by ked_shaped) (by ktr_units) ?_); (try simp only [PyData.eqv, PyData.eqvAll, Bool.and_true])))
  k_with "MINE t k_room" => (ktr_room)
  k_with "MINE t k_units" => (ktr_units)
  k_with "MINE t k_mem" => (first | with_reducible assumption | assumption | exact List.Mem.head _ | (refine' List.Mem.tail _ ?_; k_mem))
  k_with "MINE t k_all" => (first | assumption | exact cellNe (by assumption) (by k_extra "MINE sub") | exact List.forall_mem_nil _ | (refine' List.forall_mem_cons.mpr ⟨?aq51, ?bq51⟩; (case aq51 => first | k_ne | assumption); (case bq51 => k_all)))
  k_with "MINE t ktr_room" => (first | (refine' rm2 ?hq52 ?bq52; (case hq52 => assumption); (case bq52 => exact rfl)) | (refine' rm1 ?hq52 ?bq52; (case hq52 => assumption); (case bq52 => exact rfl)) | (refine' rm3 ?hq52 ?bq52; (case hq52 => assumption); (case bq52 => exact rfl)) | exact rm0 (by assumption) | fail "no room")
  k_with "MINE t ktr_units" => (first | (refine' rm2 ?hq53 ?bq53; (case hq53 => assumption); (case bq53 => exact rfl)) | (refine' rm1 ?hq53 ?bq53; (case hq53 => assumption); (case bq53 => exact rfl)) | (refine' rm3 ?hq53 ?bq53; (case hq53 => assumption); (case bq53 => exact rfl)) | exact rm0 (by assumption) | fail "no room")
  k_with "MINE t k_ne" => (with_reducible (first | assumption | exact Nat.ne_of_lt (by k_extra "MINE lt") | exact Nat.ne_of_gt (by k_extra "MINE lt") | exact Ne.symm (by assumption) | k_extra "MINE lt" | exact Ne.symm (by k_extra "MINE lt") | fail "not seen unlike"))
  trivial
theorem fn_joined {w : World} {news : Led} {v : Value} {p : Option (Int × Int)} {b : Addr} {t1 t2 : Tok} (hp : PtAt news v p) (hb : (b, tup2O 2 t1 22 t2) ∈ news) :
    Fn w 10 200 322 news [v, .ref b] (fun v' news' => (p = none ∧ v' = .ref b ∧ news' = news) ∨ ∃ x y, p = some (x, y) ∧ PtBack news v' news' (joM x y)) := by
  cases hp with
  | none =>
    (unfold Fn; k_fill; intro pg loose mean mg mb dp un gd cn cs a ccd cl outer A₀ base h₀ L m hp₀ gs₀ dr₀ tk₀ os₀ Q E B F X N T hk hd hu hret; refine wpAny_call ?_; k_dflt ktr_enter; refine wp_let ?_; intro Ak)
    k_steps
    all_goals (refine hret _ news _ _ (by k_asm) (by refine cb_drop (by k_asm) ?_; intro q hq; repeat (first | exact hq | refine List.mem_cons_of_mem _ ?_)) ?_; exact .inl ⟨rfl, rfl, rfl⟩)
  | @some a x y tx ty hm px py =>
    (unfold Fn; k_fill; intro pg loose mean mg mb dp un gd cn cs a ccd cl outer A₀ base h₀ L m hp₀ gs₀ dr₀ tk₀ os₀ Q E B F X N T hk hd hu hret; refine wpAny_call ?_; k_dflt ktr_enter; refine wp_let ?_; intro Ak)
    k_steps
    all_goals first
      | (refine hret _ news _ _ (by k_asm) (by refine cb_drop (by k_asm) ?_; intro q hq; repeat (first | exact hq | refine List.mem_cons_of_mem _ ?_)) ?_; exact .inr ⟨_, _, rfl, ptNone (jo_none (by assumption) (by assumption))⟩)
      | (refine hret _ ((_, tup2O _ _ _ _) :: news) _ _ (by k_asm) (by refine cb_drop (by k_asm) ?_; k_extra "MINE sub") (.inr ⟨_, _, rfl, ptSome (jo_dbl (by omega) (by assumption))⟩))
      | (refine hret _ ((_, tup2O _ _ _ _) :: news) _ _ (by k_asm) (by refine cb_drop (by k_asm) ?_; k_extra "MINE sub") (.inr ⟨_, _, rfl, ptSome (jo_far (by omega) (by assumption))⟩))
theorem lines_E2 : True := by
  w_top off
  k_with_none
  k_with "MINE len" => (((try simp only [List.length_append, List.length_take, List.length_drop, List.length_replicate, List.length_cons, List.length_nil, cutL_length, beL_length, leL_length, partL_length, KBa_byteArr_length, List.length_map, rangeKs_length] at *); omega))
  k_with "MINE num" => (first | omega | assumption | (simp only [Int.reduceToNat, Int.reducePow, Int.reduceMul, Int.fmod_eq_emod_of_nonneg, Int.reduceLE]; omega) | k_extra "MINE len")
  k_with "M call type:bytes" => ((k_here; (with_reducible show wpAny _ _ (call (Value.type "bytes") [Value.int _ _]) _ _ _); refine' bz_call ?h0q2 ?hNq2 ?_; (case h0q2 => k_extra "MINE num"); (case hNq2 => k_extra "MINE num"); intro _ _))
  k_with "M call builtin:len" => ((k_here; (with_reducible show wpAny _ _ (call (Value.builtin "len") [Value.bytes (List.toArray _) _]) _ _ _); refine' len_L ?h0q3 ?_; (case h0q3 => k_extra "MINE num"); intro _ _))
  k_with "M binaryOp Add bytes bytes" => ((k_here; (with_reducible show wpAny _ _ (binaryOp Operator.Add (Value.bytes (List.toArray _) _) (Value.bytes (List.toArray _) _)) _ _ _); refine' add_L ?h0q4 ?_; (case h0q4 => k_extra "MINE num"); intro _ _))
  k_with "M call ref" => ((k_here; (with_reducible show wpAny _ _ (call (Value.ref _) [Value.bytes (List.toArray _) _, Value.str _ _]) _ _ _); kfb_any; k_dflt (refine' from_big ?h1q5 ?h2q5 ?h3q5 ?_; (case h1q5 => k_asm); (case h2q5 => k_mem); (case h3q5 => k_extra "MINE num")); intro _ _))
  k_with "M subscriptTail" => ((k_here; (with_reducible show wpAny _ _ (subscriptTail _ (Expr.Slice _ _ none _) (Value.bytes (List.toArray _) _) (Value.ref _)) _ _ _); (with_reducible rename Fr _ _ _ _ => F'); (with_reducible rename News _ _ _ _ => N'); (first | (refine' slice_ab (s := ⟨_, _, _, _, _⟩) F' N' ?aq6 ?bq6 ?zq6 ?_; (case aq6 => k_extra "MINE num"); (case bq6 => k_extra "MINE num"); (case zq6 => k_extra "MINE num")) | (refine' slice_to (s := ⟨_, _, _, _, _⟩) F' N' ?bq6 ?zq6 ?_; (case bq6 => k_extra "MINE num"); (case zq6 => k_extra "MINE num")) | (refine' slice_from (s := ⟨_, _, _, _, _⟩) F' N' ?aq6 ?zq6 ?_; (case aq6 => k_extra "MINE num"); (case zq6 => k_extra "MINE num"))); intro _ _ _ F' N'))
  k_with "M call builtin:int.to_bytes" => ((k_here; (with_reducible show wpAny _ _ (call (Value.builtin "int.to_bytes") [Value.int _ _, Value.int _ _, Value.str _ _]) _ _ _); (first | (refine' to_bigI ?aq7 ?cq7 ?bq7 ?dq7 ?_; (case aq7 => k_extra "MINE num"); (case cq7 => k_extra "MINE num"); (case bq7 => k_extra "MINE num"); (case dq7 => k_extra "MINE fits")) | (refine' to_littleI ?aq7 ?cq7 ?bq7 ?dq7 ?_; (case aq7 => k_extra "MINE num"); (case cq7 => k_extra "MINE num"); (case bq7 => k_extra "MINE num"); (case dq7 => k_extra "MINE fits"))); intro _ _))
  k_with "MINE fits" => (first | assumption | exact fits_num (by assumption) | (simp only [Int.reduceToNat, Nat.reducePow]; omega) | (simp only [Int.reduceToNat, Nat.reducePow, Int.reducePow, Int.reduceMul, Int.fmod_eq_emod_of_nonneg, Int.reduceLE]; omega))
  k_with "MINE enter" => ((unfold Fn; k_fill; intro p loose mean mg mb dp un gd cn cs a ccd cl outer A₀ base h₀ L m hp₀ gs₀ dr₀ tk₀ os₀ Q E B F X N T hk hd hu hret; refine wpAny_call ?_; k_dflt ktr_enter))
  k_with "MINE use" => (((case k1 => k_asm); (case k2 => k_asm); (case k3 => k_asm); (case k4 => k_asm); (case k5 => k_asm); (case kK => first | exact rfl | assumption); (case kd => ktr_room); (case ku => ktr_units)))
  k_with "M call builtin:pow" => ((k_here; (with_reducible show wpAny _ _ (call (Value.builtin "pow") [Value.int _ _, Value.int _ _, Value.int _ _]) _ _ _); refine' pow3I ?aq11 ?bq11 ?_; (case aq11 => first | decide | k_extra "MINE num"); (case bq11 => first | decide | k_extra "MINE num"); intro _ _ _))
  k_with "MINE sub" => (first | (intro q hq; exact hq) | ((with_reducible refine' List.forall_mem_cons.mpr ⟨?aq12, ?bq12⟩); (case aq12 => k_mem); (case bq12 => k_extra "MINE sub")) | (intro q hq; (repeat (first | exact hq | refine List.mem_cons_of_mem _ ?_))))
  k_with "M call type:bytes" => ((k_here; (with_reducible show wpAny _ _ (call (Value.type "bytes") [Value.bytes _ _]) _ _ _); refine bb_call ?_))
  k_with "MINE pick" => ((repeat (first | exact Pick.head | apply Pick.tail)))
  k_with "M call builtin:max" => ((k_here; (with_reducible show wpAny _ _ (call (Value.builtin "max") [Value.int _ _, Value.int _ _]) _ _ _); k_dflt (refine' maxI ?hq15 ?Fq15 ?Nq15 ?_; (case hq15 => rfl); (case Fq15 => k_asm); (case Nq15 => k_asm)); intro _ _ _ F' N'; (try k_sweep)))
  k_with "M call builtin:min" => ((k_here; (with_reducible show wpAny _ _ (call (Value.builtin "min") [Value.int _ _, Value.int _ _]) _ _ _); k_dflt (refine' minI ?hq16 ?Fq16 ?Nq16 ?_; (case hq16 => rfl); (case Fq16 => k_asm); (case Nq16 => k_asm)); intro _ _ _ F' N'; (try k_sweep)))
  k_with "M call builtin:max" => ((k_here; (with_reducible show wpAny _ _ (call (Value.builtin "max") [Value.int _ _, Value.int _ _, Value.int _ _]) _ _ _); k_dflt (refine' max3I ?hq17 ?Fq17 ?Nq17 ?_; (case hq17 => rfl); (case Fq17 => k_asm); (case Nq17 => k_asm)); intro _ _ _ F' N'; (try k_sweep)))
  k_with "MINE subD" => ((intro q hq; exact List.mem_cons_of_mem _ hq))
  k_with "MINE steps" => (repeat' (first | (k_unfold; (try dsimp only)) | walk1 | (dsimp only; walk1) | (leave1; walk_say "STEP leave1"; try dsimp only) | fail "no step"))
  k_with "M callWith ref" => ((k_here; (with_reducible show wpAny _ _ (callWith _ (Value.ref (OfNat.ofNat _)) _ _ _) _ _ _); k_dflt (refine' callWith_K ?k1q20 ?k2q20 ?_; (case k1q20 => k_asm); (case k2q20 => k_is); k_whole)))
  k_with "M execs cons" => ((k_here; (try dsimp only); with_reducible refine tk_sum ?_; intro tk9; (try (with_reducible rename Fr _ _ _ _ => Fx9; refine fr_let Fx9 ?_; intro mK Fy9; clear Fx9)); (try k_extra "MINE led")))
  k_with "M execs nil" => ((k_here; (try dsimp only); with_reducible refine tk_sum ?_; intro tk9))
  k_with "MINE lt" => (first | assumption | exact And.left (by assumption) | exact And.left (And.right (by assumption)) | exact And.left (And.right (And.right (by assumption))) | exact And.left (And.right (And.right (And.right (by assumption)))) | exact And.left (And.right (And.right (And.right (And.right (by assumption))))) | exact And.left (And.right (And.right (And.right (And.right (And.right (by assumption)))))) | exact And.left (And.right (And.right (And.right (And.right (And.right (And.right (by assumption))))))) | exact And.left (And.right (And.right (And.right (And.right (And.right (And.right (And.right (by assumption)))))))) | exact And.left (And.right (And.right (And.right (And.right (And.right (And.right (And.right (And.right (by assumption))))))))) | exact And.right (by assumption) | exact And.right (And.right (by assumption)) | exact And.right (And.right (And.right (by assumption))) | fail "not seen less")
  k_with "MINE mul" => (first | ((with_reducible refine mulL ?_); decide) | ((with_reducible refine mulR ?_); decide) | ((with_reducible refine' mulRb ?_ ?_); (focus assumption); decide) | ((with_reducible refine' mulLb ?_ ?_); (focus assumption); decide) | ((with_reducible refine mulRm ?_); decide) | ((with_reducible refine mulLm ?_); decide) | fail "not seen small")
  k_with "M binaryOp Mult int int" => ((k_here; k_dflt (refine' PyProof.Rows.mul_int ?_ ?hmq25; rotate_left; (case hmq25 => k_extra "MINE mul"))))
  k_with "M newTuple" => ((k_here; kup_bare; k_dflt (refine' newTupleV ?Fq26 ?Nq26 ?_ ?zq26; (case Fq26 => k_asm); (case Nq26 => k_asm); (case zq26 => kmk_size)); intro D' h' F' N' l1; (try k_lt l1); (try k_sweep)))
  k_with "MINE cond" => (first | exact True.intro | ((try dsimp only [cP, cAnd]); (repeat' (first | exact True.intro | refine And.intro ?_ ?_)); all_goals first | k_extra "MINE mul" | mul_fits | decide | omega | assumption))
  k_with "M eval BinOp" => ((k_here; (try dsimp only); k_dflt (refine' pe_int ?Fq28 ?fq28 ?hq28 ?cq28 ?_; (case Fq28 => k_asm); (case fq28 => exact rfl); (case hq28 => exact rfl); (case cq28 => k_extra "MINE cond")); intro t9 tk9; (try dsimp only)))
  k_with "M isTrue Compare" => ((k_here; (try dsimp only); k_dflt (refine' pe_cmp ?Fq29 ?fq29 noOrc_ok ?hq29 ?iq29 ?jq29 ?bq29 ?cq29 ?_; (case Fq29 => k_asm); (case fq29 => exact rfl); (case hq29 => exact rfl); (case iq29 => exact rfl); (case jq29 => exact rfl); (case bq29 => exact rfl); (case cq29 => k_extra "MINE cond")); intro tk9; (try dsimp only)))
  k_with "M eval Tuple" => ((k_here; (try dsimp only); k_dflt (first | (refine' pe_tup2 ?Fq30 ?Nq30 ?fq30 noOrc_ok ?hq30 ?iq30 ?sq30 ?uq30 ?cq30 ?_; (case Fq30 => k_asm); (case Nq30 => k_asm); (case fq30 => exact rfl); (case hq30 => exact rfl); (case iq30 => exact rfl); (case sq30 => exact rfl); (case uq30 => exact rfl); (case cq30 => k_extra "MINE cond"); intro a9 h9 t9 u9 tk9 F9 N9 l9) | (refine' pe_tup3 ?Fq30 ?Nq30 ?fq30 noOrc_ok ?hq30 ?iq30 ?jq30 ?sq30 ?uq30 ?vq30 ?cq30 ?_; (case Fq30 => k_asm); (case Nq30 => k_asm); (case fq30 => exact rfl); (case hq30 => exact rfl); (case iq30 => exact rfl); (case jq30 => exact rfl); (case sq30 => exact rfl); (case uq30 => exact rfl); (case vq30 => exact rfl); (case cq30 => k_extra "MINE cond"); intro a9 h9 t9 u9 v9 tk9 F9 N9 l9)); (have l9c := l9); (try k_lt l9); (try k_sweep); (try dsimp only)))
  k_with "M execs cons" => ((k_here; (with_reducible show wpAny _ _ (execs (Stmt.Assign [Expr.Name _ _] _ _ :: _) _) _ _ _); (try dsimp only); k_dflt (refine' pe_one ?Fq31 ?Nq31 ?fq31 noOrc_ok ?hq31 ?xq31 ?sq31 ?cq31 ?_; (case Fq31 => k_asm); (case Nq31 => k_asm); (case fq31 => exact rfl); (case hq31 => exact rfl); (case xq31 => exact rfl); (case sq31 => with_unfolding_all exact rfl); (case cq31 => k_extra "MINE cond"); intro h9 t9 tk9 F9 N9); (try k_sweep)))
  k_with "M execs cons" => ((k_here; (with_reducible show wpAny _ _ (execs (Stmt.Assign [Expr.Tuple [Expr.Name _ _, Expr.Name _ _] _ _] (Expr.Tuple [_, _] _ _) _ :: _) _) _ _ _); (try dsimp only); k_dflt (refine' pe_two ?Fq32 ?Nq32 ?fq32 noOrc_ok ?kq32 ?hq32 ?iq32 ?xq32 ?yq32 ?sq32 ?wq32 ?uq32 ?vq32 ?cq32 ?_; (case Fq32 => k_asm); (case Nq32 => k_asm); (case fq32 => exact rfl); (case kq32 => exact rfl); (case hq32 => exact rfl); (case iq32 => exact rfl); (case xq32 => exact rfl); (case yq32 => exact rfl); (case sq32 => with_unfolding_all exact rfl); (case wq32 => with_unfolding_all exact rfl); (case uq32 => exact rfl); (case vq32 => exact rfl); (case cq32 => k_extra "MINE cond"); intro h9 t9 u9 tk9 F9 N9); (try k_sweep)))
  k_with "M eval Call" => (k_fold)
  k_with "M eval Tuple" => (k_fold)
  k_with "M eval BinOp" => (k_fold)
  k_with "M eval Subscript" => (k_fold)
  k_with "M eval IfExp" => (k_fold)
  k_with "M isTrue Compare" => (k_fold)
  k_with "M isTrue BoolOp" => (k_fold)
  k_with "M exec If" => (k_fold)
  k_with "M exec Return" => (k_fold)
  k_with "MINE t k_room" => (ktr_room)
  k_with "MINE t k_units" => (ktr_units)
  k_with "MINE t k_mem" => (first | with_reducible assumption | assumption | exact List.Mem.head _ | (refine' List.Mem.tail _ ?_; k_mem))
  k_with "MINE t k_all" => (first | assumption | exact cellNe (by assumption) (by k_extra "MINE sub") | exact List.forall_mem_nil _ | (refine' List.forall_mem_cons.mpr ⟨?aq45, ?bq45⟩; (case aq45 => first | k_ne | assumption); (case bq45 => k_all)))
  k_with "MINE t ktr_room" => (first | (refine' rm2 ?hq46 ?bq46; (case hq46 => assumption); (case bq46 => exact rfl)) | (refine' rm1 ?hq46 ?bq46; (case hq46 => assumption); (case bq46 => exact rfl)) | (refine' rm3 ?hq46 ?bq46; (case hq46 => assumption); (case bq46 => exact rfl)) | exact rm0 (by assumption) | fail "no room")
  k_with "MINE t ktr_units" => (first | (refine' rm2 ?hq47 ?bq47; (case hq47 => assumption); (case bq47 => exact rfl)) | (refine' rm1 ?hq47 ?bq47; (case hq47 => assumption); (case bq47 => exact rfl)) | (refine' rm3 ?hq47 ?bq47; (case hq47 => assumption); (case bq47 => exact rfl)) | exact rm0 (by assumption) | fail "no room")
  k_with "MINE t k_ne" => (with_reducible (first | assumption | exact Nat.ne_of_lt (by k_extra "MINE lt") | exact Nat.ne_of_gt (by k_extra "MINE lt") | exact Ne.symm (by assumption) | k_extra "MINE lt" | exact Ne.symm (by k_extra "MINE lt") | fail "not seen unlike"))
  trivial
theorem ltNeL {d : Addr} : ∀ {news : Led}, AllLt d news → ∀ q ∈ news, q.1 ≠ d
  | [], _, _, hq => by cases hq
  | _ :: _, h, _, hq => by
    rcases List.mem_cons.mp hq with rfl | hq
    · exact Nat.ne_of_lt h.1
    · exact ltNeL h.2 _ hq
abbrev LeanB (w : World) (news : Led) (v : Value) (news' : Led) : Prop := ∃ st dg cu kd o N, v = .ref st ∧ news' = (kd, o) :: N ∧ SetAt w.params N st dg cu kd ∧ (∀ q ∈ N, q.1 ≠ kd) ∧ (kd == sysModules) = false ∧ DigO w o [] ∧ (∀ q ∈ news, q ∈ N)
theorem permK {a b c d e k : Addr × Obj} {r : Led} : ∀ q ∈ k :: a :: b :: c :: d :: e :: r, q ∈ a :: b :: c :: d :: e :: k :: r := by
  intro q hq
  simp only [List.mem_cons] at hq ⊢
  rcases hq with h | h | h | h | h | h | h <;> simp [h]
theorem setFin {w : World} {h₀ h : Heap} {L : Addr} {news : Led} {o : Obj} {st dg cu kd sd cd g dd : Addr} {t1 t2 t3 t4 t5 t6 t7 t8 c1 c2 c3 c4 c5 c6 c7 c8 c9 d1 : Tok}
    (N : News h₀ L h ((st, instObj 297 sd) :: (sd, settingD w.params dg cu t1 t2 t3 t4 t5 t6 t7 t8) :: (cu, instObj 163 cd) :: (cd, curveD w.params g c1 c2 c3 c4 c5 c6 c7) :: (g, tup2O 2 c8 22 c9) :: (kd, o) :: (dg, instObj 52 dd) :: (dd, dictOf [⟨PyData.keyHash w.params (Str.ofString "known"), .str (Str.ofString "known") d1, .ref kd⟩] 1) :: news))
    (hI : o.IsDictOf (intKind PySem.Challenge.rw_pq0401_01.row.prog w) []) (hS : (kd == sysModules) = false) (hA : dg < kd ∧ dd < kd ∧ AllLt kd news) (n : kd ≠ st ∧ kd ≠ sd ∧ kd ≠ cu ∧ kd ≠ cd ∧ kd ≠ g) : ∃ N', News h₀ L h N' ∧ LeanB w news (.ref st) N' := by
  refine ⟨(kd, o) :: (st, instObj 297 sd) :: (sd, settingD w.params dg cu t1 t2 t3 t4 t5 t6 t7 t8) :: (cu, instObj 163 cd) :: (cd, curveD w.params g c1 c2 c3 c4 c5 c6 c7) :: (g, tup2O 2 c8 22 c9) :: (dg, instObj 52 dd) :: (dd, dictOf [⟨PyData.keyHash w.params (Str.ofString "known"), .str (Str.ofString "known") d1, .ref kd⟩] 1) :: news, ?_, st, dg, cu, kd, o, _, rfl, rfl, ?_, ?_, hS, ⟨[], hI, .nil⟩, ?_⟩
  · exact cb_drop N permK
  · exact ⟨⟨sd, t1, t2, t3, t4, t5, t6, t7, t8, by repeat (first | exact List.Mem.head _ | refine List.Mem.tail _ ?_), by repeat (first | exact List.Mem.head _ | refine List.Mem.tail _ ?_)⟩, ⟨cd, g, c1, c2, c3, c4, c5, c6, c7, c8, c9, by repeat (first | exact List.Mem.head _ | refine List.Mem.tail _ ?_), by repeat (first | exact List.Mem.head _ | refine List.Mem.tail _ ?_), by repeat (first | exact List.Mem.head _ | refine List.Mem.tail _ ?_)⟩, ⟨dd, d1, by repeat (first | exact List.Mem.head _ | refine List.Mem.tail _ ?_), by repeat (first | exact List.Mem.head _ | refine List.Mem.tail _ ?_)⟩⟩
  · obtain ⟨n1, n2, n3, n4, n5⟩ := n
    refine List.forall_mem_cons.mpr ⟨Ne.symm n1, List.forall_mem_cons.mpr ⟨Ne.symm n2, List.forall_mem_cons.mpr ⟨Ne.symm n3, List.forall_mem_cons.mpr ⟨Ne.symm n4, List.forall_mem_cons.mpr ⟨Ne.symm n5, List.forall_mem_cons.mpr ⟨Nat.ne_of_lt hA.1, List.forall_mem_cons.mpr ⟨Nat.ne_of_lt hA.2.1, ltNeL hA.2.2⟩⟩⟩⟩⟩⟩⟩
  · intro q hq
    iterate 7 (refine List.Mem.tail _ ?_)
    exact hq
theorem fn_lean_setting {w : World} {news : Led} : Fn w 40 160 308 news [] (fun v news' => LeanB w news v news') := by
  (unfold Fn; k_fill; intro pg loose mean mg mb dp un gd cn cs a ccd cl outer A₀ base h₀ L m hp₀ gs₀ dr₀ tk₀ os₀ Q E B F X N T hk hd hu hret; refine wpAny_call ?_; k_dflt ktr_enter; refine wp_let ?_; intro Ak)
  k_steps
  rename _ < _ ∧ _ < _ ∧ AllLt _ _ => hA
  rename Obj.IsDictOf (intKind _ _) _ _ => hI
  rename (_ == sysModules) = false => hS
  rename News h₀ L _ _ => NN
  have hh := setFin NN hI hS hA ⟨by k_ne, by k_ne, by k_ne, by k_ne, by k_ne⟩
  obtain ⟨N', h1, h2⟩ := hh
  exact hret _ N' _ _ (by k_asm) h1 h2
theorem lines_E3 : True := by
  w_top off
  k_with_none
  k_with "MINE len" => (((try simp only [List.length_append, List.length_take, List.length_drop, List.length_replicate, List.length_cons, List.length_nil, cutL_length, beL_length, leL_length, partL_length, KBa_byteArr_length, List.length_map, rangeKs_length] at *); omega))
  k_with "MINE num" => (first | omega | assumption | (simp only [Int.reduceToNat, Int.reducePow, Int.reduceMul, Int.fmod_eq_emod_of_nonneg, Int.reduceLE]; omega) | k_extra "MINE len")
  k_with "M call type:bytes" => ((k_here; (with_reducible show wpAny _ _ (call (Value.type "bytes") [Value.int _ _]) _ _ _); refine' bz_call ?h0q2 ?hNq2 ?_; (case h0q2 => k_extra "MINE num"); (case hNq2 => k_extra "MINE num"); intro _ _))
  k_with "M call builtin:len" => ((k_here; (with_reducible show wpAny _ _ (call (Value.builtin "len") [Value.bytes (List.toArray _) _]) _ _ _); refine' len_L ?h0q3 ?_; (case h0q3 => k_extra "MINE num"); intro _ _))
  k_with "M binaryOp Add bytes bytes" => ((k_here; (with_reducible show wpAny _ _ (binaryOp Operator.Add (Value.bytes (List.toArray _) _) (Value.bytes (List.toArray _) _)) _ _ _); refine' add_L ?h0q4 ?_; (case h0q4 => k_extra "MINE num"); intro _ _))
  k_with "M call ref" => ((k_here; (with_reducible show wpAny _ _ (call (Value.ref _) [Value.bytes (List.toArray _) _, Value.str _ _]) _ _ _); kfb_any; k_dflt (refine' from_big ?h1q5 ?h2q5 ?h3q5 ?_; (case h1q5 => k_asm); (case h2q5 => k_mem); (case h3q5 => k_extra "MINE num")); intro _ _))
  k_with "M subscriptTail" => ((k_here; (with_reducible show wpAny _ _ (subscriptTail _ (Expr.Slice _ _ none _) (Value.bytes (List.toArray _) _) (Value.ref _)) _ _ _); (with_reducible rename Fr _ _ _ _ => F'); (with_reducible rename News _ _ _ _ => N'); (first | (refine' slice_ab (s := ⟨_, _, _, _, _⟩) F' N' ?aq6 ?bq6 ?zq6 ?_; (case aq6 => k_extra "MINE num"); (case bq6 => k_extra "MINE num"); (case zq6 => k_extra "MINE num")) | (refine' slice_to (s := ⟨_, _, _, _, _⟩) F' N' ?bq6 ?zq6 ?_; (case bq6 => k_extra "MINE num"); (case zq6 => k_extra "MINE num")) | (refine' slice_from (s := ⟨_, _, _, _, _⟩) F' N' ?aq6 ?zq6 ?_; (case aq6 => k_extra "MINE num"); (case zq6 => k_extra "MINE num"))); intro _ _ _ F' N'))
  k_with "M call builtin:int.to_bytes" => ((k_here; (with_reducible show wpAny _ _ (call (Value.builtin "int.to_bytes") [Value.int _ _, Value.int _ _, Value.str _ _]) _ _ _); (first | (refine' to_bigI ?aq7 ?cq7 ?bq7 ?dq7 ?_; (case aq7 => k_extra "MINE num"); (case cq7 => k_extra "MINE num"); (case bq7 => k_extra "MINE num"); (case dq7 => k_extra "MINE fits")) | (refine' to_littleI ?aq7 ?cq7 ?bq7 ?dq7 ?_; (case aq7 => k_extra "MINE num"); (case cq7 => k_extra "MINE num"); (case bq7 => k_extra "MINE num"); (case dq7 => k_extra "MINE fits"))); intro _ _))
  k_with "MINE fits" => (first | assumption | exact fits_num (by assumption) | (simp only [Int.reduceToNat, Nat.reducePow]; omega) | (simp only [Int.reduceToNat, Nat.reducePow, Int.reducePow, Int.reduceMul, Int.fmod_eq_emod_of_nonneg, Int.reduceLE]; omega))
  k_with "MINE enter" => ((unfold Fn; k_fill; intro p loose mean mg mb dp un gd cn cs a ccd cl outer A₀ base h₀ L m hp₀ gs₀ dr₀ tk₀ os₀ Q E B F X N T hk hd hu hret; refine wpAny_call ?_; k_dflt ktr_enter))
  k_with "MINE use" => (((case k1 => k_asm); (case k2 => k_asm); (case k3 => k_asm); (case k4 => k_asm); (case k5 => k_asm); (case kK => first | exact rfl | assumption); (case kd => ktr_room); (case ku => ktr_units)))
  k_with "M call builtin:pow" => ((k_here; (with_reducible show wpAny _ _ (call (Value.builtin "pow") [Value.int _ _, Value.int _ _, Value.int _ _]) _ _ _); refine' pow3I ?aq11 ?bq11 ?_; (case aq11 => first | decide | k_extra "MINE num"); (case bq11 => first | decide | k_extra "MINE num"); intro _ _ _))
  k_with "MINE sub" => (first | (intro q hq; exact hq) | ((with_reducible refine' List.forall_mem_cons.mpr ⟨?aq12, ?bq12⟩); (case aq12 => k_mem); (case bq12 => k_extra "MINE sub")) | (intro q hq; (repeat (first | exact hq | refine List.mem_cons_of_mem _ ?_))))
  k_with "M call type:bytes" => ((k_here; (with_reducible show wpAny _ _ (call (Value.type "bytes") [Value.bytes _ _]) _ _ _); refine bb_call ?_))
  k_with "MINE pick" => ((repeat (first | exact Pick.head | apply Pick.tail)))
  k_with "M call builtin:max" => ((k_here; (with_reducible show wpAny _ _ (call (Value.builtin "max") [Value.int _ _, Value.int _ _]) _ _ _); k_dflt (refine' maxI ?hq15 ?Fq15 ?Nq15 ?_; (case hq15 => rfl); (case Fq15 => k_asm); (case Nq15 => k_asm)); intro _ _ _ F' N'; (try k_sweep)))
  k_with "M call builtin:min" => ((k_here; (with_reducible show wpAny _ _ (call (Value.builtin "min") [Value.int _ _, Value.int _ _]) _ _ _); k_dflt (refine' minI ?hq16 ?Fq16 ?Nq16 ?_; (case hq16 => rfl); (case Fq16 => k_asm); (case Nq16 => k_asm)); intro _ _ _ F' N'; (try k_sweep)))
  k_with "M call builtin:max" => ((k_here; (with_reducible show wpAny _ _ (call (Value.builtin "max") [Value.int _ _, Value.int _ _, Value.int _ _]) _ _ _); k_dflt (refine' max3I ?hq17 ?Fq17 ?Nq17 ?_; (case hq17 => rfl); (case Fq17 => k_asm); (case Nq17 => k_asm)); intro _ _ _ F' N'; (try k_sweep)))
  k_with "MINE subD" => ((intro q hq; exact List.mem_cons_of_mem _ hq))
  k_with "MINE steps" => (repeat' (first | (k_unfold; (try dsimp only)) | walk1 | (dsimp only; walk1) | (leave1; walk_say "STEP leave1"; try dsimp only) | fail "no step"))
  k_with "M callWith ref" => ((k_here; (with_reducible show wpAny _ _ (callWith _ (Value.ref (OfNat.ofNat _)) _ _ _) _ _ _); k_dflt (refine' callWith_K ?k1q20 ?k2q20 ?_; (case k1q20 => k_asm); (case k2q20 => k_is); k_whole)))
  k_with "M execs cons" => ((k_here; (try dsimp only); with_reducible refine tk_sum ?_; intro tk9; (try (with_reducible rename Fr _ _ _ _ => Fx9; refine fr_let Fx9 ?_; intro mK Fy9; clear Fx9)); (try k_extra "MINE led")))
  k_with "M execs nil" => ((k_here; (try dsimp only); with_reducible refine tk_sum ?_; intro tk9))
  k_with "MINE lt" => (first | assumption | exact And.left (by assumption) | exact And.left (And.right (by assumption)) | exact And.left (And.right (And.right (by assumption))) | exact And.left (And.right (And.right (And.right (by assumption)))) | exact And.left (And.right (And.right (And.right (And.right (by assumption))))) | exact And.left (And.right (And.right (And.right (And.right (And.right (by assumption)))))) | exact And.left (And.right (And.right (And.right (And.right (And.right (And.right (by assumption))))))) | exact And.left (And.right (And.right (And.right (And.right (And.right (And.right (And.right (by assumption)))))))) | exact And.left (And.right (And.right (And.right (And.right (And.right (And.right (And.right (And.right (by assumption))))))))) | exact And.right (by assumption) | exact And.right (And.right (by assumption)) | exact And.right (And.right (And.right (by assumption))) | fail "not seen less")
  k_with "MINE mul" => (first | ((with_reducible refine mulL ?_); decide) | ((with_reducible refine mulR ?_); decide) | ((with_reducible refine' mulRb ?_ ?_); (focus assumption); decide) | ((with_reducible refine' mulLb ?_ ?_); (focus assumption); decide) | ((with_reducible refine mulRm ?_); decide) | ((with_reducible refine mulLm ?_); decide) | fail "not seen small")
  k_with "M binaryOp Mult int int" => ((k_here; k_dflt (refine' PyProof.Rows.mul_int ?_ ?hmq25; rotate_left; (case hmq25 => k_extra "MINE mul"))))
  k_with "M newTuple" => ((k_here; kup_bare; k_dflt (refine' newTupleV ?Fq26 ?Nq26 ?_ ?zq26; (case Fq26 => k_asm); (case Nq26 => k_asm); (case zq26 => kmk_size)); intro D' h' F' N' l1; (try k_lt l1); (try k_sweep)))
  k_with "MINE gotJ" => ((intro v9 n9 h9 tk9 F9 N9 hp9; rcases hp9 with ⟨e9, hv9, hn9⟩ | ⟨x9, y9, e9, hp9⟩; all_goals (first | (subst hn9 hv9; (try dsimp only); (try k_fold)) | (rcases PtBack.cases hp9 with ⟨er9, hv9, hn9⟩ | ⟨x8, y8, a9, t9, t9', er9, hv9, hn9⟩; all_goals (clear hp9; subst hv9 hn9; (try (k_dflt (have hne9 := neN (neRow N9 (List.Mem.head _) (by k_mem))))); (try dsimp only); (try k_fold))))))
  k_with "M call ref" => ((k_here; (with_reducible show wpAny _ _ (call (Value.ref 322) [_, Value.ref _]) _ _ _); k_dflt (refine' Fn.use ?k1 ?k2 ?k3 ?k4 ?k5 ?kK (fn_joined  ?c1q28 ?c2q28) ?kd ?ku ?_; k_extra "MINE use"; (case c1q28 => first | exact PtAt.none | assumption | exact PtAt.more (by assumption) (by k_extra "MINE sub")); (case c2q28 => k_mem)); k_extra "MINE gotJ"))
  k_with "MINE cond" => (first | exact True.intro | ((try dsimp only [cP, cAnd]); (repeat' (first | exact True.intro | refine And.intro ?_ ?_)); all_goals first | k_extra "MINE mul" | mul_fits | decide | omega | assumption))
  k_with "M eval BinOp" => ((k_here; (try dsimp only); k_dflt (refine' pe_int ?Fq30 ?fq30 ?hq30 ?cq30 ?_; (case Fq30 => k_asm); (case fq30 => exact rfl); (case hq30 => exact rfl); (case cq30 => k_extra "MINE cond")); intro t9 tk9; (try dsimp only)))
  k_with "M isTrue Compare" => ((k_here; (try dsimp only); k_dflt (refine' pe_cmp ?Fq31 ?fq31 noOrc_ok ?hq31 ?iq31 ?jq31 ?bq31 ?cq31 ?_; (case Fq31 => k_asm); (case fq31 => exact rfl); (case hq31 => exact rfl); (case iq31 => exact rfl); (case jq31 => exact rfl); (case bq31 => exact rfl); (case cq31 => k_extra "MINE cond")); intro tk9; (try dsimp only)))
  k_with "M eval Tuple" => ((k_here; (try dsimp only); k_dflt (first | (refine' pe_tup2 ?Fq32 ?Nq32 ?fq32 noOrc_ok ?hq32 ?iq32 ?sq32 ?uq32 ?cq32 ?_; (case Fq32 => k_asm); (case Nq32 => k_asm); (case fq32 => exact rfl); (case hq32 => exact rfl); (case iq32 => exact rfl); (case sq32 => exact rfl); (case uq32 => exact rfl); (case cq32 => k_extra "MINE cond"); intro a9 h9 t9 u9 tk9 F9 N9 l9) | (refine' pe_tup3 ?Fq32 ?Nq32 ?fq32 noOrc_ok ?hq32 ?iq32 ?jq32 ?sq32 ?uq32 ?vq32 ?cq32 ?_; (case Fq32 => k_asm); (case Nq32 => k_asm); (case fq32 => exact rfl); (case hq32 => exact rfl); (case iq32 => exact rfl); (case jq32 => exact rfl); (case sq32 => exact rfl); (case uq32 => exact rfl); (case vq32 => exact rfl); (case cq32 => k_extra "MINE cond"); intro a9 h9 t9 u9 v9 tk9 F9 N9 l9)); (have l9c := l9); (try k_lt l9); (try k_sweep); (try dsimp only)))
  k_with "M execs cons" => ((k_here; (with_reducible show wpAny _ _ (execs (Stmt.Assign [Expr.Name _ _] _ _ :: _) _) _ _ _); (try dsimp only); k_dflt (refine' pe_one ?Fq33 ?Nq33 ?fq33 noOrc_ok ?hq33 ?xq33 ?sq33 ?cq33 ?_; (case Fq33 => k_asm); (case Nq33 => k_asm); (case fq33 => exact rfl); (case hq33 => exact rfl); (case xq33 => exact rfl); (case sq33 => with_unfolding_all exact rfl); (case cq33 => k_extra "MINE cond"); intro h9 t9 tk9 F9 N9); (try k_sweep)))
  k_with "M execs cons" => ((k_here; (with_reducible show wpAny _ _ (execs (Stmt.Assign [Expr.Tuple [Expr.Name _ _, Expr.Name _ _] _ _] (Expr.Tuple [_, _] _ _) _ :: _) _) _ _ _); (try dsimp only); k_dflt (refine' pe_two ?Fq34 ?Nq34 ?fq34 noOrc_ok ?kq34 ?hq34 ?iq34 ?xq34 ?yq34 ?sq34 ?wq34 ?uq34 ?vq34 ?cq34 ?_; (case Fq34 => k_asm); (case Nq34 => k_asm); (case fq34 => exact rfl); (case kq34 => exact rfl); (case hq34 => exact rfl); (case iq34 => exact rfl); (case xq34 => exact rfl); (case yq34 => exact rfl); (case sq34 => with_unfolding_all exact rfl); (case wq34 => with_unfolding_all exact rfl); (case uq34 => exact rfl); (case vq34 => exact rfl); (case cq34 => k_extra "MINE cond"); intro h9 t9 u9 tk9 F9 N9); (try k_sweep)))
  k_with "M eval Call" => (k_fold)
  k_with "M eval Tuple" => (k_fold)
  k_with "M eval BinOp" => (k_fold)
  k_with "M eval Subscript" => (k_fold)
  k_with "M eval IfExp" => (k_fold)
  k_with "M isTrue Compare" => (k_fold)
  k_with "M isTrue BoolOp" => (k_fold)
  k_with "M exec If" => (k_fold)
  k_with "M exec Return" => (k_fold)
  k_with "M exec For Name Call cons nil" => ((k_here; (rename Fr _ _ _ _ => lF'); (with_unfolding_all refine' For_invVF lF' ?k1q44 ?k2q44 ?_; (case k1q44 => exact rfl); (case k2q44 => exact rfl); k_whole)))
  k_with "M pyIter ref" => ((k_here; (with_reducible show wpAny _ _ (pyIter (Value.ref _)) (fun it s₂ => LoopAtV _ _ _ _ _ _ _ _ _ it s₂) _ _); refine Stop.go ?_))
  k_with "M GrowEnd" => (refine Stop.go ?_)
  k_with "M subscriptTail" => ((k_here; (with_reducible show wpAny _ _ (subscriptTail _ _ (Value.ref _) (Value.int (-1) _)) _ _ _); k_dflt (refine' item_last (News.isList ?Fq47 ?mq47) ?_; (case Fq47 => k_asm); (case mq47 => k_mem))))
  k_with "M call builtin:list.append" => ((k_here; (with_reducible show wpAny _ _ (call (Value.builtin _) [Value.ref _, _]) _ _ _); k_dflt (refine' append_K ?k1q48 ?k2q48 ?k3q48 ?_ ?zq48; (case k1q48 => k_asm); (case k2q48 => k_asm); (case k3q48 => k_upd); (case zq48 => ((have e9 : sizeLine = 16777216 := rfl); rw [e9]; simp only [List.size_toArray, List.length_append, List.length_cons, List.length_nil]; omega)); k_whole); intro h' F' N'; (try simp only [List.push_toArray] at N')))
  k_with "MINE t k_room" => (ktr_room)
  k_with "MINE t k_units" => (ktr_units)
  k_with "MINE t k_mem" => (first | with_reducible assumption | assumption | exact List.Mem.head _ | (refine' List.Mem.tail _ ?_; k_mem))
  k_with "MINE t k_all" => (first | assumption | exact cellNe (by assumption) (by k_extra "MINE sub") | exact List.forall_mem_nil _ | (refine' List.forall_mem_cons.mpr ⟨?aq52, ?bq52⟩; (case aq52 => first | k_ne | assumption); (case bq52 => k_all)))
  k_with "MINE t ktr_room" => (first | (refine' rm2 ?hq53 ?bq53; (case hq53 => assumption); (case bq53 => exact rfl)) | (refine' rm1 ?hq53 ?bq53; (case hq53 => assumption); (case bq53 => exact rfl)) | (refine' rm3 ?hq53 ?bq53; (case hq53 => assumption); (case bq53 => exact rfl)) | exact rm0 (by assumption) | fail "no room")
  k_with "MINE t ktr_units" => (first | (refine' rm2 ?hq54 ?bq54; (case hq54 => assumption); (case bq54 => exact rfl)) | (refine' rm1 ?hq54 ?bq54; (case hq54 => assumption); (case bq54 => exact rfl)) | (refine' rm3 ?hq54 ?bq54; (case hq54 => assumption); (case bq54 => exact rfl)) | exact rm0 (by assumption) | fail "no room")
  k_with "MINE t k_ne" => (with_reducible (first | assumption | exact Nat.ne_of_lt (by k_extra "MINE lt") | exact Nat.ne_of_gt (by k_extra "MINE lt") | exact Ne.symm (by assumption) | k_extra "MINE lt" | exact Ne.symm (by k_extra "MINE lt") | fail "not seen unlike"))
  trivial
theorem fn_multiples {w : World} {news : Led} : Fn w 40 240 329 news [] (fun v news' => ∃ ra, v = .ref ra ∧ RowsAt news' ra ∧ (∀ q ∈ news, q ∈ news')) := by
  (unfold Fn; k_fill; intro pg loose mean mg mb dp un gd cn cs a ccd cl outer A₀ base h₀ L m hp₀ gs₀ dr₀ tk₀ os₀ Q E B F X N T hk hd hu hret; refine wpAny_call ?_; k_dflt ktr_enter; refine wp_let ?_; intro Ak)
  k_steps
  delta Stop
  rename Fr _ _ _ _ => lF
  rename News _ _ _ _ => lN
  rename ∀ p ∈ news, Prod.fst p < _ => lA
  have m0 := mu0 lA
  refine' for_grow (n := 78) (by rfl) (by assumption) (by decide) (by decide) lF lN m0 ?turn ?done
  case turn =>
    intro i tt I yy ll news₁ h1 tk1 hi hR hI lF1 lN1
    obtain ⟨vs, v, e, N1, rfl, hvl, hvR, hN1, hsb⟩ := hR
    have hv := hvR vs.length v (by simp)
    have hIr := neN (hI _ (List.Mem.head _))
    dsimp only at hIr
    try k_fold
    k_steps
    all_goals delta Stop
    · rename News _ _ _ _ => lN2
      exact muNext (N2 := (_, tup2O 2 _ 22 _) :: N1) (fun y hy => if_neg hy) (by assumption) lN2 (by k_mem) (by k_mem) (by k_extra "MINE sub") (List.forall_mem_cons.mpr ⟨by k_ne, fun q hq => hI q (List.mem_cons_of_mem _ hq)⟩) hIr (List.forall_mem_cons.mpr ⟨by k_ne, hN1⟩) hvl hvR (by k_extra "MINE sub") hsb (.some (List.Mem.head _) ⟨by decide, by decide⟩ ⟨by decide, by decide⟩) (tb_none (by assumption)).symm
    · rename News _ _ _ _ => lN2
      exact muNext (N2 := N1) (fun y hy => if_neg hy) (by assumption) lN2 (by k_mem) (by k_mem) (by k_extra "MINE sub") (fun q hq => hI q (List.mem_cons_of_mem _ hq)) hIr hN1 hvl hvR (by k_extra "MINE sub") hsb .none ((tb_some (by assumption)).trans (by assumption)).symm
    · rename News _ _ _ _ => lN2
      rename joM _ _ = some _ => er9
      have hj := joM_in er9
      have hne := neData lN2 (List.Mem.head _) (show (I, rgIt yy ll) ∈ _ by k_mem) (by intro h; injection h with h; revert h; decide)
      exact muNext (N2 := (_, tup2O _ _ _ _) :: N1) (fun y hy => if_neg hy) (by assumption) lN2 (by k_mem) (by k_mem) (by k_extra "MINE sub") (List.forall_mem_cons.mpr ⟨hne, fun q hq => hI q (List.mem_cons_of_mem _ hq)⟩) hIr (List.forall_mem_cons.mpr ⟨by assumption, hN1⟩) hvl hvR (by k_extra "MINE sub") hsb (.some (List.Mem.head _) hj.1 hj.2) ((tb_some (by assumption)).trans er9).symm
  case done =>
    intro u news₁ h1 tk1 hR lF1 lN1
    obtain ⟨r1, r2⟩ := mu_end hR
    try k_fold
    k_steps
    all_goals exact hret _ news₁ _ _ (by k_asm) (by k_asm) ⟨_, rfl, r1, r2⟩
theorem lines_D5 : True := by
  w_top off
  k_with_none
  k_with "MINE len" => (((try simp only [List.length_append, List.length_take, List.length_drop, List.length_replicate, List.length_cons, List.length_nil, cutL_length, beL_length, leL_length, partL_length, KBa_byteArr_length, List.length_map, rangeKs_length] at *); omega))
  k_with "MINE num" => (first | omega | assumption | (simp only [Int.reduceToNat, Int.reducePow, Int.reduceMul, Int.fmod_eq_emod_of_nonneg, Int.reduceLE]; omega) | k_extra "MINE len")
  k_with "M call type:bytes" => ((k_here; (with_reducible show wpAny _ _ (call (Value.type "bytes") [Value.int _ _]) _ _ _); refine' bz_call ?h0q2 ?hNq2 ?_; (case h0q2 => k_extra "MINE num"); (case hNq2 => k_extra "MINE num"); intro _ _))
  k_with "M call builtin:len" => ((k_here; (with_reducible show wpAny _ _ (call (Value.builtin "len") [Value.bytes (List.toArray _) _]) _ _ _); refine' len_L ?h0q3 ?_; (case h0q3 => k_extra "MINE num"); intro _ _))
  k_with "M binaryOp Add bytes bytes" => ((k_here; (with_reducible show wpAny _ _ (binaryOp Operator.Add (Value.bytes (List.toArray _) _) (Value.bytes (List.toArray _) _)) _ _ _); refine' add_L ?h0q4 ?_; (case h0q4 => k_extra "MINE num"); intro _ _))
  k_with "M call ref" => ((k_here; (with_reducible show wpAny _ _ (call (Value.ref _) [Value.bytes (List.toArray _) _, Value.str _ _]) _ _ _); kfb_any; k_dflt (refine' from_big ?h1q5 ?h2q5 ?h3q5 ?_; (case h1q5 => k_asm); (case h2q5 => k_mem); (case h3q5 => k_extra "MINE num")); intro _ _))
  k_with "M subscriptTail" => ((k_here; (with_reducible show wpAny _ _ (subscriptTail _ (Expr.Slice _ _ none _) (Value.bytes (List.toArray _) _) (Value.ref _)) _ _ _); (with_reducible rename Fr _ _ _ _ => F'); (with_reducible rename News _ _ _ _ => N'); (first | (refine' slice_ab (s := ⟨_, _, _, _, _⟩) F' N' ?aq6 ?bq6 ?zq6 ?_; (case aq6 => k_extra "MINE num"); (case bq6 => k_extra "MINE num"); (case zq6 => k_extra "MINE num")) | (refine' slice_to (s := ⟨_, _, _, _, _⟩) F' N' ?bq6 ?zq6 ?_; (case bq6 => k_extra "MINE num"); (case zq6 => k_extra "MINE num")) | (refine' slice_from (s := ⟨_, _, _, _, _⟩) F' N' ?aq6 ?zq6 ?_; (case aq6 => k_extra "MINE num"); (case zq6 => k_extra "MINE num"))); intro _ _ _ F' N'))
  k_with "M call builtin:int.to_bytes" => ((k_here; (with_reducible show wpAny _ _ (call (Value.builtin "int.to_bytes") [Value.int _ _, Value.int _ _, Value.str _ _]) _ _ _); (first | (refine' to_bigI ?aq7 ?cq7 ?bq7 ?dq7 ?_; (case aq7 => k_extra "MINE num"); (case cq7 => k_extra "MINE num"); (case bq7 => k_extra "MINE num"); (case dq7 => k_extra "MINE fits")) | (refine' to_littleI ?aq7 ?cq7 ?bq7 ?dq7 ?_; (case aq7 => k_extra "MINE num"); (case cq7 => k_extra "MINE num"); (case bq7 => k_extra "MINE num"); (case dq7 => k_extra "MINE fits"))); intro _ _))
  k_with "MINE fits" => (first | assumption | exact fits_num (by assumption) | (simp only [Int.reduceToNat, Nat.reducePow]; omega) | (simp only [Int.reduceToNat, Nat.reducePow, Int.reducePow, Int.reduceMul, Int.fmod_eq_emod_of_nonneg, Int.reduceLE]; omega))
  k_with "MINE enter" => ((unfold Fn; k_fill; intro p loose mean mg mb dp un gd cn cs a ccd cl outer A₀ base h₀ L m hp₀ gs₀ dr₀ tk₀ os₀ Q E B F X N T hk hd hu hret; refine wpAny_call ?_; k_dflt ktr_enter))
  k_with "MINE use" => (((case k1 => k_asm); (case k2 => k_asm); (case k3 => k_asm); (case k4 => k_asm); (case k5 => k_asm); (case kK => first | exact rfl | assumption); (case kd => ktr_room); (case ku => ktr_units)))
  k_with "M call builtin:pow" => ((k_here; (with_reducible show wpAny _ _ (call (Value.builtin "pow") [Value.int _ _, Value.int _ _, Value.int _ _]) _ _ _); refine' pow3I ?aq11 ?bq11 ?_; (case aq11 => first | decide | k_extra "MINE num"); (case bq11 => first | decide | k_extra "MINE num"); intro _ _ _))
  k_with "MINE sub" => (first | (intro q hq; exact hq) | ((with_reducible refine' List.forall_mem_cons.mpr ⟨?aq12, ?bq12⟩); (case aq12 => k_mem); (case bq12 => k_extra "MINE sub")) | (intro q hq; (repeat (first | exact hq | refine List.mem_cons_of_mem _ ?_))))
  k_with "M call type:bytes" => ((k_here; (with_reducible show wpAny _ _ (call (Value.type "bytes") [Value.bytes _ _]) _ _ _); refine bb_call ?_))
  k_with "MINE pick" => ((repeat (first | exact Pick.head | apply Pick.tail)))
  k_with "M call builtin:max" => ((k_here; (with_reducible show wpAny _ _ (call (Value.builtin "max") [Value.int _ _, Value.int _ _]) _ _ _); k_dflt (refine' maxI ?hq15 ?Fq15 ?Nq15 ?_; (case hq15 => rfl); (case Fq15 => k_asm); (case Nq15 => k_asm)); intro _ _ _ F' N'; (try k_sweep)))
  k_with "M call builtin:min" => ((k_here; (with_reducible show wpAny _ _ (call (Value.builtin "min") [Value.int _ _, Value.int _ _]) _ _ _); k_dflt (refine' minI ?hq16 ?Fq16 ?Nq16 ?_; (case hq16 => rfl); (case Fq16 => k_asm); (case Nq16 => k_asm)); intro _ _ _ F' N'; (try k_sweep)))
  k_with "M call builtin:max" => ((k_here; (with_reducible show wpAny _ _ (call (Value.builtin "max") [Value.int _ _, Value.int _ _, Value.int _ _]) _ _ _); k_dflt (refine' max3I ?hq17 ?Fq17 ?Nq17 ?_; (case hq17 => rfl); (case Fq17 => k_asm); (case Nq17 => k_asm)); intro _ _ _ F' N'; (try k_sweep)))
  k_with "MINE subD" => ((intro q hq; exact List.mem_cons_of_mem _ hq))
  k_with "MINE steps" => (repeat' (first | (k_unfold; (try dsimp only)) | walk1 | (dsimp only; walk1) | (leave1; walk_say "STEP leave1"; try dsimp only) | fail "no step"))
  k_with "M callWith ref" => ((k_here; (with_reducible show wpAny _ _ (callWith _ (Value.ref (OfNat.ofNat _)) _ _ _) _ _ _); k_dflt (refine' callWith_K ?k1q20 ?k2q20 ?_; (case k1q20 => k_asm); (case k2q20 => k_is); k_whole)))
  k_with "M execs cons" => ((k_here; (try dsimp only); with_reducible refine tk_sum ?_; intro tk9; (try (with_reducible rename Fr _ _ _ _ => Fx9; refine fr_let Fx9 ?_; intro mK Fy9; clear Fx9)); (try k_extra "MINE led")))
  k_with "M execs nil" => ((k_here; (try dsimp only); with_reducible refine tk_sum ?_; intro tk9))
  k_with "MINE lt" => (first | assumption | exact And.left (by assumption) | exact And.left (And.right (by assumption)) | exact And.left (And.right (And.right (by assumption))) | exact And.left (And.right (And.right (And.right (by assumption)))) | exact And.left (And.right (And.right (And.right (And.right (by assumption))))) | exact And.left (And.right (And.right (And.right (And.right (And.right (by assumption)))))) | exact And.left (And.right (And.right (And.right (And.right (And.right (And.right (by assumption))))))) | exact And.left (And.right (And.right (And.right (And.right (And.right (And.right (And.right (by assumption)))))))) | exact And.left (And.right (And.right (And.right (And.right (And.right (And.right (And.right (And.right (by assumption))))))))) | exact And.right (by assumption) | exact And.right (And.right (by assumption)) | exact And.right (And.right (And.right (by assumption))) | fail "not seen less")
  k_with "MINE mul" => (first | ((with_reducible refine mulL ?_); decide) | ((with_reducible refine mulR ?_); decide) | ((with_reducible refine' mulRb ?_ ?_); (focus assumption); decide) | ((with_reducible refine' mulLb ?_ ?_); (focus assumption); decide) | ((with_reducible refine mulRm ?_); decide) | ((with_reducible refine mulLm ?_); decide) | fail "not seen small")
  k_with "M binaryOp Mult int int" => ((k_here; k_dflt (refine' PyProof.Rows.mul_int ?_ ?hmq25; rotate_left; (case hmq25 => k_extra "MINE mul"))))
  k_with "M newTuple" => ((k_here; kup_bare; k_dflt (refine' newTupleV ?Fq26 ?Nq26 ?_ ?zq26; (case Fq26 => k_asm); (case Nq26 => k_asm); (case zq26 => kmk_size)); intro D' h' F' N' l1; (try k_lt l1); (try k_sweep)))
  k_with "MINE gotU" => ((intro v9 n9 h9 tk9 F9 N9 hp9; obtain ⟨o9, l9, t9, hv9, hn9, hw9, hl9⟩ := hp9; subst hn9 hv9; (try dsimp only); (try k_fold)))
  k_with "MINE gotW" => ((intro v9 n9 h9 tk9 F9 N9 hp9; obtain ⟨o9, r9, t9, hv9, hn9, hw9, hr9, hr9'⟩ := hp9; subst hn9 hv9; (try dsimp only); (try k_fold)))
  k_with "MINE got" => ((intro v9 n9 h9 tk9 F9 N9 hp9; obtain ⟨hn9, t9, hv9⟩ := hp9; subst hn9 hv9; (try dsimp only); (try k_fold)))
  k_with "M call ref" => ((k_here; (with_reducible show wpAny _ _ (call (Value.ref 90) [Value.int _ _]) _ _ _); k_dflt (refine' Fn.use ?k1 ?k2 ?k3 ?k4 ?k5 ?kK (fn_led _ _ _ _ ) ?kd ?ku ?_; k_extra "MINE use"); k_extra "MINE got"))
  k_with "M call ref" => ((k_here; (with_reducible show wpAny _ _ (call (Value.ref 104) [Value.int _ _]) _ _ _); k_dflt (refine' Fn.use ?k1 ?k2 ?k3 ?k4 ?k5 ?kK (fn_address_of _ _ _ _ ) ?kd ?ku ?_; k_extra "MINE use"); k_extra "MINE got"))
  k_with "M call ref" => ((k_here; (with_reducible show wpAny _ _ (call (Value.ref 230) [Value.int _ _]) _ _ _); k_dflt (refine' Fn.use ?k1 ?k2 ?k3 ?k4 ?k5 ?kK (fn_words_of _ _ _ _ ) ?kd ?ku ?_; k_extra "MINE use"); k_extra "MINE got"))
  k_with "M call ref" => ((k_here; (with_reducible show wpAny _ _ (call (Value.ref 315) [Value.ref _, Value.int _ _]) _ _ _); k_dflt (refine' Fn.useP ?k1 ?k2 ?k3 ?k4 ?k5 ?kK ?kpq33 (fn_draw  ?c1q33 ?c2q33 ?c3q33 ?c4q33) ?kd ?ku ?_; k_extra "MINE use"; (case kpq33 => k_extra "MINE pick"); (case c1q33 => first | assumption | decide | omega); (case c2q33 => first | assumption | exact WlAt.more (by assumption) (by k_extra "MINE sub")); (case c3q33 => k_all); (case c4q33 => first | assumption | decide | omega)); k_extra "MINE gotW"))
  k_with "M call ref" => ((k_here; (with_reducible show wpAny _ _ (call (Value.ref 367) [Value.ref _, Value.int _ _]) _ _ _); k_dflt (refine' Fn.useP ?k1 ?k2 ?k3 ?k4 ?k5 ?kK ?kpq34 (fn_octets  ?c1q34 ?c2q34 ?c3q34 ?c4q34) ?kd ?ku ?_; k_extra "MINE use"; (case kpq34 => k_extra "MINE pick"); (case c1q34 => first | assumption | omega); (case c2q34 => first | assumption | exact WlAt.more (by assumption) (by k_extra "MINE sub")); (case c3q34 => k_all); (case c4q34 => k_extra "MINE num")); k_extra "MINE gotU"))
  k_with "M call ref" => ((k_here; (with_reducible show wpAny _ _ (call (Value.ref 336) [Value.int _ _]) _ _ _); k_dflt (refine' Fn.use ?k1 ?k2 ?k3 ?k4 ?k5 ?kK (fn_law_word _ _ _ _ ?c1q35) ?kd ?ku ?_; k_extra "MINE use"; (case c1q35 => first | assumption | exact lt256_is (by assumption) | k_extra "MINE num")); k_extra "MINE got"))
  k_with "MINE cond" => (first | exact True.intro | ((try dsimp only [cP, cAnd]); (repeat' (first | exact True.intro | refine And.intro ?_ ?_)); all_goals first | k_extra "MINE mul" | mul_fits | decide | omega | assumption))
  k_with "M eval Tuple" => ((k_here; (with_reducible show wpAny _ _ (eval (Expr.Tuple (Expr.Constant (Const.int _) _ _ :: _) _ _) _) _ _ _); (try dsimp only); k_dflt (refine' pe_tupL ?Fq37 ?Nq37 ?fq37 ?hq37 ?lq37 ?cq37 ?_; (case Fq37 => k_asm); (case Nq37 => k_asm); (case fq37 => exact rfl); (case hq37 => exact rfl); (case lq37 => exact rfl); (case cq37 => k_extra "MINE cond")); intro a9 h9 vs9 tk9 F9 N9 l9 hi9; (have l9c := l9); (try k_lt l9); (try k_sweep); (try dsimp only)))
  k_with "M eval Tuple" => ((k_here; (with_reducible show wpAny _ _ (eval (Expr.Tuple (Expr.BinOp (Expr.Constant (Const.int _) _ _) _ _ _ :: _) _ _) _) _ _ _); (try dsimp only); k_dflt (refine' pe_tupL ?Fq38 ?Nq38 ?fq38 ?hq38 ?lq38 ?cq38 ?_; (case Fq38 => k_asm); (case Nq38 => k_asm); (case fq38 => exact rfl); (case hq38 => exact rfl); (case lq38 => exact rfl); (case cq38 => k_extra "MINE cond")); intro a9 h9 vs9 tk9 F9 N9 l9 hi9; (have l9c := l9); (try k_lt l9); (try k_sweep); (try dsimp only)))
  k_with "M eval Call" => (k_fold)
  k_with "M eval Tuple" => (k_fold)
  k_with "M eval BinOp" => (k_fold)
  k_with "M eval Subscript" => (k_fold)
  k_with "M eval IfExp" => (k_fold)
  k_with "M isTrue Compare" => (k_fold)
  k_with "M isTrue BoolOp" => (k_fold)
  k_with "M exec If" => (k_fold)
  k_with "M exec Return" => (k_fold)
  k_with "M eval ListComp" => ((k_here; (with_reducible show wpAny _ _ (eval (Expr.ListComp _ [⟨_, Expr.Tuple _ _ _, _, _⟩] _ _) _) _ _ _); k_dflt (refine ListComp_T (F₀ := by k_asm) (by with_unfolding_all rfl) (by decide) (by rfl) (by decide) (by rfl) ?_)))
  k_with "M eval ListComp" => ((k_here; (with_reducible show wpAny _ _ (eval (Expr.ListComp _ [⟨_, Expr.Call _ _ _ _, [], _⟩] _ _) _) _ _ _); k_dflt (refine LCg.ListComp_U (F₀ := by k_asm) (by with_unfolding_all rfl) (by decide) (by rfl) (by decide) (by rfl) ?_)))
  k_with "M SrcT" => ((k_here; k_dflt (refine SrcT.intro (by rfl) (by k_asm) (by k_asm) (by k_mem) (by first | size_fits | exact Nat.le_of_ble_eq_true rfl) ?_; intro g'; lcg_lit)))
  k_with "M CompRest" => ((with_unfolding_all first | (refine LCg.CompRest.succ ?_; intro v' I' oI' C' oC' D' m' h' tk' E' hv' hC' hx' F' N' off' ne'; (first | lcg_open hv' | (obtain ⟨t9', hv9'⟩ := hv'; subst hv9'))) | refine LCg.CompRest.zero ?_))
  k_with "M CompEnd" => ((k_dflt (refine' compEnd ?Fq52 ?Nq52 ?offq52 ?Sq52 ?_; (case offq52 => assumption); (case Fq52 => assumption); (case Nq52 => first | k_asm | (refine cb_drop (by k_asm) ?_; k_extra "MINE sub")); (case Sq52 => first | assumption | exact trivial | (unfold TupIn; k_mem)))))
  k_with "M exec Assign cons ListComp" => (((with_reducible show wpAny _ _ (exec (Stmt.Assign [Expr.Tuple _ _ _] (Expr.ListComp _ _ _ _) _) _) _ _ _); refine Assign_Tuple ?_ (by kernel_rfl) (by kernel_rfl)))
  k_with "M CompSrc" => ((k_here; k_dflt (first | (refine LCg.CompSrc.range (by rfl) (by k_asm) (by k_asm) (by assumption) (by first | decide | rfl) (by first | rfl | decide) (by first | size_fits | exact Nat.le_of_ble_eq_true rfl) ?_; intro g'; lcg_lit) | (refine LCg.CompSrc.ledger (by rfl) (by k_asm) (by k_asm) (by k_mem) (by first | size_fits | exact Nat.le_of_ble_eq_true rfl) ?_; intro g'; lcg_lit))))
  k_with "MINE mem" => (first | exact List.Mem.head _ | (refine' List.Mem.tail _ ?_; k_extra "MINE mem"))
  k_with "MINE off" => (first | exact List.forall_mem_nil _ | ((with_reducible refine' List.forall_mem_cons.mpr ⟨?aq56, ?bq56⟩); (case aq56 => k_ne); (case bq56 => k_extra "MINE off")) | exact bigNe (by assumption) (by intro q hq; repeat (first | exact hq | refine List.mem_cons_of_mem _ ?_)))
  k_with "M binaryOp LShift int int" => ((k_here; (with_reducible show wpAny _ _ (binaryOp Operator.LShift (Value.int _ _) (Value.int _ _)) _ _ _); k_dflt (refine' lsh_lit ?aq57 ?bq57 ?cq57 ?_; (case aq57 => decide); (case bq57 => decide +kernel); (case cq57 => exact rfl))))
  k_with "MINE for" => ((k_here; (rename Fr _ _ _ _ => lF'); k_dflt (refine' For_turns ?Fq58 ?_ (hs := ?hsq58) (hE := ?hEq58); (case Fq58 => exact lF'); (case hEq58 => passes_own); (case hsq58 => intro _; rfl); k_whole)))
  k_with "M exec For Name Tuple cons nil" => (k_extra "MINE for")
  k_with "M exec For Name Name cons nil" => (k_extra "MINE for")
  k_with "M pyIter ref" => ((k_here; (with_reducible show wpAny _ _ (pyIter (Value.ref _)) (fun it s₂ => TurnsAt _ _ _ _ _ _ _ _ _ it s₂) _ _); (rename Fr _ _ _ _ => lF'); (rename News _ _ _ _ => lN'); (first | (with_unfolding_all refine iter_tupTurns (by rfl) lF' lN' (by k_mem) (by rfl) (by rfl) ?_) | (with_unfolding_all refine iter_listTurns (by rfl) lF' lN' (by k_mem) (by rfl) (by rfl) ?_)); clear lF'; intro i' l1; (have l1c := l1); (try k_lt l1)))
  k_with "M UnrEndW" => ((k_dflt (refine' unrEnd ?Fq62 ?Nq62 ?Pq62 ?offq62 ⟨?subq62, ?_⟩; (case Fq62 => assumption); (case Nq62 => assumption); (case Pq62 => k_extra "MINE pick"); (case offq62 => k_extra "MINE off"); (case subq62 => k_subL))))
  k_with "M eval IfExp" => ((k_here; (fail_if_success (with_reducible show wpAny _ _ _ (MidS _ _ _ _ _ _ _) _ _)); (rename Fr _ _ _ _ => lF'); (rename News _ _ _ _ => lN'); (rename WellO _ _ => hO'); k_dflt (refine' mid_if lF' lN' ?Pq63 hO' ?_ ?_; (case Pq63 => k_extra "MINE pick")); (rotate_left; intro n9 t9 o9 h9 tk9 hn9 hz9 hO9 F9 N9)))
  k_with "M MidS" => ((k_dflt (refine' midS_go ?rq64 ?Fq64 ?Nq64 ?sq64 ?oq64; (case oq64 => assumption); (case rq64 => assumption); (case Fq64 => k_asm); (case Nq64 => k_asm); (case sq64 => k_extra "MINE sub"))))
  k_with "MINE ints" => (repeat (first | exact IntsAre.nil | refine IntsAre.cons _ _ ?_))
  k_with "M subscriptTail" => ((k_here; (with_reducible show wpAny _ _ (subscriptTail _ _ (Value.ref _) (Value.int _ _)) _ _ _); k_dflt (refine' item_tupP (P := fun n => sznB n = true) ?Nq66 ?mq66 ?iq66 ?pq66 ?fq66 ?aq66 ?bq66 ?_; (case Nq66 => k_asm); (case mq66 => k_extra "MINE mem"); (case iq66 => l_ints); (case pq66 => decide +kernel); (case fq66 => decide); (case aq66 => assumption); (case bq66 => first | assumption | (simp only [List.length_cons, List.length_nil]; omega))); intro r9 t9 hr9))
  k_with "M subscriptTail Name Name ref int" => ((k_here; (with_reducible show wpAny _ _ (subscriptTail _ _ (Value.ref _) (Value.int _ _)) _ _ _); k_dflt (refine' item_tupP (P := fun n => sznB n = true) ?Nq67 ?mq67 ?iq67 ?pq67 ?fq67 ?aq67 ?bq67 ?_; (case Nq67 => k_asm); (case mq67 => k_extra "MINE mem"); (case iq67 => l_ints); (case pq67 => decide +kernel); (case fq67 => decide); (case aq67 => assumption); (case bq67 => first | assumption | (simp only [List.length_cons, List.length_nil]; omega))); intro r9 t9 hr9))
  k_with "M subscriptTail Name Call ref int" => ((k_here; (with_reducible show wpAny _ _ (subscriptTail _ _ (Value.ref _) (Value.int _ _)) _ _ _); k_dflt (refine' item_tupP (P := fun n => sznB n = true) ?Nq68 ?mq68 ?iq68 ?pq68 ?fq68 ?aq68 ?bq68 ?_; (case Nq68 => k_asm); (case mq68 => k_extra "MINE mem"); (case iq68 => l_ints); (case pq68 => decide +kernel); (case fq68 => decide); (case aq68 => assumption); (case bq68 => first | assumption | (simp only [List.length_cons, List.length_nil]; omega))); intro r9 t9 hr9))
  k_with "M exec If Compare cons nil" => ((k_here; (fail_if_success (with_reducible show wpAny _ _ _ (MidP _ _ _ _ _ _ _ _) _ _)); (rename PB _ => hB'); (rename Fr _ _ _ _ => lF'); (rename News _ _ _ _ => lN'); (rename WellO _ _ => hO'); k_dflt (refine' mid_pieces lF' lN' ?Pq69 hO' hB' ?_ ?_; (case Pq69 => k_extra "MINE pick")); (rotate_left; intro l9 t9 o9 h9 tk9 hl9 hb9 hO9 F9 N9)))
  k_with "M MidP" => ((k_dflt (refine' midP_go ?Fq70 ?Nq70 ?sq70 ?oq70 ?lq70 ?aq70 ?bq70; (case oq70 => assumption); (case Fq70 => k_asm); (case Nq70 => k_asm); (case sq70 => k_extra "MINE sub"); (case aq70 => first | exact rfl | (with_unfolding_all exact rfl)); (case bq70 => (intro y hy; first | rfl | exact if_neg hy | simp only [if_neg hy])); (case lq70 => k_extra "MINE num"))))
  k_with "M getMethod bytes" => ((k_here; (with_reducible show wpAny _ _ (getMethod (Value.bytes _ _) (PySem.Str.ofString "join") _) _ _ _); refine join_method ?_))
  k_with "M call builtin:bytes.join" => ((k_here; (with_reducible show wpAny _ _ (call (Value.builtin _) [Value.bytes _ _, Value.ref _]) _ _ _); k_dflt (refine' join_L ?Nq72 ?mq72 ?zq72 ?_; (case Nq72 => k_asm); (case mq72 => k_extra "MINE mem"); (case zq72 => k_extra "MINE num")); intro _ _))
  k_with "M CompEnd" => ((k_dflt (refine' compEnd ?Fq73 ?Nq73 ?offq73 ?Sq73 ?_; (case offq73 => assumption); (case Fq73 => assumption); (case Nq73 => first | k_asm | (refine cb_drop (by k_asm) ?_; k_extra "MINE sub")); (case Sq73 => first | assumption | exact trivial | exact srcAt_of (by k_extra "MINE mem") | (unfold TupIn; k_mem)))))
  k_with "MINE t k_room" => (ktr_room)
  k_with "MINE t k_units" => (ktr_units)
  k_with "MINE t k_mem" => (first | with_reducible assumption | assumption | exact List.Mem.head _ | (refine' List.Mem.tail _ ?_; k_mem))
  k_with "MINE t k_all" => (first | assumption | exact cellNe (by assumption) (by k_extra "MINE sub") | exact List.forall_mem_nil _ | (refine' List.forall_mem_cons.mpr ⟨?aq77, ?bq77⟩; (case aq77 => first | k_ne | assumption); (case bq77 => k_all)))
  k_with "MINE t ktr_room" => (first | (refine' rm2 ?hq78 ?bq78; (case hq78 => assumption); (case bq78 => exact rfl)) | (refine' rm1 ?hq78 ?bq78; (case hq78 => assumption); (case bq78 => exact rfl)) | (refine' rm3 ?hq78 ?bq78; (case hq78 => assumption); (case bq78 => exact rfl)) | exact rm0 (by assumption) | fail "no room")
  k_with "MINE t ktr_units" => (first | (refine' rm2 ?hq79 ?bq79; (case hq79 => assumption); (case bq79 => exact rfl)) | (refine' rm1 ?hq79 ?bq79; (case hq79 => assumption); (case bq79 => exact rfl)) | (refine' rm3 ?hq79 ?bq79; (case hq79 => assumption); (case bq79 => exact rfl)) | exact rm0 (by assumption) | fail "no room")
  k_with "MINE t k_ne" => (with_reducible (first | assumption | exact Nat.ne_of_lt (by k_extra "MINE lt") | exact Nat.ne_of_gt (by k_extra "MINE lt") | exact Ne.symm (by assumption) | k_extra "MINE lt" | exact Ne.symm (by k_extra "MINE lt") | fail "not seen unlike"))
  trivial


theorem lt256_is {n : Nat} (h : Lt256 n) : n < 256 ^ 32 := h
theorem fn_sized {w : World} {news : Led} {wa wl : Addr} {o : Obj} (ho : WellO wl o) (hw : WlAt news wl) (hne : ∀ q ∈ news, q.1 ≠ wa) :
    Fn w 30 160 372 ((wa, o) :: news) [.ref wa] (fun v news' => ∃ o' l' t', v = .bytes (List.toArray l') t' ∧ news' = (wa, o') :: news ∧ WellO wl o' ∧ SzL l') := by
  have hpb : PB 0 := trivial
  (unfold Fn; k_fill; intro pg loose mean mg mb dp un gd cn cs a ccd cl outer A₀ base h₀ L m hp₀ gs₀ dr₀ tk₀ os₀ Q E B F X N T hk hd hu hret; refine wpAny_call ?_; k_dflt ktr_enter; refine wp_let ?_; intro Ak)
  k_steps
  all_goals (refine' hret _ ((wa, _) :: news) _ _ (by k_asm) (by refine cb_drop (by k_asm) ?_; k_extra "MINE sub") ⟨_, _, _, rfl, rfl, by assumption, ⟨_, _, _, _, rfl, by assumption, by assumption, by assumption, by assumption, by assumption, by assumption, by assumption⟩⟩)
theorem lines_D6 : True := by
  w_top off
  k_with_none
  k_with "MINE len" => (((try simp only [List.length_append, List.length_take, List.length_drop, List.length_replicate, List.length_cons, List.length_nil, cutL_length, beL_length, leL_length, partL_length, KBa_byteArr_length, List.length_map, rangeKs_length] at *); omega))
  k_with "MINE num" => (first | omega | assumption | (simp only [Int.reduceToNat, Int.reducePow, Int.reduceMul, Int.fmod_eq_emod_of_nonneg, Int.reduceLE]; omega) | k_extra "MINE len")
  k_with "M call type:bytes" => ((k_here; (with_reducible show wpAny _ _ (call (Value.type "bytes") [Value.int _ _]) _ _ _); refine' bz_call ?h0q2 ?hNq2 ?_; (case h0q2 => k_extra "MINE num"); (case hNq2 => k_extra "MINE num"); intro _ _))
  k_with "M call builtin:len" => ((k_here; (with_reducible show wpAny _ _ (call (Value.builtin "len") [Value.bytes (List.toArray _) _]) _ _ _); refine' len_L ?h0q3 ?_; (case h0q3 => k_extra "MINE num"); intro _ _))
  k_with "M binaryOp Add bytes bytes" => ((k_here; (with_reducible show wpAny _ _ (binaryOp Operator.Add (Value.bytes (List.toArray _) _) (Value.bytes (List.toArray _) _)) _ _ _); refine' add_L ?h0q4 ?_; (case h0q4 => k_extra "MINE num"); intro _ _))
  k_with "M call ref" => ((k_here; (with_reducible show wpAny _ _ (call (Value.ref _) [Value.bytes (List.toArray _) _, Value.str _ _]) _ _ _); kfb_any; k_dflt (refine' from_big ?h1q5 ?h2q5 ?h3q5 ?_; (case h1q5 => k_asm); (case h2q5 => k_mem); (case h3q5 => k_extra "MINE num")); intro _ _))
  k_with "M subscriptTail" => ((k_here; (with_reducible show wpAny _ _ (subscriptTail _ (Expr.Slice _ _ none _) (Value.bytes (List.toArray _) _) (Value.ref _)) _ _ _); (with_reducible rename Fr _ _ _ _ => F'); (with_reducible rename News _ _ _ _ => N'); (first | (refine' slice_ab (s := ⟨_, _, _, _, _⟩) F' N' ?aq6 ?bq6 ?zq6 ?_; (case aq6 => k_extra "MINE num"); (case bq6 => k_extra "MINE num"); (case zq6 => k_extra "MINE num")) | (refine' slice_to (s := ⟨_, _, _, _, _⟩) F' N' ?bq6 ?zq6 ?_; (case bq6 => k_extra "MINE num"); (case zq6 => k_extra "MINE num")) | (refine' slice_from (s := ⟨_, _, _, _, _⟩) F' N' ?aq6 ?zq6 ?_; (case aq6 => k_extra "MINE num"); (case zq6 => k_extra "MINE num"))); intro _ _ _ F' N'))
  k_with "M call builtin:int.to_bytes" => ((k_here; (with_reducible show wpAny _ _ (call (Value.builtin "int.to_bytes") [Value.int _ _, Value.int _ _, Value.str _ _]) _ _ _); (first | (refine' to_bigI ?aq7 ?cq7 ?bq7 ?dq7 ?_; (case aq7 => k_extra "MINE num"); (case cq7 => k_extra "MINE num"); (case bq7 => k_extra "MINE num"); (case dq7 => k_extra "MINE fits")) | (refine' to_littleI ?aq7 ?cq7 ?bq7 ?dq7 ?_; (case aq7 => k_extra "MINE num"); (case cq7 => k_extra "MINE num"); (case bq7 => k_extra "MINE num"); (case dq7 => k_extra "MINE fits"))); intro _ _))
  k_with "MINE fits" => (first | assumption | exact fits_num (by assumption) | (simp only [Int.reduceToNat, Nat.reducePow]; omega) | (simp only [Int.reduceToNat, Nat.reducePow, Int.reducePow, Int.reduceMul, Int.fmod_eq_emod_of_nonneg, Int.reduceLE]; omega))
  k_with "MINE enter" => ((unfold Fn; k_fill; intro p loose mean mg mb dp un gd cn cs a ccd cl outer A₀ base h₀ L m hp₀ gs₀ dr₀ tk₀ os₀ Q E B F X N T hk hd hu hret; refine wpAny_call ?_; k_dflt ktr_enter))
  k_with "MINE use" => (((case k1 => k_asm); (case k2 => k_asm); (case k3 => k_asm); (case k4 => k_asm); (case k5 => k_asm); (case kK => first | exact rfl | assumption); (case kd => ktr_room); (case ku => ktr_units)))
  k_with "M call builtin:pow" => ((k_here; (with_reducible show wpAny _ _ (call (Value.builtin "pow") [Value.int _ _, Value.int _ _, Value.int _ _]) _ _ _); refine' pow3I ?aq11 ?bq11 ?_; (case aq11 => first | decide | k_extra "MINE num"); (case bq11 => first | decide | k_extra "MINE num"); intro _ _ _))
  k_with "MINE sub" => (first | (intro q hq; exact hq) | ((with_reducible refine' List.forall_mem_cons.mpr ⟨?aq12, ?bq12⟩); (case aq12 => k_mem); (case bq12 => k_extra "MINE sub")) | (intro q hq; (repeat (first | exact hq | refine List.mem_cons_of_mem _ ?_))))
  k_with "M call type:bytes" => ((k_here; (with_reducible show wpAny _ _ (call (Value.type "bytes") [Value.bytes _ _]) _ _ _); refine bb_call ?_))
  k_with "MINE pick" => ((repeat (first | exact Pick.head | apply Pick.tail)))
  k_with "M call builtin:max" => ((k_here; (with_reducible show wpAny _ _ (call (Value.builtin "max") [Value.int _ _, Value.int _ _]) _ _ _); k_dflt (refine' maxI ?hq15 ?Fq15 ?Nq15 ?_; (case hq15 => rfl); (case Fq15 => k_asm); (case Nq15 => k_asm)); intro _ _ _ F' N'; (try k_sweep)))
  k_with "M call builtin:min" => ((k_here; (with_reducible show wpAny _ _ (call (Value.builtin "min") [Value.int _ _, Value.int _ _]) _ _ _); k_dflt (refine' minI ?hq16 ?Fq16 ?Nq16 ?_; (case hq16 => rfl); (case Fq16 => k_asm); (case Nq16 => k_asm)); intro _ _ _ F' N'; (try k_sweep)))
  k_with "M call builtin:max" => ((k_here; (with_reducible show wpAny _ _ (call (Value.builtin "max") [Value.int _ _, Value.int _ _, Value.int _ _]) _ _ _); k_dflt (refine' max3I ?hq17 ?Fq17 ?Nq17 ?_; (case hq17 => rfl); (case Fq17 => k_asm); (case Nq17 => k_asm)); intro _ _ _ F' N'; (try k_sweep)))
  k_with "MINE subD" => ((intro q hq; exact List.mem_cons_of_mem _ hq))
  k_with "MINE steps" => (repeat' (first | (k_unfold; (try dsimp only)) | walk1 | (dsimp only; walk1) | (leave1; walk_say "STEP leave1"; try dsimp only) | fail "no step"))
  k_with "M callWith ref" => ((k_here; (with_reducible show wpAny _ _ (callWith _ (Value.ref (OfNat.ofNat _)) _ _ _) _ _ _); k_dflt (refine' callWith_K ?k1q20 ?k2q20 ?_; (case k1q20 => k_asm); (case k2q20 => k_is); k_whole)))
  k_with "M execs cons" => ((k_here; (try dsimp only); with_reducible refine tk_sum ?_; intro tk9; (try (with_reducible rename Fr _ _ _ _ => Fx9; refine fr_let Fx9 ?_; intro mK Fy9; clear Fx9)); (try k_extra "MINE led")))
  k_with "M execs nil" => ((k_here; (try dsimp only); with_reducible refine tk_sum ?_; intro tk9))
  k_with "MINE lt" => (first | assumption | exact And.left (by assumption) | exact And.left (And.right (by assumption)) | exact And.left (And.right (And.right (by assumption))) | exact And.left (And.right (And.right (And.right (by assumption)))) | exact And.left (And.right (And.right (And.right (And.right (by assumption))))) | exact And.left (And.right (And.right (And.right (And.right (And.right (by assumption)))))) | exact And.left (And.right (And.right (And.right (And.right (And.right (And.right (by assumption))))))) | exact And.left (And.right (And.right (And.right (And.right (And.right (And.right (And.right (by assumption)))))))) | exact And.left (And.right (And.right (And.right (And.right (And.right (And.right (And.right (And.right (by assumption))))))))) | exact And.right (by assumption) | exact And.right (And.right (by assumption)) | exact And.right (And.right (And.right (by assumption))) | fail "not seen less")
  k_with "MINE mul" => (first | ((with_reducible refine mulL ?_); decide) | ((with_reducible refine mulR ?_); decide) | ((with_reducible refine' mulRb ?_ ?_); (focus assumption); decide) | ((with_reducible refine' mulLb ?_ ?_); (focus assumption); decide) | ((with_reducible refine mulRm ?_); decide) | ((with_reducible refine mulLm ?_); decide) | fail "not seen small")
  k_with "M binaryOp Mult int int" => ((k_here; k_dflt (refine' PyProof.Rows.mul_int ?_ ?hmq25; rotate_left; (case hmq25 => k_extra "MINE mul"))))
  k_with "M newTuple" => ((k_here; kup_bare; k_dflt (refine' newTupleV ?Fq26 ?Nq26 ?_ ?zq26; (case Fq26 => k_asm); (case Nq26 => k_asm); (case zq26 => kmk_size)); intro D' h' F' N' l1; (try k_lt l1); (try k_sweep)))
  k_with "MINE gotW" => ((intro v9 n9 h9 tk9 F9 N9 hp9; obtain ⟨o9, r9, t9, hv9, hn9, hw9, hr9, hr9'⟩ := hp9; subst hn9 hv9; (try dsimp only); (try k_fold)))
  k_with "MINE got" => ((intro v9 n9 h9 tk9 F9 N9 hp9; obtain ⟨hn9, t9, hv9⟩ := hp9; subst hn9 hv9; (try dsimp only); (try k_fold)))
  k_with "M call ref" => ((k_here; (with_reducible show wpAny _ _ (call (Value.ref 90) [Value.int _ _]) _ _ _); k_dflt (refine' Fn.use ?k1 ?k2 ?k3 ?k4 ?k5 ?kK (fn_led _ _ _ _ ) ?kd ?ku ?_; k_extra "MINE use"); k_extra "MINE got"))
  k_with "M call ref" => ((k_here; (with_reducible show wpAny _ _ (call (Value.ref 104) [Value.int _ _]) _ _ _); k_dflt (refine' Fn.use ?k1 ?k2 ?k3 ?k4 ?k5 ?kK (fn_address_of _ _ _ _ ) ?kd ?ku ?_; k_extra "MINE use"); k_extra "MINE got"))
  k_with "M call ref" => ((k_here; (with_reducible show wpAny _ _ (call (Value.ref 230) [Value.int _ _]) _ _ _); k_dflt (refine' Fn.use ?k1 ?k2 ?k3 ?k4 ?k5 ?kK (fn_words_of _ _ _ _ ) ?kd ?ku ?_; k_extra "MINE use"); k_extra "MINE got"))
  k_with "M call ref" => ((k_here; (with_reducible show wpAny _ _ (call (Value.ref 315) [Value.ref _, Value.int _ _]) _ _ _); k_dflt (refine' Fn.useP ?k1 ?k2 ?k3 ?k4 ?k5 ?kK ?kpq32 (fn_draw  ?c1q32 ?c2q32 ?c3q32 ?c4q32) ?kd ?ku ?_; k_extra "MINE use"; (case kpq32 => k_extra "MINE pick"); (case c1q32 => first | assumption | decide | omega); (case c2q32 => first | assumption | exact WlAt.more (by assumption) (by k_extra "MINE sub")); (case c3q32 => k_all); (case c4q32 => first | assumption | decide | omega)); k_extra "MINE gotW"))
  k_with "MINE cond" => (first | exact True.intro | ((try dsimp only [cP, cAnd]); (repeat' (first | exact True.intro | refine And.intro ?_ ?_)); all_goals first | k_extra "MINE mul" | mul_fits | decide | omega | assumption))
  k_with "M eval Tuple" => ((k_here; (with_reducible show wpAny _ _ (eval (Expr.Tuple (Expr.Constant (Const.int _) _ _ :: _) _ _) _) _ _ _); (try dsimp only); k_dflt (refine' pe_tupL ?Fq34 ?Nq34 ?fq34 ?hq34 ?lq34 ?cq34 ?_; (case Fq34 => k_asm); (case Nq34 => k_asm); (case fq34 => exact rfl); (case hq34 => exact rfl); (case lq34 => exact rfl); (case cq34 => k_extra "MINE cond")); intro a9 h9 vs9 tk9 F9 N9 l9 hi9; (have l9c := l9); (try k_lt l9); (try k_sweep); (try dsimp only)))
  k_with "M eval Tuple" => ((k_here; (with_reducible show wpAny _ _ (eval (Expr.Tuple (Expr.BinOp (Expr.Constant (Const.int _) _ _) _ _ _ :: _) _ _) _) _ _ _); (try dsimp only); k_dflt (refine' pe_tupL ?Fq35 ?Nq35 ?fq35 ?hq35 ?lq35 ?cq35 ?_; (case Fq35 => k_asm); (case Nq35 => k_asm); (case fq35 => exact rfl); (case hq35 => exact rfl); (case lq35 => exact rfl); (case cq35 => k_extra "MINE cond")); intro a9 h9 vs9 tk9 F9 N9 l9 hi9; (have l9c := l9); (try k_lt l9); (try k_sweep); (try dsimp only)))
  k_with "M eval Call" => (k_fold)
  k_with "M eval Tuple" => (k_fold)
  k_with "M eval BinOp" => (k_fold)
  k_with "M eval Subscript" => (k_fold)
  k_with "M eval IfExp" => (k_fold)
  k_with "M isTrue Compare" => (k_fold)
  k_with "M isTrue BoolOp" => (k_fold)
  k_with "M exec If" => (k_fold)
  k_with "M exec Return" => (k_fold)
  k_with "M call ref" => ((k_here; (with_reducible show wpAny _ _ (call (Value.ref 336) [Value.int _ _]) _ _ _); k_dflt (refine' Fn.use ?k1 ?k2 ?k3 ?k4 ?k5 ?kK (fn_law_word2 _ _ _ _ ?c1q45) ?kd ?ku ?_; k_extra "MINE use"; (case c1q45 => first | assumption | exact wb_79 _ | exact wb_v _ | exact wB_getD (by decide +kernel) | exact wM_getD (by assumption) (by assumption) (by decide +kernel) | exact wb_small (by omega) (by omega))); k_extra "MINE got"))
  k_with "MINE mem" => (first | exact List.Mem.head _ | (refine' List.Mem.tail _ ?_; k_extra "MINE mem"))
  k_with "MINE off" => (first | exact List.forall_mem_nil _ | ((with_reducible refine' List.forall_mem_cons.mpr ⟨?aq47, ?bq47⟩); (case aq47 => k_ne); (case bq47 => k_extra "MINE off")) | exact bigNe (by assumption) (by intro q hq; repeat (first | exact hq | refine List.mem_cons_of_mem _ ?_)))
  k_with "M binaryOp LShift int int" => ((k_here; (with_reducible show wpAny _ _ (binaryOp Operator.LShift (Value.int _ _) (Value.int _ _)) _ _ _); k_dflt (refine' lsh_lit ?aq48 ?bq48 ?cq48 ?_; (case aq48 => decide); (case bq48 => decide +kernel); (case cq48 => exact rfl))))
  k_with "M UnrEndW" => ((k_dflt (refine' unrEnd ?Fq49 ?Nq49 ?Pq49 ?offq49 ⟨?subq49, ?_⟩; (case Fq49 => assumption); (case Nq49 => assumption); (case Pq49 => k_extra "MINE pick"); (case offq49 => k_extra "MINE off"); (case subq49 => k_subL))))
  k_with "M eval IfExp" => ((k_here; (fail_if_success (with_reducible show wpAny _ _ _ (MidW _ _ _ _ _ _ _) _ _)); (rename Fr _ _ _ _ => lF'); (rename News _ _ _ _ => lN'); (rename WellO _ _ => hO'); k_dflt (refine' mid_w lF' lN' ?Pq50 hO' ?_ ?_; (case Pq50 => k_extra "MINE pick")); (rotate_left; intro n9 t9 o9 h9 tk9 hn9 hO9 F9 N9)))
  k_with "M MidW" => ((k_dflt (refine' midW_go ?rq51 ?Fq51 ?Nq51 ?sq51 ?oq51; (case oq51 => assumption); (case rq51 => first | assumption | exact wB_is (by assumption) | exact wB_getD (by decide +kernel) | exact wb_small (by omega) (by omega)); (case Fq51 => k_asm); (case Nq51 => k_asm); (case sq51 => k_extra "MINE sub"))))
  k_with "M subscriptTail" => ((k_here; (with_reducible show wpAny _ _ (subscriptTail _ _ (Value.ref _) (Value.int _ _)) _ _ _); k_dflt (refine' item_tupP (P := fun n => sznB n = true) ?Nq52 ?mq52 ?iq52 ?pq52 ?fq52 ?aq52 ?bq52 ?_; (case Nq52 => k_asm); (case mq52 => k_extra "MINE mem"); (case iq52 => l_ints); (case pq52 => decide +kernel); (case fq52 => decide); (case aq52 => assumption); (case bq52 => first | assumption | (simp only [List.length_cons, List.length_nil]; omega))); intro r9 t9 hr9))
  k_with "M subscriptTail Name Name ref int" => ((k_here; (with_reducible show wpAny _ _ (subscriptTail _ _ (Value.ref _) (Value.int _ _)) _ _ _); k_dflt (refine' item_tupP (P := fun n => sznB n = true) ?Nq53 ?mq53 ?iq53 ?pq53 ?fq53 ?aq53 ?bq53 ?_; (case Nq53 => k_asm); (case mq53 => k_extra "MINE mem"); (case iq53 => l_ints); (case pq53 => decide +kernel); (case fq53 => decide); (case aq53 => assumption); (case bq53 => first | assumption | (simp only [List.length_cons, List.length_nil]; omega))); intro r9 t9 hr9))
  k_with "M subscriptTail Name Call ref int" => ((k_here; (with_reducible show wpAny _ _ (subscriptTail _ _ (Value.ref _) (Value.int _ _)) _ _ _); k_dflt (refine' item_tupP (P := fun n => sznB n = true) ?Nq54 ?mq54 ?iq54 ?pq54 ?fq54 ?aq54 ?bq54 ?_; (case Nq54 => k_asm); (case mq54 => k_extra "MINE mem"); (case iq54 => l_ints); (case pq54 => decide +kernel); (case fq54 => decide); (case aq54 => assumption); (case bq54 => first | assumption | (simp only [List.length_cons, List.length_nil]; omega))); intro r9 t9 hr9))
  k_with "M call builtin:bytes.join" => ((k_here; (with_reducible show wpAny _ _ (call (Value.builtin _) [Value.bytes _ _, Value.ref _]) _ _ _); k_dflt (refine' join_L ?Nq55 ?mq55 ?zq55 ?_; (case Nq55 => k_asm); (case mq55 => k_extra "MINE mem"); (case zq55 => k_extra "MINE num")); intro _ _))
  k_with "M CompEnd" => ((k_dflt (refine' compEnd ?Fq56 ?Nq56 ?offq56 ?Sq56 ?_; (case offq56 => assumption); (case Fq56 => assumption); (case Nq56 => first | k_asm | (refine cb_drop (by k_asm) ?_; k_extra "MINE sub")); (case Sq56 => first | assumption | exact trivial | exact srcAt_of (by k_extra "MINE mem") | (unfold TupIn; k_mem)))))
  k_with "M subscriptTail Tuple Call ref int" => ((first | (k_here; (with_reducible show wpAny _ _ (subscriptTail _ _ (Value.ref _) (Value.int _ _)) _ _ _); k_dflt (refine' item_tupP (P := fun n => wM n = true) ?Nq57 ?mq57 ?iq57 ?pq57 ?fq57 ?aq57 ?bq57 ?_; (case Nq57 => k_asm); (case mq57 => k_extra "MINE mem"); (case iq57 => l_ints); (case pq57 => decide +kernel); (case fq57 => decide); (case aq57 => assumption); (case bq57 => first | assumption | (simp only [List.length_cons, List.length_nil]; omega))); intro r9 t9 hr9) | (k_here; (with_reducible show wpAny _ _ (subscriptTail _ _ (Value.ref _) (Value.int _ _)) _ _ _); k_dflt (refine' item_tupP (P := fun n => wB n = true) ?Nq57 ?mq57 ?iq57 ?pq57 ?fq57 ?aq57 ?bq57 ?_; (case Nq57 => k_asm); (case mq57 => k_extra "MINE mem"); (case iq57 => l_ints); (case pq57 => decide +kernel); (case fq57 => decide); (case aq57 => assumption); (case bq57 => first | assumption | (simp only [List.length_cons, List.length_nil]; omega))); intro r9 t9 hr9)))
  k_with "M subscriptTail" => ((first | (k_here; (with_reducible show wpAny _ _ (subscriptTail _ _ (Value.ref _) (Value.int _ _)) _ _ _); k_dflt (refine' item_tupP (P := fun n => wM n = true) ?Nq58 ?mq58 ?iq58 ?pq58 ?fq58 ?aq58 ?bq58 ?_; (case Nq58 => k_asm); (case mq58 => k_extra "MINE mem"); (case iq58 => l_ints); (case pq58 => decide +kernel); (case fq58 => decide); (case aq58 => assumption); (case bq58 => first | assumption | (simp only [List.length_cons, List.length_nil]; omega))); intro r9 t9 hr9) | (k_here; (with_reducible show wpAny _ _ (subscriptTail _ _ (Value.ref _) (Value.int _ _)) _ _ _); k_dflt (refine' item_tupP (P := fun n => wB n = true) ?Nq58 ?mq58 ?iq58 ?pq58 ?fq58 ?aq58 ?bq58 ?_; (case Nq58 => k_asm); (case mq58 => k_extra "MINE mem"); (case iq58 => l_ints); (case pq58 => decide +kernel); (case fq58 => decide); (case aq58 => assumption); (case bq58 => first | assumption | (simp only [List.length_cons, List.length_nil]; omega))); intro r9 t9 hr9)))
  k_with "M subscriptTail Name Name ref int" => ((k_here; (with_reducible show wpAny _ _ (subscriptTail _ _ (Value.ref _) (Value.int _ _)) _ _ _); k_dflt (refine' item_rows ?Nq59 ?mq59 ?aq59 ?bq59 ?_; (case Nq59 => k_asm); (case mq59 => first | assumption | exact RowsAt.more (by assumption) (by k_extra "MINE sub")); (case aq59 => omega); (case bq59 => omega)); intro a9 x9 y9 t9 t8 e9 m9 x8 y8))
  k_with "M binaryOp Pow int int" => ((k_here; (with_reducible show wpAny _ _ (binaryOp Operator.Pow (Value.int _ _) (Value.int _ _)) _ _ _); k_dflt (refine' pow_lit ?aq60 ?bq60 ?cq60 ?dq60 ?_; (case aq60 => decide); (case bq60 => decide); (case cq60 => decide); (case dq60 => exact rfl))))
  k_with "MINE ib" => (first | assumption | exact ib_word (by assumption) | exact ib_M (by assumption) | exact ib_mod | exact ib_small (by omega) (by omega) | exact ib_add (by assumption) (by k_extra "MINE nn") (by k_extra "MINE nn"))
  k_with "MINE nn" => (first | omega | exact Int.mul_nonneg (by omega) (by omega) | exact prod_small (by omega) (by omega) (by omega) (by omega))
  k_with "M binaryOp Mult int int" => ((k_here; k_dflt (refine' PyProof.Rows.mul_int ?_ (mulOk ?haq63 ?hbq63 ?hkq63); rotate_left; (case haq63 => k_extra "MINE ib"); (case hbq63 => k_extra "MINE ib"); (case hkq63 => decide)); (try (k_dflt (have hw9 := wM_mul (by assumption) (by assumption) (show wM _ = true by assumption))))))
  k_with "MINE t k_room" => (ktr_room)
  k_with "MINE t k_units" => (ktr_units)
  k_with "MINE t k_mem" => (first | with_reducible assumption | assumption | exact List.Mem.head _ | (refine' List.Mem.tail _ ?_; k_mem))
  k_with "MINE t k_all" => (first | assumption | exact cellNe (by assumption) (by k_extra "MINE sub") | exact List.forall_mem_nil _ | (refine' List.forall_mem_cons.mpr ⟨?aq67, ?bq67⟩; (case aq67 => first | k_ne | assumption); (case bq67 => k_all)))
  k_with "MINE t ktr_room" => (first | (refine' rm2 ?hq68 ?bq68; (case hq68 => assumption); (case bq68 => exact rfl)) | (refine' rm1 ?hq68 ?bq68; (case hq68 => assumption); (case bq68 => exact rfl)) | (refine' rm3 ?hq68 ?bq68; (case hq68 => assumption); (case bq68 => exact rfl)) | exact rm0 (by assumption) | fail "no room")
  k_with "MINE t ktr_units" => (first | (refine' rm2 ?hq69 ?bq69; (case hq69 => assumption); (case bq69 => exact rfl)) | (refine' rm1 ?hq69 ?bq69; (case hq69 => assumption); (case bq69 => exact rfl)) | (refine' rm3 ?hq69 ?bq69; (case hq69 => assumption); (case bq69 => exact rfl)) | exact rm0 (by assumption) | fail "no room")
  k_with "MINE t k_ne" => (with_reducible (first | assumption | exact Nat.ne_of_lt (by k_extra "MINE lt") | exact Nat.ne_of_gt (by k_extra "MINE lt") | exact Ne.symm (by assumption) | k_extra "MINE lt" | exact Ne.symm (by k_extra "MINE lt") | fail "not seen unlike"))
  trivial
theorem getD_all {P : Int → Bool} {ns : List Int} {k : Nat} (h : (ns.all P && P 0) = true) : P (ns.getD k 0) = true := by
  simp only [Bool.and_eq_true, List.all_eq_true] at h
  by_cases hk : k < ns.length
  · rw [List.getD_eq_getElem?_getD, List.getElem?_eq_getElem hk]
    exact h.1 _ (List.getElem_mem hk)
  · rw [List.getD_eq_getElem?_getD, List.getElem?_eq_none (by omega)]
    exact h.2
theorem wB_getD {ns : List Int} {k : Nat} (h : (ns.all wB && wB 0) = true) : WB (ns.getD k 0) := wB_is (getD_all h)
theorem wM_getD {a : Int} {ns : List Int} {k : Nat} (h0 : 0 ≤ a) (h1 : a < 1000003) (h : (ns.all wM && wM 0) = true) : WB (a * ns.getD k 0) := wM_mul h0 h1 (getD_all h)
theorem prod_small {a b : Int} (h0 : 0 ≤ a) (h1 : a < 100) (h2 : 0 ≤ b) (h3 : b < 100) : a * b < 1000000000 := by
  have e1 : a * b ≤ 100 * b := Int.mul_le_mul_of_nonneg_right (by omega) h2
  omega
theorem fn_law_word2 (w : World) (news : Led) (n : Int) (t : Tok) (hn : WB n) : Fn w 10 40 336 news [.int n t] (fun v news' => news' = news ∧ ∃ t', v = .bytes (beL 32 n.toNat).toArray t') := by
  obtain ⟨h0, h1⟩ := hn
  have h := fn_law_word w news n.toNat t (by omega)
  rwa [Int.toNat_of_nonneg h0] at h
theorem fn_signed {w : World} {news : Led} {wa wl ra : Addr} {o : Obj} (ho : WellO wl o) (hw : WlAt news wl) (hne : ∀ q ∈ news, q.1 ≠ wa) (hr : RowsAt news ra) :
    Fn w 30 160 362 ((wa, o) :: news) [.ref wa, .ref ra] (fun v news' => ∃ o' l' t', v = .bytes (List.toArray l') t' ∧ news' = (wa, o') :: news ∧ WellO wl o' ∧ l'.length = 128) := by
  (unfold Fn; k_fill; intro pg loose mean mg mb dp un gd cn cs a ccd cl outer A₀ base h₀ L m hp₀ gs₀ dr₀ tk₀ os₀ Q E B F X N T hk hd hu hret; refine wpAny_call ?_; k_dflt ktr_enter; refine wp_let ?_; intro Ak)
  k_steps
  all_goals (refine' hret _ ((wa, _) :: news) _ _ (by k_asm) (by refine cb_drop (by k_asm) ?_; k_extra "MINE sub") ⟨_, _, _, rfl, rfl, by assumption, by simp only [List.length_append, beL_length]⟩)
theorem lines_D7 : True := by
  w_top off
  k_with_none
  k_with "MINE len" => (((try simp only [List.length_append, List.length_take, List.length_drop, List.length_replicate, List.length_cons, List.length_nil, cutL_length, beL_length, leL_length, partL_length, KBa_byteArr_length, List.length_map, rangeKs_length] at *); omega))
  k_with "MINE num" => (first | omega | assumption | (simp only [Int.reduceToNat, Int.reducePow, Int.reduceMul, Int.fmod_eq_emod_of_nonneg, Int.reduceLE]; omega) | k_extra "MINE len")
  k_with "M call type:bytes" => ((k_here; (with_reducible show wpAny _ _ (call (Value.type "bytes") [Value.int _ _]) _ _ _); refine' bz_call ?h0q2 ?hNq2 ?_; (case h0q2 => k_extra "MINE num"); (case hNq2 => k_extra "MINE num"); intro _ _))
  k_with "M call builtin:len" => ((k_here; (with_reducible show wpAny _ _ (call (Value.builtin "len") [Value.bytes (List.toArray _) _]) _ _ _); refine' len_L ?h0q3 ?_; (case h0q3 => k_extra "MINE num"); intro _ _))
  k_with "M binaryOp Add bytes bytes" => ((k_here; (with_reducible show wpAny _ _ (binaryOp Operator.Add (Value.bytes (List.toArray _) _) (Value.bytes (List.toArray _) _)) _ _ _); refine' add_L ?h0q4 ?_; (case h0q4 => k_extra "MINE num"); intro _ _))
  k_with "M call ref" => ((k_here; (with_reducible show wpAny _ _ (call (Value.ref _) [Value.bytes (List.toArray _) _, Value.str _ _]) _ _ _); kfb_any; k_dflt (refine' from_big ?h1q5 ?h2q5 ?h3q5 ?_; (case h1q5 => k_asm); (case h2q5 => k_mem); (case h3q5 => k_extra "MINE num")); intro _ _))
  k_with "M subscriptTail" => ((k_here; (with_reducible show wpAny _ _ (subscriptTail _ (Expr.Slice _ _ none _) (Value.bytes (List.toArray _) _) (Value.ref _)) _ _ _); (with_reducible rename Fr _ _ _ _ => F'); (with_reducible rename News _ _ _ _ => N'); (first | (refine' slice_ab (s := ⟨_, _, _, _, _⟩) F' N' ?aq6 ?bq6 ?zq6 ?_; (case aq6 => k_extra "MINE num"); (case bq6 => k_extra "MINE num"); (case zq6 => k_extra "MINE num")) | (refine' slice_to (s := ⟨_, _, _, _, _⟩) F' N' ?bq6 ?zq6 ?_; (case bq6 => k_extra "MINE num"); (case zq6 => k_extra "MINE num")) | (refine' slice_from (s := ⟨_, _, _, _, _⟩) F' N' ?aq6 ?zq6 ?_; (case aq6 => k_extra "MINE num"); (case zq6 => k_extra "MINE num"))); intro _ _ _ F' N'))
  k_with "M call builtin:int.to_bytes" => ((k_here; (with_reducible show wpAny _ _ (call (Value.builtin "int.to_bytes") [Value.int _ _, Value.int _ _, Value.str _ _]) _ _ _); (first | (refine' to_bigI ?aq7 ?cq7 ?bq7 ?dq7 ?_; (case aq7 => k_extra "MINE num"); (case cq7 => k_extra "MINE num"); (case bq7 => k_extra "MINE num"); (case dq7 => k_extra "MINE fits")) | (refine' to_littleI ?aq7 ?cq7 ?bq7 ?dq7 ?_; (case aq7 => k_extra "MINE num"); (case cq7 => k_extra "MINE num"); (case bq7 => k_extra "MINE num"); (case dq7 => k_extra "MINE fits"))); intro _ _))
  k_with "MINE fits" => (first | assumption | exact fits_num (by assumption) | (simp only [Int.reduceToNat, Nat.reducePow]; omega) | (simp only [Int.reduceToNat, Nat.reducePow, Int.reducePow, Int.reduceMul, Int.fmod_eq_emod_of_nonneg, Int.reduceLE]; omega))
  k_with "MINE enter" => ((unfold Fn; k_fill; intro p loose mean mg mb dp un gd cn cs a ccd cl outer A₀ base h₀ L m hp₀ gs₀ dr₀ tk₀ os₀ Q E B F X N T hk hd hu hret; refine wpAny_call ?_; k_dflt ktr_enter))
  k_with "MINE use" => (((case k1 => k_asm); (case k2 => k_asm); (case k3 => k_asm); (case k4 => k_asm); (case k5 => k_asm); (case kK => first | exact rfl | assumption); (case kd => ktr_room); (case ku => ktr_units)))
  k_with "M call builtin:pow" => ((k_here; (with_reducible show wpAny _ _ (call (Value.builtin "pow") [Value.int _ _, Value.int _ _, Value.int _ _]) _ _ _); refine' pow3I ?aq11 ?bq11 ?_; (case aq11 => first | decide | k_extra "MINE num"); (case bq11 => first | decide | k_extra "MINE num"); intro _ _ _))
  k_with "MINE sub" => (first | (intro q hq; exact hq) | ((with_reducible refine' List.forall_mem_cons.mpr ⟨?aq12, ?bq12⟩); (case aq12 => k_mem); (case bq12 => k_extra "MINE sub")) | (intro q hq; (repeat (first | exact hq | refine List.mem_cons_of_mem _ ?_))))
  k_with "M call type:bytes" => ((k_here; (with_reducible show wpAny _ _ (call (Value.type "bytes") [Value.bytes _ _]) _ _ _); refine bb_call ?_))
  k_with "MINE pick" => ((repeat (first | exact Pick.head | apply Pick.tail)))
  k_with "M call builtin:max" => ((k_here; (with_reducible show wpAny _ _ (call (Value.builtin "max") [Value.int _ _, Value.int _ _]) _ _ _); k_dflt (refine' maxI ?hq15 ?Fq15 ?Nq15 ?_; (case hq15 => rfl); (case Fq15 => k_asm); (case Nq15 => k_asm)); intro _ _ _ F' N'; (try k_sweep)))
  k_with "M call builtin:min" => ((k_here; (with_reducible show wpAny _ _ (call (Value.builtin "min") [Value.int _ _, Value.int _ _]) _ _ _); k_dflt (refine' minI ?hq16 ?Fq16 ?Nq16 ?_; (case hq16 => rfl); (case Fq16 => k_asm); (case Nq16 => k_asm)); intro _ _ _ F' N'; (try k_sweep)))
  k_with "M call builtin:max" => ((k_here; (with_reducible show wpAny _ _ (call (Value.builtin "max") [Value.int _ _, Value.int _ _, Value.int _ _]) _ _ _); k_dflt (refine' max3I ?hq17 ?Fq17 ?Nq17 ?_; (case hq17 => rfl); (case Fq17 => k_asm); (case Nq17 => k_asm)); intro _ _ _ F' N'; (try k_sweep)))
  k_with "MINE subD" => ((intro q hq; exact List.mem_cons_of_mem _ hq))
  k_with "MINE steps" => (repeat' (first | (k_unfold; (try dsimp only)) | walk1 | (dsimp only; walk1) | (leave1; walk_say "STEP leave1"; try dsimp only) | fail "no step"))
  k_with "M callWith ref" => ((k_here; (with_reducible show wpAny _ _ (callWith _ (Value.ref (OfNat.ofNat _)) _ _ _) _ _ _); k_dflt (refine' callWith_K ?k1q20 ?k2q20 ?_; (case k1q20 => k_asm); (case k2q20 => k_is); k_whole)))
  k_with "M execs cons" => ((k_here; (try dsimp only); with_reducible refine tk_sum ?_; intro tk9; (try (with_reducible rename Fr _ _ _ _ => Fx9; refine fr_let Fx9 ?_; intro mK Fy9; clear Fx9)); (try k_extra "MINE led")))
  k_with "M execs nil" => ((k_here; (try dsimp only); with_reducible refine tk_sum ?_; intro tk9))
  k_with "MINE lt" => (first | assumption | exact And.left (by assumption) | exact And.left (And.right (by assumption)) | exact And.left (And.right (And.right (by assumption))) | exact And.left (And.right (And.right (And.right (by assumption)))) | exact And.left (And.right (And.right (And.right (And.right (by assumption))))) | exact And.left (And.right (And.right (And.right (And.right (And.right (by assumption)))))) | exact And.left (And.right (And.right (And.right (And.right (And.right (And.right (by assumption))))))) | exact And.left (And.right (And.right (And.right (And.right (And.right (And.right (And.right (by assumption)))))))) | exact And.left (And.right (And.right (And.right (And.right (And.right (And.right (And.right (And.right (by assumption))))))))) | exact And.right (by assumption) | exact And.right (And.right (by assumption)) | exact And.right (And.right (And.right (by assumption))) | fail "not seen less")
  k_with "MINE mul" => (first | ((with_reducible refine mulL ?_); decide) | ((with_reducible refine mulR ?_); decide) | ((with_reducible refine' mulRb ?_ ?_); (focus assumption); decide) | ((with_reducible refine' mulLb ?_ ?_); (focus assumption); decide) | ((with_reducible refine mulRm ?_); decide) | ((with_reducible refine mulLm ?_); decide) | fail "not seen small")
  k_with "M binaryOp Mult int int" => ((k_here; k_dflt (refine' PyProof.Rows.mul_int ?_ ?hmq25; rotate_left; (case hmq25 => k_extra "MINE mul"))))
  k_with "M newTuple" => ((k_here; kup_bare; k_dflt (refine' newTupleV ?Fq26 ?Nq26 ?_ ?zq26; (case Fq26 => k_asm); (case Nq26 => k_asm); (case zq26 => kmk_size)); intro D' h' F' N' l1; (try k_lt l1); (try k_sweep)))
  k_with "MINE gotW" => ((intro v9 n9 h9 tk9 F9 N9 hp9; obtain ⟨o9, r9, t9, hv9, hn9, hw9, hr9, hr9'⟩ := hp9; subst hn9 hv9; (try dsimp only); (try k_fold)))
  k_with "MINE gotD" => ((intro v9 n9 h9 tk9 F9 N9 hp9; obtain ⟨o9, t9, hv9, hn9, ho9, hb9, hb9'⟩ := hp9; subst hn9 hv9; (try dsimp only); (try k_fold)))
  k_with "MINE gotB" => ((intro v9 n9 h9 tk9 F9 N9 hp9; obtain ⟨o9, t9, hv9, hn9, ho9⟩ := hp9; subst hn9 hv9; (try dsimp only); (try k_fold)))
  k_with "MINE got" => ((intro v9 n9 h9 tk9 F9 N9 hp9; obtain ⟨hn9, t9, hv9⟩ := hp9; subst hn9 hv9; (try dsimp only); (try k_fold)))
  k_with "M call ref" => ((k_here; (with_reducible show wpAny _ _ (call (Value.ref 90) [Value.int _ _]) _ _ _); k_dflt (refine' Fn.use ?k1 ?k2 ?k3 ?k4 ?k5 ?kK (fn_led _ _ _ _ ) ?kd ?ku ?_; k_extra "MINE use"); k_extra "MINE got"))
  k_with "M call ref" => ((k_here; (with_reducible show wpAny _ _ (call (Value.ref 104) [Value.int _ _]) _ _ _); k_dflt (refine' Fn.use ?k1 ?k2 ?k3 ?k4 ?k5 ?kK (fn_address_of _ _ _ _ ) ?kd ?ku ?_; k_extra "MINE use"); k_extra "MINE got"))
  k_with "M call ref" => ((k_here; (with_reducible show wpAny _ _ (call (Value.ref 230) [Value.int _ _]) _ _ _); k_dflt (refine' Fn.use ?k1 ?k2 ?k3 ?k4 ?k5 ?kK (fn_words_of _ _ _ _ ) ?kd ?ku ?_; k_extra "MINE use"); k_extra "MINE got"))
  k_with "M call ref" => ((k_here; (with_reducible show wpAny _ _ (call (Value.ref 97) [Value.int _ _]) _ _ _); k_dflt (refine' Fn.use ?k1 ?k2 ?k3 ?k4 ?k5 ?kK (fn_word_octets' _ _ _ _ ?c1q34 ?c2q34) ?kd ?ku ?_; k_extra "MINE use"; (case c1q34 => k_extra "MINE num"); (case c2q34 => k_extra "MINE num")); k_extra "MINE got"))
  k_with "M call ref" => ((k_here; (with_reducible show wpAny _ _ (call (Value.ref 237) [Value.bytes _ _, Value.int _ _, Value.int _ _]) _ _ _); k_dflt (refine' Fn.use ?k1 ?k2 ?k3 ?k4 ?k5 ?kK (fn_part_of _ _ _ _ _ _ _ _ ?c1q35 ?c2q35) ?kd ?ku ?_; k_extra "MINE use"; (case c1q35 => k_extra "MINE num"); (case c2q35 => k_extra "MINE num")); k_extra "MINE got"))
  k_with "M call ref" => ((k_here; (with_reducible show wpAny _ _ (call (Value.ref 343) [Value.bytes _ _, Value.int _ _, Value.int _ _]) _ _ _); k_dflt (refine' Fn.use ?k1 ?k2 ?k3 ?k4 ?k5 ?kK (fn_law_part' _ _ _ _ _ _ _ _ ?c1q36 ?c2q36 ?c3q36 ?c4q36) ?kd ?ku ?_; k_extra "MINE use"; (case c1q36 => k_extra "MINE num"); (case c2q36 => k_extra "MINE num"); (case c3q36 => k_extra "MINE num"); (case c4q36 => k_extra "MINE num")); k_extra "MINE got"))
  k_with "M call ref" => ((k_here; (with_reducible show wpAny _ _ (call (Value.ref 343) [Value.bytes _ _, Value.int _ _, Value.int _ _]) _ _ _); k_dflt (refine' Fn.use ?k1 ?k2 ?k3 ?k4 ?k5 ?kK (fn_law_part _ _ _ _ _ _ _ _ ?c1q37 ?c2q37) ?kd ?ku ?_; k_extra "MINE use"; (case c1q37 => k_extra "MINE num"); (case c2q37 => k_extra "MINE num")); k_extra "MINE got"))
  k_with "M call ref" => ((k_here; (with_reducible show wpAny _ _ (call (Value.ref 244) [Value.bytes _ _, Value.int _ _, Value.int _ _]) _ _ _); k_dflt (refine' Fn.use ?k1 ?k2 ?k3 ?k4 ?k5 ?kK (fn_number_at' _ _ _ _ _ _ _ _ ?c1q38 ?c2q38 ?c3q38 ?c4q38) ?kd ?ku ?_; k_extra "MINE use"; (case c1q38 => k_extra "MINE num"); (case c2q38 => k_extra "MINE num"); (case c3q38 => k_extra "MINE num"); (case c4q38 => k_extra "MINE num")); k_extra "MINE got"))
  k_with "M call ref" => ((k_here; (with_reducible show wpAny _ _ (call (Value.ref 244) [Value.bytes _ _, Value.int _ _, Value.int _ _]) _ _ _); k_dflt (refine' Fn.use ?k1 ?k2 ?k3 ?k4 ?k5 ?kK (fn_number_at _ _ _ _ _ _ _ _ ?c1q39 ?c2q39) ?kd ?ku ?_; k_extra "MINE use"; (case c1q39 => k_extra "MINE num"); (case c2q39 => k_extra "MINE num")); k_extra "MINE got"))
  k_with "M call ref" => ((k_here; (with_reducible show wpAny _ _ (call (Value.ref 42) [Value.ref _, Value.bytes _ _]) _ _ _); k_dflt (refine' Fn.useP ?k1 ?k2 ?k3 ?k4 ?k5 ?kK ?kpq40 (fn_number  ?c1q40 ?c2q40 ?c3q40 ?c4q40 ?c5q40 ?c6q40) ?kd ?ku ?_; k_extra "MINE use"; (case c3q40 => first | assumption | omega); (case kpq40 => k_extra "MINE pick"); (case c1q40 => first | assumption | exact DigAt.more (by assumption) (by k_extra "MINE sub")); (case c2q40 => k_all); (case c4q40 => first | assumption | omega); (case c5q40 => k_extra "MINE num"); (case c6q40 => k_extra "MINE num")); k_extra "MINE gotD"))
  k_with "M call ref" => ((k_here; (with_reducible show wpAny _ _ (call (Value.ref 49) [Value.ref _, Value.bytes _ _]) _ _ _); k_dflt (refine' Fn.useP ?k1 ?k2 ?k3 ?k4 ?k5 ?kK ?kpq41 (fn_of  ?c1q41 ?c2q41 ?c3q41 ?c4q41 ?c5q41 ?c6q41) ?kd ?ku ?_; k_extra "MINE use"; (case c3q41 => first | assumption | omega); (case kpq41 => k_extra "MINE pick"); (case c1q41 => first | assumption | exact DigAt.more (by assumption) (by k_extra "MINE sub")); (case c2q41 => k_all); (case c4q41 => first | assumption | omega); (case c5q41 => k_extra "MINE num"); (case c6q41 => k_extra "MINE num")); k_extra "MINE gotB"))
  k_with "M call ref" => ((k_here; (with_reducible show wpAny _ _ (call (Value.ref 315) [Value.ref _, Value.int _ _]) _ _ _); k_dflt (refine' Fn.useP ?k1 ?k2 ?k3 ?k4 ?k5 ?kK ?kpq42 (fn_draw  ?c1q42 ?c2q42 ?c3q42 ?c4q42) ?kd ?ku ?_; k_extra "MINE use"; (case kpq42 => k_extra "MINE pick"); (case c1q42 => first | assumption | decide | omega); (case c2q42 => first | assumption | exact WlAt.more (by assumption) (by k_extra "MINE sub")); (case c3q42 => k_all); (case c4q42 => first | assumption | decide | omega)); k_extra "MINE gotW"))
  k_with "MINE cond" => (first | exact True.intro | ((try dsimp only [cP, cAnd]); (repeat' (first | exact True.intro | refine And.intro ?_ ?_)); all_goals first | k_extra "MINE mul" | mul_fits | decide | omega | assumption))
  k_with "M eval Tuple" => ((k_here; (with_reducible show wpAny _ _ (eval (Expr.Tuple (Expr.Constant (Const.int _) _ _ :: _) _ _) _) _ _ _); (try dsimp only); k_dflt (refine' pe_tupL ?Fq44 ?Nq44 ?fq44 ?hq44 ?lq44 ?cq44 ?_; (case Fq44 => k_asm); (case Nq44 => k_asm); (case fq44 => exact rfl); (case hq44 => exact rfl); (case lq44 => exact rfl); (case cq44 => k_extra "MINE cond")); intro a9 h9 vs9 tk9 F9 N9 l9 hi9; (have l9c := l9); (try k_lt l9); (try k_sweep); (try dsimp only)))
  k_with "M eval Tuple" => ((k_here; (with_reducible show wpAny _ _ (eval (Expr.Tuple (Expr.BinOp (Expr.Constant (Const.int _) _ _) _ _ _ :: _) _ _) _) _ _ _); (try dsimp only); k_dflt (refine' pe_tupL ?Fq45 ?Nq45 ?fq45 ?hq45 ?lq45 ?cq45 ?_; (case Fq45 => k_asm); (case Nq45 => k_asm); (case fq45 => exact rfl); (case hq45 => exact rfl); (case lq45 => exact rfl); (case cq45 => k_extra "MINE cond")); intro a9 h9 vs9 tk9 F9 N9 l9 hi9; (have l9c := l9); (try k_lt l9); (try k_sweep); (try dsimp only)))
  k_with "M eval Call" => (k_fold)
  k_with "M eval Tuple" => (k_fold)
  k_with "M eval BinOp" => (k_fold)
  k_with "M eval Subscript" => (k_fold)
  k_with "M eval IfExp" => (k_fold)
  k_with "M isTrue Compare" => (k_fold)
  k_with "M isTrue BoolOp" => (k_fold)
  k_with "M exec If" => (k_fold)
  k_with "M exec Return" => (k_fold)
  k_with "M eval ListComp" => ((k_here; (with_reducible show wpAny _ _ (eval (Expr.ListComp _ [⟨_, Expr.Tuple _ _ _, _, _⟩] _ _) _) _ _ _); k_dflt (refine ListComp_T (F₀ := by k_asm) (by with_unfolding_all rfl) (by decide) (by rfl) (by decide) (by rfl) ?_)))
  k_with "M eval ListComp" => ((k_here; (with_reducible show wpAny _ _ (eval (Expr.ListComp _ [⟨_, Expr.Call _ _ _ _, [], _⟩] _ _) _) _ _ _); k_dflt (refine LCg.ListComp_U (F₀ := by k_asm) (by with_unfolding_all rfl) (by decide) (by rfl) (by decide) (by rfl) ?_)))
  k_with "M SrcT" => ((k_here; k_dflt (refine SrcT.intro (by rfl) (by k_asm) (by k_asm) (by k_mem) (by first | size_fits | exact Nat.le_of_ble_eq_true rfl) ?_; intro g'; lcg_lit)))
  k_with "M CompRest" => ((with_unfolding_all first | (refine LCg.CompRest.succ ?_; intro v' I' oI' C' oC' D' m' h' tk' E' hv' hC' hx' F' N' off' ne'; (first | lcg_open hv' | (obtain ⟨t9', hv9'⟩ := hv'; subst hv9'))) | refine LCg.CompRest.zero ?_))
  k_with "M CompEnd" => ((k_dflt (refine' compEnd ?Fq59 ?Nq59 ?offq59 ?Sq59 ?_; (case offq59 => assumption); (case Fq59 => assumption); (case Nq59 => first | k_asm | (refine cb_drop (by k_asm) ?_; k_extra "MINE sub")); (case Sq59 => first | assumption | exact trivial | (unfold TupIn; k_mem)))))
  k_with "M exec Assign cons ListComp" => (((with_reducible show wpAny _ _ (exec (Stmt.Assign [Expr.Tuple _ _ _] (Expr.ListComp _ _ _ _) _) _) _ _ _); refine Assign_Tuple ?_ (by kernel_rfl) (by kernel_rfl)))
  k_with "M CompSrc" => ((k_here; k_dflt (first | (refine LCg.CompSrc.range (by rfl) (by k_asm) (by k_asm) (by assumption) (by first | decide | rfl) (by first | rfl | decide) (by first | size_fits | exact Nat.le_of_ble_eq_true rfl) ?_; intro g'; lcg_lit) | (refine LCg.CompSrc.ledger (by rfl) (by k_asm) (by k_asm) (by k_mem) (by first | size_fits | exact Nat.le_of_ble_eq_true rfl) ?_; intro g'; lcg_lit))))
  k_with "M exec Assign cons ListComp" => ((k_here; (with_reducible show wpAny _ _ (exec (Stmt.Assign [Expr.Name (Str.ofString "homes") _] _ _) _) _ _ _); lcg_calm; k_dflt (refine LCt.Assign_ListComp_T (F₀ := by k_asm) (by rfl) (by with_unfolding_all rfl) (by with_unfolding_all rfl) (by decide) (by rfl) (by decide) (by rfl) (by rfl) (by rfl) ?_); k_dflt lct_toSrc))
  k_with "MINE mem" => (first | exact List.Mem.head _ | (refine' List.Mem.tail _ ?_; k_extra "MINE mem"))
  k_with "M subscriptTail Name Name ref int" => ((k_here; (with_reducible show wpAny _ _ (subscriptTail _ _ (Value.ref _) (Value.int _ _)) _ _ _); k_dflt (refine' item_rows ?Nq64 ?mq64 ?aq64 ?bq64 ?_; (case Nq64 => k_asm); (case mq64 => first | assumption | exact RowsAt.more (by assumption) (by k_extra "MINE sub")); (case aq64 => omega); (case bq64 => omega)); intro a9 x9 y9 t9 t8 e9 m9 x8 y8))
  k_with "M CompSrcT" => ((k_here; refine Stop.go ?_))
  k_with "M KCiEl" => ((refine Stop.go ?_))
  k_with "M KCiNo" => ((refine Stop.go ?_))
  k_with "MINE memA" => (first | assumption | (refine' List.Mem.tail _ ?_; k_extra "MINE memA"))
  k_with "M subscriptTail Subscript" => ((k_here; (with_reducible show wpAny _ _ (subscriptTail _ _ (Value.ref _) (Value.int 0 _)) _ _ _); k_dflt (refine' item_t0 ?Nq69 ?mq69 ?_; (case Nq69 => k_asm); (case mq69 => k_extra "MINE memA"))))
  k_with "M subscriptTail Subscript" => ((k_here; (with_reducible show wpAny _ _ (subscriptTail _ _ (Value.ref _) (Value.int 1 _)) _ _ _); k_dflt (refine' item_t1 ?Nq70 ?mq70 ?_; (case Nq70 => k_asm); (case mq70 => k_extra "MINE memA"))))
  k_with "M subscriptTail Name BinOp ref int" => ((k_here; (with_reducible show wpAny _ _ (subscriptTail _ _ (Value.ref _) (Value.int _ _)) _ _ _); k_dflt (refine' item_rows0 ?Nq71 ?mq71 ?aq71 ?bq71 ?_; (case Nq71 => k_asm); (case mq71 => first | assumption | exact RowsAt.more (by assumption) (by k_extra "MINE sub")); (case aq71 => exact Int.fmod_nonneg_of_pos _ (by decide)); (case bq71 => exact Int.fmod_lt_of_pos _ (by decide))); intro v9 hv9; (generalize hp9 : tb _ = p9 at hv9); cases hv9; rotate_left; (have b9 := tb_in hp9; obtain ⟨⟨b1, b2⟩, b3, b4⟩ := b9)))
  k_with "M subscriptTail Name Constant ref int" => ((k_here; (with_reducible show wpAny _ _ (subscriptTail _ _ (Value.ref _) (Value.int 0 _)) _ _ _); k_dflt (refine' item_t0 ?Nq72 ?mq72 ?_; (case Nq72 => k_asm); (case mq72 => k_extra "MINE memA"))))
  k_with "M subscriptTail Name Constant ref int" => ((k_here; (with_reducible show wpAny _ _ (subscriptTail _ _ (Value.ref _) (Value.int 1 _)) _ _ _); k_dflt (refine' item_t1 ?Nq73 ?mq73 ?_; (case Nq73 => k_asm); (case mq73 => k_extra "MINE memA"))))
  k_with "M subscriptTail Name Slice bytes ref" => ((k_here; (with_reducible rename Fr _ _ _ _ => F'); (with_reducible rename News _ _ _ _ => N'); k_dflt (refine' slice_from (s := ⟨_, _, _, _, _⟩) F' N' ?aq74 ?zq74 ?_; (case aq74 => decide); (case zq74 => (rw [ofN_length]; decide))); intro _ _ _ F' N'))
  k_with "M call ref" => ((k_here; (with_reducible show wpAny _ _ (call (Value.ref 336) [Value.int _ _]) _ _ _); k_dflt (refine' Fn.use ?k1 ?k2 ?k3 ?k4 ?k5 ?kK (fn_law_word3 _ _ _ _ ?c1q75 ?c2q75) ?kd ?ku ?_; k_extra "MINE use"; (case c1q75 => assumption); (case c2q75 => assumption)); k_extra "MINE got"))
  k_with "M binaryOp Add bytes bytes" => ((k_here; (with_reducible show wpAny _ _ (binaryOp Operator.Add (Value.bytes (List.toArray _) _) (Value.bytes (List.toArray _) _)) _ _ _); k_dflt (refine' add_L ?h0q76 ?_; (case h0q76 => (simp only [List.length_append, beL_length, List.length_replicate, List.length_drop, ofN_length]; decide))); intro _ _))
  k_with "M compareOp Eq ref ref" => ((k_here; (with_reducible show wpAny _ _ (compareOp CmpOp.Eq (Value.ref _) (Value.ref _)) _ _ _); (with_unfolding_all refine' eq_intsK ?k1q77 ?k2q77 ?k3q77 ?k4q77 ?k5q77 ?_; (case k1q77 => is_list); (case k2q77 => l_intsC); (case k3q77 => is_list); (case k4q77 => l_intsC); (case k5q77 => ((try dsimp +zetaDelta only); units_room)); k_whole); (try simp only [filter_tt])))
  k_with "MINE t k_room" => (ktr_room)
  k_with "MINE t k_units" => (ktr_units)
  k_with "MINE t k_mem" => (first | with_reducible assumption | assumption | exact List.Mem.head _ | (refine' List.Mem.tail _ ?_; k_mem))
  k_with "MINE t k_all" => (first | assumption | exact cellNe (by assumption) (by k_extra "MINE sub") | exact List.forall_mem_nil _ | (refine' List.forall_mem_cons.mpr ⟨?aq81, ?bq81⟩; (case aq81 => first | k_ne | assumption); (case bq81 => k_all)))
  k_with "MINE t ktr_room" => (first | (refine' rm2 ?hq82 ?bq82; (case hq82 => assumption); (case bq82 => exact rfl)) | (refine' rm1 ?hq82 ?bq82; (case hq82 => assumption); (case bq82 => exact rfl)) | (refine' rm3 ?hq82 ?bq82; (case hq82 => assumption); (case bq82 => exact rfl)) | exact rm0 (by assumption) | fail "no room")
  k_with "MINE t ktr_units" => (first | (refine' rm2 ?hq83 ?bq83; (case hq83 => assumption); (case bq83 => exact rfl)) | (refine' rm1 ?hq83 ?bq83; (case hq83 => assumption); (case bq83 => exact rfl)) | (refine' rm3 ?hq83 ?bq83; (case hq83 => assumption); (case bq83 => exact rfl)) | exact rm0 (by assumption) | fail "no room")
  k_with "MINE t k_ne" => (with_reducible (first | assumption | exact Nat.ne_of_lt (by k_extra "MINE lt") | exact Nat.ne_of_gt (by k_extra "MINE lt") | exact Ne.symm (by assumption) | k_extra "MINE lt" | exact Ne.symm (by k_extra "MINE lt") | fail "not seen unlike"))
  k_with "MINE t k_all" => (first | assumption | exact List.forall_mem_nil _ | ((with_reducible refine' List.forall_mem_cons.mpr ⟨?aq85, ?bq85⟩); (case aq85 => first | k_ne | assumption); (case bq85 => k_all)) | exact cellNeK (by assumption) (by intro q hq; repeat (first | exact hq | refine List.mem_cons_of_mem _ ?_)) (by omega))
  trivial
theorem cellNeK {L' c : Nat} {big news : List (Addr × Obj)} (h : ∀ q ∈ big, q.1 < L') (hs : ∀ q ∈ news, q ∈ big) (hk : L' ≤ c) : ∀ q ∈ news, q.1 ≠ c := fun q hq => Nat.ne_of_lt (Nat.lt_of_lt_of_le (h q (hs q hq)) hk)
section
variable {prog : Program} {w : World} {A : Around} {E : Value → Shared → Prop} {s : Shared} {h₀ : Heap} {L a : Addr} {led : List (Addr × Obj)} {u tx ty : Tok} {x y : Int} {value slice : PySem.Expr} {Q : Value → Shared → Prop}
theorem item_t0 (N : News h₀ L s.heap led) (hm : (a, tup2O x tx y ty) ∈ led) (h : Q (.int x tx) s)
    (hs : subscripted slice false (.ref a) (.int 0 u) = operate [.ref a, .int 0 u] (getItem (.ref a) (.int 0 u)) := by with_unfolding_all rfl)  :
    wpAny (model prog w) A (subscriptTail value slice (.ref a) (.int 0 u)) Q E s := by
  have ht : IsTup s.heap a (List.toArray [Value.int x tx, Value.int y ty]) := News.isTup N hm
  exact tail_any ht.typeIs slot_tuple_getitem.lookup (getItem_tuple ht (by decide) (by decide) (seqIndex_of (by decide) (by simp)) (x := .int x tx) (by simp) h) hs
theorem item_t1 (N : News h₀ L s.heap led) (hm : (a, tup2O x tx y ty) ∈ led) (h : Q (.int y ty) s)
    (hs : subscripted slice false (.ref a) (.int 1 u) = operate [.ref a, .int 1 u] (getItem (.ref a) (.int 1 u)) := by with_unfolding_all rfl)  :
    wpAny (model prog w) A (subscriptTail value slice (.ref a) (.int 1 u)) Q E s := by
  have ht : IsTup s.heap a (List.toArray [Value.int x tx, Value.int y ty]) := News.isTup N hm
  exact tail_any ht.typeIs slot_tuple_getitem.lookup (getItem_tuple ht (by decide) (by decide) (seqIndex_of (by decide) (by simp)) (x := .int y ty) (by simp) h) hs
end
theorem homeG_yes2 {r par k x y x' y' : Int} {l : List Int} (h1 : x = r) (h2 : y'.fmod 2 = par) (e : tb k.toNat = some (x, y)) (e' : tb k.toNat = some (x', y')) : homeG r par l k = l ++ [k] := by
  rw [e] at e'
  injection e' with e'
  injection e' with a b
  exact homeG_yes e h1 (by rw [b]; exact h2)
theorem sg_nohome {l : List UInt8} (h : homes (numL l 64 32 : Int) ((numL l 32 32 : Int) - 27) = []) : sgPt l = none := by
  unfold sgPt; split
  · rw [h]
  · rfl
theorem sg_pt {l : List UInt8} {h : Int} (hv : (numL l 32 32 : Int) = 27 ∨ (numL l 32 32 : Int) = 28) (r0 : 0 < (numL l 64 32 : Int)) (r1 : (numL l 64 32 : Int) < 79) (s0 : 0 < (numL l 96 32 : Int)) (s1 : (numL l 96 32 : Int) < 79)
    (hB : homes (numL l 64 32 : Int) ((numL l 32 32 : Int) - 27) = [h]) : sgPt l = tb ((((numL l 96 32 : Int) * h - (numL l 0 32 : Int)) * (pmod (numL l 64 32 : Int) 77 79 : Int)).fmod 79).toNat := by
  unfold sgPt; rw [if_pos ⟨hv, ⟨r0, r1⟩, s0, s1⟩, hB]
theorem sgBackS {w : World} {o' : Obj} {ks : List Int} {kd : Addr} {l : List UInt8} {t : Tok} {news : List (Addr × Obj)} {x y : Int} {out : List UInt8} (h : sgPt l = some (x, y)) (ho : DigO w o' (dgK ks (beN (1 :: ptKey x y) : Int))) (he : out = List.replicate 12 0 ++ (ofN (dgN ks (beN (1 :: ptKey x y) : Int))).drop 12) :
    ∃ o'' t', Value.bytes out.toArray t = .bytes (sgOut ks l).toArray t' ∧ (kd, o') :: news = (kd, o'') :: news ∧ DigO w o'' (sgK ks l) := by
  refine ⟨o', t, ?_, rfl, ?_⟩
  · unfold sgOut; rw [h, he]
  · unfold sgK; rw [h]; exact ho
theorem fn_law_word3 (w : World) (news : Led) (n : Int) (t : Tok) (h0 : 0 ≤ n) (h1 : n < 67) : Fn w 10 40 336 news [.int n t] (fun v news' => news' = news ∧ ∃ t', v = .bytes (beL 32 n.toNat).toArray t') := by
  have h := fn_law_word w news n.toNat t (by omega)
  rwa [Int.toNat_of_nonneg h0] at h
theorem fn_signer {w : World} {news : Led} {dg kd ra : Addr} {o : Obj} {ks : List Int} {l : List UInt8} {t : Tok} (hdg : DigAt w.params news dg kd) (hne : ∀ q ∈ news, q.1 ≠ kd) (hsy : (kd == sysModules) = false) (ho : DigO w o ks) (hks : ks.length ≤ 10) (hl : l.length ≤ 300) (hr : RowsAt news ra) :
    Fn w 60 240 348 ((kd, o) :: news) [.bytes l.toArray t, .ref ra, .ref dg] (fun v news' => ∃ o' t', v = .bytes (sgOut ks l).toArray t' ∧ news' = (kd, o') :: news ∧ DigO w o' (sgK ks l)) := by
  have hdg' := hdg
  obtain ⟨dd, td1, hd1, hd2⟩ := hdg'
  (unfold Fn; k_fill; intro pg loose mean mg mb dp un gd cn cs a ccd cl outer A₀ base h₀ L m hp₀ gs₀ dr₀ tk₀ os₀ Q E B F X N T hk hd hu hret; refine wpAny_call ?_; k_dflt (refine' code_defC ?k1 ?k2 ?k3 ?k4 ?k5 ?kA ?kF ?kK ?k6 ?k7 ?k8 ?k9 ?kB ?kD ?_ ?c2 ?c3 ?c4; (case kA => exact rfl); (case kF => exact rfl); (case kK => assumption); (case k1 => k_asm); (case k2 => k_asm); (case k3 => k_asm); (case k4 => k_asm); (case k5 => k_asm); (case k6 => k_is); (case k7 => k_is); (case k8 => ktr_room); (case k9 => exact BindsTo.of_eq rfl); (case kB => exact rfl); (case kD => decide +kernel); (case c2 => exact rfl); (case c3 => exact rfl); (case c4 => exact rfl); k_whole; intro g' L' h' tk' cells' FG' F' N' Y' B' X' T' l1; (have l1c := l1); (try k_lt l1); k_cells Y'; (try simp only [List.cons_append, List.nil_append] at N'); (try dsimp only); (try k_fold)); refine wp_letQ ?_; intro qk ek Ak)
  k_steps
  · delta Stop
    refine LCt.CompSrcT.range (n := 78) (by rfl) (by k_asm) (by k_asm) (by assumption) (by decide) (by rfl) (by exact Nat.le_of_ble_eq_true rfl) ?_
    intro g'
    refine kci_range (homeG (numL l 64 32 : Int) ((numL l 32 32 : Int) - 27)) ?_ ?_ (homeG_len _ _)
    · intro k' t' I' oI' C' oC' D' m' ys' l' h' tk' E' hlo' hhi' hI' hC' hx' F' N' off' ne' hMark'
      try k_fold
      k_steps
      all_goals delta Stop
      all_goals first
        | exact kci_el (homeG_yes2 (by assumption) (by assumption) (by assumption) (by assumption)) rfl rfl
        | exact kci_no (homeG_no1 (by assumption) (by assumption)) rfl
        | exact kci_no (homeG_no2 (by assumption) (by assumption)) rfl
    · show ∀ ys, _
      intro ys hys hlen
      have hp9 := parOf (n := (beN (partL l (32 * (0 + (0 + 1))) 32) : Int)) (by assumption)
      have hr0 : (0 : Int) < (beN (partL l (32 * (0 + (0 + 1 + 1))) 32) : Int) := by assumption
      have hr1 : (beN (partL l (32 * (0 + (0 + 1 + 1))) 32) : Int) < 79 := by assumption
      have hs0 : (0 : Int) < (beN (partL l (32 * (0 + (0 + 1 + 1 + 1))) 32) : Int) := by assumption
      have hs1 : (beN (partL l (32 * (0 + (0 + 1 + 1 + 1))) 32) : Int) < 79 := by assumption
      have hys2 : IntsAre ys (homes (numL l 64 32 : Int) ((numL l 32 32 : Int) - 27)) := hys
      clear hys
      as_aux_lemma =>
        rcases hm_is (r := (numL l 64 32 : Int)) (par := (numL l 32 32 : Int) - 27) hr0 hr1 hp9 with ⟨hA, hB⟩ | ⟨p, h, hA, hB, h1, h2, h3⟩
        all_goals rw [hB] at hys2
        · cases hys2
          try k_fold
          k_steps
          all_goals exact hret _ ((kd, o) :: news) _ _ (by k_asm) (by refine cb_drop (by k_asm) ?_; k_extra "MINE sub") (sgBackN ho (sg_nohome hB))
        · cases hys2 with
          | cons n t9 hrest =>
            cases hrest
            as_aux_lemma =>
              try k_fold
              k_steps
              all_goals first
                | exact absurd (show decide (([h] : List Int) = []) = true by assumption) (by simp)
                | exact hret _ ((kd, o) :: news) _ _ (by k_asm) (by refine cb_drop (by k_asm) ?_; k_extra "MINE sub") (sgBackN ho ((sg_pt (parYes (by assumption)) hr0 hr1 hs0 hs1 hB).trans (by assumption)))
                | exact hret _ ((kd, _) :: news) _ _ (by k_asm) (by refine cb_drop (by k_asm) ?_; k_extra "MINE sub") (sgBackS ((sg_pt (parYes (by assumption)) hr0 hr1 hs0 hs1 hB).trans (by assumption)) (by assumption) rfl)
  all_goals first
    | exact hret _ ((kd, o) :: news) _ _ (by k_asm) (by refine cb_drop (by k_asm) ?_; k_extra "MINE sub") (sgBackN ho (by first | exact sg_v (by assumption) | exact sg_r0 (by assumption) | exact sg_r1 (by assumption) | exact sg_s0 (by assumption) | exact sg_s1 (by assumption)))
theorem lines_D8 : True := by
  w_top off
  k_with_none
  k_with "MINE len" => (((try simp only [List.length_append, List.length_take, List.length_drop, List.length_replicate, List.length_cons, List.length_nil, cutL_length, beL_length, leL_length, partL_length, KBa_byteArr_length, List.length_map, rangeKs_length] at *); omega))
  k_with "MINE num" => (first | omega | assumption | (simp only [Int.reduceToNat, Int.reducePow, Int.reduceMul, Int.fmod_eq_emod_of_nonneg, Int.reduceLE]; omega) | k_extra "MINE len")
  k_with "M call type:bytes" => ((k_here; (with_reducible show wpAny _ _ (call (Value.type "bytes") [Value.int _ _]) _ _ _); refine' bz_call ?h0q2 ?hNq2 ?_; (case h0q2 => k_extra "MINE num"); (case hNq2 => k_extra "MINE num"); intro _ _))
  k_with "M call builtin:len" => ((k_here; (with_reducible show wpAny _ _ (call (Value.builtin "len") [Value.bytes (List.toArray _) _]) _ _ _); refine' len_L ?h0q3 ?_; (case h0q3 => k_extra "MINE num"); intro _ _))
  k_with "M binaryOp Add bytes bytes" => ((k_here; (with_reducible show wpAny _ _ (binaryOp Operator.Add (Value.bytes (List.toArray _) _) (Value.bytes (List.toArray _) _)) _ _ _); refine' add_L ?h0q4 ?_; (case h0q4 => k_extra "MINE num"); intro _ _))
  k_with "M call ref" => ((k_here; (with_reducible show wpAny _ _ (call (Value.ref _) [Value.bytes (List.toArray _) _, Value.str _ _]) _ _ _); kfb_any; k_dflt (refine' from_big ?h1q5 ?h2q5 ?h3q5 ?_; (case h1q5 => k_asm); (case h2q5 => k_mem); (case h3q5 => k_extra "MINE num")); intro _ _))
  k_with "M subscriptTail" => ((k_here; (with_reducible show wpAny _ _ (subscriptTail _ (Expr.Slice _ _ none _) (Value.bytes (List.toArray _) _) (Value.ref _)) _ _ _); (with_reducible rename Fr _ _ _ _ => F'); (with_reducible rename News _ _ _ _ => N'); (first | (refine' slice_ab (s := ⟨_, _, _, _, _⟩) F' N' ?aq6 ?bq6 ?zq6 ?_; (case aq6 => k_extra "MINE num"); (case bq6 => k_extra "MINE num"); (case zq6 => k_extra "MINE num")) | (refine' slice_to (s := ⟨_, _, _, _, _⟩) F' N' ?bq6 ?zq6 ?_; (case bq6 => k_extra "MINE num"); (case zq6 => k_extra "MINE num")) | (refine' slice_from (s := ⟨_, _, _, _, _⟩) F' N' ?aq6 ?zq6 ?_; (case aq6 => k_extra "MINE num"); (case zq6 => k_extra "MINE num"))); intro _ _ _ F' N'))
  k_with "M call builtin:int.to_bytes" => ((k_here; (with_reducible show wpAny _ _ (call (Value.builtin "int.to_bytes") [Value.int _ _, Value.int _ _, Value.str _ _]) _ _ _); (first | (refine' to_bigI ?aq7 ?cq7 ?bq7 ?dq7 ?_; (case aq7 => k_extra "MINE num"); (case cq7 => k_extra "MINE num"); (case bq7 => k_extra "MINE num"); (case dq7 => k_extra "MINE fits")) | (refine' to_littleI ?aq7 ?cq7 ?bq7 ?dq7 ?_; (case aq7 => k_extra "MINE num"); (case cq7 => k_extra "MINE num"); (case bq7 => k_extra "MINE num"); (case dq7 => k_extra "MINE fits"))); intro _ _))
  k_with "MINE fits" => (first | assumption | exact fits_num (by assumption) | (simp only [Int.reduceToNat, Nat.reducePow]; omega) | (simp only [Int.reduceToNat, Nat.reducePow, Int.reducePow, Int.reduceMul, Int.fmod_eq_emod_of_nonneg, Int.reduceLE]; omega))
  k_with "MINE enter" => ((unfold Fn; k_fill; intro p loose mean mg mb dp un gd cn cs a ccd cl outer A₀ base h₀ L m hp₀ gs₀ dr₀ tk₀ os₀ Q E B F X N T hk hd hu hret; refine wpAny_call ?_; k_dflt ktr_enter))
  k_with "MINE use" => (((case k1 => k_asm); (case k2 => k_asm); (case k3 => k_asm); (case k4 => k_asm); (case k5 => k_asm); (case kK => first | exact rfl | assumption); (case kd => ktr_room); (case ku => ktr_units)))
  k_with "M call builtin:pow" => ((k_here; (with_reducible show wpAny _ _ (call (Value.builtin "pow") [Value.int _ _, Value.int _ _, Value.int _ _]) _ _ _); refine' pow3I ?aq11 ?bq11 ?_; (case aq11 => first | decide | k_extra "MINE num"); (case bq11 => first | decide | k_extra "MINE num"); intro _ _ _))
  k_with "MINE sub" => (first | (intro q hq; exact hq) | ((with_reducible refine' List.forall_mem_cons.mpr ⟨?aq12, ?bq12⟩); (case aq12 => k_mem); (case bq12 => k_extra "MINE sub")) | (intro q hq; (repeat (first | exact hq | refine List.mem_cons_of_mem _ ?_))))
  k_with "M call type:bytes" => ((k_here; (with_reducible show wpAny _ _ (call (Value.type "bytes") [Value.bytes _ _]) _ _ _); refine bb_call ?_))
  k_with "MINE pick" => ((repeat (first | exact Pick.head | apply Pick.tail)))
  k_with "M call builtin:max" => ((k_here; (with_reducible show wpAny _ _ (call (Value.builtin "max") [Value.int _ _, Value.int _ _]) _ _ _); k_dflt (refine' maxI ?hq15 ?Fq15 ?Nq15 ?_; (case hq15 => rfl); (case Fq15 => k_asm); (case Nq15 => k_asm)); intro _ _ _ F' N'; (try k_sweep)))
  k_with "M call builtin:min" => ((k_here; (with_reducible show wpAny _ _ (call (Value.builtin "min") [Value.int _ _, Value.int _ _]) _ _ _); k_dflt (refine' minI ?hq16 ?Fq16 ?Nq16 ?_; (case hq16 => rfl); (case Fq16 => k_asm); (case Nq16 => k_asm)); intro _ _ _ F' N'; (try k_sweep)))
  k_with "M call builtin:max" => ((k_here; (with_reducible show wpAny _ _ (call (Value.builtin "max") [Value.int _ _, Value.int _ _, Value.int _ _]) _ _ _); k_dflt (refine' max3I ?hq17 ?Fq17 ?Nq17 ?_; (case hq17 => rfl); (case Fq17 => k_asm); (case Nq17 => k_asm)); intro _ _ _ F' N'; (try k_sweep)))
  k_with "MINE subD" => ((intro q hq; exact List.mem_cons_of_mem _ hq))
  k_with "MINE steps" => (repeat' (first | (k_unfold; (try dsimp only)) | walk1 | (dsimp only; walk1) | (leave1; walk_say "STEP leave1"; try dsimp only) | fail "no step"))
  k_with "M callWith ref" => ((k_here; (with_reducible show wpAny _ _ (callWith _ (Value.ref (OfNat.ofNat _)) _ _ _) _ _ _); k_dflt (refine' callWith_K ?k1q20 ?k2q20 ?_; (case k1q20 => k_asm); (case k2q20 => k_is); k_whole)))
  k_with "M execs cons" => ((k_here; (try dsimp only); with_reducible refine tk_sum ?_; intro tk9; (try (with_reducible rename Fr _ _ _ _ => Fx9; refine fr_let Fx9 ?_; intro mK Fy9; clear Fx9)); (try k_extra "MINE led")))
  k_with "M execs nil" => ((k_here; (try dsimp only); with_reducible refine tk_sum ?_; intro tk9))
  k_with "MINE lt" => (first | assumption | exact And.left (by assumption) | exact And.left (And.right (by assumption)) | exact And.left (And.right (And.right (by assumption))) | exact And.left (And.right (And.right (And.right (by assumption)))) | exact And.left (And.right (And.right (And.right (And.right (by assumption))))) | exact And.left (And.right (And.right (And.right (And.right (And.right (by assumption)))))) | exact And.left (And.right (And.right (And.right (And.right (And.right (And.right (by assumption))))))) | exact And.left (And.right (And.right (And.right (And.right (And.right (And.right (And.right (by assumption)))))))) | exact And.left (And.right (And.right (And.right (And.right (And.right (And.right (And.right (And.right (by assumption))))))))) | exact And.right (by assumption) | exact And.right (And.right (by assumption)) | exact And.right (And.right (And.right (by assumption))) | fail "not seen less")
  k_with "MINE mul" => (first | ((with_reducible refine mulL ?_); decide) | ((with_reducible refine mulR ?_); decide) | ((with_reducible refine' mulRb ?_ ?_); (focus assumption); decide) | ((with_reducible refine' mulLb ?_ ?_); (focus assumption); decide) | ((with_reducible refine mulRm ?_); decide) | ((with_reducible refine mulLm ?_); decide) | fail "not seen small")
  k_with "M binaryOp Mult int int" => ((k_here; k_dflt (refine' PyProof.Rows.mul_int ?_ ?hmq25; rotate_left; (case hmq25 => k_extra "MINE mul"))))
  k_with "M newTuple" => ((k_here; kup_bare; k_dflt (refine' newTupleV ?Fq26 ?Nq26 ?_ ?zq26; (case Fq26 => k_asm); (case Nq26 => k_asm); (case zq26 => kmk_size)); intro D' h' F' N' l1; (try k_lt l1); (try k_sweep)))
  k_with "MINE gotRs" => ((intro v9 n9 h9 tk9 F9 N9 hp9; obtain ⟨a9, P9, t9, D9, hv9, hn9, hl9⟩ := hp9; subst hn9 hv9; (try dsimp only); (try k_fold)))
  k_with "MINE gotU" => ((intro v9 n9 h9 tk9 F9 N9 hp9; obtain ⟨o9, l9, t9, hv9, hn9, hw9, hl9⟩ := hp9; subst hn9 hv9; (try dsimp only); (try k_fold)))
  k_with "MINE gotW" => ((intro v9 n9 h9 tk9 F9 N9 hp9; obtain ⟨o9, r9, t9, hv9, hn9, hw9, hr9, hr9'⟩ := hp9; subst hn9 hv9; (try dsimp only); (try k_fold)))
  k_with "MINE gotB" => ((intro v9 n9 h9 tk9 F9 N9 hp9; obtain ⟨o9, t9, hv9, hn9, ho9⟩ := hp9; subst hn9 hv9; (try dsimp only); (try k_fold)))
  k_with "M call ref" => ((k_here; (with_reducible show wpAny _ _ (call (Value.ref 315) [Value.ref _, Value.int _ _]) _ _ _); k_dflt (refine' Fn.useP ?k1 ?k2 ?k3 ?k4 ?k5 ?kK ?kpq31 (fn_draw  ?c1q31 ?c2q31 ?c3q31 ?c4q31) ?kd ?ku ?_; k_extra "MINE use"; (case kpq31 => k_extra "MINE pick"); (case c1q31 => first | assumption | decide | omega); (case c2q31 => first | assumption | exact WlAt.more (by assumption) (by k_extra "MINE sub")); (case c3q31 => k_all); (case c4q31 => first | assumption | decide | omega)); k_extra "MINE gotW"))
  k_with "M call ref" => ((k_here; (with_reducible show wpAny _ _ (call (Value.ref 355) [Value.ref _, Value.bytes _ _]) _ _ _); k_dflt (refine' Fn.useP ?k1 ?k2 ?k3 ?k4 ?k5 ?kK ?kpq32 (fn_bent  ?c1q32 ?c2q32 ?c3q32 ?c4q32) ?kd ?ku ?_; k_extra "MINE use"; (case kpq32 => k_extra "MINE pick"); (case c1q32 => first | assumption | omega); (case c2q32 => first | assumption | exact WlAt.more (by assumption) (by k_extra "MINE sub")); (case c3q32 => k_all); (case c4q32 => k_extra "MINE num")); k_extra "MINE gotU"))
  k_with "M call ref" => ((k_here; (with_reducible show wpAny _ _ (call (Value.ref 367) [Value.ref _, Value.int _ _]) _ _ _); k_dflt (refine' Fn.useP ?k1 ?k2 ?k3 ?k4 ?k5 ?kK ?kpq33 (fn_octets  ?c1q33 ?c2q33 ?c3q33 ?c4q33) ?kd ?ku ?_; k_extra "MINE use"; (case kpq33 => k_extra "MINE pick"); (case c1q33 => first | assumption | omega); (case c2q33 => first | assumption | exact WlAt.more (by assumption) (by k_extra "MINE sub")); (case c3q33 => k_all); (case c4q33 => k_extra "MINE num")); k_extra "MINE gotU"))
  k_with "M call ref" => ((k_here; (with_reducible show wpAny _ _ (call (Value.ref 377) [Value.bytes _ _]) _ _ _); k_dflt (refine' Fn.use ?k1 ?k2 ?k3 ?k4 ?k5 ?kK (fn_law_raised _ _ _ _ ?c1q34 ?c2q34) ?kd ?ku ?_; k_extra "MINE use"; (case c1q34 => k_extra "MINE num"); (case c2q34 => first | assumption | omega)); k_extra "MINE gotRs"))
  k_with "M call ref" => ((k_here; (with_reducible show wpAny _ _ (call (Value.ref 372) [Value.ref _]) _ _ _); k_dflt (refine' Fn.useP ?k1 ?k2 ?k3 ?k4 ?k5 ?kK ?kpq35 (fn_sized  ?c1q35 ?c2q35 ?c3q35) ?kd ?ku ?_; k_extra "MINE use"; (case kpq35 => k_extra "MINE pick"); (case c1q35 => first | assumption | omega); (case c2q35 => first | assumption | exact WlAt.more (by assumption) (by k_extra "MINE sub")); (case c3q35 => k_all)); k_extra "MINE gotU"))
  k_with "M call ref" => ((k_here; (with_reducible show wpAny _ _ (call (Value.ref 362) [Value.ref _, Value.ref _]) _ _ _); k_dflt (refine' Fn.useP ?k1 ?k2 ?k3 ?k4 ?k5 ?kK ?kpq36 (fn_signed  ?c1q36 ?c2q36 ?c3q36 ?c4q36) ?kd ?ku ?_; k_extra "MINE use"; (case kpq36 => k_extra "MINE pick"); (case c1q36 => first | assumption | omega); (case c2q36 => first | assumption | exact WlAt.more (by assumption) (by k_extra "MINE sub")); (case c3q36 => k_all); (case c4q36 => first | assumption | exact RowsAt.more (by assumption) (by k_extra "MINE sub"))); k_extra "MINE gotU"))
  k_with "M call ref" => ((k_here; (with_reducible show wpAny _ _ (call (Value.ref 348) [Value.bytes _ _, Value.ref _, Value.ref _]) _ _ _); k_dflt (refine' Fn.useP ?k1 ?k2 ?k3 ?k4 ?k5 ?kK ?kpq37 (fn_signer  ?c1q37 ?c2q37 ?c3q37 ?c4q37 ?c5q37 ?c6q37 ?c7q37) ?kd ?ku ?_; k_extra "MINE use"; (case c3q37 => first | assumption | omega); (case kpq37 => k_extra "MINE pick"); (case c1q37 => first | assumption | exact DigAt.more (by assumption) (by k_extra "MINE sub")); (case c2q37 => k_all); (case c4q37 => first | assumption | omega); (case c5q37 => k_extra "MINE num"); (case c6q37 => k_extra "MINE num"); (case c7q37 => first | assumption | exact RowsAt.more (by assumption) (by k_extra "MINE sub"))); k_extra "MINE gotB"))
  k_with "MINE cond" => (first | exact True.intro | ((try dsimp only [cP, cAnd]); (repeat' (first | exact True.intro | refine And.intro ?_ ?_)); all_goals first | k_extra "MINE mul" | mul_fits | decide | omega | assumption))
  k_with "M eval Tuple" => ((k_here; (with_reducible show wpAny _ _ (eval (Expr.Tuple (Expr.Constant (Const.int _) _ _ :: _) _ _) _) _ _ _); (try dsimp only); k_dflt (refine' pe_tupL ?Fq39 ?Nq39 ?fq39 ?hq39 ?lq39 ?cq39 ?_; (case Fq39 => k_asm); (case Nq39 => k_asm); (case fq39 => exact rfl); (case hq39 => exact rfl); (case lq39 => exact rfl); (case cq39 => k_extra "MINE cond")); intro a9 h9 vs9 tk9 F9 N9 l9 hi9; (have l9c := l9); (try k_lt l9); (try k_sweep); (try dsimp only)))
  k_with "M eval Tuple" => ((k_here; (with_reducible show wpAny _ _ (eval (Expr.Tuple (Expr.BinOp (Expr.Constant (Const.int _) _ _) _ _ _ :: _) _ _) _) _ _ _); (try dsimp only); k_dflt (refine' pe_tupL ?Fq40 ?Nq40 ?fq40 ?hq40 ?lq40 ?cq40 ?_; (case Fq40 => k_asm); (case Nq40 => k_asm); (case fq40 => exact rfl); (case hq40 => exact rfl); (case lq40 => exact rfl); (case cq40 => k_extra "MINE cond")); intro a9 h9 vs9 tk9 F9 N9 l9 hi9; (have l9c := l9); (try k_lt l9); (try k_sweep); (try dsimp only)))
  k_with "M eval Call" => (k_fold)
  k_with "M eval Tuple" => (k_fold)
  k_with "M eval BinOp" => (k_fold)
  k_with "M eval Subscript" => (k_fold)
  k_with "M eval IfExp" => (k_fold)
  k_with "MINE mem" => (first | exact List.Mem.head _ | (refine' List.Mem.tail _ ?_; k_extra "MINE mem"))
  k_with "M binaryOp LShift int int" => ((k_here; (with_reducible show wpAny _ _ (binaryOp Operator.LShift (Value.int _ _) (Value.int _ _)) _ _ _); k_dflt (refine' lsh_lit ?aq47 ?bq47 ?cq47 ?_; (case aq47 => decide); (case bq47 => decide +kernel); (case cq47 => exact rfl))))
  k_with "M subscriptTail Tuple Call ref int" => ((k_here; (with_reducible show wpAny _ _ (subscriptTail _ _ (Value.ref _) (Value.int _ _)) _ _ _); k_dflt (refine' item_tupP (P := fun n => (n != 1 && n != 4 && n != 5) = true) ?Nq48 ?mq48 ?iq48 ?pq48 ?fq48 ?aq48 ?bq48 ?_; (case Nq48 => k_asm); (case mq48 => k_extra "MINE mem"); (case iq48 => l_ints); (case pq48 => decide +kernel); (case fq48 => decide); (case aq48 => assumption); (case bq48 => first | assumption | (simp only [List.length_cons, List.length_nil]; omega))); intro r9 t9 hr9))
  k_with "M subscriptTail" => ((k_here; (with_reducible show wpAny _ _ (subscriptTail _ _ (Value.ref _) (Value.int _ _)) _ _ _); k_dflt (refine' item_tupP (P := fun n => (n != 1 && n != 4 && n != 5) = true) ?Nq49 ?mq49 ?iq49 ?pq49 ?fq49 ?aq49 ?bq49 ?_; (case Nq49 => k_asm); (case mq49 => k_extra "MINE mem"); (case iq49 => l_ints); (case pq49 => decide +kernel); (case fq49 => decide); (case aq49 => assumption); (case bq49 => first | assumption | (simp only [List.length_cons, List.length_nil]; omega))); intro r9 t9 hr9))
  k_with "MINE gotN" => ((intro v9 n9 h9 tk9 F9 N9 hp9; obtain ⟨o9, l9, t9, hv9, hn9, hw9, hl9⟩ := hp9; (first | (have hb9 := bent_sz (by assumption) hl9; obtain ⟨hz9, hy9⟩ := hb9) | (have hb9 := bent_128 (by assumption) hl9)); subst hn9 hv9; (try dsimp only); (try k_fold)))
  k_with "M call ref" => ((k_here; (with_reducible show wpAny _ _ (call (Value.ref 355) [Value.ref _, Value.bytes _ _]) _ _ _); k_dflt (refine' Fn.useP ?k1 ?k2 ?k3 ?k4 ?k5 ?kK ?kpq51 (fn_bent ?c1q51 ?c2q51 ?c3q51 ?c4q51) ?kd ?ku ?_; k_extra "MINE use"; (case kpq51 => k_extra "MINE pick"); (case c1q51 => assumption); (case c2q51 => first | assumption | exact WlAt.more (by assumption) (by k_extra "MINE sub")); (case c3q51 => k_all); (case c4q51 => first | exact Nat.le_trans (szL_len (by assumption)) (by decide) | exact Nat.le_trans (Nat.le_of_eq (by assumption)) (by decide))); k_extra "MINE gotN"))
  k_with "M call ref" => ((k_here; (with_reducible show wpAny _ _ (call (Value.ref 367) [Value.ref _, Value.int _ _]) _ _ _); k_dflt (refine' Fn.useP ?k1 ?k2 ?k3 ?k4 ?k5 ?kK ?kpq52 (fn_octetsI ?c1q52 ?c2q52 ?c3q52 ?c4q52 ?c5q52) ?kd ?ku ?_; k_extra "MINE use"; (case kpq52 => k_extra "MINE pick"); (case c1q52 => assumption); (case c2q52 => first | assumption | exact WlAt.more (by assumption) (by k_extra "MINE sub")); (case c3q52 => k_all); (case c4q52 => assumption); (case c5q52 => assumption)); k_extra "MINE gotU"))
  k_with "MINE t k_room" => (ktr_room)
  k_with "MINE t k_units" => (ktr_units)
  k_with "MINE t k_mem" => (first | with_reducible assumption | assumption | exact List.Mem.head _ | (refine' List.Mem.tail _ ?_; k_mem))
  k_with "MINE t k_all" => (first | assumption | exact cellNe (by assumption) (by k_extra "MINE sub") | exact List.forall_mem_nil _ | (refine' List.forall_mem_cons.mpr ⟨?aq56, ?bq56⟩; (case aq56 => first | k_ne | assumption); (case bq56 => k_all)))
  k_with "MINE t ktr_room" => (first | (refine' rm2 ?hq57 ?bq57; (case hq57 => assumption); (case bq57 => exact rfl)) | (refine' rm1 ?hq57 ?bq57; (case hq57 => assumption); (case bq57 => exact rfl)) | (refine' rm3 ?hq57 ?bq57; (case hq57 => assumption); (case bq57 => exact rfl)) | exact rm0 (by assumption) | fail "no room")
  k_with "MINE t ktr_units" => (first | (refine' rm2 ?hq58 ?bq58; (case hq58 => assumption); (case bq58 => exact rfl)) | (refine' rm1 ?hq58 ?bq58; (case hq58 => assumption); (case bq58 => exact rfl)) | (refine' rm3 ?hq58 ?bq58; (case hq58 => assumption); (case bq58 => exact rfl)) | exact rm0 (by assumption) | fail "no room")
  k_with "MINE t k_ne" => (with_reducible (first | assumption | exact Nat.ne_of_lt (by k_extra "MINE lt") | exact Nat.ne_of_gt (by k_extra "MINE lt") | exact Ne.symm (by assumption) | k_extra "MINE lt" | exact Ne.symm (by k_extra "MINE lt") | fail "not seen unlike"))
  trivial
abbrev DrawnB (w : World) (news : Led) (wa wl kd : Addr) (ks : List Int) (v : Value) (news' : Led) : Prop :=
  ∃ a o' ko' ks' ad l P D t1 t2 t3, v = .ref a ∧ news' = (a, drO ad t1 l t2 P t3 D) :: (wa, o') :: (kd, ko') :: news ∧ WellO wl o' ∧ DigO w ko' ks' ∧ DrR ks l ad P D ks'
theorem getD_all2 {P : Int → Bool} {ns : List Int} {k : Nat} (h : (ns.all P && P 0) = true) : P (ns.getD k 0) = true := by
  simp only [Bool.and_eq_true, List.all_eq_true] at h
  by_cases hk : k < ns.length
  · rw [List.getD_eq_getElem?_getD, List.getElem?_eq_getElem hk]
    exact h.1 _ (List.getElem_mem hk)
  · rw [List.getD_eq_getElem?_getD, List.getElem?_eq_none (by omega)]
    exact h.2
theorem bent_sz {l l' : List UInt8} (h : SzL l) (hb : Bent l l') : Sz l' ∧ l'.length ≤ 300 := ⟨sz_bent h hb, by have := bent_len hb; have := szL_len h; omega⟩
theorem bent_128 {l l' : List UInt8} (h : l.length = 128) (hb : Bent l l') : l'.length ≤ 300 := by have := bent_len hb; omega
theorem fn_octetsI {w : World} {news : Led} {wa wl : Addr} {o : Obj} {n : Int} {t : Tok} (ho : WellO wl o) (hw : WlAt news wl) (hne : ∀ q ∈ news, q.1 ≠ wa) (h0 : 0 ≤ n) (h1 : n < 71) :
    Fn w 20 80 367 ((wa, o) :: news) [.ref wa, .int n t] (fun v news' => ∃ o' l' t', v = .bytes (List.toArray l') t' ∧ news' = (wa, o') :: news ∧ WellO wl o' ∧ l'.length ≤ 300) := by
  have h := fn_octets (w := w) (n := n.toNat) (t := t) ho hw hne (by omega)
  rw [Int.toNat_of_nonneg h0] at h
  intro p loose mean mg mb dp un gd cn cs a ccd cl outer A₀ base h₀ L m hp₀ gs₀ dr₀ tk₀ os₀ Q E B F X N T hk hd hu hret
  exact h p loose mean mg mb dp un gd cn cs a ccd cl outer A₀ base h₀ L m hp₀ gs₀ dr₀ tk₀ os₀ Q E B F X N T hk hd hu (fun v news' h' tk' F' N' hp => by
    obtain ⟨o', l', t', e1, e2, e3, e4⟩ := hp
    exact hret v news' h' tk' F' N' ⟨o', l', t', e1, e2, e3, by omega⟩)
theorem fn_drawn {w : World} {news : Led} {dg kd wa wl ra : Addr} {o ko : Obj} {ks : List Int} (ho : WellO wl o) (hw : WlAt news wl) (hne : ∀ q ∈ news, q.1 ≠ wa) (hnk : ∀ q ∈ news, q.1 ≠ kd) (hwk : wa ≠ kd) (hkw : kd ≠ wa) (hr : RowsAt news ra)
    (hdg : DigAt w.params news dg kd) (hsy : (kd == sysModules) = false) (hdo : DigO w ko ks) (hks : ks.length ≤ 10) :
    Fn w 70 280 384 ((wa, o) :: (kd, ko) :: news) [.ref wa, .ref ra, .ref dg] (fun v news' => DrawnB w news wa wl kd ks v news') := by
  (unfold Fn; k_fill; intro pg loose mean mg mb dp un gd cn cs a ccd cl outer A₀ base h₀ L m hp₀ gs₀ dr₀ tk₀ os₀ Q E B F X N T hk hd hu hret; refine wpAny_call ?_; k_dflt ktr_enter; refine wp_let ?_; intro Ak)
  k_steps
  · refine' hret _ ((_, drO _ _ _ _ _ _ _) :: (wa, _) :: (kd, _) :: news) _ _ (by k_asm) (by refine cb_drop (by k_asm) ?_; k_extra "MINE sub") ?po1
    exact ⟨_, _, _, _, _, _, _, _, _, _, _, rfl, rfl, by assumption, by assumption, drR5 (by assumption) (by assumption) (by assumption)⟩
  · refine' hret _ ((_, drO _ _ _ _ _ _ _) :: (wa, _) :: (kd, _) :: news) _ _ (by k_asm) (by refine cb_drop (by k_asm) ?_; k_extra "MINE sub") ?po2
    exact ⟨_, _, _, _, _, _, _, _, _, _, _, rfl, rfl, by assumption, by assumption, drR1 (by assumption)⟩
  · refine' hret _ ((_, drO _ _ _ _ _ _ _) :: (wa, _) :: (kd, _) :: news) _ _ (by k_asm) (by refine cb_drop (by k_asm) ?_; k_extra "MINE sub") ?po3
    exact ⟨_, _, _, _, _, _, _, _, _, _, _, rfl, rfl, by assumption, by assumption, drR4 (by assumption) rfl⟩
  · refine' hret _ ((_, drO _ _ _ _ _ _ _) :: (wa, _) :: (kd, _) :: news) _ _ (by k_asm) (by refine cb_drop (by k_asm) ?_; k_extra "MINE sub") ?po4
    exact ⟨_, _, _, _, _, _, _, _, _, _, _, rfl, rfl, by assumption, by assumption, drR0 (by assumption) (getD_all2 (P := fun ad => ad != 1 && ad != 4 && ad != 5) (by decide +kernel))⟩
theorem lines_D9 : True := by
  w_top off
  k_with_none
  k_with "MINE len" => (((try simp only [List.length_append, List.length_take, List.length_drop, List.length_replicate, List.length_cons, List.length_nil, cutL_length, beL_length, leL_length, partL_length, KBa_byteArr_length, List.length_map, rangeKs_length] at *); omega))
  k_with "MINE num" => (first | omega | assumption | (simp only [Int.reduceToNat, Int.reducePow, Int.reduceMul, Int.fmod_eq_emod_of_nonneg, Int.reduceLE]; omega) | k_extra "MINE len")
  k_with "M call type:bytes" => ((k_here; (with_reducible show wpAny _ _ (call (Value.type "bytes") [Value.int _ _]) _ _ _); refine' bz_call ?h0q2 ?hNq2 ?_; (case h0q2 => k_extra "MINE num"); (case hNq2 => k_extra "MINE num"); intro _ _))
  k_with "M call builtin:len" => ((k_here; (with_reducible show wpAny _ _ (call (Value.builtin "len") [Value.bytes (List.toArray _) _]) _ _ _); refine' len_L ?h0q3 ?_; (case h0q3 => k_extra "MINE num"); intro _ _))
  k_with "M binaryOp Add bytes bytes" => ((k_here; (with_reducible show wpAny _ _ (binaryOp Operator.Add (Value.bytes (List.toArray _) _) (Value.bytes (List.toArray _) _)) _ _ _); refine' add_L ?h0q4 ?_; (case h0q4 => k_extra "MINE num"); intro _ _))
  k_with "M call ref" => ((k_here; (with_reducible show wpAny _ _ (call (Value.ref _) [Value.bytes (List.toArray _) _, Value.str _ _]) _ _ _); kfb_any; k_dflt (refine' from_big ?h1q5 ?h2q5 ?h3q5 ?_; (case h1q5 => k_asm); (case h2q5 => k_mem); (case h3q5 => k_extra "MINE num")); intro _ _))
  k_with "M subscriptTail" => ((k_here; (with_reducible show wpAny _ _ (subscriptTail _ (Expr.Slice _ _ none _) (Value.bytes (List.toArray _) _) (Value.ref _)) _ _ _); (with_reducible rename Fr _ _ _ _ => F'); (with_reducible rename News _ _ _ _ => N'); (first | (refine' slice_ab (s := ⟨_, _, _, _, _⟩) F' N' ?aq6 ?bq6 ?zq6 ?_; (case aq6 => k_extra "MINE num"); (case bq6 => k_extra "MINE num"); (case zq6 => k_extra "MINE num")) | (refine' slice_to (s := ⟨_, _, _, _, _⟩) F' N' ?bq6 ?zq6 ?_; (case bq6 => k_extra "MINE num"); (case zq6 => k_extra "MINE num")) | (refine' slice_from (s := ⟨_, _, _, _, _⟩) F' N' ?aq6 ?zq6 ?_; (case aq6 => k_extra "MINE num"); (case zq6 => k_extra "MINE num"))); intro _ _ _ F' N'))
  k_with "M call builtin:int.to_bytes" => ((k_here; (with_reducible show wpAny _ _ (call (Value.builtin "int.to_bytes") [Value.int _ _, Value.int _ _, Value.str _ _]) _ _ _); (first | (refine' to_bigI ?aq7 ?cq7 ?bq7 ?dq7 ?_; (case aq7 => k_extra "MINE num"); (case cq7 => k_extra "MINE num"); (case bq7 => k_extra "MINE num"); (case dq7 => k_extra "MINE fits")) | (refine' to_littleI ?aq7 ?cq7 ?bq7 ?dq7 ?_; (case aq7 => k_extra "MINE num"); (case cq7 => k_extra "MINE num"); (case bq7 => k_extra "MINE num"); (case dq7 => k_extra "MINE fits"))); intro _ _))
  k_with "MINE fits" => (first | assumption | exact fits_num (by assumption) | (simp only [Int.reduceToNat, Nat.reducePow]; omega) | (simp only [Int.reduceToNat, Nat.reducePow, Int.reducePow, Int.reduceMul, Int.fmod_eq_emod_of_nonneg, Int.reduceLE]; omega))
  k_with "MINE enter" => ((unfold Fn; k_fill; intro p loose mean mg mb dp un gd cn cs a ccd cl outer A₀ base h₀ L m hp₀ gs₀ dr₀ tk₀ os₀ Q E B F X N T hk hd hu hret; refine wpAny_call ?_; k_dflt ktr_enter))
  k_with "MINE use" => (((case k1 => k_asm); (case k2 => k_asm); (case k3 => k_asm); (case k4 => k_asm); (case k5 => k_asm); (case kK => first | exact rfl | assumption); (case kd => ktr_room); (case ku => ktr_units)))
  k_with "M call builtin:pow" => ((k_here; (with_reducible show wpAny _ _ (call (Value.builtin "pow") [Value.int _ _, Value.int _ _, Value.int _ _]) _ _ _); refine' pow3I ?aq11 ?bq11 ?_; (case aq11 => first | decide | k_extra "MINE num"); (case bq11 => first | decide | k_extra "MINE num"); intro _ _ _))
  k_with "MINE sub" => (first | (intro q hq; exact hq) | ((with_reducible refine' List.forall_mem_cons.mpr ⟨?aq12, ?bq12⟩); (case aq12 => k_mem); (case bq12 => k_extra "MINE sub")) | (intro q hq; (repeat (first | exact hq | refine List.mem_cons_of_mem _ ?_))))
  k_with "M call type:bytes" => ((k_here; (with_reducible show wpAny _ _ (call (Value.type "bytes") [Value.bytes _ _]) _ _ _); refine bb_call ?_))
  k_with "MINE pick" => ((repeat (first | exact Pick.head | apply Pick.tail)))
  k_with "M call builtin:max" => ((k_here; (with_reducible show wpAny _ _ (call (Value.builtin "max") [Value.int _ _, Value.int _ _]) _ _ _); k_dflt (refine' maxI ?hq15 ?Fq15 ?Nq15 ?_; (case hq15 => rfl); (case Fq15 => k_asm); (case Nq15 => k_asm)); intro _ _ _ F' N'; (try k_sweep)))
  k_with "M call builtin:min" => ((k_here; (with_reducible show wpAny _ _ (call (Value.builtin "min") [Value.int _ _, Value.int _ _]) _ _ _); k_dflt (refine' minI ?hq16 ?Fq16 ?Nq16 ?_; (case hq16 => rfl); (case Fq16 => k_asm); (case Nq16 => k_asm)); intro _ _ _ F' N'; (try k_sweep)))
  k_with "M call builtin:max" => ((k_here; (with_reducible show wpAny _ _ (call (Value.builtin "max") [Value.int _ _, Value.int _ _, Value.int _ _]) _ _ _); k_dflt (refine' max3I ?hq17 ?Fq17 ?Nq17 ?_; (case hq17 => rfl); (case Fq17 => k_asm); (case Nq17 => k_asm)); intro _ _ _ F' N'; (try k_sweep)))
  k_with "MINE subD" => ((intro q hq; exact List.mem_cons_of_mem _ hq))
  k_with "MINE steps" => (repeat' (first | (k_unfold; (try dsimp only)) | walk1 | (dsimp only; walk1) | (leave1; walk_say "STEP leave1"; try dsimp only) | fail "no step"))
  k_with "M callWith ref" => ((k_here; (with_reducible show wpAny _ _ (callWith _ (Value.ref (OfNat.ofNat _)) _ _ _) _ _ _); k_dflt (refine' callWith_K ?k1q20 ?k2q20 ?_; (case k1q20 => k_asm); (case k2q20 => k_is); k_whole)))
  k_with "M execs cons" => ((k_here; (try dsimp only); with_reducible refine tk_sum ?_; intro tk9; (try (with_reducible rename Fr _ _ _ _ => Fx9; refine fr_let Fx9 ?_; intro mK Fy9; clear Fx9)); (try k_extra "MINE led")))
  k_with "M execs nil" => ((k_here; (try dsimp only); with_reducible refine tk_sum ?_; intro tk9))
  k_with "MINE lt" => (first | assumption | exact And.left (by assumption) | exact And.left (And.right (by assumption)) | exact And.left (And.right (And.right (by assumption))) | exact And.left (And.right (And.right (And.right (by assumption)))) | exact And.left (And.right (And.right (And.right (And.right (by assumption))))) | exact And.left (And.right (And.right (And.right (And.right (And.right (by assumption)))))) | exact And.left (And.right (And.right (And.right (And.right (And.right (And.right (by assumption))))))) | exact And.left (And.right (And.right (And.right (And.right (And.right (And.right (And.right (by assumption)))))))) | exact And.left (And.right (And.right (And.right (And.right (And.right (And.right (And.right (And.right (by assumption))))))))) | exact And.right (by assumption) | exact And.right (And.right (by assumption)) | exact And.right (And.right (And.right (by assumption))) | fail "not seen less")
  k_with "MINE mul" => (first | ((with_reducible refine mulL ?_); decide) | ((with_reducible refine mulR ?_); decide) | ((with_reducible refine' mulRb ?_ ?_); (focus assumption); decide) | ((with_reducible refine' mulLb ?_ ?_); (focus assumption); decide) | ((with_reducible refine mulRm ?_); decide) | ((with_reducible refine mulLm ?_); decide) | fail "not seen small")
  k_with "M binaryOp Mult int int" => ((k_here; k_dflt (refine' PyProof.Rows.mul_int ?_ ?hmq25; rotate_left; (case hmq25 => k_extra "MINE mul"))))
  k_with "M newTuple" => ((k_here; kup_bare; k_dflt (refine' newTupleV ?Fq26 ?Nq26 ?_ ?zq26; (case Fq26 => k_asm); (case Nq26 => k_asm); (case zq26 => kmk_size)); intro D' h' F' N' l1; (try k_lt l1); (try k_sweep)))
  k_with "M eval Call" => (k_fold)
  k_with "M eval Tuple" => (k_fold)
  k_with "M eval BinOp" => (k_fold)
  k_with "M eval Subscript" => (k_fold)
  k_with "M eval IfExp" => (k_fold)
  k_with "M isTrue Compare" => (k_fold)
  k_with "M isTrue BoolOp" => (k_fold)
  k_with "M exec If" => (k_fold)
  k_with "M exec Return" => (k_fold)
  k_with "MINE gotO" => ((intro v9 n9 h9 tk9 F9 N9 hp9; unfold OutB at hp9; obtain ⟨a9, dx9, o9, t1, t2, t3, t4, t5, t6, t7, t8, hv9, hn9, hw9, hx9, hy9⟩ := hp9; subst hn9 hv9; (try dsimp only); (try k_fold)))
  k_with "M call ref" => ((k_here; (with_reducible show wpAny _ _ (call (Value.ref 280) [Value.int _ _, Value.bytes _ _, Value.int _ _, Value.ref _]) _ _ _); k_dflt (refine' Fn.useP ?k1 ?k2 ?k3 ?k4 ?k5 ?kK ?kpq37 (ans_no ?c1q37 ?c2q37 ?c3q37 ?c4q37 ?c5q37 ?c6q37) ?kd ?ku ?_; k_extra "MINE use"; (case c1q37 => assumption); (case kpq37 => k_extra "MINE pick"); (case c2q37 => k_all); (case c3q37 => first | assumption | exact SetAt.more (by assumption) (by k_extra "MINE sub")); (case c4q37 => assumption); (case c5q37 => first | assumption | omega); (case c6q37 => first | assumption | omega)); k_extra "MINE gotO"))
  k_with "MINE t k_room" => (ktr_room)
  k_with "MINE t k_units" => (ktr_units)
  k_with "MINE t k_mem" => (first | with_reducible assumption | assumption | exact List.Mem.head _ | (refine' List.Mem.tail _ ?_; k_mem))
  k_with "MINE t k_all" => (first | assumption | exact cellNe (by assumption) (by k_extra "MINE sub") | exact List.forall_mem_nil _ | (refine' List.forall_mem_cons.mpr ⟨?aq41, ?bq41⟩; (case aq41 => first | k_ne | assumption); (case bq41 => k_all)))
  k_with "MINE t ktr_room" => (first | (refine' rm2 ?hq42 ?bq42; (case hq42 => assumption); (case bq42 => exact rfl)) | (refine' rm1 ?hq42 ?bq42; (case hq42 => assumption); (case bq42 => exact rfl)) | (refine' rm3 ?hq42 ?bq42; (case hq42 => assumption); (case bq42 => exact rfl)) | exact rm0 (by assumption) | fail "no room")
  k_with "MINE t ktr_units" => (first | (refine' rm2 ?hq43 ?bq43; (case hq43 => assumption); (case bq43 => exact rfl)) | (refine' rm1 ?hq43 ?bq43; (case hq43 => assumption); (case bq43 => exact rfl)) | (refine' rm3 ?hq43 ?bq43; (case hq43 => assumption); (case bq43 => exact rfl)) | exact rm0 (by assumption) | fail "no room")
  k_with "MINE t k_ne" => (with_reducible (first | assumption | exact Nat.ne_of_lt (by k_extra "MINE lt") | exact Nat.ne_of_gt (by k_extra "MINE lt") | exact Ne.symm (by assumption) | k_extra "MINE lt" | exact Ne.symm (by k_extra "MINE lt") | fail "not seen unlike"))
  trivial
/-- the project's function answers at the price, and lacks gas below it -/
def AnsNo (w : World) (st dg cu kd : Addr) (ks : List Int) (l : List UInt8) (ad P : Int) : Prop :=
  ∀ (N : Led) (ko : Obj) (t1 t t2 : Tok) (g : Int), (∀ q ∈ N, q.1 ≠ kd) → SetAt w.params N st dg cu kd → DigO w ko ks → g < P → g ≤ 20000000 →
    Fn w 60 240 280 ((kd, ko) :: N) [.int ad t1, .bytes l.toArray t, .int g t2, .ref st] (fun v n' => OutB w kd N false 0 [] "gas" ks v n')
def AnsYes (w : World) (st dg cu kd : Addr) (ks : List Int) (l : List UInt8) (ad P : Int) (out : List UInt8) : Prop :=
  ∀ (N : Led) (ko : Obj) (t1 t t2 : Tok) (g : Int), (∀ q ∈ N, q.1 ≠ kd) → SetAt w.params N st dg cu kd → DigO w ko ks → P ≤ g → g ≤ 20000000 →
    Fn w 60 240 280 ((kd, ko) :: N) [.int ad t1, .bytes l.toArray t, .int g t2, .ref st] (fun v n' => OutB w kd N true (g - P) out "" ks v n')
theorem ans_no {w : World} {st dg cu kd : Addr} {ks : List Int} {l : List UInt8} {ad P : Int} {N : Led} {ko : Obj} {t1 t t2 : Tok} {g : Int} (h : AnsNo w st dg cu kd ks l ad P) (h1 : ∀ q ∈ N, q.1 ≠ kd) (h2 : SetAt w.params N st dg cu kd) (h3 : DigO w ko ks) (h4 : g < P) (h5 : g ≤ 20000000) :
    Fn w 60 240 280 ((kd, ko) :: N) [.int ad t1, .bytes l.toArray t, .int g t2, .ref st] (fun v n' => OutB w kd N false 0 [] "gas" ks v n') := h N ko t1 t t2 g h1 h2 h3 h4 h5
theorem ans_yes {w : World} {st dg cu kd : Addr} {ks : List Int} {l : List UInt8} {ad P : Int} {out : List UInt8} {N : Led} {ko : Obj} {t1 t t2 : Tok} {g : Int} (h : AnsYes w st dg cu kd ks l ad P out) (h1 : ∀ q ∈ N, q.1 ≠ kd) (h2 : SetAt w.params N st dg cu kd) (h3 : DigO w ko ks) (h4 : P ≤ g) (h5 : g ≤ 20000000) :
    Fn w 60 240 280 ((kd, ko) :: N) [.int ad t1, .bytes l.toArray t, .int g t2, .ref st] (fun v n' => OutB w kd N true (g - P) out "" ks v n') := h N ko t1 t t2 g h1 h2 h3 h4 h5
theorem ans5_no {w : World} {st dg cu kd : Addr} {ks : List Int} {l : List UInt8} {P : Int} (hl : l.length ≤ 300) (hz : Sz l) (hP : P ≤ prC l) : AnsNo w st dg cu kd ks l 5 P := by
  intro N ko t1 t t2 g h1 h2 h3 h4 h5
  have h := fn_pre5 (w := w) (t := t) (t1 := t1) (t2 := t2) (vst := .ref st) h1 h3 hl hz h5
  simp only [if_neg (show ¬ prC l ≤ g by omega)] at h
  exact h
theorem ans5_yes {w : World} {st dg cu kd : Addr} {ks : List Int} {l : List UInt8} (hl : l.length ≤ 300) (hz : Sz l) : AnsYes w st dg cu kd ks l 5 (prC l) (raO l) := by
  intro N ko t1 t t2 g h1 h2 h3 h4 h5
  have h := fn_pre5 (w := w) (t := t) (t1 := t1) (t2 := t2) (vst := .ref st) h1 h3 hl hz h5
  simp only [if_pos h4] at h
  exact h
theorem ans4_no {w : World} {st dg cu kd : Addr} {ks : List Int} {l : List UInt8} (hl : l.length ≤ 300) : AnsNo w st dg cu kd ks l 4 (15 + 3 * (((l.length + 31) / 32 : Nat) : Int)) := by
  intro N ko t1 t t2 g h1 h2 h3 h4 h5
  have h := fn_pre4 (w := w) (t := t) (t1 := t1) (t2 := t2) (g := g) (vst := .ref st) h1 h3 hl
  simp only [if_neg (show ¬ 15 + 3 * (((l.length + 31) / 32 : Nat) : Int) ≤ g by omega)] at h
  exact h
theorem ans4_yes {w : World} {st dg cu kd : Addr} {ks : List Int} {l : List UInt8} (hl : l.length ≤ 300) : AnsYes w st dg cu kd ks l 4 (15 + 3 * (((l.length + 31) / 32 : Nat) : Int)) l := by
  intro N ko t1 t t2 g h1 h2 h3 h4 h5
  have h := fn_pre4 (w := w) (t := t) (t1 := t1) (t2 := t2) (g := g) (vst := .ref st) h1 h3 hl
  simp only [if_pos h4] at h
  exact h
theorem ans1_no {w : World} {st dg cu kd : Addr} {ks : List Int} {l : List UInt8} (hl : l.length ≤ 300) (hks : ks.length ≤ 10) (hsy : (kd == sysModules) = false) : AnsNo w st dg cu kd ks l 1 3000 := by
  intro N ko t1 t t2 g h1 h2 h3 h4 h5
  have h := fn_pre1 (w := w) (t := t) (t1 := t1) (t2 := t2) (g := g) h2 h1 hsy h3 hks hl
  simp only [if_neg (show ¬ 3000 ≤ g by omega)] at h
  exact h
theorem ans1_yes {w : World} {st dg cu kd : Addr} {ks : List Int} {l : List UInt8} (hl : l.length ≤ 300) (hks : ks.length ≤ 9) (hsy : (kd == sysModules) = false) : AnsYes w st dg cu kd (sgK ks l) l 1 3000 (sgOut ks l) := by
  intro N ko t1 t t2 g h1 h2 h3 h4 h5
  have hk := sgK_len ks l
  have h := fn_pre1 (w := w) (t := t) (t1 := t1) (t2 := t2) (g := g) h2 h1 hsy h3 (by omega) hl
  obtain ⟨e1, e2⟩ := rc_again (ks := ks) (sg_rc l)
  simp only [if_pos h4, e1, e2] at h
  exact h
theorem prC_min (l : List UInt8) : 200 ≤ prC l := by
  unfold prC
  split
  · omega
  · split
    · omega
    · exact Int.le_max_left _ _
theorem fn_lacks {w : World} {news : Led} {st dg cu kd : Addr} {ko : Obj} {ks : List Int} {l : List UInt8} {t t1 t2 : Tok} {ad P g : Int} (hA : AnsNo w st dg cu kd ks l ad P) (hne : ∀ q ∈ news, q.1 ≠ kd) (hst : SetAt w.params news st dg cu kd) (hdo : DigO w ko ks) (hg : g < P) (hg2 : g ≤ 20000000) :
    Fn w 70 280 391 ((kd, ko) :: news) [.int ad t1, .bytes l.toArray t, .int g t2, .ref st] (fun v news' => v = .bool true ∧ ∃ ko', news' = (kd, ko') :: news ∧ DigO w ko' ks) := by
  (unfold Fn; k_fill; intro pg loose mean mg mb dp un gd cn cs a ccd cl outer A₀ base h₀ L m hp₀ gs₀ dr₀ tk₀ os₀ Q E B F X N T hk hd hu hret; refine wpAny_call ?_; k_dflt ktr_enter; refine wp_let ?_; intro Ak)
  k_steps
  · refine' hret _ ((kd, _) :: news) _ _ (by k_asm) (by refine cb_drop (by k_asm) ?_; k_extra "MINE sub") ?po1
    exact ⟨rfl, _, rfl, by assumption⟩
theorem lines_D10 : True := by
  w_top off
  k_with_none
  k_with "MINE len" => (((try simp only [List.length_append, List.length_take, List.length_drop, List.length_replicate, List.length_cons, List.length_nil, cutL_length, beL_length, leL_length, partL_length, KBa_byteArr_length, List.length_map, rangeKs_length] at *); omega))
  k_with "MINE num" => (first | omega | assumption | (simp only [Int.reduceToNat, Int.reducePow, Int.reduceMul, Int.fmod_eq_emod_of_nonneg, Int.reduceLE]; omega) | k_extra "MINE len")
  k_with "M call type:bytes" => ((k_here; (with_reducible show wpAny _ _ (call (Value.type "bytes") [Value.int _ _]) _ _ _); refine' bz_call ?h0q2 ?hNq2 ?_; (case h0q2 => k_extra "MINE num"); (case hNq2 => k_extra "MINE num"); intro _ _))
  k_with "M call builtin:len" => ((k_here; (with_reducible show wpAny _ _ (call (Value.builtin "len") [Value.bytes (List.toArray _) _]) _ _ _); refine' len_L ?h0q3 ?_; (case h0q3 => k_extra "MINE num"); intro _ _))
  k_with "M binaryOp Add bytes bytes" => ((k_here; (with_reducible show wpAny _ _ (binaryOp Operator.Add (Value.bytes (List.toArray _) _) (Value.bytes (List.toArray _) _)) _ _ _); refine' add_L ?h0q4 ?_; (case h0q4 => k_extra "MINE num"); intro _ _))
  k_with "M call ref" => ((k_here; (with_reducible show wpAny _ _ (call (Value.ref _) [Value.bytes (List.toArray _) _, Value.str _ _]) _ _ _); kfb_any; k_dflt (refine' from_big ?h1q5 ?h2q5 ?h3q5 ?_; (case h1q5 => k_asm); (case h2q5 => k_mem); (case h3q5 => k_extra "MINE num")); intro _ _))
  k_with "M subscriptTail" => ((k_here; (with_reducible show wpAny _ _ (subscriptTail _ (Expr.Slice _ _ none _) (Value.bytes (List.toArray _) _) (Value.ref _)) _ _ _); (with_reducible rename Fr _ _ _ _ => F'); (with_reducible rename News _ _ _ _ => N'); (first | (refine' slice_ab (s := ⟨_, _, _, _, _⟩) F' N' ?aq6 ?bq6 ?zq6 ?_; (case aq6 => k_extra "MINE num"); (case bq6 => k_extra "MINE num"); (case zq6 => k_extra "MINE num")) | (refine' slice_to (s := ⟨_, _, _, _, _⟩) F' N' ?bq6 ?zq6 ?_; (case bq6 => k_extra "MINE num"); (case zq6 => k_extra "MINE num")) | (refine' slice_from (s := ⟨_, _, _, _, _⟩) F' N' ?aq6 ?zq6 ?_; (case aq6 => k_extra "MINE num"); (case zq6 => k_extra "MINE num"))); intro _ _ _ F' N'))
  k_with "M call builtin:int.to_bytes" => ((k_here; (with_reducible show wpAny _ _ (call (Value.builtin "int.to_bytes") [Value.int _ _, Value.int _ _, Value.str _ _]) _ _ _); (first | (refine' to_bigI ?aq7 ?cq7 ?bq7 ?dq7 ?_; (case aq7 => k_extra "MINE num"); (case cq7 => k_extra "MINE num"); (case bq7 => k_extra "MINE num"); (case dq7 => k_extra "MINE fits")) | (refine' to_littleI ?aq7 ?cq7 ?bq7 ?dq7 ?_; (case aq7 => k_extra "MINE num"); (case cq7 => k_extra "MINE num"); (case bq7 => k_extra "MINE num"); (case dq7 => k_extra "MINE fits"))); intro _ _))
  k_with "MINE fits" => (first | assumption | exact fits_num (by assumption) | (simp only [Int.reduceToNat, Nat.reducePow]; omega) | (simp only [Int.reduceToNat, Nat.reducePow, Int.reducePow, Int.reduceMul, Int.fmod_eq_emod_of_nonneg, Int.reduceLE]; omega))
  k_with "MINE enter" => ((unfold Fn; k_fill; intro p loose mean mg mb dp un gd cn cs a ccd cl outer A₀ base h₀ L m hp₀ gs₀ dr₀ tk₀ os₀ Q E B F X N T hk hd hu hret; refine wpAny_call ?_; k_dflt ktr_enter))
  k_with "MINE use" => (((case k1 => k_asm); (case k2 => k_asm); (case k3 => k_asm); (case k4 => k_asm); (case k5 => k_asm); (case kK => first | exact rfl | assumption); (case kd => ktr_room); (case ku => ktr_units)))
  k_with "M call builtin:pow" => ((k_here; (with_reducible show wpAny _ _ (call (Value.builtin "pow") [Value.int _ _, Value.int _ _, Value.int _ _]) _ _ _); refine' pow3I ?aq11 ?bq11 ?_; (case aq11 => first | decide | k_extra "MINE num"); (case bq11 => first | decide | k_extra "MINE num"); intro _ _ _))
  k_with "MINE sub" => (first | (intro q hq; exact hq) | ((with_reducible refine' List.forall_mem_cons.mpr ⟨?aq12, ?bq12⟩); (case aq12 => k_mem); (case bq12 => k_extra "MINE sub")) | (intro q hq; (repeat (first | exact hq | refine List.mem_cons_of_mem _ ?_))))
  k_with "M call type:bytes" => ((k_here; (with_reducible show wpAny _ _ (call (Value.type "bytes") [Value.bytes _ _]) _ _ _); refine bb_call ?_))
  k_with "MINE pick" => ((repeat (first | exact Pick.head | apply Pick.tail)))
  k_with "M call builtin:max" => ((k_here; (with_reducible show wpAny _ _ (call (Value.builtin "max") [Value.int _ _, Value.int _ _]) _ _ _); k_dflt (refine' maxI ?hq15 ?Fq15 ?Nq15 ?_; (case hq15 => rfl); (case Fq15 => k_asm); (case Nq15 => k_asm)); intro _ _ _ F' N'; (try k_sweep)))
  k_with "M call builtin:min" => ((k_here; (with_reducible show wpAny _ _ (call (Value.builtin "min") [Value.int _ _, Value.int _ _]) _ _ _); k_dflt (refine' minI ?hq16 ?Fq16 ?Nq16 ?_; (case hq16 => rfl); (case Fq16 => k_asm); (case Nq16 => k_asm)); intro _ _ _ F' N'; (try k_sweep)))
  k_with "M call builtin:max" => ((k_here; (with_reducible show wpAny _ _ (call (Value.builtin "max") [Value.int _ _, Value.int _ _, Value.int _ _]) _ _ _); k_dflt (refine' max3I ?hq17 ?Fq17 ?Nq17 ?_; (case hq17 => rfl); (case Fq17 => k_asm); (case Nq17 => k_asm)); intro _ _ _ F' N'; (try k_sweep)))
  k_with "MINE subD" => ((intro q hq; exact List.mem_cons_of_mem _ hq))
  k_with "MINE steps" => (repeat' (first | (k_unfold; (try dsimp only)) | walk1 | (dsimp only; walk1) | (leave1; walk_say "STEP leave1"; try dsimp only) | fail "no step"))
  k_with "M callWith ref" => ((k_here; (with_reducible show wpAny _ _ (callWith _ (Value.ref (OfNat.ofNat _)) _ _ _) _ _ _); k_dflt (refine' callWith_K ?k1q20 ?k2q20 ?_; (case k1q20 => k_asm); (case k2q20 => k_is); k_whole)))
  k_with "M execs cons" => ((k_here; (try dsimp only); with_reducible refine tk_sum ?_; intro tk9; (try (with_reducible rename Fr _ _ _ _ => Fx9; refine fr_let Fx9 ?_; intro mK Fy9; clear Fx9)); (try k_extra "MINE led")))
  k_with "M execs nil" => ((k_here; (try dsimp only); with_reducible refine tk_sum ?_; intro tk9))
  k_with "MINE lt" => (first | assumption | exact And.left (by assumption) | exact And.left (And.right (by assumption)) | exact And.left (And.right (And.right (by assumption))) | exact And.left (And.right (And.right (And.right (by assumption)))) | exact And.left (And.right (And.right (And.right (And.right (by assumption))))) | exact And.left (And.right (And.right (And.right (And.right (And.right (by assumption)))))) | exact And.left (And.right (And.right (And.right (And.right (And.right (And.right (by assumption))))))) | exact And.left (And.right (And.right (And.right (And.right (And.right (And.right (And.right (by assumption)))))))) | exact And.left (And.right (And.right (And.right (And.right (And.right (And.right (And.right (And.right (by assumption))))))))) | exact And.right (by assumption) | exact And.right (And.right (by assumption)) | exact And.right (And.right (And.right (by assumption))) | fail "not seen less")
  k_with "MINE mul" => (first | ((with_reducible refine mulL ?_); decide) | ((with_reducible refine mulR ?_); decide) | ((with_reducible refine' mulRb ?_ ?_); (focus assumption); decide) | ((with_reducible refine' mulLb ?_ ?_); (focus assumption); decide) | ((with_reducible refine mulRm ?_); decide) | ((with_reducible refine mulLm ?_); decide) | fail "not seen small")
  k_with "M binaryOp Mult int int" => ((k_here; k_dflt (refine' PyProof.Rows.mul_int ?_ ?hmq25; rotate_left; (case hmq25 => k_extra "MINE mul"))))
  k_with "M newTuple" => ((k_here; kup_bare; k_dflt (refine' newTupleV ?Fq26 ?Nq26 ?_ ?zq26; (case Fq26 => k_asm); (case Nq26 => k_asm); (case zq26 => kmk_size)); intro D' h' F' N' l1; (try k_lt l1); (try k_sweep)))
  k_with "MINE gotW" => ((intro v9 n9 h9 tk9 F9 N9 hp9; obtain ⟨o9, r9, t9, hv9, hn9, hw9, hr9, hr9'⟩ := hp9; subst hn9 hv9; (try dsimp only); (try k_fold)))
  k_with "M call ref" => ((k_here; (with_reducible show wpAny _ _ (call (Value.ref 315) [Value.ref _, Value.int _ _]) _ _ _); k_dflt (refine' Fn.useP ?k1 ?k2 ?k3 ?k4 ?k5 ?kK ?kpq28 (fn_draw  ?c1q28 ?c2q28 ?c3q28 ?c4q28) ?kd ?ku ?_; k_extra "MINE use"; (case kpq28 => k_extra "MINE pick"); (case c1q28 => first | assumption | decide | omega); (case c2q28 => first | assumption | exact WlAt.more (by assumption) (by k_extra "MINE sub")); (case c3q28 => k_all); (case c4q28 => first | assumption | decide | omega)); k_extra "MINE gotW"))
  k_with "MINE cond" => (first | exact True.intro | ((try dsimp only [cP, cAnd]); (repeat' (first | exact True.intro | refine And.intro ?_ ?_)); all_goals first | k_extra "MINE mul" | mul_fits | decide | omega | assumption))
  k_with "M eval Tuple" => ((k_here; (with_reducible show wpAny _ _ (eval (Expr.Tuple (Expr.Constant (Const.int _) _ _ :: _) _ _) _) _ _ _); (try dsimp only); k_dflt (refine' pe_tupL ?Fq30 ?Nq30 ?fq30 ?hq30 ?lq30 ?cq30 ?_; (case Fq30 => k_asm); (case Nq30 => k_asm); (case fq30 => exact rfl); (case hq30 => exact rfl); (case lq30 => exact rfl); (case cq30 => k_extra "MINE cond")); intro a9 h9 vs9 tk9 F9 N9 l9 hi9; (have l9c := l9); (try k_lt l9); (try k_sweep); (try dsimp only)))
  k_with "M eval Tuple" => ((k_here; (with_reducible show wpAny _ _ (eval (Expr.Tuple (Expr.BinOp (Expr.Constant (Const.int _) _ _) _ _ _ :: _) _ _) _) _ _ _); (try dsimp only); k_dflt (refine' pe_tupL ?Fq31 ?Nq31 ?fq31 ?hq31 ?lq31 ?cq31 ?_; (case Fq31 => k_asm); (case Nq31 => k_asm); (case fq31 => exact rfl); (case hq31 => exact rfl); (case lq31 => exact rfl); (case cq31 => k_extra "MINE cond")); intro a9 h9 vs9 tk9 F9 N9 l9 hi9; (have l9c := l9); (try k_lt l9); (try k_sweep); (try dsimp only)))
  k_with "M eval Call" => (k_fold)
  k_with "M eval Tuple" => (k_fold)
  k_with "M eval BinOp" => (k_fold)
  k_with "M eval Subscript" => (k_fold)
  k_with "M eval IfExp" => (k_fold)
  k_with "MINE gotDr" => ((intro v9 n9 h9 tk9 F9 N9 hp9; obtain ⟨a9, o9, ko9, ks9, ad9, l9, P9, D9, t1, t2, t3, hv9, hn9, hw9, hd9, hr9⟩ := hp9; subst hn9 hv9; refine Stop.go ?_))
  k_with "M call ref" => ((k_here; (with_reducible show wpAny _ _ (call (Value.ref 384) [Value.ref _, Value.ref _, Value.ref _]) _ _ _); k_dflt (refine' Fn.use ?k1 ?k2 ?k3 ?k4 ?k5 ?kK (fn_drawn ?c1q38 ?c2q38 ?c3q38 ?c4q38 ?c5q38 ?c6q38 ?c7q38 ?c8q38 ?c9q38 ?c10q38 ?c11q38) ?kd ?ku ?_; k_extra "MINE use"; (case c1q38 => assumption); (case c2q38 => assumption); (case c3q38 => assumption); (case c4q38 => assumption); (case c5q38 => assumption); (case c6q38 => assumption); (case c7q38 => assumption); (case c8q38 => assumption); (case c9q38 => assumption); (case c10q38 => assumption); (case c11q38 => omega)); k_extra "MINE gotDr"))
  k_with "MINE gotN0" => ((intro v9 n9 h9 tk9 F9 N9 hp9; obtain ⟨hv9, hn9⟩ := hp9; subst hn9 hv9; (try dsimp only); (try k_fold)))
  k_with "MINE gotO" => ((intro v9 n9 h9 tk9 F9 N9 hp9; unfold OutB at hp9; obtain ⟨a9, dx9, o9, t1, t2, t3, t4, t5, t6, t7, t8, hv9, hn9, hw9, hx9, hy9⟩ := hp9; subst hn9 hv9; (try dsimp only); (try k_fold)))
  k_with "MINE gotLk" => ((intro v9 n9 h9 tk9 F9 N9 hp9; obtain ⟨hv9, ko9, hn9, hw9⟩ := hp9; subst hn9 hv9; (try dsimp only); (try k_fold)))
  k_with "M call ref" => ((k_here; (with_reducible show wpAny _ _ (call (Value.ref 280) [Value.int _ _, Value.bytes _ _, Value.int _ _, Value.ref _]) _ _ _); k_dflt (refine' Fn.use ?k1 ?k2 ?k3 ?k4 ?k5 ?kK (fn_pre0 ?c1q42) ?kd ?ku ?_; k_extra "MINE use"; (case c1q42 => assumption)); k_extra "MINE gotN0"))
  k_with "M call ref" => ((k_here; (with_reducible show wpAny _ _ (call (Value.ref 280) [Value.int _ _, Value.bytes _ _, Value.int _ _, Value.ref _]) _ _ _); k_dflt (refine' Fn.useP ?k1 ?k2 ?k3 ?k4 ?k5 ?kK ?kpq43 (ans_yes ?c1q43 ?c2q43 ?c3q43 ?c4q43 ?c5q43 ?c6q43) ?kd ?ku ?_; k_extra "MINE use"; (case c1q43 => assumption); (case kpq43 => k_extra "MINE pick"); (case c2q43 => k_all); (case c3q43 => first | assumption | exact SetAt.more (by assumption) (by k_extra "MINE sub")); (case c4q43 => assumption); (case c5q43 => exact menu_ge); (case c6q43 => exact menu_le (by assumption))); k_extra "MINE gotO"))
  k_with "M call ref" => ((k_here; (with_reducible show wpAny _ _ (call (Value.ref 391) [Value.int _ _, Value.bytes _ _, Value.int _ _, Value.ref _]) _ _ _); k_dflt (refine' Fn.useP ?k1 ?k2 ?k3 ?k4 ?k5 ?kK ?kpq44 (fn_lacks ?c1q44 ?c2q44 ?c3q44 ?c4q44 ?c5q44 ?c6q44) ?kd ?ku ?_; k_extra "MINE use"; (case c1q44 => assumption); (case kpq44 => k_extra "MINE pick"); (case c2q44 => k_all); (case c3q44 => first | assumption | exact SetAt.more (by assumption) (by k_extra "MINE sub")); (case c4q44 => assumption); (case c5q44 => first | assumption | omega); (case c6q44 => first | assumption | omega)); k_extra "MINE gotLk"))
  k_with "MINE t k_room" => (ktr_room)
  k_with "MINE t k_units" => (ktr_units)
  k_with "MINE t k_mem" => (first | with_reducible assumption | assumption | exact List.Mem.head _ | (refine' List.Mem.tail _ ?_; k_mem))
  k_with "MINE t k_all" => (first | assumption | exact cellNe (by assumption) (by k_extra "MINE sub") | exact List.forall_mem_nil _ | (refine' List.forall_mem_cons.mpr ⟨?aq48, ?bq48⟩; (case aq48 => first | k_ne | assumption); (case bq48 => k_all)))
  k_with "MINE t ktr_room" => (first | (refine' rm2 ?hq49 ?bq49; (case hq49 => assumption); (case bq49 => exact rfl)) | (refine' rm1 ?hq49 ?bq49; (case hq49 => assumption); (case bq49 => exact rfl)) | (refine' rm3 ?hq49 ?bq49; (case hq49 => assumption); (case bq49 => exact rfl)) | exact rm0 (by assumption) | fail "no room")
  k_with "MINE t ktr_units" => (first | (refine' rm2 ?hq50 ?bq50; (case hq50 => assumption); (case bq50 => exact rfl)) | (refine' rm1 ?hq50 ?bq50; (case hq50 => assumption); (case bq50 => exact rfl)) | (refine' rm3 ?hq50 ?bq50; (case hq50 => assumption); (case bq50 => exact rfl)) | exact rm0 (by assumption) | fail "no room")
  k_with "MINE t k_ne" => (with_reducible (first | assumption | exact Nat.ne_of_lt (by k_extra "MINE lt") | exact Nat.ne_of_gt (by k_extra "MINE lt") | exact Ne.symm (by assumption) | k_extra "MINE lt" | exact Ne.symm (by k_extra "MINE lt") | fail "not seen unlike"))
  trivial
theorem dr_cases {w : World} {st dg cu kd : Addr} {ks ks' : List Int} {l : List UInt8} {ad P : Int} {D : Value} (h : DrR ks l ad P D ks') (hks : ks.length ≤ 9) (hsy : (kd == sysModules) = false) :
    ks'.length ≤ ks.length + 1 ∧ ((P = -1 ∧ (ad ≠ 1 ∧ ad ≠ 4 ∧ ad ≠ 5)) ∨ (D = .none ∧ 10000000 < P ∧ AnsNo w st dg cu kd ks' l ad 10000001) ∨
      (∃ out t, D = .bytes (List.toArray out) t ∧ 0 ≤ P ∧ P ≤ 10000000 ∧ AnsNo w st dg cu kd ks' l ad P ∧ AnsYes w st dg cu kd ks' l ad P out)) := by
  rcases h with ⟨rfl, hl, hz, hr, rfl⟩ | ⟨rfl, hl, rfl, ⟨t, rfl⟩, rfl⟩ | ⟨rfl, hl, rfl, ⟨t, rfl⟩, rfl⟩ | ⟨ha, hl, rfl, ⟨t, rfl⟩, rfl⟩
  · refine ⟨by omega, ?_⟩
    rcases hr with ⟨h1, h2, rfl⟩ | ⟨h1, rfl, t, rfl⟩
    · exact .inr (.inl ⟨rfl, h1, ans5_no hl hz (by omega)⟩)
    · have := prC_min l
      exact .inr (.inr ⟨_, _, rfl, by omega, h1, ans5_no hl hz (by omega), ans5_yes hl hz⟩)
  · have h1 := sgK_len ks l
    exact ⟨h1, .inr (.inr ⟨_, _, rfl, by omega, by omega, ans1_no hl (by omega) hsy, ans1_yes hl hks hsy⟩)⟩
  · exact ⟨by omega, .inr (.inr ⟨_, _, rfl, by omega, by omega, ans4_no hl, ans4_yes hl⟩)⟩
  · exact ⟨by omega, .inl ⟨rfl, ha⟩⟩
theorem menu_is (k : Nat) : 0 ≤ ([0, 1, 4000] : List Int).getD k 0 ∧ ([0, 1, 4000] : List Int).getD k 0 ≤ 4000 := by
  rcases k with _ | _ | _ | k
  · decide
  · decide
  · decide
  · have e : ([0, 1, 4000] : List Int).getD (k + 1 + 1 + 1) 0 = 0 := rfl
    rw [e]; decide
theorem menu_ge {P : Int} {k : Nat} : P ≤ P + ([0, 1, 4000] : List Int).getD k 0 := by have := menu_is k; omega
theorem menu_le {P : Int} {k : Nat} (h : P ≤ 10000000) : P + ([0, 1, 4000] : List Int).getD k 0 ≤ 20000000 := by have := menu_is k; omega
theorem fn_is_right {w : World} {news : Led} {st dg cu kd wa wl ra : Addr} {o ko : Obj} {ks : List Int} (ho : WellO wl o) (hw : WlAt news wl) (hne : ∀ q ∈ news, q.1 ≠ wa) (hnk : ∀ q ∈ news, q.1 ≠ kd) (hwk : wa ≠ kd) (hkw : kd ≠ wa) (hr : RowsAt news ra)
    (hst : SetAt w.params news st dg cu kd) (hsy : (kd == sysModules) = false) (hdo : DigO w ko ks) (hks : ks.length ≤ 9) :
    Fn w 90 360 398 ((wa, o) :: (kd, ko) :: news) [.ref wa, .ref ra, .ref st] (fun v news' => v = .bool true ∧ ∃ o' ko' ks', news' = (wa, o') :: (kd, ko') :: news ∧ WellO wl o' ∧ DigO w ko' ks' ∧ ks'.length ≤ ks.length + 1) := by
  have hst9 := hst
  obtain ⟨⟨sd, u1, u2, u3, u4, u5, u6, u7, u8, hs1, hs2⟩, hcu, hdg⟩ := hst9
  (unfold Fn; k_fill; intro pg loose mean mg mb dp un gd cn cs a ccd cl outer A₀ base h₀ L m hp₀ gs₀ dr₀ tk₀ os₀ Q E B F X N T hk hd hu hret; refine wpAny_call ?_; k_dflt ktr_enter; refine wp_let ?_; intro Ak)
  k_steps
  delta Stop
  rename DrR _ _ _ _ _ _ => hD
  rename News _ _ _ _ => NN
  rename WellO _ _ => hW9
  rename DigO _ _ _ => hD9
  have hna := neWell hW9 NN (List.Mem.head _) (List.Mem.tail _ (List.Mem.head _)) (by intro h; injection h with h; revert h; decide)
  have hnd := neDig hD9 NN (List.Mem.head _) (List.Mem.tail _ (List.Mem.tail _ (List.Mem.head _))) rfl
  obtain ⟨hk9, hc⟩ := dr_cases (w := w) (st := st) (dg := dg) (cu := cu) (kd := kd) hD hks hsy
  rcases hc with ⟨rfl, had⟩ | ⟨rfl, hP, hA⟩ | ⟨out, t, rfl, hP0, hP1, hA, hY⟩
  all_goals (try dsimp only)
  all_goals (try k_fold)
  · k_steps
    · refine' hret _ ((wa, _) :: (kd, _) :: news) _ _ (by k_asm) (by refine cb_drop (by k_asm) ?_; k_extra "MINE sub") ?po1
      exact ⟨rfl, _, _, _, rfl, by assumption, by assumption, hk9⟩
  · k_steps
    · refine' hret _ ((wa, _) :: (kd, _) :: news) _ _ (by k_asm) (by refine cb_drop (by k_asm) ?_; k_extra "MINE sub") ?po2
      exact ⟨rfl, _, _, _, rfl, by assumption, by assumption, hk9⟩
  · k_steps
    · refine' hret _ ((wa, _) :: (kd, _) :: news) _ _ (by k_asm) (by refine cb_drop (by k_asm) ?_; k_extra "MINE sub") ?po3
      exact ⟨rfl, _, _, _, rfl, by assumption, by assumption, hk9⟩
    · exfalso
      rename ((Array.toList (List.toArray out) == Array.toList (List.toArray out)) = false) => hb
      rw [beq_self_eq_true] at hb
      cases hb
    · exfalso
      rename ¬ (_ - _ = _) => hb
      omega
theorem lines_D11 : True := by
  w_top off
  k_with_none
  k_with "MINE len" => (((try simp only [List.length_append, List.length_take, List.length_drop, List.length_replicate, List.length_cons, List.length_nil, cutL_length, beL_length, leL_length, partL_length, KBa_byteArr_length, List.length_map, rangeKs_length] at *); omega))
  k_with "MINE num" => (first | omega | assumption | (simp only [Int.reduceToNat, Int.reducePow, Int.reduceMul, Int.fmod_eq_emod_of_nonneg, Int.reduceLE]; omega) | k_extra "MINE len")
  k_with "M call type:bytes" => ((k_here; (with_reducible show wpAny _ _ (call (Value.type "bytes") [Value.int _ _]) _ _ _); refine' bz_call ?h0q2 ?hNq2 ?_; (case h0q2 => k_extra "MINE num"); (case hNq2 => k_extra "MINE num"); intro _ _))
  k_with "M call builtin:len" => ((k_here; (with_reducible show wpAny _ _ (call (Value.builtin "len") [Value.bytes (List.toArray _) _]) _ _ _); refine' len_L ?h0q3 ?_; (case h0q3 => k_extra "MINE num"); intro _ _))
  k_with "M binaryOp Add bytes bytes" => ((k_here; (with_reducible show wpAny _ _ (binaryOp Operator.Add (Value.bytes (List.toArray _) _) (Value.bytes (List.toArray _) _)) _ _ _); refine' add_L ?h0q4 ?_; (case h0q4 => k_extra "MINE num"); intro _ _))
  k_with "M call ref" => ((k_here; (with_reducible show wpAny _ _ (call (Value.ref _) [Value.bytes (List.toArray _) _, Value.str _ _]) _ _ _); kfb_any; k_dflt (refine' from_big ?h1q5 ?h2q5 ?h3q5 ?_; (case h1q5 => k_asm); (case h2q5 => k_mem); (case h3q5 => k_extra "MINE num")); intro _ _))
  k_with "M subscriptTail" => ((k_here; (with_reducible show wpAny _ _ (subscriptTail _ (Expr.Slice _ _ none _) (Value.bytes (List.toArray _) _) (Value.ref _)) _ _ _); (with_reducible rename Fr _ _ _ _ => F'); (with_reducible rename News _ _ _ _ => N'); (first | (refine' slice_ab (s := ⟨_, _, _, _, _⟩) F' N' ?aq6 ?bq6 ?zq6 ?_; (case aq6 => k_extra "MINE num"); (case bq6 => k_extra "MINE num"); (case zq6 => k_extra "MINE num")) | (refine' slice_to (s := ⟨_, _, _, _, _⟩) F' N' ?bq6 ?zq6 ?_; (case bq6 => k_extra "MINE num"); (case zq6 => k_extra "MINE num")) | (refine' slice_from (s := ⟨_, _, _, _, _⟩) F' N' ?aq6 ?zq6 ?_; (case aq6 => k_extra "MINE num"); (case zq6 => k_extra "MINE num"))); intro _ _ _ F' N'))
  k_with "M call builtin:int.to_bytes" => ((k_here; (with_reducible show wpAny _ _ (call (Value.builtin "int.to_bytes") [Value.int _ _, Value.int _ _, Value.str _ _]) _ _ _); (first | (refine' to_bigI ?aq7 ?cq7 ?bq7 ?dq7 ?_; (case aq7 => k_extra "MINE num"); (case cq7 => k_extra "MINE num"); (case bq7 => k_extra "MINE num"); (case dq7 => k_extra "MINE fits")) | (refine' to_littleI ?aq7 ?cq7 ?bq7 ?dq7 ?_; (case aq7 => k_extra "MINE num"); (case cq7 => k_extra "MINE num"); (case bq7 => k_extra "MINE num"); (case dq7 => k_extra "MINE fits"))); intro _ _))
  k_with "MINE fits" => (first | assumption | exact fits_num (by assumption) | (simp only [Int.reduceToNat, Nat.reducePow]; omega) | (simp only [Int.reduceToNat, Nat.reducePow, Int.reducePow, Int.reduceMul, Int.fmod_eq_emod_of_nonneg, Int.reduceLE]; omega))
  k_with "MINE enter" => ((unfold Fn; k_fill; intro p loose mean mg mb dp un gd cn cs a ccd cl outer A₀ base h₀ L m hp₀ gs₀ dr₀ tk₀ os₀ Q E B F X N T hk hd hu hret; refine wpAny_call ?_; k_dflt ktr_enter))
  k_with "MINE use" => (((case k1 => k_asm); (case k2 => k_asm); (case k3 => k_asm); (case k4 => k_asm); (case k5 => k_asm); (case kK => first | exact rfl | assumption); (case kd => ktr_room); (case ku => ktr_units)))
  k_with "M call builtin:pow" => ((k_here; (with_reducible show wpAny _ _ (call (Value.builtin "pow") [Value.int _ _, Value.int _ _, Value.int _ _]) _ _ _); refine' pow3I ?aq11 ?bq11 ?_; (case aq11 => first | decide | k_extra "MINE num"); (case bq11 => first | decide | k_extra "MINE num"); intro _ _ _))
  k_with "MINE sub" => (first | (intro q hq; exact hq) | ((with_reducible refine' List.forall_mem_cons.mpr ⟨?aq12, ?bq12⟩); (case aq12 => k_mem); (case bq12 => k_extra "MINE sub")) | (intro q hq; (repeat (first | exact hq | refine List.mem_cons_of_mem _ ?_))))
  k_with "M call type:bytes" => ((k_here; (with_reducible show wpAny _ _ (call (Value.type "bytes") [Value.bytes _ _]) _ _ _); refine bb_call ?_))
  k_with "MINE pick" => ((repeat (first | exact Pick.head | apply Pick.tail)))
  k_with "M call builtin:max" => ((k_here; (with_reducible show wpAny _ _ (call (Value.builtin "max") [Value.int _ _, Value.int _ _]) _ _ _); k_dflt (refine' maxI ?hq15 ?Fq15 ?Nq15 ?_; (case hq15 => rfl); (case Fq15 => k_asm); (case Nq15 => k_asm)); intro _ _ _ F' N'; (try k_sweep)))
  k_with "M call builtin:min" => ((k_here; (with_reducible show wpAny _ _ (call (Value.builtin "min") [Value.int _ _, Value.int _ _]) _ _ _); k_dflt (refine' minI ?hq16 ?Fq16 ?Nq16 ?_; (case hq16 => rfl); (case Fq16 => k_asm); (case Nq16 => k_asm)); intro _ _ _ F' N'; (try k_sweep)))
  k_with "M call builtin:max" => ((k_here; (with_reducible show wpAny _ _ (call (Value.builtin "max") [Value.int _ _, Value.int _ _, Value.int _ _]) _ _ _); k_dflt (refine' max3I ?hq17 ?Fq17 ?Nq17 ?_; (case hq17 => rfl); (case Fq17 => k_asm); (case Nq17 => k_asm)); intro _ _ _ F' N'; (try k_sweep)))
  k_with "MINE subD" => ((intro q hq; exact List.mem_cons_of_mem _ hq))
  k_with "MINE steps" => (repeat' (first | (k_unfold; (try dsimp only)) | walk1 | (dsimp only; walk1) | (leave1; walk_say "STEP leave1"; try dsimp only) | fail "no step"))
  k_with "M callWith ref" => ((k_here; (with_reducible show wpAny _ _ (callWith _ (Value.ref (OfNat.ofNat _)) _ _ _) _ _ _); k_dflt (refine' callWith_K ?k1q20 ?k2q20 ?_; (case k1q20 => k_asm); (case k2q20 => k_is); k_whole)))
  k_with "M execs cons" => ((k_here; (try dsimp only); with_reducible refine tk_sum ?_; intro tk9; (try (with_reducible rename Fr _ _ _ _ => Fx9; refine fr_let Fx9 ?_; intro mK Fy9; clear Fx9)); (try k_extra "MINE led")))
  k_with "M execs nil" => ((k_here; (try dsimp only); with_reducible refine tk_sum ?_; intro tk9))
  k_with "MINE lt" => (first | assumption | exact And.left (by assumption) | exact And.left (And.right (by assumption)) | exact And.left (And.right (And.right (by assumption))) | exact And.left (And.right (And.right (And.right (by assumption)))) | exact And.left (And.right (And.right (And.right (And.right (by assumption))))) | exact And.left (And.right (And.right (And.right (And.right (And.right (by assumption)))))) | exact And.left (And.right (And.right (And.right (And.right (And.right (And.right (by assumption))))))) | exact And.left (And.right (And.right (And.right (And.right (And.right (And.right (And.right (by assumption)))))))) | exact And.left (And.right (And.right (And.right (And.right (And.right (And.right (And.right (And.right (by assumption))))))))) | exact And.right (by assumption) | exact And.right (And.right (by assumption)) | exact And.right (And.right (And.right (by assumption))) | fail "not seen less")
  k_with "MINE mul" => (first | ((with_reducible refine mulL ?_); decide) | ((with_reducible refine mulR ?_); decide) | ((with_reducible refine' mulRb ?_ ?_); (focus assumption); decide) | ((with_reducible refine' mulLb ?_ ?_); (focus assumption); decide) | ((with_reducible refine mulRm ?_); decide) | ((with_reducible refine mulLm ?_); decide) | fail "not seen small")
  k_with "M binaryOp Mult int int" => ((k_here; k_dflt (refine' PyProof.Rows.mul_int ?_ ?hmq25; rotate_left; (case hmq25 => k_extra "MINE mul"))))
  k_with "M newTuple" => ((k_here; kup_bare; k_dflt (refine' newTupleV ?Fq26 ?Nq26 ?_ ?zq26; (case Fq26 => k_asm); (case Nq26 => k_asm); (case zq26 => kmk_size)); intro D' h' F' N' l1; (try k_lt l1); (try k_sweep)))
  k_with "MINE gotS" => ((intro v9 n9 h9 tk9 F9 N9 hp9; obtain ⟨st9, dg9, cu9, kd9, ko9, M9, hv9, hn9, hst9, hne9, hsy9, hdo9, hsb9⟩ := hp9; subst hn9 hv9; (try dsimp only); (try k_fold)))
  k_with "MINE gotW" => ((intro v9 n9 h9 tk9 F9 N9 hp9; obtain ⟨o9, r9, t9, hv9, hn9, hw9, hr9, hr9'⟩ := hp9; subst hn9 hv9; (try dsimp only); (try k_fold)))
  k_with "M call ref" => ((k_here; (with_reducible show wpAny _ _ (call (Value.ref 315) [Value.ref _, Value.int _ _]) _ _ _); k_dflt (refine' Fn.useP ?k1 ?k2 ?k3 ?k4 ?k5 ?kK ?kpq29 (fn_draw  ?c1q29 ?c2q29 ?c3q29 ?c4q29) ?kd ?ku ?_; k_extra "MINE use"; (case kpq29 => k_extra "MINE pick"); (case c1q29 => first | assumption | decide | omega); (case c2q29 => first | assumption | exact WlAt.more (by assumption) (by k_extra "MINE sub")); (case c3q29 => k_all); (case c4q29 => first | assumption | decide | omega)); k_extra "MINE gotW"))
  k_with "M eval Tuple" => (k_fold)
  k_with "M eval BinOp" => (k_fold)
  k_with "M eval Subscript" => (k_fold)
  k_with "M eval IfExp" => (k_fold)
  k_with "MINE gotMu" => ((intro v9 n9 h9 tk9 F9 N9 hp9; obtain ⟨ra9, hv9, hr9, hs9⟩ := hp9; subst hv9; refine Stop.go ?_))
  k_with "M call ref" => ((k_here; (with_reducible show wpAny _ _ (call (Value.ref 308) _) _ _ _); k_dflt (refine' Fn.use ?k1 ?k2 ?k3 ?k4 ?k5 ?kK (fn_lean_setting  ) ?kd ?ku ?_; k_extra "MINE use"); k_extra "MINE gotS"))
  k_with "M call ref" => ((k_here; (with_reducible show wpAny _ _ (call (Value.ref 329) _) _ _ _); k_dflt (refine' Fn.use ?k1 ?k2 ?k3 ?k4 ?k5 ?kK (fn_multiples  ) ?kd ?ku ?_; k_extra "MINE use"); k_extra "MINE gotMu"))
  k_with "M exec For Name Call cons nil" => ((k_here; (rename Fr _ _ _ _ => lF'); (with_unfolding_all refine' For_invVF lF' ?k1q37 ?k2q37 ?_; (case k1q37 => exact rfl); (case k2q37 => exact rfl); k_whole)))
  k_with "M pyIter ref" => ((k_here; (with_reducible show wpAny _ _ (pyIter (Value.ref _)) (fun it s₂ => LoopAtV _ _ _ _ _ _ _ _ _ it s₂) _ _); refine Stop.go ?_))
  k_with "M GrowEnd" => (refine Stop.go ?_)
  k_with "MINE gotIR" => ((intro v9 n9 h9 tk9 F9 N9 hp9; obtain ⟨hv9, o9, ko9, ks9, hn9, hw9, hd9, hk9⟩ := hp9; subst hn9 hv9; (try dsimp only); (try k_fold)))
  k_with "M call ref" => ((k_here; (with_reducible show wpAny _ _ (call (Value.ref 398) [Value.ref _, Value.ref _, Value.ref _]) _ _ _); k_dflt (refine' Fn.useP2 ?k1 ?k2 ?k3 ?k4 ?k5 ?kK ?kp1q41 ?kp2q41 (fn_is_right ?c1q41 ?c2q41 ?c3q41 ?c4q41 ?c5q41 ?c6q41 ?c7q41 ?c8q41 ?c9q41 ?c10q41 ?c11q41) ?kd ?ku ?_; k_extra "MINE use"; (case c9q41 => assumption); (case c5q41 => assumption); (case kp1q41 => k_extra "MINE pick"); (case kp2q41 => k_extra "MINE pick"); (case c1q41 => assumption); (case c2q41 => first | assumption | exact WlAt.more (by assumption) (by k_extra "MINE sub")); (case c3q41 => k_all); (case c4q41 => k_all); (case c6q41 => assumption); (case c7q41 => first | assumption | exact RowsAt.more (by assumption) (by k_extra "MINE sub")); (case c8q41 => first | assumption | exact SetAt.more (by assumption) (by k_extra "MINE sub")); (case c10q41 => assumption); (case c11q41 => omega)); k_extra "MINE gotIR"))
  k_with "MINE t k_room" => (ktr_room)
  k_with "MINE t k_units" => (ktr_units)
  k_with "MINE t k_mem" => (first | with_reducible assumption | assumption | exact List.Mem.head _ | (refine' List.Mem.tail _ ?_; k_mem))
  k_with "MINE t k_all" => (first | assumption | exact cellNe (by assumption) (by k_extra "MINE sub") | exact List.forall_mem_nil _ | (refine' List.forall_mem_cons.mpr ⟨?aq45, ?bq45⟩; (case aq45 => first | k_ne | assumption); (case bq45 => k_all)))
  k_with "MINE t ktr_room" => (first | (refine' rm2 ?hq46 ?bq46; (case hq46 => assumption); (case bq46 => exact rfl)) | (refine' rm1 ?hq46 ?bq46; (case hq46 => assumption); (case bq46 => exact rfl)) | (refine' rm3 ?hq46 ?bq46; (case hq46 => assumption); (case bq46 => exact rfl)) | exact rm0 (by assumption) | fail "no room")
  k_with "MINE t ktr_units" => (first | (refine' rm2 ?hq47 ?bq47; (case hq47 => assumption); (case bq47 => exact rfl)) | (refine' rm1 ?hq47 ?bq47; (case hq47 => assumption); (case bq47 => exact rfl)) | (refine' rm3 ?hq47 ?bq47; (case hq47 => assumption); (case bq47 => exact rfl)) | exact rm0 (by assumption) | fail "no room")
  k_with "MINE t k_ne" => (with_reducible (first | assumption | exact Nat.ne_of_lt (by k_extra "MINE lt") | exact Nat.ne_of_gt (by k_extra "MINE lt") | exact Ne.symm (by assumption) | k_extra "MINE lt" | exact Ne.symm (by k_extra "MINE lt") | fail "not seen unlike"))
  k_with "MINE t k_head" => (o_head (kHook Mine.hd.heap_1 [2, 3, 15, 17, 18, 20, 21, 29, 31, 32, 34, 35, 36, 38, 39, 41, 42, 43, 45, 46, 48, 49, 50, 51, 52, 53, 54, 57, 59, 60, 62, 63, 64, 71, 73, 74, 76, 77, 78, 79, 80, 81, 84, 86, 87, 89, 90, 91, 93, 94, 96, 97, 98, 100, 101, 103, 104, 105, 107, 108, 110, 111, 119, 121, 122, 124, 125, 126, 128, 129, 131, 132, 133, 135, 136, 138, 139, 140, 142, 143, 145, 146, 147, 149, 150, 152, 153, 154, 156, 157, 159, 160, 161, 162, 163, 164, 165, 168, 170, 171, 173, 174, 175, 177, 178, 180, 181, 182, 184, 185, 187, 188, 189, 191, 192, 194, 195, 196, 198, 199, 201, 202, 210, 212, 213, 215, 216, 217, 218, 219, 220, 221, 224, 226, 227, 229, 230, 231, 233, 234, 236, 237, 238, 240, 241, 243, 244, 245, 248, 249, 250, 252, 253, 255, 256, 257, 260, 261, 262, 265, 266, 267, 269, 270, 272, 273, 274, 276, 277, 279, 280, 288, 290, 291, 293, 294, 295, 296, 297, 298, 299, 302, 304, 305, 307, 308, 309, 311, 312, 314, 315, 316, 318, 319, 321, 322, 323, 325, 326, 328, 329, 330, 332, 333, 335, 336, 337, 339, 340, 342, 343, 344, 347, 348, 349, 351, 352, 354, 355, 356, 358, 359, 361, 362, 363, 366, 367, 368, 371, 372, 373, 376, 377, 378, 380, 381, 383, 384, 385, 387, 388, 390, 391, 392, 394, 395, 397, 398, 399, 402, 403] (fun _ => by kernel_rfl)))
  trivial
theorem Pick.sub2 {wa kd : Addr} {o ko : Obj} {l r1 r : Led} (P1 : Pick wa o l r1) (P2 : Pick kd ko r1 r) : ∀ q ∈ (wa, o) :: (kd, ko) :: r, q ∈ l := by
  intro q hq
  rcases List.mem_cons.mp hq with rfl | hq
  · exact P1.sub _ (List.Mem.head _)
  · exact P1.sub _ (List.Mem.tail _ (P2.sub _ hq))
theorem Fn.useP2 {w : World} {d u : Nat} {f wa kd : Addr} {o ko : Obj} {news r1 rest : Led} {vs : List Value} {Post : Value → Led → Prop}
    {p : Program} {loose : List Str} {mean : ExcName → Option Value} {mg mb : Str → Option Value}
    {dp un : Nat} {gd : Option (List Code)} {cn : Str} {cs : Scope} {a : Addr} {ccd : Value} {cl : List (Str × Addr)} {outer : List Env} {A₀ : Around} {base h₀ : Heap} {L : Addr} {m : Str → Option Value} {s : Shared} {Q E : Value → Shared → Prop}
    (B : Below A₀ base outer h₀) (F : Fr h₀ L s.heap m) (X : (Mine.hd.heap_1 w.params).In h₀) (N : News h₀ L s.heap news) (T : Top p loose mean mg mb h₀) (hk : cs.kind = .function) (P1 : Pick wa o news r1) (P2 : Pick kd ko r1 rest)
    (C : Fn w d u f ((wa, o) :: (kd, ko) :: rest) vs Post) (hd : dp + d < recursionLimit) (hu : un + u < cLine)
    (ret : ∀ v news' h' tk', Fr h₀ L h' m → News h₀ L h' news' → Post v news' → Q v { s with heap := h', toks := tk' }) :
    wpAny (model PySem.Challenge.rw_pq0401_01.row.prog w) (ktrTop dp un gd cn cs L a ccd cl outer) (call (.ref f) vs) Q E s :=
  Fn.use B F X (fun p hp => N p (P1.sub2 P2 p hp)) T hk C hd hu ret
def LawR (w : World) (wl wa kd : Addr) (R : Led) (i : Nat) (led : Led) : Prop := ∃ o ko ks, led = (wa, o) :: (kd, ko) :: R ∧ WellO wl o ∧ DigO w ko ks ∧ ks.length ≤ i
theorem lawR0 {w : World} {wl wa kd : Addr} {R : Led} {o ko : Obj} (_ : wa ≠ kd) (hW : WellO wl o) (hD : DigO w ko []) : LawR w wl wa kd R 0 ((wa, o) :: (kd, ko) :: R) := ⟨o, ko, [], rfl, hW, hD, Nat.le_refl _⟩
theorem fin.tw18335693853250842808 : True := trivial
theorem fin.tw10699407837109476802 : True := trivial
theorem fin.tw5846108543349505696 : True := trivial
theorem fin.tw17628183408451194143 : True := trivial
theorem fin.tw14578271805448956485 : True := trivial
theorem fin.tw14728723275428758510 : True := trivial
theorem fin.tw12669758225909598566 : True := trivial
theorem fin.tw2976117146107443816 : True := trivial
theorem fin.tw13898374239775968522 : True := trivial
theorem fin.tw3974152918291533672 : True := trivial
theorem fin.tw7716820226725407877 : True := trivial
theorem fin.tw10751089155417173751 : True := trivial
theorem fin.tw17164383140453370395 : True := trivial
theorem fin.tw11587955951900863698 : True := trivial
theorem fin.tw612862322836996645 : True := trivial
theorem fin.tw2415902012162501839 : True := trivial
theorem fin.tw15688172546075569117 : True := trivial
theorem fin.tw18387650150990424433 : True := trivial
theorem fin.tw6127190174262240918 : True := trivial
theorem fin.tw7976502392129159676 : True := trivial
theorem fin.tw6634307039904815820 : True := trivial
theorem fin.tw6232080684201472732 : True := trivial
theorem fin.tw11516484827268310834 : True := trivial
theorem fin.tw10875463905939285979 : True := trivial
theorem fin.tw3810570522144960214 : True := trivial
theorem fin.tw11151619158091525091 : True := trivial
theorem fin.tw480829909506669009 : True := trivial
theorem fin.tw11615019562542576733 : True := trivial
theorem fin.tw8018989035897545986 : True := trivial
theorem fin.tw5486226609284752418 : True := trivial
theorem fin.tw17416127249078093707 : True := trivial
theorem fin.tw11953781441336167498 : True := trivial
theorem fin.tw18295790063311454060 : True := trivial
theorem fin.tw14166196953294261902 : True := trivial
theorem fin.tw1249118550022496774 : True := trivial
theorem fin.tw12284014389350100970 : True := trivial
theorem fin.tw11039862389202566683 : True := trivial
theorem fin.tw11040825799340251285 : True := trivial
theorem fin.tw5102460946473063141 : True := trivial
theorem fin.tw6766580051018981234 : True := trivial
theorem fin.tw4868334931027891882 : True := trivial
theorem fin.tw17861066769153400444 : True := trivial
theorem fin.tw13467322939085005891 : True := trivial
theorem fin.tw8590288500278120515 : True := trivial
theorem fin.tw7249652514872940865 : True := trivial
theorem fin.tw16307707646766795581 : True := trivial
theorem fin.tw6766378078585498003 : True := trivial
theorem fin.tw13162651487661262736 : True := trivial
theorem fin.tw10936777179133785780 : True := trivial
theorem fin.tw2512408688544751470 : True := trivial
theorem fin.tw16252508478716706905 : True := trivial
theorem fin.tw8577089030196625639 : True := trivial
theorem fin.tw4898026214463823928 : True := trivial
theorem fin.tw11293339424137598113 : True := trivial
theorem fin.tw2617349483901765261 : True := trivial
theorem fin.tw7779959011674639804 : True := trivial
theorem fin.tw4769821431679368130 : True := trivial
theorem fin.tw7661832156752021035 : True := trivial
theorem fin.tw8656503046869711584 : True := trivial
theorem fin.tw12221555665107904926 : True := trivial
theorem fin.tw10383673109516279431 : True := trivial
theorem fin.tw16285329926789087883 : True := trivial
theorem fin.tw5098551885099359569 : True := trivial
theorem fin.tw783483362715066742 : True := trivial
theorem fin.tw3975253019698251321 : True := trivial
theorem fin.tw2367325634123391141 : True := trivial
theorem fin.tw16570786720924097770 : True := trivial
theorem fin.tw12448240930570709186 : True := trivial
theorem fin.tw2086631506510373192 : True := trivial
theorem fin.tw17784850919643140607 : True := trivial
theorem fin.tw12557769604369416430 : True := trivial
theorem fin.tw16906536467411238026 : True := trivial
theorem fin.tw2866121171748074186 : True := trivial
theorem fin.tw4171678462856256454 : True := trivial
theorem fin.tw888132650186811988 : True := trivial
theorem fin.tw10147658903529517814 : True := trivial
theorem fin.tw9735714214384596553 : True := trivial
theorem fin.tw14345562132136545540 : True := trivial
theorem fin.tw8569027658895312972 : True := trivial
theorem fin.tw16103849850496634939 : True := trivial
theorem fin.tw13177410634674063896 : True := trivial
theorem fin.tw5678346346211369953 : True := trivial
theorem fin.tw18120952765558271521 : True := trivial
theorem fin.tw4218790737952374519 : True := trivial
theorem fin.tw14830759852652495907 : True := trivial
theorem fin.tw4293786561075639285 : True := trivial
theorem fin.tw10891054232620793217 : True := trivial
theorem fin.tw16179699660827537140 : True := trivial
theorem fin.tw12135189313929291683 : True := trivial
theorem fin.tw17449020081951674710 : True := trivial
theorem fin.tw8269367382603917829 : True := trivial
theorem fin.tw1982079694162106894 : True := trivial
theorem fin.tw15989303212955285315 : True := trivial
theorem fin.tw884059145510264010 : True := trivial
theorem fin.tw17362494058136835672 : True := trivial
theorem fin.tw14574801432027512755 : True := trivial
theorem fin.tw16407147864228438881 : True := trivial
theorem fin.tw2910385600587045654 : True := trivial
theorem fin.tw15741700470354863883 : True := trivial
theorem fin.tw891787732878383699 : True := trivial
theorem fin.tw15566928917628492161 : True := trivial
theorem fin.tw5796354222422608987 : True := trivial
theorem fin.tw17963964198891936676 : True := trivial
theorem fin.tw3456623496861543869 : True := trivial
theorem fin.tw5293390819737331289 : True := trivial
theorem fin.tw6968583824967984638 : True := trivial
theorem fin.tw13093503161671486093 : True := trivial
theorem fin.tw12494888245299231016 : True := trivial
theorem fin.tw9218923581257491847 : True := trivial
theorem fin.tw17570709534508481193 : True := trivial
theorem fin.tw1535588207084551279 : True := trivial
theorem fin.tw3683778510129048087 : True := trivial
theorem fin.tw5071919506433949198 : True := trivial
theorem fin.tw10895054467252067526 : True := trivial
theorem fin.tw6381419901266130222 : True := trivial
theorem fin.tw13360279666012451719 : True := trivial
theorem fin.tw7470013935711676318 : True := trivial
theorem fin.tw5897612983314593646 : True := trivial
theorem fin.tw6435670951450185984 : True := trivial
theorem fin.tw15533503492667675913 : True := trivial
theorem fin.tw111200028466390044 : True := trivial
theorem fin.tw12550770813317053977 : True := trivial
theorem fin.tw5734618986648460908 : True := trivial
theorem fin.tw6707113841082798463 : True := trivial
theorem fin.tw1887099378405440850 : True := trivial
theorem fin.tw3356100899270023233 : True := trivial
theorem fin.tw11575174756993882273 : True := trivial
theorem fin.tw15564276425815640635 : True := trivial
theorem fin.tw9387745189664136937 : True := trivial
theorem fin.tw10098057777631523497 : True := trivial
theorem fin.tw17971676594858020690 : True := trivial
theorem fin.tw18230178534529381785 : True := trivial
theorem fin.tw15832999045522443761 : True := trivial
theorem fin.tw6454446336052903152 : True := trivial
theorem fin.tw14370480293751589867 : True := trivial
theorem fin.tw876206183137641144 : True := trivial
theorem fin.tw9997704412844104603 : True := trivial
theorem fin.tw17637551073024348614 : True := trivial
theorem fin.tw13724452099449386491 : True := trivial
theorem fin.tw17869975865946814897 : True := trivial
theorem fin.tw12212933522069011988 : True := trivial
theorem fin.tw3998398428148030388 : True := trivial
theorem fin.tw251868834278440796 : True := trivial
theorem fin.tw11414674201277728305 : True := trivial
theorem fin.tw807531904560671035 : True := trivial
theorem fin.tw4443050520305737185 : True := trivial
theorem fin.tw17260493314774615805 : True := trivial
theorem fin.tw10671828304227620169 : True := trivial
theorem fin.tw10242451874928486539 : True := trivial
theorem fin.tw7522001649326652513 : True := trivial
theorem fin.tw10925335251469727208 : True := trivial
theorem fin.tw4598667867955821814 : True := trivial
theorem fin.tw8383268338085895543 : True := trivial
theorem fin.tw3837020019201816242 : True := trivial
theorem fin.tw12355744275394475900 : True := trivial
theorem fin.tw13337293482115323266 : True := trivial
theorem fin.tw17933470926392208243 : True := trivial
theorem fin.tw16196181902256332553 : True := trivial
theorem fin.tw3222278782482380304 : True := trivial
theorem fin.tw757079261281740938 : True := trivial
theorem fin.tw12996517811204074000 : True := trivial
theorem fin.tw3028926083550364057 : True := trivial
theorem fin.tw11192643925408225281 : True := trivial
theorem fin.tw2608567993692976607 : True := trivial
theorem fin.tw17662344363894024548 : True := trivial
theorem fin.tw8668149382578428375 : True := trivial
theorem fin.tw9725021084223525626 : True := trivial
theorem fin.tw5402249366112354979 : True := trivial
theorem fin.tw1397303283331804279 : True := trivial
theorem fin.tw1635022588487117616 : True := trivial
theorem fin.tw16269368082590959529 : True := trivial
theorem fin.tw11154830654865731599 : True := trivial
theorem fin.tw4209717502836232480 : True := trivial
theorem fin.tw4719063310657182621 : True := trivial
theorem fin.tw12833947400113492166 : True := trivial
theorem fin.tw17067295170570645592 : True := trivial
theorem fin.tw12829507556594621215 : True := trivial
theorem fin.tw16205109500356779066 : True := trivial
theorem fin.tw12105171945263650130 : True := trivial
theorem fin.tw1422313219903470601 : True := trivial
theorem fin.tw12409915417874342407 : True := trivial
theorem fin.tw6388184931127306564 : True := trivial
theorem fin.tw7930893340574950883 : True := trivial
theorem fin.tw15344004072050561172 : True := trivial
theorem fin.tw17698704350827878285 : True := trivial
theorem fin.tw4950403968356008110 : True := trivial
theorem fin.tw10829458402184033698 : True := trivial
theorem fin.tw17430205856086898164 : True := trivial
theorem fin.tw14517287926952318261 : True := trivial
theorem fin.tw670465573061467203 : True := trivial
theorem fin.tw3263211703599914710 : True := trivial
theorem fin.tw12876116671307685997 : True := trivial
theorem fin.tw16115155874713506467 : True := trivial
theorem fin.tw1963134401048803436 : True := trivial
theorem fin.tw3268265519342814607 : True := trivial
theorem fin.tw1014637456484912126 : True := trivial
theorem fin.tw16510490156224867327 : True := trivial
theorem fin.tw1819255440876223710 : True := trivial
theorem fin.tw4788878847521262168 : True := trivial
theorem fin.tw15309079848183770524 : True := trivial
theorem fin.tw12180539936304867106 : True := trivial
theorem fin.tw13158425560686309300 : True := trivial
theorem fin.tw7995362448368537469 : True := trivial
theorem fin.tw14431720936831517352 : True := trivial
theorem fin.tw846297522682114974 : True := trivial
theorem fin.tw16889484823980962733 : True := trivial
theorem fin.tw2462912638960843985 : True := trivial
theorem fin.tw16109372258727991565 : True := trivial
theorem fin.tw8408514402456403777 : True := trivial
theorem fin.tw744865244796547220 : True := trivial
theorem fin.tw333583748066197110 : True := trivial
theorem fin.tw18195182924450695511 : True := trivial
theorem fin.tw7684487725183542926 : True := trivial
theorem fin.tw3112429581023547943 : True := trivial
theorem fin.tw7890596953891613788 : True := trivial
theorem fin.tw1951045429614898598 : True := trivial
theorem fin.tw452842511749404161 : True := trivial
theorem fin.tw11273041486466551846 : True := trivial
theorem fin.tw3004984022683251337 : True := trivial
theorem fin.tw12347537446847802165 : True := trivial
theorem fin.tw5901363791540438844 : True := trivial
theorem fin.tw14075178694198228753 : True := trivial
theorem fin.tw17041991840579044601 : True := trivial
theorem fin.tw6718411051458867188 : True := trivial
theorem fin.tw18373065035072037172 : True := trivial
theorem fin.tw4759752924163587094 : True := trivial
theorem fin.tw3125960719983571848 : True := trivial
theorem fin.tw14560573928864763818 : True := trivial
theorem fin.tw1976505206021243879 : True := trivial
theorem fin.tw7451905468542833597 : True := trivial
theorem fin.tw5776136370200156792 : True := trivial
theorem fin.tw10807920368746810246 : True := trivial
theorem fin.tw1921391257341544841 : True := trivial
theorem fin.tw8416529770105884409 : True := trivial
theorem fin.tw9472922817969101911 : True := trivial
theorem fin.tw17123178472405020103 : True := trivial
theorem fin.tw216489041496292469 : True := trivial
theorem fin.tw12977279227502587607 : True := trivial
theorem fin.tw3810338749695602999 : True := trivial
theorem fin.tw15473448878953726420 : True := trivial
theorem fin.tw17130245016438642246 : True := trivial
theorem fin.tw9746901515087519452 : True := trivial
theorem fin.tw17347454772498655404 : True := trivial
theorem fin.tw11079828417688620724 : True := trivial
theorem fin.tw7420950352456461681 : True := trivial
theorem fin.tw828056024939588000 : True := trivial
theorem fin.tw12567809125941998234 : True := trivial
theorem fin.tw11112386831996348380 : True := trivial
theorem fin.tw2236755162388048479 : True := trivial
theorem fin.tw9113340658982188547 : True := trivial
theorem fin.tw544173102793226557 : True := trivial
theorem fin.tw16656299143469825513 : True := trivial
theorem fin.tw1560641971993327685 : True := trivial
theorem fin.tw13814004702073501669 : True := trivial
theorem fin.tw1080700006314346644 : True := trivial
theorem fin.tw6144012678527597917 : True := trivial
theorem fin.tw12740692763255036000 : True := trivial
theorem fin.tw12711679700452659978 : True := trivial
theorem fin.tw2304379251839397102 : True := trivial
theorem fin.tw17821466097196317003 : True := trivial
theorem fin.tw13294311002278339166 : True := trivial
theorem fin.tw5011121235533021005 : True := trivial
theorem fin.tw8352470293576582857 : True := trivial
theorem fin.tw11061592194353771069 : True := trivial
theorem fin.tw11454252539852477091 : True := trivial
theorem fin.tw8272817396058243321 : True := trivial
theorem fin.tw3459265974087741279 : True := trivial
theorem fin.tw6956187926921108005 : True := trivial
theorem fin.tw9913140749668108558 : True := trivial
theorem fin.tw7380833856163905736 : True := trivial
theorem fin.tw8289400949097046189 : True := trivial
theorem fin.tw5647864574477489665 : True := trivial
theorem fin.tw4570111826955561243 : True := trivial
theorem fin.tw17801579834951734752 : True := trivial
theorem fin.tw17656766251404061198 : True := trivial
theorem fin.tw8919302590299486024 : True := trivial
theorem fin.tw380778119907437045 : True := trivial
theorem fin.tw6650461044873433052 : True := trivial
theorem fin.tw8399098705505230059 : True := trivial
theorem fin.tw4754365596532378047 : True := trivial
theorem fin.tw7055459427971326715 : True := trivial
theorem fin.tw11298980531735778240 : True := trivial
theorem fin.tw7675655780812522254 : True := trivial
theorem fin.tw11897717083992391400 : True := trivial
theorem fin.tw3762306804915933987 : True := trivial
theorem fin.tw1625080806587739848 : True := trivial
theorem fin.tw14333544728242365436 : True := trivial
theorem fin.tw14793013804824869981 : True := trivial
theorem fin.tw18105942590061964161 : True := trivial
theorem fin.tw3219395367539047628 : True := trivial
theorem fin.tw12118000046449163591 : True := trivial
theorem fin.tw4684940682943077961 : True := trivial
theorem fin.tw9746214513668125432 : True := trivial
theorem fin.tw16237762584071213788 : True := trivial
theorem fin.tw3404873503106905745 : True := trivial
theorem fin.tw9260378047223084069 : True := trivial
theorem fin.tw3105451386036433885 : True := trivial
theorem fin.tw17540074137200004976 : True := trivial
theorem fin.tw428092273266315144 : True := trivial
theorem fin.tw12876064707754696378 : True := trivial
theorem fin.tw6323506392446703087 : True := trivial
theorem fin.tw1893775799952434370 : True := trivial
theorem fin.tw15621619335703214680 : True := trivial
theorem fin.tw16401934584784274106 : True := trivial
theorem fin.tw2656788454239962097 : True := trivial
theorem fin.tw13815853411582834384 : True := trivial
theorem fin.tw6068950659093879613 : True := trivial
theorem fin.tw14497727239971306367 : True := trivial
theorem fin.tw7830629276484211593 : True := trivial
theorem fin.tw5320702786494000081 : True := trivial
theorem fin.tw6207176494656529804 : True := trivial
theorem fin.tw11336253725339858928 : True := trivial
theorem fin.tw9363291351745731410 : True := trivial
theorem fin.tw15149952090015108872 : True := trivial
theorem fin.tw4265850918314828415 : True := trivial
theorem fin.tw12464766053444552404 : True := trivial
theorem fin.tw14568449535678555946 : True := trivial
theorem fin.tw3506512066687448480 : True := trivial
theorem fin.tw13383306551100868464 : True := trivial
theorem fin.tw7929640520542984453 : True := trivial
theorem fin.tw8947099994592609211 : True := trivial
theorem fin.tw10874316729293906858 : True := trivial
theorem fin.tw2316539691658765527 : True := trivial
theorem fin.tw6498334528663615478 : True := trivial
theorem fin.tw15201286185872193147 : True := trivial
theorem fin.tw8643116662766533202 : True := trivial
theorem fin.tw799341379326975648 : True := trivial
theorem fin.tw8097746696377561657 : True := trivial
theorem fin.tw16540275574145912595 : True := trivial
theorem fin.tw8119881530291889089 : True := trivial
theorem fin.tw12141802397888321627 : True := trivial
theorem fin.tw6455845175183424153 : True := trivial
theorem fin.tw14856888987745899463 : True := trivial
theorem fin.tw18105285910621931680 : True := trivial
theorem fin.tw12751978205869830748 : True := trivial
theorem fin.tw10511823565363050587 : True := trivial
theorem fin.tw4879674094562380441 : True := trivial
theorem fin.tw4170516301191304579 : True := trivial
theorem fin.tw9357874355931990178 : True := trivial
theorem fin.tw4850563653402900910 : True := trivial
theorem fin.tw8330952907988395303 : True := trivial
theorem fin.tw17743408960866722510 : True := trivial
theorem fin.tw14814673180317915700 : True := trivial
theorem fin.tw9247658263007524724 : True := trivial
theorem fin.tw4878226113927451544 : True := trivial
theorem fin.tw8281523328739849912 : True := trivial
theorem fin.tw7613945582906998725 : True := trivial
theorem fin.tw4162185377826839926 : True := trivial
theorem fin.tw7000300075881102575 : True := trivial
theorem fin.tw9544026089342320630 : True := trivial
theorem fin.tw3599858809825778643 : True := trivial
theorem fin.tw4312942655851389009 : True := trivial
theorem fin.tw5115476493328737885 : True := trivial
theorem fin.tw982560976839675504 : True := trivial
theorem fin.tw13870153662132920491 : True := trivial
theorem fin.tw4040260094072895976 : True := trivial
theorem fin.tw17197158672614542318 : True := trivial
theorem fin.tw6667815254911646788 : True := trivial
theorem fin.tw12649782002744950493 : True := trivial
theorem fin.tw14838103818555229697 : True := trivial
theorem fin.tw5805905742469029177 : True := trivial
theorem fin.tw10599938827571368224 : True := trivial
theorem fin.tw13423622936843584764 : True := trivial
theorem fin.tw16229209127682248589 : True := trivial
theorem fin.tw4150395362813747672 : True := trivial
theorem fin.tw1544503264643628384 : True := trivial
theorem fin.tw7464520365038446508 : True := trivial
theorem fin.tw16496857829328116044 : True := trivial
theorem fin.tw12149302876761508202 : True := trivial
theorem fin.tw17719728818120068181 : True := trivial
theorem fin.tw6058378993454661626 : True := trivial
theorem fin.tw7803649310394182010 : True := trivial
theorem fin.tw4588413851689716618 : True := trivial
theorem fin.tw15459455144867644326 : True := trivial
theorem fin.tw357486453476387696 : True := trivial
set_option Elab.async true in
theorem fin : PySem.Challenge.rw_pq0401_01.Holds := by
  w_on
  o_law
  k_head
  (case hw => w_witness2)
  k_go0
  all_goals try k_fold
  k_steps
  delta Stop
  rename News _ _ _ _ => NN
  rename RowsAt _ _ => hr9
  rename ∀ q ∈ (_, _) :: _, q ∈ _ => hs9
  rename SetAt _ _ _ _ _ _ => hst9
  rename ∀ q ∈ _, Prod.fst q ≠ _ => hne9
  rename DigO _ _ _ => hdo9
  rename (_ == sysModules) = false => hsy9
  rename ∀ q ∈ [(_, _), (_, _), (_, _)], q ∈ _ => hsb9
  rename IntsAre _ (List.map _ (List.take 60 _)) => hI9
  rename _ < _ ∧ _ < _ => hlt9
  have hLL := law_ledger NN hs9 hr9 hst9 hne9 hdo9 hsb9 hI9 (Nat.ne_of_lt hlt9.1)
  obtain ⟨R, o, hW, hN, hWl, hn1, hn2, hwk, hkw, hR, hS⟩ := hLL
  clear NN hs9 hr9 hst9 hne9 hsb9 hI9
  k_steps
  · delta Stop
    rename Fr _ _ _ _ => lF
    rename News _ _ _ _ => lN
    rename WellO _ _ => hW2
    have m0 := lawR0 (R := R) hwk hW2 hdo9
    refine' for_grow (n := 2) (by rfl) (by assumption) (by decide) (by decide) lF (cb_drop lN (by k_extra "MINE sub")) m0 ?turn2 ?done2
    case turn2 =>
      intro i tt I yy ll news₁ h1 tk1 hi hRR hI lF1 lN1
      obtain ⟨o1, ko1, ks1, rfl, hW1, hD1, hk1⟩ := hRR
      have hI1 := hI _ (List.Mem.head _)
      have hI2 := hI _ (List.Mem.tail _ (List.Mem.head _))
      have hI3 := fun q hq => hI q (List.Mem.tail _ (List.Mem.tail _ hq))
      have hI4 := neN hI1
      have hI5 := neN hI2
      dsimp only at hI1 hI2 hI4 hI5
      (try k_fold)
      k_steps
      delta Stop
      rename News _ _ _ _ => lN2
      exact growNext (news₂ := (_, _) :: (_, _) :: R) (fun y hy => if_neg hy) (by assumption) lN2 (by k_mem) (by k_extra "MINE sub") (List.forall_mem_cons.mpr ⟨hI1, List.forall_mem_cons.mpr ⟨hI2, hI3⟩⟩) ⟨_, _, _, rfl, by assumption, by assumption, by omega⟩
    case done2 =>
      intro u news₁ h1 tk1 hRR lF1 lN1
      (try k_fold)
      k_steps
  · exfalso
    omega
  · delta Stop
    rename Fr _ _ _ _ => lF
    rename News _ _ _ _ => lN
    rename WellO _ _ => hW2
    have m0 := lawR0 (R := R) hwk hW2 hdo9
    refine' for_grow (n := 1) (by rfl) (by assumption) (by decide) (by decide) lF (cb_drop lN (by k_extra "MINE sub")) m0 ?turn1 ?done1
    case turn1 =>
      intro i tt I yy ll news₁ h1 tk1 hi hRR hI lF1 lN1
      obtain ⟨o1, ko1, ks1, rfl, hW1, hD1, hk1⟩ := hRR
      have hI1 := hI _ (List.Mem.head _)
      have hI2 := hI _ (List.Mem.tail _ (List.Mem.head _))
      have hI3 := fun q hq => hI q (List.Mem.tail _ (List.Mem.tail _ hq))
      have hI4 := neN hI1
      have hI5 := neN hI2
      dsimp only at hI1 hI2 hI4 hI5
      (try k_fold)
      k_steps
      delta Stop
      rename News _ _ _ _ => lN2
      exact growNext (news₂ := (_, _) :: (_, _) :: R) (fun y hy => if_neg hy) (by assumption) lN2 (by k_mem) (by k_extra "MINE sub") (List.forall_mem_cons.mpr ⟨hI1, List.forall_mem_cons.mpr ⟨hI2, hI3⟩⟩) ⟨_, _, _, rfl, by assumption, by assumption, by omega⟩
    case done1 =>
      intro u news₁ h1 tk1 hRR lF1 lN1
      (try k_fold)
      k_steps
end Mine
end
theorem PySem.Challenge.cw_pq0401_01_holds : PySem.Challenge.rw_pq0401_01.Holds :=
  Mine.fin
