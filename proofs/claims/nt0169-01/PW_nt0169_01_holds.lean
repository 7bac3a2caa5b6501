import PyProof.Rows.All
import Wide.All
import OpenK.AllK
import Wide.FinOn
import Lean
import PySem.Challenge.RW_nt0169_01
open PySem PySem.W PyProof.Rows
set_option Elab.async false
set_option rowWalk.seconds 0
namespace Mine
theorem kh.tw18041705412443217775 : True := trivial
def mark (n : Nat) : Nat := n
theorem mark_eq (_h : PySem.Challenge.rw_nt0169_01.Holds) (n : Nat) : mark n = n := rfl
set_option maxRecDepth 100000
set_option Elab.async true
set_option maxHeartbeats 0 in
theorem kh : mark 3 = 3 ∧ True := by
  simp (disch := (w_on; o_law; k_head; w_top off; fail)) only [mark_eq, and_true]
  w_top off
  rfl
set_option Elab.async false
end Mine
open PySem PySem.W PySem.Calls PySem.Spec PyProof.Rows
set_option Elab.async false
set_option maxRecDepth 100000
set_option maxHeartbeats 8000000
namespace Mine
abbrev MyTop (mean : ExcName → Option Value) (mg mb : PySem.Str → Option Value) (h : Heap) : Prop :=
  Top Mine.kh.view_1_40 (looseW Mine.kh.view_1_40 [Str.ofString "REACH", Str.ofString "RADICES", Str.ofString "parse_number"]) mean mg mb h
abbrev Ret (h₀ : Heap) (L : Addr) (m : PySem.Str → Option Value) (s : Shared) (Q : Value → Shared → Prop) (Post : Value → List (Addr × Obj) → Prop) : Prop :=
  ∀ (r : Value) (h' : Heap) (tk' : Nat) (news' : List (Addr × Obj)), Fr h₀ L h' m → News h₀ L h' news' → Post r news' → Q r { s with heap := h', toks := tk' }
def Ctr (f : Addr) (vs : List Value) (news : List (Addr × Obj)) (dN uN : Nat) (Post : Value → List (Addr × Obj) → Prop) : Prop :=
  ∀ (w : World) (mean : ExcName → Option Value) (mg mb : PySem.Str → Option Value) (dp un : Nat) (gd : Option (List Code)) (cn : PySem.Str) (cs : Scope) (a : Addr) (ccd : Value) (cl : List (PySem.Str × Addr)) (outer : List Env) (A₀ : Around) (base h₀ : Heap) (L : Addr) (m : PySem.Str → Option Value) (s : Shared) (Q E : Value → Shared → Prop),
    Below A₀ base outer h₀ → Fr h₀ L s.heap m → (Mine.kh.heap_1_39 w.params).In h₀ → News h₀ L s.heap news → MyTop mean mg mb h₀ → cs.kind = .function →
    dp + dN < recursionLimit → un + uN < cLine → Ret h₀ L m s Q Post →
      wpAny (model PySem.Challenge.rw_nt0169_01.row.prog w) (ktrTop dp un gd cn cs L a ccd cl outer) (call (.ref f) vs) Q E s
theorem use {f : Addr} {vs : List Value} {news : List (Addr × Obj)} {dN uN : Nat} {Post : Value → List (Addr × Obj) → Prop} (C : Ctr f vs news dN uN Post)
    {w : World} {mean : ExcName → Option Value} {mg mb : PySem.Str → Option Value} {dp un : Nat} {gd : Option (List Code)} {cn : PySem.Str} {cs : Scope} {a : Addr} {ccd : Value} {cl : List (PySem.Str × Addr)} {outer : List Env} {A₀ : Around} {base h₀ : Heap} {L : Addr} {m : PySem.Str → Option Value} {s : Shared} {Q E : Value → Shared → Prop}
    (B : Below A₀ base outer h₀) (F : Fr h₀ L s.heap m) (X : (Mine.kh.heap_1_39 w.params).In h₀) (N : News h₀ L s.heap news) (T : MyTop mean mg mb h₀) (hk : cs.kind = .function)
    (hd : dp + dN < recursionLimit) (hu : un + uN < cLine) (hr : Ret h₀ L m s Q Post) :
    wpAny (model PySem.Challenge.rw_nt0169_01.row.prog w) (ktrTop dp un gd cn cs L a ccd cl outer) (call (.ref f) vs) Q E s :=
  C _ _ _ _ _ _ _ _ _ _ _ _ _ _ _ _ _ _ _ _ _ B F X N T hk hd hu hr

example : (Mine.kh.heap_1_39 = Mine.kh.heap_1_39) ∧ (PySem.Challenge.rw_nt0169_01 = PySem.Challenge.rw_nt0169_01) := by
  w_top off
  k_fill
  exact ⟨rfl, rfl⟩
theorem news_sub {h₀ h : Heap} {L : Addr} {news news' : List (Addr × Obj)} (N : News h₀ L h news') (hs : ∀ p ∈ news, p ∈ news') : News h₀ L h news := fun p hp => N p (hs p hp)
def PInt (news : List (Addr × Obj)) (x : Int) (r : Value) (n' : List (Addr × Obj)) : Prop := news = n' ∧ ∃ t, r = .int x t
def PBool (news : List (Addr × Obj)) (x : Bool) (r : Value) (n' : List (Addr × Obj)) : Prop := news = n' ∧ r = .bool x
def PStr (news : List (Addr × Obj)) (x : PySem.Str) (r : Value) (n' : List (Addr × Obj)) : Prop := news = n' ∧ ∃ t, r = .str x t
def PNone (news : List (Addr × Obj)) (r : Value) (n' : List (Addr × Obj)) : Prop := news = n' ∧ r = .none
def PReal (news : List (Addr × Obj)) (m e : Int) (r : Value) (n' : List (Addr × Obj)) : Prop := ∃ x dx h1 h2 t1 t2 t3 t4, r = .ref x ∧ n' = (x, instObj 70 dx) :: (dx, dictOf [⟨h1, .str (Str.ofString "mantissa") t1, .int m t3⟩, ⟨h2, .str (Str.ofString "exponent") t2, .int e t4⟩] 2) :: news ∧ AllLt dx news ∧ @LT.lt Nat _ dx x
section
variable {h₀ h' : Heap} {L : Addr} {m : PySem.Str → Option Value} {s : Shared} {Q : Value → Shared → Prop} {news news' : List (Addr × Obj)} {t : Tok} {tk' : Nat}
theorem end_int {x y : Int} (hret : Ret h₀ L m s Q (PInt news x)) (e : y = x) (F : Fr h₀ L h' m) (N : News h₀ L h' news') (hs : ∀ p ∈ news, p ∈ news') : Q (.int y t) { s with heap := h', toks := tk' } :=
  hret _ _ _ _ F (news_sub N hs) ⟨rfl, t, by rw [e]⟩
theorem end_bool {x y : Bool} (hret : Ret h₀ L m s Q (PBool news x)) (e : y = x) (F : Fr h₀ L h' m) (N : News h₀ L h' news') (hs : ∀ p ∈ news, p ∈ news') : Q (.bool y) { s with heap := h', toks := tk' } :=
  hret _ _ _ _ F (news_sub N hs) ⟨rfl, by rw [e]⟩
theorem end_str {x y : PySem.Str} (hret : Ret h₀ L m s Q (PStr news x)) (e : y = x) (F : Fr h₀ L h' m) (N : News h₀ L h' news') (hs : ∀ p ∈ news, p ∈ news') : Q (.str y t) { s with heap := h', toks := tk' } :=
  hret _ _ _ _ F (news_sub N hs) ⟨rfl, t, by rw [e]⟩
theorem end_none (hret : Ret h₀ L m s Q (PNone news)) (F : Fr h₀ L h' m) (N : News h₀ L h' news') (hs : ∀ p ∈ news, p ∈ news') : Q .none { s with heap := h', toks := tk' } :=
  hret _ _ _ _ F (news_sub N hs) ⟨rfl, rfl⟩
theorem end_real {x y x' y' h1 h2 : Int} {a dx : Addr} {t1 t2 t3 t4 : Tok} (hret : Ret h₀ L m s Q (PReal news x y)) (F : Fr h₀ L h' m) (N : News h₀ L h' news') (e1 : x' = x) (e2 : y' = y)
    (i1 : (a, instObj 70 dx) ∈ news') (i2 : (dx, dictOf [⟨h1, .str (Str.ofString "mantissa") t1, .int x' t3⟩, ⟨h2, .str (Str.ofString "exponent") t2, .int y' t4⟩] 2) ∈ news') (hs : ∀ p ∈ news, p ∈ news') (l1 : AllLt dx news) (l2 : @LT.lt Nat _ dx a) : Q (.ref a) { s with heap := h', toks := tk' } := by
  subst e1; subst e2
  refine hret _ _ _ ((a, instObj 70 dx) :: (dx, dictOf [⟨h1, .str (Str.ofString "mantissa") t1, .int x' t3⟩, ⟨h2, .str (Str.ofString "exponent") t2, .int y' t4⟩] 2) :: news) F (news_sub N ?_) ⟨a, dx, h1, h2, t1, t2, t3, t4, rfl, rfl, l1, l2⟩
  intro p hp
  rcases List.mem_cons.mp hp with rfl | hp
  · exact i1
  rcases List.mem_cons.mp hp with rfl | hp
  · exact i2
  exact hs p hp
end
def iabs (a : Int) : Int := if a < 0 then -a else a
def bl (n : Int) : Int := (Builtin.Int.intBits (iabs n) : Nat)
def sgn (n : Int) : Int := b2i (decide (0 < n)) - b2i (decide (n < 0))
def tz (n : Int) : Int := (Builtin.Int.intBits (Builtin.bitAnd n (0 - n)) : Nat) - 1
def near (n g : Int) : Int :=
  if 1 * 2 ^ (g - 1).toNat < Builtin.bitAnd n (1 * 2 ^ g.toNat - 1) ∨ (Builtin.bitAnd n (1 * 2 ^ g.toNat - 1) = 1 * 2 ^ (g - 1).toNat ∧ Builtin.bitAnd (n.fdiv (2 ^ g.toNat)) 1 = 1) then n.fdiv (2 ^ g.toNat) + 1 else n.fdiv (2 ^ g.toNat)
def sticky (n : Int) (b : Bool) : Int := 2 * n + (if b = true then 1 else 0)
def leanM (n : Int) : Int := if n = 0 then 0 else n.fdiv (2 ^ (tz n).toNat)
def leanE (n e : Int) : Int := if n = 0 then 0 else e + tz n
def shM (p n : Int) : Int := if bl n - p ≤ 0 then leanM n else leanM (sgn n * near (iabs n) (bl n - p))
def shE (p n e : Int) : Int := if bl n - p ≤ 0 then leanE n e else leanE (sgn n * near (iabs n) (bl n - p)) (e + (bl n - p))
def rdN (p x y : Int) : Int := if 0 ≤ p + 2 + bl y - bl x then sgn x * sticky ((iabs x * 2 ^ (p + 2 + bl y - bl x).toNat).fdiv y) ((iabs x * 2 ^ (p + 2 + bl y - bl x).toNat).fmod y != 0) else sgn x * sticky ((iabs x).fdiv (y * 2 ^ (0 - (p + 2 + bl y - bl x)).toNat)) ((iabs x).fmod (y * 2 ^ (0 - (p + 2 + bl y - bl x)).toNat) != 0)
def rdM (p x y : Int) : Int := if x = 0 then 0 else shM p (rdN p x y)
def rdE (p x y : Int) : Int := if x = 0 then 0 else shE p (rdN p x y) (0 - (p + 2 + bl y - bl x) - 1)
def LeanOk (n e : Int) : Prop := -65536 ≤ bl n + e ∧ bl n + e ≤ 65536 ∧ (n = 0 ∨ 0 ≤ tz n)
def ShrOk (p n e : Int) : Prop := -1 ≤ sgn n ∧ sgn n ≤ 1 ∧ bl n - p ≤ 50000 ∧ (bl n - p ≤ 0 → LeanOk n e) ∧ (¬ bl n - p ≤ 0 → LeanOk (sgn n * near (iabs n) (bl n - p)) (e + (bl n - p)))
def RndOk (p x y : Int) : Prop := y ≠ 0 ∧ y.natAbs.log2 < 9000 ∧
  (x ≠ 0 → 0 ≤ p + 2 + bl y - bl x → (Builtin.Int.intBits (iabs x) : Int) + (p + 2 + bl y - bl x) ≤ 2 ^ 27 ∧ ShrOk p (sgn x * sticky ((iabs x * 2 ^ (p + 2 + bl y - bl x).toNat).fdiv y) ((iabs x * 2 ^ (p + 2 + bl y - bl x).toNat).fmod y != 0)) (0 - (p + 2 + bl y - bl x) - 1)) ∧
  (x ≠ 0 → ¬ 0 ≤ p + 2 + bl y - bl x → (Builtin.Int.intBits y : Int) + (0 - (p + 2 + bl y - bl x)) ≤ 2 ^ 27 ∧ y * 2 ^ (0 - (p + 2 + bl y - bl x)).toNat ≠ 0 ∧ (y * 2 ^ (0 - (p + 2 + bl y - bl x)).toNat).natAbs.log2 < 9000 ∧ ShrOk p (sgn x * sticky ((iabs x).fdiv (y * 2 ^ (0 - (p + 2 + bl y - bl x)).toNat)) ((iabs x).fmod (y * 2 ^ (0 - (p + 2 + bl y - bl x)).toNat) != 0)) (0 - (p + 2 + bl y - bl x) - 1))
theorem pr_dec {c P Q : Prop} [Decidable c] (h : c) (hp : P) : if decide c = true then P else Q := by rw [if_pos (decide_eq_true h)]; exact hp
theorem pr_ndec {c P Q : Prop} [Decidable c] (h : ¬ c) (hq : Q) : if decide c = true then P else Q := by rw [if_neg (by rw [decide_eq_true_eq]; exact h)]; exact hq
theorem pr_ieq {x y : Int} {P Q : Prop} (h : x = y) (hp : P) : if (x == y) = true then P else Q := by rw [if_pos (by simp [h])]; exact hp
theorem pr_nieq {x y : Int} {P Q : Prop} (h : ¬ x = y) (hq : Q) : if (x == y) = true then P else Q := by rw [if_neg (by simpa using h)]; exact hq
theorem pr_ine {x y : Int} {P Q : Prop} (h : ¬ x = y) (hp : P) : if (x != y) = true then P else Q := by rw [if_pos (by simpa using h)]; exact hp
theorem pr_nine {x y : Int} {P Q : Prop} (h : x = y) (hq : Q) : if (x != y) = true then P else Q := by rw [if_neg (by simp [h])]; exact hq
theorem pr_seq {x y : PySem.Str} {P Q : Prop} (h : x = y) (hp : P) : if (x == y) = true then P else Q := by rw [if_pos (by simp [h])]; exact hp
theorem pr_nseq {x y : PySem.Str} {P Q : Prop} (h : ¬ x = y) (hq : Q) : if (x == y) = true then P else Q := by rw [if_neg (by simpa using h)]; exact hq
theorem pr_b {b : Bool} {P Q : Prop} (h : b = true) (hp : P) : if b = true then P else Q := by rw [if_pos h]; exact hp
theorem pr_nb {b : Bool} {P Q : Prop} (h : b = false) (hq : Q) : if b = true then P else Q := by rw [if_neg (by simp [h])]; exact hq
theorem sgn_le (n : Int) : -1 ≤ sgn n ∧ sgn n ≤ 1 := by unfold sgn b2i; split <;> split <;> lia
theorem iabs_le {x : Int} (h1 : -65536 ≤ x) (h2 : x ≤ 65536) : iabs x ≤ 65536 := by unfold iabs; split <;> lia
theorem call_iabs {prog : Program} {w : World} {A : Around} {E : Value → Shared → Prop} {s : Shared} {a : Int} {t : Tok} {Q : Value → Shared → Prop} (h : ∀ u tk, Q (.int (iabs a) u) { s with toks := tk }) : wpAny (model prog w) A (call (.builtin "abs") [.int a t]) Q E s := call_abs_int h
local macro_rules | `(tactic| walk_at "ite") => `(tactic| (k_here; k_openite; first | refine pr_dec (by assumption) ?_ | refine pr_ndec (by assumption) ?_ | refine pr_ieq (by assumption) ?_ | refine pr_nieq (by assumption) ?_ | refine pr_ine (by assumption) ?_ | refine pr_nine (by assumption) ?_ | refine pr_seq (by assumption) ?_ | refine pr_nseq (by assumption) ?_ | refine pr_b (by assumption) ?_ | refine pr_nb (by assumption) ?_))
local macro_rules | `(tactic| k_room) => `(tactic| ktr_room)
theorem c_size_of (n : Int) (t : Tok) (news : List (Addr × Obj)) : Ctr 81 [.int n t] news 8 64 (PInt news (bl n)) := by
  intro w mean mg mb dp un gd cn cs a ccd cl outer A₀ base h₀ L m s Q E B F X N T hk hd hu hret
  skip
  (refine wpAny_call ?_; k_dflt cell_enter)
  repeat' (first | (k_unfold; (try dsimp only)) | (k_end; wrow_close) | (k_here; (with_reducible show wpAny _ _ (call (Value.builtin "abs") (_ :: _)) _ _ _); with_reducible ((refine call_iabs ?_); intro _ _)) | walk1 | (dsimp only; first | (with_reducible show wpAny _ _ (call _ (_ :: _)) _ _ _) | walk1) | (leave1; walk_say "STEP leave1"; try dsimp only) | fail "no step")
  all_goals (refine' end_int hret ?e ?F ?N ?hs; (case F => k_asm); (case N => k_asm); (case hs => (intro p hp; repeat' (first | exact hp | apply List.mem_cons_of_mem))); (case e => rfl))
theorem c_sign (n : Int) (t : Tok) (news : List (Addr × Obj)) : Ctr 88 [.int n t] news 8 64 (PInt news (sgn n)) := by
  intro w mean mg mb dp un gd cn cs a ccd cl outer A₀ base h₀ L m s Q E B F X N T hk hd hu hret
  skip
  (refine wpAny_call ?_; k_dflt cell_enter)
  k_steps
  all_goals (refine' end_int hret ?e ?F ?N ?hs; (case F => k_asm); (case N => k_asm); (case hs => (intro p hp; repeat' (first | exact hp | apply List.mem_cons_of_mem))); (case e => rfl))
theorem c_zeros (n : Int) (t : Tok) (news : List (Addr × Obj)) : Ctr 95 [.int n t] news 8 64 (PInt news (tz n)) := by
  intro w mean mg mb dp un gd cn cs a ccd cl outer A₀ base h₀ L m s Q E B F X N T hk hd hu hret
  skip
  (refine wpAny_call ?_; k_dflt cell_enter)
  k_steps
  all_goals (refine' end_int hret ?e ?F ?N ?hs; (case F => k_asm); (case N => k_asm); (case hs => (intro p hp; repeat' (first | exact hp | apply List.mem_cons_of_mem))); (case e => rfl))
theorem c_near (n g : Int) (t t1 : Tok) (h0 : 1 ≤ g) (hg : g ≤ 100000) (news : List (Addr × Obj)) : Ctr 109 [.int n t, .int g t1] news 8 64 (PInt news (near n g)) := by
  intro w mean mg mb dp un gd cn cs a ccd cl outer A₀ base h₀ L m s Q E B F X N T hk hd hu hret
  skip
  (refine wpAny_call ?_; k_dflt cell_enter)
  repeat' (first | (k_unfold; (try dsimp only)) | (k_end; wrow_close) | (k_here; (with_reducible show wpAny _ _ (binaryOp Operator.LShift (Value.int _ _) (Value.int _ _)) _ _ _); with_reducible (k_dflt (refine' lshift_int ?zhn ?zhz ?_; (case zhn => first | assumption | lia); (case zhz => first | assumption | lia); k_whole))) | walk1 | (dsimp only; first | (with_reducible show wpAny _ _ (binaryOp _ _ _) _ _ _) | walk1) | (leave1; walk_say "STEP leave1"; try dsimp only) | fail "no step")
  all_goals (refine' end_int hret ?e ?F ?N ?hs; (case F => k_asm); (case N => k_asm); (case hs => (intro p hp; repeat' (first | exact hp | apply List.mem_cons_of_mem))); (case e => (unfold near; simp only [*, true_or, false_or, and_self, and_true, true_and, and_false, false_and, or_self, if_true, if_false, ne_eq, not_true_eq_false, not_false_eq_true, or_true, or_false] at *; try simp [*])))
theorem c_sticky (n : Int) (t : Tok) (b : Bool) (news : List (Addr × Obj)) : Ctr 123 [.int n t, .bool b] news 8 64 (PInt news (sticky n b)) := by
  intro w mean mg mb dp un gd cn cs a ccd cl outer A₀ base h₀ L m s Q E B F X N T hk hd hu hret
  skip
  (refine wpAny_call ?_; k_dflt cell_enter)
  k_steps
  all_goals (refine' end_int hret ?e ?F ?N ?hs; (case F => k_asm); (case N => k_asm); (case hs => (intro p hp; repeat' (first | exact hp | apply List.mem_cons_of_mem))); (case e => (unfold sticky; simp [*])))
theorem c_lean (n e : Int) (t t1 : Tok) (hp : LeanOk n e) (news : List (Addr × Obj)) : Ctr 102 [.int n t, .int e t1] news 20 200 (PReal news (leanM n) (leanE n e)) := by
  intro w mean mg mb dp un gd cn cs a ccd cl outer A₀ base h₀ L m s Q E B F X N T hk hd hu hret
  obtain ⟨hp1, hp2, hz⟩ := hp; have hI := iabs_le hp1 hp2
  (refine wpAny_call ?_; k_dflt cell_enter)
  repeat' (first | (k_unfold; (try dsimp only)) | (k_end; wrow_close) | ((with_reducible show wpAny _ _ (call _ (_ :: _)) _ _ _); first | (k_here; (with_reducible show wpAny _ _ (call (Value.ref 95) (_ :: _)) _ _ _); with_reducible (k_dflt (refine' use (c_zeros _ _ _) ?zk1 ?zk2 ?zk3 ?zk4 ?zk5 ?zk6 ?zk7 ?zk8 ?_; (case zk1 => k_asm); (case zk2 => k_asm); (case zk3 => k_asm); (case zk4 => k_asm); (case zk5 => k_asm); (case zk6 => first | exact rfl | assumption); (case zk7 => ktr_room); (case zk8 => ktr_units); k_whole); intro r9 h9 tk9 n9 F9 N9 p9; k_dflt (obtain ⟨e9, t9, e8⟩ := p9; subst e9; subst e8); (try dsimp only); (try k_sweep); (try k_fold))) | (k_here; (with_reducible show wpAny _ _ (call (Value.ref 81) (_ :: _)) _ _ _); with_reducible (k_dflt (refine' use (c_size_of _ _ _) ?zk1 ?zk2 ?zk3 ?zk4 ?zk5 ?zk6 ?zk7 ?zk8 ?_; (case zk1 => k_asm); (case zk2 => k_asm); (case zk3 => k_asm); (case zk4 => k_asm); (case zk5 => k_asm); (case zk6 => first | exact rfl | assumption); (case zk7 => ktr_room); (case zk8 => ktr_units); k_whole); intro r9 h9 tk9 n9 F9 N9 p9; k_dflt (obtain ⟨e9, t9, e8⟩ := p9; subst e9; subst e8); (try dsimp only); (try k_sweep); (try k_fold))) | (k_here; (with_reducible show wpAny _ _ (call (Value.builtin "abs") (_ :: _)) _ _ _); with_reducible ((refine call_iabs ?_); intro _ _))) | walk1 | (dsimp only; first | (with_reducible show wpAny _ _ (call _ (_ :: _)) _ _ _) | walk1) | (leave1; walk_say "STEP leave1"; try dsimp only) | fail "no step")
  all_goals (refine' end_real hret ?F ?N ?e1 ?e2 ?i1 ?i2 ?hs ?l1 ?l2; (case F => k_asm); (case N => k_asm); (case i1 => k_mem); (case i2 => k_mem); (case hs => (intro p hp; repeat' (first | exact hp | apply List.mem_cons_of_mem))); (case l1 => (first | assumption | exact allLt_of (by assumption) | exact And.right (by assumption) | exact And.right (And.right (by assumption)) | exact And.right (And.right (And.right (by assumption))) | exact And.right (And.right (And.right (And.right (by assumption)))) | exact And.right (And.right (And.right (And.right (And.right (by assumption))))) | exact And.right (And.right (And.right (And.right (And.right (And.right (by assumption)))))) | exact And.right (And.right (And.right (And.right (And.right (And.right (And.right (by assumption))))))) | exact And.right (And.right (And.right (And.right (And.right (And.right (And.right (And.right (by assumption)))))))) | exact And.right (And.right (And.right (And.right (And.right (And.right (And.right (And.right (And.right (by assumption))))))))) | exact And.right (And.right (And.right (And.right (And.right (And.right (And.right (And.right (And.right (And.right (by assumption)))))))))) | exact And.right (And.right (And.right (And.right (And.right (And.right (And.right (And.right (And.right (And.right (And.right (by assumption))))))))))) | exact And.right (And.right (And.right (And.right (And.right (And.right (And.right (And.right (And.right (And.right (And.right (And.right (by assumption)))))))))))) | exact And.right (And.right (And.right (And.right (And.right (And.right (And.right (And.right (And.right (And.right (And.right (And.right (And.right (by assumption))))))))))))) | exact And.right (And.right (And.right (And.right (And.right (And.right (And.right (And.right (And.right (And.right (And.right (And.right (And.right (And.right (by assumption)))))))))))))) | exact And.right (And.right (And.right (And.right (And.right (And.right (And.right (And.right (And.right (And.right (And.right (And.right (And.right (And.right (And.right (by assumption))))))))))))))) | exact And.right (And.right (And.right (And.right (And.right (And.right (And.right (And.right (And.right (And.right (And.right (And.right (And.right (And.right (And.right (And.right (by assumption)))))))))))))))))); (case l2 => assumption); (case e1 => (first | (unfold leanM; simp only [*, if_true, if_false]; done) | (unfold leanE; simp only [*, if_true, if_false]; done) | (subst_vars; rfl))); (case e2 => (first | (unfold leanM; simp only [*, if_true, if_false]; done) | (unfold leanE; simp only [*, if_true, if_false]; done) | (subst_vars; rfl))))
theorem c_shr (p n e : Int) (t t1 t2 : Tok) (hp : ShrOk p n e) (news : List (Addr × Obj)) : Ctr 116 [.int p t2, .int n t, .int e t1] news 40 400 (PReal news (shM p n) (shE p n e)) := by
  intro w mean mg mb dp un gd cn cs a ccd cl outer A₀ base h₀ L m s Q E B F X N T hk hd hu hret
  obtain ⟨hs1, hs2, hg, l1, l2⟩ := hp
  by_cases hc : bl n - p ≤ 0
  · have l3 := l1 hc
    clear l1 l2
    (refine wpAny_call ?_; k_dflt cell_enter)
    repeat' (first | (k_unfold; (try dsimp only)) | (k_end; wrow_close) | ((with_reducible show wpAny _ _ (call _ (_ :: _)) _ _ _); first | (k_here; (with_reducible show wpAny _ _ (call (Value.ref 102) (_ :: _)) _ _ _); with_reducible (k_dflt (refine' use (c_lean _ _ _ _ ?zp1 _) ?zk1 ?zk2 ?zk3 ?zk4 ?zk5 ?zk6 ?zk7 ?zk8 ?_; (case zk1 => k_asm); (case zk2 => k_asm); (case zk3 => k_asm); (case zk4 => k_asm); (case zk5 => k_asm); (case zk6 => first | exact rfl | assumption); (case zk7 => ktr_room); (case zk8 => ktr_units); (case zp1 => assumption); k_whole); intro r9 h9 tk9 n9 F9 N9 p9; k_dflt (obtain ⟨x9, d9, ha9, hb9, ta9, tb9, tc9, td9, e8, e9, l9, l8⟩ := p9; subst e9; subst e8; (try simp only [AllLt, and_true] at l9)); (try dsimp only); (try k_sweep); (try k_fold))) | (k_here; (with_reducible show wpAny _ _ (call (Value.ref 109) (_ :: _)) _ _ _); with_reducible (k_dflt (refine' use (c_near _ _ _ _ ?zp1 ?zp2 _) ?zk1 ?zk2 ?zk3 ?zk4 ?zk5 ?zk6 ?zk7 ?zk8 ?_; (case zk1 => k_asm); (case zk2 => k_asm); (case zk3 => k_asm); (case zk4 => k_asm); (case zk5 => k_asm); (case zk6 => first | exact rfl | assumption); (case zk7 => ktr_room); (case zk8 => ktr_units); (case zp1 => first | assumption | lia); (case zp2 => first | assumption | lia); k_whole); intro r9 h9 tk9 n9 F9 N9 p9; k_dflt (obtain ⟨e9, t9, e8⟩ := p9; subst e9; subst e8); (try dsimp only); (try k_sweep); (try k_fold))) | (k_here; (with_reducible show wpAny _ _ (call (Value.ref 88) (_ :: _)) _ _ _); with_reducible (k_dflt (refine' use (c_sign _ _ _) ?zk1 ?zk2 ?zk3 ?zk4 ?zk5 ?zk6 ?zk7 ?zk8 ?_; (case zk1 => k_asm); (case zk2 => k_asm); (case zk3 => k_asm); (case zk4 => k_asm); (case zk5 => k_asm); (case zk6 => first | exact rfl | assumption); (case zk7 => ktr_room); (case zk8 => ktr_units); k_whole); intro r9 h9 tk9 n9 F9 N9 p9; k_dflt (obtain ⟨e9, t9, e8⟩ := p9; subst e9; subst e8); (try dsimp only); (try k_sweep); (try k_fold))) | (k_here; (with_reducible show wpAny _ _ (call (Value.ref 81) (_ :: _)) _ _ _); with_reducible (k_dflt (refine' use (c_size_of _ _ _) ?zk1 ?zk2 ?zk3 ?zk4 ?zk5 ?zk6 ?zk7 ?zk8 ?_; (case zk1 => k_asm); (case zk2 => k_asm); (case zk3 => k_asm); (case zk4 => k_asm); (case zk5 => k_asm); (case zk6 => first | exact rfl | assumption); (case zk7 => ktr_room); (case zk8 => ktr_units); k_whole); intro r9 h9 tk9 n9 F9 N9 p9; k_dflt (obtain ⟨e9, t9, e8⟩ := p9; subst e9; subst e8); (try dsimp only); (try k_sweep); (try k_fold))) | (k_here; (with_reducible show wpAny _ _ (call (Value.builtin "abs") (_ :: _)) _ _ _); with_reducible ((refine call_iabs ?_); intro _ _))) | walk1 | (dsimp only; first | (with_reducible show wpAny _ _ (call _ (_ :: _)) _ _ _) | walk1) | (leave1; walk_say "STEP leave1"; try dsimp only) | fail "no step")
    all_goals (refine' end_real hret ?F ?N ?e1 ?e2 ?i1 ?i2 ?hs ?l1 ?l2; (case F => k_asm); (case N => k_asm); (case i1 => k_mem); (case i2 => k_mem); (case hs => (intro p hp; repeat' (first | exact hp | apply List.mem_cons_of_mem))); (case l1 => (first | assumption | exact allLt_of (by assumption) | exact And.right (by assumption) | exact And.right (And.right (by assumption)) | exact And.right (And.right (And.right (by assumption))) | exact And.right (And.right (And.right (And.right (by assumption)))) | exact And.right (And.right (And.right (And.right (And.right (by assumption))))) | exact And.right (And.right (And.right (And.right (And.right (And.right (by assumption)))))) | exact And.right (And.right (And.right (And.right (And.right (And.right (And.right (by assumption))))))) | exact And.right (And.right (And.right (And.right (And.right (And.right (And.right (And.right (by assumption)))))))) | exact And.right (And.right (And.right (And.right (And.right (And.right (And.right (And.right (And.right (by assumption))))))))) | exact And.right (And.right (And.right (And.right (And.right (And.right (And.right (And.right (And.right (And.right (by assumption)))))))))) | exact And.right (And.right (And.right (And.right (And.right (And.right (And.right (And.right (And.right (And.right (And.right (by assumption))))))))))) | exact And.right (And.right (And.right (And.right (And.right (And.right (And.right (And.right (And.right (And.right (And.right (And.right (by assumption)))))))))))) | exact And.right (And.right (And.right (And.right (And.right (And.right (And.right (And.right (And.right (And.right (And.right (And.right (And.right (by assumption))))))))))))) | exact And.right (And.right (And.right (And.right (And.right (And.right (And.right (And.right (And.right (And.right (And.right (And.right (And.right (And.right (by assumption)))))))))))))) | exact And.right (And.right (And.right (And.right (And.right (And.right (And.right (And.right (And.right (And.right (And.right (And.right (And.right (And.right (And.right (by assumption))))))))))))))) | exact And.right (And.right (And.right (And.right (And.right (And.right (And.right (And.right (And.right (And.right (And.right (And.right (And.right (And.right (And.right (And.right (by assumption)))))))))))))))))); (case l2 => assumption); (case e1 => (first | (unfold shM; simp only [*, if_true, if_false]; done) | (unfold shE; simp only [*, if_true, if_false]; done))); (case e2 => (first | (unfold shM; simp only [*, if_true, if_false]; done) | (unfold shE; simp only [*, if_true, if_false]; done))))
  have l3 := l2 hc
  clear l1 l2
  (refine wpAny_call ?_; k_dflt cell_enter)
  repeat' (first | (k_unfold; (try dsimp only)) | (k_end; wrow_close) | ((with_reducible show wpAny _ _ (call _ (_ :: _)) _ _ _); first | (k_here; (with_reducible show wpAny _ _ (call (Value.ref 102) (_ :: _)) _ _ _); with_reducible (k_dflt (refine' use (c_lean _ _ _ _ ?zp1 _) ?zk1 ?zk2 ?zk3 ?zk4 ?zk5 ?zk6 ?zk7 ?zk8 ?_; (case zk1 => k_asm); (case zk2 => k_asm); (case zk3 => k_asm); (case zk4 => k_asm); (case zk5 => k_asm); (case zk6 => first | exact rfl | assumption); (case zk7 => ktr_room); (case zk8 => ktr_units); (case zp1 => assumption); k_whole); intro r9 h9 tk9 n9 F9 N9 p9; k_dflt (obtain ⟨x9, d9, ha9, hb9, ta9, tb9, tc9, td9, e8, e9, l9, l8⟩ := p9; subst e9; subst e8; (try simp only [AllLt, and_true] at l9)); (try dsimp only); (try k_sweep); (try k_fold))) | (k_here; (with_reducible show wpAny _ _ (call (Value.ref 109) (_ :: _)) _ _ _); with_reducible (k_dflt (refine' use (c_near _ _ _ _ ?zp1 ?zp2 _) ?zk1 ?zk2 ?zk3 ?zk4 ?zk5 ?zk6 ?zk7 ?zk8 ?_; (case zk1 => k_asm); (case zk2 => k_asm); (case zk3 => k_asm); (case zk4 => k_asm); (case zk5 => k_asm); (case zk6 => first | exact rfl | assumption); (case zk7 => ktr_room); (case zk8 => ktr_units); (case zp1 => first | assumption | lia); (case zp2 => first | assumption | lia); k_whole); intro r9 h9 tk9 n9 F9 N9 p9; k_dflt (obtain ⟨e9, t9, e8⟩ := p9; subst e9; subst e8); (try dsimp only); (try k_sweep); (try k_fold))) | (k_here; (with_reducible show wpAny _ _ (call (Value.ref 88) (_ :: _)) _ _ _); with_reducible (k_dflt (refine' use (c_sign _ _ _) ?zk1 ?zk2 ?zk3 ?zk4 ?zk5 ?zk6 ?zk7 ?zk8 ?_; (case zk1 => k_asm); (case zk2 => k_asm); (case zk3 => k_asm); (case zk4 => k_asm); (case zk5 => k_asm); (case zk6 => first | exact rfl | assumption); (case zk7 => ktr_room); (case zk8 => ktr_units); k_whole); intro r9 h9 tk9 n9 F9 N9 p9; k_dflt (obtain ⟨e9, t9, e8⟩ := p9; subst e9; subst e8); (try dsimp only); (try k_sweep); (try k_fold))) | (k_here; (with_reducible show wpAny _ _ (call (Value.ref 81) (_ :: _)) _ _ _); with_reducible (k_dflt (refine' use (c_size_of _ _ _) ?zk1 ?zk2 ?zk3 ?zk4 ?zk5 ?zk6 ?zk7 ?zk8 ?_; (case zk1 => k_asm); (case zk2 => k_asm); (case zk3 => k_asm); (case zk4 => k_asm); (case zk5 => k_asm); (case zk6 => first | exact rfl | assumption); (case zk7 => ktr_room); (case zk8 => ktr_units); k_whole); intro r9 h9 tk9 n9 F9 N9 p9; k_dflt (obtain ⟨e9, t9, e8⟩ := p9; subst e9; subst e8); (try dsimp only); (try k_sweep); (try k_fold))) | (k_here; (with_reducible show wpAny _ _ (call (Value.builtin "abs") (_ :: _)) _ _ _); with_reducible ((refine call_iabs ?_); intro _ _))) | walk1 | (dsimp only; first | (with_reducible show wpAny _ _ (call _ (_ :: _)) _ _ _) | walk1) | (leave1; walk_say "STEP leave1"; try dsimp only) | fail "no step")
  all_goals (refine' end_real hret ?F ?N ?e1 ?e2 ?i1 ?i2 ?hs ?l1 ?l2; (case F => k_asm); (case N => k_asm); (case i1 => k_mem); (case i2 => k_mem); (case hs => (intro p hp; repeat' (first | exact hp | apply List.mem_cons_of_mem))); (case l1 => (first | assumption | exact allLt_of (by assumption) | exact And.right (by assumption) | exact And.right (And.right (by assumption)) | exact And.right (And.right (And.right (by assumption))) | exact And.right (And.right (And.right (And.right (by assumption)))) | exact And.right (And.right (And.right (And.right (And.right (by assumption))))) | exact And.right (And.right (And.right (And.right (And.right (And.right (by assumption)))))) | exact And.right (And.right (And.right (And.right (And.right (And.right (And.right (by assumption))))))) | exact And.right (And.right (And.right (And.right (And.right (And.right (And.right (And.right (by assumption)))))))) | exact And.right (And.right (And.right (And.right (And.right (And.right (And.right (And.right (And.right (by assumption))))))))) | exact And.right (And.right (And.right (And.right (And.right (And.right (And.right (And.right (And.right (And.right (by assumption)))))))))) | exact And.right (And.right (And.right (And.right (And.right (And.right (And.right (And.right (And.right (And.right (And.right (by assumption))))))))))) | exact And.right (And.right (And.right (And.right (And.right (And.right (And.right (And.right (And.right (And.right (And.right (And.right (by assumption)))))))))))) | exact And.right (And.right (And.right (And.right (And.right (And.right (And.right (And.right (And.right (And.right (And.right (And.right (And.right (by assumption))))))))))))) | exact And.right (And.right (And.right (And.right (And.right (And.right (And.right (And.right (And.right (And.right (And.right (And.right (And.right (And.right (by assumption)))))))))))))) | exact And.right (And.right (And.right (And.right (And.right (And.right (And.right (And.right (And.right (And.right (And.right (And.right (And.right (And.right (And.right (by assumption))))))))))))))) | exact And.right (And.right (And.right (And.right (And.right (And.right (And.right (And.right (And.right (And.right (And.right (And.right (And.right (And.right (And.right (And.right (by assumption)))))))))))))))))); (case l2 => assumption); (case e1 => (first | (unfold shM; simp only [*, if_true, if_false]; done) | (unfold shE; simp only [*, if_true, if_false]; done))); (case e2 => (first | (unfold shM; simp only [*, if_true, if_false]; done) | (unfold shE; simp only [*, if_true, if_false]; done))))
theorem c_rnd (p x y : Int) (t t1 t2 : Tok) (hp : RndOk p x y) (news : List (Addr × Obj)) : Ctr 130 [.int p t2, .int x t, .int y t1] news 80 800 (PReal news (rdM p x y) (rdE p x y)) := by
  intro w mean mg mb dp un gd cn cs a ccd cl outer A₀ base h₀ L m s Q E B F X N T hk hd hu hret
  obtain ⟨hy, w1, l1, l2⟩ := hp
  obtain ⟨sg1, sg2⟩ := sgn_le x
  by_cases hx : x = 0
  · clear l1 l2 w1 sg1 sg2
    subst hx
    (refine wpAny_call ?_; k_dflt cell_enter)
    repeat' (first | (k_unfold; (try dsimp only)) | (k_end; wrow_close) | ((with_reducible show wpAny _ _ (call _ (_ :: _)) _ _ _); first | (k_here; (with_reducible show wpAny _ _ (call (Value.ref 116) (_ :: _)) _ _ _); with_reducible (k_dflt (refine' use (c_shr _ _ _ _ _ _ ?zp1 _) ?zk1 ?zk2 ?zk3 ?zk4 ?zk5 ?zk6 ?zk7 ?zk8 ?_; (case zk1 => k_asm); (case zk2 => k_asm); (case zk3 => k_asm); (case zk4 => k_asm); (case zk5 => k_asm); (case zk6 => first | exact rfl | assumption); (case zk7 => ktr_room); (case zk8 => ktr_units); (case zp1 => assumption); k_whole); intro r9 h9 tk9 n9 F9 N9 p9; k_dflt (obtain ⟨x9, d9, ha9, hb9, ta9, tb9, tc9, td9, e8, e9, l9, l8⟩ := p9; subst e9; subst e8; (try simp only [AllLt, and_true] at l9)); (try dsimp only); (try k_sweep); (try k_fold))) | (k_here; (with_reducible show wpAny _ _ (call (Value.ref 123) (_ :: _)) _ _ _); with_reducible (k_dflt (refine' use (c_sticky _ _ _ _) ?zk1 ?zk2 ?zk3 ?zk4 ?zk5 ?zk6 ?zk7 ?zk8 ?_; (case zk1 => k_asm); (case zk2 => k_asm); (case zk3 => k_asm); (case zk4 => k_asm); (case zk5 => k_asm); (case zk6 => first | exact rfl | assumption); (case zk7 => ktr_room); (case zk8 => ktr_units); k_whole); intro r9 h9 tk9 n9 F9 N9 p9; k_dflt (obtain ⟨e9, t9, e8⟩ := p9; subst e9; subst e8); (try dsimp only); (try k_sweep); (try k_fold))) | (k_here; (with_reducible show wpAny _ _ (call (Value.ref 88) (_ :: _)) _ _ _); with_reducible (k_dflt (refine' use (c_sign _ _ _) ?zk1 ?zk2 ?zk3 ?zk4 ?zk5 ?zk6 ?zk7 ?zk8 ?_; (case zk1 => k_asm); (case zk2 => k_asm); (case zk3 => k_asm); (case zk4 => k_asm); (case zk5 => k_asm); (case zk6 => first | exact rfl | assumption); (case zk7 => ktr_room); (case zk8 => ktr_units); k_whole); intro r9 h9 tk9 n9 F9 N9 p9; k_dflt (obtain ⟨e9, t9, e8⟩ := p9; subst e9; subst e8); (try dsimp only); (try k_sweep); (try k_fold))) | (k_here; (with_reducible show wpAny _ _ (call (Value.ref 81) (_ :: _)) _ _ _); with_reducible (k_dflt (refine' use (c_size_of _ _ _) ?zk1 ?zk2 ?zk3 ?zk4 ?zk5 ?zk6 ?zk7 ?zk8 ?_; (case zk1 => k_asm); (case zk2 => k_asm); (case zk3 => k_asm); (case zk4 => k_asm); (case zk5 => k_asm); (case zk6 => first | exact rfl | assumption); (case zk7 => ktr_room); (case zk8 => ktr_units); k_whole); intro r9 h9 tk9 n9 F9 N9 p9; k_dflt (obtain ⟨e9, t9, e8⟩ := p9; subst e9; subst e8); (try dsimp only); (try k_sweep); (try k_fold))) | (k_here; (with_reducible show wpAny _ _ (call (Value.builtin "divmod") (_ :: _)) _ _ _); (with_reducible show wpAny _ _ (call (Value.builtin _) [Value.int _ _, Value.int _ _]) _ _ _); with_reducible (k_dflt (refine' divmod_N ?zF ?zN ?zhb ?_ (Or.inl ?zhp); (case zF => k_asm); (case zN => k_asm); (case zhb => first | assumption | lia); (case zhp => first | assumption | exact PyProof.noPylong_of_log2 (by first | assumption | lia)); k_whole); intro _ _ _; (try k_sweep))) | (k_here; (with_reducible show wpAny _ _ (call (Value.builtin "abs") (_ :: _)) _ _ _); with_reducible ((refine call_iabs ?_); intro _ _))) | (k_here; (with_reducible show wpAny _ _ (binaryOp Operator.LShift (Value.int _ _) (Value.int _ _)) _ _ _); with_reducible (k_dflt (refine' lshift_int ?zhn ?zhz ?_; (case zhn => first | assumption | lia); (case zhz => first | assumption | lia); k_whole))) | walk1 | (dsimp only; first | (with_reducible show wpAny _ _ (call _ (_ :: _)) _ _ _) | (with_reducible show wpAny _ _ (binaryOp _ _ _) _ _ _) | walk1) | (leave1; walk_say "STEP leave1"; try dsimp only) | fail "no step")
    all_goals (refine' end_real hret ?F ?N ?e1 ?e2 ?i1 ?i2 ?hs ?l1 ?l2; (case F => k_asm); (case N => k_asm); (case i1 => k_mem); (case i2 => k_mem); (case hs => (intro p hp; repeat' (first | exact hp | apply List.mem_cons_of_mem))); (case l1 => (first | assumption | exact allLt_of (by assumption) | exact And.right (by assumption) | exact And.right (And.right (by assumption)) | exact And.right (And.right (And.right (by assumption))) | exact And.right (And.right (And.right (And.right (by assumption)))) | exact And.right (And.right (And.right (And.right (And.right (by assumption))))) | exact And.right (And.right (And.right (And.right (And.right (And.right (by assumption)))))) | exact And.right (And.right (And.right (And.right (And.right (And.right (And.right (by assumption))))))) | exact And.right (And.right (And.right (And.right (And.right (And.right (And.right (And.right (by assumption)))))))) | exact And.right (And.right (And.right (And.right (And.right (And.right (And.right (And.right (And.right (by assumption))))))))) | exact And.right (And.right (And.right (And.right (And.right (And.right (And.right (And.right (And.right (And.right (by assumption)))))))))) | exact And.right (And.right (And.right (And.right (And.right (And.right (And.right (And.right (And.right (And.right (And.right (by assumption))))))))))) | exact And.right (And.right (And.right (And.right (And.right (And.right (And.right (And.right (And.right (And.right (And.right (And.right (by assumption)))))))))))) | exact And.right (And.right (And.right (And.right (And.right (And.right (And.right (And.right (And.right (And.right (And.right (And.right (And.right (by assumption))))))))))))) | exact And.right (And.right (And.right (And.right (And.right (And.right (And.right (And.right (And.right (And.right (And.right (And.right (And.right (And.right (by assumption)))))))))))))) | exact And.right (And.right (And.right (And.right (And.right (And.right (And.right (And.right (And.right (And.right (And.right (And.right (And.right (And.right (And.right (by assumption))))))))))))))) | exact And.right (And.right (And.right (And.right (And.right (And.right (And.right (And.right (And.right (And.right (And.right (And.right (And.right (And.right (And.right (And.right (by assumption)))))))))))))))))); (case l2 => assumption); (case e1 => (first | rfl | (unfold rdM rdN; simp only [*, if_true, if_false]; done) | (unfold rdE rdN; simp only [*, if_true, if_false]; done))); (case e2 => (first | rfl | (unfold rdM rdN; simp only [*, if_true, if_false]; done) | (unfold rdE rdN; simp only [*, if_true, if_false]; done))))
  by_cases hc : 0 ≤ (p + 2 + bl y - bl x)
  · obtain ⟨l3, l4⟩ := l1 hx hc
    clear l1 l2
    (refine wpAny_call ?_; k_dflt cell_enter)
    repeat' (first | (k_unfold; (try dsimp only)) | (k_end; wrow_close) | ((with_reducible show wpAny _ _ (call _ (_ :: _)) _ _ _); first | (k_here; (with_reducible show wpAny _ _ (call (Value.ref 116) (_ :: _)) _ _ _); with_reducible (k_dflt (refine' use (c_shr _ _ _ _ _ _ ?zp1 _) ?zk1 ?zk2 ?zk3 ?zk4 ?zk5 ?zk6 ?zk7 ?zk8 ?_; (case zk1 => k_asm); (case zk2 => k_asm); (case zk3 => k_asm); (case zk4 => k_asm); (case zk5 => k_asm); (case zk6 => first | exact rfl | assumption); (case zk7 => ktr_room); (case zk8 => ktr_units); (case zp1 => assumption); k_whole); intro r9 h9 tk9 n9 F9 N9 p9; k_dflt (obtain ⟨x9, d9, ha9, hb9, ta9, tb9, tc9, td9, e8, e9, l9, l8⟩ := p9; subst e9; subst e8; (try simp only [AllLt, and_true] at l9)); (try dsimp only); (try k_sweep); (try k_fold))) | (k_here; (with_reducible show wpAny _ _ (call (Value.ref 123) (_ :: _)) _ _ _); with_reducible (k_dflt (refine' use (c_sticky _ _ _ _) ?zk1 ?zk2 ?zk3 ?zk4 ?zk5 ?zk6 ?zk7 ?zk8 ?_; (case zk1 => k_asm); (case zk2 => k_asm); (case zk3 => k_asm); (case zk4 => k_asm); (case zk5 => k_asm); (case zk6 => first | exact rfl | assumption); (case zk7 => ktr_room); (case zk8 => ktr_units); k_whole); intro r9 h9 tk9 n9 F9 N9 p9; k_dflt (obtain ⟨e9, t9, e8⟩ := p9; subst e9; subst e8); (try dsimp only); (try k_sweep); (try k_fold))) | (k_here; (with_reducible show wpAny _ _ (call (Value.ref 88) (_ :: _)) _ _ _); with_reducible (k_dflt (refine' use (c_sign _ _ _) ?zk1 ?zk2 ?zk3 ?zk4 ?zk5 ?zk6 ?zk7 ?zk8 ?_; (case zk1 => k_asm); (case zk2 => k_asm); (case zk3 => k_asm); (case zk4 => k_asm); (case zk5 => k_asm); (case zk6 => first | exact rfl | assumption); (case zk7 => ktr_room); (case zk8 => ktr_units); k_whole); intro r9 h9 tk9 n9 F9 N9 p9; k_dflt (obtain ⟨e9, t9, e8⟩ := p9; subst e9; subst e8); (try dsimp only); (try k_sweep); (try k_fold))) | (k_here; (with_reducible show wpAny _ _ (call (Value.ref 81) (_ :: _)) _ _ _); with_reducible (k_dflt (refine' use (c_size_of _ _ _) ?zk1 ?zk2 ?zk3 ?zk4 ?zk5 ?zk6 ?zk7 ?zk8 ?_; (case zk1 => k_asm); (case zk2 => k_asm); (case zk3 => k_asm); (case zk4 => k_asm); (case zk5 => k_asm); (case zk6 => first | exact rfl | assumption); (case zk7 => ktr_room); (case zk8 => ktr_units); k_whole); intro r9 h9 tk9 n9 F9 N9 p9; k_dflt (obtain ⟨e9, t9, e8⟩ := p9; subst e9; subst e8); (try dsimp only); (try k_sweep); (try k_fold))) | (k_here; (with_reducible show wpAny _ _ (call (Value.builtin "divmod") (_ :: _)) _ _ _); (with_reducible show wpAny _ _ (call (Value.builtin _) [Value.int _ _, Value.int _ _]) _ _ _); with_reducible (k_dflt (refine' divmod_N ?zF ?zN ?zhb ?_ (Or.inl ?zhp); (case zF => k_asm); (case zN => k_asm); (case zhb => first | assumption | lia); (case zhp => first | assumption | exact PyProof.noPylong_of_log2 (by first | assumption | lia)); k_whole); intro _ _ _; (try k_sweep))) | (k_here; (with_reducible show wpAny _ _ (call (Value.builtin "abs") (_ :: _)) _ _ _); with_reducible ((refine call_iabs ?_); intro _ _))) | (k_here; (with_reducible show wpAny _ _ (binaryOp Operator.LShift (Value.int _ _) (Value.int _ _)) _ _ _); with_reducible (k_dflt (refine' lshift_int ?zhn ?zhz ?_; (case zhn => first | assumption | lia); (case zhz => first | assumption | lia); k_whole))) | walk1 | (dsimp only; first | (with_reducible show wpAny _ _ (call _ (_ :: _)) _ _ _) | (with_reducible show wpAny _ _ (binaryOp _ _ _) _ _ _) | walk1) | (leave1; walk_say "STEP leave1"; try dsimp only) | fail "no step")
    all_goals (refine' end_real hret ?F ?N ?e1 ?e2 ?i1 ?i2 ?hs ?l1 ?l2; (case F => k_asm); (case N => k_asm); (case i1 => k_mem); (case i2 => k_mem); (case hs => (intro p hp; repeat' (first | exact hp | apply List.mem_cons_of_mem))); (case l1 => (first | assumption | exact allLt_of (by assumption) | exact And.right (by assumption) | exact And.right (And.right (by assumption)) | exact And.right (And.right (And.right (by assumption))) | exact And.right (And.right (And.right (And.right (by assumption)))) | exact And.right (And.right (And.right (And.right (And.right (by assumption))))) | exact And.right (And.right (And.right (And.right (And.right (And.right (by assumption)))))) | exact And.right (And.right (And.right (And.right (And.right (And.right (And.right (by assumption))))))) | exact And.right (And.right (And.right (And.right (And.right (And.right (And.right (And.right (by assumption)))))))) | exact And.right (And.right (And.right (And.right (And.right (And.right (And.right (And.right (And.right (by assumption))))))))) | exact And.right (And.right (And.right (And.right (And.right (And.right (And.right (And.right (And.right (And.right (by assumption)))))))))) | exact And.right (And.right (And.right (And.right (And.right (And.right (And.right (And.right (And.right (And.right (And.right (by assumption))))))))))) | exact And.right (And.right (And.right (And.right (And.right (And.right (And.right (And.right (And.right (And.right (And.right (And.right (by assumption)))))))))))) | exact And.right (And.right (And.right (And.right (And.right (And.right (And.right (And.right (And.right (And.right (And.right (And.right (And.right (by assumption))))))))))))) | exact And.right (And.right (And.right (And.right (And.right (And.right (And.right (And.right (And.right (And.right (And.right (And.right (And.right (And.right (by assumption)))))))))))))) | exact And.right (And.right (And.right (And.right (And.right (And.right (And.right (And.right (And.right (And.right (And.right (And.right (And.right (And.right (And.right (by assumption))))))))))))))) | exact And.right (And.right (And.right (And.right (And.right (And.right (And.right (And.right (And.right (And.right (And.right (And.right (And.right (And.right (And.right (And.right (by assumption)))))))))))))))))); (case l2 => assumption); (case e1 => (first | rfl | (unfold rdM rdN; simp only [*, if_true, if_false]; done) | (unfold rdE rdN; simp only [*, if_true, if_false]; done))); (case e2 => (first | rfl | (unfold rdM rdN; simp only [*, if_true, if_false]; done) | (unfold rdE rdN; simp only [*, if_true, if_false]; done))))
  obtain ⟨l3, l4, l5, l6⟩ := l2 hx hc
  clear l1 l2
  (refine wpAny_call ?_; k_dflt cell_enter)
  repeat' (first | (k_unfold; (try dsimp only)) | (k_end; wrow_close) | ((with_reducible show wpAny _ _ (call _ (_ :: _)) _ _ _); first | (k_here; (with_reducible show wpAny _ _ (call (Value.ref 116) (_ :: _)) _ _ _); with_reducible (k_dflt (refine' use (c_shr _ _ _ _ _ _ ?zp1 _) ?zk1 ?zk2 ?zk3 ?zk4 ?zk5 ?zk6 ?zk7 ?zk8 ?_; (case zk1 => k_asm); (case zk2 => k_asm); (case zk3 => k_asm); (case zk4 => k_asm); (case zk5 => k_asm); (case zk6 => first | exact rfl | assumption); (case zk7 => ktr_room); (case zk8 => ktr_units); (case zp1 => assumption); k_whole); intro r9 h9 tk9 n9 F9 N9 p9; k_dflt (obtain ⟨x9, d9, ha9, hb9, ta9, tb9, tc9, td9, e8, e9, l9, l8⟩ := p9; subst e9; subst e8; (try simp only [AllLt, and_true] at l9)); (try dsimp only); (try k_sweep); (try k_fold))) | (k_here; (with_reducible show wpAny _ _ (call (Value.ref 123) (_ :: _)) _ _ _); with_reducible (k_dflt (refine' use (c_sticky _ _ _ _) ?zk1 ?zk2 ?zk3 ?zk4 ?zk5 ?zk6 ?zk7 ?zk8 ?_; (case zk1 => k_asm); (case zk2 => k_asm); (case zk3 => k_asm); (case zk4 => k_asm); (case zk5 => k_asm); (case zk6 => first | exact rfl | assumption); (case zk7 => ktr_room); (case zk8 => ktr_units); k_whole); intro r9 h9 tk9 n9 F9 N9 p9; k_dflt (obtain ⟨e9, t9, e8⟩ := p9; subst e9; subst e8); (try dsimp only); (try k_sweep); (try k_fold))) | (k_here; (with_reducible show wpAny _ _ (call (Value.ref 88) (_ :: _)) _ _ _); with_reducible (k_dflt (refine' use (c_sign _ _ _) ?zk1 ?zk2 ?zk3 ?zk4 ?zk5 ?zk6 ?zk7 ?zk8 ?_; (case zk1 => k_asm); (case zk2 => k_asm); (case zk3 => k_asm); (case zk4 => k_asm); (case zk5 => k_asm); (case zk6 => first | exact rfl | assumption); (case zk7 => ktr_room); (case zk8 => ktr_units); k_whole); intro r9 h9 tk9 n9 F9 N9 p9; k_dflt (obtain ⟨e9, t9, e8⟩ := p9; subst e9; subst e8); (try dsimp only); (try k_sweep); (try k_fold))) | (k_here; (with_reducible show wpAny _ _ (call (Value.ref 81) (_ :: _)) _ _ _); with_reducible (k_dflt (refine' use (c_size_of _ _ _) ?zk1 ?zk2 ?zk3 ?zk4 ?zk5 ?zk6 ?zk7 ?zk8 ?_; (case zk1 => k_asm); (case zk2 => k_asm); (case zk3 => k_asm); (case zk4 => k_asm); (case zk5 => k_asm); (case zk6 => first | exact rfl | assumption); (case zk7 => ktr_room); (case zk8 => ktr_units); k_whole); intro r9 h9 tk9 n9 F9 N9 p9; k_dflt (obtain ⟨e9, t9, e8⟩ := p9; subst e9; subst e8); (try dsimp only); (try k_sweep); (try k_fold))) | (k_here; (with_reducible show wpAny _ _ (call (Value.builtin "divmod") (_ :: _)) _ _ _); (with_reducible show wpAny _ _ (call (Value.builtin _) [Value.int _ _, Value.int _ _]) _ _ _); with_reducible (k_dflt (refine' divmod_N ?zF ?zN ?zhb ?_ (Or.inl ?zhp); (case zF => k_asm); (case zN => k_asm); (case zhb => first | assumption | lia); (case zhp => first | assumption | exact PyProof.noPylong_of_log2 (by first | assumption | lia)); k_whole); intro _ _ _; (try k_sweep))) | (k_here; (with_reducible show wpAny _ _ (call (Value.builtin "abs") (_ :: _)) _ _ _); with_reducible ((refine call_iabs ?_); intro _ _))) | (k_here; (with_reducible show wpAny _ _ (binaryOp Operator.LShift (Value.int _ _) (Value.int _ _)) _ _ _); with_reducible (k_dflt (refine' lshift_int ?zhn ?zhz ?_; (case zhn => first | assumption | lia); (case zhz => first | assumption | lia); k_whole))) | walk1 | (dsimp only; first | (with_reducible show wpAny _ _ (call _ (_ :: _)) _ _ _) | (with_reducible show wpAny _ _ (binaryOp _ _ _) _ _ _) | walk1) | (leave1; walk_say "STEP leave1"; try dsimp only) | fail "no step")
  all_goals (refine' end_real hret ?F ?N ?e1 ?e2 ?i1 ?i2 ?hs ?l1 ?l2; (case F => k_asm); (case N => k_asm); (case i1 => k_mem); (case i2 => k_mem); (case hs => (intro p hp; repeat' (first | exact hp | apply List.mem_cons_of_mem))); (case l1 => (first | assumption | exact allLt_of (by assumption) | exact And.right (by assumption) | exact And.right (And.right (by assumption)) | exact And.right (And.right (And.right (by assumption))) | exact And.right (And.right (And.right (And.right (by assumption)))) | exact And.right (And.right (And.right (And.right (And.right (by assumption))))) | exact And.right (And.right (And.right (And.right (And.right (And.right (by assumption)))))) | exact And.right (And.right (And.right (And.right (And.right (And.right (And.right (by assumption))))))) | exact And.right (And.right (And.right (And.right (And.right (And.right (And.right (And.right (by assumption)))))))) | exact And.right (And.right (And.right (And.right (And.right (And.right (And.right (And.right (And.right (by assumption))))))))) | exact And.right (And.right (And.right (And.right (And.right (And.right (And.right (And.right (And.right (And.right (by assumption)))))))))) | exact And.right (And.right (And.right (And.right (And.right (And.right (And.right (And.right (And.right (And.right (And.right (by assumption))))))))))) | exact And.right (And.right (And.right (And.right (And.right (And.right (And.right (And.right (And.right (And.right (And.right (And.right (by assumption)))))))))))) | exact And.right (And.right (And.right (And.right (And.right (And.right (And.right (And.right (And.right (And.right (And.right (And.right (And.right (by assumption))))))))))))) | exact And.right (And.right (And.right (And.right (And.right (And.right (And.right (And.right (And.right (And.right (And.right (And.right (And.right (And.right (by assumption)))))))))))))) | exact And.right (And.right (And.right (And.right (And.right (And.right (And.right (And.right (And.right (And.right (And.right (And.right (And.right (And.right (And.right (by assumption))))))))))))))) | exact And.right (And.right (And.right (And.right (And.right (And.right (And.right (And.right (And.right (And.right (And.right (And.right (And.right (And.right (And.right (And.right (by assumption)))))))))))))))))); (case l2 => assumption); (case e1 => (first | rfl | (unfold rdM rdN; simp only [*, if_true, if_false]; done) | (unfold rdE rdN; simp only [*, if_true, if_false]; done))); (case e2 => (first | rfl | (unfold rdM rdN; simp only [*, if_true, if_false]; done) | (unfold rdE rdN; simp only [*, if_true, if_false]; done))))
theorem gcd_step {a b : Int} (ha : 0 ≤ a) (hb : 0 ≤ b) (h : b ≠ 0) : 0 ≤ a.fmod b ∧ (a.fmod b).toNat < b.toNat ∧ Int.gcd b (a.fmod b) = Int.gcd a b := by
  have hb' : 0 < b := by lia
  rw [Int.fmod_eq_emod_of_nonneg a hb]
  have h1 := Int.emod_nonneg a h
  have h2 := Int.emod_lt_of_pos a hb'
  refine ⟨h1, by lia, ?_⟩
  obtain ⟨m, rfl⟩ := Int.eq_ofNat_of_zero_le ha
  obtain ⟨n, rfl⟩ := Int.eq_ofNat_of_zero_le hb
  show Nat.gcd _ _ = Nat.gcd _ _
  have e : ((m : Int) % (n : Int)).natAbs = m % n := by rw [← Int.natCast_emod, Int.natAbs_natCast]
  rw [e, Int.natAbs_natCast, Int.natAbs_natCast, Nat.gcd_comm m n, Nat.gcd_rec n m, Nat.gcd_comm]

theorem iabs_nn (x : Int) : 0 ≤ iabs x := by unfold iabs; split <;> lia
theorem iabs_natAbs (x : Int) : (iabs x).natAbs = x.natAbs := by unfold iabs; split <;> lia
def GI (x y a b : Int) : Prop := 0 ≤ a ∧ 0 ≤ b ∧ Int.gcd a b = Int.gcd x y
theorem GI.start (x y : Int) : GI x y (iabs x) (iabs y) := by
  refine ⟨iabs_nn x, iabs_nn y, ?_⟩
  show Nat.gcd _ _ = Nat.gcd _ _
  rw [iabs_natAbs, iabs_natAbs]
theorem GI.step {x y a b : Int} (h : GI x y a b) (hb : b ≠ 0) : GI x y b (a.fmod b) := let s := gcd_step h.1 h.2.1 hb; ⟨h.2.1, s.1, s.2.2.trans h.2.2⟩
theorem GI.less {x y a b : Int} (h : GI x y a b) (hb : b ≠ 0) : (a.fmod b).toNat < b.toNat := (gcd_step h.1 h.2.1 hb).2.1
theorem GI.last {x y a b : Int} (h : GI x y a b) (hb : b = 0) : a = (Int.gcd x y : Int) := by
  obtain ⟨h1, h2, h3⟩ := h
  subst hb
  rw [← h3, Int.gcd_zero_right]; lia
theorem GI.start' {x y : Int} (hx : 0 ≤ x) (hy : 0 ≤ y) : GI x y x y := ⟨hx, hy, rfl⟩
theorem GI.lastA {x y a b : Int} (h : GI x y a b) (hb : b = 0) : iabs a = (Int.gcd x y : Int) := by
  have := h.last hb
  have h1 := h.1
  unfold iabs; split <;> lia
def PRatio (news : List (Addr × Obj)) (m e : Int) (r : Value) (n' : List (Addr × Obj)) : Prop := ∃ x dx h1 h2 t1 t2 t3 t4, r = .ref x ∧ n' = (x, instObj 147 dx) :: (dx, dictOf [⟨h1, .str (Str.ofString "top") t1, .int m t3⟩, ⟨h2, .str (Str.ofString "bottom") t2, .int e t4⟩] 2) :: news ∧ AllLt dx news ∧ @LT.lt Nat _ dx x
theorem end_ratio {h₀ h' : Heap} {L : Addr} {m : PySem.Str → Option Value} {s : Shared} {Q : Value → Shared → Prop} {news news' : List (Addr × Obj)} {tk' : Nat} {x y x' y' h1 h2 : Int} {a dx : Addr} {t1 t2 t3 t4 : Tok} (hret : Ret h₀ L m s Q (PRatio news x y)) (F : Fr h₀ L h' m) (N : News h₀ L h' news') (e1 : x' = x) (e2 : y' = y)
    (i1 : (a, instObj 147 dx) ∈ news') (i2 : (dx, dictOf [⟨h1, .str (Str.ofString "top") t1, .int x' t3⟩, ⟨h2, .str (Str.ofString "bottom") t2, .int y' t4⟩] 2) ∈ news') (hs : ∀ p ∈ news, p ∈ news') (l1 : AllLt dx news) (l2 : @LT.lt Nat _ dx a) : Q (.ref a) { s with heap := h', toks := tk' } := by
  subst e1; subst e2
  refine hret _ _ _ ((a, instObj 147 dx) :: (dx, dictOf [⟨h1, .str (Str.ofString "top") t1, .int x' t3⟩, ⟨h2, .str (Str.ofString "bottom") t2, .int y' t4⟩] 2) :: news) F (news_sub N ?_) ⟨a, dx, h1, h2, t1, t2, t3, t4, rfl, rfl, l1, l2⟩
  intro p hp
  rcases List.mem_cons.mp hp with rfl | hp
  · exact i1
  rcases List.mem_cons.mp hp with rfl | hp
  · exact i2
  exact hs p hp
theorem GI.last' {x y a b : Int} (h : GI x y a b) (hb : ¬ b ≠ 0) : a = (Int.gcd x y : Int) := h.last (by lia)

theorem c_gcd (x y : Int) (t t1 : Tok) (news : List (Addr × Obj)) : Ctr 158 [.int x t, .int y t1] news 20 200 (PInt news (Int.gcd x y : Int)) := by
  intro w mean mg mb dp un gd cn cs a ccd cl outer A₀ base h₀ L m s Q E B F X N T hk hd hu hret
  k_with "exec While Compare cons nil" => k_while (fun (_ : List Int) a b => GI x y a b) (fun _ _ b => b.toNat) "one" "other"
  k_with "state" => first | exact GI.start _ _ | exact GI.step (by assumption) (by assumption)
  k_with "measure" => exact GI.less (by assumption) (by assumption)
  (refine wpAny_call ?_; k_dflt cell_enter)
  repeat' (first | (k_unfold; (try dsimp only)) | (k_end; wrow_close) | (k_here; (with_reducible show wpAny _ _ (call (Value.builtin "abs") (_ :: _)) _ _ _); with_reducible ((refine call_iabs ?_); intro _ _)) | walk1 | (dsimp only; first | (with_reducible show wpAny _ _ (call _ (_ :: _)) _ _ _) | walk1) | (leave1; walk_say "STEP leave1"; try dsimp only) | fail "no step")
  all_goals (refine' end_int hret ?e ?F ?N ?hs; (case F => k_asm); (case N => k_asm); (case hs => (intro p hp; repeat' (first | exact hp | apply List.mem_cons_of_mem))); (case e => exact GI.last (by assumption) (by assumption)))
  k_with_none
theorem c_common (x y : Int) (t t1 : Tok) (hx : 0 ≤ x) (hy : 0 ≤ y) (news : List (Addr × Obj)) : Ctr 322 [.int x t, .int y t1] news 20 200 (PInt news (Int.gcd x y : Int)) := by
  intro w mean mg mb dp un gd cn cs a ccd cl outer A₀ base h₀ L m s Q E B F X N T hk hd hu hret
  k_with "exec While Compare cons nil" => k_while (fun (_ : List Int) a b => GI x y a b) (fun _ _ b => b.toNat) "one" "other"
  k_with "state" => first | exact GI.start' (by assumption) (by assumption) | exact GI.step (by assumption) (by assumption)
  k_with "measure" => exact GI.less (by assumption) (by assumption)
  (refine wpAny_call ?_; k_dflt cell_enter)
  repeat' (first | (k_unfold; (try dsimp only)) | (k_end; wrow_close) | (k_here; (with_reducible show wpAny _ _ (call (Value.builtin "abs") (_ :: _)) _ _ _); with_reducible ((refine call_iabs ?_); intro _ _)) | walk1 | (dsimp only; first | (with_reducible show wpAny _ _ (call _ (_ :: _)) _ _ _) | walk1) | (leave1; walk_say "STEP leave1"; try dsimp only) | fail "no step")
  all_goals (refine' end_int hret ?e ?F ?N ?hs; (case F => k_asm); (case N => k_asm); (case hs => (intro p hp; repeat' (first | exact hp | apply List.mem_cons_of_mem))); (case e => exact GI.lastA (by assumption) (by assumption)))
  k_with_none
theorem c_made1 (x y : Int) (t t1 : Tok) (h : y = 1) (news : List (Addr × Obj)) : Ctr 165 [.int x t, .int y t1] news 20 200 (PInt news x) := by
  intro w mean mg mb dp un gd cn cs a ccd cl outer A₀ base h₀ L m s Q E B F X N T hk hd hu hret
  skip
  (refine wpAny_call ?_; k_dflt cell_enter)
  k_steps
  all_goals (refine' end_int hret ?e ?F ?N ?hs; (case F => k_asm); (case N => k_asm); (case hs => (intro p hp; repeat' (first | exact hp | apply List.mem_cons_of_mem))); (case e => rfl))
theorem c_made2 (x y : Int) (t t1 : Tok) (h : ¬ y = 1) (news : List (Addr × Obj)) : Ctr 165 [.int x t, .int y t1] news 20 200 (PRatio news x y) := by
  intro w mean mg mb dp un gd cn cs a ccd cl outer A₀ base h₀ L m s Q E B F X N T hk hd hu hret
  skip
  (refine wpAny_call ?_; k_dflt cell_enter)
  k_steps
  all_goals (refine' end_ratio hret ?F ?N ?e1 ?e2 ?i1 ?i2 ?hs ?l1 ?l2; (case F => k_asm); (case N => k_asm); (case i1 => k_mem); (case i2 => k_mem); (case hs => (intro p hp; repeat' (first | exact hp | apply List.mem_cons_of_mem))); (case l1 => (first | assumption | exact allLt_of (by assumption) | exact And.right (by assumption) | exact And.right (And.right (by assumption)) | exact And.right (And.right (And.right (by assumption))) | exact And.right (And.right (And.right (And.right (by assumption)))) | exact And.right (And.right (And.right (And.right (And.right (by assumption))))) | exact And.right (And.right (And.right (And.right (And.right (And.right (by assumption)))))) | exact And.right (And.right (And.right (And.right (And.right (And.right (And.right (by assumption))))))) | exact And.right (And.right (And.right (And.right (And.right (And.right (And.right (And.right (by assumption)))))))) | exact And.right (And.right (And.right (And.right (And.right (And.right (And.right (And.right (And.right (by assumption))))))))) | exact And.right (And.right (And.right (And.right (And.right (And.right (And.right (And.right (And.right (And.right (by assumption)))))))))) | exact And.right (And.right (And.right (And.right (And.right (And.right (And.right (And.right (And.right (And.right (And.right (by assumption))))))))))) | exact And.right (And.right (And.right (And.right (And.right (And.right (And.right (And.right (And.right (And.right (And.right (And.right (by assumption)))))))))))) | exact And.right (And.right (And.right (And.right (And.right (And.right (And.right (And.right (And.right (And.right (And.right (And.right (And.right (by assumption))))))))))))) | exact And.right (And.right (And.right (And.right (And.right (And.right (And.right (And.right (And.right (And.right (And.right (And.right (And.right (And.right (by assumption)))))))))))))) | exact And.right (And.right (And.right (And.right (And.right (And.right (And.right (And.right (And.right (And.right (And.right (And.right (And.right (And.right (And.right (by assumption))))))))))))))) | exact And.right (And.right (And.right (And.right (And.right (And.right (And.right (And.right (And.right (And.right (And.right (And.right (And.right (And.right (And.right (And.right (by assumption)))))))))))))))))); (case l2 => assumption); (case e1 => rfl); (case e2 => rfl))
theorem c_rat1 (x y : Int) (t t1 : Tok) (h0 : ¬ y < 0) (hg : (Int.gcd x y : Int) ≠ 0) (hl : (Int.gcd x y : Int).natAbs.log2 < 9000) (h : y.fdiv (Int.gcd x y : Int) = 1) (news : List (Addr × Obj)) : Ctr 172 [.int x t, .int y t1] news 40 400 (PInt news (x.fdiv (Int.gcd x y : Int))) := by
  intro w mean mg mb dp un gd cn cs a ccd cl outer A₀ base h₀ L m s Q E B F X N T hk hd hu hret
  skip
  (refine wpAny_call ?_; k_dflt cell_enter)
  repeat' (first | (k_unfold; (try dsimp only)) | (k_end; wrow_close) | ((with_reducible show wpAny _ _ (call _ (_ :: _)) _ _ _); first | (k_here; (with_reducible show wpAny _ _ (call (Value.ref 165) (_ :: _)) _ _ _); with_reducible (k_dflt (refine' use (c_made1 _ _ _ _ ?zp1 _) ?zk1 ?zk2 ?zk3 ?zk4 ?zk5 ?zk6 ?zk7 ?zk8 ?_; (case zk1 => k_asm); (case zk2 => k_asm); (case zk3 => k_asm); (case zk4 => k_asm); (case zk5 => k_asm); (case zk6 => first | exact rfl | assumption); (case zk7 => ktr_room); (case zk8 => ktr_units); (case zp1 => assumption); k_whole); intro r9 h9 tk9 n9 F9 N9 p9; k_dflt (obtain ⟨e9, t9, e8⟩ := p9; subst e9; subst e8); (try dsimp only); (try k_sweep); (try k_fold))) | (k_here; (with_reducible show wpAny _ _ (call (Value.ref 158) (_ :: _)) _ _ _); with_reducible (k_dflt (refine' use (c_gcd _ _ _ _ _) ?zk1 ?zk2 ?zk3 ?zk4 ?zk5 ?zk6 ?zk7 ?zk8 ?_; (case zk1 => k_asm); (case zk2 => k_asm); (case zk3 => k_asm); (case zk4 => k_asm); (case zk5 => k_asm); (case zk6 => first | exact rfl | assumption); (case zk7 => ktr_room); (case zk8 => ktr_units); k_whole); intro r9 h9 tk9 n9 F9 N9 p9; k_dflt (obtain ⟨e9, t9, e8⟩ := p9; subst e9; subst e8); (try dsimp only); (try k_sweep); (try k_fold)))) | (k_here; (with_reducible show wpAny _ _ (binaryOp Operator.FloorDiv (Value.int _ _) (Value.int _ _)) _ _ _); with_reducible (k_dflt (refine' floordiv_int ?zhb ?_ (Or.inl ?zhp); (case zhb => first | assumption | lia); (case zhp => first | assumption | exact PyProof.noPylong_of_log2 (by first | assumption | lia)); k_whole))) | walk1 | (dsimp only; first | (with_reducible show wpAny _ _ (call _ (_ :: _)) _ _ _) | (with_reducible show wpAny _ _ (binaryOp _ _ _) _ _ _) | walk1) | (leave1; walk_say "STEP leave1"; try dsimp only) | fail "no step")
  all_goals (refine' end_int hret ?e ?F ?N ?hs; (case F => k_asm); (case N => k_asm); (case hs => (intro p hp; repeat' (first | exact hp | apply List.mem_cons_of_mem))); (case e => rfl))
theorem c_rat2 (x y : Int) (t t1 : Tok) (h0 : ¬ y < 0) (hg : (Int.gcd x y : Int) ≠ 0) (hl : (Int.gcd x y : Int).natAbs.log2 < 9000) (h : ¬ y.fdiv (Int.gcd x y : Int) = 1) (news : List (Addr × Obj)) : Ctr 172 [.int x t, .int y t1] news 40 400 (PRatio news (x.fdiv (Int.gcd x y : Int)) (y.fdiv (Int.gcd x y : Int))) := by
  intro w mean mg mb dp un gd cn cs a ccd cl outer A₀ base h₀ L m s Q E B F X N T hk hd hu hret
  skip
  (refine wpAny_call ?_; k_dflt cell_enter)
  repeat' (first | (k_unfold; (try dsimp only)) | (k_end; wrow_close) | ((with_reducible show wpAny _ _ (call _ (_ :: _)) _ _ _); first | (k_here; (with_reducible show wpAny _ _ (call (Value.ref 165) (_ :: _)) _ _ _); with_reducible (k_dflt (refine' use (c_made2 _ _ _ _ ?zp1 _) ?zk1 ?zk2 ?zk3 ?zk4 ?zk5 ?zk6 ?zk7 ?zk8 ?_; (case zk1 => k_asm); (case zk2 => k_asm); (case zk3 => k_asm); (case zk4 => k_asm); (case zk5 => k_asm); (case zk6 => first | exact rfl | assumption); (case zk7 => ktr_room); (case zk8 => ktr_units); (case zp1 => assumption); k_whole); intro r9 h9 tk9 n9 F9 N9 p9; k_dflt (obtain ⟨x9, d9, ha9, hb9, ta9, tb9, tc9, td9, e8, e9, l9, l8⟩ := p9; subst e9; subst e8; (try simp only [AllLt, and_true] at l9)); (try dsimp only); (try k_sweep); (try k_fold))) | (k_here; (with_reducible show wpAny _ _ (call (Value.ref 158) (_ :: _)) _ _ _); with_reducible (k_dflt (refine' use (c_gcd _ _ _ _ _) ?zk1 ?zk2 ?zk3 ?zk4 ?zk5 ?zk6 ?zk7 ?zk8 ?_; (case zk1 => k_asm); (case zk2 => k_asm); (case zk3 => k_asm); (case zk4 => k_asm); (case zk5 => k_asm); (case zk6 => first | exact rfl | assumption); (case zk7 => ktr_room); (case zk8 => ktr_units); k_whole); intro r9 h9 tk9 n9 F9 N9 p9; k_dflt (obtain ⟨e9, t9, e8⟩ := p9; subst e9; subst e8); (try dsimp only); (try k_sweep); (try k_fold)))) | (k_here; (with_reducible show wpAny _ _ (binaryOp Operator.FloorDiv (Value.int _ _) (Value.int _ _)) _ _ _); with_reducible (k_dflt (refine' floordiv_int ?zhb ?_ (Or.inl ?zhp); (case zhb => first | assumption | lia); (case zhp => first | assumption | exact PyProof.noPylong_of_log2 (by first | assumption | lia)); k_whole))) | walk1 | (dsimp only; first | (with_reducible show wpAny _ _ (call _ (_ :: _)) _ _ _) | (with_reducible show wpAny _ _ (binaryOp _ _ _) _ _ _) | walk1) | (leave1; walk_say "STEP leave1"; try dsimp only) | fail "no step")
  all_goals (refine' end_ratio hret ?F ?N ?e1 ?e2 ?i1 ?i2 ?hs ?l1 ?l2; (case F => k_asm); (case N => k_asm); (case i1 => k_mem); (case i2 => k_mem); (case hs => (intro p hp; repeat' (first | exact hp | apply List.mem_cons_of_mem))); (case l1 => (first | assumption | exact allLt_of (by assumption) | exact And.right (by assumption) | exact And.right (And.right (by assumption)) | exact And.right (And.right (And.right (by assumption))) | exact And.right (And.right (And.right (And.right (by assumption)))) | exact And.right (And.right (And.right (And.right (And.right (by assumption))))) | exact And.right (And.right (And.right (And.right (And.right (And.right (by assumption)))))) | exact And.right (And.right (And.right (And.right (And.right (And.right (And.right (by assumption))))))) | exact And.right (And.right (And.right (And.right (And.right (And.right (And.right (And.right (by assumption)))))))) | exact And.right (And.right (And.right (And.right (And.right (And.right (And.right (And.right (And.right (by assumption))))))))) | exact And.right (And.right (And.right (And.right (And.right (And.right (And.right (And.right (And.right (And.right (by assumption)))))))))) | exact And.right (And.right (And.right (And.right (And.right (And.right (And.right (And.right (And.right (And.right (And.right (by assumption))))))))))) | exact And.right (And.right (And.right (And.right (And.right (And.right (And.right (And.right (And.right (And.right (And.right (And.right (by assumption)))))))))))) | exact And.right (And.right (And.right (And.right (And.right (And.right (And.right (And.right (And.right (And.right (And.right (And.right (And.right (by assumption))))))))))))) | exact And.right (And.right (And.right (And.right (And.right (And.right (And.right (And.right (And.right (And.right (And.right (And.right (And.right (And.right (by assumption)))))))))))))) | exact And.right (And.right (And.right (And.right (And.right (And.right (And.right (And.right (And.right (And.right (And.right (And.right (And.right (And.right (And.right (by assumption))))))))))))))) | exact And.right (And.right (And.right (And.right (And.right (And.right (And.right (And.right (And.right (And.right (And.right (And.right (And.right (And.right (And.right (And.right (by assumption)))))))))))))))))); (case l2 => assumption); (case e1 => rfl); (case e2 => rfl))
theorem split_ne (x y : PySem.Str) : PySem.Txt.split x y ≠ [] := by
  unfold PySem.Txt.split
  split
  · simp
  · split
    · simp
    · rw [PySem.StrLaws.partsBetween_eq]
      obtain ⟨p, r, e⟩ := PySem.StrLaws.partsFrom_ne x y.length 0 (PySem.Builtin.Str.occurrences x y 0 x.length (x.length + 1))
      rw [e]; simp
def S (l : List Nat) : PySem.Str := ⟨l.toArray⟩
theorem S_len (l : List Nat) : (S l).length = l.length := by simp [S, PySem.Str.length]
theorem S_cps (l : List Nat) : (S l).cps.toList = l := by simp [S]
theorem S_app (a b : List Nat) : S a ++ S b = S (a ++ b) := PySem.Str.ext' (by rw [PySem.Str.cps_append]; simp [S])
theorem S_inj {a b : List Nat} : S a = S b ↔ a = b := ⟨fun h => by rw [← S_cps a, h, S_cps], fun h => by rw [h]⟩
theorem S_of (x : PySem.Str) : x = S x.cps.toList := PySem.Str.ext' (by simp [S])
theorem S_of' {x : PySem.Str} {l : List Nat} (h : x.cps.toList = l) : x = S l := by rw [← h]; exact S_of x
theorem slice_eq (x : PySem.Str) (l u : Option Int) : PySem.Txt.slice x l u = PySem.StrLaws.sliceText x l u := rfl
theorem slice_to (l : List Nat) {k : Int} (h0 : 0 ≤ k) (h1 : k ≤ l.length) : PySem.Txt.slice (S l) none (some k) = S (l.take k.toNat) := by
  rw [slice_eq, PySem.StrLaws.sliceText_to ⟨h0, by rw [S_cps]; exact h1⟩, S_cps]
  simp [S]
theorem slice_from (l : List Nat) {k : Int} (h0 : 0 ≤ k) (h1 : k ≤ l.length) : PySem.Txt.slice (S l) (some k) none = S (l.drop k.toNat) := by
  rw [slice_eq, PySem.StrLaws.sliceText_from ⟨h0, by rw [S_cps]; exact h1⟩, S_cps]
  have e : ((l.length : Int) - k).toNat = l.length - k.toNat := by lia
  rw [e, List.take_of_length_le (by simp)]
  rfl
theorem slice_nil_to {k : Int} (h0 : 0 ≤ k) : PySem.Txt.slice (S []) none (some k) = S [] := by
  have h := PySem.Txt.slice_le (S []) none (some k)
  rw [S_len] at h
  have h2 : (PySem.Txt.slice (S []) none (some k)).cps.toList = [] := List.eq_nil_of_length_eq_zero (by
    have : (PySem.Txt.slice (S []) none (some k)).cps.size = 0 := by simpa [PySem.Str.length] using h
    simpa using this)
  exact S_of' h2
theorem slice_nil_from {k : Int} (h0 : 0 ≤ k) : PySem.Txt.slice (S []) (some k) none = S [] := by
  have h := PySem.Txt.slice_le (S []) (some k) none
  rw [S_len] at h
  have h2 : (PySem.Txt.slice (S []) (some k) none).cps.toList = [] := List.eq_nil_of_length_eq_zero (by
    have : (PySem.Txt.slice (S []) (some k) none).cps.size = 0 := by simpa [PySem.Str.length] using h
    simpa using this)
  exact S_of' h2
theorem slice_one (c : Nat) (l : List Nat) : PySem.Txt.slice (S (c :: l)) none (some 1) = S [c] := by
  rw [slice_to (c :: l) (by decide) (by simp; lia)]; rfl
theorem slice_tail (c : Nat) (l : List Nat) : PySem.Txt.slice (S (c :: l)) (some 1) none = S l := by
  rw [slice_from (c :: l) (by decide) (by simp; lia)]; rfl
theorem slice_mid (l : List Nat) {i j : Int} (h0 : 0 ≤ i) (h1 : i ≤ j) (h2 : j ≤ l.length) : PySem.Txt.slice (S l) (some i) (some j) = S ((l.drop i.toNat).take (j - i).toNat) := by
  rw [slice_eq, PySem.StrLaws.sliceText_plain ⟨h0, h1, by rw [S_cps]; exact h2⟩, S_cps]
  rfl
theorem contains_one (l : List Nat) (c : Nat) : PySem.Txt.contains (S l) (S [c]) = decide (c ∈ l) := by
  have := PySem.StrLaws.found_one (S l) c
  rw [S_cps] at this
  exact this
theorem cut_uniq {c : Nat} : ∀ {p a u v : List Nat}, c ∉ p → c ∉ a → p ++ c :: u = a ++ c :: v → p = a ∧ u = v
  | [], [], _, _, _, _, h => ⟨rfl, by simpa using h⟩
  | [], x :: a, _, _, _, ha, h => by simp at h; exact absurd h.1 (by intro e; exact ha (by simp [e]))
  | x :: p, [], _, _, hp, _, h => by simp at h; exact absurd h.1 (by intro e; exact hp (by simp [e]))
  | x :: p, y :: a, u, v, hp, ha, h => by
    simp only [List.cons_append, List.cons.injEq] at h
    obtain ⟨e1, e2⟩ := cut_uniq (p := p) (a := a) (fun hm => hp (.tail _ hm)) (fun hm => ha (.tail _ hm)) h.2
    exact ⟨by rw [h.1, e1], e2⟩
theorem S_app3 (p : PySem.Str) (c : Nat) (q : PySem.Str) : (p ++ S [c] ++ q).cps.toList = p.cps.toList ++ c :: q.cps.toList := by
  rw [PySem.Str.cps_append, PySem.Str.cps_append, Array.toList_append, Array.toList_append, S_cps]; simp
theorem split_none {l : List Nat} {c : Nat} (h : c ∉ l) : PySem.Txt.split (S l) (S [c]) = [S l] := by
  have h1 := PySem.StrLaws.join_split (S l) (S [c])
  have h2 := PySem.StrLaws.split_free (S l) c
  have h0 := split_ne (S l) (S [c])
  have e : (⟨#[c]⟩ : PySem.Str) = S [c] := rfl
  rw [e] at h2
  generalize PySem.Txt.split (S l) (S [c]) = parts at h1 h2 h0
  match parts, h1, h2 with
  | [], h1, _ => exact absurd h0 (by simp)
  | [p], h1, _ => rw [← h1]; rfl
  | p :: q :: r, h1, _ =>
    exfalso
    have h3 : (PySem.Str.join (S [c]) (p :: q :: r)).cps.toList = l := by rw [h1, S_cps]
    have h4 : PySem.Str.join (S [c]) (p :: q :: r) = p ++ S [c] ++ PySem.Str.join (S [c]) (q :: r) := rfl
    rw [h4, S_app3] at h3
    exact h (by rw [← h3]; simp)
theorem split_one {a b : List Nat} {c : Nat} (ha : c ∉ a) (hb : c ∉ b) : PySem.Txt.split (S (a ++ c :: b)) (S [c]) = [S a, S b] := by
  have h1 := PySem.StrLaws.join_split (S (a ++ c :: b)) (S [c])
  have h2 := PySem.StrLaws.split_free (S (a ++ c :: b)) c
  have e : (⟨#[c]⟩ : PySem.Str) = S [c] := rfl
  rw [e] at h2
  generalize PySem.Txt.split (S (a ++ c :: b)) (S [c]) = parts at h1 h2
  match parts, h1, h2 with
  | [], h1, _ =>
    exfalso
    have h3 : (PySem.Str.join (S [c]) []).cps.toList = a ++ c :: b := by rw [h1, S_cps]
    have h4 : (PySem.Str.join (S [c]) []).cps.toList = [] := rfl
    rw [h4] at h3; simp at h3
  | [p], h1, h2 =>
    exfalso
    have h3 : p = S (a ++ c :: b) := h1
    have := h2 p (by simp)
    rw [h3, S_cps] at this
    exact this (by simp)
  | p :: q :: r, h1, h2 =>
    have h3 : (PySem.Str.join (S [c]) (p :: q :: r)).cps.toList = a ++ c :: b := by rw [h1, S_cps]
    have h4 : PySem.Str.join (S [c]) (p :: q :: r) = p ++ S [c] ++ PySem.Str.join (S [c]) (q :: r) := rfl
    rw [h4, S_app3] at h3
    obtain ⟨e1, e2⟩ := cut_uniq (h2 p (by simp)) ha h3
    match r, e2 with
    | [], e2 =>
      have e3 : q.cps.toList = b := e2
      rw [S_of' e1, S_of' e3]
    | r1 :: r', e2 =>
      exfalso
      have h5 : PySem.Str.join (S [c]) (q :: r1 :: r') = q ++ S [c] ++ PySem.Str.join (S [c]) (r1 :: r') := rfl
      rw [h5, S_app3] at e2
      exact hb (by rw [← e2]; simp)
theorem rstrip_none {l : List Nat} {c : Nat} (h : c ∉ l) : PySem.Txt.rstripChars (S l) (S [c]) = S l := by
  have e1 : ((S l).cps.toList.drop 0).reverse.takeWhile (S [c]).cps.contains = [] := by
    rw [S_cps, List.drop_zero]
    cases hl : l.reverse with
    | nil => rfl
    | cons a r =>
      have ha : a ≠ c := fun e => h (by rw [← List.mem_reverse, hl, e]; simp)
      rw [List.takeWhile_cons]
      have : (S [c]).cps.contains a = false := by simp [S, ha]
      rw [this]; rfl
  have e2 : PySem.stripSame (S [c]).cps.contains false true (S l) = true := by
    unfold PySem.stripSame PySem.stripHi PySem.stripLo
    simp only [Bool.false_eq_true, if_false, if_true, e1]
    simp
  unfold PySem.Txt.rstripChars PySem.Txt.stripBy
  rw [if_pos e2]
theorem replace_none {l : List Nat} {c : Nat} (h : c ∉ l) (z : PySem.Str) : PySem.Txt.replace (S l) (S [c]) z = S l := by
  have := PySem.StrLaws.replace_one (S l) z c
  have e : (⟨#[c]⟩ : PySem.Str) = S [c] := rfl
  rw [e, split_none h] at this
  exact this
theorem occ_none_S {l : List Nat} {c : Nat} (h : c ∉ l) (limit : Nat) (hl : 1 ≤ limit) : PySem.Builtin.Str.occurrences (S l) (S [c]) 0 (S l).length limit = [] := by
  rcases PySem.StrLaws.occ_head (S l) (S [c]) limit hl with ⟨h0, _⟩ | ⟨i, r, h0, ha, _⟩
  · exact h0
  · exfalso
    have h2 := (PySem.StrLaws.subAt_one (S l) c i).mp ha
    rw [S_cps] at h2
    exact h (List.mem_of_getElem? h2)
def lowC (c : Nat) : Nat := if 65 ≤ c ∧ c ≤ 90 then c + 32 else c
def uppC (c : Nat) : Nat := if 97 ≤ c ∧ c ≤ 122 then c - 32 else c
theorem lowerOf_ascii {c : Nat} (h : c < 128) : PySem.Unicode.lowerOf c = [lowC c] :=
  (by decide +kernel : ∀ c, c < 128 → PySem.Unicode.lowerOf c = [lowC c]) c h
theorem upperOf_ascii {c : Nat} (h : c < 128) : PySem.Unicode.upperOf c = [uppC c] :=
  (by decide +kernel : ∀ c, c < 128 → PySem.Unicode.upperOf c = [uppC c]) c h
theorem flat_one (g : Nat → Nat) : ∀ l : List Nat, (l.map fun c => #[g c]).toArray.flatten = (l.map g).toArray := by
  intro l
  apply Array.toList_inj.mp
  rw [Array.toList_flatten]
  induction l with
  | nil => rfl
  | cons a r ih => simpa using ih
theorem placed_one (l : List Nat) (f : Nat → Nat → List Nat) (g : Nat → Nat) (h : ∀ i c, l[i]? = some c → f i c = [g c]) : PySem.placed (S l) f = (l.map g).toArray := by
  unfold PySem.placed
  rw [← flat_one]
  congr 1
  apply Array.ext
  · simp [S]
  · intro i h1 h2
    have hi : i < l.length := by simpa [S] using h1
    have : f i l[i] = [g l[i]] := h i _ (List.getElem?_eq_getElem hi)
    simp [S, this]
theorem lower_S {l : List Nat} (h : ∀ c ∈ l, c < 128) : PySem.Txt.lower (S l) = S (l.map lowC) := by
  refine PySem.Str.ext' ?_
  show PySem.placed (S l) _ = (l.map lowC).toArray
  refine placed_one l _ lowC fun i c hi => ?_
  have hc : c < 128 := h c (List.mem_of_getElem? hi)
  have h1 : (S l).cps[i]? = some c := by simpa [S] using hi
  show PySem.Unicode.lowerAt (S l).cps i = _
  unfold PySem.Unicode.lowerAt
  rw [h1]
  have h2 : (c == 931) = false := by rw [beq_eq_false_iff_ne]; lia
  simp only [h2, Bool.false_and, Bool.false_eq_true, if_false]
  exact lowerOf_ascii hc
theorem upper_S {l : List Nat} (h : ∀ c ∈ l, c < 128) : PySem.Txt.upper (S l) = S (l.map uppC) := by
  refine PySem.Str.ext' ?_
  show PySem.placed (S l) _ = (l.map uppC).toArray
  exact placed_one l _ uppC fun i c hi => upperOf_ascii (h c (List.mem_of_getElem? hi))
def Digs (l : List Nat) : Prop := ∀ c ∈ l, 48 ≤ c ∧ c ≤ 57
def dvF (a : Nat) (l : List Nat) : Nat := l.foldl (fun a c => a * 10 + (c - 48)) a
def dv (l : List Nat) : Nat := dvF 0 l
theorem dvF_app (a : Nat) (l r : List Nat) : dvF a (l ++ r) = dvF (dvF a l) r := List.foldl_append ..
theorem dvF_eq : ∀ (l : List Nat) (a : Nat), dvF a l = a * 10 ^ l.length + dv l
  | [], a => by simp [dvF, dv]
  | c :: l, a => by
    have h1 := dvF_eq l (a * 10 + (c - 48))
    have h2 := dvF_eq l (0 * 10 + (c - 48))
    have h3 : dvF a (c :: l) = dvF (a * 10 + (c - 48)) l := rfl
    have h4 : dv (c :: l) = dvF (0 * 10 + (c - 48)) l := rfl
    rw [h3, h4, h1, h2, List.length_cons, Nat.pow_succ]
    generalize 10 ^ l.length = P
    have : (a * 10 + (c - 48)) * P = a * (P * 10) + (c - 48) * P := by rw [Nat.add_mul, Nat.mul_assoc, Nat.mul_comm 10 P]
    have h5 : (0 * 10 + (c - 48)) * P = (c - 48) * P := by rw [Nat.zero_mul, Nat.zero_add]
    lia
theorem dv_app (l r : List Nat) : dv (l ++ r) = dv l * 10 ^ r.length + dv r := by
  unfold dv; rw [dvF_app, dvF_eq r]; rfl
theorem Digs.app {a b : List Nat} (ha : Digs a) (hb : Digs b) : Digs (a ++ b) := fun c hc => (List.mem_append.mp hc).elim (ha c) (hb c)
theorem Digs.left {a b : List Nat} (h : Digs (a ++ b)) : Digs a := fun c hc => h c (List.mem_append.mpr (.inl hc))
theorem Digs.right {a b : List Nat} (h : Digs (a ++ b)) : Digs b := fun c hc => h c (List.mem_append.mpr (.inr hc))
theorem Digs.not {l : List Nat} (h : Digs l) {c : Nat} (hc : c < 48 ∨ 57 < c) : c ∉ l := fun hm => by have := h c hm; lia
def nd (n : Nat) : List Nat := (Nat.toDigits 10 n).map Char.toNat
theorem str_nat (n : Nat) : PySem.Str.ofString (toString (n : Int)) = S (nd n) := by
  rw [PySem.Str.ofString_eq_toList]
  have : (toString (n : Int)).toList = Nat.toDigits 10 n := by
    show (Int.repr (n : Int)).toList = _
    simp [Int.repr, Nat.repr]
  rw [this]; rfl
theorem str_neg (n : Nat) : PySem.Str.ofString (toString (-((n + 1 : Nat) : Int))) = S (45 :: nd (n + 1)) := by
  rw [PySem.Str.ofString_eq_toList]
  have : (toString (-((n + 1 : Nat) : Int))).toList = '-' :: Nat.toDigits 10 (n + 1) := by
    show (Int.repr (Int.negSucc n)).toList = _
    simp [Int.repr, Nat.repr]
  rw [this]; rfl
theorem nd_small {n : Nat} (h : n < 10) : nd n = [48 + n] := by
  unfold nd
  have : Nat.toDigits 10 n = [Nat.digitChar n] := Nat.toDigits_of_lt_base h
  rw [this]
  exact (by decide : ∀ n, n < 10 → [Nat.digitChar n].map Char.toNat = [48 + n]) n h
theorem nd_step {n : Nat} (h : 10 ≤ n) : nd n = nd (n / 10) ++ [48 + n % 10] := by
  unfold nd
  have h1 : Nat.toDigits 10 n = Nat.toDigits 10 (n / 10) ++ [Nat.digitChar (n % 10)] := Nat.toDigits_of_base_le (by decide) h
  rw [h1, List.map_append]
  have h2 := (by decide : ∀ n, n < 10 → [Nat.digitChar n].map Char.toNat = [48 + n]) (n % 10) (Nat.mod_lt _ (by decide))
  rw [h2]
theorem nd_all (n : Nat) : Digs (nd n) ∧ dv (nd n) = n ∧ nd n ≠ [] ∧ (∀ k, n < 10 ^ k → 0 < k → (nd n).length ≤ k) := by
  induction n using Nat.strongRecOn with
  | _ n ih =>
    by_cases h : n < 10
    · rw [nd_small h]
      refine ⟨fun c hc => ?_, ?_, by simp, fun k _ hk => by simp; lia⟩
      · have := List.mem_singleton.mp hc; lia
      · show 0 * 10 + (48 + n - 48) = n; lia
    · obtain ⟨h1, h2, h3, h4⟩ := ih (n / 10) (by lia)
      rw [nd_step (by lia)]
      refine ⟨h1.app fun c hc => ?_, ?_, by simp, fun k hk hk0 => ?_⟩
      · have := List.mem_singleton.mp hc; have := Nat.mod_lt n (by decide : 10 > 0); lia
      · rw [dv_app, h2]
        show n / 10 * 10 ^ 1 + (0 * 10 + (48 + n % 10 - 48)) = n
        lia
      · rw [List.length_append]
        cases k with
        | zero => lia
        | succ k =>
          have hk1 : 0 < k := by
            cases k with
            | zero => simp at hk; lia
            | succ k => lia
          have : n / 10 < 10 ^ k := by
            rw [Nat.pow_succ] at hk
            exact Nat.div_lt_of_lt_mul (by rw [Nat.mul_comm]; exact hk)
          have := h4 k this hk1
          simp; lia
theorem find_fig {c : Nat} (h : 48 ≤ c ∧ c ≤ 57) : PySem.Builtin.Str.occurrences (PySem.Str.ofString "0123456789abcdef") (S [c]) 0 (PySem.Str.ofString "0123456789abcdef").length 1 = [c - 48] :=
  (by decide +kernel : ∀ c, c < 58 → 48 ≤ c → PySem.Builtin.Str.occurrences (PySem.Str.ofString "0123456789abcdef") (S [c]) 0 (PySem.Str.ofString "0123456789abcdef").length 1 = [c - 48]) c (by lia) h.1

theorem lit_hash : PySem.Str.ofString "#" = S [35] := by decide +kernel
theorem lit_slash : PySem.Str.ofString "/" = S [47] := by decide +kernel
theorem lit_dot : PySem.Str.ofString "." = S [46] := by decide +kernel
theorem lit_zero : PySem.Str.ofString "0" = S [48] := by decide +kernel
section
variable {prog : Program} {w : World} {A : Around} {E : Value → Shared → Prop} {s : Shared} {l : List Nat} {t u : Tok} {Q : Value → Shared → Prop}
theorem r_rstrip (h : 35 ∉ l) (hl : l.length ≤ 100000) (hq : ∀ t' k, Q (.str (S l) t') { s with toks := k }) :
    wpAny (model prog w) A (call (.builtin "str.rstrip") [.str (S l) t, .str (PySem.Str.ofString "#") u]) Q E s := by
  refine SC.rstripChars (fun t' k => ?_) (by rw [S_len, sizeLine_eq]; lia)
  rw [lit_hash, rstrip_none h]
  exact hq t' k
theorem r_len (hl : l.length ≤ 100000) (hq : ∀ t' k, Q (.int (l.length : Int) t') { s with toks := k }) :
    wpAny (model prog w) A (call (.builtin "len") [.str (S l) t]) Q E s := by
  refine SBL.len (by rw [S_len]; lia) ?_
  rw [S_len]; exact hq _ _
theorem r_index {c : Nat} (h : 48 ≤ c ∧ c ≤ 57) (hA : A.handled = none) (hq : ∀ t' k, Q (.int ((c - 48 : Nat) : Int) t') { s with toks := k }) :
    wpAny (model prog w) A (call (.builtin "str.index") [.str (PySem.Str.ofString "0123456789abcdef") t, .str (S [c]) u]) Q E s := by
  refine index_or hA (fun _ h0 => ?_) fun _ _ => ?_
  · rw [find_fig h] at h0; cases h0
  · have e : Txt.find (PySem.Str.ofString "0123456789abcdef") (S [c]) = ((c - 48 : Nat) : Int) := by unfold Txt.find; rw [find_fig h]
    rw [e]; exact hq _ _
end
theorem codes_S (l : List Nat) : (KStt.codes (S l)).map Int.toNat = l := by
  unfold KStt.codes
  rw [S_cps, List.map_map]
  exact (List.map_congr_left (g := _root_.id) fun c _ => Int.toNat_natCast c).trans (List.map_id _)
theorem digs_at {l : List Nat} {pre post : List Int} {n : Nat} (h : Digs l) (e : KStt.codes (S l) = pre ++ (n : Int) :: post) : 48 ≤ n ∧ n ≤ 57 := by
  refine h n ?_
  rw [← codes_S l, e, List.map_append, List.map_cons]
  simp
theorem dv_snocI {pre : List Int} {n : Nat} {f : Int} (h : f = (dv (pre.map Int.toNat) : Int)) : f * 10 + ((n - 48 : Nat) : Int) = (dv ((pre ++ [(n : Int)]).map Int.toNat) : Int) := by
  rw [h, List.map_append, dv_app]
  show _ = (((dv (pre.map Int.toNat) * 10 ^ 1 + (0 * 10 + ((n : Int).toNat - 48)) : Nat)) : Int)
  rw [Int.toNat_natCast]; lia
theorem dv_lastI {l : List Nat} {f : Int} (h : f = (dv ((KStt.codes (S l)).map Int.toNat) : Int)) : f = (dv l : Int) := by rw [h, codes_S]
theorem slice_figs : PySem.Txt.slice (PySem.Str.ofString "0123456789abcdef") none (some 10) = S [48, 49, 50, 51, 52, 53, 54, 55, 56, 57] := by decide +kernel
theorem in_figs {n : Nat} (h : 48 ≤ n ∧ n ≤ 57) : PySem.Txt.contains (PySem.Txt.slice (PySem.Str.ofString "0123456789abcdef") none (some 10)) (S [n]) = true := by
  rw [slice_figs, contains_one, decide_eq_true_eq]
  have : n = 48 ∨ n = 49 ∨ n = 50 ∨ n = 51 ∨ n = 52 ∨ n = 53 ∨ n = 54 ∨ n = 55 ∨ n = 56 ∨ n = 57 := by lia
  simpa using this
theorem ascii_S {l : List Nat} (h : Digs l) : ((S l).cps.all (· < 128)) = true := by
  rw [← Array.all_toList, S_cps, List.all_eq_true]
  intro c hc
  have := h c hc
  exact decide_eq_true (by lia)
theorem size_S {l : List Nat} (h : l.length ≤ 100000) : (S l).cps.size ≤ sizeLine := by
  have := S_len l
  unfold PySem.Str.length at this
  rw [this, sizeLine_eq]; lia
theorem digs_in {l : List Nat} {n : Nat} (h : Digs l) (hn : n ∈ (S l).cps.toList) : 48 ≤ n ∧ n ≤ 57 := h n (by rwa [S_cps] at hn)
theorem bools_rep : ∀ n : Nat, LSm.BoolsAre (List.replicate n (.bool true)) (List.replicate n true)
  | 0 => .nil
  | n + 1 => by rw [List.replicate_succ, List.replicate_succ]; exact .cons _ (bools_rep n)
theorem all_rep (n : Nat) : (List.replicate n true).all id = true := by simp
def PPair (news : List (Addr × Obj)) (x : PySem.Str) (k : Int) (r : Value) (n' : List (Addr × Obj)) : Prop := ∃ a t1 t2, r = .ref a ∧ n' = (a, { cls := .type "tuple", data := .seq #[.str x t1, .int k t2] }) :: news ∧ AllLt a news
theorem end_pair {h₀ h' : Heap} {L : Addr} {m : PySem.Str → Option Value} {s : Shared} {Q : Value → Shared → Prop} {news news' : List (Addr × Obj)} {tk' : Nat} {x : PySem.Str} {k k' : Int} {a : Addr} {t1 t2 : Tok} (hret : Ret h₀ L m s Q (PPair news x k)) (F : Fr h₀ L h' m) (N : News h₀ L h' news') (e1 : k' = k)
    (i1 : (a, ({ cls := .type "tuple", data := .seq #[.str x t1, .int k' t2] } : Obj)) ∈ news') (hs : ∀ p ∈ news, p ∈ news') (l1 : AllLt a news) : Q (.ref a) { s with heap := h', toks := tk' } := by
  subst e1
  refine hret _ _ _ ((a, { cls := .type "tuple", data := .seq #[.str x t1, .int k' t2] }) :: news) F (news_sub N ?_) ⟨a, t1, t2, rfl, rfl, l1⟩
  intro p hp
  rcases List.mem_cons.mp hp with rfl | hp
  · exact i1
  exact hs p hp

theorem c_parted (l : List Nat) (t : Tok) (h : 35 ∉ l) (hl : l.length ≤ 100000) (news : List (Addr × Obj)) : Ctr 192 [.str (S l) t] news 20 200 (PPair news (S l) 0) := by
  intro w mean mg mb dp un gd cn cs a ccd cl outer A₀ base h₀ L m s Q E B F X N T hk hd hu hret
  skip
  (refine wpAny_call ?_; k_dflt cell_enter)
  repeat' (first | (k_unfold; (try dsimp only)) | (k_end; wrow_close) | ((with_reducible show wpAny _ _ (call _ (_ :: _)) _ _ _); first | (k_here; (with_reducible show wpAny _ _ (call (Value.builtin "len") (_ :: _)) _ _ _); with_reducible (k_dflt (refine' r_len ?zhl ?_; (case zhl => first | assumption | lia); k_whole); intro _ _)) | (k_here; (with_reducible show wpAny _ _ (call (Value.builtin "str.rstrip") (_ :: _)) _ _ _); with_reducible (k_dflt (refine' r_rstrip ?zh ?zhl ?_; (case zh => first | assumption | exact Digs.not (by assumption) (by decide)); (case zhl => first | assumption | lia); k_whole); intro _ _))) | walk1 | (dsimp only; first | (with_reducible show wpAny _ _ (call _ (_ :: _)) _ _ _) | walk1) | (leave1; walk_say "STEP leave1"; try dsimp only) | fail "no step")
  all_goals (refine' end_pair hret ?F ?N ?e1 ?i1 ?hs ?l1; (case F => k_asm); (case N => k_asm); (case i1 => k_mem); (case hs => (intro p hp; repeat' (first | exact hp | apply List.mem_cons_of_mem))); (case l1 => (first | assumption | exact allLt_of (by assumption) | exact And.right (by assumption) | exact And.right (And.right (by assumption)) | exact And.right (And.right (And.right (by assumption))) | exact And.right (And.right (And.right (And.right (by assumption)))) | exact And.right (And.right (And.right (And.right (And.right (by assumption))))) | exact And.right (And.right (And.right (And.right (And.right (And.right (by assumption)))))) | exact And.right (And.right (And.right (And.right (And.right (And.right (And.right (by assumption))))))) | exact And.right (And.right (And.right (And.right (And.right (And.right (And.right (And.right (by assumption)))))))) | exact And.right (And.right (And.right (And.right (And.right (And.right (And.right (And.right (And.right (by assumption))))))))) | exact And.right (And.right (And.right (And.right (And.right (And.right (And.right (And.right (And.right (And.right (by assumption)))))))))) | exact And.right (And.right (And.right (And.right (And.right (And.right (And.right (And.right (And.right (And.right (And.right (by assumption))))))))))) | exact And.right (And.right (And.right (And.right (And.right (And.right (And.right (And.right (And.right (And.right (And.right (And.right (by assumption)))))))))))) | exact And.right (And.right (And.right (And.right (And.right (And.right (And.right (And.right (And.right (And.right (And.right (And.right (And.right (by assumption))))))))))))) | exact And.right (And.right (And.right (And.right (And.right (And.right (And.right (And.right (And.right (And.right (And.right (And.right (And.right (And.right (by assumption)))))))))))))) | exact And.right (And.right (And.right (And.right (And.right (And.right (And.right (And.right (And.right (And.right (And.right (And.right (And.right (And.right (And.right (by assumption))))))))))))))) | exact And.right (And.right (And.right (And.right (And.right (And.right (And.right (And.right (And.right (And.right (And.right (And.right (And.right (And.right (And.right (And.right (by assumption)))))))))))))))))); (case e1 => lia))
theorem c_worth (l : List Nat) (t t1 : Tok) (h : Digs l) (hl : l.length ≤ 100000) (news : List (Addr × Obj)) : Ctr 180 [.str (S l) t, .int 10 t1] news 20 200 (PInt news (dv l : Int)) := by
  intro w mean mg mb dp un gd cn cs a ccd cl outer A₀ base h₀ L m s Q E B F X N T hk hd hu hret
  k_with "pyIter str" => k_state (fun (pre : List Int) f => f = (dv (pre.map Int.toNat) : Int)) "found"
  k_with "state" => first | rfl | exact dv_snocI (by assumption)
  (refine wpAny_call ?_; k_dflt cell_enter)
  repeat' (first | (k_unfold; (try dsimp only)) | (k_end; wrow_close) | (k_here; (with_reducible show wpAny _ _ (call (Value.builtin "str.index") (_ :: _)) _ _ _); with_reducible (k_dflt (refine' r_index ?zh ?zhA ?_; (case zh => first | assumption | exact digs_at (by assumption) (by assumption) | lia); (case zhA => exact rfl); k_whole); intro _ _)) | walk1 | (dsimp only; first | (with_reducible show wpAny _ _ (call _ (_ :: _)) _ _ _) | walk1) | (leave1; walk_say "STEP leave1"; try dsimp only) | fail "no step")
  all_goals (refine' end_int hret ?e ?F ?N ?hs; (case F => k_asm); (case N => k_asm); (case hs => (intro p hp; repeat' (first | exact hp | apply List.mem_cons_of_mem))); (case e => exact dv_lastI (by assumption)))
  k_with_none
def AllEnd (h₀ : Heap) (L : Addr) (m : PySem.Str → Option Value) (s₁ : Shared) (led : List (Addr × Obj)) (y : Value) (s₃ : Shared) : Prop := y = .bool true ∧ ∃ h' tk', s₃ = { s₁ with heap := h', toks := tk' } ∧ Fr h₀ L h' m ∧ News h₀ L h' led
/-- what a comprehension over an ASCII text asks: each element is the bool True and makes nothing -/
def AllSrc (prog : Program) (w : World) (A : Around) (h₀ : Heap) (L : Addr) (m : PySem.Str → Option Value) (env : Env) (elt : PySem.Expr) (x : PySem.Str) (scope : Scope) (cl : List (PySem.Str × Addr)) (Q : Value → Shared → Prop) (xv : Value) (s₁ : Shared) : Prop :=
  ∃ xt tx news, xv = .str xt tx ∧ (xt.cps.all (· < 128)) = true ∧ xt.cps.size ≤ sizeLine ∧ A.handled = none ∧ Fr h₀ L s₁.heap m ∧ News h₀ L s₁.heap news ∧
    (∀ n u I oI C oC D m₂ ys h tk (E' : Value → Shared → Prop), n ∈ xt.cps.toList → LCg.NsObj oC m₂ → m₂ x = some (.str ⟨#[n]⟩ u) → Fr h₀ L h m → News h₀ L h ((I, oI) :: (C, oC) :: (D, LCg.lst ys) :: news) →
      wpAny (model prog w) A (eval elt (compEnvC scope cl C env)) (AllEnd h₀ L m s₁ ((I, oI) :: (C, oC) :: (D, LCg.lst ys) :: news)) E' { s₁ with heap := h, toks := tk }) ∧
    (∀ D h tk, Fr h₀ L h m → News h₀ L h ((D, LCg.lst (List.replicate xt.cps.size (.bool true))) :: news) → Q (.ref D) { s₁ with heap := h, toks := tk })
section
variable {prog : Program} {w : World} {A : Around} {E : Value → Shared → Prop} {s : Shared} {h₀ : Heap} {L : Addr} {m : PySem.Str → Option Value} {env : Env}
theorem all_rest {elt : PySem.Expr} {x : PySem.Str} {scope : Scope} {cl : List (PySem.Str × Addr)} {Q : Value → Shared → Prop} {xt : PySem.Str} {news : List (Addr × Obj)} {s₁ : Shared}
    (turn : ∀ n u I oI C oC D m₂ ys h tk (E' : Value → Shared → Prop), n ∈ xt.cps.toList → LCg.NsObj oC m₂ → m₂ x = some (.str ⟨#[n]⟩ u) → Fr h₀ L h m → News h₀ L h ((I, oI) :: (C, oC) :: (D, LCg.lst ys) :: news) →
      wpAny (model prog w) A (eval elt (compEnvC scope cl C env)) (AllEnd h₀ L m s₁ ((I, oI) :: (C, oC) :: (D, LCg.lst ys) :: news)) E' { s₁ with heap := h, toks := tk })
    (done : ∀ D h tk, Fr h₀ L h m → News h₀ L h ((D, LCg.lst (List.replicate xt.cps.size (.bool true))) :: news) → Q (.ref D) { s₁ with heap := h, toks := tk }) (s₂ : Shared) (hs : ∃ h, s₂ = { s₁ with heap := h }) :
    ∀ k i, i + k = xt.cps.size → LCg.CompRest prog w A h₀ L m env elt x scope cl s₂ (fun _ => True) (SignAt xt) (LCg.FinE h₀ L m s₂ Q) k i (List.replicate i (.bool true)) news := by
  obtain ⟨hh, rfl⟩ := hs
  intro k
  induction k with
  | zero =>
    intro i hi
    refine LCg.CompRest.zero fun D h tk F N _ => ?_
    have e : i = xt.cps.size := by lia
    subst e
    exact done D h tk F N
  | succ k ih =>
    intro i hi
    refine LCg.CompRest.succ fun v I oI C oC D m₂ h tk E' hP hC hx F N off ne => ?_
    obtain ⟨n, u, hn, rfl⟩ := hP
    refine wpAny_mono (turn n u I oI C oC D m₂ _ h tk E' (by rw [← Array.getElem?_toList] at hn; exact List.mem_of_getElem? hn) hC hx F N) (fun y s₃ hq => ?_) fun _ _ e => e
    obtain ⟨rfl, h', tk', rfl, F', N'⟩ := hq
    refine ⟨h', tk', news, rfl, F', N', off, trivial, ?_⟩
    have := ih (i + 1) (by lia)
    rwa [List.replicate_succ'] at this
theorem all_src {elt : PySem.Expr} {x : PySem.Str} {scope : Scope} {cl : List (PySem.Str × Addr)} {Q : Value → Shared → Prop} {xt : PySem.Str} {tx : Tok} {news : List (Addr × Obj)} {s₁ : Shared}
    (F : Fr h₀ L s₁.heap m) (N : News h₀ L s₁.heap news) (ha : (xt.cps.all (· < 128)) = true) (hsz : xt.cps.size ≤ sizeLine) (hh : A.handled = none)
    (turn : ∀ n u I oI C oC D m₂ ys h tk (E' : Value → Shared → Prop), n ∈ xt.cps.toList → LCg.NsObj oC m₂ → m₂ x = some (.str ⟨#[n]⟩ u) → Fr h₀ L h m → News h₀ L h ((I, oI) :: (C, oC) :: (D, LCg.lst ys) :: news) →
      wpAny (model prog w) A (eval elt (compEnvC scope cl C env)) (AllEnd h₀ L m s₁ ((I, oI) :: (C, oC) :: (D, LCg.lst ys) :: news)) E' { s₁ with heap := h, toks := tk })
    (done : ∀ D h tk, Fr h₀ L h m → News h₀ L h ((D, LCg.lst (List.replicate xt.cps.size (.bool true))) :: news) → Q (.ref D) { s₁ with heap := h, toks := tk }) :
    AllSrc prog w A h₀ L m env elt x scope cl Q (.str xt tx) s₁ := ⟨xt, tx, news, rfl, ha, hsz, hh, F, N, turn, done⟩
theorem all_end {s₁ : Shared} {led : List (Addr × Obj)} {b : Bool} {h' : Heap} {tk' : Nat} (e : b = true) (F : Fr h₀ L h' m) (N : News h₀ L h' led) : AllEnd h₀ L m s₁ led (.bool b) { s₁ with heap := h', toks := tk' } := ⟨by rw [e], h', tk', rfl, F, N⟩
theorem ListComp_ascii {elt iter : PySem.Expr} {x : PySem.Str} {px : Pos} {scope : Scope} {cl : List (PySem.Str × Addr)} {pos : Pos} {Q : Value → Shared → Prop} (_F₀ : Fr h₀ L s.heap m)
    (hclos : closureFor scope env = pure cl) (hcell : ∀ y ∈ scope.names, y.2 ≠ .cell) (hkind : scope.kind = .function)
    (hnames : ∀ y ∈ scope.names, y.2 = .local → scope.names.lookup y.1 = some .local) (hx : scope.names.lookup x = some .local)
    (h : wpAny (model prog w) A (eval iter env) (AllSrc prog w A h₀ L m env elt x scope cl Q) E s)
    (hs : ∀ x, foldedSetIterable iter env x = pure x := by intro _; rfl) :
    wpAny (model prog w) A (eval (.ListComp elt [⟨.Name x px, iter, [], 0⟩] scope pos) env) Q E s := by
  rw [eval_ListComp]
  refine wpAny_comprehension_free (use := none) rfl hs hclos hkind hnames (wpAny_mono h (fun xv s₁ h₁ => ?_) fun _ _ e => e)
  obtain ⟨xt, tx, news, rfl, ha, hsz, hh, F, N, turn, done⟩ := h₁
  refine wpAny_pyIter_ascii ha ?_
  refine LCg.block_U (S := fun _ => True) (Walks.strAscii hh s₁.heap.objs.size xt tx) hsz (fun i h st => by obtain ⟨o, e, _⟩ := st; exact ⟨o, e⟩)
    (fun i h h' o nw st e e' _ _ _ => by obtain ⟨o', q, r⟩ := st; rw [e] at q; cases q; exact ⟨o, e', r⟩) hcell hkind hx ⟨_, Heap.get?_push_size _ rfl, rfl, rfl⟩ (fun b hb => ?_)
    (F.keeps fun _ _ e => Heap.get?_push_of_some _ e) (N.grown fun _ _ e => Heap.get?_push_of_some _ e) (Nat.ne_of_lt F.ns.lt) (next_is_new F) (fun p hp => Nat.ne_of_lt (Heap.lt_size (N p hp).1)) trivial
    (all_rest turn done _ ⟨_, rfl⟩ xt.cps.size 0 (by lia)) ?_
  · rw [List.mem_singleton.mp hb]
    show s₁.heap.objs.size < (s₁.heap.push _).objs.size
    rw [Heap.size_push]; exact Nat.lt_succ_self _
  · intro D C h tk m' ys news' F' N' o1 hn hC₀ hD₀ hCL hDL hCD offC fin
    refine ⟨m', hn, fun h'' hs'' => fin D h'' tk (F'.change hs'' hCL hC₀) (fun p hp => ?_) o1⟩
    refine ⟨hs''.extBut _ _ ?_ (N' p hp).1, (N' p hp).2⟩
    rcases List.mem_cons.mp hp with rfl | hp
    · exact Ne.symm hCD
    · exact offC p hp
end

local macro_rules | `(tactic| walk_at "eval ListComp Compare cons") => `(tactic| (k_here; k_dflt (refine ListComp_ascii (by k_asm) (by with_unfolding_all rfl) (by decide) (by rfl) (by decide) (by rfl) ?_)))
local macro_rules | `(tactic| walk_at "AllSrc") => `(tactic| (k_here; k_dflt (refine' all_src ?F ?N ?ha ?hz ?hh ?_ ?_; (case F => k_asm); (case N => k_asm); (case ha => first | assumption | exact ascii_S (by assumption)); (case hz => exact size_S (by assumption)); (case hh => exact rfl)); k_whole))
local macro_rules | `(tactic| walk_at "AllEnd") => `(tactic| (k_here; k_dflt (refine' all_end ?e ?F ?N; (case F => k_asm); (case N => k_asm); (case e => exact in_figs (digs_in (by assumption) (by assumption))))))
local macro_rules | `(tactic| walk_at "call builtin:all cons nil") => `(tactic| (k_here; k_dflt (refine LSm.all_bools (by k_asm) (by k_asm) (by rfl) (by lsm_list) (bools_rep _) ?_); intro h' tk' F' N'))
local macro_rules | `(tactic| walk_at "eval Name") => `(tactic| (k_here; (with_reducible show wpAny _ _ (eval (Expr.Name _ _) (compEnvC _ _ _ _)) _ _ _); k_dflt (refine' ldCellK ?a ?b ?_; (case a => with_unfolding_all rfl); (case b => exact ⟨_, News.get (by k_asm) (by k_mem), by k_asm⟩); k_whole)))
theorem c_arefig (l : List Nat) (t t1 : Tok) (h : Digs l) (hl : l.length ≤ 100000) (news : List (Addr × Obj)) : Ctr 185 [.str (S l) t, .int 10 t1] news 20 200 (PBool news true) := by
  intro w mean mg mb dp un gd cn cs a ccd cl outer A₀ base h₀ L m s Q E B F X N T hk hd hu hret
  skip
  (refine wpAny_call ?_; k_dflt (refine' code_defC ?k1 ?k2 ?k3 ?k4 ?k5 ?kA ?kF ?kK ?k6 ?k7 ?k8 ?k9 ?kB ?kD ?_ ?c2 ?c3 ?c4; (case kA => exact rfl); (case kF => exact rfl); (case kK => assumption); (case k1 => k_asm); (case k2 => k_asm); (case k3 => k_asm); (case k4 => k_asm); (case k5 => k_asm); (case k6 => k_is); (case k7 => k_is); (case k8 => ktr_room); (case k9 => exact BindsTo.of_eq rfl); (case kB => exact rfl); (case kD => decide +kernel); (case c2 => exact rfl); (case c3 => exact rfl); (case c4 => exact rfl); k_whole; intro g' L' h' tk' cells' FG' F' N' Y' B' X' T' l1; (try k_lt l1); k_cells Y'; (try simp only [List.cons_append, List.nil_append] at N'); (try dsimp only); (try k_lift B'); (try k_fold)))
  k_steps
  all_goals (refine' end_bool hret ?e ?F ?N ?hs; (case F => k_asm); (case N => k_asm); (case hs => (intro p hp; repeat' (first | exact hp | apply List.mem_cons_of_mem))); (case e => exact all_rep _))
theorem ints_app {v : List Value} {y : List Int} (hv : IntsAre v y) : ∀ {u : List Value} {x : List Int}, IntsAre u x → IntsAre (u ++ v) (x ++ y)
  | _, _, .nil => hv
  | _, _, .cons a t r => .cons a t (ints_app hv r)
def EnEnd {α : Type} (P : α → Prop) (s₀ : Shared) (r : α) (s₃ : Shared) : Prop := P r ∧ ∃ tk, s₃ = { s₀ with toks := tk }
def enIdx (f : Nat → Bool) : Nat → List Nat → List Int
  | _, [] => []
  | i, c :: r => if f c = true then (i : Int) :: enIdx f (i + 1) r else enIdx f (i + 1) r
theorem enIdx_snoc (f : Nat → Bool) (c : Nat) : ∀ (l : List Nat) (i : Nat), enIdx f i (l ++ [c]) = enIdx f i l ++ (if f c = true then [((i + l.length : Nat) : Int)] else [])
  | [], i => by simp only [List.nil_append, enIdx, List.length_nil, Nat.add_zero]
  | d :: l, i => by
    have h := enIdx_snoc f c l (i + 1)
    have e : i + 1 + l.length = i + (d :: l).length := by simp only [List.length_cons]; lia
    rw [e] at h
    show (if f d = true then (i : Int) :: enIdx f (i + 1) (l ++ [c]) else enIdx f (i + 1) (l ++ [c])) = (if f d = true then (i : Int) :: enIdx f (i + 1) l else enIdx f (i + 1) l) ++ _
    rw [h]; split <;> simp
/-- what a comprehension «[a for a, b in enumerate(text) if c]» asks -/
def EnSrc (prog : Program) (w : World) (A : Around) (h₀ : Heap) (L : Addr) (m : PySem.Str → Option Value) (env : Env) (c elt : PySem.Expr) (a b : PySem.Str) (scope : Scope) (cl : List (PySem.Str × Addr)) (f : Nat → Bool) (y : PySem.Str) (Q : Flow → Shared → Prop) (xv : Value) (s₁ : Shared) : Prop :=
  ∃ xt tx e it news, xv = .ref e ∧ A.handled = none ∧ Fr h₀ L s₁.heap m ∧ News h₀ L s₁.heap news ∧ IsEnum s₁.heap e it 0 .none ∧ s₁.heap.IsStrIter it "str_ascii_iterator" xt tx 0 ∧ xt.cps.size ≤ sizeLine ∧
    e ≠ it ∧ L ≠ e ∧ L ≠ it ∧ h₀.get? e = none ∧ h₀.get? it = none ∧ (∀ p ∈ news, p.1 ≠ e ∧ p.1 ≠ it) ∧
    (∀ n u v C oC D m₂ ys h tk (E' : Value → Shared → Prop), n ∈ xt.cps.toList → LCg.NsObj oC m₂ → m₂ a = some v → m₂ b = some (.str ⟨#[n]⟩ u) → Fr h₀ L h m → News h₀ L h ((C, oC) :: (D, LCg.lst ys) :: news) →
      wpAny (model prog w) A (isTrue c (compEnvC scope cl C env) (eval c (compEnvC scope cl C env))) (EnEnd (fun r => r = f n) { s₁ with heap := h, toks := tk }) E' { s₁ with heap := h, toks := tk }) ∧
    (∀ n u v C oC D m₂ ys h tk (E' : Value → Shared → Prop), n ∈ xt.cps.toList → LCg.NsObj oC m₂ → m₂ a = some v → m₂ b = some (.str ⟨#[n]⟩ u) → Fr h₀ L h m → News h₀ L h ((C, oC) :: (D, LCg.lst ys) :: news) →
      wpAny (model prog w) A (eval elt (compEnvC scope cl C env)) (EnEnd (fun r => r = v) { s₁ with heap := h, toks := tk }) E' { s₁ with heap := h, toks := tk }) ∧
    (∀ D ys h tk, Fr h₀ L h (fun z => if z = y then some (.ref D) else m z) → News h₀ L h ((D, LCg.lst ys) :: news) → IntsAre ys (enIdx f 0 xt.cps.toList) → Q .next { s₁ with heap := h, toks := tk })
section
variable {prog : Program} {w : World} {A : Around} {E : Value → Shared → Prop} {s : Shared} {h₀ : Heap} {L : Addr} {m : PySem.Str → Option Value} {env : Env}
theorem en_block {elt iter c : PySem.Expr} {a b : PySem.Str} {pa pb tp : Pos} {kk : Nat} {scope : Scope} {cl : List (PySem.Str × Addr)} {pos : Pos} {s₂ : Shared} {e it : Addr} {xt : PySem.Str} {tx : Tok} {f : Nat → Bool} {news : List (Addr × Obj)}
    {RR : Value → Addr → Result → Shared → Prop}
    (hh : A.handled = none) (hei : e ≠ it) (hsz : xt.cps.size ≤ sizeLine) (he : IsEnum s₂.heap e it 0 .none) (hit : s₂.heap.IsStrIter it "str_ascii_iterator" xt tx 0)
    (hcell : ∀ y ∈ scope.names, y.2 ≠ .cell) (hkind : scope.kind = .function) (hxa : scope.names.lookup a = some .local) (hxb : scope.names.lookup b = some .local) (hab : ¬ a = b)
    (F : Fr h₀ L s₂.heap m) (N : News h₀ L s₂.heap news) (hLe : L ≠ e) (hLi : L ≠ it) (he₀ : h₀.get? e = none) (hi₀ : h₀.get? it = none) (off : ∀ p ∈ news, p.1 ≠ e ∧ p.1 ≠ it)
    (test : ∀ n u v C oC D m₂ ys h tk (E' : Value → Shared → Prop), n ∈ xt.cps.toList → LCg.NsObj oC m₂ → m₂ a = some v → m₂ b = some (.str ⟨#[n]⟩ u) → Fr h₀ L h m → News h₀ L h ((C, oC) :: (D, LCg.lst ys) :: news) →
      wpAny (model prog w) A (isTrue c (compEnvC scope cl C env) (eval c (compEnvC scope cl C env))) (EnEnd (fun r => r = f n) { s₂ with heap := h, toks := tk }) E' { s₂ with heap := h, toks := tk })
    (item : ∀ n u v C oC D m₂ ys h tk (E' : Value → Shared → Prop), n ∈ xt.cps.toList → LCg.NsObj oC m₂ → m₂ a = some v → m₂ b = some (.str ⟨#[n]⟩ u) → Fr h₀ L h m → News h₀ L h ((C, oC) :: (D, LCg.lst ys) :: news) →
      wpAny (model prog w) A (eval elt (compEnvC scope cl C env)) (EnEnd (fun r => r = v) { s₂ with heap := h, toks := tk }) E' { s₂ with heap := h, toks := tk })
    (hRR : ∀ D C h tk m' ys, Fr h₀ L h m → News h₀ L h ((D, LCg.lst ys) :: news) → h.Ns C m' → h₀.get? C = none → h₀.get? D = none → C ≠ L → D ≠ L → C ≠ D → (∀ p ∈ news, p.1 ≠ C) → IntsAre ys (enIdx f 0 xt.cps.toList) → RR (.ref D) C (.ok .next) { s₂ with heap := h, toks := tk }) :
    wpAny (model prog w) A (newList []) (fun acc s₃ => wpAny (model prog w) A (newFunctionEnv scope env.globals cl [] env.qual none .none (some env)) (fun cenv s₄ =>
      codeAny (model prog w) A (.compStart (.ListComp elt [⟨.Tuple [.Name a pa, .Name b pb] kk tp, iter, [c], 0⟩] scope pos) 0 (.ref e) acc { cenv with scope := relabel scope env }) (RR acc cenv.locals) s₄) E s₃) E s₂ := by
  refine wpAny_newObj_type (wpAny_newFunctionEnv hcell (by intro y hy; simp at hy) (fun h₁ hns₁ hsb₁ => ?_) hkind)
  dsimp only at hns₁ hsb₁ ⊢
  generalize hH2 : s₂.heap.push { cls := .type "list", dict := none, data := .seq ([] : List Value).toArray } = H2 at hns₁ hsb₁ ⊢
  have hC : H2.objs.size = s₂.heap.objs.size + 1 := by rw [← hH2, Heap.size_push]
  have hDC : s₂.heap.objs.size ≠ H2.objs.size := by rw [hC]; exact Nat.ne_of_lt (Nat.lt_succ_self _)
  have below : ∀ b, b < s₂.heap.objs.size → b ≠ H2.objs.size ∧ b ≠ s₂.heap.objs.size := fun b hb => ⟨by rw [hC]; exact Nat.ne_of_lt (Nat.lt_succ_of_lt hb), Nat.ne_of_lt hb⟩
  have helt : e < s₂.heap.objs.size := Heap.lt_size he
  have hilt : it < s₂.heap.objs.size := by obtain ⟨_, q, _⟩ := hit; exact Heap.lt_size q
  have old : ∀ b o, s₂.heap.get? b = some o → h₁.get? b = some o := fun b o q => hsb₁.extBut b o (below b (Heap.lt_size q)).1 (Heap.get?_push_of_some _ (hH2 ▸ Heap.get?_push_of_some _ q))
  have hacc : h₁.get? s₂.heap.objs.size = some (LCg.lst []) := hsb₁.extBut _ _ hDC (Heap.get?_push_of_some _ (hH2 ▸ Heap.get?_push_size _ rfl))
  have fresh₀ : ∀ a, s₂.heap.objs.size ≤ a → h₀.get? a = none := fun a ha => by
    cases q : h₀.get? a with
    | none => rfl
    | some o' => exact absurd (Heap.lt_size (F.keep a o' q)) (Nat.not_lt.mpr ha)
  have hD₀ : h₀.get? s₂.heap.objs.size = none := fresh₀ _ (Nat.le_refl _)
  have hC₀ : h₀.get? H2.objs.size = none := fresh₀ _ (by rw [hC]; exact Nat.le_succ _)
  have hLlt : L < s₂.heap.objs.size := F.ns.lt
  have hDL : s₂.heap.objs.size ≠ L := Ne.symm (below L hLlt).2
  have hCL : H2.objs.size ≠ L := Ne.symm (below L hLlt).1
  have hCe : e ≠ H2.objs.size := (below e helt).1
  have hDe : e ≠ s₂.heap.objs.size := (below e helt).2
  have hCi : it ≠ H2.objs.size := (below it hilt).1
  have hDi : it ≠ s₂.heap.objs.size := (below it hilt).2
  have offC : ∀ p ∈ news, p.1 ≠ H2.objs.size := fun p hp => (below _ (Heap.lt_size (N p hp).1)).1
  have offD : ∀ p ∈ news, p.1 ≠ s₂.heap.objs.size := fun p hp => (below _ (Heap.lt_size (N p hp).1)).2
  have W := WalksT.enumerateD (Draws.strAscii (prog := prog) (w := w) (A := A.in1) hh it xt tx) e hei (fun hm => hei (List.mem_singleton.mp hm)) (List.mem_singleton.mpr rfl)
  have hst₁ : (∃ o, IsEnum h₁ e it (0 : Nat) o) ∧ h₁.IsStrIter it "str_ascii_iterator" xt tx 0 := ⟨⟨_, old _ _ he⟩, by obtain ⟨o, q, r⟩ := hit; exact ⟨o, old _ _ q, r⟩⟩
  have hlen : xt.cps.toList.length = xt.cps.size := by simp
  have loop : ∀ s₃ : Shared, s₃ = { s₂ with heap := h₁, toks := s₂.toks + ([] : List (PySem.Str × Value)).length } →
      codeAny (model prog w) A (.compLoop (.ListComp elt [⟨.Tuple [.Name a pa, .Name b pb] kk tp, iter, [c], 0⟩] scope pos) 0 (.ref e) (.ref s₂.heap.objs.size) (compEnvC scope cl H2.objs.size env))
        (RR (.ref s₂.heap.objs.size) H2.objs.size) s₃ := by
    rintro s₃ rfl
    refine kct_loop
      (fun k s' => ∃ h' tk i ys m', s' = { s₂ with heap := h', toks := tk } ∧ i ≤ xt.cps.size ∧ k = xt.cps.size + 1 - i ∧ ys.length ≤ i ∧ ((∃ o, IsEnum h' e it (i : Nat) o) ∧ h'.IsStrIter it "str_ascii_iterator" xt tx i) ∧ Fr h₀ L h' m ∧ h'.Ns H2.objs.size m' ∧
        News h₀ L h' ((s₂.heap.objs.size, LCg.lst ys) :: news) ∧ IntsAre ys (enIdx f 0 (xt.cps.toList.take i))) ?_ (xt.cps.size + 1)
      ⟨h₁, _, 0, [], _, rfl, Nat.zero_le _, rfl, Nat.le_refl _, hst₁, F.keeps old, hns₁, fun p hp => ?_, .nil⟩
    · rintro k s' ⟨h', tk, i, ys, m', rfl, hi, rfl, hyl, hst', F', hn', N', hys⟩
      by_cases hlt : i < xt.cps.size
      · refine W.item i _ _ _ hlt hst' fun T vals h₂ tk₂ hPv _ hT hMid hk₂ => ?_
        refine W.go _ _ _ i T _ _ _ hMid fun h₃ hst₃ hk₃ => ?_
        obtain ⟨t, x, ⟨n, u, hn, rfl⟩, rfl⟩ := hPv
        have hTa : T ∉ [e, it] := W.apart i T h₂ hMid
        have hT₃ : h₃.IsTuple T #[.int i t, .str ⟨#[n]⟩ u] := by obtain ⟨o, q, r⟩ := hT; exact ⟨o, hk₃ _ _ hTa q, r⟩
        have up₃ : ∀ c o, c ≠ e → c ≠ it → h'.get? c = some o → h₃.get? c = some o := fun c o h1 h2 q => hk₃ c o (by simp [h1, h2]) (hk₂ c o (by simp [h1, h2]) q)
        refine kcp_assign (env := compEnvC scope cl H2.objs.size env) hh hT₃ (lookup_relabel_local hxa) (lookup_relabel_local hxb) (by simp [compEnvC, relabel, hkind]) (hn'.at' fun o q => up₃ _ o (Ne.symm hCe) (Ne.symm hCi) q) fun h₄ tk₄ hn₄ hs₄ => ?_
        have up : ∀ c o, c ≠ e → c ≠ it → c ≠ H2.objs.size → h'.get? c = some o → h₄.get? c = some o := fun c o h1 h2 h3 q => hs₄ c o h3 (up₃ c o h1 h2 q)
        have hst₄ : (∃ o, IsEnum h₄ e it ((i + 1 : Nat) : Int) o) ∧ h₄.IsStrIter it "str_ascii_iterator" xt tx (i + 1) := by
          obtain ⟨⟨o, q⟩, o2, q2, r2⟩ := hst₃
          exact ⟨⟨o, hs₄ _ _ hCe q⟩, o2, hs₄ _ _ hCi q2, r2⟩
        obtain ⟨oC, heC, hoC⟩ := LCg.ns_obj hn₄
        have F₄ : Fr h₀ L h₄ m := ⟨F'.ns.at' fun o q => up _ o hLe hLi (Ne.symm hCL) q, fun c o q => up c o (fun z => by rw [z, he₀] at q; cases q) (fun z => by rw [z, hi₀] at q; cases q) (fun z => by rw [z, hC₀] at q; cases q) (F'.keep c o q), F'.above⟩
        have N₄ : News h₀ L h₄ ((H2.objs.size, oC) :: (s₂.heap.objs.size, LCg.lst ys) :: news) := fun q hq => by
          rcases List.mem_cons.mp hq with rfl | hq
          · exact ⟨heC, hCL, hC₀⟩
          · have z := N' q hq
            refine ⟨up _ _ ?_ ?_ ?_ z.1, z.2⟩
            · rcases List.mem_cons.mp hq with rfl | hq
              · exact Ne.symm hDe
              · exact (off q hq).1
            · rcases List.mem_cons.mp hq with rfl | hq
              · exact Ne.symm hDi
              · exact (off q hq).2
            · rcases List.mem_cons.mp hq with rfl | hq
              · exact hDC
              · exact offC q hq
        have hnl : xt.cps.toList[i]? = some n := by rw [Array.getElem?_toList]; exact hn
        have hmem : n ∈ xt.cps.toList := List.mem_of_getElem? hnl
        have htk : xt.cps.toList.take (i + 1) = xt.cps.toList.take i ++ [n] := by simp [List.take_add_one, hnl]
        have hil : (xt.cps.toList.take i).length = i := by rw [List.length_take]; lia
        have hidx : enIdx f 0 (xt.cps.toList.take (i + 1)) = enIdx f 0 (xt.cps.toList.take i) ++ (if f n = true then [(i : Int)] else []) := by
          rw [htk, enIdx_snoc, hil, Nat.zero_add]
        refine wpAny_mono (test n u (.int i t) H2.objs.size oC s₂.heap.objs.size _ ys h₄ _ _ hmem hoC (by simp [hab]) (by simp) F₄ N₄) (fun okb s₅ h₅ => ?_) fun _ _ z => z
        obtain ⟨rfl, tk₅, rfl⟩ := h₅
        cases hf : f n with
        | false =>
          simp only [Bool.false_eq_true, if_false]
          refine ⟨xt.cps.size + 1 - (i + 1), by lia, h₄, tk₅, i + 1, ys, _, rfl, hlt, rfl, Nat.le_succ_of_le hyl, hst₄, F₄, hoC.ns heC, fun q hq => N₄ q (List.mem_cons_of_mem _ hq), ?_⟩
          rw [hidx, hf]; simpa using hys
        | true =>
          simp only [if_true]
          refine wpAny_mono (item n u (.int i t) H2.objs.size oC s₂.heap.objs.size _ ys h₄ _ _ hmem hoC (by simp [hab]) (by simp) F₄ N₄) (fun y s₆ h₆ => ?_) fun _ _ z => z
          obtain ⟨rfl, tk₆, rfl⟩ := h₆
          have zD := (N₄ (s₂.heap.objs.size, LCg.lst ys) (List.mem_cons_of_mem _ List.mem_cons_self)).1
          refine append_at (hsz := by show ys.toArray.size ≤ sizeLine; rw [List.size_toArray]; exact Nat.le_trans hyl (Nat.le_trans hi hsz)) zD fun h₇ hs₇ hD₇ => ?_
          refine ⟨xt.cps.size + 1 - (i + 1), by lia, h₇, tk₆, i + 1, ys ++ [.int i t], _, rfl, hlt, rfl, by rw [List.length_append, List.length_singleton]; lia,
            ⟨hst₄.1.imp fun o q => hs₇.extBut _ _ hDe q, by obtain ⟨o2, q2, r2⟩ := hst₄.2; exact ⟨o2, hs₇.extBut _ _ hDi q2, r2⟩⟩, F₄.change hs₇ hDL hD₀, (hoC.ns heC).sameBut hs₇ (Ne.symm hDC), fun p hp => ?_, ?_⟩
          · rcases List.mem_cons.mp hp with rfl | hp
            · exact ⟨hD₇.trans (congrArg some (LCg.lst_snoc ys _)), hDL, hD₀⟩
            · exact ⟨hs₇.extBut _ _ (offD p hp) (N₄ p (List.mem_cons_of_mem _ (List.mem_cons_of_mem _ hp))).1, (N p hp).2⟩
          · rw [hidx, hf]; simpa using ints_app (.cons (i : Int) t .nil) hys
      · obtain rfl : i = xt.cps.size := Nat.le_antisymm hi (Nat.not_lt.mp hlt)
        refine W.done _ _ _ hst' fun h₂ tk₂ hk₂ => ?_
        have up₂ : ∀ c o, c ≠ e → c ≠ it → h'.get? c = some o → h₂.get? c = some o := fun c o h1 h2 q => hk₂ c o (by simp [h1, h2]) q
        rw [← hlen, List.take_length] at hys
        refine hRR _ _ h₂ tk₂ _ ys ⟨F'.ns.at' fun o q => up₂ _ o hLe hLi q, fun c o q => up₂ c o (fun z => by rw [z, he₀] at q; cases q) (fun z => by rw [z, hi₀] at q; cases q) (F'.keep c o q), F'.above⟩ (fun q hq => ?_)
          (hn'.at' fun o q => up₂ _ o (Ne.symm hCe) (Ne.symm hCi) q) hC₀ hD₀ hCL hDL (Ne.symm hDC) offC hys
        have z := N' q hq
        refine ⟨up₂ _ _ ?_ ?_ z.1, z.2⟩
        · rcases List.mem_cons.mp hq with rfl | hq
          · exact Ne.symm hDe
          · exact (off q hq).1
        · rcases List.mem_cons.mp hq with rfl | hq
          · exact Ne.symm hDi
          · exact (off q hq).2
    · rcases List.mem_cons.mp hp with rfl | hp
      · exact ⟨hacc, hDL, hD₀⟩
      · exact ⟨old _ _ (N p hp).1, (N p hp).2⟩
  exact codeAny_compStart_list (loop _ rfl) (wpAny_pyIter_enum (old _ _ he) (loop _ rfl))
theorem Assign_ListComp_enum {elt iter c : PySem.Expr} {a b y : PySem.Str} {pa pb tp py : Pos} {kk : Nat} {scope : Scope} {cl : List (PySem.Str × Addr)} {pos spos : Pos} (f : Nat → Bool) {Q : Flow → Shared → Prop} (_F₀ : Fr h₀ L s.heap m) (hLe : env.locals = L)
    (hsw : swapsWith (.ListComp elt [⟨.Tuple [.Name a pa, .Name b pb] kk tp, iter, [c], 0⟩] scope pos) (some (.Name y py)) spos.line env = pure true)
    (hclos : closureFor scope env = pure cl) (hcell : ∀ z ∈ scope.names, z.2 ≠ .cell) (hkind : scope.kind = .function)
    (hnames : ∀ z ∈ scope.names, z.2 = .local → scope.names.lookup z.1 = some .local) (hxa : scope.names.lookup a = some .local) (hxb : scope.names.lookup b = some .local) (hab : ¬ a = b)
    (hy : env.kindOf y = some .local) (hp : (env.scope.kind == .class || (env.scope.kind == .module && env.locals != env.globals)) = false)
    (h : wpAny (model prog w) A (eval iter env) (EnSrc prog w A h₀ L m env c elt a b scope cl f y Q) E s)
    (hs : ∀ x, foldedSetIterable iter env x = pure x := by intro _; rfl) :
    wpAny (model prog w) A (exec (.Assign [.Name y py] (.ListComp elt [⟨.Tuple [.Name a pa, .Name b pb] kk tp, iter, [c], 0⟩] scope pos) spos) env) Q E s := by
  subst hLe
  rw [exec_Assign_Name_used _ _ _ _ hsw]
  refine wpAny_bind (wpAny_standAt (wpAny_bind ?_))
  show wpAny _ A (do let _ ← comprehension (.ListComp elt [⟨.Tuple [.Name a pa, .Name b pb] kk tp, iter, [c], 0⟩] scope pos) scope env _ (newList []) false (eval iter env) (some (assign (.Name y py) env))) _ _ s
  refine wpAny_bind (wpAny_mono (wpAny_comprehension_free (use := some (assign (.Name y py) env)) (Q := fun _ s' => Q .next s') rfl hs hclos hkind hnames
    (wpAny_mono h (fun xv s₁ h₁ => ?_) fun _ _ e => e)) (fun _ s' hq => wpAny_pure (wpAny_pure hq)) fun _ _ e => e)
  obtain ⟨xt, tx, e, it, news, rfl, hh, F, N, he, hit, hsz, hei, hLe, hLi, he₀, hi₀, off, test, item, done⟩ := h₁
  refine wpAny_pyIter_enum he ?_
  refine en_block (f := f) hh hei hsz he hit hcell hkind hxa hxb hab F N hLe hLi he₀ hi₀ off test item ?_
  intro D C h' tk m' ys F' N' hn hC₀ hD₀ hCL hDL hCD offC hys
  show wpAny _ A (assign (.Name y py) env (.ref D)) _ _ _
  refine wpAny_assign_Name (wpAny_storeName_local hy F'.ns (fun h₂ hn₂ hs₂ => ?_) hp)
  have hL₀ : h₀.get? env.locals = none := Heap.get?_none_of_le F'.above
  have F₂ : Fr h₀ env.locals h₂ (fun z => if z = y then some (.ref D) else m z) := ⟨hn₂, fun b o e => hs₂.extBut b o (fun q => by rw [q, hL₀] at e; cases e) (F'.keep b o e), F'.above⟩
  refine ⟨m', hn.sameBut hs₂ hCL, fun h'' hs'' => done D ys h'' _ (F₂.change hs'' hCL hC₀) (fun p hp => ?_) hys⟩
  have z : h₂.get? p.1 = some p.2 := hs₂.extBut _ _ (N' p hp).2.1 (N' p hp).1
  refine ⟨hs''.extBut _ _ ?_ z, (N' p hp).2⟩
  rcases List.mem_cons.mp hp with rfl | hp
  · exact Ne.symm hCD
  · exact offC p hp
theorem ints_none {ys : List Value} (h : IntsAre ys []) : ys = [] := by cases h; rfl
theorem ints_sole {ys : List Value} {k : Int} (h : IntsAre ys [k]) : ∃ t, ys = [.int k t] := by
  cases h with
  | cons _ t r => cases r; exact ⟨t, rfl⟩
theorem en_src0 {c elt : PySem.Expr} {a b y : PySem.Str} {scope : Scope} {cl : List (PySem.Str × Addr)} {f : Nat → Bool} {Q : Flow → Shared → Prop} {s₁ : Shared} {l : List Nat} {tx : Tok} {e it : Addr} {news : List (Addr × Obj)}
    (F : Fr h₀ L s₁.heap m) (N : News h₀ L s₁.heap news) (he : IsEnum s₁.heap e it 0 .none) (hit : s₁.heap.IsStrIter it "str_ascii_iterator" (S l) tx 0) (hei : e ≠ it) (hLe : L ≠ e) (hLi : L ≠ it) (he₀ : h₀.get? e = none) (hi₀ : h₀.get? it = none) (off : ∀ p ∈ news, p.1 ≠ e ∧ p.1 ≠ it)
    (hl : l.length ≤ 100000) (hh : A.handled = none) (hf : enIdx f 0 l = [])
    (test : ∀ n u v C oC D m₂ ys h tk (E' : Value → Shared → Prop), n ∈ l → LCg.NsObj oC m₂ → m₂ a = some v → m₂ b = some (.str ⟨#[n]⟩ u) → Fr h₀ L h m → News h₀ L h ((C, oC) :: (D, LCg.lst ys) :: news) →
      wpAny (model prog w) A (isTrue c (compEnvC scope cl C env) (eval c (compEnvC scope cl C env))) (EnEnd (fun r => r = f n) { s₁ with heap := h, toks := tk }) E' { s₁ with heap := h, toks := tk })
    (item : ∀ n u v C oC D m₂ ys h tk (E' : Value → Shared → Prop), n ∈ l → LCg.NsObj oC m₂ → m₂ a = some v → m₂ b = some (.str ⟨#[n]⟩ u) → Fr h₀ L h m → News h₀ L h ((C, oC) :: (D, LCg.lst ys) :: news) →
      wpAny (model prog w) A (eval elt (compEnvC scope cl C env)) (EnEnd (fun r => r = v) { s₁ with heap := h, toks := tk }) E' { s₁ with heap := h, toks := tk })
    (done : ∀ D h tk, Fr h₀ L h (fun z => if z = y then some (.ref D) else m z) → News h₀ L h ((D, LCg.lst []) :: news) → Q .next { s₁ with heap := h, toks := tk }) :
    EnSrc prog w A h₀ L m env c elt a b scope cl f y Q (.ref e) s₁ := by
  refine ⟨S l, tx, e, it, news, rfl, hh, F, N, he, hit, by have := S_len l; unfold PySem.Str.length at this; rw [this, sizeLine_eq]; lia, hei, hLe, hLi, he₀, hi₀, off, ?_, ?_, fun D ys h tk F' N' hy => ?_⟩
  · rw [S_cps]; exact test
  · rw [S_cps]; exact item
  · rw [S_cps, hf] at hy
    rw [ints_none hy] at N'
    exact done D h tk F' N'
theorem en_src1 {c elt : PySem.Expr} {a b y : PySem.Str} {scope : Scope} {cl : List (PySem.Str × Addr)} {f : Nat → Bool} {Q : Flow → Shared → Prop} {s₁ : Shared} {l : List Nat} {k : Int} {tx : Tok} {e it : Addr} {news : List (Addr × Obj)}
    (F : Fr h₀ L s₁.heap m) (N : News h₀ L s₁.heap news) (he : IsEnum s₁.heap e it 0 .none) (hit : s₁.heap.IsStrIter it "str_ascii_iterator" (S l) tx 0) (hei : e ≠ it) (hLe : L ≠ e) (hLi : L ≠ it) (he₀ : h₀.get? e = none) (hi₀ : h₀.get? it = none) (off : ∀ p ∈ news, p.1 ≠ e ∧ p.1 ≠ it)
    (hl : l.length ≤ 100000) (hh : A.handled = none) (hf : enIdx f 0 l = [k])
    (test : ∀ n u v C oC D m₂ ys h tk (E' : Value → Shared → Prop), n ∈ l → LCg.NsObj oC m₂ → m₂ a = some v → m₂ b = some (.str ⟨#[n]⟩ u) → Fr h₀ L h m → News h₀ L h ((C, oC) :: (D, LCg.lst ys) :: news) →
      wpAny (model prog w) A (isTrue c (compEnvC scope cl C env) (eval c (compEnvC scope cl C env))) (EnEnd (fun r => r = f n) { s₁ with heap := h, toks := tk }) E' { s₁ with heap := h, toks := tk })
    (item : ∀ n u v C oC D m₂ ys h tk (E' : Value → Shared → Prop), n ∈ l → LCg.NsObj oC m₂ → m₂ a = some v → m₂ b = some (.str ⟨#[n]⟩ u) → Fr h₀ L h m → News h₀ L h ((C, oC) :: (D, LCg.lst ys) :: news) →
      wpAny (model prog w) A (eval elt (compEnvC scope cl C env)) (EnEnd (fun r => r = v) { s₁ with heap := h, toks := tk }) E' { s₁ with heap := h, toks := tk })
    (done : ∀ D t h tk, Fr h₀ L h (fun z => if z = y then some (.ref D) else m z) → News h₀ L h ((D, LCg.lst [.int k t]) :: news) → Q .next { s₁ with heap := h, toks := tk }) :
    EnSrc prog w A h₀ L m env c elt a b scope cl f y Q (.ref e) s₁ := by
  refine ⟨S l, tx, e, it, news, rfl, hh, F, N, he, hit, by have := S_len l; unfold PySem.Str.length at this; rw [this, sizeLine_eq]; lia, hei, hLe, hLi, he₀, hi₀, off, ?_, ?_, fun D ys h tk F' N' hy => ?_⟩
  · rw [S_cps]; exact test
  · rw [S_cps]; exact item
  · rw [S_cps, hf] at hy
    obtain ⟨t, hy'⟩ := ints_sole hy
    rw [hy'] at N'
    exact done D t h tk F' N'
/-- enumerate(text) in a frame -/
theorem r_enum {l : List Nat} {t : Tok} {news : List (Addr × Obj)} {Q : Value → Shared → Prop} (F : Fr h₀ L s.heap m) (N : News h₀ L s.heap news) (ha : (S l).cps.all (· < 128) = true)
    (h : ∀ e it h', Fr h₀ L h' m → News h₀ L h' news → IsEnum h' e it 0 .none → h'.IsStrIter it "str_ascii_iterator" (S l) t 0 → e ≠ it → L ≠ e → L ≠ it → h₀.get? e = none → h₀.get? it = none → (∀ p ∈ news, p.1 ≠ e ∧ p.1 ≠ it) → Q (.ref e) { s with heap := h' }) :
    wpAny (model prog w) A (call (.type "enumerate") [.str (S l) t]) Q E s := by
  refine call_enumerate_str fun h' he hit hsz hk => ?_
  have hLs : L < s.heap.objs.size := F.ns.lt
  have hit' : h'.IsStrIter s.heap.objs.size "str_ascii_iterator" (S l) t 0 := by simpa [strIterType, ha] using hit
  have fresh₀ : ∀ a, s.heap.objs.size ≤ a → h₀.get? a = none := fun a ha => by
    cases q : h₀.get? a with
    | none => rfl
    | some o' => exact absurd (Heap.lt_size (F.keep a o' q)) (Nat.not_lt.mpr ha)
  exact h _ _ h' ⟨F.ns.keeps hk, fun b o e => hk b o (F.keep b o e), F.above⟩ (N.grown hk) he hit' (Nat.succ_ne_self _) (Nat.ne_of_lt (Nat.lt_succ_of_lt hLs)) (Nat.ne_of_lt hLs) (fresh₀ _ (Nat.le_succ _)) (fresh₀ _ (Nat.le_refl _))
    fun p hp => ⟨Nat.ne_of_lt (Nat.lt_succ_of_lt (Heap.lt_size (N p hp).1)), Nat.ne_of_lt (Heap.lt_size (N p hp).1)⟩
end
def isMk (n : Nat) : Bool := PySem.Txt.contains (PySem.Str.ofString "esfdl") ⟨#[n]⟩
theorem isMk_eq (n : Nat) : isMk n = decide (n ∈ [101, 115, 102, 100, 108]) := by
  have e : PySem.Str.ofString "esfdl" = S [101, 115, 102, 100, 108] := by decide +kernel
  unfold isMk
  rw [e]; exact contains_one _ n
theorem enIdx_none : ∀ (l : List Nat) (i : Nat), (∀ c ∈ l, isMk c = false) → enIdx isMk i l = []
  | [], _, _ => rfl
  | c :: l, i, h => by
    show (if isMk c = true then _ else _) = _
    rw [if_neg (by rw [h c (by simp)]; decide)]
    exact enIdx_none l (i + 1) fun d hd => h d (by simp [hd])
theorem enIdx_one (c : Nat) (r : List Nat) (hc : isMk c = true) (hr : ∀ d ∈ r, isMk d = false) : ∀ (p : List Nat) (i : Nat), (∀ d ∈ p, isMk d = false) → enIdx isMk i (p ++ c :: r) = [((i + p.length : Nat) : Int)]
  | [], i, _ => by
    show (if isMk c = true then _ else _) = _
    rw [if_pos hc, enIdx_none r (i + 1) hr]; rfl
  | d :: p, i, h => by
    show (if isMk d = true then _ else _) = _
    rw [if_neg (by rw [h d (by simp)]; decide)]
    have := enIdx_one c r hc hr p (i + 1) fun q hq => h q (by simp [hq])
    rw [List.length_cons]
    have e : i + 1 + p.length = i + (p.length + 1) := by lia
    rw [← e]; exact this

local macro_rules | `(tactic| walk_at "exec Assign cons ListComp") => `(tactic| (k_here; k_dflt (refine Assign_ListComp_enum isMk (by k_asm) (by rfl) (by with_unfolding_all rfl) (by with_unfolding_all rfl) (by decide) (by rfl) (by decide) (by rfl) (by rfl) (by decide) (by rfl) (by rfl) ?_)))
local macro_rules | `(tactic| walk_at "call type:enumerate cons nil") => `(tactic| (k_here; k_dflt (refine' r_enum ?F ?N ?ha ?_; (case F => k_asm); (case N => k_asm); (case ha => assumption); k_whole); intro e' it' h' F' N' he' hi' n1 n2 n3 n4 n5 n6; (try k_sweep)))
local macro_rules | `(tactic| walk_at "EnSrc") => `(tactic| (k_here; k_dflt (first | (refine' en_src0 ?F ?N ?he ?hi ?a1 ?a2 ?a3 ?a4 ?a5 ?a6 ?hl ?hh ?hf ?_ ?_ ?_; (case F => k_asm); (case N => k_asm); (case he => k_asm); (case hi => k_asm); (case a1 => k_asm); (case a2 => k_asm); (case a3 => k_asm); (case a4 => k_asm); (case a5 => k_asm); (case a6 => k_asm); (case hl => first | assumption | lia); (case hh => exact rfl); (case hf => assumption)) | (refine' en_src1 ?F ?N ?he ?hi ?a1 ?a2 ?a3 ?a4 ?a5 ?a6 ?hl ?hh ?hf ?_ ?_ ?_; (case F => k_asm); (case N => k_asm); (case he => k_asm); (case hi => k_asm); (case a1 => k_asm); (case a2 => k_asm); (case a3 => k_asm); (case a4 => k_asm); (case a5 => k_asm); (case a6 => k_asm); (case hl => first | assumption | lia); (case hh => exact rfl); (case hf => assumption))); (all_goals intros)))
local macro_rules | `(tactic| walk_at "EnEnd") => `(tactic| (k_here; k_dflt (exact ⟨rfl, _, rfl⟩)))
theorem c_mark0 (l : List Nat) (t : Tok) (hf : enIdx isMk 0 l = []) (ha : (S l).cps.all (· < 128) = true) (hl : l.length ≤ 100000) (news : List (Addr × Obj)) : Ctr 246 [.str (S l) t] news 20 200 (PInt news (l.length : Int)) := by
  intro w mean mg mb dp un gd cn cs a ccd cl outer A₀ base h₀ L m s Q E B F X N T hk hd hu hret
  skip
  (refine wpAny_call ?_; k_dflt cell_enter)
  repeat' (first | (k_unfold; (try dsimp only)) | (k_end; wrow_close) | (k_here; (with_reducible show wpAny _ _ (call (Value.builtin "len") (_ :: _)) _ _ _); with_reducible (k_dflt (refine' r_len ?zhl ?_; (case zhl => first | assumption | lia); k_whole); intro _ _)) | walk1 | (dsimp only; first | (with_reducible show wpAny _ _ (call _ (_ :: _)) _ _ _) | walk1) | (leave1; walk_say "STEP leave1"; try dsimp only) | fail "no step")
  all_goals (refine' end_int hret ?e ?F ?N ?hs; (case F => k_asm); (case N => k_asm); (case hs => (intro p hp; repeat' (first | exact hp | apply List.mem_cons_of_mem))); (case e => rfl))
theorem c_mark1 (l : List Nat) (k : Int) (t : Tok) (hf : enIdx isMk 0 l = [k]) (ha : (S l).cps.all (· < 128) = true) (hl : l.length ≤ 100000) (news : List (Addr × Obj)) : Ctr 246 [.str (S l) t] news 20 200 (PInt news k) := by
  intro w mean mg mb dp un gd cn cs a ccd cl outer A₀ base h₀ L m s Q E B F X N T hk hd hu hret
  skip
  (refine wpAny_call ?_; k_dflt cell_enter)
  repeat' (first | (k_unfold; (try dsimp only)) | (k_end; wrow_close) | (k_here; (with_reducible show wpAny _ _ (call (Value.builtin "len") (_ :: _)) _ _ _); with_reducible (k_dflt (refine' r_len ?zhl ?_; (case zhl => first | assumption | lia); k_whole); intro _ _)) | walk1 | (dsimp only; first | (with_reducible show wpAny _ _ (call _ (_ :: _)) _ _ _) | walk1) | (leave1; walk_say "STEP leave1"; try dsimp only) | fail "no step")
  all_goals (refine' end_int hret ?e ?F ?N ?hs; (case F => k_asm); (case N => k_asm); (case hs => (intro p hp; repeat' (first | exact hp | apply List.mem_cons_of_mem))); (case e => first | rfl | (exfalso; revert ‹decide ([k] = []) = true›; simp)))
def PRead (news : List (Addr × Obj)) (a b : Int) (c : Bool) (r : Value) (n' : List (Addr × Obj)) : Prop := ∃ x dx h1 h2 h3 t1 t2 t3 t4 t5, r = .ref x ∧ n' = (x, instObj 209 dx) :: (dx, dictOf [⟨h1, .str (Str.ofString "top") t1, .int a t4⟩, ⟨h2, .str (Str.ofString "bottom") t2, .int b t5⟩, ⟨h3, .str (Str.ofString "is_exact") t3, .bool c⟩] 3) :: news ∧ AllLt dx news ∧ @LT.lt Nat _ dx x
theorem end_read {h₀ h' : Heap} {L : Addr} {m : PySem.Str → Option Value} {s : Shared} {Q : Value → Shared → Prop} {news news' : List (Addr × Obj)} {tk' : Nat} {a b a' b' h1 h2 h3 : Int} {c c' : Bool} {x dx : Addr} {t1 t2 t3 t4 t5 : Tok} (hret : Ret h₀ L m s Q (PRead news a b c)) (F : Fr h₀ L h' m) (N : News h₀ L h' news') (e1 : a' = a) (e2 : b' = b) (e3 : c' = c)
    (i1 : (x, instObj 209 dx) ∈ news') (i2 : (dx, dictOf [⟨h1, .str (Str.ofString "top") t1, .int a' t4⟩, ⟨h2, .str (Str.ofString "bottom") t2, .int b' t5⟩, ⟨h3, .str (Str.ofString "is_exact") t3, .bool c'⟩] 3) ∈ news') (hs : ∀ p ∈ news, p ∈ news') (l1 : AllLt dx news) (l2 : @LT.lt Nat _ dx x) : Q (.ref x) { s with heap := h', toks := tk' } := by
  subst e1; subst e2; subst e3
  refine hret _ _ _ ((x, instObj 209 dx) :: (dx, dictOf [⟨h1, .str (Str.ofString "top") t1, .int a' t4⟩, ⟨h2, .str (Str.ofString "bottom") t2, .int b' t5⟩, ⟨h3, .str (Str.ofString "is_exact") t3, .bool c'⟩] 3) :: news) F (news_sub N ?_) ⟨x, dx, h1, h2, h3, t1, t2, t3, t4, t5, rfl, rfl, l1, l2⟩
  intro p hp
  rcases List.mem_cons.mp hp with rfl | hp
  · exact i1
  rcases List.mem_cons.mp hp with rfl | hp
  · exact i2
  exact hs p hp
theorem lit_empty : PySem.Str.ofString "" = S [] := by decide +kernel
theorem ne_empty {l : List Nat} (h : l ≠ []) : ¬ S l = PySem.Str.ofString "" := by rw [lit_empty, S_inj]; exact h

theorem c_whole (l : List Nat) (t t1 : Tok) (h : Digs l) (hn : l ≠ []) (hl : l.length ≤ 100000) (news : List (Addr × Obj)) : Ctr 220 [.str (S l) t, .int 10 t1] news 60 600 (PRead news (dv l) 1 true) := by
  intro w mean mg mb dp un gd cn cs a ccd cl outer A₀ base h₀ L m s Q E B F X N T hk hd hu hret
  have hne := ne_empty hn
  (refine wpAny_call ?_; k_dflt cell_enter)
  repeat' (first | (k_unfold; (try dsimp only)) | (k_end; wrow_close) | ((with_reducible show wpAny _ _ (call _ (_ :: _)) _ _ _); first | (k_here; (with_reducible show wpAny _ _ (call (Value.ref 185) (_ :: _)) _ _ _); with_reducible (k_dflt (refine' use (c_arefig _ _ _ ?zp1 ?zp2 _) ?zk1 ?zk2 ?zk3 ?zk4 ?zk5 ?zk6 ?zk7 ?zk8 ?_; (case zk1 => k_asm); (case zk2 => k_asm); (case zk3 => k_asm); (case zk4 => k_asm); (case zk5 => k_asm); (case zk6 => first | exact rfl | assumption); (case zk7 => ktr_room); (case zk8 => ktr_units); (case zp1 => first | assumption); (case zp2 => first | assumption | lia); k_whole); intro r9 h9 tk9 n9 F9 N9 p9; k_dflt (obtain ⟨e9, e8⟩ := p9; subst e9; subst e8); (try dsimp only); (try k_sweep); (try k_fold))) | (k_here; (with_reducible show wpAny _ _ (call (Value.ref 180) (_ :: _)) _ _ _); with_reducible (k_dflt (refine' use (c_worth _ _ _ ?zp1 ?zp2 _) ?zk1 ?zk2 ?zk3 ?zk4 ?zk5 ?zk6 ?zk7 ?zk8 ?_; (case zk1 => k_asm); (case zk2 => k_asm); (case zk3 => k_asm); (case zk4 => k_asm); (case zk5 => k_asm); (case zk6 => first | exact rfl | assumption); (case zk7 => ktr_room); (case zk8 => ktr_units); (case zp1 => first | assumption); (case zp2 => first | assumption | lia); k_whole); intro r9 h9 tk9 n9 F9 N9 p9; k_dflt (obtain ⟨e9, t9, e8⟩ := p9; subst e9; subst e8); (try dsimp only); (try k_sweep); (try k_fold))) | (k_here; (with_reducible show wpAny _ _ (call (Value.ref 192) (_ :: _)) _ _ _); with_reducible (k_dflt (refine' use (c_parted _ _ ?zp1 ?zp2 _) ?zk1 ?zk2 ?zk3 ?zk4 ?zk5 ?zk6 ?zk7 ?zk8 ?_; (case zk1 => k_asm); (case zk2 => k_asm); (case zk3 => k_asm); (case zk4 => k_asm); (case zk5 => k_asm); (case zk6 => first | exact rfl | assumption); (case zk7 => ktr_room); (case zk8 => ktr_units); (case zp1 => first | assumption | exact Digs.not (by assumption) (by decide)); (case zp2 => first | assumption | lia); k_whole); intro r9 h9 tk9 n9 F9 N9 p9; k_dflt (obtain ⟨x9, ta9, tb9, e8, e9, l9⟩ := p9; subst e9; subst e8; (try simp only [AllLt, and_true] at l9)); (try dsimp only); (try k_sweep); (try k_fold)))) | walk1 | (dsimp only; first | (with_reducible show wpAny _ _ (call _ (_ :: _)) _ _ _) | walk1) | (leave1; walk_say "STEP leave1"; try dsimp only) | fail "no step")
  all_goals (refine' end_read hret ?F ?N ?e1 ?e2 ?e3 ?i1 ?i2 ?hs ?l1 ?l2; (case F => k_asm); (case N => k_asm); (case i1 => k_mem); (case i2 => k_mem); (case hs => (intro p hp; repeat' (first | exact hp | apply List.mem_cons_of_mem))); (case l1 => (first | assumption | exact allLt_of (by assumption) | exact And.right (by assumption) | exact And.right (And.right (by assumption)) | exact And.right (And.right (And.right (by assumption))) | exact And.right (And.right (And.right (And.right (by assumption)))) | exact And.right (And.right (And.right (And.right (And.right (by assumption))))) | exact And.right (And.right (And.right (And.right (And.right (And.right (by assumption)))))) | exact And.right (And.right (And.right (And.right (And.right (And.right (And.right (by assumption))))))) | exact And.right (And.right (And.right (And.right (And.right (And.right (And.right (And.right (by assumption)))))))) | exact And.right (And.right (And.right (And.right (And.right (And.right (And.right (And.right (And.right (by assumption))))))))) | exact And.right (And.right (And.right (And.right (And.right (And.right (And.right (And.right (And.right (And.right (by assumption)))))))))) | exact And.right (And.right (And.right (And.right (And.right (And.right (And.right (And.right (And.right (And.right (And.right (by assumption))))))))))) | exact And.right (And.right (And.right (And.right (And.right (And.right (And.right (And.right (And.right (And.right (And.right (And.right (by assumption)))))))))))) | exact And.right (And.right (And.right (And.right (And.right (And.right (And.right (And.right (And.right (And.right (And.right (And.right (And.right (by assumption))))))))))))) | exact And.right (And.right (And.right (And.right (And.right (And.right (And.right (And.right (And.right (And.right (And.right (And.right (And.right (And.right (by assumption)))))))))))))) | exact And.right (And.right (And.right (And.right (And.right (And.right (And.right (And.right (And.right (And.right (And.right (And.right (And.right (And.right (And.right (by assumption))))))))))))))) | exact And.right (And.right (And.right (And.right (And.right (And.right (And.right (And.right (And.right (And.right (And.right (And.right (And.right (And.right (And.right (And.right (by assumption)))))))))))))))))); (case l2 => assumption); (case e1 => (first | rfl | simp)); (case e2 => (first | rfl | simp)); (case e3 => (first | rfl | simp)))
section
variable {prog : Program} {w : World} {A : Around} {E : Value → Shared → Prop} {s : Shared} {h₀ : Heap} {L : Addr} {m : PySem.Str → Option Value} {news : List (Addr × Obj)} {l a b : List Nat} {y sep : PySem.Str} {t u : Tok} {Q : Value → Shared → Prop} {value slice : PySem.Expr}
theorem rs_ns {j : Int} {uj : Tok} (hx : PySem.Txt.slice (S l) none (some j) = y) (hF : Fr h₀ L s.heap m) (hN : News h₀ L s.heap news) (h : ∀ h' t' k, Fr h₀ L h' m → News h₀ L h' news → Q (.str y t') { s with heap := h', toks := k }) (hl : l.length ≤ 100000)
    (hs : subscripted slice false (.str (S l) t) (.ref s.heap.objs.size) = operate [.ref s.heap.objs.size, .str (S l) t] (getItem (.str (S l) t) (.ref s.heap.objs.size)))
    (ht : ∀ r, letTemporaryGo value (.str (S l) t) r = pure ()) :
    wpAny (model prog w) A (subscriptTail value slice (.str (S l) t) (.ref s.heap.objs.size)) Q E { s with heap := s.heap.push { cls := .type "slice", data := .fields #[.none, .int j uj, .none] } } := by
  subst hx; exact slice_strN_ns hF hN h hs ht (by rw [S_len, sizeLine_eq]; lia)
theorem rs_sn {i : Int} {ui : Tok} (hx : PySem.Txt.slice (S l) (some i) none = y) (hF : Fr h₀ L s.heap m) (hN : News h₀ L s.heap news) (h : ∀ h' t' k, Fr h₀ L h' m → News h₀ L h' news → Q (.str y t') { s with heap := h', toks := k }) (hl : l.length ≤ 100000)
    (hs : subscripted slice false (.str (S l) t) (.ref s.heap.objs.size) = operate [.ref s.heap.objs.size, .str (S l) t] (getItem (.str (S l) t) (.ref s.heap.objs.size)))
    (ht : ∀ r, letTemporaryGo value (.str (S l) t) r = pure ()) :
    wpAny (model prog w) A (subscriptTail value slice (.str (S l) t) (.ref s.heap.objs.size)) Q E { s with heap := s.heap.push { cls := .type "slice", data := .fields #[.int i ui, .none, .none] } } := by
  subst hx; exact slice_strN_sn hF hN h hs ht (by rw [S_len, sizeLine_eq]; lia)
theorem rs_ss {i j : Int} {ui uj : Tok} (hx : PySem.Txt.slice (S l) (some i) (some j) = y) (hF : Fr h₀ L s.heap m) (hN : News h₀ L s.heap news) (h : ∀ h' t' k, Fr h₀ L h' m → News h₀ L h' news → Q (.str y t') { s with heap := h', toks := k }) (hl : l.length ≤ 100000)
    (hs : subscripted slice false (.str (S l) t) (.ref s.heap.objs.size) = operate [.ref s.heap.objs.size, .str (S l) t] (getItem (.str (S l) t) (.ref s.heap.objs.size)))
    (ht : ∀ r, letTemporaryGo value (.str (S l) t) r = pure ()) :
    wpAny (model prog w) A (subscriptTail value slice (.str (S l) t) (.ref s.heap.objs.size)) Q E { s with heap := s.heap.push { cls := .type "slice", data := .fields #[.int i ui, .int j uj, .none] } } := by
  subst hx; exact slice_strN_ss hF hN h hs ht (by rw [S_len, sizeLine_eq]; lia)
theorem r_add (hl : a.length + b.length ≤ 100000) (hq : ∀ t' k, Q (.str (S (a ++ b)) t') { s with toks := k }) : wpAny (model prog w) A (binaryOp .Add (.str (S a) t) (.str (S b) u)) Q E s := by
  refine SB.add (fun t' k => ?_) (by rw [S_len, S_len, sizeLine_eq]; lia)
  rw [S_app]; exact hq t' k
theorem r_split1 {c : Nat} (hsep : sep = S [c]) (hF : Fr h₀ L s.heap m) (hN : News h₀ L s.heap news) (ha : c ∉ l) (hl : l.length ≤ 100000)
    (h : ∀ D t1 h' k, Fr h₀ L h' m → News h₀ L h' ((D, W.listOf #[.str (S l) t1] 0) :: news) → (∀ p ∈ news, p.1 < D) → Q (.ref D) { s with heap := h', toks := k }) :
    wpAny (model prog w) A (call (.builtin "str.split") [.str (S l) t, .str sep u]) Q E s := by
  subst hsep
  refine splitN1 hF hN (by rw [S_len]; rfl) (fun v h' k e F N => ?_) (by rw [S_len, sizeLine_eq]; lia)
  rw [split_none ha] at e
  match v, e with
  | [(x, t1)], e =>
    simp only [List.map_cons, List.map_nil, List.cons.injEq, and_true] at e
    subst e
    exact h _ t1 h' k F N fun p hp => Heap.lt_size (hN p hp).1
theorem r_split2 {c : Nat} (hsep : sep = S [c]) (hF : Fr h₀ L s.heap m) (hN : News h₀ L s.heap news) (ha : c ∉ a) (hb : c ∉ b) (hl : (a ++ c :: b).length ≤ 100000)
    (h : ∀ D t1 t2 h' k, Fr h₀ L h' m → News h₀ L h' ((D, W.listOf #[.str (S a) t1, .str (S b) t2] 0) :: news) → (∀ p ∈ news, p.1 < D) → Q (.ref D) { s with heap := h', toks := k }) :
    wpAny (model prog w) A (call (.builtin "str.split") [.str (S (a ++ c :: b)) t, .str sep u]) Q E s := by
  subst hsep
  refine splitN1 hF hN (by rw [S_len]; rfl) (fun v h' k e F N => ?_) (by rw [S_len, sizeLine_eq]; lia)
  rw [split_one ha hb] at e
  match v, e with
  | [(x, t1), (z, t2)], e =>
    simp only [List.map_cons, List.map_nil, List.cons.injEq, and_true] at e
    obtain ⟨e1, e2⟩ := e
    subst e1; subst e2
    exact h _ t1 t2 h' k F N fun p hp => Heap.lt_size (hN p hp).1
theorem r_replace (ha : 35 ∉ l) (hl : l.length ≤ 100000) (hq : ∀ t' k, Q (.str (S l) t') { s with toks := k }) {t2 : Tok} :
    wpAny (model prog w) A (call (.builtin "str.replace") [.str (S l) t, .str (PySem.Str.ofString "#") u, .str (PySem.Str.ofString "0") t2]) Q E s := by
  have ho : Builtin.Str.occurrences (S l) (PySem.Str.ofString "#") 0 (S l).length ((S l).length + 1) = [] := by rw [lit_hash]; exact occ_none_S ha _ (by lia)
  refine PySem.call_gives PySem.F.slot_str_replace (typeIs_str _ _ _) PySem.F.entry_str_replace (PySem.F.args_str_replace_3 _ _ _)
    (gives_str_replace (S l) _ _ t u t2 fun hc => ?_) ?_
  · rw [ho] at hc; cases hc
  · rw [ho]; exact hq t s.toks
end
theorem plus_is : S [43] = PySem.Str.ofString "+" := by decide +kernel
theorem minus_is : S [45] = PySem.Str.ofString "-" := by decide +kernel
theorem plus_not_minus : ¬ S [43] = PySem.Str.ofString "-" := by decide +kernel
theorem sg_dig {c : Nat} (h : 48 ≤ c) : ([PySem.Str.ofString "+", PySem.Str.ofString "-"].any fun x => x == S [c]) = false := by
  rw [← minus_is, ← plus_is]
  simp only [List.any_cons, List.any_nil, Bool.or_false, Bool.or_eq_false_iff, beq_eq_false_iff_ne, ne_eq, S_inj, List.cons.injEq, and_true]
  lia
theorem sg_plus : ([PySem.Str.ofString "+", PySem.Str.ofString "-"].any fun x => x == S [43]) = true := by decide +kernel
theorem sg_minus : ([PySem.Str.ofString "+", PySem.Str.ofString "-"].any fun x => x == S [45]) = true := by decide +kernel
theorem dig_not {c : Nat} (h : 48 ≤ c) : ¬ S [c] = PySem.Str.ofString "-" ∧ ¬ S [c] = PySem.Str.ofString "+" ∧ ¬ S [c] = PySem.Str.ofString "#" := by
  rw [← minus_is, ← plus_is, lit_hash, S_inj, S_inj, S_inj]
  simp only [List.cons.injEq, and_true]; lia

theorem c_ratio (x y : List Nat) (t t1 : Tok) (hx : Digs x) (hy : Digs y) (nx : x ≠ []) (ny : y ≠ []) (hz : ¬ (dv y : Int) = 0) (hl : (x ++ 47 :: y).length ≤ 100000) (news : List (Addr × Obj)) : Ctr 227 [.str (S (x ++ 47 :: y)) t, .int 10 t1] news 80 800 (PRead news (dv x) (dv y) true) := by
  intro w mean mg mb dp un gd cn cs a ccd cl outer A₀ base h₀ L m s Q E B F X N T hk hd hu hret
  have hl1 : x.length ≤ 100000 := by simp only [List.length_append, List.length_cons] at hl; lia
  have hl2 : y.length ≤ 100000 := by simp only [List.length_append, List.length_cons] at hl; lia
  (refine wpAny_call ?_; k_dflt cell_enter)
  repeat' (first | (k_unfold; (try dsimp only)) | (k_end; wrow_close) | ((with_reducible show wpAny _ _ (call _ (_ :: _)) _ _ _); first | (k_here; (with_reducible show wpAny _ _ (call (Value.builtin "str.split") (_ :: _)) _ _ _); with_reducible (k_dflt (refine' r_split2 (by first | exact lit_slash | exact lit_dot) ?zF ?zN ?zha ?zhb ?zhl ?_; (case zF => k_asm); (case zN => k_asm); (case zha => first | assumption | exact Digs.not (by assumption) (by decide)); (case zhb => first | assumption | exact Digs.not (by assumption) (by decide)); (case zhl => first | assumption | lia | (simp only [List.length_cons, List.length_append, List.length_nil] at *; lia)); k_whole); intro D' t1' t2' h' k' F' N' l1; (try k_lt l1); (try k_sweep))) | (k_here; (with_reducible show wpAny _ _ (call (Value.ref 220) (_ :: _)) _ _ _); with_reducible (k_dflt (refine' use (c_whole _ _ _ ?zp1 ?zp2 ?zp3 _) ?zk1 ?zk2 ?zk3 ?zk4 ?zk5 ?zk6 ?zk7 ?zk8 ?_; (case zk1 => k_asm); (case zk2 => k_asm); (case zk3 => k_asm); (case zk4 => k_asm); (case zk5 => k_asm); (case zk6 => first | exact rfl | assumption); (case zk7 => ktr_room); (case zk8 => ktr_units); (case zp1 => assumption); (case zp2 => assumption); (case zp3 => first | assumption | lia); k_whole); intro r9 h9 tk9 n9 F9 N9 p9; k_dflt (obtain ⟨x9, d9, ha9, hb9, hc9, ta9, tb9, tc9, td9, te9, e8, e9, l9, l8⟩ := p9; subst e9; subst e8; (try simp only [AllLt, and_true] at l9)); (try dsimp only); (try k_sweep); (try k_fold)))) | walk1 | (dsimp only; first | (with_reducible show wpAny _ _ (call _ (_ :: _)) _ _ _) | walk1) | (leave1; walk_say "STEP leave1"; try dsimp only) | fail "no step")
  all_goals (refine' end_read hret ?F ?N ?e1 ?e2 ?e3 ?i1 ?i2 ?hs ?l1 ?l2; (case F => k_asm); (case N => k_asm); (case i1 => k_mem); (case i2 => k_mem); (case hs => (intro p hp; repeat' (first | exact hp | apply List.mem_cons_of_mem))); (case l1 => (first | assumption | exact allLt_of (by assumption) | exact And.right (by assumption) | exact And.right (And.right (by assumption)) | exact And.right (And.right (And.right (by assumption))) | exact And.right (And.right (And.right (And.right (by assumption)))) | exact And.right (And.right (And.right (And.right (And.right (by assumption))))) | exact And.right (And.right (And.right (And.right (And.right (And.right (by assumption)))))) | exact And.right (And.right (And.right (And.right (And.right (And.right (And.right (by assumption))))))) | exact And.right (And.right (And.right (And.right (And.right (And.right (And.right (And.right (by assumption)))))))) | exact And.right (And.right (And.right (And.right (And.right (And.right (And.right (And.right (And.right (by assumption))))))))) | exact And.right (And.right (And.right (And.right (And.right (And.right (And.right (And.right (And.right (And.right (by assumption)))))))))) | exact And.right (And.right (And.right (And.right (And.right (And.right (And.right (And.right (And.right (And.right (And.right (by assumption))))))))))) | exact And.right (And.right (And.right (And.right (And.right (And.right (And.right (And.right (And.right (And.right (And.right (And.right (by assumption)))))))))))) | exact And.right (And.right (And.right (And.right (And.right (And.right (And.right (And.right (And.right (And.right (And.right (And.right (And.right (by assumption))))))))))))) | exact And.right (And.right (And.right (And.right (And.right (And.right (And.right (And.right (And.right (And.right (And.right (And.right (And.right (And.right (by assumption)))))))))))))) | exact And.right (And.right (And.right (And.right (And.right (And.right (And.right (And.right (And.right (And.right (And.right (And.right (And.right (And.right (And.right (by assumption))))))))))))))) | exact And.right (And.right (And.right (And.right (And.right (And.right (And.right (And.right (And.right (And.right (And.right (And.right (And.right (And.right (And.right (And.right (by assumption)))))))))))))))))); (case l2 => assumption); (case e1 => rfl); (case e2 => rfl); (case e3 => rfl))
theorem c_exp0 (c : Nat) (r : List Nat) (t : Tok) (h : Digs (c :: r)) (hl : (c :: r).length ≤ 5) (news : List (Addr × Obj)) : Ctr 241 [.str (S (c :: r)) t] news 60 600 (PInt news (1 * (dv (c :: r) : Int))) := by
  intro w mean mg mb dp un gd cn cs a ccd cl outer A₀ base h₀ L m s Q E B F X N T hk hd hu hret
  obtain ⟨f1, f2, _⟩ := dig_not (h c (by simp)).1; have f3 := sg_dig (h c (by simp)).1; have g1 : 1 ≤ ((c :: r).length : Int) := by simp only [List.length_cons]; lia
  have g2 : ((c :: r).length : Int) ≤ 5 := by lia
  have g3 : (c :: r).length ≤ 100000 := by lia
  (refine wpAny_call ?_; k_dflt cell_enter)
  repeat' (first | (k_unfold; (try dsimp only)) | (k_end; wrow_close) | (k_here; (with_reducible show wpAny _ _ (subscriptTail _ (Expr.Slice _ _ _ _) (Value.str _ _) _) _ _ _); (with_reducible show wpAny _ _ (subscriptTail _ (Expr.Slice none (some _) none _) _ _) _ _ _); with_reducible (k_dflt (refine' rs_ns (s := ⟨_, _, _, _, _⟩) ?zhx ?zF ?zN ?_ ?zhl ?zhs ?zht; (case zhx => first | assumption | exact slice_one _ _ | exact slice_tail _ _ | exact slice_nil_to (by decide) | exact slice_nil_from (by decide)); (case zF => k_asm); (case zN => k_asm); (case zhl => first | assumption | lia | (simp only [List.length_cons, List.length_append, List.length_nil] at *; lia)); (case zhs => with_unfolding_all rfl); (case zht => intro _; with_unfolding_all rfl); k_whole); intro _ _ _ _ _; (try k_sweep))) | ((with_reducible show wpAny _ _ (call _ (_ :: _)) _ _ _); first | (k_here; (with_reducible show wpAny _ _ (call (Value.ref 185) (_ :: _)) _ _ _); with_reducible (k_dflt (refine' use (c_arefig _ _ _ ?zp1 ?zp2 _) ?zk1 ?zk2 ?zk3 ?zk4 ?zk5 ?zk6 ?zk7 ?zk8 ?_; (case zk1 => k_asm); (case zk2 => k_asm); (case zk3 => k_asm); (case zk4 => k_asm); (case zk5 => k_asm); (case zk6 => first | exact rfl | assumption); (case zk7 => ktr_room); (case zk8 => ktr_units); (case zp1 => first | assumption); (case zp2 => first | assumption | lia); k_whole); intro r9 h9 tk9 n9 F9 N9 p9; k_dflt (obtain ⟨e9, e8⟩ := p9; subst e9; subst e8); (try dsimp only); (try k_sweep); (try k_fold))) | (k_here; (with_reducible show wpAny _ _ (call (Value.ref 180) (_ :: _)) _ _ _); with_reducible (k_dflt (refine' use (c_worth _ _ _ ?zp1 ?zp2 _) ?zk1 ?zk2 ?zk3 ?zk4 ?zk5 ?zk6 ?zk7 ?zk8 ?_; (case zk1 => k_asm); (case zk2 => k_asm); (case zk3 => k_asm); (case zk4 => k_asm); (case zk5 => k_asm); (case zk6 => first | exact rfl | assumption); (case zk7 => ktr_room); (case zk8 => ktr_units); (case zp1 => first | assumption); (case zp2 => first | assumption | lia); k_whole); intro r9 h9 tk9 n9 F9 N9 p9; k_dflt (obtain ⟨e9, t9, e8⟩ := p9; subst e9; subst e8); (try dsimp only); (try k_sweep); (try k_fold))) | (k_here; (with_reducible show wpAny _ _ (call (Value.builtin "len") (_ :: _)) _ _ _); with_reducible (k_dflt (refine' r_len ?zhl ?_; (case zhl => first | assumption | lia); k_whole); intro _ _))) | walk1 | (dsimp only; first | (with_reducible show wpAny _ _ (subscriptTail _ _ _ _) _ _ _) | (with_reducible show wpAny _ _ (call _ (_ :: _)) _ _ _) | walk1) | (leave1; walk_say "STEP leave1"; try dsimp only) | fail "no step")
  all_goals (refine' end_int hret ?e ?F ?N ?hs; (case F => k_asm); (case N => k_asm); (case hs => (intro p hp; repeat' (first | exact hp | apply List.mem_cons_of_mem))); (case e => rfl))
theorem c_exp1 (l : List Nat) (t : Tok) (h : Digs l) (hn : l ≠ []) (hl : l.length ≤ 5) (news : List (Addr × Obj)) : Ctr 241 [.str (S (43 :: l)) t] news 60 600 (PInt news (1 * (dv l : Int))) := by
  intro w mean mg mb dp un gd cn cs a ccd cl outer A₀ base h₀ L m s Q E B F X N T hk hd hu hret
  have f1 := plus_not_minus; have f3 := sg_plus; have g1 : 1 ≤ (l.length : Int) := by have := List.length_pos_iff.mpr hn; lia
  have g2 : (l.length : Int) ≤ 5 := by lia
  have g3 : l.length ≤ 100000 := by lia
  (refine wpAny_call ?_; k_dflt cell_enter)
  repeat' (first | (k_unfold; (try dsimp only)) | (k_end; wrow_close) | ((with_reducible show wpAny _ _ (subscriptTail _ _ _ _) _ _ _); first | (k_here; (with_reducible show wpAny _ _ (subscriptTail _ (Expr.Slice _ _ _ _) (Value.str _ _) _) _ _ _); (with_reducible show wpAny _ _ (subscriptTail _ (Expr.Slice (some _) none none _) _ _) _ _ _); with_reducible (k_dflt (refine' rs_sn (s := ⟨_, _, _, _, _⟩) ?zhx ?zF ?zN ?_ ?zhl ?zhs ?zht; (case zhx => first | assumption | exact slice_one _ _ | exact slice_tail _ _ | exact slice_nil_to (by decide) | exact slice_nil_from (by decide)); (case zF => k_asm); (case zN => k_asm); (case zhl => first | assumption | lia | (simp only [List.length_cons, List.length_append, List.length_nil] at *; lia)); (case zhs => with_unfolding_all rfl); (case zht => intro _; with_unfolding_all rfl); k_whole); intro _ _ _ _ _; (try k_sweep))) | (k_here; (with_reducible show wpAny _ _ (subscriptTail _ (Expr.Slice _ _ _ _) (Value.str _ _) _) _ _ _); (with_reducible show wpAny _ _ (subscriptTail _ (Expr.Slice none (some _) none _) _ _) _ _ _); with_reducible (k_dflt (refine' rs_ns (s := ⟨_, _, _, _, _⟩) ?zhx ?zF ?zN ?_ ?zhl ?zhs ?zht; (case zhx => first | assumption | exact slice_one _ _ | exact slice_tail _ _ | exact slice_nil_to (by decide) | exact slice_nil_from (by decide)); (case zF => k_asm); (case zN => k_asm); (case zhl => first | assumption | lia | (simp only [List.length_cons, List.length_append, List.length_nil] at *; lia)); (case zhs => with_unfolding_all rfl); (case zht => intro _; with_unfolding_all rfl); k_whole); intro _ _ _ _ _; (try k_sweep)))) | ((with_reducible show wpAny _ _ (call _ (_ :: _)) _ _ _); first | (k_here; (with_reducible show wpAny _ _ (call (Value.ref 185) (_ :: _)) _ _ _); with_reducible (k_dflt (refine' use (c_arefig _ _ _ ?zp1 ?zp2 _) ?zk1 ?zk2 ?zk3 ?zk4 ?zk5 ?zk6 ?zk7 ?zk8 ?_; (case zk1 => k_asm); (case zk2 => k_asm); (case zk3 => k_asm); (case zk4 => k_asm); (case zk5 => k_asm); (case zk6 => first | exact rfl | assumption); (case zk7 => ktr_room); (case zk8 => ktr_units); (case zp1 => first | assumption); (case zp2 => first | assumption | lia); k_whole); intro r9 h9 tk9 n9 F9 N9 p9; k_dflt (obtain ⟨e9, e8⟩ := p9; subst e9; subst e8); (try dsimp only); (try k_sweep); (try k_fold))) | (k_here; (with_reducible show wpAny _ _ (call (Value.ref 180) (_ :: _)) _ _ _); with_reducible (k_dflt (refine' use (c_worth _ _ _ ?zp1 ?zp2 _) ?zk1 ?zk2 ?zk3 ?zk4 ?zk5 ?zk6 ?zk7 ?zk8 ?_; (case zk1 => k_asm); (case zk2 => k_asm); (case zk3 => k_asm); (case zk4 => k_asm); (case zk5 => k_asm); (case zk6 => first | exact rfl | assumption); (case zk7 => ktr_room); (case zk8 => ktr_units); (case zp1 => first | assumption); (case zp2 => first | assumption | lia); k_whole); intro r9 h9 tk9 n9 F9 N9 p9; k_dflt (obtain ⟨e9, t9, e8⟩ := p9; subst e9; subst e8); (try dsimp only); (try k_sweep); (try k_fold))) | (k_here; (with_reducible show wpAny _ _ (call (Value.builtin "len") (_ :: _)) _ _ _); with_reducible (k_dflt (refine' r_len ?zhl ?_; (case zhl => first | assumption | lia); k_whole); intro _ _))) | walk1 | (dsimp only; first | (with_reducible show wpAny _ _ (subscriptTail _ _ _ _) _ _ _) | (with_reducible show wpAny _ _ (call _ (_ :: _)) _ _ _) | walk1) | (leave1; walk_say "STEP leave1"; try dsimp only) | fail "no step")
  all_goals (refine' end_int hret ?e ?F ?N ?hs; (case F => k_asm); (case N => k_asm); (case hs => (intro p hp; repeat' (first | exact hp | apply List.mem_cons_of_mem))); (case e => rfl))
theorem c_exp2 (l : List Nat) (t : Tok) (h : Digs l) (hn : l ≠ []) (hl : l.length ≤ 5) (news : List (Addr × Obj)) : Ctr 241 [.str (S (45 :: l)) t] news 60 600 (PInt news (-1 * (dv l : Int))) := by
  intro w mean mg mb dp un gd cn cs a ccd cl outer A₀ base h₀ L m s Q E B F X N T hk hd hu hret
  have f1 := minus_is; have f3 := sg_minus; have g1 : 1 ≤ (l.length : Int) := by have := List.length_pos_iff.mpr hn; lia
  have g2 : (l.length : Int) ≤ 5 := by lia
  have g3 : l.length ≤ 100000 := by lia
  (refine wpAny_call ?_; k_dflt cell_enter)
  repeat' (first | (k_unfold; (try dsimp only)) | (k_end; wrow_close) | ((with_reducible show wpAny _ _ (subscriptTail _ _ _ _) _ _ _); first | (k_here; (with_reducible show wpAny _ _ (subscriptTail _ (Expr.Slice _ _ _ _) (Value.str _ _) _) _ _ _); (with_reducible show wpAny _ _ (subscriptTail _ (Expr.Slice (some _) none none _) _ _) _ _ _); with_reducible (k_dflt (refine' rs_sn (s := ⟨_, _, _, _, _⟩) ?zhx ?zF ?zN ?_ ?zhl ?zhs ?zht; (case zhx => first | assumption | exact slice_one _ _ | exact slice_tail _ _ | exact slice_nil_to (by decide) | exact slice_nil_from (by decide)); (case zF => k_asm); (case zN => k_asm); (case zhl => first | assumption | lia | (simp only [List.length_cons, List.length_append, List.length_nil] at *; lia)); (case zhs => with_unfolding_all rfl); (case zht => intro _; with_unfolding_all rfl); k_whole); intro _ _ _ _ _; (try k_sweep))) | (k_here; (with_reducible show wpAny _ _ (subscriptTail _ (Expr.Slice _ _ _ _) (Value.str _ _) _) _ _ _); (with_reducible show wpAny _ _ (subscriptTail _ (Expr.Slice none (some _) none _) _ _) _ _ _); with_reducible (k_dflt (refine' rs_ns (s := ⟨_, _, _, _, _⟩) ?zhx ?zF ?zN ?_ ?zhl ?zhs ?zht; (case zhx => first | assumption | exact slice_one _ _ | exact slice_tail _ _ | exact slice_nil_to (by decide) | exact slice_nil_from (by decide)); (case zF => k_asm); (case zN => k_asm); (case zhl => first | assumption | lia | (simp only [List.length_cons, List.length_append, List.length_nil] at *; lia)); (case zhs => with_unfolding_all rfl); (case zht => intro _; with_unfolding_all rfl); k_whole); intro _ _ _ _ _; (try k_sweep)))) | ((with_reducible show wpAny _ _ (call _ (_ :: _)) _ _ _); first | (k_here; (with_reducible show wpAny _ _ (call (Value.ref 185) (_ :: _)) _ _ _); with_reducible (k_dflt (refine' use (c_arefig _ _ _ ?zp1 ?zp2 _) ?zk1 ?zk2 ?zk3 ?zk4 ?zk5 ?zk6 ?zk7 ?zk8 ?_; (case zk1 => k_asm); (case zk2 => k_asm); (case zk3 => k_asm); (case zk4 => k_asm); (case zk5 => k_asm); (case zk6 => first | exact rfl | assumption); (case zk7 => ktr_room); (case zk8 => ktr_units); (case zp1 => first | assumption); (case zp2 => first | assumption | lia); k_whole); intro r9 h9 tk9 n9 F9 N9 p9; k_dflt (obtain ⟨e9, e8⟩ := p9; subst e9; subst e8); (try dsimp only); (try k_sweep); (try k_fold))) | (k_here; (with_reducible show wpAny _ _ (call (Value.ref 180) (_ :: _)) _ _ _); with_reducible (k_dflt (refine' use (c_worth _ _ _ ?zp1 ?zp2 _) ?zk1 ?zk2 ?zk3 ?zk4 ?zk5 ?zk6 ?zk7 ?zk8 ?_; (case zk1 => k_asm); (case zk2 => k_asm); (case zk3 => k_asm); (case zk4 => k_asm); (case zk5 => k_asm); (case zk6 => first | exact rfl | assumption); (case zk7 => ktr_room); (case zk8 => ktr_units); (case zp1 => first | assumption); (case zp2 => first | assumption | lia); k_whole); intro r9 h9 tk9 n9 F9 N9 p9; k_dflt (obtain ⟨e9, t9, e8⟩ := p9; subst e9; subst e8); (try dsimp only); (try k_sweep); (try k_fold))) | (k_here; (with_reducible show wpAny _ _ (call (Value.builtin "len") (_ :: _)) _ _ _); with_reducible (k_dflt (refine' r_len ?zhl ?_; (case zhl => first | assumption | lia); k_whole); intro _ _))) | walk1 | (dsimp only; first | (with_reducible show wpAny _ _ (subscriptTail _ _ _ _) _ _ _) | (with_reducible show wpAny _ _ (call _ (_ :: _)) _ _ _) | walk1) | (leave1; walk_say "STEP leave1"; try dsimp only) | fail "no step")
  all_goals (refine' end_int hret ?e ?F ?N ?hs; (case F => k_asm); (case N => k_asm); (case hs => (intro p hp; repeat' (first | exact hp | apply List.mem_cons_of_mem))); (case e => rfl))
def Mant (l : List Nat) (a b : Int) : Prop := l.length ≤ 1000 ∧ ((Digs l ∧ l ≠ [] ∧ a = (dv l : Int) ∧ b = 1) ∨ ∃ x y, l = x ++ 46 :: y ∧ Digs x ∧ Digs y ∧ x ++ y ≠ [] ∧ a = (dv (x ++ y) : Int) ∧ b = 10 ^ y.length)
def Expo (l : List Nat) (v : Int) : Prop := ∃ d : List Nat, Digs d ∧ d ≠ [] ∧ d.length ≤ 5 ∧ ((l = d ∧ v = 1 * (dv d : Int)) ∨ (l = 43 :: d ∧ v = 1 * (dv d : Int)) ∨ (l = 45 :: d ∧ v = -1 * (dv d : Int)))
theorem Mant.ne {l : List Nat} {a b : Int} (h : Mant l a b) : l ≠ [] := by
  obtain ⟨_, h | ⟨x, y, rfl, _⟩⟩ := h
  · exact h.2.1
  · simp
theorem Mant.signs {l : List Nat} {a b : Int} (h : Mant l a b) : ∀ c ∈ l, 48 ≤ c ∧ c ≤ 57 ∨ c = 46 := by
  obtain ⟨_, h | ⟨x, y, rfl, hx, hy, _⟩⟩ := h
  · exact fun c hc => Or.inl (h.1 c hc)
  · intro c hc
    rcases List.mem_append.mp hc with hc | hc
    · exact Or.inl (hx c hc)
    · rcases List.mem_cons.mp hc with rfl | hc
      · exact Or.inr rfl
      · exact Or.inl (hy c hc)
theorem Expo.signs {l : List Nat} {v : Int} (h : Expo l v) : (∀ c ∈ l, 48 ≤ c ∧ c ≤ 57 ∨ c = 43 ∨ c = 45) ∧ l.length ≤ 6 := by
  obtain ⟨d, hd, _, hl, ⟨rfl, _⟩ | ⟨rfl, _⟩ | ⟨rfl, _⟩⟩ := h
  · exact ⟨fun c hc => Or.inl (hd c hc), by lia⟩
  · refine ⟨fun c hc => ?_, by simp only [List.length_cons]; lia⟩
    rcases List.mem_cons.mp hc with rfl | hc
    · exact Or.inr (Or.inl rfl)
    · exact Or.inl (hd c hc)
  · refine ⟨fun c hc => ?_, by simp only [List.length_cons]; lia⟩
    rcases List.mem_cons.mp hc with rfl | hc
    · exact Or.inr (Or.inr rfl)
    · exact Or.inl (hd c hc)
theorem not_mk {c : Nat} (h : 48 ≤ c ∧ c ≤ 57 ∨ c = 46 ∨ c = 43 ∨ c = 45) : isMk c = false := by
  rw [isMk_eq, decide_eq_false_iff_not]
  simp only [List.mem_cons, List.not_mem_nil, or_false]; lia
theorem ascii_of {l : List Nat} (h : ∀ c ∈ l, c < 128) : ((S l).cps.all (· < 128)) = true := by
  rw [← Array.all_toList, S_cps, List.all_eq_true]
  exact fun c hc => decide_eq_true (h c hc)
theorem slice_head (p q : List Nat) : PySem.Txt.slice (S (p ++ q)) none (some (p.length : Int)) = S p := by
  rw [slice_to (p ++ q) (by lia) (by simp; lia)]; simp
theorem slice_all (p : List Nat) : PySem.Txt.slice (S p) none (some (p.length : Int)) = S p := by
  rw [slice_to p (by lia) (by lia)]; simp
theorem slice_rest (p : List Nat) (c : Nat) (q : List Nat) : PySem.Txt.slice (S (p ++ c :: q)) (some ((p.length : Int) + 1)) none = S q := by
  rw [slice_from (p ++ c :: q) (by lia) (by simp; lia)]
  have e : ((p.length : Int) + 1).toNat = p.length + 1 := by lia
  rw [e, ← List.drop_drop, List.drop_left]; rfl
theorem pow_nat (n : Nat) : (10 : Int) ^ ((n : Int)).toNat = 10 ^ n := by rw [Int.toNat_natCast]

theorem c_parts (x y : List Nat) (t t1 : Tok) (hx : Digs x) (hy : Digs y) (hn : x ++ y ≠ []) (hl : x.length ≤ 1000) (hm : y.length ≤ 1000) (news : List (Addr × Obj)) : Ctr 234 [.str (S x) t, .str (S y) t1] news 60 600 (PBool news true) := by
  intro w mean mg mb dp un gd cn cs a ccd cl outer A₀ base h₀ L m s Q E B F X N T hk hd hu hret
  have hne := ne_empty hn
  have hl1 : x.length ≤ 100000 := by lia
  have hl2 : y.length ≤ 100000 := by lia
  (refine wpAny_call ?_; k_dflt cell_enter)
  repeat' (first | (k_unfold; (try dsimp only)) | (k_end; wrow_close) | (k_here; (with_reducible show wpAny _ _ (binaryOp Operator.Add (Value.str _ _) (Value.str _ _)) _ _ _); with_reducible (k_dflt (refine' r_add ?zhl ?_; (case zhl => first | assumption | lia | (simp only [List.length_cons, List.length_append, List.length_nil] at *; lia)); k_whole); intro _ _)) | ((with_reducible show wpAny _ _ (call _ (_ :: _)) _ _ _); first | (k_here; (with_reducible show wpAny _ _ (call (Value.ref 185) (_ :: _)) _ _ _); with_reducible (k_dflt (refine' use (c_arefig _ _ _ ?zp1 ?zp2 _) ?zk1 ?zk2 ?zk3 ?zk4 ?zk5 ?zk6 ?zk7 ?zk8 ?_; (case zk1 => k_asm); (case zk2 => k_asm); (case zk3 => k_asm); (case zk4 => k_asm); (case zk5 => k_asm); (case zk6 => first | exact rfl | assumption); (case zk7 => ktr_room); (case zk8 => ktr_units); (case zp1 => first | assumption); (case zp2 => first | assumption | lia); k_whole); intro r9 h9 tk9 n9 F9 N9 p9; k_dflt (obtain ⟨e9, e8⟩ := p9; subst e9; subst e8); (try dsimp only); (try k_sweep); (try k_fold))) | (k_here; (with_reducible show wpAny _ _ (call (Value.ref 192) (_ :: _)) _ _ _); with_reducible (k_dflt (refine' use (c_parted _ _ ?zp1 ?zp2 _) ?zk1 ?zk2 ?zk3 ?zk4 ?zk5 ?zk6 ?zk7 ?zk8 ?_; (case zk1 => k_asm); (case zk2 => k_asm); (case zk3 => k_asm); (case zk4 => k_asm); (case zk5 => k_asm); (case zk6 => first | exact rfl | assumption); (case zk7 => ktr_room); (case zk8 => ktr_units); (case zp1 => first | assumption | exact Digs.not (by assumption) (by decide)); (case zp2 => first | assumption | lia); k_whole); intro r9 h9 tk9 n9 F9 N9 p9; k_dflt (obtain ⟨x9, ta9, tb9, e8, e9, l9⟩ := p9; subst e9; subst e8; (try simp only [AllLt, and_true] at l9)); (try dsimp only); (try k_sweep); (try k_fold)))) | walk1 | (dsimp only; first | (with_reducible show wpAny _ _ (binaryOp _ _ _) _ _ _) | (with_reducible show wpAny _ _ (call _ (_ :: _)) _ _ _) | walk1) | (leave1; walk_say "STEP leave1"; try dsimp only) | fail "no step")
  all_goals (refine' end_bool hret ?e ?F ?N ?hs; (case F => k_asm); (case N => k_asm); (case hs => (intro p hp; repeat' (first | exact hp | apply List.mem_cons_of_mem))); (case e => (first | rfl | decide)))
theorem c_mant (l : List Nat) (p q : Int) (t : Tok) (h : Mant l p q) (news : List (Addr × Obj)) : Ctr 253 [.str (S l) t] news 120 1200 (PRead news p q false) := by
  intro w mean mg mb dp un gd cn cs a ccd cl outer A₀ base h₀ L m s Q E B F X N T hk hd hu hret
  obtain ⟨hl, ⟨hd, hn, rfl, rfl⟩ | ⟨x, y, rfl, hx, hy, hn, rfl, rfl⟩⟩ := h
  · have hl1 : l.length ≤ 100000 := by lia
    (refine wpAny_call ?_; k_dflt cell_enter)
    repeat' (first | (k_unfold; (try dsimp only)) | (k_end; wrow_close) | ((with_reducible show wpAny _ _ (call _ (_ :: _)) _ _ _); first | (k_here; (with_reducible show wpAny _ _ (call (Value.ref 234) (_ :: _)) _ _ _); with_reducible (k_dflt (refine' use (c_parts _ _ _ _ ?zp1 ?zp2 ?zp3 ?zp4 ?zp5 _) ?zk1 ?zk2 ?zk3 ?zk4 ?zk5 ?zk6 ?zk7 ?zk8 ?_; (case zk1 => k_asm); (case zk2 => k_asm); (case zk3 => k_asm); (case zk4 => k_asm); (case zk5 => k_asm); (case zk6 => first | exact rfl | assumption); (case zk7 => ktr_room); (case zk8 => ktr_units); (case zp1 => assumption); (case zp2 => assumption); (case zp3 => assumption); (case zp4 => assumption); (case zp5 => assumption); k_whole); intro r9 h9 tk9 n9 F9 N9 p9; k_dflt (obtain ⟨e9, e8⟩ := p9; subst e9; subst e8); (try dsimp only); (try k_sweep); (try k_fold))) | (k_here; (with_reducible show wpAny _ _ (call (Value.builtin "str.split") (_ :: _)) _ _ _); with_reducible (k_dflt (refine' r_split1 (by first | exact lit_slash | exact lit_dot) ?zF ?zN ?zha ?zhl ?_; (case zF => k_asm); (case zN => k_asm); (case zha => first | assumption | exact Digs.not (by assumption) (by decide)); (case zhl => first | assumption | lia | (simp only [List.length_cons, List.length_append, List.length_nil] at *; lia)); k_whole); intro D' t1' h' k' F' N' l1; (try k_lt l1); (try k_sweep))) | (k_here; (with_reducible show wpAny _ _ (call (Value.builtin "str.split") (_ :: _)) _ _ _); with_reducible (k_dflt (refine' r_split2 (by first | exact lit_slash | exact lit_dot) ?zF ?zN ?zha ?zhb ?zhl ?_; (case zF => k_asm); (case zN => k_asm); (case zha => first | assumption | exact Digs.not (by assumption) (by decide)); (case zhb => first | assumption | exact Digs.not (by assumption) (by decide)); (case zhl => first | assumption | lia | (simp only [List.length_cons, List.length_append, List.length_nil] at *; lia)); k_whole); intro D' t1' t2' h' k' F' N' l1; (try k_lt l1); (try k_sweep))) | (k_here; (with_reducible show wpAny _ _ (call (Value.builtin "str.replace") (_ :: _)) _ _ _); with_reducible (k_dflt (refine' r_replace ?zha ?zhl ?_; (case zha => first | assumption | exact Digs.not (by assumption) (by decide)); (case zhl => first | assumption | lia | (simp only [List.length_cons, List.length_append, List.length_nil] at *; lia)); k_whole); intro _ _)) | (k_here; (with_reducible show wpAny _ _ (call (Value.ref 220) (_ :: _)) _ _ _); with_reducible (k_dflt (refine' use (c_whole _ _ _ ?zp1 ?zp2 ?zp3 _) ?zk1 ?zk2 ?zk3 ?zk4 ?zk5 ?zk6 ?zk7 ?zk8 ?_; (case zk1 => k_asm); (case zk2 => k_asm); (case zk3 => k_asm); (case zk4 => k_asm); (case zk5 => k_asm); (case zk6 => first | exact rfl | assumption); (case zk7 => ktr_room); (case zk8 => ktr_units); (case zp1 => assumption); (case zp2 => assumption); (case zp3 => first | assumption | lia); k_whole); intro r9 h9 tk9 n9 F9 N9 p9; k_dflt (obtain ⟨x9, d9, ha9, hb9, hc9, ta9, tb9, tc9, td9, te9, e8, e9, l9, l8⟩ := p9; subst e9; subst e8; (try simp only [AllLt, and_true] at l9)); (try dsimp only); (try k_sweep); (try k_fold))) | (k_here; (with_reducible show wpAny _ _ (call (Value.ref 180) (_ :: _)) _ _ _); with_reducible (k_dflt (refine' use (c_worth _ _ _ ?zp1 ?zp2 _) ?zk1 ?zk2 ?zk3 ?zk4 ?zk5 ?zk6 ?zk7 ?zk8 ?_; (case zk1 => k_asm); (case zk2 => k_asm); (case zk3 => k_asm); (case zk4 => k_asm); (case zk5 => k_asm); (case zk6 => first | exact rfl | assumption); (case zk7 => ktr_room); (case zk8 => ktr_units); (case zp1 => first | assumption); (case zp2 => first | assumption | lia); k_whole); intro r9 h9 tk9 n9 F9 N9 p9; k_dflt (obtain ⟨e9, t9, e8⟩ := p9; subst e9; subst e8); (try dsimp only); (try k_sweep); (try k_fold))) | (k_here; (with_reducible show wpAny _ _ (call (Value.builtin "len") (_ :: _)) _ _ _); with_reducible (k_dflt (refine' r_len ?zhl ?_; (case zhl => first | assumption | lia); k_whole); intro _ _))) | (k_here; (with_reducible show wpAny _ _ (binaryOp Operator.Add (Value.str _ _) (Value.str _ _)) _ _ _); with_reducible (k_dflt (refine' r_add ?zhl ?_; (case zhl => first | assumption | lia | (simp only [List.length_cons, List.length_append, List.length_nil] at *; lia)); k_whole); intro _ _)) | walk1 | (dsimp only; first | (with_reducible show wpAny _ _ (call _ (_ :: _)) _ _ _) | (with_reducible show wpAny _ _ (binaryOp _ _ _) _ _ _) | walk1) | (leave1; walk_say "STEP leave1"; try dsimp only) | fail "no step")
    all_goals (refine' end_read hret ?F ?N ?e1 ?e2 ?e3 ?i1 ?i2 ?hs ?l1 ?l2; (case F => k_asm); (case N => k_asm); (case i1 => k_mem); (case i2 => k_mem); (case hs => (intro p hp; repeat' (first | exact hp | apply List.mem_cons_of_mem))); (case l1 => (first | assumption | exact allLt_of (by assumption) | exact And.right (by assumption) | exact And.right (And.right (by assumption)) | exact And.right (And.right (And.right (by assumption))) | exact And.right (And.right (And.right (And.right (by assumption)))) | exact And.right (And.right (And.right (And.right (And.right (by assumption))))) | exact And.right (And.right (And.right (And.right (And.right (And.right (by assumption)))))) | exact And.right (And.right (And.right (And.right (And.right (And.right (And.right (by assumption))))))) | exact And.right (And.right (And.right (And.right (And.right (And.right (And.right (And.right (by assumption)))))))) | exact And.right (And.right (And.right (And.right (And.right (And.right (And.right (And.right (And.right (by assumption))))))))) | exact And.right (And.right (And.right (And.right (And.right (And.right (And.right (And.right (And.right (And.right (by assumption)))))))))) | exact And.right (And.right (And.right (And.right (And.right (And.right (And.right (And.right (And.right (And.right (And.right (by assumption))))))))))) | exact And.right (And.right (And.right (And.right (And.right (And.right (And.right (And.right (And.right (And.right (And.right (And.right (by assumption)))))))))))) | exact And.right (And.right (And.right (And.right (And.right (And.right (And.right (And.right (And.right (And.right (And.right (And.right (And.right (by assumption))))))))))))) | exact And.right (And.right (And.right (And.right (And.right (And.right (And.right (And.right (And.right (And.right (And.right (And.right (And.right (And.right (by assumption)))))))))))))) | exact And.right (And.right (And.right (And.right (And.right (And.right (And.right (And.right (And.right (And.right (And.right (And.right (And.right (And.right (And.right (by assumption))))))))))))))) | exact And.right (And.right (And.right (And.right (And.right (And.right (And.right (And.right (And.right (And.right (And.right (And.right (And.right (And.right (And.right (And.right (by assumption)))))))))))))))))); (case l2 => assumption); (case e1 => (first | rfl | (simp only [*, pow_nat]; done) | (subst_vars; simp only [pow_nat]; done))); (case e2 => (first | rfl | (simp only [*, pow_nat]; done) | (subst_vars; simp only [pow_nat]; done))); (case e3 => (first | rfl | (simp only [*, pow_nat]; done) | (subst_vars; simp only [pow_nat]; done))))
  have hl1 : x.length ≤ 1000 := by simp only [List.length_append, List.length_cons] at hl; lia
  have hl2 : y.length ≤ 1000 := by simp only [List.length_append, List.length_cons] at hl; lia
  have hxy := hx.app hy
  have hl3 : (x ++ y).length ≤ 100000 := by simp only [List.length_append]; lia
  (refine wpAny_call ?_; k_dflt cell_enter)
  repeat' (first | (k_unfold; (try dsimp only)) | (k_end; wrow_close) | ((with_reducible show wpAny _ _ (call _ (_ :: _)) _ _ _); first | (k_here; (with_reducible show wpAny _ _ (call (Value.ref 234) (_ :: _)) _ _ _); with_reducible (k_dflt (refine' use (c_parts _ _ _ _ ?zp1 ?zp2 ?zp3 ?zp4 ?zp5 _) ?zk1 ?zk2 ?zk3 ?zk4 ?zk5 ?zk6 ?zk7 ?zk8 ?_; (case zk1 => k_asm); (case zk2 => k_asm); (case zk3 => k_asm); (case zk4 => k_asm); (case zk5 => k_asm); (case zk6 => first | exact rfl | assumption); (case zk7 => ktr_room); (case zk8 => ktr_units); (case zp1 => assumption); (case zp2 => assumption); (case zp3 => assumption); (case zp4 => assumption); (case zp5 => assumption); k_whole); intro r9 h9 tk9 n9 F9 N9 p9; k_dflt (obtain ⟨e9, e8⟩ := p9; subst e9; subst e8); (try dsimp only); (try k_sweep); (try k_fold))) | (k_here; (with_reducible show wpAny _ _ (call (Value.builtin "str.split") (_ :: _)) _ _ _); with_reducible (k_dflt (refine' r_split1 (by first | exact lit_slash | exact lit_dot) ?zF ?zN ?zha ?zhl ?_; (case zF => k_asm); (case zN => k_asm); (case zha => first | assumption | exact Digs.not (by assumption) (by decide)); (case zhl => first | assumption | lia | (simp only [List.length_cons, List.length_append, List.length_nil] at *; lia)); k_whole); intro D' t1' h' k' F' N' l1; (try k_lt l1); (try k_sweep))) | (k_here; (with_reducible show wpAny _ _ (call (Value.builtin "str.split") (_ :: _)) _ _ _); with_reducible (k_dflt (refine' r_split2 (by first | exact lit_slash | exact lit_dot) ?zF ?zN ?zha ?zhb ?zhl ?_; (case zF => k_asm); (case zN => k_asm); (case zha => first | assumption | exact Digs.not (by assumption) (by decide)); (case zhb => first | assumption | exact Digs.not (by assumption) (by decide)); (case zhl => first | assumption | lia | (simp only [List.length_cons, List.length_append, List.length_nil] at *; lia)); k_whole); intro D' t1' t2' h' k' F' N' l1; (try k_lt l1); (try k_sweep))) | (k_here; (with_reducible show wpAny _ _ (call (Value.builtin "str.replace") (_ :: _)) _ _ _); with_reducible (k_dflt (refine' r_replace ?zha ?zhl ?_; (case zha => first | assumption | exact Digs.not (by assumption) (by decide)); (case zhl => first | assumption | lia | (simp only [List.length_cons, List.length_append, List.length_nil] at *; lia)); k_whole); intro _ _)) | (k_here; (with_reducible show wpAny _ _ (call (Value.ref 220) (_ :: _)) _ _ _); with_reducible (k_dflt (refine' use (c_whole _ _ _ ?zp1 ?zp2 ?zp3 _) ?zk1 ?zk2 ?zk3 ?zk4 ?zk5 ?zk6 ?zk7 ?zk8 ?_; (case zk1 => k_asm); (case zk2 => k_asm); (case zk3 => k_asm); (case zk4 => k_asm); (case zk5 => k_asm); (case zk6 => first | exact rfl | assumption); (case zk7 => ktr_room); (case zk8 => ktr_units); (case zp1 => assumption); (case zp2 => assumption); (case zp3 => first | assumption | lia); k_whole); intro r9 h9 tk9 n9 F9 N9 p9; k_dflt (obtain ⟨x9, d9, ha9, hb9, hc9, ta9, tb9, tc9, td9, te9, e8, e9, l9, l8⟩ := p9; subst e9; subst e8; (try simp only [AllLt, and_true] at l9)); (try dsimp only); (try k_sweep); (try k_fold))) | (k_here; (with_reducible show wpAny _ _ (call (Value.ref 180) (_ :: _)) _ _ _); with_reducible (k_dflt (refine' use (c_worth _ _ _ ?zp1 ?zp2 _) ?zk1 ?zk2 ?zk3 ?zk4 ?zk5 ?zk6 ?zk7 ?zk8 ?_; (case zk1 => k_asm); (case zk2 => k_asm); (case zk3 => k_asm); (case zk4 => k_asm); (case zk5 => k_asm); (case zk6 => first | exact rfl | assumption); (case zk7 => ktr_room); (case zk8 => ktr_units); (case zp1 => first | assumption); (case zp2 => first | assumption | lia); k_whole); intro r9 h9 tk9 n9 F9 N9 p9; k_dflt (obtain ⟨e9, t9, e8⟩ := p9; subst e9; subst e8); (try dsimp only); (try k_sweep); (try k_fold))) | (k_here; (with_reducible show wpAny _ _ (call (Value.builtin "len") (_ :: _)) _ _ _); with_reducible (k_dflt (refine' r_len ?zhl ?_; (case zhl => first | assumption | lia); k_whole); intro _ _))) | (k_here; (with_reducible show wpAny _ _ (binaryOp Operator.Add (Value.str _ _) (Value.str _ _)) _ _ _); with_reducible (k_dflt (refine' r_add ?zhl ?_; (case zhl => first | assumption | lia | (simp only [List.length_cons, List.length_append, List.length_nil] at *; lia)); k_whole); intro _ _)) | walk1 | (dsimp only; first | (with_reducible show wpAny _ _ (call _ (_ :: _)) _ _ _) | (with_reducible show wpAny _ _ (binaryOp _ _ _) _ _ _) | walk1) | (leave1; walk_say "STEP leave1"; try dsimp only) | fail "no step")
  all_goals (refine' end_read hret ?F ?N ?e1 ?e2 ?e3 ?i1 ?i2 ?hs ?l1 ?l2; (case F => k_asm); (case N => k_asm); (case i1 => k_mem); (case i2 => k_mem); (case hs => (intro p hp; repeat' (first | exact hp | apply List.mem_cons_of_mem))); (case l1 => (first | assumption | exact allLt_of (by assumption) | exact And.right (by assumption) | exact And.right (And.right (by assumption)) | exact And.right (And.right (And.right (by assumption))) | exact And.right (And.right (And.right (And.right (by assumption)))) | exact And.right (And.right (And.right (And.right (And.right (by assumption))))) | exact And.right (And.right (And.right (And.right (And.right (And.right (by assumption)))))) | exact And.right (And.right (And.right (And.right (And.right (And.right (And.right (by assumption))))))) | exact And.right (And.right (And.right (And.right (And.right (And.right (And.right (And.right (by assumption)))))))) | exact And.right (And.right (And.right (And.right (And.right (And.right (And.right (And.right (And.right (by assumption))))))))) | exact And.right (And.right (And.right (And.right (And.right (And.right (And.right (And.right (And.right (And.right (by assumption)))))))))) | exact And.right (And.right (And.right (And.right (And.right (And.right (And.right (And.right (And.right (And.right (And.right (by assumption))))))))))) | exact And.right (And.right (And.right (And.right (And.right (And.right (And.right (And.right (And.right (And.right (And.right (And.right (by assumption)))))))))))) | exact And.right (And.right (And.right (And.right (And.right (And.right (And.right (And.right (And.right (And.right (And.right (And.right (And.right (by assumption))))))))))))) | exact And.right (And.right (And.right (And.right (And.right (And.right (And.right (And.right (And.right (And.right (And.right (And.right (And.right (And.right (by assumption)))))))))))))) | exact And.right (And.right (And.right (And.right (And.right (And.right (And.right (And.right (And.right (And.right (And.right (And.right (And.right (And.right (And.right (by assumption))))))))))))))) | exact And.right (And.right (And.right (And.right (And.right (And.right (And.right (And.right (And.right (And.right (And.right (And.right (And.right (And.right (And.right (And.right (by assumption)))))))))))))))))); (case l2 => assumption); (case e1 => (first | rfl | (simp only [*, pow_nat]; done) | (subst_vars; simp only [pow_nat]; done))); (case e2 => (first | rfl | (simp only [*, pow_nat]; done) | (subst_vars; simp only [pow_nat]; done))); (case e3 => (first | rfl | (simp only [*, pow_nat]; done) | (subst_vars; simp only [pow_nat]; done))))
def DecE (w : List Nat) (M : List Nat) (c : Nat) (T : List Nat) (v a0 b0 : Int) : Prop := w = M ++ c :: T ∧ Mant M a0 b0 ∧ isMk c = true ∧ Expo T v ∧ -1000000 ≤ v ∧ v ≤ 1000000
theorem DecE.facts {w M : List Nat} {c : Nat} {T : List Nat} {v a0 b0 : Int} (h : DecE w M c T v a0 b0) :
    enIdx isMk 0 w = [(M.length : Int)] ∧ ((S w).cps.all (· < 128)) = true ∧ w.length ≤ 100000 ∧ ¬ (M.length : Int) = (w.length : Int) ∧ (M.length : Int) < (w.length : Int) ∧
    PySem.Txt.slice (S w) none (some (M.length : Int)) = S M ∧ PySem.Txt.slice (S w) (some ((M.length : Int) + 1)) none = S T := by
  obtain ⟨rfl, hM, hc, hT, _, _⟩ := h
  have h1 := hM.signs
  have h2 := hT.signs
  have hc' : c ∈ [101, 115, 102, 100, 108] := by rw [isMk_eq] at hc; exact of_decide_eq_true hc
  simp only [List.mem_cons, List.not_mem_nil, or_false] at hc'
  have hl := hM.1
  refine ⟨?_, ascii_of fun d hd => ?_, by simp only [List.length_append, List.length_cons]; lia, by simp only [List.length_append, List.length_cons]; lia, by simp only [List.length_append, List.length_cons]; lia, slice_head _ _, slice_rest _ _ _⟩
  · have := enIdx_one c T hc (fun d hd => not_mk (by have := h2.1 d hd; lia)) M 0 fun d hd => not_mk (by have := h1 d hd; lia)
    rw [Nat.zero_add] at this; exact this
  · rcases List.mem_append.mp hd with hd | hd
    · have := h1 d hd; lia
    · rcases List.mem_cons.mp hd with rfl | hd
      · lia
      · have := h2.1 d hd; lia
theorem Mant.facts {l : List Nat} {a b : Int} (h : Mant l a b) : enIdx isMk 0 l = [] ∧ ((S l).cps.all (· < 128)) = true ∧ l.length ≤ 100000 ∧ PySem.Txt.slice (S l) none (some (l.length : Int)) = S l ∧ (l.length : Int) = (l.length : Int) ∧ ¬ (l.length : Int) < (l.length : Int) :=
  ⟨enIdx_none l 0 fun d hd => not_mk (by have := h.signs d hd; lia), ascii_of fun d hd => by have := h.signs d hd; lia, by have := h.1; lia, slice_all l, rfl, by lia⟩

theorem c_expo (l : List Nat) (v : Int) (t : Tok) (h : Expo l v) (news : List (Addr × Obj)) : Ctr 241 [.str (S l) t] news 60 600 (PInt news v) := by
  obtain ⟨d, hd, hn, hl, ⟨rfl, rfl⟩ | ⟨rfl, rfl⟩ | ⟨rfl, rfl⟩⟩ := h
  · match l, hn with
    | c :: r, _ => exact c_exp0 c r t hd hl news
  · exact c_exp1 d t hd hn hl news
  · exact c_exp2 d t hd hn hl news

theorem c_dec0 (l : List Nat) (p q : Int) (t : Tok) (h : Mant l p q) (news : List (Addr × Obj)) : Ctr 260 [.str (S l) t] news 200 2000 (PRead news (p) (q) false) := by
  intro w mean mg mb dp un gd cn cs a ccd cl outer A₀ base h₀ L m s Q E B F X N T hk hd hu hret
  obtain ⟨f1, f2, f3, f4, f5, f6⟩ := h.facts
  (refine wpAny_call ?_; k_dflt cell_enter)
  repeat' (first | (k_unfold; (try dsimp only)) | (k_end; wrow_close) | ((with_reducible show wpAny _ _ (call _ (_ :: _)) _ _ _); first | (k_here; (with_reducible show wpAny _ _ (call (Value.ref 253) (_ :: _)) _ _ _); with_reducible (k_dflt (refine' use (c_mant _ _ _ _ ?zp1 _) ?zk1 ?zk2 ?zk3 ?zk4 ?zk5 ?zk6 ?zk7 ?zk8 ?_; (case zk1 => k_asm); (case zk2 => k_asm); (case zk3 => k_asm); (case zk4 => k_asm); (case zk5 => k_asm); (case zk6 => first | exact rfl | assumption); (case zk7 => ktr_room); (case zk8 => ktr_units); (case zp1 => assumption); k_whole); intro r9 h9 tk9 n9 F9 N9 p9; k_dflt (obtain ⟨x9, d9, ha9, hb9, hc9, ta9, tb9, tc9, td9, te9, e8, e9, l9, l8⟩ := p9; subst e9; subst e8; (try simp only [AllLt, and_true] at l9)); (try dsimp only); (try k_sweep); (try k_fold))) | (k_here; (with_reducible show wpAny _ _ (call (Value.ref 246) (_ :: _)) _ _ _); with_reducible (k_dflt (refine' use (c_mark0 _ _ ?zp1 ?zp2 ?zp3 _) ?zk1 ?zk2 ?zk3 ?zk4 ?zk5 ?zk6 ?zk7 ?zk8 ?_; (case zk1 => k_asm); (case zk2 => k_asm); (case zk3 => k_asm); (case zk4 => k_asm); (case zk5 => k_asm); (case zk6 => first | exact rfl | assumption); (case zk7 => ktr_room); (case zk8 => ktr_units); (case zp1 => assumption); (case zp2 => assumption); (case zp3 => first | assumption | lia); k_whole); intro r9 h9 tk9 n9 F9 N9 p9; k_dflt (obtain ⟨e9, t9, e8⟩ := p9; subst e9; subst e8); (try dsimp only); (try k_sweep); (try k_fold))) | (k_here; (with_reducible show wpAny _ _ (call (Value.builtin "len") (_ :: _)) _ _ _); with_reducible (k_dflt (refine' r_len ?zhl ?_; (case zhl => first | assumption | lia); k_whole); intro _ _))) | (k_here; (with_reducible show wpAny _ _ (subscriptTail _ (Expr.Slice _ _ _ _) (Value.str _ _) _) _ _ _); (with_reducible show wpAny _ _ (subscriptTail _ (Expr.Slice none (some _) none _) _ _) _ _ _); with_reducible (k_dflt (refine' rs_ns (s := ⟨_, _, _, _, _⟩) ?zhx ?zF ?zN ?_ ?zhl ?zhs ?zht; (case zhx => first | assumption | exact slice_one _ _ | exact slice_tail _ _ | exact slice_nil_to (by decide) | exact slice_nil_from (by decide)); (case zF => k_asm); (case zN => k_asm); (case zhl => first | assumption | lia | (simp only [List.length_cons, List.length_append, List.length_nil] at *; lia)); (case zhs => with_unfolding_all rfl); (case zht => intro _; with_unfolding_all rfl); k_whole); intro _ _ _ _ _; (try k_sweep))) | walk1 | (dsimp only; first | (with_reducible show wpAny _ _ (call _ (_ :: _)) _ _ _) | (with_reducible show wpAny _ _ (subscriptTail _ _ _ _) _ _ _) | walk1) | (leave1; walk_say "STEP leave1"; try dsimp only) | fail "no step")
  all_goals (refine' end_read hret ?F ?N ?e1 ?e2 ?e3 ?i1 ?i2 ?hs ?l1 ?l2; (case F => k_asm); (case N => k_asm); (case i1 => k_mem); (case i2 => k_mem); (case hs => (intro p hp; repeat' (first | exact hp | apply List.mem_cons_of_mem))); (case l1 => (first | assumption | exact allLt_of (by assumption) | exact And.right (by assumption) | exact And.right (And.right (by assumption)) | exact And.right (And.right (And.right (by assumption))) | exact And.right (And.right (And.right (And.right (by assumption)))) | exact And.right (And.right (And.right (And.right (And.right (by assumption))))) | exact And.right (And.right (And.right (And.right (And.right (And.right (by assumption)))))) | exact And.right (And.right (And.right (And.right (And.right (And.right (And.right (by assumption))))))) | exact And.right (And.right (And.right (And.right (And.right (And.right (And.right (And.right (by assumption)))))))) | exact And.right (And.right (And.right (And.right (And.right (And.right (And.right (And.right (And.right (by assumption))))))))) | exact And.right (And.right (And.right (And.right (And.right (And.right (And.right (And.right (And.right (And.right (by assumption)))))))))) | exact And.right (And.right (And.right (And.right (And.right (And.right (And.right (And.right (And.right (And.right (And.right (by assumption))))))))))) | exact And.right (And.right (And.right (And.right (And.right (And.right (And.right (And.right (And.right (And.right (And.right (And.right (by assumption)))))))))))) | exact And.right (And.right (And.right (And.right (And.right (And.right (And.right (And.right (And.right (And.right (And.right (And.right (And.right (by assumption))))))))))))) | exact And.right (And.right (And.right (And.right (And.right (And.right (And.right (And.right (And.right (And.right (And.right (And.right (And.right (And.right (by assumption)))))))))))))) | exact And.right (And.right (And.right (And.right (And.right (And.right (And.right (And.right (And.right (And.right (And.right (And.right (And.right (And.right (And.right (by assumption))))))))))))))) | exact And.right (And.right (And.right (And.right (And.right (And.right (And.right (And.right (And.right (And.right (And.right (And.right (And.right (And.right (And.right (And.right (by assumption)))))))))))))))))); (case l2 => assumption); (case e1 => (first | rfl | (simp only [*]; done))); (case e2 => (first | rfl | (simp only [*]; done))); (case e3 => (first | rfl | (simp only [*]; done))))
theorem c_decP (l M : List Nat) (c : Nat) (T : List Nat) (v p q : Int) (t : Tok) (h : DecE l M c T v p q) (hv : 0 ≤ v) (hm : PySem.IntMulOk p (10 ^ v.toNat)) (news : List (Addr × Obj)) : Ctr 260 [.str (S l) t] news 200 2000 (PRead news (p * 10 ^ v.toNat) (q) false) := by
  intro w mean mg mb dp un gd cn cs a ccd cl outer A₀ base h₀ L m s Q E B F X N T hk hd hu hret
  obtain ⟨f1, f2, f3, f4, f5, f6, f7⟩ := h.facts
  obtain ⟨_, g1, _, g2, g3, g4⟩ := h
  (refine wpAny_call ?_; k_dflt cell_enter)
  repeat' (first | (k_unfold; (try dsimp only)) | (k_end; wrow_close) | ((with_reducible show wpAny _ _ (call _ (_ :: _)) _ _ _); first | (k_here; (with_reducible show wpAny _ _ (call (Value.ref 241) (_ :: _)) _ _ _); with_reducible (k_dflt (refine' use (c_expo _ _ _ ?zp1 _) ?zk1 ?zk2 ?zk3 ?zk4 ?zk5 ?zk6 ?zk7 ?zk8 ?_; (case zk1 => k_asm); (case zk2 => k_asm); (case zk3 => k_asm); (case zk4 => k_asm); (case zk5 => k_asm); (case zk6 => first | exact rfl | assumption); (case zk7 => ktr_room); (case zk8 => ktr_units); (case zp1 => assumption); k_whole); intro r9 h9 tk9 n9 F9 N9 p9; k_dflt (obtain ⟨e9, t9, e8⟩ := p9; subst e9; subst e8); (try dsimp only); (try k_sweep); (try k_fold))) | (k_here; (with_reducible show wpAny _ _ (call (Value.ref 253) (_ :: _)) _ _ _); with_reducible (k_dflt (refine' use (c_mant _ _ _ _ ?zp1 _) ?zk1 ?zk2 ?zk3 ?zk4 ?zk5 ?zk6 ?zk7 ?zk8 ?_; (case zk1 => k_asm); (case zk2 => k_asm); (case zk3 => k_asm); (case zk4 => k_asm); (case zk5 => k_asm); (case zk6 => first | exact rfl | assumption); (case zk7 => ktr_room); (case zk8 => ktr_units); (case zp1 => assumption); k_whole); intro r9 h9 tk9 n9 F9 N9 p9; k_dflt (obtain ⟨x9, d9, ha9, hb9, hc9, ta9, tb9, tc9, td9, te9, e8, e9, l9, l8⟩ := p9; subst e9; subst e8; (try simp only [AllLt, and_true] at l9)); (try dsimp only); (try k_sweep); (try k_fold))) | (k_here; (with_reducible show wpAny _ _ (call (Value.ref 246) (_ :: _)) _ _ _); with_reducible (k_dflt (refine' use (c_mark1 _ _ _ ?zp1 ?zp2 ?zp3 _) ?zk1 ?zk2 ?zk3 ?zk4 ?zk5 ?zk6 ?zk7 ?zk8 ?_; (case zk1 => k_asm); (case zk2 => k_asm); (case zk3 => k_asm); (case zk4 => k_asm); (case zk5 => k_asm); (case zk6 => first | exact rfl | assumption); (case zk7 => ktr_room); (case zk8 => ktr_units); (case zp1 => assumption); (case zp2 => assumption); (case zp3 => first | assumption | lia); k_whole); intro r9 h9 tk9 n9 F9 N9 p9; k_dflt (obtain ⟨e9, t9, e8⟩ := p9; subst e9; subst e8); (try dsimp only); (try k_sweep); (try k_fold))) | (k_here; (with_reducible show wpAny _ _ (call (Value.builtin "len") (_ :: _)) _ _ _); with_reducible (k_dflt (refine' r_len ?zhl ?_; (case zhl => first | assumption | lia); k_whole); intro _ _))) | ((with_reducible show wpAny _ _ (subscriptTail _ _ _ _) _ _ _); first | (k_here; (with_reducible show wpAny _ _ (subscriptTail _ (Expr.Slice _ _ _ _) (Value.str _ _) _) _ _ _); (with_reducible show wpAny _ _ (subscriptTail _ (Expr.Slice (some _) none none _) _ _) _ _ _); with_reducible (k_dflt (refine' rs_sn (s := ⟨_, _, _, _, _⟩) ?zhx ?zF ?zN ?_ ?zhl ?zhs ?zht; (case zhx => first | assumption | exact slice_one _ _ | exact slice_tail _ _ | exact slice_nil_to (by decide) | exact slice_nil_from (by decide)); (case zF => k_asm); (case zN => k_asm); (case zhl => first | assumption | lia | (simp only [List.length_cons, List.length_append, List.length_nil] at *; lia)); (case zhs => with_unfolding_all rfl); (case zht => intro _; with_unfolding_all rfl); k_whole); intro _ _ _ _ _; (try k_sweep))) | (k_here; (with_reducible show wpAny _ _ (subscriptTail _ (Expr.Slice _ _ _ _) (Value.str _ _) _) _ _ _); (with_reducible show wpAny _ _ (subscriptTail _ (Expr.Slice none (some _) none _) _ _) _ _ _); with_reducible (k_dflt (refine' rs_ns (s := ⟨_, _, _, _, _⟩) ?zhx ?zF ?zN ?_ ?zhl ?zhs ?zht; (case zhx => first | assumption | exact slice_one _ _ | exact slice_tail _ _ | exact slice_nil_to (by decide) | exact slice_nil_from (by decide)); (case zF => k_asm); (case zN => k_asm); (case zhl => first | assumption | lia | (simp only [List.length_cons, List.length_append, List.length_nil] at *; lia)); (case zhs => with_unfolding_all rfl); (case zht => intro _; with_unfolding_all rfl); k_whole); intro _ _ _ _ _; (try k_sweep)))) | walk1 | (dsimp only; first | (with_reducible show wpAny _ _ (call _ (_ :: _)) _ _ _) | (with_reducible show wpAny _ _ (subscriptTail _ _ _ _) _ _ _) | walk1) | (leave1; walk_say "STEP leave1"; try dsimp only) | fail "no step")
  all_goals (refine' end_read hret ?F ?N ?e1 ?e2 ?e3 ?i1 ?i2 ?hs ?l1 ?l2; (case F => k_asm); (case N => k_asm); (case i1 => k_mem); (case i2 => k_mem); (case hs => (intro p hp; repeat' (first | exact hp | apply List.mem_cons_of_mem))); (case l1 => (first | assumption | exact allLt_of (by assumption) | exact And.right (by assumption) | exact And.right (And.right (by assumption)) | exact And.right (And.right (And.right (by assumption))) | exact And.right (And.right (And.right (And.right (by assumption)))) | exact And.right (And.right (And.right (And.right (And.right (by assumption))))) | exact And.right (And.right (And.right (And.right (And.right (And.right (by assumption)))))) | exact And.right (And.right (And.right (And.right (And.right (And.right (And.right (by assumption))))))) | exact And.right (And.right (And.right (And.right (And.right (And.right (And.right (And.right (by assumption)))))))) | exact And.right (And.right (And.right (And.right (And.right (And.right (And.right (And.right (And.right (by assumption))))))))) | exact And.right (And.right (And.right (And.right (And.right (And.right (And.right (And.right (And.right (And.right (by assumption)))))))))) | exact And.right (And.right (And.right (And.right (And.right (And.right (And.right (And.right (And.right (And.right (And.right (by assumption))))))))))) | exact And.right (And.right (And.right (And.right (And.right (And.right (And.right (And.right (And.right (And.right (And.right (And.right (by assumption)))))))))))) | exact And.right (And.right (And.right (And.right (And.right (And.right (And.right (And.right (And.right (And.right (And.right (And.right (And.right (by assumption))))))))))))) | exact And.right (And.right (And.right (And.right (And.right (And.right (And.right (And.right (And.right (And.right (And.right (And.right (And.right (And.right (by assumption)))))))))))))) | exact And.right (And.right (And.right (And.right (And.right (And.right (And.right (And.right (And.right (And.right (And.right (And.right (And.right (And.right (And.right (by assumption))))))))))))))) | exact And.right (And.right (And.right (And.right (And.right (And.right (And.right (And.right (And.right (And.right (And.right (And.right (And.right (And.right (And.right (And.right (by assumption)))))))))))))))))); (case l2 => assumption); (case e1 => (first | rfl | (simp only [*]; done))); (case e2 => (first | rfl | (simp only [*]; done))); (case e3 => (first | rfl | (simp only [*]; done))))
theorem c_decN (l M : List Nat) (c : Nat) (T : List Nat) (v p q : Int) (t : Tok) (h : DecE l M c T v p q) (hv : ¬ 0 ≤ v) (hm : PySem.IntMulOk q (10 ^ (0 - v).toNat)) (news : List (Addr × Obj)) : Ctr 260 [.str (S l) t] news 200 2000 (PRead news (p) (q * 10 ^ (0 - v).toNat) false) := by
  intro w mean mg mb dp un gd cn cs a ccd cl outer A₀ base h₀ L m s Q E B F X N T hk hd hu hret
  obtain ⟨f1, f2, f3, f4, f5, f6, f7⟩ := h.facts
  obtain ⟨_, g1, _, g2, g3, g4⟩ := h
  (refine wpAny_call ?_; k_dflt cell_enter)
  repeat' (first | (k_unfold; (try dsimp only)) | (k_end; wrow_close) | ((with_reducible show wpAny _ _ (call _ (_ :: _)) _ _ _); first | (k_here; (with_reducible show wpAny _ _ (call (Value.ref 241) (_ :: _)) _ _ _); with_reducible (k_dflt (refine' use (c_expo _ _ _ ?zp1 _) ?zk1 ?zk2 ?zk3 ?zk4 ?zk5 ?zk6 ?zk7 ?zk8 ?_; (case zk1 => k_asm); (case zk2 => k_asm); (case zk3 => k_asm); (case zk4 => k_asm); (case zk5 => k_asm); (case zk6 => first | exact rfl | assumption); (case zk7 => ktr_room); (case zk8 => ktr_units); (case zp1 => assumption); k_whole); intro r9 h9 tk9 n9 F9 N9 p9; k_dflt (obtain ⟨e9, t9, e8⟩ := p9; subst e9; subst e8); (try dsimp only); (try k_sweep); (try k_fold))) | (k_here; (with_reducible show wpAny _ _ (call (Value.ref 253) (_ :: _)) _ _ _); with_reducible (k_dflt (refine' use (c_mant _ _ _ _ ?zp1 _) ?zk1 ?zk2 ?zk3 ?zk4 ?zk5 ?zk6 ?zk7 ?zk8 ?_; (case zk1 => k_asm); (case zk2 => k_asm); (case zk3 => k_asm); (case zk4 => k_asm); (case zk5 => k_asm); (case zk6 => first | exact rfl | assumption); (case zk7 => ktr_room); (case zk8 => ktr_units); (case zp1 => assumption); k_whole); intro r9 h9 tk9 n9 F9 N9 p9; k_dflt (obtain ⟨x9, d9, ha9, hb9, hc9, ta9, tb9, tc9, td9, te9, e8, e9, l9, l8⟩ := p9; subst e9; subst e8; (try simp only [AllLt, and_true] at l9)); (try dsimp only); (try k_sweep); (try k_fold))) | (k_here; (with_reducible show wpAny _ _ (call (Value.ref 246) (_ :: _)) _ _ _); with_reducible (k_dflt (refine' use (c_mark1 _ _ _ ?zp1 ?zp2 ?zp3 _) ?zk1 ?zk2 ?zk3 ?zk4 ?zk5 ?zk6 ?zk7 ?zk8 ?_; (case zk1 => k_asm); (case zk2 => k_asm); (case zk3 => k_asm); (case zk4 => k_asm); (case zk5 => k_asm); (case zk6 => first | exact rfl | assumption); (case zk7 => ktr_room); (case zk8 => ktr_units); (case zp1 => assumption); (case zp2 => assumption); (case zp3 => first | assumption | lia); k_whole); intro r9 h9 tk9 n9 F9 N9 p9; k_dflt (obtain ⟨e9, t9, e8⟩ := p9; subst e9; subst e8); (try dsimp only); (try k_sweep); (try k_fold))) | (k_here; (with_reducible show wpAny _ _ (call (Value.builtin "len") (_ :: _)) _ _ _); with_reducible (k_dflt (refine' r_len ?zhl ?_; (case zhl => first | assumption | lia); k_whole); intro _ _))) | ((with_reducible show wpAny _ _ (subscriptTail _ _ _ _) _ _ _); first | (k_here; (with_reducible show wpAny _ _ (subscriptTail _ (Expr.Slice _ _ _ _) (Value.str _ _) _) _ _ _); (with_reducible show wpAny _ _ (subscriptTail _ (Expr.Slice (some _) none none _) _ _) _ _ _); with_reducible (k_dflt (refine' rs_sn (s := ⟨_, _, _, _, _⟩) ?zhx ?zF ?zN ?_ ?zhl ?zhs ?zht; (case zhx => first | assumption | exact slice_one _ _ | exact slice_tail _ _ | exact slice_nil_to (by decide) | exact slice_nil_from (by decide)); (case zF => k_asm); (case zN => k_asm); (case zhl => first | assumption | lia | (simp only [List.length_cons, List.length_append, List.length_nil] at *; lia)); (case zhs => with_unfolding_all rfl); (case zht => intro _; with_unfolding_all rfl); k_whole); intro _ _ _ _ _; (try k_sweep))) | (k_here; (with_reducible show wpAny _ _ (subscriptTail _ (Expr.Slice _ _ _ _) (Value.str _ _) _) _ _ _); (with_reducible show wpAny _ _ (subscriptTail _ (Expr.Slice none (some _) none _) _ _) _ _ _); with_reducible (k_dflt (refine' rs_ns (s := ⟨_, _, _, _, _⟩) ?zhx ?zF ?zN ?_ ?zhl ?zhs ?zht; (case zhx => first | assumption | exact slice_one _ _ | exact slice_tail _ _ | exact slice_nil_to (by decide) | exact slice_nil_from (by decide)); (case zF => k_asm); (case zN => k_asm); (case zhl => first | assumption | lia | (simp only [List.length_cons, List.length_append, List.length_nil] at *; lia)); (case zhs => with_unfolding_all rfl); (case zht => intro _; with_unfolding_all rfl); k_whole); intro _ _ _ _ _; (try k_sweep)))) | walk1 | (dsimp only; first | (with_reducible show wpAny _ _ (call _ (_ :: _)) _ _ _) | (with_reducible show wpAny _ _ (subscriptTail _ _ _ _) _ _ _) | walk1) | (leave1; walk_say "STEP leave1"; try dsimp only) | fail "no step")
  all_goals (refine' end_read hret ?F ?N ?e1 ?e2 ?e3 ?i1 ?i2 ?hs ?l1 ?l2; (case F => k_asm); (case N => k_asm); (case i1 => k_mem); (case i2 => k_mem); (case hs => (intro p hp; repeat' (first | exact hp | apply List.mem_cons_of_mem))); (case l1 => (first | assumption | exact allLt_of (by assumption) | exact And.right (by assumption) | exact And.right (And.right (by assumption)) | exact And.right (And.right (And.right (by assumption))) | exact And.right (And.right (And.right (And.right (by assumption)))) | exact And.right (And.right (And.right (And.right (And.right (by assumption))))) | exact And.right (And.right (And.right (And.right (And.right (And.right (by assumption)))))) | exact And.right (And.right (And.right (And.right (And.right (And.right (And.right (by assumption))))))) | exact And.right (And.right (And.right (And.right (And.right (And.right (And.right (And.right (by assumption)))))))) | exact And.right (And.right (And.right (And.right (And.right (And.right (And.right (And.right (And.right (by assumption))))))))) | exact And.right (And.right (And.right (And.right (And.right (And.right (And.right (And.right (And.right (And.right (by assumption)))))))))) | exact And.right (And.right (And.right (And.right (And.right (And.right (And.right (And.right (And.right (And.right (And.right (by assumption))))))))))) | exact And.right (And.right (And.right (And.right (And.right (And.right (And.right (And.right (And.right (And.right (And.right (And.right (by assumption)))))))))))) | exact And.right (And.right (And.right (And.right (And.right (And.right (And.right (And.right (And.right (And.right (And.right (And.right (And.right (by assumption))))))))))))) | exact And.right (And.right (And.right (And.right (And.right (And.right (And.right (And.right (And.right (And.right (And.right (And.right (And.right (And.right (by assumption)))))))))))))) | exact And.right (And.right (And.right (And.right (And.right (And.right (And.right (And.right (And.right (And.right (And.right (And.right (And.right (And.right (And.right (by assumption))))))))))))))) | exact And.right (And.right (And.right (And.right (And.right (And.right (And.right (And.right (And.right (And.right (And.right (And.right (And.right (And.right (And.right (And.right (by assumption)))))))))))))))))); (case l2 => assumption); (case e1 => (first | rfl | (simp only [*]; done))); (case e2 => (first | rfl | (simp only [*]; done))); (case e3 => (first | rfl | (simp only [*]; done))))
def Dec (w : List Nat) (a b : Int) : Prop := (Mant w a b ∧ 46 ∈ w) ∨ ∃ M c T v p q, DecE w M c T v p q ∧ ((0 ≤ v ∧ PySem.IntMulOk p (10 ^ v.toNat) ∧ a = p * 10 ^ v.toNat ∧ b = q) ∨ (¬ 0 ≤ v ∧ PySem.IntMulOk q (10 ^ (0 - v).toNat) ∧ a = p ∧ b = q * 10 ^ (0 - v).toNat))
theorem c_dec (l : List Nat) (p q : Int) (t : Tok) (h : Dec l p q) (news : List (Addr × Obj)) : Ctr 260 [.str (S l) t] news 200 2000 (PRead news p q false) := by
  obtain ⟨h, _⟩ | ⟨M, c, T, v, p0, q0, h, ⟨hv, hm, rfl, rfl⟩ | ⟨hv, hm, rfl, rfl⟩⟩ := h
  · exact c_dec0 l p q t h news
  · exact c_decP l M c T v p0 q t h hv hm news
  · exact c_decN l M c T v p q0 t h hv hm news
theorem Dec.facts {w : List Nat} {a b : Int} (h : Dec w a b) : 47 ∉ w ∧ 35 ∉ w ∧ w.length ≤ 100000 ∧ w ≠ [] ∧ (46 ∈ w ∨ (46 ∉ w ∧ ∃ k : Int, enIdx isMk 0 w = [k] ∧ k < (w.length : Int) ∧ ((S w).cps.all (· < 128)) = true)) := by
  obtain ⟨h, hd⟩ | ⟨M, c, T, v, p0, q0, h, _⟩ := h
  · exact ⟨fun hm => by have := h.signs _ hm; lia, fun hm => by have := h.signs _ hm; lia, by have := h.1; lia, h.ne, Or.inl hd⟩
  · obtain ⟨f1, f2, f3, f4, f5, f6, f7⟩ := h.facts
    obtain ⟨rfl, hM, hc, hT, _, _⟩ := h
    have h1 := hM.signs
    have h2 := hT.signs
    have hc' : c ∈ [101, 115, 102, 100, 108] := by rw [isMk_eq] at hc; exact of_decide_eq_true hc
    simp only [List.mem_cons, List.not_mem_nil, or_false] at hc'
    have key : ∀ d ∈ M ++ c :: T, d ≠ 47 ∧ d ≠ 35 := fun d hd => by
      rcases List.mem_append.mp hd with hd | hd
      · have := h1 d hd; lia
      · rcases List.mem_cons.mp hd with rfl | hd
        · lia
        · have := h2.1 d hd; lia
    refine ⟨fun hm => (key _ hm).1 rfl, fun hm => (key _ hm).2 rfl, f3, by simp, ?_⟩
    by_cases hd : 46 ∈ M ++ c :: T
    · exact Or.inl hd
    · exact Or.inr ⟨hd, _, f1, f5, f2⟩
theorem con_yes {l : List Nat} {c : Nat} (h : c ∈ l) : PySem.Txt.contains (S l) (S [c]) = true := by rw [contains_one]; exact decide_eq_true h
theorem con_no {l : List Nat} {c : Nat} (h : c ∉ l) : PySem.Txt.contains (S l) (S [c]) = false := by rw [contains_one]; exact decide_eq_false h

theorem c_unsR (x y : List Nat) (t t1 : Tok) (hx : Digs x) (hy : Digs y) (nx : x ≠ []) (ny : y ≠ []) (hz : ¬ (dv y : Int) = 0) (hl : (x ++ 47 :: y).length ≤ 100000) (news : List (Addr × Obj)) : Ctr 267 [.str (S (x ++ 47 :: y)) t, .int 10 t1] news 300 3000 (PRead news (dv x) (dv y) true) := by
  intro w mean mg mb dp un gd cn cs a ccd cl outer A₀ base h₀ L m s Q E B F X N T hk hd hu hret
  have hc : PySem.Txt.contains (S (x ++ 47 :: y)) (PySem.Str.ofString "/") = true := by rw [lit_slash]; exact con_yes (by simp)
  unfold PySem.Txt.contains at hc
  (refine wpAny_call ?_; k_dflt cell_enter)
  repeat' (first | (k_unfold; (try dsimp only)) | (k_end; wrow_close) | (k_here; (with_reducible show wpAny _ _ (call (Value.ref 227) (_ :: _)) _ _ _); with_reducible (k_dflt (refine' use (c_ratio _ _ _ _ ?zp1 ?zp2 ?zp3 ?zp4 ?zp5 ?zp6 _) ?zk1 ?zk2 ?zk3 ?zk4 ?zk5 ?zk6 ?zk7 ?zk8 ?_; (case zk1 => k_asm); (case zk2 => k_asm); (case zk3 => k_asm); (case zk4 => k_asm); (case zk5 => k_asm); (case zk6 => first | exact rfl | assumption); (case zk7 => ktr_room); (case zk8 => ktr_units); (case zp1 => assumption); (case zp2 => assumption); (case zp3 => assumption); (case zp4 => assumption); (case zp5 => assumption); (case zp6 => first | assumption | lia | (simp only [List.length_cons, List.length_append, List.length_nil] at *; lia)); k_whole); intro r9 h9 tk9 n9 F9 N9 p9; k_dflt (obtain ⟨x9, d9, ha9, hb9, hc9, ta9, tb9, tc9, td9, te9, e8, e9, l9, l8⟩ := p9; subst e9; subst e8; (try simp only [AllLt, and_true] at l9)); (try dsimp only); (try k_sweep); (try k_fold))) | walk1 | (dsimp only; first | (with_reducible show wpAny _ _ (call _ (_ :: _)) _ _ _) | walk1) | (leave1; walk_say "STEP leave1"; try dsimp only) | fail "no step")
  all_goals (refine' end_read hret ?F ?N ?e1 ?e2 ?e3 ?i1 ?i2 ?hs ?l1 ?l2; (case F => k_asm); (case N => k_asm); (case i1 => k_mem); (case i2 => k_mem); (case hs => (intro p hp; repeat' (first | exact hp | apply List.mem_cons_of_mem))); (case l1 => (first | assumption | exact allLt_of (by assumption) | exact And.right (by assumption) | exact And.right (And.right (by assumption)) | exact And.right (And.right (And.right (by assumption))) | exact And.right (And.right (And.right (And.right (by assumption)))) | exact And.right (And.right (And.right (And.right (And.right (by assumption))))) | exact And.right (And.right (And.right (And.right (And.right (And.right (by assumption)))))) | exact And.right (And.right (And.right (And.right (And.right (And.right (And.right (by assumption))))))) | exact And.right (And.right (And.right (And.right (And.right (And.right (And.right (And.right (by assumption)))))))) | exact And.right (And.right (And.right (And.right (And.right (And.right (And.right (And.right (And.right (by assumption))))))))) | exact And.right (And.right (And.right (And.right (And.right (And.right (And.right (And.right (And.right (And.right (by assumption)))))))))) | exact And.right (And.right (And.right (And.right (And.right (And.right (And.right (And.right (And.right (And.right (And.right (by assumption))))))))))) | exact And.right (And.right (And.right (And.right (And.right (And.right (And.right (And.right (And.right (And.right (And.right (And.right (by assumption)))))))))))) | exact And.right (And.right (And.right (And.right (And.right (And.right (And.right (And.right (And.right (And.right (And.right (And.right (And.right (by assumption))))))))))))) | exact And.right (And.right (And.right (And.right (And.right (And.right (And.right (And.right (And.right (And.right (And.right (And.right (And.right (And.right (by assumption)))))))))))))) | exact And.right (And.right (And.right (And.right (And.right (And.right (And.right (And.right (And.right (And.right (And.right (And.right (And.right (And.right (And.right (by assumption))))))))))))))) | exact And.right (And.right (And.right (And.right (And.right (And.right (And.right (And.right (And.right (And.right (And.right (And.right (And.right (And.right (And.right (And.right (by assumption)))))))))))))))))); (case l2 => assumption); (case e1 => rfl); (case e2 => rfl); (case e3 => rfl))
theorem c_unsD (l : List Nat) (p q : Int) (t t1 : Tok) (h : Dec l p q) (news : List (Addr × Obj)) : Ctr 267 [.str (S l) t, .int 10 t1] news 300 3000 (PRead news p q false) := by
  intro w mean mg mb dp un gd cn cs a ccd cl outer A₀ base h₀ L m s Q E B F X N T hk hd hu hret
  obtain ⟨f1, f2, f3, f4, f5⟩ := h.facts
  have hc : PySem.Txt.contains (S l) (PySem.Str.ofString "/") = false := by rw [lit_slash]; exact con_no f1
  unfold PySem.Txt.contains at hc
  rcases f5 with f5 | ⟨f5, k, f6, f7, f8⟩
  · have hd : PySem.Txt.contains (S l) (PySem.Str.ofString ".") = true := by rw [lit_dot]; exact con_yes f5
    unfold PySem.Txt.contains at hd
    (refine wpAny_call ?_; k_dflt cell_enter)
    repeat' (first | (k_unfold; (try dsimp only)) | (k_end; wrow_close) | ((with_reducible show wpAny _ _ (call _ (_ :: _)) _ _ _); first | (k_here; (with_reducible show wpAny _ _ (call (Value.ref 260) (_ :: _)) _ _ _); with_reducible (k_dflt (refine' use (c_dec _ _ _ _ ?zp1 _) ?zk1 ?zk2 ?zk3 ?zk4 ?zk5 ?zk6 ?zk7 ?zk8 ?_; (case zk1 => k_asm); (case zk2 => k_asm); (case zk3 => k_asm); (case zk4 => k_asm); (case zk5 => k_asm); (case zk6 => first | exact rfl | assumption); (case zk7 => ktr_room); (case zk8 => ktr_units); (case zp1 => assumption); k_whole); intro r9 h9 tk9 n9 F9 N9 p9; k_dflt (obtain ⟨x9, d9, ha9, hb9, hc9, ta9, tb9, tc9, td9, te9, e8, e9, l9, l8⟩ := p9; subst e9; subst e8; (try simp only [AllLt, and_true] at l9)); (try dsimp only); (try k_sweep); (try k_fold))) | (k_here; (with_reducible show wpAny _ _ (call (Value.ref 246) (_ :: _)) _ _ _); with_reducible (k_dflt (refine' use (c_mark1 _ _ _ ?zp1 ?zp2 ?zp3 _) ?zk1 ?zk2 ?zk3 ?zk4 ?zk5 ?zk6 ?zk7 ?zk8 ?_; (case zk1 => k_asm); (case zk2 => k_asm); (case zk3 => k_asm); (case zk4 => k_asm); (case zk5 => k_asm); (case zk6 => first | exact rfl | assumption); (case zk7 => ktr_room); (case zk8 => ktr_units); (case zp1 => assumption); (case zp2 => assumption); (case zp3 => first | assumption | lia); k_whole); intro r9 h9 tk9 n9 F9 N9 p9; k_dflt (obtain ⟨e9, t9, e8⟩ := p9; subst e9; subst e8); (try dsimp only); (try k_sweep); (try k_fold))) | (k_here; (with_reducible show wpAny _ _ (call (Value.builtin "len") (_ :: _)) _ _ _); with_reducible (k_dflt (refine' r_len ?zhl ?_; (case zhl => first | assumption | lia); k_whole); intro _ _))) | walk1 | (dsimp only; first | (with_reducible show wpAny _ _ (call _ (_ :: _)) _ _ _) | walk1) | (leave1; walk_say "STEP leave1"; try dsimp only) | fail "no step")
    all_goals (refine' end_read hret ?F ?N ?e1 ?e2 ?e3 ?i1 ?i2 ?hs ?l1 ?l2; (case F => k_asm); (case N => k_asm); (case i1 => k_mem); (case i2 => k_mem); (case hs => (intro p hp; repeat' (first | exact hp | apply List.mem_cons_of_mem))); (case l1 => (first | assumption | exact allLt_of (by assumption) | exact And.right (by assumption) | exact And.right (And.right (by assumption)) | exact And.right (And.right (And.right (by assumption))) | exact And.right (And.right (And.right (And.right (by assumption)))) | exact And.right (And.right (And.right (And.right (And.right (by assumption))))) | exact And.right (And.right (And.right (And.right (And.right (And.right (by assumption)))))) | exact And.right (And.right (And.right (And.right (And.right (And.right (And.right (by assumption))))))) | exact And.right (And.right (And.right (And.right (And.right (And.right (And.right (And.right (by assumption)))))))) | exact And.right (And.right (And.right (And.right (And.right (And.right (And.right (And.right (And.right (by assumption))))))))) | exact And.right (And.right (And.right (And.right (And.right (And.right (And.right (And.right (And.right (And.right (by assumption)))))))))) | exact And.right (And.right (And.right (And.right (And.right (And.right (And.right (And.right (And.right (And.right (And.right (by assumption))))))))))) | exact And.right (And.right (And.right (And.right (And.right (And.right (And.right (And.right (And.right (And.right (And.right (And.right (by assumption)))))))))))) | exact And.right (And.right (And.right (And.right (And.right (And.right (And.right (And.right (And.right (And.right (And.right (And.right (And.right (by assumption))))))))))))) | exact And.right (And.right (And.right (And.right (And.right (And.right (And.right (And.right (And.right (And.right (And.right (And.right (And.right (And.right (by assumption)))))))))))))) | exact And.right (And.right (And.right (And.right (And.right (And.right (And.right (And.right (And.right (And.right (And.right (And.right (And.right (And.right (And.right (by assumption))))))))))))))) | exact And.right (And.right (And.right (And.right (And.right (And.right (And.right (And.right (And.right (And.right (And.right (And.right (And.right (And.right (And.right (And.right (by assumption)))))))))))))))))); (case l2 => assumption); (case e1 => rfl); (case e2 => rfl); (case e3 => rfl))
  have hd : PySem.Txt.contains (S l) (PySem.Str.ofString ".") = false := by rw [lit_dot]; exact con_no f5
  unfold PySem.Txt.contains at hd
  (refine wpAny_call ?_; k_dflt cell_enter)
  repeat' (first | (k_unfold; (try dsimp only)) | (k_end; wrow_close) | ((with_reducible show wpAny _ _ (call _ (_ :: _)) _ _ _); first | (k_here; (with_reducible show wpAny _ _ (call (Value.ref 260) (_ :: _)) _ _ _); with_reducible (k_dflt (refine' use (c_dec _ _ _ _ ?zp1 _) ?zk1 ?zk2 ?zk3 ?zk4 ?zk5 ?zk6 ?zk7 ?zk8 ?_; (case zk1 => k_asm); (case zk2 => k_asm); (case zk3 => k_asm); (case zk4 => k_asm); (case zk5 => k_asm); (case zk6 => first | exact rfl | assumption); (case zk7 => ktr_room); (case zk8 => ktr_units); (case zp1 => assumption); k_whole); intro r9 h9 tk9 n9 F9 N9 p9; k_dflt (obtain ⟨x9, d9, ha9, hb9, hc9, ta9, tb9, tc9, td9, te9, e8, e9, l9, l8⟩ := p9; subst e9; subst e8; (try simp only [AllLt, and_true] at l9)); (try dsimp only); (try k_sweep); (try k_fold))) | (k_here; (with_reducible show wpAny _ _ (call (Value.ref 246) (_ :: _)) _ _ _); with_reducible (k_dflt (refine' use (c_mark1 _ _ _ ?zp1 ?zp2 ?zp3 _) ?zk1 ?zk2 ?zk3 ?zk4 ?zk5 ?zk6 ?zk7 ?zk8 ?_; (case zk1 => k_asm); (case zk2 => k_asm); (case zk3 => k_asm); (case zk4 => k_asm); (case zk5 => k_asm); (case zk6 => first | exact rfl | assumption); (case zk7 => ktr_room); (case zk8 => ktr_units); (case zp1 => assumption); (case zp2 => assumption); (case zp3 => first | assumption | lia); k_whole); intro r9 h9 tk9 n9 F9 N9 p9; k_dflt (obtain ⟨e9, t9, e8⟩ := p9; subst e9; subst e8); (try dsimp only); (try k_sweep); (try k_fold))) | (k_here; (with_reducible show wpAny _ _ (call (Value.builtin "len") (_ :: _)) _ _ _); with_reducible (k_dflt (refine' r_len ?zhl ?_; (case zhl => first | assumption | lia); k_whole); intro _ _))) | walk1 | (dsimp only; first | (with_reducible show wpAny _ _ (call _ (_ :: _)) _ _ _) | walk1) | (leave1; walk_say "STEP leave1"; try dsimp only) | fail "no step")
  all_goals (refine' end_read hret ?F ?N ?e1 ?e2 ?e3 ?i1 ?i2 ?hs ?l1 ?l2; (case F => k_asm); (case N => k_asm); (case i1 => k_mem); (case i2 => k_mem); (case hs => (intro p hp; repeat' (first | exact hp | apply List.mem_cons_of_mem))); (case l1 => (first | assumption | exact allLt_of (by assumption) | exact And.right (by assumption) | exact And.right (And.right (by assumption)) | exact And.right (And.right (And.right (by assumption))) | exact And.right (And.right (And.right (And.right (by assumption)))) | exact And.right (And.right (And.right (And.right (And.right (by assumption))))) | exact And.right (And.right (And.right (And.right (And.right (And.right (by assumption)))))) | exact And.right (And.right (And.right (And.right (And.right (And.right (And.right (by assumption))))))) | exact And.right (And.right (And.right (And.right (And.right (And.right (And.right (And.right (by assumption)))))))) | exact And.right (And.right (And.right (And.right (And.right (And.right (And.right (And.right (And.right (by assumption))))))))) | exact And.right (And.right (And.right (And.right (And.right (And.right (And.right (And.right (And.right (And.right (by assumption)))))))))) | exact And.right (And.right (And.right (And.right (And.right (And.right (And.right (And.right (And.right (And.right (And.right (by assumption))))))))))) | exact And.right (And.right (And.right (And.right (And.right (And.right (And.right (And.right (And.right (And.right (And.right (And.right (by assumption)))))))))))) | exact And.right (And.right (And.right (And.right (And.right (And.right (And.right (And.right (And.right (And.right (And.right (And.right (And.right (by assumption))))))))))))) | exact And.right (And.right (And.right (And.right (And.right (And.right (And.right (And.right (And.right (And.right (And.right (And.right (And.right (And.right (by assumption)))))))))))))) | exact And.right (And.right (And.right (And.right (And.right (And.right (And.right (And.right (And.right (And.right (And.right (And.right (And.right (And.right (And.right (by assumption))))))))))))))) | exact And.right (And.right (And.right (And.right (And.right (And.right (And.right (And.right (And.right (And.right (And.right (And.right (And.right (And.right (And.right (And.right (by assumption)))))))))))))))))); (case l2 => assumption); (case e1 => rfl); (case e2 => rfl); (case e3 => rfl))
def PTrip (news : List (Addr × Obj)) (x y : PySem.Str) (r : Value) (n' : List (Addr × Obj)) : Prop := ∃ a t1 t2 t3, r = .ref a ∧ n' = (a, { cls := .type "tuple", data := .seq #[.str x t1, .int 10 t2, .str y t3] }) :: news ∧ AllLt a news
theorem end_trip {h₀ h' : Heap} {L : Addr} {m : PySem.Str → Option Value} {s : Shared} {Q : Value → Shared → Prop} {news news' : List (Addr × Obj)} {tk' : Nat} {x y : PySem.Str} {a : Addr} {t1 t2 t3 : Tok} (hret : Ret h₀ L m s Q (PTrip news x y)) (F : Fr h₀ L h' m) (N : News h₀ L h' news')
    (i1 : (a, ({ cls := .type "tuple", data := .seq #[.str x t1, .int 10 t2, .str y t3] } : Obj)) ∈ news') (hs : ∀ p ∈ news, p ∈ news') (l1 : AllLt a news) : Q (.ref a) { s with heap := h', toks := tk' } := by
  refine hret _ _ _ ((a, { cls := .type "tuple", data := .seq #[.str x t1, .int 10 t2, .str y t3] }) :: news) F (news_sub N ?_) ⟨a, t1, t2, t3, rfl, rfl, l1⟩
  intro p hp
  rcases List.mem_cons.mp hp with rfl | hp
  · exact i1
  exact hs p hp
theorem WhlIf.y {b : Bool} {T F : Prop} (h : b = true) (t : T) : PySem.W.WhlIf b T F := PySem.W.WhlIf.yes h t
theorem WhlIf.n {b : Bool} {T F : Prop} (h : b = false) (f : F) : PySem.W.WhlIf b T F := PySem.W.WhlIf.no h f
theorem sp_at (l : List Nat) (i j : Nat) (hij : i ≤ j) (hj : j ≤ l.length) : PySem.Txt.slice (S l) (some (i : Int)) (some (j : Int)) = S ((l.drop i).take (j - i)) := by
  rw [slice_mid l (by lia) (by lia) (by lia)]
  have e1 : ((i : Int)).toNat = i := by lia
  have e2 : ((j : Int) - (i : Int)).toNat = j - i := by lia
  rw [e1, e2]
theorem sp_from (l : List Nat) (i : Nat) (hi : i ≤ l.length) : PySem.Txt.slice (S l) (some (i : Int)) none = S (l.drop i) := by
  rw [slice_from l (by lia) (by lia)]
  have e1 : ((i : Int)).toNat = i := by lia
  rw [e1]
theorem pre_yes : (S [35] == PySem.Str.ofString "#") = true := by decide +kernel
theorem pre_no {c : Nat} (h : c ≠ 35) : (S [c] == PySem.Str.ofString "#") = false := by
  rw [lit_hash, beq_eq_false_iff_ne, ne_eq, S_inj]; simp [h]

local macro_rules | `(tactic| walk_at "exec While Compare cons nil") => `(tactic| (k_here; k_dflt (refine whl_start 3 ?_)))
local macro_rules | `(tactic| walk_at "WhlIf") => `(tactic| first | (refine WhlIf.y (by assumption) ?_) | (refine WhlIf.n (by assumption) ?_))
theorem c_pre0 (c : Nat) (r : List Nat) (t t1 : Tok) (hc : c ≠ 35) (hl : (c :: r).length ≤ 100000) (news : List (Addr × Obj)) : Ctr 274 [.str (S (c :: r)) t, .int 10 t1] news 60 600 (PTrip news (S (c :: r)) (PySem.Str.ofString "")) := by
  intro w mean mg mb dp un gd cn cs a ccd cl outer A₀ base h₀ L m s Q E B F X N T hk hd hu hret
  have s1 : PySem.Txt.slice (S (c :: r)) (some 0) (some (0 + 1)) = S [c] := by exact sp_at _ 0 1 (by lia) (by simp)
  have s2 : PySem.Txt.slice (S (c :: r)) (some 0) none = S (c :: r) := by exact sp_from _ 0 (by simp)
  have b1 := pre_no hc
  (refine wpAny_call ?_; k_dflt cell_enter)
  repeat' (first | (k_unfold; (try dsimp only)) | (k_end; wrow_close) | ((with_reducible show wpAny _ _ (subscriptTail _ _ _ _) _ _ _); first | (k_here; (with_reducible show wpAny _ _ (subscriptTail _ (Expr.Slice _ _ _ _) (Value.str _ _) _) _ _ _); (with_reducible show wpAny _ _ (subscriptTail _ (Expr.Slice (some _) (some _) none _) _ _) _ _ _); with_reducible (k_dflt (refine' rs_ss (s := ⟨_, _, _, _, _⟩) ?zhx ?zF ?zN ?_ ?zhl ?zhs ?zht; (case zhx => first | assumption | exact slice_one _ _ | exact slice_tail _ _ | exact slice_nil_to (by decide) | exact slice_nil_from (by decide)); (case zF => k_asm); (case zN => k_asm); (case zhl => first | assumption | lia | (simp only [List.length_cons, List.length_append, List.length_nil] at *; lia)); (case zhs => with_unfolding_all rfl); (case zht => intro _; with_unfolding_all rfl); k_whole); intro _ _ _ _ _; (try k_sweep))) | (k_here; (with_reducible show wpAny _ _ (subscriptTail _ (Expr.Slice _ _ _ _) (Value.str _ _) _) _ _ _); (with_reducible show wpAny _ _ (subscriptTail _ (Expr.Slice (some _) none none _) _ _) _ _ _); with_reducible (k_dflt (refine' rs_sn (s := ⟨_, _, _, _, _⟩) ?zhx ?zF ?zN ?_ ?zhl ?zhs ?zht; (case zhx => first | assumption | exact slice_one _ _ | exact slice_tail _ _ | exact slice_nil_to (by decide) | exact slice_nil_from (by decide)); (case zF => k_asm); (case zN => k_asm); (case zhl => first | assumption | lia | (simp only [List.length_cons, List.length_append, List.length_nil] at *; lia)); (case zhs => with_unfolding_all rfl); (case zht => intro _; with_unfolding_all rfl); k_whole); intro _ _ _ _ _; (try k_sweep)))) | walk1 | (dsimp only; first | (with_reducible show wpAny _ _ (subscriptTail _ _ _ _) _ _ _) | walk1) | (leave1; walk_say "STEP leave1"; try dsimp only) | fail "no step")
  all_goals (refine' end_trip hret ?F ?N ?i1 ?hs ?l1; (case F => k_asm); (case N => k_asm); (case i1 => k_mem); (case hs => (intro p hp; repeat' (first | exact hp | apply List.mem_cons_of_mem))); (case l1 => (first | assumption | exact allLt_of (by assumption) | exact And.right (by assumption) | exact And.right (And.right (by assumption)) | exact And.right (And.right (And.right (by assumption))) | exact And.right (And.right (And.right (And.right (by assumption)))) | exact And.right (And.right (And.right (And.right (And.right (by assumption))))) | exact And.right (And.right (And.right (And.right (And.right (And.right (by assumption)))))) | exact And.right (And.right (And.right (And.right (And.right (And.right (And.right (by assumption))))))) | exact And.right (And.right (And.right (And.right (And.right (And.right (And.right (And.right (by assumption)))))))) | exact And.right (And.right (And.right (And.right (And.right (And.right (And.right (And.right (And.right (by assumption))))))))) | exact And.right (And.right (And.right (And.right (And.right (And.right (And.right (And.right (And.right (And.right (by assumption)))))))))) | exact And.right (And.right (And.right (And.right (And.right (And.right (And.right (And.right (And.right (And.right (And.right (by assumption))))))))))) | exact And.right (And.right (And.right (And.right (And.right (And.right (And.right (And.right (And.right (And.right (And.right (And.right (by assumption)))))))))))) | exact And.right (And.right (And.right (And.right (And.right (And.right (And.right (And.right (And.right (And.right (And.right (And.right (And.right (by assumption))))))))))))) | exact And.right (And.right (And.right (And.right (And.right (And.right (And.right (And.right (And.right (And.right (And.right (And.right (And.right (And.right (by assumption)))))))))))))) | exact And.right (And.right (And.right (And.right (And.right (And.right (And.right (And.right (And.right (And.right (And.right (And.right (And.right (And.right (And.right (by assumption))))))))))))))) | exact And.right (And.right (And.right (And.right (And.right (And.right (And.right (And.right (And.right (And.right (And.right (And.right (And.right (And.right (And.right (And.right (by assumption)))))))))))))))))); )
theorem c_preE (c : Nat) (r : List Nat) (t t1 : Tok) (hc : c ≠ 35) (hl : (35 :: 101 :: c :: r).length ≤ 100000) (news : List (Addr × Obj)) : Ctr 274 [.str (S (35 :: 101 :: c :: r)) t, .int 10 t1] news 60 600 (PTrip news (S (c :: r)) (PySem.Str.ofString "e")) := by
  intro w mean mg mb dp un gd cn cs a ccd cl outer A₀ base h₀ L m s Q E B F X N T hk hd hu hret
  have s1 : PySem.Txt.slice (S (35 :: 101 :: c :: r)) (some 0) (some (0 + 1)) = S [35] := by exact sp_at _ 0 1 (by lia) (by simp)
  have s2 : PySem.Txt.slice (S (35 :: 101 :: c :: r)) (some (0 + 1)) (some (0 + 2)) = PySem.Str.ofString "e" := by
    have e : PySem.Str.ofString "e" = S [101] := by decide +kernel
    rw [e]; exact sp_at _ 1 2 (by lia) (by simp)
  have s3 : PySem.Txt.slice (S (35 :: 101 :: c :: r)) (some (0 + 2)) (some (0 + 2 + 1)) = S [c] := by exact sp_at _ 2 3 (by lia) (by simp)
  have s4 : PySem.Txt.slice (S (35 :: 101 :: c :: r)) (some (0 + 2)) none = S (c :: r) := by exact sp_from _ 2 (by simp)
  have b1 := pre_yes
  have b2 := pre_no hc
  (refine wpAny_call ?_; k_dflt cell_enter)
  repeat' (first | (k_unfold; (try dsimp only)) | (k_end; wrow_close) | ((with_reducible show wpAny _ _ (subscriptTail _ _ _ _) _ _ _); first | (k_here; (with_reducible show wpAny _ _ (subscriptTail _ (Expr.Slice _ _ _ _) (Value.str _ _) _) _ _ _); (with_reducible show wpAny _ _ (subscriptTail _ (Expr.Slice (some _) (some _) none _) _ _) _ _ _); with_reducible (k_dflt (refine' rs_ss (s := ⟨_, _, _, _, _⟩) ?zhx ?zF ?zN ?_ ?zhl ?zhs ?zht; (case zhx => first | assumption | exact slice_one _ _ | exact slice_tail _ _ | exact slice_nil_to (by decide) | exact slice_nil_from (by decide)); (case zF => k_asm); (case zN => k_asm); (case zhl => first | assumption | lia | (simp only [List.length_cons, List.length_append, List.length_nil] at *; lia)); (case zhs => with_unfolding_all rfl); (case zht => intro _; with_unfolding_all rfl); k_whole); intro _ _ _ _ _; (try k_sweep))) | (k_here; (with_reducible show wpAny _ _ (subscriptTail _ (Expr.Slice _ _ _ _) (Value.str _ _) _) _ _ _); (with_reducible show wpAny _ _ (subscriptTail _ (Expr.Slice (some _) none none _) _ _) _ _ _); with_reducible (k_dflt (refine' rs_sn (s := ⟨_, _, _, _, _⟩) ?zhx ?zF ?zN ?_ ?zhl ?zhs ?zht; (case zhx => first | assumption | exact slice_one _ _ | exact slice_tail _ _ | exact slice_nil_to (by decide) | exact slice_nil_from (by decide)); (case zF => k_asm); (case zN => k_asm); (case zhl => first | assumption | lia | (simp only [List.length_cons, List.length_append, List.length_nil] at *; lia)); (case zhs => with_unfolding_all rfl); (case zht => intro _; with_unfolding_all rfl); k_whole); intro _ _ _ _ _; (try k_sweep)))) | walk1 | (dsimp only; first | (with_reducible show wpAny _ _ (subscriptTail _ _ _ _) _ _ _) | walk1) | (leave1; walk_say "STEP leave1"; try dsimp only) | fail "no step")
  all_goals (refine' end_trip hret ?F ?N ?i1 ?hs ?l1; (case F => k_asm); (case N => k_asm); (case i1 => k_mem); (case hs => (intro p hp; repeat' (first | exact hp | apply List.mem_cons_of_mem))); (case l1 => (first | assumption | exact allLt_of (by assumption) | exact And.right (by assumption) | exact And.right (And.right (by assumption)) | exact And.right (And.right (And.right (by assumption))) | exact And.right (And.right (And.right (And.right (by assumption)))) | exact And.right (And.right (And.right (And.right (And.right (by assumption))))) | exact And.right (And.right (And.right (And.right (And.right (And.right (by assumption)))))) | exact And.right (And.right (And.right (And.right (And.right (And.right (And.right (by assumption))))))) | exact And.right (And.right (And.right (And.right (And.right (And.right (And.right (And.right (by assumption)))))))) | exact And.right (And.right (And.right (And.right (And.right (And.right (And.right (And.right (And.right (by assumption))))))))) | exact And.right (And.right (And.right (And.right (And.right (And.right (And.right (And.right (And.right (And.right (by assumption)))))))))) | exact And.right (And.right (And.right (And.right (And.right (And.right (And.right (And.right (And.right (And.right (And.right (by assumption))))))))))) | exact And.right (And.right (And.right (And.right (And.right (And.right (And.right (And.right (And.right (And.right (And.right (And.right (by assumption)))))))))))) | exact And.right (And.right (And.right (And.right (And.right (And.right (And.right (And.right (And.right (And.right (And.right (And.right (And.right (by assumption))))))))))))) | exact And.right (And.right (And.right (And.right (And.right (And.right (And.right (And.right (And.right (And.right (And.right (And.right (And.right (And.right (by assumption)))))))))))))) | exact And.right (And.right (And.right (And.right (And.right (And.right (And.right (And.right (And.right (And.right (And.right (And.right (And.right (And.right (And.right (by assumption))))))))))))))) | exact And.right (And.right (And.right (And.right (And.right (And.right (And.right (And.right (And.right (And.right (And.right (And.right (And.right (And.right (And.right (And.right (by assumption)))))))))))))))))); )
theorem c_preI (c : Nat) (r : List Nat) (t t1 : Tok) (hc : c ≠ 35) (hl : (35 :: 105 :: c :: r).length ≤ 100000) (news : List (Addr × Obj)) : Ctr 274 [.str (S (35 :: 105 :: c :: r)) t, .int 10 t1] news 60 600 (PTrip news (S (c :: r)) (PySem.Str.ofString "i")) := by
  intro w mean mg mb dp un gd cn cs a ccd cl outer A₀ base h₀ L m s Q E B F X N T hk hd hu hret
  have s1 : PySem.Txt.slice (S (35 :: 105 :: c :: r)) (some 0) (some (0 + 1)) = S [35] := by exact sp_at _ 0 1 (by lia) (by simp)
  have s2 : PySem.Txt.slice (S (35 :: 105 :: c :: r)) (some (0 + 1)) (some (0 + 2)) = PySem.Str.ofString "i" := by
    have e : PySem.Str.ofString "i" = S [105] := by decide +kernel
    rw [e]; exact sp_at _ 1 2 (by lia) (by simp)
  have s3 : PySem.Txt.slice (S (35 :: 105 :: c :: r)) (some (0 + 2)) (some (0 + 2 + 1)) = S [c] := by exact sp_at _ 2 3 (by lia) (by simp)
  have s4 : PySem.Txt.slice (S (35 :: 105 :: c :: r)) (some (0 + 2)) none = S (c :: r) := by exact sp_from _ 2 (by simp)
  have b1 := pre_yes
  have b2 := pre_no hc
  (refine wpAny_call ?_; k_dflt cell_enter)
  repeat' (first | (k_unfold; (try dsimp only)) | (k_end; wrow_close) | ((with_reducible show wpAny _ _ (subscriptTail _ _ _ _) _ _ _); first | (k_here; (with_reducible show wpAny _ _ (subscriptTail _ (Expr.Slice _ _ _ _) (Value.str _ _) _) _ _ _); (with_reducible show wpAny _ _ (subscriptTail _ (Expr.Slice (some _) (some _) none _) _ _) _ _ _); with_reducible (k_dflt (refine' rs_ss (s := ⟨_, _, _, _, _⟩) ?zhx ?zF ?zN ?_ ?zhl ?zhs ?zht; (case zhx => first | assumption | exact slice_one _ _ | exact slice_tail _ _ | exact slice_nil_to (by decide) | exact slice_nil_from (by decide)); (case zF => k_asm); (case zN => k_asm); (case zhl => first | assumption | lia | (simp only [List.length_cons, List.length_append, List.length_nil] at *; lia)); (case zhs => with_unfolding_all rfl); (case zht => intro _; with_unfolding_all rfl); k_whole); intro _ _ _ _ _; (try k_sweep))) | (k_here; (with_reducible show wpAny _ _ (subscriptTail _ (Expr.Slice _ _ _ _) (Value.str _ _) _) _ _ _); (with_reducible show wpAny _ _ (subscriptTail _ (Expr.Slice (some _) none none _) _ _) _ _ _); with_reducible (k_dflt (refine' rs_sn (s := ⟨_, _, _, _, _⟩) ?zhx ?zF ?zN ?_ ?zhl ?zhs ?zht; (case zhx => first | assumption | exact slice_one _ _ | exact slice_tail _ _ | exact slice_nil_to (by decide) | exact slice_nil_from (by decide)); (case zF => k_asm); (case zN => k_asm); (case zhl => first | assumption | lia | (simp only [List.length_cons, List.length_append, List.length_nil] at *; lia)); (case zhs => with_unfolding_all rfl); (case zht => intro _; with_unfolding_all rfl); k_whole); intro _ _ _ _ _; (try k_sweep)))) | walk1 | (dsimp only; first | (with_reducible show wpAny _ _ (subscriptTail _ _ _ _) _ _ _) | walk1) | (leave1; walk_say "STEP leave1"; try dsimp only) | fail "no step")
  all_goals (refine' end_trip hret ?F ?N ?i1 ?hs ?l1; (case F => k_asm); (case N => k_asm); (case i1 => k_mem); (case hs => (intro p hp; repeat' (first | exact hp | apply List.mem_cons_of_mem))); (case l1 => (first | assumption | exact allLt_of (by assumption) | exact And.right (by assumption) | exact And.right (And.right (by assumption)) | exact And.right (And.right (And.right (by assumption))) | exact And.right (And.right (And.right (And.right (by assumption)))) | exact And.right (And.right (And.right (And.right (And.right (by assumption))))) | exact And.right (And.right (And.right (And.right (And.right (And.right (by assumption)))))) | exact And.right (And.right (And.right (And.right (And.right (And.right (And.right (by assumption))))))) | exact And.right (And.right (And.right (And.right (And.right (And.right (And.right (And.right (by assumption)))))))) | exact And.right (And.right (And.right (And.right (And.right (And.right (And.right (And.right (And.right (by assumption))))))))) | exact And.right (And.right (And.right (And.right (And.right (And.right (And.right (And.right (And.right (And.right (by assumption)))))))))) | exact And.right (And.right (And.right (And.right (And.right (And.right (And.right (And.right (And.right (And.right (And.right (by assumption))))))))))) | exact And.right (And.right (And.right (And.right (And.right (And.right (And.right (And.right (And.right (And.right (And.right (And.right (by assumption)))))))))))) | exact And.right (And.right (And.right (And.right (And.right (And.right (And.right (And.right (And.right (And.right (And.right (And.right (And.right (by assumption))))))))))))) | exact And.right (And.right (And.right (And.right (And.right (And.right (And.right (And.right (And.right (And.right (And.right (And.right (And.right (And.right (by assumption)))))))))))))) | exact And.right (And.right (And.right (And.right (And.right (And.right (And.right (And.right (And.right (And.right (And.right (And.right (And.right (And.right (And.right (by assumption))))))))))))))) | exact And.right (And.right (And.right (And.right (And.right (And.right (And.right (And.right (And.right (And.right (And.right (And.right (And.right (And.right (And.right (And.right (by assumption)))))))))))))))))); )
theorem sg_not {c : Nat} (h1 : c ≠ 45) (h2 : c ≠ 43) : (¬ S [c] = PySem.Str.ofString "-") ∧ ([PySem.Str.ofString "+", PySem.Str.ofString "-"].any fun x => x == S [c]) = false := by
  rw [← minus_is, ← plus_is, S_inj]
  simp only [List.any_cons, List.any_nil, Bool.or_false, Bool.or_eq_false_iff, beq_eq_false_iff_ne, ne_eq, S_inj, List.cons.injEq, and_true]
  lia
theorem r_lower {prog : Program} {w : World} {A : Around} {E : Value → Shared → Prop} {s : Shared} {u v : List Nat} {t : Tok} {Q : Value → Shared → Prop} (hv : u.map lowC = v) (ha : ∀ c ∈ u, c < 128) (hl : u.length ≤ 100000) (hq : ∀ t' k, Q (.str (S v) t') { s with toks := k }) :
    wpAny (model prog w) A (call (.builtin "str.lower") [.str (S u) t]) Q E s := by
  refine SCL.lower (by rw [S_len]; lia) fun _ => ?_
  rw [lower_S ha, hv]; exact hq _ _
theorem r_upper {prog : Program} {w : World} {A : Around} {E : Value → Shared → Prop} {s : Shared} {u v : List Nat} {t : Tok} {Q : Value → Shared → Prop} (hv : u.map uppC = v) (ha : ∀ c ∈ u, c < 128) (hl : u.length ≤ 100000) (hq : ∀ t' k, Q (.str (S v) t') { s with toks := k }) :
    wpAny (model prog w) A (call (.builtin "str.upper") [.str (S u) t]) Q E s := by
  refine SCL.upper (by rw [S_len]; lia) fun _ => ?_
  rw [upper_S ha, hv]; exact hq _ _
def Uns (w : List Nat) (p q : Int) (ex : Bool) : Prop := (∃ x y, w = x ++ 47 :: y ∧ Digs x ∧ Digs y ∧ x ≠ [] ∧ y ≠ [] ∧ ¬ (dv y : Int) = 0 ∧ w.length ≤ 100000 ∧ p = (dv x : Int) ∧ q = (dv y : Int) ∧ ex = true) ∨ (Dec w p q ∧ ex = false)
theorem c_uns (w : List Nat) (p q : Int) (ex : Bool) (t t1 : Tok) (h : Uns w p q ex) (news : List (Addr × Obj)) : Ctr 267 [.str (S w) t, .int 10 t1] news 300 3000 (PRead news p q ex) := by
  obtain ⟨x, y, rfl, hx, hy, nx, ny, hz, hl, rfl, rfl, rfl⟩ | ⟨h, rfl⟩ := h
  · exact c_unsR x y t t1 hx hy nx ny hz hl news
  · exact c_unsD w p q t t1 h news
theorem Uns.facts {w : List Nat} {p q : Int} {ex : Bool} (h : Uns w p q ex) : ∃ c r, w = c :: r ∧ c ≠ 45 ∧ c ≠ 43 ∧ c ≠ 35 ∧ w.length ≤ 100000 := by
  obtain ⟨x, y, rfl, hx, hy, nx, ny, hz, hl, rfl, rfl, rfl⟩ | ⟨h, rfl⟩ := h
  · match x, nx with
    | c :: x, _ =>
      have := hx c (by simp)
      exact ⟨c, x ++ 47 :: y, rfl, by lia, by lia, by lia, hl⟩
  · obtain ⟨f1, f2, f3, f4, _⟩ := h.facts
    obtain ⟨c, r, rfl⟩ := List.exists_cons_of_ne_nil f4
    have hc : 48 ≤ c ∧ c ≤ 57 ∨ c = 46 := by
      obtain ⟨h, _⟩ | ⟨M, d, T, v, p0, q0, h, _⟩ := h
      · exact h.signs c (by simp)
      · obtain ⟨e, hM, _⟩ := h
        obtain ⟨m, M', rfl⟩ := List.exists_cons_of_ne_nil hM.ne
        simp only [List.cons_append, List.cons.injEq] at e
        rw [e.1]; exact hM.signs m (by simp)
    exact ⟨c, r, rfl, by lia, by lia, by lia, f3⟩

theorem c_finI (p x y : Int) (b : Bool) (t t1 t2 : Tok) (hb : b = false) (h : RndOk p x y) (news : List (Addr × Obj)) : Ctr 281 [.int p t2, .int x t, .int y t1, .bool b] news 100 1000 (PReal news (rdM p x y) (rdE p x y)) := by
  intro w mean mg mb dp un gd cn cs a ccd cl outer A₀ base h₀ L m s Q E B F X N T hk hd hu hret
  subst hb
  (refine wpAny_call ?_; k_dflt cell_enter)
  repeat' (first | (k_unfold; (try dsimp only)) | (k_end; wrow_close) | (k_here; (with_reducible show wpAny _ _ (call (Value.ref 130) (_ :: _)) _ _ _); with_reducible (k_dflt (refine' use (c_rnd _ _ _ _ _ _ ?zp1 _) ?zk1 ?zk2 ?zk3 ?zk4 ?zk5 ?zk6 ?zk7 ?zk8 ?_; (case zk1 => k_asm); (case zk2 => k_asm); (case zk3 => k_asm); (case zk4 => k_asm); (case zk5 => k_asm); (case zk6 => first | exact rfl | assumption); (case zk7 => ktr_room); (case zk8 => ktr_units); (case zp1 => assumption); k_whole); intro r9 h9 tk9 n9 F9 N9 p9; k_dflt (obtain ⟨x9, d9, ha9, hb9, ta9, tb9, tc9, td9, e8, e9, l9, l8⟩ := p9; subst e9; subst e8; (try simp only [AllLt, and_true] at l9)); (try dsimp only); (try k_sweep); (try k_fold))) | walk1 | (dsimp only; first | (with_reducible show wpAny _ _ (call _ (_ :: _)) _ _ _) | walk1) | (leave1; walk_say "STEP leave1"; try dsimp only) | fail "no step")
  all_goals (refine' end_real hret ?F ?N ?e1 ?e2 ?i1 ?i2 ?hs ?l1 ?l2; (case F => k_asm); (case N => k_asm); (case i1 => k_mem); (case i2 => k_mem); (case hs => (intro p hp; repeat' (first | exact hp | apply List.mem_cons_of_mem))); (case l1 => (first | assumption | exact allLt_of (by assumption) | exact And.right (by assumption) | exact And.right (And.right (by assumption)) | exact And.right (And.right (And.right (by assumption))) | exact And.right (And.right (And.right (And.right (by assumption)))) | exact And.right (And.right (And.right (And.right (And.right (by assumption))))) | exact And.right (And.right (And.right (And.right (And.right (And.right (by assumption)))))) | exact And.right (And.right (And.right (And.right (And.right (And.right (And.right (by assumption))))))) | exact And.right (And.right (And.right (And.right (And.right (And.right (And.right (And.right (by assumption)))))))) | exact And.right (And.right (And.right (And.right (And.right (And.right (And.right (And.right (And.right (by assumption))))))))) | exact And.right (And.right (And.right (And.right (And.right (And.right (And.right (And.right (And.right (And.right (by assumption)))))))))) | exact And.right (And.right (And.right (And.right (And.right (And.right (And.right (And.right (And.right (And.right (And.right (by assumption))))))))))) | exact And.right (And.right (And.right (And.right (And.right (And.right (And.right (And.right (And.right (And.right (And.right (And.right (by assumption)))))))))))) | exact And.right (And.right (And.right (And.right (And.right (And.right (And.right (And.right (And.right (And.right (And.right (And.right (And.right (by assumption))))))))))))) | exact And.right (And.right (And.right (And.right (And.right (And.right (And.right (And.right (And.right (And.right (And.right (And.right (And.right (And.right (by assumption)))))))))))))) | exact And.right (And.right (And.right (And.right (And.right (And.right (And.right (And.right (And.right (And.right (And.right (And.right (And.right (And.right (And.right (by assumption))))))))))))))) | exact And.right (And.right (And.right (And.right (And.right (And.right (And.right (And.right (And.right (And.right (And.right (And.right (And.right (And.right (And.right (And.right (by assumption)))))))))))))))))); (case l2 => assumption); (case e1 => rfl); (case e2 => rfl))
theorem c_finE1 (p x y : Int) (b : Bool) (t t1 t2 : Tok) (hb : b = true) (h0 : ¬ y < 0) (hg : (Int.gcd (x) y : Int) ≠ 0) (hlg : (Int.gcd (x) y : Int).natAbs.log2 < 9000) (h : y.fdiv (Int.gcd x y : Int) = 1) (news : List (Addr × Obj)) : Ctr 281 [.int p t2, .int x t, .int y t1, .bool b] news 100 1000 (PInt news (x.fdiv (Int.gcd x y : Int))) := by
  intro w mean mg mb dp un gd cn cs a ccd cl outer A₀ base h₀ L m s Q E B F X N T hk hd hu hret
  subst hb
  (refine wpAny_call ?_; k_dflt cell_enter)
  repeat' (first | (k_unfold; (try dsimp only)) | (k_end; wrow_close) | (k_here; (with_reducible show wpAny _ _ (call (Value.ref 172) (_ :: _)) _ _ _); with_reducible (k_dflt (refine' use (c_rat1 _ _ _ _ ?zp1 ?zp2 ?zp3 ?zp4 _) ?zk1 ?zk2 ?zk3 ?zk4 ?zk5 ?zk6 ?zk7 ?zk8 ?_; (case zk1 => k_asm); (case zk2 => k_asm); (case zk3 => k_asm); (case zk4 => k_asm); (case zk5 => k_asm); (case zk6 => first | exact rfl | assumption); (case zk7 => ktr_room); (case zk8 => ktr_units); (case zp1 => assumption); (case zp2 => assumption); (case zp3 => assumption); (case zp4 => assumption); k_whole); intro r9 h9 tk9 n9 F9 N9 p9; k_dflt (obtain ⟨e9, t9, e8⟩ := p9; subst e9; subst e8); (try dsimp only); (try k_sweep); (try k_fold))) | walk1 | (dsimp only; first | (with_reducible show wpAny _ _ (call _ (_ :: _)) _ _ _) | walk1) | (leave1; walk_say "STEP leave1"; try dsimp only) | fail "no step")
  all_goals (refine' end_int hret ?e ?F ?N ?hs; (case F => k_asm); (case N => k_asm); (case hs => (intro p hp; repeat' (first | exact hp | apply List.mem_cons_of_mem))); (case e => rfl))
theorem c_finE2 (p x y : Int) (b : Bool) (t t1 t2 : Tok) (hb : b = true) (h0 : ¬ y < 0) (hg : (Int.gcd (x) y : Int) ≠ 0) (hlg : (Int.gcd (x) y : Int).natAbs.log2 < 9000) (h : ¬ y.fdiv (Int.gcd x y : Int) = 1) (news : List (Addr × Obj)) : Ctr 281 [.int p t2, .int x t, .int y t1, .bool b] news 100 1000 (PRatio news (x.fdiv (Int.gcd x y : Int)) (y.fdiv (Int.gcd x y : Int))) := by
  intro w mean mg mb dp un gd cn cs a ccd cl outer A₀ base h₀ L m s Q E B F X N T hk hd hu hret
  subst hb
  (refine wpAny_call ?_; k_dflt cell_enter)
  repeat' (first | (k_unfold; (try dsimp only)) | (k_end; wrow_close) | (k_here; (with_reducible show wpAny _ _ (call (Value.ref 172) (_ :: _)) _ _ _); with_reducible (k_dflt (refine' use (c_rat2 _ _ _ _ ?zp1 ?zp2 ?zp3 ?zp4 _) ?zk1 ?zk2 ?zk3 ?zk4 ?zk5 ?zk6 ?zk7 ?zk8 ?_; (case zk1 => k_asm); (case zk2 => k_asm); (case zk3 => k_asm); (case zk4 => k_asm); (case zk5 => k_asm); (case zk6 => first | exact rfl | assumption); (case zk7 => ktr_room); (case zk8 => ktr_units); (case zp1 => assumption); (case zp2 => assumption); (case zp3 => assumption); (case zp4 => assumption); k_whole); intro r9 h9 tk9 n9 F9 N9 p9; k_dflt (obtain ⟨x9, d9, ha9, hb9, ta9, tb9, tc9, td9, e8, e9, l9, l8⟩ := p9; subst e9; subst e8; (try simp only [AllLt, and_true] at l9)); (try dsimp only); (try k_sweep); (try k_fold))) | walk1 | (dsimp only; first | (with_reducible show wpAny _ _ (call _ (_ :: _)) _ _ _) | walk1) | (leave1; walk_say "STEP leave1"; try dsimp only) | fail "no step")
  all_goals (refine' end_ratio hret ?F ?N ?e1 ?e2 ?i1 ?i2 ?hs ?l1 ?l2; (case F => k_asm); (case N => k_asm); (case i1 => k_mem); (case i2 => k_mem); (case hs => (intro p hp; repeat' (first | exact hp | apply List.mem_cons_of_mem))); (case l1 => (first | assumption | exact allLt_of (by assumption) | exact And.right (by assumption) | exact And.right (And.right (by assumption)) | exact And.right (And.right (And.right (by assumption))) | exact And.right (And.right (And.right (And.right (by assumption)))) | exact And.right (And.right (And.right (And.right (And.right (by assumption))))) | exact And.right (And.right (And.right (And.right (And.right (And.right (by assumption)))))) | exact And.right (And.right (And.right (And.right (And.right (And.right (And.right (by assumption))))))) | exact And.right (And.right (And.right (And.right (And.right (And.right (And.right (And.right (by assumption)))))))) | exact And.right (And.right (And.right (And.right (And.right (And.right (And.right (And.right (And.right (by assumption))))))))) | exact And.right (And.right (And.right (And.right (And.right (And.right (And.right (And.right (And.right (And.right (by assumption)))))))))) | exact And.right (And.right (And.right (And.right (And.right (And.right (And.right (And.right (And.right (And.right (And.right (by assumption))))))))))) | exact And.right (And.right (And.right (And.right (And.right (And.right (And.right (And.right (And.right (And.right (And.right (And.right (by assumption)))))))))))) | exact And.right (And.right (And.right (And.right (And.right (And.right (And.right (And.right (And.right (And.right (And.right (And.right (And.right (by assumption))))))))))))) | exact And.right (And.right (And.right (And.right (And.right (And.right (And.right (And.right (And.right (And.right (And.right (And.right (And.right (And.right (by assumption)))))))))))))) | exact And.right (And.right (And.right (And.right (And.right (And.right (And.right (And.right (And.right (And.right (And.right (And.right (And.right (And.right (And.right (by assumption))))))))))))))) | exact And.right (And.right (And.right (And.right (And.right (And.right (And.right (And.right (And.right (And.right (And.right (And.right (And.right (And.right (And.right (And.right (by assumption)))))))))))))))))); (case l2 => assumption); (case e1 => rfl); (case e2 => rfl))
theorem Ctr.mono {f : Addr} {vs : List Value} {news : List (Addr × Obj)} {dN uN : Nat} {Post Post' : Value → List (Addr × Obj) → Prop} (C : Ctr f vs news dN uN Post) (h : ∀ r n', Post r n' → Post' r n') : Ctr f vs news dN uN Post' := by
  intro w mean mg mb dp un gd cn cs a ccd cl outer A₀ base h₀ L m s Q E B F X N T hk hd hu hr
  exact C w mean mg mb dp un gd cn cs a ccd cl outer A₀ base h₀ L m s Q E B F X N T hk hd hu fun r h' tk' n' F' N' p => hr r h' tk' n' F' N' (h r n' p)
def PEr (news : List (Addr × Obj)) (x y : Int) (r : Value) (n' : List (Addr × Obj)) : Prop :=
  (y.fdiv (Int.gcd x y : Int) = 1 ∧ PInt news (x.fdiv (Int.gcd x y : Int)) r n') ∨ (¬ y.fdiv (Int.gcd x y : Int) = 1 ∧ PRatio news (x.fdiv (Int.gcd x y : Int)) (y.fdiv (Int.gcd x y : Int)) r n')
theorem c_finE (p x y : Int) (b : Bool) (t t1 t2 : Tok) (hb : b = true) (h0 : ¬ y < 0) (hg : (Int.gcd (x) y : Int) ≠ 0) (hlg : (Int.gcd (x) y : Int).natAbs.log2 < 9000) (news : List (Addr × Obj)) : Ctr 281 [.int p t2, .int x t, .int y t1, .bool b] news 100 1000 (PEr news x y) := by
  by_cases h : y.fdiv (Int.gcd x y : Int) = 1
  · exact (c_finE1 p x y b t t1 t2 hb h0 hg hlg h news).mono fun _ _ hr => .inl ⟨h, hr⟩
  · exact (c_finE2 p x y b t t1 t2 hb h0 hg hlg h news).mono fun _ _ hr => .inr ⟨h, hr⟩
theorem c_parI1 (pr : Int) (u b : List Nat) (p q : Int) (ex : Bool) (t t1 t2 : Tok) (hu : u.map lowC = 35 :: 105 :: b) (ha : ∀ c ∈ u, c < 128) (hl : u.length ≤ 100000) (hb : Uns b p q ex) (hr : RndOk pr (1 * p) q) (news : List (Addr × Obj)) : Ctr 289 [.int pr t, .str (S u) t1, .int 10 t2] news 500 5000 (PReal news (rdM pr (1 * p) q) (rdE pr (1 * p) q)) := by
  intro w mean mg mb dp un gd cn cs a ccd cl outer A₀ base h₀ L m s Q E B F X N T hk hd hu hret
  obtain ⟨c, r, rfl, n1, n2, n3, n4⟩ := hb.facts
  obtain ⟨g1, g2⟩ := sg_not n1 n2
  have hl2 : (35 :: 105 :: c :: r).length ≤ 100000 := by rw [← hu, List.length_map]; exact hl
  have hl3 : (c :: r).length ≤ 100000 := by simp only [List.length_cons] at hl2 ⊢; lia
  have n5 : (45 : Nat) ≠ 35 := by decide
  (refine wpAny_call ?_; k_dflt (refine' code_def ?k1 ?k2 ?k3 ?k4 ?k5 ?kA ?kF ?kK ?k6 ?k7 ?k8 ?k9 ?kB ?_ ?c2 ?c3 ?c4 ?c5; (case kA => exact rfl); (case kF => exact rfl); (case kK => assumption); (case k1 => k_asm); (case k2 => k_asm); (case k3 => k_asm); (case k4 => k_asm); (case k5 => k_asm); (case k6 => k_is); (case k7 => k_is); (case k8 => ktr_room); (case k9 => first | exact BindsTo.of_eq rfl | exact binds_K (by k_in) rfl (by k_is) rfl rfl rfl); (case c5 => decide); (case kB => exact locs rfl); (case c2 => exact rfl); (case c3 => exact rfl); (case c4 => exact rfl); k_whole; intro g' L' h' FG' F' N' B' X' T'; (try dsimp only); (try k_lift B'); (try k_fold)))
  repeat' (first | (k_unfold; (try dsimp only)) | (k_end; wrow_close) | ((with_reducible show wpAny _ _ (call _ (_ :: _)) _ _ _); first | (k_here; (with_reducible show wpAny _ _ (call (Value.builtin "str.lower") (_ :: _)) _ _ _); with_reducible (k_dflt (refine' r_lower ?zhv ?zha ?zhl ?_; (case zhv => assumption); (case zha => assumption); (case zhl => assumption); k_whole); intro _ _)) | (k_here; (with_reducible show wpAny _ _ (call (Value.ref 281) (_ :: _)) _ _ _); with_reducible (k_dflt (refine' use (c_finI _ _ _ _ _ _ _ ?zp1 ?zp2 _) ?zk1 ?zk2 ?zk3 ?zk4 ?zk5 ?zk6 ?zk7 ?zk8 ?_; (case zk1 => k_asm); (case zk2 => k_asm); (case zk3 => k_asm); (case zk4 => k_asm); (case zk5 => k_asm); (case zk6 => first | exact rfl | assumption); (case zk7 => ktr_room); (case zk8 => ktr_units); (case zp1 => first | rfl | assumption | decide +kernel); (case zp2 => assumption); k_whole); intro r9 h9 tk9 n9 F9 N9 p9; k_dflt (obtain ⟨x9, d9, ha9, hb9, ta9, tb9, tc9, td9, e8, e9, l9, l8⟩ := p9; subst e9; subst e8; (try simp only [AllLt, and_true] at l9)); (try dsimp only); (try k_sweep); (try k_fold))) | (k_here; (with_reducible show wpAny _ _ (call (Value.ref 274) (_ :: _)) _ _ _); with_reducible (k_dflt (refine' use (c_preI _ _ _ _ ?zp1 ?zp2 _) ?zk1 ?zk2 ?zk3 ?zk4 ?zk5 ?zk6 ?zk7 ?zk8 ?_; (case zk1 => k_asm); (case zk2 => k_asm); (case zk3 => k_asm); (case zk4 => k_asm); (case zk5 => k_asm); (case zk6 => first | exact rfl | assumption); (case zk7 => ktr_room); (case zk8 => ktr_units); (case zp1 => assumption); (case zp2 => assumption); k_whole); intro r9 h9 tk9 n9 F9 N9 p9; k_dflt (obtain ⟨x9, ta9, tb9, tc9, e8, e9, l9⟩ := p9; subst e9; subst e8; (try simp only [AllLt, and_true] at l9)); (try dsimp only); (try k_sweep); (try k_fold))) | (k_here; (with_reducible show wpAny _ _ (call (Value.ref 267) (_ :: _)) _ _ _); with_reducible (k_dflt (refine' use (c_uns _ _ _ _ _ _ ?zp1 _) ?zk1 ?zk2 ?zk3 ?zk4 ?zk5 ?zk6 ?zk7 ?zk8 ?_; (case zk1 => k_asm); (case zk2 => k_asm); (case zk3 => k_asm); (case zk4 => k_asm); (case zk5 => k_asm); (case zk6 => first | exact rfl | assumption); (case zk7 => ktr_room); (case zk8 => ktr_units); (case zp1 => assumption); k_whole); intro r9 h9 tk9 n9 F9 N9 p9; k_dflt (obtain ⟨x9, d9, ha9, hb9, hc9, ta9, tb9, tc9, td9, te9, e8, e9, l9, l8⟩ := p9; subst e9; subst e8; (try simp only [AllLt, and_true] at l9)); (try dsimp only); (try k_sweep); (try k_fold)))) | (k_here; (with_reducible show wpAny _ _ (subscriptTail _ (Expr.Slice _ _ _ _) (Value.str _ _) _) _ _ _); (with_reducible show wpAny _ _ (subscriptTail _ (Expr.Slice none (some _) none _) _ _) _ _ _); with_reducible (k_dflt (refine' rs_ns (s := ⟨_, _, _, _, _⟩) ?zhx ?zF ?zN ?_ ?zhl ?zhs ?zht; (case zhx => first | assumption | exact slice_one _ _ | exact slice_tail _ _ | exact slice_nil_to (by decide) | exact slice_nil_from (by decide)); (case zF => k_asm); (case zN => k_asm); (case zhl => first | assumption | lia | (simp only [List.length_cons, List.length_append, List.length_nil] at *; lia)); (case zhs => with_unfolding_all rfl); (case zht => intro _; with_unfolding_all rfl); k_whole); intro _ _ _ _ _; (try k_sweep))) | walk1 | (dsimp only; first | (with_reducible show wpAny _ _ (call _ (_ :: _)) _ _ _) | (with_reducible show wpAny _ _ (subscriptTail _ _ _ _) _ _ _) | walk1) | (leave1; walk_say "STEP leave1"; try dsimp only) | fail "no step")
  all_goals (refine' end_real hret ?F ?N ?e1 ?e2 ?i1 ?i2 ?hs ?l1 ?l2; (case F => k_asm); (case N => k_asm); (case i1 => k_mem); (case i2 => k_mem); (case hs => (intro p hp; repeat' (first | exact hp | apply List.mem_cons_of_mem))); (case l1 => (first | assumption | exact allLt_of (by assumption) | exact And.right (by assumption) | exact And.right (And.right (by assumption)) | exact And.right (And.right (And.right (by assumption))) | exact And.right (And.right (And.right (And.right (by assumption)))) | exact And.right (And.right (And.right (And.right (And.right (by assumption))))) | exact And.right (And.right (And.right (And.right (And.right (And.right (by assumption)))))) | exact And.right (And.right (And.right (And.right (And.right (And.right (And.right (by assumption))))))) | exact And.right (And.right (And.right (And.right (And.right (And.right (And.right (And.right (by assumption)))))))) | exact And.right (And.right (And.right (And.right (And.right (And.right (And.right (And.right (And.right (by assumption))))))))) | exact And.right (And.right (And.right (And.right (And.right (And.right (And.right (And.right (And.right (And.right (by assumption)))))))))) | exact And.right (And.right (And.right (And.right (And.right (And.right (And.right (And.right (And.right (And.right (And.right (by assumption))))))))))) | exact And.right (And.right (And.right (And.right (And.right (And.right (And.right (And.right (And.right (And.right (And.right (And.right (by assumption)))))))))))) | exact And.right (And.right (And.right (And.right (And.right (And.right (And.right (And.right (And.right (And.right (And.right (And.right (And.right (by assumption))))))))))))) | exact And.right (And.right (And.right (And.right (And.right (And.right (And.right (And.right (And.right (And.right (And.right (And.right (And.right (And.right (by assumption)))))))))))))) | exact And.right (And.right (And.right (And.right (And.right (And.right (And.right (And.right (And.right (And.right (And.right (And.right (And.right (And.right (And.right (by assumption))))))))))))))) | exact And.right (And.right (And.right (And.right (And.right (And.right (And.right (And.right (And.right (And.right (And.right (And.right (And.right (And.right (And.right (And.right (by assumption)))))))))))))))))); (case l2 => assumption); (case e1 => rfl); (case e2 => rfl))
theorem c_parI2 (pr : Int) (u b : List Nat) (p q : Int) (ex : Bool) (t t1 t2 : Tok) (hu : u.map lowC = 35 :: 105 :: 45 :: b) (ha : ∀ c ∈ u, c < 128) (hl : u.length ≤ 100000) (hb : Uns b p q ex) (hr : RndOk pr (-1 * p) q) (news : List (Addr × Obj)) : Ctr 289 [.int pr t, .str (S u) t1, .int 10 t2] news 500 5000 (PReal news (rdM pr (-1 * p) q) (rdE pr (-1 * p) q)) := by
  intro w mean mg mb dp un gd cn cs a ccd cl outer A₀ base h₀ L m s Q E B F X N T hk hd hu hret
  obtain ⟨c, r, rfl, n1, n2, n3, n4⟩ := hb.facts
  obtain ⟨g1, g2⟩ := sg_not n1 n2
  have hl2 : (35 :: 105 :: 45 :: c :: r).length ≤ 100000 := by rw [← hu, List.length_map]; exact hl
  have hl3 : (c :: r).length ≤ 100000 := by simp only [List.length_cons] at hl2 ⊢; lia
  have n5 : (45 : Nat) ≠ 35 := by decide
  have g3 := minus_is
  have g4 := sg_minus
  have hl4 : (45 :: c :: r).length ≤ 100000 := by simp only [List.length_cons] at hl2 ⊢; lia
  (refine wpAny_call ?_; k_dflt (refine' code_def ?k1 ?k2 ?k3 ?k4 ?k5 ?kA ?kF ?kK ?k6 ?k7 ?k8 ?k9 ?kB ?_ ?c2 ?c3 ?c4 ?c5; (case kA => exact rfl); (case kF => exact rfl); (case kK => assumption); (case k1 => k_asm); (case k2 => k_asm); (case k3 => k_asm); (case k4 => k_asm); (case k5 => k_asm); (case k6 => k_is); (case k7 => k_is); (case k8 => ktr_room); (case k9 => first | exact BindsTo.of_eq rfl | exact binds_K (by k_in) rfl (by k_is) rfl rfl rfl); (case c5 => decide); (case kB => exact locs rfl); (case c2 => exact rfl); (case c3 => exact rfl); (case c4 => exact rfl); k_whole; intro g' L' h' FG' F' N' B' X' T'; (try dsimp only); (try k_lift B'); (try k_fold)))
  repeat' (first | (k_unfold; (try dsimp only)) | (k_end; wrow_close) | ((with_reducible show wpAny _ _ (call _ (_ :: _)) _ _ _); first | (k_here; (with_reducible show wpAny _ _ (call (Value.builtin "str.lower") (_ :: _)) _ _ _); with_reducible (k_dflt (refine' r_lower ?zhv ?zha ?zhl ?_; (case zhv => assumption); (case zha => assumption); (case zhl => assumption); k_whole); intro _ _)) | (k_here; (with_reducible show wpAny _ _ (call (Value.ref 281) (_ :: _)) _ _ _); with_reducible (k_dflt (refine' use (c_finI _ _ _ _ _ _ _ ?zp1 ?zp2 _) ?zk1 ?zk2 ?zk3 ?zk4 ?zk5 ?zk6 ?zk7 ?zk8 ?_; (case zk1 => k_asm); (case zk2 => k_asm); (case zk3 => k_asm); (case zk4 => k_asm); (case zk5 => k_asm); (case zk6 => first | exact rfl | assumption); (case zk7 => ktr_room); (case zk8 => ktr_units); (case zp1 => first | rfl | assumption | decide +kernel); (case zp2 => assumption); k_whole); intro r9 h9 tk9 n9 F9 N9 p9; k_dflt (obtain ⟨x9, d9, ha9, hb9, ta9, tb9, tc9, td9, e8, e9, l9, l8⟩ := p9; subst e9; subst e8; (try simp only [AllLt, and_true] at l9)); (try dsimp only); (try k_sweep); (try k_fold))) | (k_here; (with_reducible show wpAny _ _ (call (Value.ref 274) (_ :: _)) _ _ _); with_reducible (k_dflt (refine' use (c_preI _ _ _ _ ?zp1 ?zp2 _) ?zk1 ?zk2 ?zk3 ?zk4 ?zk5 ?zk6 ?zk7 ?zk8 ?_; (case zk1 => k_asm); (case zk2 => k_asm); (case zk3 => k_asm); (case zk4 => k_asm); (case zk5 => k_asm); (case zk6 => first | exact rfl | assumption); (case zk7 => ktr_room); (case zk8 => ktr_units); (case zp1 => assumption); (case zp2 => assumption); k_whole); intro r9 h9 tk9 n9 F9 N9 p9; k_dflt (obtain ⟨x9, ta9, tb9, tc9, e8, e9, l9⟩ := p9; subst e9; subst e8; (try simp only [AllLt, and_true] at l9)); (try dsimp only); (try k_sweep); (try k_fold))) | (k_here; (with_reducible show wpAny _ _ (call (Value.ref 267) (_ :: _)) _ _ _); with_reducible (k_dflt (refine' use (c_uns _ _ _ _ _ _ ?zp1 _) ?zk1 ?zk2 ?zk3 ?zk4 ?zk5 ?zk6 ?zk7 ?zk8 ?_; (case zk1 => k_asm); (case zk2 => k_asm); (case zk3 => k_asm); (case zk4 => k_asm); (case zk5 => k_asm); (case zk6 => first | exact rfl | assumption); (case zk7 => ktr_room); (case zk8 => ktr_units); (case zp1 => assumption); k_whole); intro r9 h9 tk9 n9 F9 N9 p9; k_dflt (obtain ⟨x9, d9, ha9, hb9, hc9, ta9, tb9, tc9, td9, te9, e8, e9, l9, l8⟩ := p9; subst e9; subst e8; (try simp only [AllLt, and_true] at l9)); (try dsimp only); (try k_sweep); (try k_fold)))) | ((with_reducible show wpAny _ _ (subscriptTail _ _ _ _) _ _ _); first | (k_here; (with_reducible show wpAny _ _ (subscriptTail _ (Expr.Slice _ _ _ _) (Value.str _ _) _) _ _ _); (with_reducible show wpAny _ _ (subscriptTail _ (Expr.Slice (some _) none none _) _ _) _ _ _); with_reducible (k_dflt (refine' rs_sn (s := ⟨_, _, _, _, _⟩) ?zhx ?zF ?zN ?_ ?zhl ?zhs ?zht; (case zhx => first | assumption | exact slice_one _ _ | exact slice_tail _ _ | exact slice_nil_to (by decide) | exact slice_nil_from (by decide)); (case zF => k_asm); (case zN => k_asm); (case zhl => first | assumption | lia | (simp only [List.length_cons, List.length_append, List.length_nil] at *; lia)); (case zhs => with_unfolding_all rfl); (case zht => intro _; with_unfolding_all rfl); k_whole); intro _ _ _ _ _; (try k_sweep))) | (k_here; (with_reducible show wpAny _ _ (subscriptTail _ (Expr.Slice _ _ _ _) (Value.str _ _) _) _ _ _); (with_reducible show wpAny _ _ (subscriptTail _ (Expr.Slice none (some _) none _) _ _) _ _ _); with_reducible (k_dflt (refine' rs_ns (s := ⟨_, _, _, _, _⟩) ?zhx ?zF ?zN ?_ ?zhl ?zhs ?zht; (case zhx => first | assumption | exact slice_one _ _ | exact slice_tail _ _ | exact slice_nil_to (by decide) | exact slice_nil_from (by decide)); (case zF => k_asm); (case zN => k_asm); (case zhl => first | assumption | lia | (simp only [List.length_cons, List.length_append, List.length_nil] at *; lia)); (case zhs => with_unfolding_all rfl); (case zht => intro _; with_unfolding_all rfl); k_whole); intro _ _ _ _ _; (try k_sweep)))) | walk1 | (dsimp only; first | (with_reducible show wpAny _ _ (call _ (_ :: _)) _ _ _) | (with_reducible show wpAny _ _ (subscriptTail _ _ _ _) _ _ _) | walk1) | (leave1; walk_say "STEP leave1"; try dsimp only) | fail "no step")
  all_goals (refine' end_real hret ?F ?N ?e1 ?e2 ?i1 ?i2 ?hs ?l1 ?l2; (case F => k_asm); (case N => k_asm); (case i1 => k_mem); (case i2 => k_mem); (case hs => (intro p hp; repeat' (first | exact hp | apply List.mem_cons_of_mem))); (case l1 => (first | assumption | exact allLt_of (by assumption) | exact And.right (by assumption) | exact And.right (And.right (by assumption)) | exact And.right (And.right (And.right (by assumption))) | exact And.right (And.right (And.right (And.right (by assumption)))) | exact And.right (And.right (And.right (And.right (And.right (by assumption))))) | exact And.right (And.right (And.right (And.right (And.right (And.right (by assumption)))))) | exact And.right (And.right (And.right (And.right (And.right (And.right (And.right (by assumption))))))) | exact And.right (And.right (And.right (And.right (And.right (And.right (And.right (And.right (by assumption)))))))) | exact And.right (And.right (And.right (And.right (And.right (And.right (And.right (And.right (And.right (by assumption))))))))) | exact And.right (And.right (And.right (And.right (And.right (And.right (And.right (And.right (And.right (And.right (by assumption)))))))))) | exact And.right (And.right (And.right (And.right (And.right (And.right (And.right (And.right (And.right (And.right (And.right (by assumption))))))))))) | exact And.right (And.right (And.right (And.right (And.right (And.right (And.right (And.right (And.right (And.right (And.right (And.right (by assumption)))))))))))) | exact And.right (And.right (And.right (And.right (And.right (And.right (And.right (And.right (And.right (And.right (And.right (And.right (And.right (by assumption))))))))))))) | exact And.right (And.right (And.right (And.right (And.right (And.right (And.right (And.right (And.right (And.right (And.right (And.right (And.right (And.right (by assumption)))))))))))))) | exact And.right (And.right (And.right (And.right (And.right (And.right (And.right (And.right (And.right (And.right (And.right (And.right (And.right (And.right (And.right (by assumption))))))))))))))) | exact And.right (And.right (And.right (And.right (And.right (And.right (And.right (And.right (And.right (And.right (And.right (And.right (And.right (And.right (And.right (And.right (by assumption)))))))))))))))))); (case l2 => assumption); (case e1 => rfl); (case e2 => rfl))
theorem c_parN (pr : Int) (u b : List Nat) (p q : Int) (ex : Bool) (t t1 t2 : Tok) (hu : u.map lowC = 45 :: b) (ha : ∀ c ∈ u, c < 128) (hl : u.length ≤ 100000) (hb : Uns b p q ex) (hx : ex = false) (hr : RndOk pr (-1 * p) q) (news : List (Addr × Obj)) : Ctr 289 [.int pr t, .str (S u) t1, .int 10 t2] news 500 5000 (PReal news (rdM pr (-1 * p) q) (rdE pr (-1 * p) q)) := by
  intro w mean mg mb dp un gd cn cs a ccd cl outer A₀ base h₀ L m s Q E B F X N T hk hd hu hret
  subst hx
  obtain ⟨c, r, rfl, n1, n2, n3, n4⟩ := hb.facts
  obtain ⟨g1, g2⟩ := sg_not n1 n2
  have hl2 : (45 :: c :: r).length ≤ 100000 := by rw [← hu, List.length_map]; exact hl
  have hl3 : (c :: r).length ≤ 100000 := by simp only [List.length_cons] at hl2 ⊢; lia
  have n5 : (45 : Nat) ≠ 35 := by decide
  have g3 := minus_is
  have g4 := sg_minus
  have hl4 : (45 :: c :: r).length ≤ 100000 := by simp only [List.length_cons] at hl2 ⊢; lia
  (refine wpAny_call ?_; k_dflt (refine' code_def ?k1 ?k2 ?k3 ?k4 ?k5 ?kA ?kF ?kK ?k6 ?k7 ?k8 ?k9 ?kB ?_ ?c2 ?c3 ?c4 ?c5; (case kA => exact rfl); (case kF => exact rfl); (case kK => assumption); (case k1 => k_asm); (case k2 => k_asm); (case k3 => k_asm); (case k4 => k_asm); (case k5 => k_asm); (case k6 => k_is); (case k7 => k_is); (case k8 => ktr_room); (case k9 => first | exact BindsTo.of_eq rfl | exact binds_K (by k_in) rfl (by k_is) rfl rfl rfl); (case c5 => decide); (case kB => exact locs rfl); (case c2 => exact rfl); (case c3 => exact rfl); (case c4 => exact rfl); k_whole; intro g' L' h' FG' F' N' B' X' T'; (try dsimp only); (try k_lift B'); (try k_fold)))
  repeat' (first | (k_unfold; (try dsimp only)) | (k_end; wrow_close) | ((with_reducible show wpAny _ _ (call _ (_ :: _)) _ _ _); first | (k_here; (with_reducible show wpAny _ _ (call (Value.builtin "str.lower") (_ :: _)) _ _ _); with_reducible (k_dflt (refine' r_lower ?zhv ?zha ?zhl ?_; (case zhv => assumption); (case zha => assumption); (case zhl => assumption); k_whole); intro _ _)) | (k_here; (with_reducible show wpAny _ _ (call (Value.ref 281) (_ :: _)) _ _ _); with_reducible (k_dflt (refine' use (c_finI _ _ _ _ _ _ _ ?zp1 ?zp2 _) ?zk1 ?zk2 ?zk3 ?zk4 ?zk5 ?zk6 ?zk7 ?zk8 ?_; (case zk1 => k_asm); (case zk2 => k_asm); (case zk3 => k_asm); (case zk4 => k_asm); (case zk5 => k_asm); (case zk6 => first | exact rfl | assumption); (case zk7 => ktr_room); (case zk8 => ktr_units); (case zp1 => first | rfl | assumption | decide +kernel); (case zp2 => assumption); k_whole); intro r9 h9 tk9 n9 F9 N9 p9; k_dflt (obtain ⟨x9, d9, ha9, hb9, ta9, tb9, tc9, td9, e8, e9, l9, l8⟩ := p9; subst e9; subst e8; (try simp only [AllLt, and_true] at l9)); (try dsimp only); (try k_sweep); (try k_fold))) | (k_here; (with_reducible show wpAny _ _ (call (Value.ref 274) (_ :: _)) _ _ _); with_reducible (k_dflt (refine' use (c_pre0 _ _ _ _ ?zp1 ?zp2 _) ?zk1 ?zk2 ?zk3 ?zk4 ?zk5 ?zk6 ?zk7 ?zk8 ?_; (case zk1 => k_asm); (case zk2 => k_asm); (case zk3 => k_asm); (case zk4 => k_asm); (case zk5 => k_asm); (case zk6 => first | exact rfl | assumption); (case zk7 => ktr_room); (case zk8 => ktr_units); (case zp1 => assumption); (case zp2 => assumption); k_whole); intro r9 h9 tk9 n9 F9 N9 p9; k_dflt (obtain ⟨x9, ta9, tb9, tc9, e8, e9, l9⟩ := p9; subst e9; subst e8; (try simp only [AllLt, and_true] at l9)); (try dsimp only); (try k_sweep); (try k_fold))) | (k_here; (with_reducible show wpAny _ _ (call (Value.ref 267) (_ :: _)) _ _ _); with_reducible (k_dflt (refine' use (c_uns _ _ _ _ _ _ ?zp1 _) ?zk1 ?zk2 ?zk3 ?zk4 ?zk5 ?zk6 ?zk7 ?zk8 ?_; (case zk1 => k_asm); (case zk2 => k_asm); (case zk3 => k_asm); (case zk4 => k_asm); (case zk5 => k_asm); (case zk6 => first | exact rfl | assumption); (case zk7 => ktr_room); (case zk8 => ktr_units); (case zp1 => assumption); k_whole); intro r9 h9 tk9 n9 F9 N9 p9; k_dflt (obtain ⟨x9, d9, ha9, hb9, hc9, ta9, tb9, tc9, td9, te9, e8, e9, l9, l8⟩ := p9; subst e9; subst e8; (try simp only [AllLt, and_true] at l9)); (try dsimp only); (try k_sweep); (try k_fold)))) | ((with_reducible show wpAny _ _ (subscriptTail _ _ _ _) _ _ _); first | (k_here; (with_reducible show wpAny _ _ (subscriptTail _ (Expr.Slice _ _ _ _) (Value.str _ _) _) _ _ _); (with_reducible show wpAny _ _ (subscriptTail _ (Expr.Slice (some _) none none _) _ _) _ _ _); with_reducible (k_dflt (refine' rs_sn (s := ⟨_, _, _, _, _⟩) ?zhx ?zF ?zN ?_ ?zhl ?zhs ?zht; (case zhx => first | assumption | exact slice_one _ _ | exact slice_tail _ _ | exact slice_nil_to (by decide) | exact slice_nil_from (by decide)); (case zF => k_asm); (case zN => k_asm); (case zhl => first | assumption | lia | (simp only [List.length_cons, List.length_append, List.length_nil] at *; lia)); (case zhs => with_unfolding_all rfl); (case zht => intro _; with_unfolding_all rfl); k_whole); intro _ _ _ _ _; (try k_sweep))) | (k_here; (with_reducible show wpAny _ _ (subscriptTail _ (Expr.Slice _ _ _ _) (Value.str _ _) _) _ _ _); (with_reducible show wpAny _ _ (subscriptTail _ (Expr.Slice none (some _) none _) _ _) _ _ _); with_reducible (k_dflt (refine' rs_ns (s := ⟨_, _, _, _, _⟩) ?zhx ?zF ?zN ?_ ?zhl ?zhs ?zht; (case zhx => first | assumption | exact slice_one _ _ | exact slice_tail _ _ | exact slice_nil_to (by decide) | exact slice_nil_from (by decide)); (case zF => k_asm); (case zN => k_asm); (case zhl => first | assumption | lia | (simp only [List.length_cons, List.length_append, List.length_nil] at *; lia)); (case zhs => with_unfolding_all rfl); (case zht => intro _; with_unfolding_all rfl); k_whole); intro _ _ _ _ _; (try k_sweep)))) | walk1 | (dsimp only; first | (with_reducible show wpAny _ _ (call _ (_ :: _)) _ _ _) | (with_reducible show wpAny _ _ (subscriptTail _ _ _ _) _ _ _) | walk1) | (leave1; walk_say "STEP leave1"; try dsimp only) | fail "no step")
  all_goals (refine' end_real hret ?F ?N ?e1 ?e2 ?i1 ?i2 ?hs ?l1 ?l2; (case F => k_asm); (case N => k_asm); (case i1 => k_mem); (case i2 => k_mem); (case hs => (intro p hp; repeat' (first | exact hp | apply List.mem_cons_of_mem))); (case l1 => (first | assumption | exact allLt_of (by assumption) | exact And.right (by assumption) | exact And.right (And.right (by assumption)) | exact And.right (And.right (And.right (by assumption))) | exact And.right (And.right (And.right (And.right (by assumption)))) | exact And.right (And.right (And.right (And.right (And.right (by assumption))))) | exact And.right (And.right (And.right (And.right (And.right (And.right (by assumption)))))) | exact And.right (And.right (And.right (And.right (And.right (And.right (And.right (by assumption))))))) | exact And.right (And.right (And.right (And.right (And.right (And.right (And.right (And.right (by assumption)))))))) | exact And.right (And.right (And.right (And.right (And.right (And.right (And.right (And.right (And.right (by assumption))))))))) | exact And.right (And.right (And.right (And.right (And.right (And.right (And.right (And.right (And.right (And.right (by assumption)))))))))) | exact And.right (And.right (And.right (And.right (And.right (And.right (And.right (And.right (And.right (And.right (And.right (by assumption))))))))))) | exact And.right (And.right (And.right (And.right (And.right (And.right (And.right (And.right (And.right (And.right (And.right (And.right (by assumption)))))))))))) | exact And.right (And.right (And.right (And.right (And.right (And.right (And.right (And.right (And.right (And.right (And.right (And.right (And.right (by assumption))))))))))))) | exact And.right (And.right (And.right (And.right (And.right (And.right (And.right (And.right (And.right (And.right (And.right (And.right (And.right (And.right (by assumption)))))))))))))) | exact And.right (And.right (And.right (And.right (And.right (And.right (And.right (And.right (And.right (And.right (And.right (And.right (And.right (And.right (And.right (by assumption))))))))))))))) | exact And.right (And.right (And.right (And.right (And.right (And.right (And.right (And.right (And.right (And.right (And.right (And.right (And.right (And.right (And.right (And.right (by assumption)))))))))))))))))); (case l2 => assumption); (case e1 => rfl); (case e2 => rfl))
theorem c_parE (pr : Int) (u b : List Nat) (p q : Int) (ex : Bool) (t t1 t2 : Tok) (hu : u.map lowC = 35 :: 101 :: b) (ha : ∀ c ∈ u, c < 128) (hl : u.length ≤ 100000) (hb : Uns b p q ex) (h0 : ¬ q < 0) (hg : (Int.gcd (1 * p) q : Int) ≠ 0) (hlg : (Int.gcd (1 * p) q : Int).natAbs.log2 < 9000) (news : List (Addr × Obj)) : Ctr 289 [.int pr t, .str (S u) t1, .int 10 t2] news 500 5000 (PEr news (1 * p) q) := by
  intro w mean mg mb dp un gd cn cs a ccd cl outer A₀ base h₀ L m s Q E B F X N T hk hd hu hret
  obtain ⟨c, r, rfl, n1, n2, n3, n4⟩ := hb.facts
  obtain ⟨g1, g2⟩ := sg_not n1 n2
  have hl2 : (35 :: 101 :: c :: r).length ≤ 100000 := by rw [← hu, List.length_map]; exact hl
  have hl3 : (c :: r).length ≤ 100000 := by simp only [List.length_cons] at hl2 ⊢; lia
  have n5 : (45 : Nat) ≠ 35 := by decide
  have hretI : q.fdiv (Int.gcd (1 * p) q : Int) = 1 → Ret h₀ L m s Q (PInt news ((1 * p).fdiv (Int.gcd (1 * p) q : Int))) := fun hc r h' tk' n' F N hp => hret r h' tk' n' F N (.inl ⟨hc, hp⟩)
  have hretR : ¬ q.fdiv (Int.gcd (1 * p) q : Int) = 1 → Ret h₀ L m s Q (PRatio news ((1 * p).fdiv (Int.gcd (1 * p) q : Int)) (q.fdiv (Int.gcd (1 * p) q : Int))) := fun hc r h' tk' n' F N hp => hret r h' tk' n' F N (.inr ⟨hc, hp⟩)
  clear hret
  (refine wpAny_call ?_; k_dflt (refine' code_def ?k1 ?k2 ?k3 ?k4 ?k5 ?kA ?kF ?kK ?k6 ?k7 ?k8 ?k9 ?kB ?_ ?c2 ?c3 ?c4 ?c5; (case kA => exact rfl); (case kF => exact rfl); (case kK => assumption); (case k1 => k_asm); (case k2 => k_asm); (case k3 => k_asm); (case k4 => k_asm); (case k5 => k_asm); (case k6 => k_is); (case k7 => k_is); (case k8 => ktr_room); (case k9 => first | exact BindsTo.of_eq rfl | exact binds_K (by k_in) rfl (by k_is) rfl rfl rfl); (case c5 => decide); (case kB => exact locs rfl); (case c2 => exact rfl); (case c3 => exact rfl); (case c4 => exact rfl); k_whole; intro g' L' h' FG' F' N' B' X' T'; (try dsimp only); (try k_lift B'); (try k_fold)))
  repeat' (first | (k_unfold; (try dsimp only)) | (k_end; wrow_close) | ((with_reducible show wpAny _ _ (call _ (_ :: _)) _ _ _); first | (k_here; (with_reducible show wpAny _ _ (call (Value.builtin "str.lower") (_ :: _)) _ _ _); with_reducible (k_dflt (refine' r_lower ?zhv ?zha ?zhl ?_; (case zhv => assumption); (case zha => assumption); (case zhl => assumption); k_whole); intro _ _)) | (k_here; (with_reducible show wpAny _ _ (call (Value.ref 281) (_ :: _)) _ _ _); with_reducible (k_dflt (refine' use (c_finE _ _ _ _ _ _ _ ?zp1 ?zp2 ?zp3 ?zp4 _) ?zk1 ?zk2 ?zk3 ?zk4 ?zk5 ?zk6 ?zk7 ?zk8 ?_; (case zk1 => k_asm); (case zk2 => k_asm); (case zk3 => k_asm); (case zk4 => k_asm); (case zk5 => k_asm); (case zk6 => first | exact rfl | assumption); (case zk7 => ktr_room); (case zk8 => ktr_units); (case zp1 => first | rfl | assumption | decide +kernel); (case zp2 => assumption); (case zp3 => assumption); (case zp4 => assumption); k_whole); intro r9 h9 tk9 n9 F9 N9 p9; k_dflt (rcases p9 with ⟨hc9, e9, t9, e8⟩ | ⟨hc9, x9, d9, ha9, hb9, ta9, tb9, tc9, td9, e8, e9, l9, l8⟩ <;> (subst e9; subst e8; (try simp only [AllLt, and_true] at l9))); (try dsimp only); (try k_sweep); (try k_fold))) | (k_here; (with_reducible show wpAny _ _ (call (Value.ref 274) (_ :: _)) _ _ _); with_reducible (k_dflt (refine' use (c_preE _ _ _ _ ?zp1 ?zp2 _) ?zk1 ?zk2 ?zk3 ?zk4 ?zk5 ?zk6 ?zk7 ?zk8 ?_; (case zk1 => k_asm); (case zk2 => k_asm); (case zk3 => k_asm); (case zk4 => k_asm); (case zk5 => k_asm); (case zk6 => first | exact rfl | assumption); (case zk7 => ktr_room); (case zk8 => ktr_units); (case zp1 => assumption); (case zp2 => assumption); k_whole); intro r9 h9 tk9 n9 F9 N9 p9; k_dflt (obtain ⟨x9, ta9, tb9, tc9, e8, e9, l9⟩ := p9; subst e9; subst e8; (try simp only [AllLt, and_true] at l9)); (try dsimp only); (try k_sweep); (try k_fold))) | (k_here; (with_reducible show wpAny _ _ (call (Value.ref 267) (_ :: _)) _ _ _); with_reducible (k_dflt (refine' use (c_uns _ _ _ _ _ _ ?zp1 _) ?zk1 ?zk2 ?zk3 ?zk4 ?zk5 ?zk6 ?zk7 ?zk8 ?_; (case zk1 => k_asm); (case zk2 => k_asm); (case zk3 => k_asm); (case zk4 => k_asm); (case zk5 => k_asm); (case zk6 => first | exact rfl | assumption); (case zk7 => ktr_room); (case zk8 => ktr_units); (case zp1 => assumption); k_whole); intro r9 h9 tk9 n9 F9 N9 p9; k_dflt (obtain ⟨x9, d9, ha9, hb9, hc9, ta9, tb9, tc9, td9, te9, e8, e9, l9, l8⟩ := p9; subst e9; subst e8; (try simp only [AllLt, and_true] at l9)); (try dsimp only); (try k_sweep); (try k_fold)))) | (k_here; (with_reducible show wpAny _ _ (subscriptTail _ (Expr.Slice _ _ _ _) (Value.str _ _) _) _ _ _); (with_reducible show wpAny _ _ (subscriptTail _ (Expr.Slice none (some _) none _) _ _) _ _ _); with_reducible (k_dflt (refine' rs_ns (s := ⟨_, _, _, _, _⟩) ?zhx ?zF ?zN ?_ ?zhl ?zhs ?zht; (case zhx => first | assumption | exact slice_one _ _ | exact slice_tail _ _ | exact slice_nil_to (by decide) | exact slice_nil_from (by decide)); (case zF => k_asm); (case zN => k_asm); (case zhl => first | assumption | lia | (simp only [List.length_cons, List.length_append, List.length_nil] at *; lia)); (case zhs => with_unfolding_all rfl); (case zht => intro _; with_unfolding_all rfl); k_whole); intro _ _ _ _ _; (try k_sweep))) | walk1 | (dsimp only; first | (with_reducible show wpAny _ _ (call _ (_ :: _)) _ _ _) | (with_reducible show wpAny _ _ (subscriptTail _ _ _ _) _ _ _) | walk1) | (leave1; walk_say "STEP leave1"; try dsimp only) | fail "no step")
  all_goals first
    | (refine' end_int (hretI (by assumption)) ?e ?F ?N ?hs; (case F => k_asm); (case N => k_asm); (case hs => (intro p hp; repeat' (first | exact hp | apply List.mem_cons_of_mem))); (case e => rfl))
    |  (refine' end_ratio (hretR (by assumption)) ?F ?N ?e1 ?e2 ?i1 ?i2 ?hs ?l1 ?l2; (case F => k_asm); (case N => k_asm); (case i1 => k_mem); (case i2 => k_mem); (case hs => (intro p hp; repeat' (first | exact hp | apply List.mem_cons_of_mem))); (case l1 => (first | assumption | exact allLt_of (by assumption) | exact And.right (by assumption) | exact And.right (And.right (by assumption)) | exact And.right (And.right (And.right (by assumption))) | exact And.right (And.right (And.right (And.right (by assumption)))) | exact And.right (And.right (And.right (And.right (And.right (by assumption))))) | exact And.right (And.right (And.right (And.right (And.right (And.right (by assumption)))))) | exact And.right (And.right (And.right (And.right (And.right (And.right (And.right (by assumption))))))) | exact And.right (And.right (And.right (And.right (And.right (And.right (And.right (And.right (by assumption)))))))) | exact And.right (And.right (And.right (And.right (And.right (And.right (And.right (And.right (And.right (by assumption))))))))) | exact And.right (And.right (And.right (And.right (And.right (And.right (And.right (And.right (And.right (And.right (by assumption)))))))))) | exact And.right (And.right (And.right (And.right (And.right (And.right (And.right (And.right (And.right (And.right (And.right (by assumption))))))))))) | exact And.right (And.right (And.right (And.right (And.right (And.right (And.right (And.right (And.right (And.right (And.right (And.right (by assumption)))))))))))) | exact And.right (And.right (And.right (And.right (And.right (And.right (And.right (And.right (And.right (And.right (And.right (And.right (And.right (by assumption))))))))))))) | exact And.right (And.right (And.right (And.right (And.right (And.right (And.right (And.right (And.right (And.right (And.right (And.right (And.right (And.right (by assumption)))))))))))))) | exact And.right (And.right (And.right (And.right (And.right (And.right (And.right (And.right (And.right (And.right (And.right (And.right (And.right (And.right (And.right (by assumption))))))))))))))) | exact And.right (And.right (And.right (And.right (And.right (And.right (And.right (And.right (And.right (And.right (And.right (And.right (And.right (And.right (And.right (And.right (by assumption)))))))))))))))))); (case l2 => assumption); (case e1 => rfl); (case e2 => rfl))
abbrev deckO (C : Addr) (k : Int) (t1 : Tok) (st : Int) (t2 : Tok) : Obj := W.listOf #[.ref C, .int k t1, .int st t2] 0
def PDraw (D C : Addr) (vs : List Value) (rest : List (Addr × Obj)) (many : Int) (r : Value) (n' : List (Addr × Obj)) : Prop := ∃ v t k t1 st t2, r = .int v t ∧ 0 ≤ v ∧ v < many ∧ 0 ≤ k ∧ n' = (D, deckO C k t1 st t2) :: (C, W.listOf vs.toArray vs.length) :: rest
theorem fm_bd (a : Int) {m : Int} (h : 0 < m) : 0 ≤ a.fmod m ∧ a.fmod m < m := by
  rw [Int.fmod_eq_emod_of_nonneg a (by lia)]
  exact ⟨Int.emod_nonneg a (by lia), Int.emod_lt_of_pos a h⟩
theorem end_draw {h₀ h' : Heap} {L : Addr} {m : PySem.Str → Option Value} {s : Shared} {Q : Value → Shared → Prop} {D C : Addr} {vs : List Value} {rest : List (Addr × Obj)} {many v k st : Int} {t t1 t2 : Tok} {tk' : Nat} (hret : Ret h₀ L m s Q (PDraw D C vs rest many)) (F : Fr h₀ L h' m)
    (N : News h₀ L h' ((D, deckO C k t1 st t2) :: (C, W.listOf vs.toArray vs.length) :: rest)) (hv : 0 ≤ v ∧ v < many) (hk : 0 ≤ k) : Q (.int v t) { s with heap := h', toks := tk' } :=
  hret _ _ _ _ F N ⟨v, t, k, t1, st, t2, rfl, hv.1, hv.2, hk, rfl⟩

local macro_rules | `(tactic| k_all) => `(tactic| assumption)
theorem c_draw (D C : Addr) (vs : List Value) (ns : List Int) (k st : Int) (t1 t2 : Tok) (many : Int) (t : Tok) (rest : List (Addr × Obj)) (hi : IntsAre vs ns) (h0 : 0 ≤ k) (hlen : ns.length ≤ 1000) (hm : 0 < many) (hDC : @Ne Nat D C) (hr : ∀ p ∈ rest, p.1 ≠ D)  : Ctr 296 [.ref D, .int many t] ((D, deckO C k t1 st t2) :: (C, W.listOf vs.toArray vs.length) :: rest) 20 200 (PDraw D C vs rest many) := by
  intro w mean mg mb dp un gd cn cs a ccd cl outer A₀ base h₀ L m s Q E B F X N T hk hd hu hret
  skip
  (refine wpAny_call ?_; k_dflt cell_enter)
  repeat' (first | (k_unfold; (try dsimp only)) | (k_end; wrow_close) | (k_here; (with_reducible show wpAny _ _ (binaryOp Operator.FloorDiv (Value.int _ _) (Value.int _ _)) _ _ _); with_reducible (k_dflt (refine' floordiv_int ?zhb ?_ (Or.inl ?zhp); (case zhb => first | assumption | lia); (case zhp => first | assumption | exact PyProof.noPylong_of_log2 (by first | assumption | lia)); k_whole))) | walk1 | (dsimp only; first | (with_reducible show wpAny _ _ (binaryOp _ _ _) _ _ _) | walk1) | (leave1; walk_say "STEP leave1"; try dsimp only) | fail "no step")
  all_goals (refine' end_draw hret ?F ?N ?v ?k; (case F => k_asm); (case N => k_asm); (case v => exact fm_bd _ hm); (case k => lia))
def fullOf (p z : Int) : Int := iabs z * 2 ^ (p - (Builtin.Int.intBits (iabs z) : Int)).toNat
def levOf (p z g : Int) : Int := g - (p - (Builtin.Int.intBits (iabs z) : Int))
def leastOf (p z : Int) : Int := 4 * fullOf p z - (if fullOf p z = 1 * 2 ^ (p - 1).toNat then 1 else 2)
def nearLow (p y z g : Int) : Int := if 0 ≤ levOf p z g then y * 2 ^ (levOf p z g).toNat else y
def nearHigh (p x z g : Int) : Int := if 0 ≤ levOf p z g then 4 * iabs x else 4 * iabs x * 2 ^ (0 - levOf p z g).toNat
def Cmp (p x y z g : Int) : Prop := if (fullOf p z).fmod 2 = 0 then leastOf p z * nearLow p y z g ≤ nearHigh p x z g ∧ nearHigh p x z g ≤ (4 * fullOf p z + 2) * nearLow p y z g else leastOf p z * nearLow p y z g < nearHigh p x z g ∧ nearHigh p x z g < (4 * fullOf p z + 2) * nearLow p y z g
abbrev realObj (h1 h2 z g : Int) (t1 t2 t3 t4 : Tok) : Obj := dictOf [⟨h1, .str (Str.ofString "mantissa") t1, .int z t3⟩, ⟨h2, .str (Str.ofString "exponent") t2, .int g t4⟩] 2

theorem c_isn0 (p y h1 h2 : Int) (ta tb tc t1 t2 t3 t4 : Tok) (O O2 : Addr) (news : List (Addr × Obj)) : Ctr 315 [.int p ta, .int 0 tb, .int y tc, .ref O] ((O, instObj 70 O2) :: (O2, realObj h1 h2 0 0 t1 t2 t3 t4) :: news) 60 600 (PBool ((O, instObj 70 O2) :: (O2, realObj h1 h2 0 0 t1 t2 t3 t4) :: news) true) := by
  intro w mean mg mb dp un gd cn cs a ccd cl outer A₀ base h₀ L m s Q E B F X N T hk hd hu hret
  skip
  (refine wpAny_call ?_; k_dflt cell_enter)
  k_steps
  all_goals (refine' end_bool hret ?e ?F ?N ?hs; (case F => k_asm); (case N => k_asm); (case hs => (intro p hp; repeat' (first | exact hp | apply List.mem_cons_of_mem))); (case e => rfl))
theorem c_isn1 (p x y z g h1 h2 : Int) (ta tb tc t1 t2 t3 t4 : Tok) (O O2 : Addr) (h1x : ¬ x = 0) (h1m : ¬ z = 0) (q1 : (Builtin.Int.intBits (iabs z) : Int) ≤ p) (q1b : ¬ p < (Builtin.Int.intBits (iabs z) : Int)) (q2 : 1 ≤ p) (q3 : p ≤ 64) (q4 : ¬ z.fmod 2 = 0) (q5 : (decide (0 < x) != decide (0 < z)) = false) (q6 : -100000 ≤ g) (q7 : g ≤ 100000) (q8 : (Builtin.Int.intBits (4 * iabs x) : Int) ≤ 100000) (q9 : (Builtin.Int.intBits y : Int) ≤ 100000) (o0 : IntMulOk (4 * (iabs z * 2 ^ (p - (Builtin.Int.intBits (iabs z) : Int)).toNat) - 1) (y * 2 ^ (g - (p - (Builtin.Int.intBits (iabs z) : Int))).toNat)) (o1 : IntMulOk (4 * (iabs z * 2 ^ (p - (Builtin.Int.intBits (iabs z) : Int)).toNat) - 2) (y * 2 ^ (g - (p - (Builtin.Int.intBits (iabs z) : Int))).toNat)) (o2 : IntMulOk (4 * (iabs z * 2 ^ (p - (Builtin.Int.intBits (iabs z) : Int)).toNat) + 2) (y * 2 ^ (g - (p - (Builtin.Int.intBits (iabs z) : Int))).toNat)) (o3 : IntMulOk (4 * (iabs z * 2 ^ (p - (Builtin.Int.intBits (iabs z) : Int)).toNat) - 1) y) (o4 : IntMulOk (4 * (iabs z * 2 ^ (p - (Builtin.Int.intBits (iabs z) : Int)).toNat) - 2) y) (o5 : IntMulOk (4 * (iabs z * 2 ^ (p - (Builtin.Int.intBits (iabs z) : Int)).toNat) + 2) y) (hc : Cmp p x y z g) (news : List (Addr × Obj)) : Ctr 315 [.int p ta, .int x tb, .int y tc, .ref O] ((O, instObj 70 O2) :: (O2, realObj h1 h2 z g t1 t2 t3 t4) :: news) 60 600 (PBool ((O, instObj 70 O2) :: (O2, realObj h1 h2 z g t1 t2 t3 t4) :: news) true) := by
  intro w mean mg mb dp un gd cn cs a ccd cl outer A₀ base h₀ L m s Q E B F X N T hk hd hu hret
  skip
  (refine wpAny_call ?_; k_dflt cell_enter)
  repeat' (first | (k_unfold; (try dsimp only)) | (k_end; wrow_close) | (k_here; (with_reducible show wpAny _ _ (binaryOp Operator.LShift (Value.int _ _) (Value.int _ _)) _ _ _); with_reducible (k_dflt (refine' lshift_int ?zhn ?zhz ?_; (case zhn => first | assumption | lia); (case zhz => first | assumption | lia); k_whole))) | (k_here; (with_reducible show wpAny _ _ (call (Value.builtin "abs") (_ :: _)) _ _ _); with_reducible ((refine call_iabs ?_); intro _ _)) | walk1 | (dsimp only; first | (with_reducible show wpAny _ _ (binaryOp _ _ _) _ _ _) | (with_reducible show wpAny _ _ (call _ (_ :: _)) _ _ _) | walk1) | (leave1; walk_say "STEP leave1"; try dsimp only) | fail "no step")
  all_goals (refine' end_bool hret ?e ?F ?N ?hs; (case F => k_asm); (case N => k_asm); (case hs => (intro p hp; repeat' (first | exact hp | apply List.mem_cons_of_mem))); (case e => (rw [decide_eq_true_eq]; unfold Cmp leastOf nearLow nearHigh fullOf levOf at hc; (repeat' split at hc); all_goals first | contradiction | exact hc.1 | exact hc.2 | exact absurd hc.1 (by assumption) | exact absurd hc.2 (by assumption) | (exfalso; lia))))
def PPick (I D C : Addr) (vs es : List Value) (n : Nat) (rest : List (Addr × Obj)) (VP : Value → Prop) (r : Value) (n' : List (Addr × Obj)) : Prop :=
  VP r ∧ ∃ k t1 st t2, 0 ≤ k ∧ n' = (I, W.listOf vs.toArray n) :: (D, deckO C k t1 st t2) :: (C, W.listOf es.toArray es.length) :: rest
theorem my_item {prog : Program} {w : World} {A : Around} {E : Value → Shared → Prop} {s : Shared} {h₀ : Heap} {L : Addr} {news : List (Addr × Obj)} {value slice : PySem.Expr} {l : Addr} {vs : List Value} {n : Nat} {k : Int} {u : Tok} {Q : Value → Shared → Prop}
    (N : News h₀ L s.heap news) (hm : (l, W.listOf vs.toArray n) ∈ news) (h0 : 0 ≤ k) (hk : k < (vs.length : Int)) (hfit : vs.length < 1000) (h : ∀ v ∈ vs, Q v s)
    (hs : subscripted slice false (.ref l) (.int k u) = operate [.ref l, .int k u] (getItem (.ref l) (.int k u)) := by with_unfolding_all rfl) (hg : ∀ r, letTemporaryGo value (.ref l) r = pure () := by intro _; with_unfolding_all rfl) :
    wpAny (model prog w) A (subscriptTail value slice (.ref l) (.int k u)) Q E s := by
  have hk' : k.toNat < vs.length := by lia
  exact item_listL (News.isList N hm) h0 (by lia) (List.getElem?_eq_getElem hk') (h _ (List.getElem_mem hk')) hs hg
theorem my_len {prog : Program} {w : World} {A : Around} {E : Value → Shared → Prop} {s : Shared} {h₀ : Heap} {L : Addr} {news : List (Addr × Obj)} {l : Addr} {vs : List Value} {n n' : Nat} {Q : Value → Shared → Prop}
    (N : News h₀ L s.heap news) (hm : (l, W.listOf vs.toArray n) ∈ news) (hs : vs.length = n') (hf : n' < 1000) (h : Q (.int (n' : Nat) (s.toks + 1)) { s with toks := s.toks + 1 + 1 }) :
    wpAny (model prog w) A (call (.builtin "len") [.ref l]) Q E s := by
  refine PyProof.Rows.len_list (News.isList N hm) ?_ ?_
  · simp only [List.size_toArray]; lia
  · simp only [List.size_toArray, hs]; exact h
theorem end_pick {h₀ h' : Heap} {L : Addr} {m : PySem.Str → Option Value} {s : Shared} {Q : Value → Shared → Prop} {I D C : Addr} {vs es : List Value} {n : Nat} {rest : List (Addr × Obj)} {VP : Value → Prop} {v : Value} {k st : Int} {t1 t2 : Tok} {tk' : Nat} (hret : Ret h₀ L m s Q (PPick I D C vs es n rest VP)) (F : Fr h₀ L h' m)
    (N : News h₀ L h' ((D, deckO C k t1 st t2) :: (C, W.listOf es.toArray es.length) :: (I, W.listOf vs.toArray n) :: rest)) (hv : VP v) (hk : 0 ≤ k) : Q v { s with heap := h', toks := tk' } := by
  refine hret _ _ _ ((I, W.listOf vs.toArray n) :: (D, deckO C k t1 st t2) :: (C, W.listOf es.toArray es.length) :: rest) F (news_sub N ?_) ⟨hv, k, t1, st, t2, hk, rfl⟩
  intro p hp; simp only [List.mem_cons] at hp ⊢; rcases hp with h | h | h | h <;> simp [h]
theorem news_rot {h₀ h : Heap} {L : Addr} {a b c : Addr × Obj} {rest : List (Addr × Obj)} (N : News h₀ L h (a :: b :: c :: rest)) : News h₀ L h (b :: c :: a :: rest) :=
  news_sub N (by intro p hp; simp only [List.mem_cons] at hp ⊢; rcases hp with h | h | h | h <;> simp [h])

theorem fr1 {a d : Addr} {o : Obj} {rest : List (Addr × Obj)} (h : @LT.lt Nat _ d a) (hr : ∀ p ∈ rest, p.1 ≠ d) : ∀ p ∈ (a, o) :: rest, p.1 ≠ d := by
  intro p hp
  rcases List.mem_cons.mp hp with rfl | hp
  · intro e; exact absurd h (by rw [show a = d from e]; exact Nat.lt_irrefl d)
  · exact hr p hp
theorem fr0 {a d : Addr} {o : Obj} {rest : List (Addr × Obj)} (h : ∀ p ∈ (a, o) :: rest, p.1 ≠ d) : ∀ p ∈ rest, p.1 ≠ d := fun p hp => h p (List.mem_cons_of_mem _ hp)

theorem c_pick (I D C : Addr) (vs es : List Value) (ns : List Int) (n nn : Nat) (k st : Int) (t1 t2 : Tok) (rest : List (Addr × Obj)) (VP : Value → Prop) (hi : IntsAre es ns) (h0 : 0 ≤ k) (hlen : ns.length ≤ 1000) (hn : vs.length = nn) (hn1 : 0 < (nn : Int)) (hn2 : nn < 1000) (hDC : @Ne Nat D C) (hr : ∀ p ∈ (I, W.listOf vs.toArray n) :: rest, p.1 ≠ D) (hvp : ∀ v ∈ vs, VP v)  : Ctr 303 [.ref D, .ref I] ((I, W.listOf vs.toArray n) :: (D, deckO C k t1 st t2) :: (C, W.listOf es.toArray es.length) :: rest) 40 400 (PPick I D C vs es n rest VP) := by
  intro w mean mg mb dp un gd cn cs a ccd cl outer A₀ base h₀ L m s Q E B F X N T hk hd hu hret
  replace N := news_rot N
  subst hn
  (refine wpAny_call ?_; k_dflt cell_enter)
  repeat' (first | (k_unfold; (try dsimp only)) | (k_end; wrow_close) | (k_here; (with_reducible show wpAny _ _ (subscriptTail _ _ (Value.ref _) (Value.int _ _)) _ _ _); (with_reducible show wpAny _ _ (subscriptTail _ _ (Value.ref _) (Value.int _ _)) _ _ _); with_reducible ((with_unfolding_all refine' my_item ?zN ?zhm ?zh0 ?zhk ?zhf ?_ ?zhs ?zhg; (case zN => k_asm); (case zhm => k_mem); (case zh0 => assumption); (case zhk => assumption); (case zhf => assumption); (case zhs => with_unfolding_all rfl); (case zhg => (intro _; with_unfolding_all rfl)); k_whole); intro v8 hv8)) | ((with_reducible show wpAny _ _ (call _ (_ :: _)) _ _ _); first | (k_here; (with_reducible show wpAny _ _ (call (Value.builtin "len") (_ :: _)) _ _ _); (with_reducible show wpAny _ _ (call (Value.builtin _) [Value.ref _]) _ _ _); with_reducible (k_dflt (refine' my_len ?zN ?zhm ?zhs ?zhf ?_; (case zN => k_asm); (case zhm => k_mem); (case zhs => first | assumption | exact rfl); (case zhf => first | assumption | decide); k_whole))) | (k_here; (with_reducible show wpAny _ _ (call (Value.ref 296) (_ :: _)) _ _ _); with_reducible (k_dflt (refine' use (c_draw _ _ _ _ _ _ _ _ _ _ _ ?zp1 ?zp2 ?zp3 ?zp4 ?zp5 ?zp6) ?zk1 ?zk2 ?zk3 ?zk4 ?zk5 ?zk6 ?zk7 ?zk8 ?_; (case zk1 => k_asm); (case zk2 => k_asm); (case zk3 => k_asm); (case zk4 => first | k_asm | exact news_rot (by k_asm)); (case zk5 => k_asm); (case zk6 => first | exact rfl | assumption); (case zk7 => ktr_room); (case zk8 => ktr_units); (case zp1 => assumption); (case zp2 => first | assumption | decide | lia); (case zp3 => assumption); (case zp4 => first | assumption | decide | lia); (case zp5 => assumption); (case zp6 => repeat' (first | assumption | exact fr0 (by assumption) | refine' fr1 (by first | assumption | exact And.left (by assumption) | exact And.left (And.right (by assumption)) | exact And.left (And.right (And.right (by assumption))) | exact And.left (And.right (And.right (And.right (by assumption)))) | exact And.left (And.right (And.right (And.right (And.right (by assumption))))) | exact And.left (And.right (And.right (And.right (And.right (And.right (by assumption))))))) ?_)); k_whole); intro r9 h9 tk9 n9 F9 N9 p9; k_dflt (obtain ⟨v9, ta9, k9, tb9, st9, tc9, e8, b9, c9, d9, e9⟩ := p9; subst e9; subst e8); (try dsimp only); (try k_sweep); (try k_fold)))) | walk1 | (dsimp only; first | (with_reducible show wpAny _ _ (subscriptTail _ _ _ _) _ _ _) | (with_reducible show wpAny _ _ (call _ (_ :: _)) _ _ _) | walk1) | (leave1; walk_say "STEP leave1"; try dsimp only) | fail "no step")
  all_goals (refine' end_pick hret ?F ?N ?v ?k; (case F => k_asm); (case N => k_asm); (case v => (apply hvp; assumption)); (case k => lia))
def PRat (D C : Addr) (es : List Value) (rest : List (Addr × Obj)) (r : Value) (n' : List (Addr × Obj)) : Prop :=
  ∃ a ta tb T B k t1 st t2, r = .ref a ∧ 0 ≤ T ∧ T < 340282366920938463463374607431768211456 ∧ 1 ≤ B ∧ B < 340282366920938463463374607431768211456 ∧ 0 ≤ k ∧ (@LT.lt Nat _ D a) ∧ n' = (D, deckO C k t1 st t2) :: (C, W.listOf es.toArray es.length) :: (a, { cls := .type "tuple", data := .seq #[.int T ta, .int B tb] }) :: rest
theorem end_rat {h₀ h' : Heap} {L : Addr} {m : PySem.Str → Option Value} {s : Shared} {Q : Value → Shared → Prop} {D C : Addr} {es : List Value} {rest news' : List (Addr × Obj)} {a : Addr} {ta tb t1 t2 : Tok} {T B k st : Int} {tk' : Nat} (hret : Ret h₀ L m s Q (PRat D C es rest)) (F : Fr h₀ L h' m)
    (N : News h₀ L h' news') (i1 : (a, ({ cls := .type "tuple", data := .seq #[.int T ta, .int B tb] } : Obj)) ∈ news') (i2 : (D, deckO C k t1 st t2) ∈ news') (i3 : (C, W.listOf es.toArray es.length) ∈ news') (hs : ∀ p ∈ rest, p ∈ news') (h1 : 0 ≤ T) (h2 : T < 340282366920938463463374607431768211456) (h3 : 1 ≤ B) (h4 : B < 340282366920938463463374607431768211456) (hk : 0 ≤ k) (hD : @LT.lt Nat _ D a) : Q (.ref a) { s with heap := h', toks := tk' } := by
  refine hret _ _ _ ((D, deckO C k t1 st t2) :: (C, W.listOf es.toArray es.length) :: (a, { cls := .type "tuple", data := .seq #[.int T ta, .int B tb] }) :: rest) F (news_sub N ?_) ⟨a, ta, tb, T, B, k, t1, st, t2, rfl, h1, h2, h3, h4, hk, hD, rfl⟩
  intro p hp
  rcases List.mem_cons.mp hp with rfl | hp
  · exact i2
  rcases List.mem_cons.mp hp with rfl | hp
  · exact i3
  rcases List.mem_cons.mp hp with rfl | hp
  · exact i1
  exact hs p hp
section
variable {prog : Program} {w : World} {A : Around} {E : Value → Shared → Prop} {s : Shared} {Q : Value → Shared → Prop} {t u : Tok}
theorem two_pow_le {n : Nat} {k : Nat} (h : n ≤ k) : (2 : Int) ^ n ≤ 2 ^ k := by
  have := Nat.pow_le_pow_right (show 0 < 2 by decide) h
  exact_mod_cast this
theorem two_pow_pos (n : Nat) : (1 : Int) ≤ 2 ^ n := by
  have := Nat.pow_pos (n := n) (show 0 < 2 by decide)
  exact_mod_cast this
theorem ten_pow_le {n : Nat} {k : Nat} (h : n ≤ k) : (10 : Int) ^ n ≤ 10 ^ k := by
  have := Nat.pow_le_pow_right (show 0 < 10 by decide) h
  exact_mod_cast this
theorem ten_pow_pos (n : Nat) : (1 : Int) ≤ 10 ^ n := by
  have := Nat.pow_pos (n := n) (show 0 < 10 by decide)
  exact_mod_cast this
theorem bits_le {x : Int} {k : Nat} (h : x.natAbs < 2 ^ k) : Builtin.Int.intBits x ≤ k := intBits_le_iff.mpr h
theorem shl_1 {n : Int} (hn : 0 ≤ n) (hm : n ≤ 64) (hq : ∀ y, 1 ≤ y → y < 36893488147419103232 → ∀ t' k, Q (.int y t') { s with toks := k }) : wpAny (model prog w) A (binaryOp .LShift (.int 1 t) (.int n u)) Q E s := by
  refine lshift_int hn ?_ (hq _ ?_ ?_ _ _)
  · have : Builtin.Int.intBits 1 = 1 := by decide
    rw [this]; lia
  · have := two_pow_pos n.toNat; lia
  · have := two_pow_le (n := n.toNat) (k := 64) (by lia)
    rw [Int.one_mul]; lia
theorem shl_b {x n : Int} (hx : 0 ≤ x) (hx2 : x < 5192296858534827628530496329220096) (hn : 0 ≤ n) (hm : n ≤ 16) (hq : ∀ y, x ≤ y → y < 340282366920938463463374607431768211456 → ∀ t' k, Q (.int y t') { s with toks := k }) : wpAny (model prog w) A (binaryOp .LShift (.int x t) (.int n u)) Q E s := by
  have hp := two_pow_pos n.toNat
  have hp2 := two_pow_le (n := n.toNat) (k := 16) (by lia)
  refine lshift_int hn ?_ (hq _ ?_ ?_ _ _)
  · have : Builtin.Int.intBits x ≤ 400 := bits_le (by lia)
    lia
  · have := Int.mul_le_mul_of_nonneg_left hp hx; lia
  · have := Int.mul_le_mul_of_nonneg_left hp2 hx
    lia
theorem mul_b {x y : Int} (hx : 1 ≤ x) (hx2 : x < 1180591620717411303424) (hy : 1 ≤ y) (hy2 : y < 2199023255552) (hq : ∀ z, 1 ≤ z → z < 2596148429267413814265248164610048 → ∀ t' k, Q (.int z t') { s with toks := k }) : wpAny (model prog w) A (binaryOp .Mult (.int x t) (.int y u)) Q E s := by
  have h1 := Int.mul_le_mul_of_nonneg_left hy (show 0 ≤ x by lia)
  have h2 := Int.mul_le_mul_of_nonneg_left (show y ≤ 2199023255552 by lia) (show 0 ≤ x by lia)
  exact mul_int (hq _ (by lia) (by lia) _ _) (mulOk_of_bits (m := 70) (n := 41) (bits_le (by lia)) (bits_le (by lia)) (by decide))
theorem pow_b {n : Int} (hn : 0 ≤ n) (hm : n ≤ 12) (hq : ∀ z, 1 ≤ z → z ≤ 1000000000000 → ∀ t' k, Q (.int z t') { s with toks := k }) : wpAny (model prog w) A (binaryOp .Pow (.int 10 t) (.int n u)) Q E s := by
  have h1 := ten_pow_pos n.toNat
  have h2 := ten_pow_le (n := n.toNat) (k := 12) (by lia)
  exact pow_int_small hn (by lia) (by decide) (hq _ h1 (by lia) _ _)
end

section
theorem c_lratio (D C : Addr) (es : List Value) (ns : List Int) (k p st : Int) (t t1 t2 : Tok) (rest : List (Addr × Obj)) (hi : IntsAre es ns) (h0 : 0 ≤ k) (hlen : ns.length ≤ 1000) (hDC : @Ne Nat D C) (hr : ∀ p ∈ rest, p.1 ≠ D) (hp1 : 2 ≤ p) (hp2 : p ≤ 60)  : Ctr 329 [.ref D, .int p t] ((D, deckO C k t1 st t2) :: (C, W.listOf es.toArray es.length) :: rest) 100 2000 (PRat D C es rest) := by
  intro w mean mg mb dp un gd cn cs a ccd cl outer A₀ base h₀ L m s Q E B F X N T hk hd hu hret
  skip
  (refine wpAny_call ?_; k_dflt cell_enter)
  repeat' (first | (k_unfold; (try dsimp only)) | (k_end; wrow_close) | ((with_reducible show wpAny _ _ (binaryOp _ _ _) _ _ _); first | (k_here; (with_reducible show wpAny _ _ (binaryOp Operator.Pow (Value.int _ _) (Value.int _ _)) _ _ _); (with_reducible show wpAny _ _ (binaryOp _ (Value.int 10 _) (Value.int _ _)) _ _ _); with_reducible (k_dflt (refine' pow_b ?zq0 ?zq1 ?_; (case zq0 => lia); (case zq1 => lia); k_whole); intro y7 hy7 hz7 t7 tk7)) | (k_here; (with_reducible show wpAny _ _ (binaryOp Operator.Mult (Value.int _ _) (Value.int _ _)) _ _ _); (with_reducible show wpAny _ _ (binaryOp _ (Value.int _ _) (Value.int _ _)) _ _ _); with_reducible (k_dflt (refine' mul_b ?zq0 ?zq1 ?zq2 ?zq3 ?_; (case zq0 => lia); (case zq1 => lia); (case zq2 => lia); (case zq3 => lia); k_whole); intro y7 hy7 hz7 t7 tk7)) | (k_here; (with_reducible show wpAny _ _ (binaryOp Operator.LShift (Value.int _ _) (Value.int _ _)) _ _ _); (with_reducible show wpAny _ _ (binaryOp _ (Value.int 1 _) (Value.int _ _)) _ _ _); with_reducible (k_dflt (refine' shl_1 ?zq0 ?zq1 ?_; (case zq0 => lia); (case zq1 => lia); k_whole); intro y7 hy7 hz7 t7 tk7)) | (k_here; (with_reducible show wpAny _ _ (binaryOp Operator.LShift (Value.int _ _) (Value.int _ _)) _ _ _); (with_reducible show wpAny _ _ (binaryOp _ (Value.int _ _) (Value.int _ _)) _ _ _); with_reducible (k_dflt (refine' shl_b ?zq0 ?zq1 ?zq2 ?zq3 ?_; (case zq0 => lia); (case zq1 => lia); (case zq2 => lia); (case zq3 => lia); k_whole); intro y7 hy7 hz7 t7 tk7))) | (k_here; (with_reducible show wpAny _ _ (call (Value.ref 296) (_ :: _)) _ _ _); with_reducible (k_dflt (refine' use (c_draw _ _ _ _ _ _ _ _ _ _ _ ?zp1 ?zp2 ?zp3 ?zp4 ?zp5 ?zp6) ?zk1 ?zk2 ?zk3 ?zk4 ?zk5 ?zk6 ?zk7 ?zk8 ?_; (case zk1 => k_asm); (case zk2 => k_asm); (case zk3 => k_asm); (case zk4 => first | k_asm | exact news_rot (by k_asm)); (case zk5 => k_asm); (case zk6 => first | exact rfl | assumption); (case zk7 => ktr_room); (case zk8 => ktr_units); (case zp1 => assumption); (case zp2 => first | assumption | decide | lia); (case zp3 => assumption); (case zp4 => first | assumption | decide | lia); (case zp5 => assumption); (case zp6 => repeat' (first | assumption | exact fr0 (by assumption) | refine' fr1 (by first | assumption | exact And.left (by assumption) | exact And.left (And.right (by assumption)) | exact And.left (And.right (And.right (by assumption))) | exact And.left (And.right (And.right (And.right (by assumption)))) | exact And.left (And.right (And.right (And.right (And.right (by assumption))))) | exact And.left (And.right (And.right (And.right (And.right (And.right (by assumption))))))) ?_)); k_whole); intro r9 h9 tk9 n9 F9 N9 p9; k_dflt (obtain ⟨v9, ta9, k9, tb9, st9, tc9, e8, b9, c9, d9, e9⟩ := p9; subst e9; subst e8); (try dsimp only); (try k_sweep); (try k_fold))) | walk1 | (dsimp only; first | (with_reducible show wpAny _ _ (binaryOp _ _ _) _ _ _) | (with_reducible show wpAny _ _ (call _ (_ :: _)) _ _ _) | walk1) | (leave1; walk_say "STEP leave1"; try dsimp only) | fail "no step")
  all_goals (refine' end_rat hret ?F ?N ?i1 ?i2 ?i3 ?hs ?h1 ?h2 ?h3 ?h4 ?hk ?hD; (case F => k_asm); (case N => k_asm); (case i1 => k_mem); (case i2 => k_mem); (case i3 => k_mem); (case hs => (intro p hp; repeat' (first | exact hp | apply List.mem_cons_of_mem))); (case h1 => lia); (case h2 => lia); (case h3 => lia); (case h4 => lia); (case hk => lia); (case hD => first | assumption | exact And.left (by assumption) | exact And.left (And.right (by assumption)) | exact And.left (And.right (And.right (by assumption))) | exact And.left (And.right (And.right (And.right (by assumption)))) | exact And.left (And.right (And.right (And.right (And.right (by assumption))))) | exact And.left (And.right (And.right (And.right (And.right (And.right (by assumption))))))))
end
def sd (x : Int) : List Nat := if x < 0 then 45 :: nd x.natAbs else nd x.toNat
theorem log_of {n k : Nat} (h : n < 2 ^ k) (hk : 0 < k) : n.log2 < k := by
  by_cases h0 : n = 0
  · subst h0; simpa using hk
  · exact (Nat.log2_lt h0).mpr h
theorem lt_of_log {n k : Nat} (h : n.log2 < k) : n < 2 ^ k := by
  by_cases h0 : n = 0
  · subst h0; exact Nat.pow_pos (by decide)
  · exact (Nat.log2_lt h0).mp h
theorem nd_len {n : Nat} (h : n < 2 ^ 1920) : (nd n).length ≤ 1000 :=
  (nd_all n).2.2.2 1000 (Nat.lt_of_lt_of_le h (by decide +kernel)) (by decide)
theorem sd_len {x : Int} (h : x.natAbs.log2 < 1920) : (sd x).length ≤ 1001 := by
  have h1 := lt_of_log h
  unfold sd; split
  · have := nd_len h1; simp only [List.length_cons]; lia
  · have := nd_len (n := x.toNat) (by lia); lia
theorem toString_sd (x : Int) : PySem.Str.ofString (toString x) = S (sd x) := by
  unfold sd; split
  · obtain ⟨n, rfl⟩ : ∃ n : Nat, x = -((n + 1 : Nat) : Int) := ⟨x.natAbs - 1, by lia⟩
    rw [str_neg]; congr 3
  · obtain ⟨n, rfl⟩ : ∃ n : Nat, x = (n : Int) := ⟨x.toNat, by lia⟩
    rw [str_nat]; rfl
theorem log_s {x : Int} (h1 : -1000000 ≤ x) (h2 : x ≤ 1000000) : x.natAbs.log2 < 1920 := log_of (Nat.lt_of_lt_of_le (show x.natAbs < 2 ^ 30 by lia) (by decide +kernel)) (by decide)
def Small (x : Int) : Prop := 0 ≤ x ∧ x < 2 ^ 1000
theorem Small.mul {x : Int} (h : Small x) {n : Int} (hn : n ≤ 4) : 0 ≤ x * 10 ^ n.toNat ∧ (x * 10 ^ n.toNat).natAbs < 2 ^ 1920 := by
  have h2 := ten_pow_le (n := n.toNat) (k := 4) (by lia)
  have h1 := ten_pow_pos n.toNat
  have h3 := Int.mul_le_mul_of_nonneg_left h2 h.1
  have h4 := Int.mul_nonneg h.1 (show (0 : Int) ≤ 10 ^ n.toNat by lia)
  have h5 := h.2
  refine ⟨h4, ?_⟩
  have h6 : (2 : Int) ^ 1000 * 10 ^ 4 < 2 ^ 1920 := by decide +kernel
  have h7 : (((x * 10 ^ n.toNat).natAbs : Nat) : Int) < ((2 ^ 1920 : Nat) : Int) := by
    rw [Int.natAbs_of_nonneg h4]
    refine Int.lt_of_le_of_lt h3 (Int.lt_trans (Int.mul_lt_mul_of_pos_right h5 (by decide)) ?_)
    rw [Int.natCast_pow]; exact h6
  exact Int.ofNat_lt.mp h7
theorem Small.log {x : Int} (h : Small x) {n : Int} (hn : n ≤ 4) : (x * 10 ^ n.toNat).natAbs.log2 < 1920 := log_of (h.mul hn).2 (by decide)
theorem iabs_le4 {x : Int} (h1 : -4 ≤ x) (h2 : x ≤ 4) : iabs x ≤ 4 := by unfold iabs; split <;> lia
theorem log_k {k x : Int} (h0 : 0 ≤ k) (h1 : k ≤ 130) (h2 : -4 ≤ x) (h3 : x ≤ 4) : (k + iabs x).natAbs.log2 < 1920 := log_s (by have := iabs_nn x; lia) (by have := iabs_le4 h2 h3; lia)
theorem lit_em : PySem.Str.ofString "e-" = S [101, 45] := by decide +kernel
theorem lit_e0 : PySem.Str.ofString "e0" = S [101, 48] := by decide +kernel
theorem lit_e : PySem.Str.ofString "e" = S [101] := by decide +kernel
theorem lit_Sm : PySem.Str.ofString "S-" = S [83, 45] := by decide +kernel
theorem rep_fold (k : Nat) (a : List Nat) : (List.replicate k (S [48]).cps).foldl (· ++ ·) a.toArray = (a ++ List.replicate k 48).toArray := by
  induction k generalizing a with
  | zero => simp
  | succ k ih =>
    rw [List.replicate_succ, List.foldl_cons]
    have : a.toArray ++ (S [48]).cps = (a ++ [48]).toArray := by simp [S]
    rw [this, ih, List.append_assoc]; rfl
theorem mul_rep {n : Int} (h : 1 ≤ n) : PySem.Txt.mul (PySem.Str.ofString "0") n = S (List.replicate n.toNat 48) := by
  rw [lit_zero]
  unfold PySem.Txt.mul
  rw [if_neg (by lia)]
  split
  · next h2 =>
    have : n = 1 := by
      simp only [Bool.or_eq_true, beq_iff_eq, S_len, List.length_cons, List.length_nil] at h2; lia
    subst this; rfl
  · have := rep_fold n.toNat []
    simp only [List.nil_append] at this
    exact congrArg PySem.Str.mk this
section
variable {prog : Program} {w : World} {A : Around} {E : Value → Shared → Prop} {s : Shared} {t u : Tok} {Q : Value → Shared → Prop}
theorem r_str {x : Int} (hx : x.natAbs.log2 < 1920) (hq : (sd x).length ≤ 1001 → ∀ t' k, Q (.str (S (sd x)) t') { s with toks := k }) : wpAny (model prog w) A (call (.type "str") [.int x t]) Q E s := by
  refine P.str_of_int hx ?_
  have e : (toString x : PySem.Str) = S (sd x) := toString_sd x
  rw [e]; exact hq (sd_len hx) _ _
theorem r_add2 {x y : PySem.Str} {a b : List Nat} (hx : x = S a) (hy : y = S b) (hl : (a ++ b).length ≤ 100000) (hq : ∀ t' k, Q (.str (S (a ++ b)) t') { s with toks := k }) : wpAny (model prog w) A (binaryOp .Add (.str x t) (.str y u)) Q E s := by
  subst hx; subst hy; exact r_add (by rw [List.length_append] at hl; exact hl) hq
theorem r_mulz {n : Int} (h1 : 1 ≤ n) (h2 : n ≤ 10000) (hq : ∀ t' k, Q (.str (S (List.replicate n.toNat 48)) t') { s with toks := k }) : wpAny (model prog w) A (binaryOp .Mult (.str (PySem.Str.ofString "0") t) (.int n u)) Q E s := by
  refine SB.mul (mulOk_of 16 1048576 (by decide) (by lia) (by lia) (by decide) (by decide)) ?_
  intro t' k; rw [mul_rep h1]; exact hq t' k
theorem r_pow10 {x : Int} (h1 : -100 ≤ x) (h2 : x ≤ 100) (hq : ∀ t' k, Q (.int (10 ^ (iabs x).toNat) t') { s with toks := k }) : wpAny (model prog w) A (binaryOp .Pow (.int 10 t) (.int (iabs x) u)) Q E s :=
  pow_int_small (iabs_nn x) (by unfold iabs; split <;> lia) (by decide) (hq _ _)
theorem r_mulw {x n : Int} (h : Small x) (hn : -4 ≤ n) (hn2 : n ≤ 4) (hq : ∀ t' k, Q (.int (x * 10 ^ (iabs n).toNat) t') { s with toks := k }) : wpAny (model prog w) A (binaryOp .Mult (.int x t) (.int (10 ^ (iabs n).toNat) u)) Q E s := by
  have h4 := iabs_le4 hn hn2
  have hx := h.2
  have h0 := h.1
  have hp := ten_pow_le (n := (iabs n).toNat) (k := 4) (by lia)
  have hp1 := ten_pow_pos (iabs n).toNat
  refine mul_int (hq _ _) (mulOk_of_bits (m := 1000) (n := 14) (bits_le ?_) (bits_le (by lia)) (by decide))
  have e : ((x.natAbs : Nat) : Int) < ((2 ^ 1000 : Nat) : Int) := by rw [Int.natAbs_of_nonneg h0, Int.natCast_pow]; exact hx
  exact Int.ofNat_lt.mp e
end
/-- the six spellings of the law's decimal texts -/
def padOf (x : Int) (k : Int) : List Nat := if ((sd x).length : Int) ≤ k then List.replicate (k + 1 - (sd x).length).toNat 48 ++ sd x else sd x
def ptOf (l : List Nat) (k : Int) : List Nat := l.take ((l.length : Int) - k).toNat ++ [46] ++ l.drop ((l.length : Int) - k).toNat
def DT (x k : Int) (u : List Nat) : Prop :=
  u = ptOf (padOf x k) k ∨ u = padOf x k ++ [101, 45] ++ sd k ∨ u = ptOf (padOf x k) k ++ [101, 48] ∨ u = sd x ++ [46] ++ [101] ++ sd (0 - k) ∨
  (∃ m, u = [46] ++ sd x ++ m ++ sd (((sd x).length : Int) - k) ∧ ((0 ≤ ((sd x).length : Int) - k ∧ (m = [100] ∨ m = [102, 43] ∨ m = [108, 43])) ∨ (¬ 0 ≤ ((sd x).length : Int) - k ∧ (m = [100] ∨ m = [102] ∨ m = [108])))) ∨
  (∃ s, -4 ≤ s ∧ s ≤ 4 ∧ u = sd (x * 10 ^ (iabs s).toNat) ++ [83, 45] ++ sd (k + iabs s))
def VMp (v : Value) : Prop := ∃ m t, v = .str (S m) t ∧ m.length ≤ 2 ∧ (m = [100] ∨ m = [102, 43] ∨ m = [108, 43])
def VMn (v : Value) : Prop := ∃ m t, v = .str (S m) t ∧ m.length ≤ 2 ∧ (m = [100] ∨ m = [102] ∨ m = [108])
def VW (x k : Int) (v : Value) : Prop := ∃ u t, v = .str (S u) t ∧ DT x k u
theorem vw_all {x k : Int} {u1 u2 u3 u4 u5 u6 : List Nat} {t1 t2 t3 t4 t5 t6 : Tok} (h1 : DT x k u1) (h2 : DT x k u2) (h3 : DT x k u3) (h4 : DT x k u4) (h5 : DT x k u5) (h6 : DT x k u6) :
    ∀ v ∈ [Value.str (S u1) t1, .str (S u2) t2, .str (S u3) t3, .str (S u4) t4, .str (S u5) t5, .str (S u6) t6], VW x k v := by
  intro v hv
  simp only [List.mem_cons, List.not_mem_nil, or_false] at hv
  rcases hv with rfl | rfl | rfl | rfl | rfl | rfl
  · exact ⟨_, _, rfl, h1⟩
  · exact ⟨_, _, rfl, h2⟩
  · exact ⟨_, _, rfl, h3⟩
  · exact ⟨_, _, rfl, h4⟩
  · exact ⟨_, _, rfl, h5⟩
  · exact ⟨_, _, rfl, h6⟩
def XK (_ _ : Int) : Prop := True
theorem c_pickW (x k' : Int) (_hx : XK x k') (I D C : Addr) (vs es : List Value) (ns : List Int) (n nn : Nat) (k st : Int) (t1 t2 : Tok) (rest : List (Addr × Obj)) (hi : IntsAre es ns) (h0 : 0 ≤ k) (hlen : ns.length ≤ 1000) (hn : vs.length = nn) (hn1 : 0 < (nn : Int)) (hn2 : nn < 1000) (hDC : @Ne Nat D C) (hr : ∀ p ∈ (I, W.listOf vs.toArray n) :: rest, p.1 ≠ D) (hvp : ∀ v ∈ vs, VW x k' v) :
    Ctr 303 [.ref D, .ref I] ((I, W.listOf vs.toArray n) :: (D, deckO C k t1 st t2) :: (C, W.listOf es.toArray es.length) :: rest) 40 400 (PPick I D C vs es n rest (VW x k')) :=
  c_pick I D C vs es ns n nn k st t1 t2 rest (VW x k') hi h0 hlen hn hn1 hn2 hDC hr hvp
theorem news_p1 {h₀ h : Heap} {L : Addr} {i b c d : Addr × Obj} {rest : List (Addr × Obj)} (N : News h₀ L h (i :: b :: c :: d :: rest)) : News h₀ L h (i :: c :: d :: b :: rest) :=
  news_sub N (by intro p hp; simp only [List.mem_cons] at hp ⊢; rcases hp with h | h | h | h | h <;> simp [h])
theorem news_p2 {h₀ h : Heap} {L : Addr} {i b c d : Addr × Obj} {rest : List (Addr × Obj)} (N : News h₀ L h (i :: b :: c :: d :: rest)) : News h₀ L h (d :: b :: c :: rest) :=
  news_sub N (by intro p hp; simp only [List.mem_cons] at hp ⊢; rcases hp with h | h | h | h <;> simp [h])
theorem news_p3 {h₀ h : Heap} {L : Addr} {b c d : Addr × Obj} {rest : List (Addr × Obj)} (N : News h₀ L h (b :: c :: d :: rest)) : News h₀ L h (d :: b :: c :: rest) :=
  news_sub N (by intro p hp; simp only [List.mem_cons] at hp ⊢; rcases hp with h | h | h | h <;> simp [h])
def PDec (D C : Addr) (es : List Value) (rest : List (Addr × Obj)) (x k : Int) (r : Value) (n' : List (Addr × Obj)) : Prop :=
  ∃ a u ta tb tc k1 t1 st t2, r = .ref a ∧ DT x k u ∧ 0 ≤ k1 ∧ (@LT.lt Nat _ D a) ∧ n' = (D, deckO C k1 t1 st t2) :: (C, W.listOf es.toArray es.length) :: (a, W.listOf #[.str (S u) ta, .int x tb, .int (10 ^ k.toNat) tc] 0) :: rest
theorem end_dec {h₀ h' : Heap} {L : Addr} {m : PySem.Str → Option Value} {s : Shared} {Q : Value → Shared → Prop} {D C : Addr} {es : List Value} {rest news' : List (Addr × Obj)} {a : Addr} {ta tb tc t1 t2 : Tok} {x k k1 st : Int} {u : List Nat} {tk' : Nat} (hret : Ret h₀ L m s Q (PDec D C es rest x k)) (F : Fr h₀ L h' m)
    (N : News h₀ L h' news') (i1 : (a, W.listOf #[.str (S u) ta, .int x tb, .int (10 ^ k.toNat) tc] 0) ∈ news') (i2 : (D, deckO C k1 t1 st t2) ∈ news') (i3 : (C, W.listOf es.toArray es.length) ∈ news') (hs : ∀ p ∈ rest, p ∈ news') (h1 : DT x k u) (hk : 0 ≤ k1) (hD : @LT.lt Nat _ D a) : Q (.ref a) { s with heap := h', toks := tk' } := by
  refine hret _ _ _ ((D, deckO C k1 t1 st t2) :: (C, W.listOf es.toArray es.length) :: (a, W.listOf #[.str (S u) ta, .int x tb, .int (10 ^ k.toNat) tc] 0) :: rest) F (news_sub N ?_) ⟨a, u, ta, tb, tc, k1, t1, st, t2, rfl, h1, hk, hD, rfl⟩
  intro p hp
  rcases List.mem_cons.mp hp with rfl | hp
  · exact i2
  rcases List.mem_cons.mp hp with rfl | hp
  · exact i3
  rcases List.mem_cons.mp hp with rfl | hp
  · exact i1
  exact hs p hp
theorem lit_m1 : PySem.Str.ofString "d" = S [100] := by decide +kernel
theorem lit_m2 : PySem.Str.ofString "f+" = S [102, 43] := by decide +kernel
theorem lit_m3 : PySem.Str.ofString "l+" = S [108, 43] := by decide +kernel
theorem lit_m4 : PySem.Str.ofString "f" = S [102] := by decide +kernel
theorem lit_m5 : PySem.Str.ofString "l" = S [108] := by decide +kernel
theorem vmp_all (t1 t2 t3 : Tok) : ∀ v ∈ [Value.str (PySem.Str.ofString "d") t1, .str (PySem.Str.ofString "f+") t2, .str (PySem.Str.ofString "l+") t3], VMp v := by
  intro v hv
  simp only [List.mem_cons, List.not_mem_nil, or_false] at hv
  rcases hv with rfl | rfl | rfl
  · exact ⟨_, _, by rw [lit_m1], by decide, .inl rfl⟩
  · exact ⟨_, _, by rw [lit_m2], by decide, .inr (.inl rfl)⟩
  · exact ⟨_, _, by rw [lit_m3], by decide, .inr (.inr rfl)⟩
theorem vmn_all (t1 t2 t3 : Tok) : ∀ v ∈ [Value.str (PySem.Str.ofString "d") t1, .str (PySem.Str.ofString "f") t2, .str (PySem.Str.ofString "l") t3], VMn v := by
  intro v hv
  simp only [List.mem_cons, List.not_mem_nil, or_false] at hv
  rcases hv with rfl | rfl | rfl
  · exact ⟨_, _, by rw [lit_m1], by decide, .inl rfl⟩
  · exact ⟨_, _, by rw [lit_m4], by decide, .inr (.inl rfl)⟩
  · exact ⟨_, _, by rw [lit_m5], by decide, .inr (.inr rfl)⟩

def UMark : Prop := True
def UMark2 : Prop := True
theorem pad_len {x : Int} (h : (sd x).length ≤ 1001) {k : Int} (h0 : 0 ≤ k) (h1 : k ≤ 130) : k < ((padOf x k).length : Int) ∧ (padOf x k).length ≤ 1200 := by
  unfold padOf
  split
  · simp only [List.length_append, List.length_replicate]; lia
  · lia
def PadPost (h₀ : Heap) (L : Addr) (x : PySem.Str) (m : PySem.Str → Option Value) (u : List Nat) (news : List (Addr × Obj)) (s : Shared) (f : Flow) (s' : Shared) : Prop :=
  f = .next ∧ ∃ h' tk' m' t, s' = { s with heap := h', toks := tk' } ∧ Fr h₀ L h' m' ∧ News h₀ L h' news ∧ m' x = some (.str (S u) t) ∧ ∀ z, z ≠ x → m' z = m z
theorem cut_pad {w k : Int} (_hx : XK w k) {x : PySem.Str} {M : Model} {A : Around} {mm : Sem Flow} {E : Value → Shared → Prop} {s : Shared} {h₀ : Heap} {L : Addr} {Q : Flow → Shared → Prop} {m : PySem.Str → Option Value} {t : Tok} {news : List (Addr × Obj)}
    (_F : Fr h₀ L s.heap (fun y => if y = x then some (.str (S (sd w)) t) else m y)) (_N : News h₀ L s.heap news)
    (h1 : UMark → wpAny M A mm (PadPost h₀ L x m (padOf w k) news s) E s)
    (h2 : ∀ t' h' tk', Fr h₀ L h' (fun y => if y = x then some (.str (S (padOf w k)) t') else m y) → News h₀ L h' news → Q .next { s with heap := h', toks := tk' }) : wpAny M A mm Q E s := by
  refine wpAny_mono (h1 trivial) ?_ fun _ _ e => e
  rintro f s' ⟨rfl, h', tk', m', t', rfl, F, N, hx, hz⟩
  refine h2 t' h' tk' ?_ N
  have e : m' = fun z => if z = x then some (.str (S (padOf w k)) t') else m z := by
    funext z
    by_cases hzx : z = x
    · subst hzx; simp [hx]
    · simp [hzx, hz z hzx]
  rwa [e] at F
theorem pad_end {s : Shared} {h₀ h' : Heap} {L : Addr} {x : PySem.Str} {m m' : PySem.Str → Option Value} {u u' : List Nat} {t : Tok} {news all : List (Addr × Obj)} {tk' : Nat} (F : Fr h₀ L h' m') (N : News h₀ L h' all)
    (hs : ∀ p ∈ news, p ∈ all) (hx : m' x = some (.str (S u') t)) (hu : u' = u) (hz : ∀ z, z ≠ x → m' z = m z) : PadPost h₀ L x m u news s .next { s with heap := h', toks := tk' } := by
  subst hu
  exact ⟨rfl, h', tk', m', t, rfl, F, news_sub N hs, hx, hz⟩
def VMx (a : Int) (v : Value) : Prop := ∃ m t, v = .str (S m) t ∧ m.length ≤ 2 ∧ ((0 ≤ a ∧ (m = [100] ∨ m = [102, 43] ∨ m = [108, 43])) ∨ (¬ 0 ≤ a ∧ (m = [100] ∨ m = [102] ∨ m = [108])))
theorem vmx_p {a : Int} (h : 0 ≤ a) (t1 t2 t3 : Tok) : ∀ v ∈ [Value.str (PySem.Str.ofString "d") t1, .str (PySem.Str.ofString "f+") t2, .str (PySem.Str.ofString "l+") t3], VMx a v := by
  intro v hv
  obtain ⟨m, t, e, l, d⟩ := vmp_all t1 t2 t3 v hv
  exact ⟨m, t, e, l, .inl ⟨h, d⟩⟩
theorem vmx_n {a : Int} (h : ¬ 0 ≤ a) (t1 t2 t3 : Tok) : ∀ v ∈ [Value.str (PySem.Str.ofString "d") t1, .str (PySem.Str.ofString "f") t2, .str (PySem.Str.ofString "l") t3], VMx a v := by
  intro v hv
  obtain ⟨m, t, e, l, d⟩ := vmn_all t1 t2 t3 v hv
  exact ⟨m, t, e, l, .inr ⟨h, d⟩⟩
def MkPost (h₀ : Heap) (L : Addr) (m : PySem.Str → Option Value) (news : List (Addr × Obj)) (a : Int) (s : Shared) (v : Value) (s' : Shared) : Prop :=
  ∃ (I : Addr) (vs : List Value) (h' : Heap) (tk' : Nat), v = .ref I ∧ s' = { s with heap := h', toks := tk' } ∧ Fr h₀ L h' m ∧ News h₀ L h' ((I, W.listOf vs.toArray 0) :: news) ∧ AllLt I news ∧ vs.length = 3 ∧ ∀ v ∈ vs, VMx a v
theorem cut_mk {w k : Int} (_hx : XK w k) {M : Model} {A : Around} {mm : Sem Value} {E : Value → Shared → Prop} {s : Shared} {h₀ : Heap} {L : Addr} {Q : Value → Shared → Prop} {m : PySem.Str → Option Value} {news : List (Addr × Obj)}
    (_F : Fr h₀ L s.heap m) (_N : News h₀ L s.heap news)
    (h1 : UMark2 → wpAny M A mm (MkPost h₀ L m news (((sd w).length : Int) - k) s) E s)
    (h2 : ∀ (I : Addr) (vs : List Value) (h' : Heap) (tk' : Nat), AllLt I news → vs.length = 3 → (∀ v ∈ vs, VMx (((sd w).length : Int) - k) v) → Fr h₀ L h' m → News h₀ L h' ((I, W.listOf vs.toArray 0) :: news) → Q (.ref I) { s with heap := h', toks := tk' }) : wpAny M A mm Q E s := by
  refine wpAny_mono (h1 trivial) ?_ fun _ _ e => e
  rintro v s' ⟨I, vs, h', tk', rfl, rfl, F, N, l, n, hv⟩
  exact h2 I vs h' tk' l n hv F N
theorem mk_end {s : Shared} {h₀ h' : Heap} {L : Addr} {m : PySem.Str → Option Value} {a : Int} {I : Addr} {v1 v2 v3 : Value} {news all : List (Addr × Obj)} {tk' : Nat} (F : Fr h₀ L h' m) (N : News h₀ L h' all)
    (i : (I, W.listOf #[v1, v2, v3] 0) ∈ all) (hs : ∀ p ∈ news, p ∈ all) (l : AllLt I news) (hv : ∀ v ∈ [v1, v2, v3], VMx a v) : MkPost h₀ L m news a s (.ref I) { s with heap := h', toks := tk' } := by
  refine ⟨I, [v1, v2, v3], h', tk', rfl, rfl, F, news_sub N fun p hp => ?_, l, rfl, hv⟩
  rcases List.mem_cons.mp hp with rfl | hp
  · exact i
  exact hs p hp

section
theorem c_ldecU (D C : Addr) (es : List Value) (ns : List Int) (k st T0 B0 K : Int) (t1 t2 tt tb tk0 : Tok) (rest : List (Addr × Obj)) (hi : IntsAre es ns) (h0 : 0 ≤ k) (hlen : ns.length ≤ 1000) (hDC : @Ne Nat D C) (hr : ∀ p ∈ rest, p.1 ≠ D) (hK0 : 0 ≤ K) (hK1 : K ≤ 130) (g1 : PySem.IntMulOk T0 (10 ^ K.toNat)) (g2 : B0 ≠ 0) (g3 : B0.natAbs.log2 < 9000) (g4 : Small ((T0 * 10 ^ K.toNat).fdiv B0)) (g5 : ((T0 * 10 ^ K.toNat).fdiv B0).natAbs.log2 < 1920) (hxk : XK ((T0 * 10 ^ K.toNat).fdiv B0) K)  : Ctr 336 [.ref D, .int T0 tt, .int B0 tb, .int K tk0] ((D, deckO C k t1 st t2) :: (C, W.listOf es.toArray es.length) :: rest) 200 2000 (PDec D C es rest ((T0 * 10 ^ K.toNat).fdiv B0) K) := by
  intro w mean mg mb dp un gd cn cs a ccd cl outer A₀ base h₀ L m s Q E B F X N T hk hd hu hret
  have hpl := pad_len (sd_len g5) hK0 hK1
  obtain ⟨hpl1, hpl2⟩ := hpl
  (refine wpAny_call ?_; k_dflt cell_enter)
  repeat' (first | (k_unfold; (try dsimp only)) | (k_end; wrow_close) | (k_here; (with_reducible show wpAny _ _ (eval (Expr.IfExp _ _ _ _) _) _ _ _); (with_reducible show wpAny _ _ (eval (Expr.IfExp _ _ _ _) _) _ _ _); with_reducible ((try dsimp only); (fail_if_success (rename UMark2 => hm9)); (rename Fr _ _ _ _ => lF'); (rename News _ _ _ _ => lN'); k_dflt (refine' cut_mk ?zzx lF' lN' (fun hm8 => ?_) (fun I8 vs8 h8 tk8 l8 n8 v8 F8 N8 => ?_); (case zzx => assumption)); (all_goals (try simp only [AllLt, and_true] at l8)); (all_goals (try dsimp only)); (all_goals (try k_fold)))) | (k_here; (with_reducible show wpAny _ _ (exec (Stmt.If _ _ _ _) _) _ _ _); (with_reducible show wpAny _ _ (exec (Stmt.If _ _ _ _) _) _ _ _); with_reducible ((try dsimp only); (fail_if_success (rename UMark => hm9)); (rename Fr _ _ _ _ => lF'); (rename News _ _ _ _ => lN'); k_dflt (refine' cut_pad ?zzx lF' lN' (fun hm8 => ?_) (fun t8 h8 tk8 F8 N8 => ?_); (case zzx => assumption)); (all_goals (try dsimp only)); (all_goals (try k_fold)))) | ((with_reducible show wpAny _ _ (call _ (_ :: _)) _ _ _); first | (k_here; (with_reducible show wpAny _ _ (call (Value.ref 303) (_ :: _)) _ _ _); with_reducible (k_dflt (refine' use (c_pickW _ _ ?zp0 _ _ _ _ _ _ _ 6 _ _ _ _ _ ?zp1 ?zp2 ?zp3 ?zp4 ?zp5 ?zp6 ?zp7 ?zp8 ?zp9) ?zk1 ?zk2 ?zk3 ?zk4 ?zk5 ?zk6 ?zk7 ?zk8 ?_; (case zk1 => k_asm); (case zk2 => k_asm); (case zk3 => k_asm); (case zk4 => first | exact news_p2 (by k_asm) | exact news_p3 (by k_asm)); (case zk5 => k_asm); (case zk6 => first | exact rfl | assumption); (case zk7 => ktr_room); (case zk8 => ktr_units); (case zp0 => assumption); (case zp1 => assumption); (case zp2 => first | assumption | decide | lia); (case zp3 => assumption); (case zp4 => exact rfl); (case zp5 => decide); (case zp6 => decide); (case zp7 => assumption); (case zp8 => repeat' (first | assumption | exact fr0 (by assumption) | refine' fr1 (by first | assumption | exact And.left (by assumption) | exact And.left (And.right (by assumption)) | exact And.left (And.right (And.right (by assumption))) | exact And.left (And.right (And.right (And.right (by assumption)))) | exact And.left (And.right (And.right (And.right (And.right (by assumption))))) | exact And.left (And.right (And.right (And.right (And.right (And.right (by assumption))))))) ?_)); (case zp9 => exact vw_all (Or.inl rfl) (Or.inr (Or.inl rfl)) (Or.inr (Or.inr (Or.inl rfl))) (Or.inr (Or.inr (Or.inr (Or.inl rfl)))) (Or.inr (Or.inr (Or.inr (Or.inr (Or.inl ⟨_, rfl, by assumption⟩))))) (Or.inr (Or.inr (Or.inr (Or.inr (Or.inr ⟨_, by lia, by lia, rfl⟩)))))); k_whole); intro r9 h9 tk9 n9 F9 N9 p9; k_dflt (obtain ⟨v9, k9, tb9, st9, tc9, d9, e9⟩ := p9; subst e9; obtain ⟨u9, t9, e8, m9⟩ := v9; subst e8); (try dsimp only); (try k_sweep); (try k_fold))) | (k_here; (with_reducible show wpAny _ _ (call (Value.ref 303) (_ :: _)) _ _ _); with_reducible (k_dflt (refine' use (c_pick _ _ _ _ _ _ _ 3 _ _ _ _ _ (VMx _) ?zp1 ?zp2 ?zp3 ?zp4 ?zp5 ?zp6 ?zp7 ?zp8 ?zp9) ?zk1 ?zk2 ?zk3 ?zk4 ?zk5 ?zk6 ?zk7 ?zk8 ?_; (case zk1 => k_asm); (case zk2 => k_asm); (case zk3 => k_asm); (case zk4 => exact news_p1 (by k_asm)); (case zk5 => k_asm); (case zk6 => first | exact rfl | assumption); (case zk7 => ktr_room); (case zk8 => ktr_units); (case zp1 => assumption); (case zp2 => first | assumption | decide | lia); (case zp3 => assumption); (case zp4 => assumption); (case zp5 => decide); (case zp6 => decide); (case zp7 => assumption); (case zp8 => repeat' (first | assumption | exact fr0 (by assumption) | refine' fr1 (by first | assumption | exact And.left (by assumption) | exact And.left (And.right (by assumption)) | exact And.left (And.right (And.right (by assumption))) | exact And.left (And.right (And.right (And.right (by assumption)))) | exact And.left (And.right (And.right (And.right (And.right (by assumption))))) | exact And.left (And.right (And.right (And.right (And.right (And.right (by assumption))))))) ?_)); (case zp9 => assumption); k_whole); intro r9 h9 tk9 n9 F9 N9 p9; k_dflt (obtain ⟨v9, k9, tb9, st9, tc9, d9, e9⟩ := p9; subst e9; obtain ⟨u9, t9, e8, l9, m9⟩ := v9; subst e8); (try dsimp only); (try k_sweep); (try k_fold))) | (k_here; (with_reducible show wpAny _ _ (call (Value.type "str") (_ :: _)) _ _ _); (with_reducible show wpAny _ _ (call (Value.type "str") [Value.int _ _]) _ _ _); with_reducible (k_dflt (refine' r_str ?zhx ?_; (case zhx => first | assumption | exact log_s (by lia) (by lia) | exact Small.log (by assumption) (iabs_le4 (by lia) (by lia)) | exact log_k (by assumption) (by assumption) (by lia) (by lia)); k_whole); intro _ _ _)) | (k_here; (with_reducible show wpAny _ _ (call (Value.builtin "len") (_ :: _)) _ _ _); (with_reducible show wpAny _ _ (call (Value.builtin _) [Value.str _ _]) _ _ _); with_reducible (k_dflt (refine' r_len ?zhl ?_; (case zhl => first | assumption | lia | (simp only [List.length_append, List.length_cons, List.length_nil, List.length_take, List.length_drop, List.length_replicate]; lia)); k_whole); intro _ _)) | (k_here; (with_reducible show wpAny _ _ (call (Value.ref 296) (_ :: _)) _ _ _); with_reducible (k_dflt (refine' use (c_draw _ _ _ _ _ _ _ _ _ _ _ ?zp1 ?zp2 ?zp3 ?zp4 ?zp5 ?zp6) ?zk1 ?zk2 ?zk3 ?zk4 ?zk5 ?zk6 ?zk7 ?zk8 ?_; (case zk1 => k_asm); (case zk2 => k_asm); (case zk3 => k_asm); (case zk4 => first | k_asm | exact news_rot (by k_asm)); (case zk5 => k_asm); (case zk6 => first | exact rfl | assumption); (case zk7 => ktr_room); (case zk8 => ktr_units); (case zp1 => assumption); (case zp2 => first | assumption | decide | lia); (case zp3 => assumption); (case zp4 => first | assumption | decide | lia); (case zp5 => assumption); (case zp6 => repeat' (first | assumption | exact fr0 (by assumption) | refine' fr1 (by first | assumption | exact And.left (by assumption) | exact And.left (And.right (by assumption)) | exact And.left (And.right (And.right (by assumption))) | exact And.left (And.right (And.right (And.right (by assumption)))) | exact And.left (And.right (And.right (And.right (And.right (by assumption))))) | exact And.left (And.right (And.right (And.right (And.right (And.right (by assumption))))))) ?_)); k_whole); intro r9 h9 tk9 n9 F9 N9 p9; k_dflt (obtain ⟨v9, ta9, k9, tb9, st9, tc9, e8, b9, c9, d9, e9⟩ := p9; subst e9; subst e8); (try dsimp only); (try k_sweep); (try k_fold))) | (k_here; (with_reducible show wpAny _ _ (call (Value.builtin "len") (_ :: _)) _ _ _); with_reducible (k_dflt (refine' r_len ?zhl ?_; (case zhl => first | assumption | lia); k_whole); intro _ _)) | (k_here; (with_reducible show wpAny _ _ (call (Value.builtin "abs") (_ :: _)) _ _ _); with_reducible ((refine call_iabs ?_); intro _ _))) | ((with_reducible show wpAny _ _ (binaryOp _ _ _) _ _ _); first | (k_here; (with_reducible show wpAny _ _ (binaryOp Operator.Mult (Value.int _ _) (Value.int _ _)) _ _ _); (with_reducible show wpAny _ _ (binaryOp _ (Value.int _ _) (Value.int (10 ^ (iabs _).toNat) _)) _ _ _); with_reducible (k_dflt (refine' r_mulw ?zh0 ?zh1 ?zh2 ?_; (case zh0 => assumption); (case zh1 => lia); (case zh2 => lia); k_whole); intro _ _)) | (k_here; (with_reducible show wpAny _ _ (binaryOp Operator.Pow (Value.int _ _) (Value.int _ _)) _ _ _); (with_reducible show wpAny _ _ (binaryOp _ (Value.int 10 _) (Value.int (iabs _) _)) _ _ _); with_reducible (k_dflt (refine' r_pow10 ?zh1 ?zh2 ?_; (case zh1 => lia); (case zh2 => lia); k_whole); intro _ _)) | (k_here; (with_reducible show wpAny _ _ (binaryOp Operator.Mult (Value.str _ _) (Value.int _ _)) _ _ _); with_reducible (k_dflt (refine' r_mulz ?zh1 ?zh2 ?_; (case zh1 => lia); (case zh2 => lia); k_whole); intro _ _)) | (k_here; (with_reducible show wpAny _ _ (binaryOp Operator.Add (Value.str _ _) (Value.str _ _)) _ _ _); with_reducible (k_dflt (refine' r_add2 ?zhx ?zhy ?zhl ?_; (case zhx => first | with_reducible exact rfl | with_reducible exact lit_dot | with_reducible exact lit_em | with_reducible exact lit_e0 | with_reducible exact lit_e | with_reducible exact lit_Sm); (case zhy => first | with_reducible exact rfl | with_reducible exact lit_dot | with_reducible exact lit_em | with_reducible exact lit_e0 | with_reducible exact lit_e | with_reducible exact lit_Sm); (case zhl => first | assumption | lia | (simp only [List.length_append, List.length_cons, List.length_nil, List.length_take, List.length_drop, List.length_replicate]; lia)); k_whole); intro _ _)) | (k_here; (with_reducible show wpAny _ _ (binaryOp Operator.FloorDiv (Value.int _ _) (Value.int _ _)) _ _ _); with_reducible (k_dflt (refine' floordiv_int ?zhb ?_ (Or.inl ?zhp); (case zhb => first | assumption | lia); (case zhp => first | assumption | exact PyProof.noPylong_of_log2 (by first | assumption | lia)); k_whole)))) | ((with_reducible show wpAny _ _ (subscriptTail _ _ _ _) _ _ _); first | (k_here; (with_reducible show wpAny _ _ (subscriptTail _ (Expr.Slice _ _ _ _) (Value.str _ _) _) _ _ _); (with_reducible show wpAny _ _ (subscriptTail _ (Expr.Slice (some _) none none _) _ _) _ _ _); with_reducible (k_dflt (refine' rs_sn (s := ⟨_, _, _, _, _⟩) (slice_from _ ?zh0 ?zh1) ?zF ?zN ?_ ?zhl ?zhs ?zht; (case zh0 => first | assumption | lia | (simp only [List.length_append, List.length_cons, List.length_nil, List.length_take, List.length_drop, List.length_replicate]; lia)); (case zh1 => first | assumption | lia | (simp only [List.length_append, List.length_cons, List.length_nil, List.length_take, List.length_drop, List.length_replicate]; lia)); (case zF => k_asm); (case zN => k_asm); (case zhl => first | assumption | lia | (simp only [List.length_append, List.length_cons, List.length_nil, List.length_take, List.length_drop, List.length_replicate]; lia)); (case zhs => with_unfolding_all rfl); (case zht => intro _; with_unfolding_all rfl); k_whole); intro _ _ _ _ _; (try k_sweep))) | (k_here; (with_reducible show wpAny _ _ (subscriptTail _ (Expr.Slice _ _ _ _) (Value.str _ _) _) _ _ _); (with_reducible show wpAny _ _ (subscriptTail _ (Expr.Slice none (some _) none _) _ _) _ _ _); with_reducible (k_dflt (refine' rs_ns (s := ⟨_, _, _, _, _⟩) (slice_to _ ?zh0 ?zh1) ?zF ?zN ?_ ?zhl ?zhs ?zht; (case zh0 => first | assumption | lia | (simp only [List.length_append, List.length_cons, List.length_nil, List.length_take, List.length_drop, List.length_replicate]; lia)); (case zh1 => first | assumption | lia | (simp only [List.length_append, List.length_cons, List.length_nil, List.length_take, List.length_drop, List.length_replicate]; lia)); (case zF => k_asm); (case zN => k_asm); (case zhl => first | assumption | lia | (simp only [List.length_append, List.length_cons, List.length_nil, List.length_take, List.length_drop, List.length_replicate]; lia)); (case zhs => with_unfolding_all rfl); (case zht => intro _; with_unfolding_all rfl); k_whole); intro _ _ _ _ _; (try k_sweep))) | (k_here; (with_reducible show wpAny _ _ (subscriptTail _ (Expr.Slice _ _ _ _) (Value.str _ _) _) _ _ _); (with_reducible show wpAny _ _ (subscriptTail _ (Expr.Slice (some _) none none _) _ _) _ _ _); with_reducible (k_dflt (refine' rs_sn (s := ⟨_, _, _, _, _⟩) ?zhx ?zF ?zN ?_ ?zhl ?zhs ?zht; (case zhx => first | assumption | exact slice_one _ _ | exact slice_tail _ _ | exact slice_nil_to (by decide) | exact slice_nil_from (by decide)); (case zF => k_asm); (case zN => k_asm); (case zhl => first | assumption | lia | (simp only [List.length_cons, List.length_append, List.length_nil] at *; lia)); (case zhs => with_unfolding_all rfl); (case zht => intro _; with_unfolding_all rfl); k_whole); intro _ _ _ _ _; (try k_sweep))) | (k_here; (with_reducible show wpAny _ _ (subscriptTail _ (Expr.Slice _ _ _ _) (Value.str _ _) _) _ _ _); (with_reducible show wpAny _ _ (subscriptTail _ (Expr.Slice none (some _) none _) _ _) _ _ _); with_reducible (k_dflt (refine' rs_ns (s := ⟨_, _, _, _, _⟩) ?zhx ?zF ?zN ?_ ?zhl ?zhs ?zht; (case zhx => first | assumption | exact slice_one _ _ | exact slice_tail _ _ | exact slice_nil_to (by decide) | exact slice_nil_from (by decide)); (case zF => k_asm); (case zN => k_asm); (case zhl => first | assumption | lia | (simp only [List.length_cons, List.length_append, List.length_nil] at *; lia)); (case zhs => with_unfolding_all rfl); (case zht => intro _; with_unfolding_all rfl); k_whole); intro _ _ _ _ _; (try k_sweep)))) | walk1 | (dsimp only; first | (with_reducible show wpAny _ _ (eval (Expr.IfExp _ _ _ _) _) _ _ _) | (with_reducible show wpAny _ _ (exec (Stmt.If _ _ _ _) _) _ _ _) | (with_reducible show wpAny _ _ (call _ (_ :: _)) _ _ _) | (with_reducible show wpAny _ _ (binaryOp _ _ _) _ _ _) | (with_reducible show wpAny _ _ (subscriptTail _ _ _ _) _ _ _) | walk1) | (leave1; walk_say "STEP leave1"; try dsimp only) | fail "no step")
  all_goals (try dsimp only)
  all_goals first
    | (refine' end_dec hret ?F ?N ?i1 ?i2 ?i3 ?hs ?h1 ?hk ?hD; (case F => k_asm); (case N => k_asm); (case i1 => k_mem); (case i2 => k_mem); (case i3 => k_mem); (case hs => (intro p hp; repeat' (first | exact hp | apply List.mem_cons_of_mem))); (case h1 => assumption); (case hk => lia); (case hD => first | assumption | exact And.left (by assumption) | exact And.left (And.right (by assumption)) | exact And.left (And.right (And.right (by assumption))) | exact And.left (And.right (And.right (And.right (by assumption)))) | exact And.left (And.right (And.right (And.right (And.right (by assumption))))) | exact And.left (And.right (And.right (And.right (And.right (And.right (by assumption))))))))
    | ((rename Fr _ _ _ _ => lF'); (rename News _ _ _ _ => lN'); refine' pad_end lF' lN' ?hs (by with_unfolding_all rfl) ?hu ?hz; (case hs => (intro p hp; repeat' (first | exact hp | apply List.mem_cons_of_mem))); (case hu => first | (unfold padOf; rw [if_pos (by assumption)]) | (unfold padOf; rw [if_neg (by assumption)])); (case hz => (intro z hz; simp only [hz, if_false])))
    | ((rename Fr _ _ _ _ => lF'); (rename News _ _ _ _ => lN'); refine' mk_end lF' lN' (by k_mem) ?hs ?l ?hv; (case hs => (intro p hp; repeat' (first | exact hp | apply List.mem_cons_of_mem))); (case l => (simp only [AllLt, and_true]; assumption)); (case hv => first | exact vmx_p (by assumption) _ _ _ | exact vmx_n (by assumption) _ _ _))
end
def PDeck (r : Value) (n' : List (Addr × Obj)) : Prop := ∃ D C es ns st t1 t2, r = .ref D ∧ IntsAre es ns ∧ ns.length ≤ 1000 ∧ (@Ne Nat D C) ∧ n' = (D, deckO C 0 t1 st t2) :: (C, W.listOf es.toArray es.length) :: []
def keepNeg (l : List Int) (k : Int) : List Int := if k < 0 then l ++ [k] else l
theorem keepNeg_grows : KPfGrows keepNeg := by intro l k; unfold keepNeg; split <;> simp
theorem keep_len : ∀ (l a : List Int), (l.foldl keepNeg a).length ≤ a.length + l.length
  | [], _ => Nat.le_refl _
  | k :: l, a => by
    have h1 := keep_len l (keepNeg a k)
    have h2 := keepNeg_grows a k
    simp only [List.foldl_cons, List.length_cons]; lia
theorem deck_len {prog : Program} {w : World} {A : Around} {E : Value → Shared → Prop} {s : Shared} {h₀ : Heap} {L : Addr} {news : List (Addr × Obj)} {l : Addr} {ys : List Value} {ns : List Int} {k : Nat} {Q : Value → Shared → Prop}
    (N : News h₀ L s.heap news) (hm : (l, LCg.lst ys) ∈ news) (hi : IntsAre ys (List.foldl keepNeg [] (List.take k ns))) (hl : ¬ 63 < ns.length) (h : ∀ (n : Nat) t tk, n ≤ 63 → Q (.int n t) { s with toks := tk }) :
    wpAny (model prog w) A (call (.builtin "len") [.ref l]) Q E s := by
  have h1 := keep_len (List.take k ns) []
  have h2 := hi.length
  simp only [List.length_nil, List.length_take] at h1
  have h3 : ys.length ≤ 63 := by lia
  refine PyProof.Rows.len_list (News.isList N hm) ?_ ?_
  · simp only [List.size_toArray]; lia
  · simp only [List.size_toArray]; exact h _ _ _ h3
theorem iabs_len {ns : List Int} {k : Nat} (hl : ¬ 63 < ns.length) : (List.map (fun k' => iabs k') (List.take k ns)).length ≤ 1000 := by rw [List.length_map, List.length_take]; lia
theorem end_deck {h₀ h' : Heap} {L : Addr} {m : PySem.Str → Option Value} {s : Shared} {Q : Value → Shared → Prop} {D C : Addr} {es : List Value} {ns : List Int} {news' : List (Addr × Obj)} {st : Int} {t1 t2 : Tok} {tk' : Nat} (hret : Ret h₀ L m s Q PDeck) (F : Fr h₀ L h' m)
    (N : News h₀ L h' news') (i1 : (D, deckO C 0 t1 st t2) ∈ news') (i2 : (C, LCg.lst es) ∈ news') (hi : IntsAre es ns) (hl : ns.length ≤ 1000) (hD : @LT.lt Nat _ C D) : Q (.ref D) { s with heap := h', toks := tk' } := by
  refine hret _ _ _ ((D, deckO C 0 t1 st t2) :: (C, W.listOf es.toArray es.length) :: []) F (news_sub N ?_) ⟨D, C, es, ns, st, t1, t2, rfl, hi, hl, Nat.ne_of_gt hD, rfl⟩
  intro p hp
  rcases List.mem_cons.mp hp with rfl | hp
  · exact i1
  rcases List.mem_cons.mp hp with rfl | hp
  · exact i2
  cases hp
section
local macro_rules | `(tactic| walk_at "eval ListComp") => `(tactic| (k_here; lct_look; lcg_calm; k_dflt (refine LCt.ListComp_T (F₀ := by k_asm) (by with_unfolding_all rfl) (by decide) (by rfl) (by decide) (by rfl) ?_)))
local macro_rules | `(tactic| walk_at "CompSrcT") => `(tactic| (k_here; k_dflt (refine LCt.CompSrcT.ledger (by rfl) (by k_asm) (by k_asm) (by k_mem) (by kcf_size) ?_; intro g'; (refine' kci_list keepNeg (by assumption) (fun k' t' I' oI' C' oC' D' m' ys' l' h' tk' E' hk' hI' hC' hx' F' N' off' ne' hMark' => ?_) ?_ keepNeg_grows); (all_goals (try (simp only [LCg.Off3, and_true] at off'))); kcf_last)))
local macro_rules | `(tactic| walk_at "KCiEl") => `(tactic| (k_here; (refine kci_el (by unfold keepNeg; simp [*]) (by with_unfolding_all rfl) (by with_unfolding_all rfl))))
local macro_rules | `(tactic| walk_at "KCiNo") => `(tactic| (k_here; (refine kci_no (by unfold keepNeg; simp [*]) (by with_unfolding_all rfl))))
theorem c_deck (l : Addr) (vs0 : List Value) (ns0 : List Int) (t30 : Tok) (hi : IntsAre vs0 ns0) (hlen : ¬ 63 < ns0.length) :
  ∀ (w : World) (mean : ExcName → Option Value) (mg mb : PySem.Str → Option Value) (dp un : Nat) (gd : Option (List Code)) (cn : PySem.Str) (cs : Scope) (a : Addr) (ccd : Value) (cl : List (PySem.Str × Addr)) (outer : List Env) (A₀ : Around) (base h₀ : Heap) (L : Addr) (m : PySem.Str → Option Value) (s : Shared) (Q E : Value → Shared → Prop),
    h₀.IsList l vs0.toArray → Below A₀ base outer h₀ → Fr h₀ L s.heap m → (Mine.kh.heap_1_39 w.params).In h₀ → News h₀ L s.heap [] → MyTop mean mg mb h₀ → cs.kind = .function →
    dp + 60 < recursionLimit → un + 600 < cLine → Ret h₀ L m s Q PDeck →
      wpAny (model PySem.Challenge.rw_nt0169_01.row.prog w) (ktrTop dp un gd cn cs L a ccd cl outer) (call (.ref 308) [.ref l, .int 30 t30]) Q E s := by
  intro w mean mg mb dp un gd cn cs a ccd cl outer A₀ base h₀ L m s Q E hl B F X N T hk hd hu hret
  (refine wpAny_call ?_; k_dflt cell_enter)
  (rename Fr h₀ L _ m => FG9)
  replace hl := hl.at fun o e => FG9.keep l o e
  repeat' (first | (k_unfold; (try dsimp only)) | (k_end; wrow_close) | ((with_reducible show wpAny _ _ (call _ (_ :: _)) _ _ _); first | (k_here; (with_reducible show wpAny _ _ (call (Value.builtin "len") (_ :: _)) _ _ _); (with_reducible show wpAny _ _ (call (Value.builtin _) [Value.ref _]) _ _ _); with_reducible (k_dflt (refine' deck_len ?zN ?zhm ?zhi ?zhl ?_; (case zN => k_asm); (case zhm => k_mem); (case zhi => assumption); (case zhl => assumption); k_whole); intro n8 t8 tk8 hn8)) | (k_here; (with_reducible show wpAny _ _ (call (Value.builtin "abs") (_ :: _)) _ _ _); with_reducible ((refine call_iabs ?_); intro _ _))) | walk1 | (dsimp only; first | (with_reducible show wpAny _ _ (call _ (_ :: _)) _ _ _) | walk1) | (leave1; walk_say "STEP leave1"; try dsimp only) | fail "no step")
  all_goals (refine' end_deck hret ?F ?N ?i1 ?i2 ?hi ?hl ?hD; (case F => k_asm); (case N => k_asm); (case i1 => k_mem); (case i2 => k_mem); (case hi => assumption); (case hl => exact iabs_len hlen); (case hD => first | assumption | exact And.left (by assumption) | exact And.left (And.right (by assumption)) | exact And.left (And.right (And.right (by assumption))) | exact And.left (And.right (And.right (And.right (by assumption)))) | exact And.left (And.right (And.right (And.right (And.right (by assumption))))) | exact And.left (And.right (And.right (And.right (And.right (And.right (by assumption))))))))
end

theorem pow2_pos (n : Nat) : (0 : Int) < 2 ^ n := by
  have := Nat.pow_pos (n := n) (show 0 < 2 by decide)
  exact_mod_cast this
theorem bits_iff {m : Nat} {x : Int} : Builtin.Int.intBits x ≤ m ↔ x.natAbs < 2 ^ m := intBits_le_iff
theorem bits_bd {x : Int} (h : 0 < x) : 0 < Builtin.Int.intBits x ∧ (2 : Int) ^ (Builtin.Int.intBits x - 1) ≤ x ∧ x < 2 ^ Builtin.Int.intBits x := by
  have h1 : Builtin.Int.intBits x ≤ Builtin.Int.intBits x := Nat.le_refl _
  rw [bits_iff] at h1
  have h0 : 0 < Builtin.Int.intBits x := by
    refine Nat.pos_of_ne_zero fun e => ?_
    rw [e] at h1; lia
  have h2 : ¬ Builtin.Int.intBits x ≤ Builtin.Int.intBits x - 1 := by lia
  rw [bits_iff] at h2
  refine ⟨h0, ?_, ?_⟩
  · have : ((2 ^ (Builtin.Int.intBits x - 1) : Nat) : Int) ≤ ((x.natAbs : Nat) : Int) := Int.ofNat_le.mpr (by lia)
    rw [Int.natAbs_of_nonneg (by lia), Int.natCast_pow] at this
    exact this
  · have : ((x.natAbs : Nat) : Int) < ((2 ^ Builtin.Int.intBits x : Nat) : Int) := Int.ofNat_lt.mpr h1
    rw [Int.natAbs_of_nonneg (by lia), Int.natCast_pow] at this
    exact this
theorem bits_eq {x : Int} {k : Nat} (h1 : (2 : Int) ^ k ≤ x) (h2 : x < 2 ^ (k + 1)) : Builtin.Int.intBits x = k + 1 := by
  have hp := pow2_pos k
  have h3 : Builtin.Int.intBits x ≤ k + 1 := bits_iff.mpr (by
    have : ((x.natAbs : Nat) : Int) < ((2 ^ (k + 1) : Nat) : Int) := by rw [Int.natAbs_of_nonneg (by lia), Int.natCast_pow]; exact h2
    exact Int.ofNat_lt.mp this)
  have h4 : ¬ Builtin.Int.intBits x ≤ k := fun h => by
    have := bits_iff.mp h
    have : ((x.natAbs : Nat) : Int) < ((2 ^ k : Nat) : Int) := Int.ofNat_lt.mpr this
    rw [Int.natAbs_of_nonneg (by lia), Int.natCast_pow] at this
    have h1' : ((2 : Nat) : Int) ^ k ≤ x := h1
    lia
  lia
theorem iabs_pos {x : Int} (h : x ≠ 0) : 0 < iabs x := by unfold iabs; split <;> lia
theorem iabs_iabs (x : Int) : iabs (iabs x) = iabs x := by unfold iabs; split <;> (try split) <;> lia
theorem iabs_of {x : Int} (h : 0 ≤ x) : iabs x = x := by unfold iabs; split <;> lia
theorem iabs_neg (x : Int) : iabs (-x) = iabs x := by unfold iabs; split <;> split <;> lia
theorem odd_part (n : Nat) (h : 0 < n) : ∃ t a : Nat, n = 2 ^ t * (2 * a + 1) := by
  induction n using Nat.strongRecOn with
  | _ n ih =>
    by_cases h2 : n % 2 = 1
    · exact ⟨0, n / 2, by rw [Nat.pow_zero, Nat.one_mul]; lia⟩
    · obtain ⟨t, a, e⟩ := ih (n / 2) (by lia) (by lia)
      exact ⟨t + 1, a, by rw [Nat.pow_succ, Nat.mul_comm (2 ^ t) 2, Nat.mul_assoc, ← e]; lia⟩
/-- what lean does with a number that is two to the t times an odd one -/
theorem tz_eq (t : Nat) (a : Int) : tz (2 ^ t * (2 * a + 1)) = t := by
  unfold tz
  have h : (0 : Int) - 2 ^ t * (2 * a + 1) = -(2 ^ t * (2 * a + 1)) := by lia
  rw [h, kbt_low]
  rw [bits_eq (k := t) (Int.le_refl _) (by rw [Int.pow_succ]; have := pow2_pos t; lia)]
  lia
theorem lean_eq (t : Nat) (a e : Int) : leanM (2 ^ t * (2 * a + 1)) = 2 * a + 1 ∧ leanE (2 ^ t * (2 * a + 1)) e = e + t := by
  have hp := pow2_pos t
  have h0 : (2 : Int) ^ t * (2 * a + 1) ≠ 0 := by
    intro h
    rcases Int.mul_eq_zero.mp h with h | h <;> lia
  unfold leanM leanE
  rw [if_neg h0, if_neg h0, tz_eq]
  refine ⟨?_, rfl⟩
  rw [Int.toNat_natCast, Int.mul_fdiv_cancel_left _ (by lia)]
/-- near, as a quotient and a rest -/
theorem near_eq (n : Int) (g : Nat) (h0 : 0 ≤ n) : near n (g + 1 : Nat) = if 2 ^ g < n % 2 ^ (g + 1) ∨ (n % 2 ^ (g + 1) = 2 ^ g ∧ n / 2 ^ (g + 1) % 2 = 1) then n / 2 ^ (g + 1) + 1 else n / 2 ^ (g + 1) := by
  unfold near
  have e1 : ((g + 1 : Nat) : Int).toNat = g + 1 := Int.toNat_natCast _
  have e2 : (((g + 1 : Nat) : Int) - 1).toNat = g := by lia
  rw [e1, e2, Int.one_mul, Int.one_mul, kbt_mask, bitAnd_m1, Int.fdiv_eq_ediv_of_nonneg _ (by have := pow2_pos (g + 1); lia)]
theorem near_bd {n : Int} {g : Nat} (h0 : 0 ≤ n) : (2 * near n (g + 1 : Nat) - 1) * 2 ^ g ≤ n ∧ n ≤ (2 * near n (g + 1 : Nat) + 1) * 2 ^ g ∧ (near n (g + 1 : Nat) % 2 = 1 → (2 * near n (g + 1 : Nat) - 1) * 2 ^ g < n ∧ n < (2 * near n (g + 1 : Nat) + 1) * 2 ^ g) := by
  rw [near_eq n g h0]
  have hp := pow2_pos g
  have h1 := Int.mul_ediv_add_emod n (2 ^ (g + 1))
  have h2 := Int.emod_lt_of_pos n (pow2_pos (g + 1))
  have h3 := Int.emod_nonneg n (show (2 : Int) ^ (g + 1) ≠ 0 by have := pow2_pos (g + 1); lia)
  generalize n / 2 ^ (g + 1) = q at *
  generalize n % 2 ^ (g + 1) = r at *
  rw [Int.pow_succ] at h1 h2
  generalize (2 : Int) ^ g = P at *
  have e1 : P * 2 * q = 2 * (q * P) := by rw [Int.mul_comm P 2, Int.mul_assoc, Int.mul_comm P q]
  rw [e1] at h1
  have e2 : ∀ c d : Int, (2 * c + d) * P = 2 * (c * P) + d * P := fun c d => by rw [Int.add_mul, Int.mul_assoc]
  have e3 : (q + 1) * P = q * P + P := by rw [Int.add_mul, Int.one_mul]
  have e4 := e2 q (-1)
  have e5 := e2 q 1
  have e6 := e2 (q + 1) (-1)
  have e7 := e2 (q + 1) 1
  rw [Int.one_mul] at e5 e7
  have e8 : (-1 : Int) * P = -P := by lia
  rw [e8] at e4 e6
  rw [e3] at e6 e7
  split
  · next h =>
    rw [Int.sub_eq_add_neg, e6, e7]
    refine ⟨by lia, by lia, fun ho => ?_⟩
    have : P < r := by
      rcases h with h | h
      · exact h
      · lia
    lia
  · next h =>
    rw [Int.sub_eq_add_neg, e4, e5]
    refine ⟨by lia, by lia, fun ho => ?_⟩
    have : ¬ P < r ∧ ¬ (r = P) := ⟨fun hh => h (.inl hh), fun hh => h (.inr ⟨hh, ho⟩)⟩
    lia
/-- the sticky quotient: two q and one more where something is left -/
theorem sticky_bd {a b : Int} (ha : 0 ≤ a) (hb : 0 < b) : ∃ n, sticky (a.fdiv b) (a.fmod b != 0) = n ∧ 0 ≤ n ∧
    ((n * b = 2 * a ∧ n % 2 = 0) ∨ ((n - 1) * b < 2 * a ∧ 2 * a < (n + 1) * b ∧ n % 2 = 1)) := by
  have h1 := Int.mul_ediv_add_emod a b
  have h2 := Int.emod_lt_of_pos a hb
  have h3 := Int.emod_nonneg a (show b ≠ 0 by lia)
  have h4 := Int.ediv_nonneg ha (show 0 ≤ b by lia)
  rw [Int.fdiv_eq_ediv_of_nonneg _ (show 0 ≤ b by lia), Int.fmod_eq_emod_of_nonneg _ (show 0 ≤ b by lia)]
  generalize a / b = q at *
  generalize a % b = r at *
  have e : b * q = q * b := Int.mul_comm _ _
  rw [e] at h1
  by_cases hr : r = 0
  · subst hr
    refine ⟨_, rfl, ?_, .inl ⟨?_, ?_⟩⟩
    · unfold sticky; simp; lia
    · unfold sticky; simp only [bne_self_eq_false, Bool.false_eq_true, if_false, Int.add_zero]; rw [Int.mul_assoc]; lia
    · unfold sticky; simp
  · have hb2 : (r != 0) = true := by simpa using hr
    refine ⟨_, rfl, ?_, .inr ⟨?_, ?_, ?_⟩⟩
    · unfold sticky; rw [hb2]; simp; lia
    · unfold sticky; rw [hb2]
      have : (2 * q + (if true = true then 1 else 0) - 1) * b = 2 * (q * b) := by simp only [if_true]; rw [show 2 * q + 1 - 1 = 2 * q by lia, Int.mul_assoc]
      rw [this]; lia
    · unfold sticky; rw [hb2]
      have : (2 * q + (if true = true then 1 else 0) + 1) * b = 2 * (q * b) + 2 * b := by simp only [if_true]; rw [show 2 * q + 1 + 1 = 2 * q + 2 by lia, Int.add_mul, Int.mul_assoc]
      rw [this]; lia
    · unfold sticky; rw [hb2]; simp only [if_true]; lia
/-- an even wall m * 2 on one side of n is on the same side of the exact value -/
theorem wall_le {a b n m : Int} (hb : 0 < b) (h : (n * b = 2 * a ∧ n % 2 = 0) ∨ ((n - 1) * b < 2 * a ∧ 2 * a < (n + 1) * b ∧ n % 2 = 1)) (hm : m % 2 = 0) (hn : m ≤ n) : m * b ≤ 2 * a := by
  rcases h with ⟨h, _⟩ | ⟨h1, _, h3⟩
  · rw [← h]; exact Int.mul_le_mul_of_nonneg_right hn (by lia)
  · have := Int.mul_le_mul_of_nonneg_right (show m ≤ n - 1 by lia) (show 0 ≤ b by lia); lia
theorem le_wall {a b n m : Int} (hb : 0 < b) (h : (n * b = 2 * a ∧ n % 2 = 0) ∨ ((n - 1) * b < 2 * a ∧ 2 * a < (n + 1) * b ∧ n % 2 = 1)) (hm : m % 2 = 0) (hn : n ≤ m) : 2 * a ≤ m * b := by
  rcases h with ⟨h, _⟩ | ⟨_, h2, h3⟩
  · rw [← h]; exact Int.mul_le_mul_of_nonneg_right hn (by lia)
  · have := Int.mul_le_mul_of_nonneg_right (show n + 1 ≤ m by lia) (show 0 ≤ b by lia); lia
theorem wall_lt {a b n m : Int} (hb : 0 < b) (h : (n * b = 2 * a ∧ n % 2 = 0) ∨ ((n - 1) * b < 2 * a ∧ 2 * a < (n + 1) * b ∧ n % 2 = 1)) (hm : m % 2 = 0) (hn : m < n) : m * b < 2 * a := by
  rcases h with ⟨h, _⟩ | ⟨h1, _, h3⟩
  · rw [← h]; exact Int.mul_lt_mul_of_pos_right hn hb
  · have := Int.mul_le_mul_of_nonneg_right (show m ≤ n - 1 by lia) (show 0 ≤ b by lia); lia
theorem lt_wall {a b n m : Int} (hb : 0 < b) (h : (n * b = 2 * a ∧ n % 2 = 0) ∨ ((n - 1) * b < 2 * a ∧ 2 * a < (n + 1) * b ∧ n % 2 = 1)) (hm : m % 2 = 0) (hn : n < m) : 2 * a < m * b := by
  rcases h with ⟨h, _⟩ | ⟨_, h2, h3⟩
  · rw [← h]; exact Int.mul_lt_mul_of_pos_right hn hb
  · have := Int.mul_le_mul_of_nonneg_right (show n + 1 ≤ m by lia) (show 0 ≤ b by lia); lia
/-- equal ratios compare alike -/
theorem ratio_le {a b c d k : Int} (hb : 0 < b) (hd : 0 < d) (e : a * d = b * c) (h : k * a ≤ 4 * b) : k * c ≤ 4 * d := by
  have h1 := Int.mul_le_mul_of_nonneg_right h (show 0 ≤ d by lia)
  have e1 : k * a * d = b * (k * c) := by rw [Int.mul_assoc, e, ← Int.mul_assoc, Int.mul_comm k b, Int.mul_assoc]
  have e2 : 4 * b * d = b * (4 * d) := by rw [Int.mul_comm 4 b, Int.mul_assoc]
  rw [e1, e2] at h1
  exact Int.le_of_mul_le_mul_left h1 hb
theorem ratio_ge {a b c d k : Int} (hb : 0 < b) (hd : 0 < d) (e : a * d = b * c) (h : 4 * b ≤ k * a) : 4 * d ≤ k * c := by
  have h1 := Int.mul_le_mul_of_nonneg_right h (show 0 ≤ d by lia)
  have e1 : k * a * d = b * (k * c) := by rw [Int.mul_assoc, e, ← Int.mul_assoc, Int.mul_comm k b, Int.mul_assoc]
  have e2 : 4 * b * d = b * (4 * d) := by rw [Int.mul_comm 4 b, Int.mul_assoc]
  rw [e1, e2] at h1
  exact Int.le_of_mul_le_mul_left h1 hb
theorem ratio_lt {a b c d k : Int} (hb : 0 < b) (hd : 0 < d) (e : a * d = b * c) (h : k * a < 4 * b) : k * c < 4 * d := by
  have h1 := Int.mul_lt_mul_of_pos_right h hd
  have e1 : k * a * d = b * (k * c) := by rw [Int.mul_assoc, e, ← Int.mul_assoc, Int.mul_comm k b, Int.mul_assoc]
  have e2 : 4 * b * d = b * (4 * d) := by rw [Int.mul_comm 4 b, Int.mul_assoc]
  rw [e1, e2] at h1
  exact Int.lt_of_mul_lt_mul_left h1 (by lia)
theorem ratio_gt {a b c d k : Int} (hb : 0 < b) (hd : 0 < d) (e : a * d = b * c) (h : 4 * b < k * a) : 4 * d < k * c := by
  have h1 := Int.mul_lt_mul_of_pos_right h hd
  have e1 : k * a * d = b * (k * c) := by rw [Int.mul_assoc, e, ← Int.mul_assoc, Int.mul_comm k b, Int.mul_assoc]
  have e2 : 4 * b * d = b * (4 * d) := by rw [Int.mul_comm 4 b, Int.mul_assoc]
  rw [e1, e2] at h1
  exact Int.lt_of_mul_lt_mul_left h1 (by lia)
theorem pw (a b : Nat) : (2 : Int) ^ (a + b) = 2 ^ a * 2 ^ b := by
  induction b with
  | zero => rw [Nat.add_zero, Int.pow_zero, Int.mul_one]
  | succ b ih => rw [← Nat.add_assoc, Int.pow_succ, ih, Int.pow_succ, Int.mul_assoc]
theorem pw_eq {a b c d : Nat} (h : a + b = c + d) : (2 : Int) ^ a * 2 ^ b = 2 ^ c * 2 ^ d := by rw [← pw, ← pw, h]
theorem setup {P : Nat} {x y : Int} (hx : x ≠ 0) (hy : 0 < y) {sh : Int} (hsh : sh = ((P + 1 : Nat) : Int) + 2 + bl y - bl x) :
    ∃ A B : Int, 0 < A ∧ 0 < B ∧ 2 ^ (P + 2) * B ≤ A ∧ A < 2 ^ (P + 4) * B ∧ rdN (P + 1 : Nat) x y = sgn x * sticky (A.fdiv B) (A.fmod B != 0) ∧
      ∀ (g : Nat) (h l E : Int), h * y = iabs x * l → E = g - sh → 2 ^ g * B * (h * 2 ^ (0 - E).toNat) = A * (l * 2 ^ E.toNat) := by
  obtain ⟨hb0, hb1, hb2⟩ := bits_bd (iabs_pos hx)
  obtain ⟨hc0, hc1, hc2⟩ := bits_bd hy
  have ey : bl y = (Builtin.Int.intBits y : Nat) := by unfold bl; rw [iabs_of (by lia)]
  have ex : bl x = (Builtin.Int.intBits (iabs x) : Nat) := rfl
  unfold rdN
  rw [← hsh]
  rw [ey, ex] at hsh
  have hX := iabs_pos hx
  generalize Builtin.Int.intBits (iabs x) = bx at *
  generalize Builtin.Int.intBits y = by' at *
  generalize iabs x = X at *
  have hpc : (2 : Int) ^ by' = 2 ^ (by' - 1) * 2 := by rw [← Int.pow_succ]; congr 1; lia
  have hpb : (2 : Int) ^ bx = 2 ^ (bx - 1) * 2 := by rw [← Int.pow_succ]; congr 1; lia
  by_cases hs : 0 ≤ sh
  · obtain ⟨S, hS⟩ : ∃ S : Nat, sh = S := ⟨sh.toNat, by lia⟩
    subst hS
    have pS := pow2_pos S
    rw [if_pos hs, Int.toNat_natCast]
    refine ⟨X * 2 ^ S, y, Int.mul_pos hX pS, hy, ?_, ?_, rfl, ?_⟩
    · have e : (2 : Int) ^ (P + 2) * 2 ^ by' = 2 ^ (bx - 1) * 2 ^ S := pw_eq (by lia)
      have h1 := Int.mul_le_mul_of_nonneg_left (show y ≤ 2 ^ by' by lia) (Int.le_of_lt (pow2_pos (P + 2)))
      have h2 := Int.mul_le_mul_of_nonneg_right hb1 (Int.le_of_lt pS)
      lia
    · have e : (2 : Int) ^ (P + 4) * 2 ^ (by' - 1) = 2 ^ bx * 2 ^ S := pw_eq (by lia)
      have h1 := Int.mul_le_mul_of_nonneg_left hc1 (Int.le_of_lt (pow2_pos (P + 4)))
      have h2 := Int.mul_lt_mul_of_pos_right hb2 pS
      lia
    · intro g h l E e1 e2
      have e : (2 : Int) ^ g * 2 ^ (0 - E).toNat = 2 ^ S * 2 ^ E.toNat := pw_eq (by lia)
      calc (2 : Int) ^ g * y * (h * 2 ^ (0 - E).toNat) = (h * y) * (2 ^ g * 2 ^ (0 - E).toNat) := by ac_rfl
        _ = (X * l) * (2 ^ S * 2 ^ E.toNat) := by rw [e1, e]
        _ = X * 2 ^ S * (l * 2 ^ E.toNat) := by ac_rfl
  · obtain ⟨S, hS⟩ : ∃ S : Nat, 0 - sh = S := ⟨(0 - sh).toNat, by lia⟩
    have pS := pow2_pos S
    rw [if_neg hs, hS, Int.toNat_natCast]
    refine ⟨X, y * 2 ^ S, hX, Int.mul_pos hy pS, ?_, ?_, rfl, ?_⟩
    · have e : (2 : Int) ^ (P + 2) * (2 ^ by' * 2 ^ S) = 2 ^ (bx - 1) := by rw [← pw, ← pw]; congr 1; lia
      have h1 := Int.mul_le_mul_of_nonneg_right (show y ≤ 2 ^ by' by lia) (Int.le_of_lt pS)
      have h2 := Int.mul_le_mul_of_nonneg_left h1 (Int.le_of_lt (pow2_pos (P + 2)))
      lia
    · have e : (2 : Int) ^ (P + 4) * (2 ^ (by' - 1) * 2 ^ S) = 2 ^ bx := by rw [← pw, ← pw]; congr 1; lia
      have h1 := Int.mul_le_mul_of_nonneg_right hc1 (Int.le_of_lt pS)
      have h2 := Int.mul_le_mul_of_nonneg_left h1 (Int.le_of_lt (pow2_pos (P + 4)))
      lia
    · intro g h l E e1 e2
      have e : (2 : Int) ^ g * 2 ^ S * 2 ^ (0 - E).toNat = 2 ^ E.toNat := by rw [← pw, ← pw]; congr 1; lia
      calc (2 : Int) ^ g * (y * 2 ^ S) * (h * 2 ^ (0 - E).toNat) = (h * y) * (2 ^ g * 2 ^ S * 2 ^ (0 - E).toNat) := by ac_rfl
        _ = (X * l) * 2 ^ E.toNat := by rw [e1, e]
        _ = X * (l * 2 ^ E.toNat) := by ac_rfl
/-- the rounded number, told by its kept figures k -/
theorem sgn_of {x : Int} (h : x ≠ 0) : sgn x = 1 ∧ 0 < x ∨ sgn x = -1 ∧ x < 0 := by
  unfold sgn b2i
  rcases Int.lt_or_gt_of_ne h with h | h
  · right; rw [decide_eq_false (by lia), decide_eq_true h]; exact ⟨rfl, h⟩
  · left; rw [decide_eq_true h, decide_eq_false (by lia)]; exact ⟨rfl, h⟩
theorem sgn_mul {x n : Int} (hx : x ≠ 0) (hn : 0 < n) : sgn (sgn x * n) = sgn x ∧ iabs (sgn x * n) = n := by
  rcases sgn_of hx with ⟨e, _⟩ | ⟨e, _⟩ <;> rw [e]
  · rw [Int.one_mul]
    exact ⟨by unfold sgn b2i; rw [decide_eq_true hn, decide_eq_false (by lia)]; rfl, iabs_of (by lia)⟩
  · have : (-1 : Int) * n = -n := by lia
    rw [this]
    exact ⟨by unfold sgn b2i; rw [decide_eq_false (by lia), decide_eq_true (show -n < 0 by lia)]; rfl, by rw [iabs_neg, iabs_of (by lia)]⟩
theorem round_at {P : Nat} {x y : Int} (hP : 1 ≤ P) (hx : x ≠ 0) (hy : 0 < y) :
    ∃ (k E : Int) (g t a : Nat) (A B : Int), 0 < A ∧ 0 < B ∧ k = 2 ^ t * (2 * (a : Int) + 1) ∧ 2 ^ P ≤ k ∧ k ≤ 2 ^ (P + 1) ∧
      rdM (P + 1 : Nat) x y = sgn x * (2 * (a : Int) + 1) ∧ rdE (P + 1 : Nat) x y = E + t ∧
      (2 * k - 1) * 2 ^ g * B ≤ 2 * A ∧ 2 * A ≤ (2 * k + 1) * 2 ^ g * B ∧ (k % 2 = 1 → (2 * k - 1) * 2 ^ g * B < 2 * A ∧ 2 * A < (2 * k + 1) * 2 ^ g * B) ∧
      2 ^ (P + 1) * 2 ^ g * B ≤ 2 * A ∧ 2 * A ≤ 2 ^ (P + 2) * 2 ^ g * B ∧
      (2 ≤ g ∧ g ≤ 3 ∧ E = g - (((P + 1 : Nat) : Int) + 2 + bl y - bl x)) ∧
      (∀ (h l : Int), h * y = iabs x * l → 2 ^ g * B * (h * 2 ^ (0 - E).toNat) = A * (l * 2 ^ E.toNat)) ∧
      (∀ (h l : Int), h * y = iabs x * l → 2 ^ (g + 1) * B * (h * 2 ^ (0 - (E + 1)).toNat) = A * (l * 2 ^ (E + 1).toNat)) ∧
      (bl (rdN (P + 1 : Nat) x y) - (P + 1 : Nat) = (g + 1 : Nat) ∧ sgn (rdN (P + 1 : Nat) x y) = sgn x ∧ near (iabs (rdN (P + 1 : Nat) x y)) (g + 1 : Nat) = k) := by
  obtain ⟨A, B, hA, hB, b1, b2, hN, hE⟩ := setup (P := P) hx hy rfl
  obtain ⟨n, hn, n0, hw⟩ := sticky_bd (Int.le_of_lt hA) hB
  rw [hn] at hN
  generalize hsh : ((P + 1 : Nat) : Int) + 2 + bl y - bl x = sh at *
  have q1 : (2 : Int) ^ (P + 3) = 2 ^ P * 8 := by rw [pw]; rfl
  have q2 : (2 : Int) ^ (P + 5) = 2 ^ P * 32 := by rw [pw]; rfl
  have q3 : (2 : Int) ^ (P + 2) = 2 ^ P * 4 := by rw [pw]; rfl
  have q4 : (2 : Int) ^ (P + 4) = 2 ^ P * 16 := by rw [pw]; rfl
  have q5 : (2 : Int) ^ (P + 1) = 2 ^ P * 2 := by rw [pw]; rfl
  have pP := pow2_pos P
  rw [q3, Int.mul_assoc] at b1
  rw [q4, Int.mul_assoc] at b2
  have n1 : 2 ^ (P + 3) ≤ n := by
    refine Int.not_lt.mp fun h => ?_
    have := lt_wall hB hw (by rw [q1]; lia) h
    rw [q1, Int.mul_assoc] at this
    have e : (2 : Int) ^ P * (8 * B) = 2 * (2 ^ P * (4 * B)) := by rw [show (8 : Int) * B = 2 * (4 * B) by lia]; ac_rfl
    lia
  have n2 : n < 2 ^ (P + 5) := by
    refine Int.not_le.mp fun h => ?_
    have := wall_le hB hw (by rw [q2]; lia) h
    rw [q2, Int.mul_assoc] at this
    have e : (2 : Int) ^ P * (32 * B) = 2 * (2 ^ P * (16 * B)) := by rw [show (32 : Int) * B = 2 * (16 * B) by lia]; ac_rfl
    lia
  have npos : 0 < n := by lia
  obtain ⟨g, hg2, hg3, hgb, hg4, hg5⟩ : ∃ g : Nat, 2 ≤ g ∧ g ≤ 3 ∧ Builtin.Int.intBits n = g + P + 2 ∧ 2 ^ P * (2 * 2 ^ g) ≤ n ∧ n < 2 ^ P * (4 * 2 ^ g) := by
    by_cases h : n < 2 ^ (P + 4)
    · exact ⟨2, by lia, by lia, by rw [bits_eq (k := P + 3) n1 h]; lia, by rw [show (2 : Int) * 2 ^ 2 = 8 from rfl]; lia, by rw [show (4 : Int) * 2 ^ 2 = 16 from rfl]; lia⟩
    · exact ⟨3, by lia, by lia, by rw [bits_eq (k := P + 4) (by lia) n2]; lia, by rw [show (2 : Int) * 2 ^ 3 = 16 from rfl]; lia, by rw [show (4 : Int) * 2 ^ 3 = 32 from rfl]; lia⟩
  obtain ⟨s1, s2⟩ := sgn_mul hx npos
  have hgone : bl (rdN (P + 1 : Nat) x y) - (P + 1 : Nat) = (g + 1 : Nat) := by
    rw [hN]; unfold bl; rw [s2, hgb]; lia
  obtain ⟨k1, k2, k3⟩ := near_bd (g := g) n0
  have pg := pow2_pos g
  generalize hk : near n (g + 1 : Nat) = k at *
  have ew : ∃ z : Int, (2 : Int) ^ g = 2 * z := by
    rcases (show g = 2 ∨ g = 3 by lia) with e | e <;> rw [e]
    · exact ⟨2, rfl⟩
    · exact ⟨4, rfl⟩
  obtain ⟨z, hz⟩ := ew
  have ev : ∀ c : Int, (c * 2 ^ g) % 2 = 0 := fun c => by rw [hz, show c * (2 * z) = 2 * (c * z) by ac_rfl]; lia
  have kl : 2 ^ P ≤ k := by
    refine Int.not_lt.mp fun h => ?_
    have h1 := Int.mul_le_mul_of_nonneg_right (show 2 * k + 1 ≤ 2 ^ P * 2 - 1 by lia) (Int.le_of_lt pg)
    rw [Int.sub_mul, Int.mul_assoc, Int.one_mul] at h1
    lia
  have kh : k ≤ 2 ^ (P + 1) := by
    refine Int.not_lt.mp fun h => ?_
    rw [q5] at h
    have h1 := Int.mul_le_mul_of_nonneg_right (show 2 ^ P * 4 + 1 ≤ 2 * k - 1 by lia) (Int.le_of_lt pg)
    rw [Int.add_mul, Int.mul_assoc, Int.one_mul] at h1
    lia
  obtain ⟨t, a, hka⟩ := odd_part k.toNat (by lia)
  have hka' : k = 2 ^ t * (2 * (a : Int) + 1) := by
    have : ((k.toNat : Nat) : Int) = ((2 ^ t * (2 * a + 1) : Nat) : Int) := by rw [hka]
    rw [Int.toNat_of_nonneg (by lia)] at this
    rw [this]; simp
  have hlean : ∀ e : Int, leanM (sgn x * k) = sgn x * (2 * (a : Int) + 1) ∧ leanE (sgn x * k) e = e + t := by
    intro e
    rcases sgn_of hx with ⟨h, _⟩ | ⟨h, _⟩ <;> rw [h, hka']
    · rw [Int.one_mul, Int.one_mul]; exact lean_eq t a e
    · have : (-1 : Int) * (2 ^ t * (2 * (a : Int) + 1)) = 2 ^ t * (2 * (-(a : Int) - 1) + 1) := by
        rw [show (2 * (-(a : Int) - 1) + 1) = -1 * (2 * (a : Int) + 1) by lia]; ac_rfl
      rw [this]
      obtain ⟨l1, l2⟩ := lean_eq t (-(a : Int) - 1) e
      exact ⟨by rw [l1]; lia, l2⟩
  refine ⟨k, g - sh, g, t, a, A, B, hA, hB, hka', kl, kh, ?_, ?_, ?_, ?_, ?_, ?_, ?_, ⟨hg2, hg3, rfl⟩, fun h l e => hE g h l _ e rfl, fun h l e => hE (g + 1) h l _ e (by lia), ⟨hgone, by rw [hN]; exact s1, by rw [hN, s2]; exact hk⟩⟩
  · unfold rdM shM
    rw [if_neg hx, hgone, if_neg (by lia), hN, s1, s2, hk]
    exact (hlean 0).1
  · unfold rdE shE
    rw [if_neg hx, hgone, if_neg (by lia), hN, s1, s2, hk, (hlean _).2]
    lia
  · exact wall_le hB hw (ev _) k1
  · exact le_wall hB hw (ev _) k2
  · intro ho
    exact ⟨wall_lt hB hw (ev _) (k3 ho).1, lt_wall hB hw (ev _) (k3 ho).2⟩
  · refine wall_le hB hw (ev _) ?_
    rw [q5, Int.mul_assoc]; exact hg4
  · refine le_wall hB hw (ev _) ?_
    rw [q3, Int.mul_assoc]; lia
theorem bits_odd {P t a : Nat} (h1 : (2 : Int) ^ P ≤ 2 ^ t * (2 * (a : Int) + 1)) (h2 : 2 ^ t * (2 * (a : Int) + 1) < (2 : Int) ^ (P + 1)) :
    t ≤ P ∧ Builtin.Int.intBits (2 * (a : Int) + 1) = P + 1 - t := by
  have pt := pow2_pos t
  have ht : t ≤ P := by
    refine Nat.not_lt.mp fun h => ?_
    have e : (2 : Int) ^ t = 2 ^ (P + 1) * 2 ^ (t - (P + 1)) := by rw [← pw]; congr 1; lia
    have h3 := Int.mul_le_mul_of_nonneg_left (show (1 : Int) ≤ 2 * (a : Int) + 1 by lia) (Int.le_of_lt pt)
    have h4 := Int.mul_le_mul_of_nonneg_left (show (1 : Int) ≤ 2 ^ (t - (P + 1)) by have := pow2_pos (t - (P + 1)); lia) (Int.le_of_lt (pow2_pos (P + 1)))
    lia
  refine ⟨ht, ?_⟩
  have e1 : (2 : Int) ^ P = 2 ^ t * 2 ^ (P - t) := by rw [← pw]; congr 1; lia
  have e2 : (2 : Int) ^ (P + 1) = 2 ^ t * 2 ^ (P - t + 1) := by rw [← pw]; congr 1; lia
  rw [e1] at h1; rw [e2] at h2
  rw [bits_eq (k := P - t) (Int.le_of_mul_le_mul_left h1 pt) (Int.lt_of_mul_lt_mul_left h2 (Int.le_of_lt pt))]
  lia
theorem odd_top {P t a : Nat} (h : 2 ^ t * (2 * (a : Int) + 1) = (2 : Int) ^ (P + 1)) : t = P + 1 ∧ a = 0 := by
  have pt := pow2_pos t
  rcases Nat.lt_trichotomy t (P + 1) with h1 | h1 | h1
  · have e : (2 : Int) ^ (P + 1) = 2 ^ t * (2 ^ (P - t) * 2) := by rw [← Int.pow_succ, ← pw]; congr 1; lia
    rw [e] at h
    have := Int.eq_of_mul_eq_mul_left (by lia) h
    lia
  · subst h1
    refine ⟨rfl, ?_⟩
    have h' : (2 : Int) ^ (P + 1) * (2 * (a : Int) + 1) = 2 ^ (P + 1) * 1 := by rw [h, Int.mul_one]
    have := Int.eq_of_mul_eq_mul_left (by lia) h'
    lia
  · have e : (2 : Int) ^ t = 2 ^ (P + 1) * 2 ^ (t - (P + 1) - 1) * 2 := by rw [← pw, ← Int.pow_succ]; congr 1; lia
    have h3 := Int.mul_le_mul_of_nonneg_left (show (1 : Int) ≤ 2 * (a : Int) + 1 by lia) (Int.le_of_lt pt)
    have h4 := Int.mul_le_mul_of_nonneg_left (show (1 : Int) ≤ 2 ^ (t - (P + 1) - 1) by have := pow2_pos (t - (P + 1) - 1); lia) (Int.le_of_lt (pow2_pos (P + 1)))
    have h5 := pow2_pos (P + 1)
    lia
def FullOf (p z : Int) : Int := iabs z * 2 ^ (p - (Builtin.Int.intBits (iabs z) : Int)).toNat
def LevOf (p z g : Int) : Int := g - (p - (Builtin.Int.intBits (iabs z) : Int))
/-- the law's full and level of the rounded number, and the two walls in its own units -/
theorem full_at {P : Nat} {x y : Int} (hP : 1 ≤ P) (hx : x ≠ 0) (hy : 0 < y) :
    ∃ (c : Int) (t : Nat), let z := rdM (P + 1 : Nat) x y; let e := rdE (P + 1 : Nat) x y
      (∃ a : Nat, z = sgn x * (2 * (a : Int) + 1)) ∧ (Builtin.Int.intBits (iabs z) : Int) ≤ (P + 1 : Nat) ∧ FullOf (P + 1 : Nat) z = c ∧ 2 ^ P ≤ c ∧ c < 2 ^ (P + 1) ∧
      (∀ h l : Int, 0 < h → 0 < l → h * y = iabs x * l →
        ((c ≠ 1 * 2 ^ P → (4 * c - 2) * (l * 2 ^ (LevOf (P + 1 : Nat) z e).toNat) ≤ 4 * (h * 2 ^ (0 - LevOf (P + 1 : Nat) z e).toNat)) ∧
         (4 * c - 2) * (l * 2 ^ (LevOf (P + 1 : Nat) z e).toNat) ≤ 4 * (h * 2 ^ (0 - LevOf (P + 1 : Nat) z e).toNat) ∧
         (c = 1 * 2 ^ P → (4 * c - 1) * (l * 2 ^ (LevOf (P + 1 : Nat) z e).toNat) ≤ 4 * (h * 2 ^ (0 - LevOf (P + 1 : Nat) z e).toNat)) ∧
         4 * (h * 2 ^ (0 - LevOf (P + 1 : Nat) z e).toNat) ≤ (4 * c + 2) * (l * 2 ^ (LevOf (P + 1 : Nat) z e).toNat) ∧
         (c % 2 = 1 → (4 * c - 2) * (l * 2 ^ (LevOf (P + 1 : Nat) z e).toNat) < 4 * (h * 2 ^ (0 - LevOf (P + 1 : Nat) z e).toNat) ∧
           4 * (h * 2 ^ (0 - LevOf (P + 1 : Nat) z e).toNat) < (4 * c + 2) * (l * 2 ^ (LevOf (P + 1 : Nat) z e).toNat)))) ∧
      (t : Int) ≤ P + 1 ∧ ∃ g : Nat, 2 ≤ g ∧ g ≤ 3 ∧ e = g - (((P + 1 : Nat) : Int) + 2 + bl y - bl x) + t := by
  obtain ⟨k, E, g, t, a, A, B, hA, hB, hk, k1, k2, hM, hE, w1, w2, w3, w4, w5, ⟨g1, g2, hg⟩, i1, i2, _⟩ := round_at hP hx hy
  have pP := pow2_pos P
  have pg := pow2_pos g
  have q5 : (2 : Int) ^ (P + 1) = 2 ^ P * 2 := by rw [pw]; rfl
  have qg : (2 : Int) ^ (g + 1) = 2 ^ g * 2 := by rw [pw]; rfl
  have q6 : (2 : Int) ^ (P + 2) = 2 ^ P * 4 := by rw [pw]; rfl
  have po : ∀ n : Nat, (0 : Int) < 2 ^ n := pow2_pos
  have hz : iabs (rdM (P + 1 : Nat) x y) = 2 * (a : Int) + 1 := by rw [hM]; exact (sgn_mul hx (by lia)).2
  have d1 : ∀ c : Int, (2 * c) * (2 ^ g * B) = 2 * (c * 2 ^ g * B) := fun c => by ac_rfl
  by_cases hkt : k < 2 ^ (P + 1)
  · obtain ⟨tP, hb⟩ := bits_odd (a := a) (hk ▸ k1) (hk ▸ hkt)
    have hf : FullOf (P + 1 : Nat) (rdM (P + 1 : Nat) x y) = k := by
      unfold FullOf; rw [hz, hb, hk]
      have : (((P + 1 : Nat) : Int) - ((P + 1 - t : Nat) : Int)).toNat = t := by lia
      rw [this]; ac_rfl
    have hl : LevOf (P + 1 : Nat) (rdM (P + 1 : Nat) x y) (rdE (P + 1 : Nat) x y) = E := by
      unfold LevOf; rw [hz, hb, hE]; lia
    refine ⟨k, t, ⟨a, hM⟩, by rw [hz, hb]; lia, hf, k1, hkt, fun h l hh hll he => ?_, by lia, g, g1, g2, by rw [hE, hg]⟩
    rw [hl]
    have i := i1 h l he
    have hd : 0 < h * 2 ^ (0 - E).toNat := Int.mul_pos hh (po _)
    have e1 : 4 * k - 2 = 2 * (2 * k - 1) := by lia
    have e2 : 4 * k + 2 = 2 * (2 * k + 1) := by lia
    have r1 : (4 * k - 2) * (l * 2 ^ E.toNat) ≤ 4 * (h * 2 ^ (0 - E).toNat) := ratio_le hA hd i (by rw [e1, d1]; lia)
    refine ⟨fun _ => r1, r1, fun hc => ?_, ratio_ge hA hd i (by rw [e2, d1]; lia), fun ho => ⟨ratio_lt hA hd i (by rw [e1, d1]; have := (w3 ho).1; lia), ratio_gt hA hd i (by rw [e2, d1]; have := (w3 ho).2; lia)⟩⟩
    refine ratio_le hA hd i ?_
    rw [Int.one_mul] at hc
    have h4 : 2 ^ (P + 1) * 2 ^ g * B = 2 * (k * (2 ^ g * B)) := by rw [q5, hc]; ac_rfl
    have h5 : (4 * k - 1) * (2 ^ g * B) = 4 * (k * (2 ^ g * B)) - 2 ^ g * B := by rw [Int.sub_mul, Int.mul_assoc, Int.one_mul]
    have h6 : 0 < 2 ^ g * B := Int.mul_pos pg hB
    rw [h5]; lia
  · have hke : 2 ^ t * (2 * (a : Int) + 1) = (2 : Int) ^ (P + 1) := by rw [← hk]; omega
    obtain ⟨ht, ha⟩ := odd_top hke
    subst ha
    have hb1 : Builtin.Int.intBits (2 * ((0 : Nat) : Int) + 1) = 1 := by decide
    have hf : FullOf (P + 1 : Nat) (rdM (P + 1 : Nat) x y) = 2 ^ P := by
      unfold FullOf; rw [hz, hb1]
      have : (((P + 1 : Nat) : Int) - ((1 : Nat) : Int)).toNat = P := by lia
      rw [this]; lia
    have hl : LevOf (P + 1 : Nat) (rdM (P + 1 : Nat) x y) (rdE (P + 1 : Nat) x y) = E + 1 := by
      unfold LevOf; rw [hz, hb1, hE]; lia
    refine ⟨2 ^ P, t, ⟨0, hM⟩, by rw [hz, hb1]; lia, hf, Int.le_refl _, by lia, fun h l hh hll he => ?_, by lia, g, g1, g2, by rw [hE, hg]⟩
    rw [hl]
    have i := i2 h l he
    have hd : 0 < h * 2 ^ (0 - (E + 1)).toNat := Int.mul_pos hh (po _)
    have hkk : k = 2 ^ P * 2 := by lia
    have h6 : 0 < 2 ^ g * B := Int.mul_pos pg hB
    have h7 : 0 < 2 ^ P * (2 ^ g * B) := Int.mul_pos pP h6
    have r1 : (4 * 2 ^ P - 1) * (l * 2 ^ (E + 1).toNat) ≤ 4 * (h * 2 ^ (0 - (E + 1)).toNat) := by
      refine ratio_le hA hd i ?_
      have h5 : (4 * 2 ^ P - 1) * (2 ^ (g + 1) * B) = 2 * ((2 * k - 1) * 2 ^ g * B) := by rw [hkk, qg, show 2 * ((2 : Int) ^ P * 2) - 1 = 4 * 2 ^ P - 1 by lia]; ac_rfl
      rw [h5]; lia
    have r0 : (4 * 2 ^ P - 2) * (l * 2 ^ (E + 1).toNat) ≤ 4 * (h * 2 ^ (0 - (E + 1)).toNat) := by
      have h8 : 0 < l * 2 ^ (E + 1).toNat := Int.mul_pos hll (po _)
      have h9 := Int.mul_le_mul_of_nonneg_right (show (4 : Int) * 2 ^ P - 2 ≤ 4 * 2 ^ P - 1 by lia) (Int.le_of_lt h8)
      lia
    refine ⟨fun _ => r0, r0, fun _ => r1, ?_, fun ho => ?_⟩
    · refine ratio_ge hA hd i ?_
      have h5 : (4 * 2 ^ P + 2) * (2 ^ (g + 1) * B) = 2 * (2 ^ (P + 2) * 2 ^ g * B) + 4 * (2 ^ g * B) := by
        rw [qg, q6, Int.add_mul]
        have a1 : 4 * (2 : Int) ^ P * (2 ^ g * 2 * B) = 2 * (2 ^ P * 4 * 2 ^ g * B) := by ac_rfl
        have a2 : 2 * ((2 : Int) ^ g * 2 * B) = 4 * (2 ^ g * B) := by rw [show (4 : Int) = 2 * 2 from rfl]; ac_rfl
        rw [a1, a2]
      rw [h5]; lia
    · exfalso
      obtain ⟨P', rfl⟩ : ∃ P', P = P' + 1 := ⟨P - 1, by lia⟩
      rw [Int.pow_succ] at ho; lia
theorem log_lt {n k : Nat} (h : n < 2 ^ k) (hk : 0 < k) : n.log2 < k := by
  by_cases h0 : n = 0
  · subst h0; simpa using hk
  · exact (Nat.log2_lt h0).mpr h
theorem bits_pow (n : Nat) : Builtin.Int.intBits ((2 : Int) ^ n) = n + 1 := bits_eq (Int.le_refl _) (by rw [Int.pow_succ]; have := pow2_pos n; lia)
theorem bits_of_lt {x : Int} {k : Nat} (h0 : 0 ≤ x) (h : x < 2 ^ k) : Builtin.Int.intBits x ≤ k := bits_iff.mpr (by
  have : ((x.natAbs : Nat) : Int) < ((2 ^ k : Nat) : Int) := by rw [Int.natAbs_of_nonneg h0, Int.natCast_pow]; exact h
  exact Int.ofNat_lt.mp this)
theorem tz_sgn {x : Int} (hx : x ≠ 0) (t a : Nat) : tz (sgn x * (2 ^ t * (2 * (a : Int) + 1))) = t := by
  rcases sgn_of hx with ⟨h, _⟩ | ⟨h, _⟩ <;> rw [h]
  · rw [Int.one_mul]; exact tz_eq t a
  · have : (-1 : Int) * (2 ^ t * (2 * (a : Int) + 1)) = 2 ^ t * (2 * (-(a : Int) - 1) + 1) := by
      rw [show (2 * (-(a : Int) - 1) + 1) = -1 * (2 * (a : Int) + 1) by lia]; ac_rfl
    rw [this]; exact tz_eq t _
theorem rnd_ok {P : Nat} {x y : Int} (hP : 1 ≤ P) (hP2 : P ≤ 60) (hy : 0 < y) (by' : y < 2 ^ 3000) (bx : iabs x < 2 ^ 3000) : RndOk (P + 1 : Nat) x y := by
  have hyb : Builtin.Int.intBits y ≤ 3000 := bits_of_lt (by lia) by'
  have hy1 : (y.natAbs).log2 < 9000 := by
    have := log_lt (bits_iff.mp hyb) (by decide); lia
  by_cases hx : x = 0
  · exact ⟨by lia, hy1, fun h => absurd hx h, fun h => absurd hx h⟩
  have hxb : Builtin.Int.intBits (iabs x) ≤ 3000 := bits_of_lt (Int.le_of_lt (iabs_pos hx)) bx
  have ey : bl y = (Builtin.Int.intBits y : Nat) := by unfold bl; rw [iabs_of (by lia)]
  have ex : bl x = (Builtin.Int.intBits (iabs x) : Nat) := rfl
  obtain ⟨k, E, g, t, a, A, B, hA, hB, hk, k1, k2, hM, hE, w1, w2, w3, w4, w5, ⟨g1, g2, hg⟩, i1, i2, ⟨j1, j2, j3⟩⟩ := round_at hP hx hy
  have pP := pow2_pos P
  have hkb : Builtin.Int.intBits k ≤ P + 2 := bits_of_lt (by lia) (by have e : (2 : Int) ^ (P + 2) = 2 ^ (P + 1) * 2 := Int.pow_succ ..; have := pow2_pos (P + 1); lia)
  have hlean : ∀ e : Int, -10000 ≤ e → e ≤ 10000 → LeanOk (sgn x * k) e := fun e e1 e2 => by
    have : bl (sgn x * k) = (Builtin.Int.intBits k : Nat) := by unfold bl; rw [(sgn_mul hx (by lia)).2]
    refine ⟨by lia, by lia, .inr ?_⟩
    rw [hk, tz_sgn hx]; lia
  have hsg : -1 ≤ sgn x ∧ sgn x ≤ 1 := sgn_le x
  have hsh : ShrOk (P + 1 : Nat) (rdN (P + 1 : Nat) x y) (0 - (((P + 1 : Nat) : Int) + 2 + bl y - bl x) - 1) := by
    refine ⟨by rw [j2]; exact hsg.1, by rw [j2]; exact hsg.2, by lia, fun h => absurd h (by lia), fun _ => ?_⟩
    rw [j2, j1, j3]
    exact hlean _ (by lia) (by lia)
  unfold rdN at hsh
  refine ⟨by lia, hy1, fun _ h => ⟨by lia, ?_⟩, fun _ h => ⟨by lia, ?_, ?_, ?_⟩⟩
  · rw [if_pos h] at hsh; exact hsh
  · have := Int.mul_pos hy (pow2_pos (0 - (((P + 1 : Nat) : Int) + 2 + bl y - bl x)).toNat); lia
  · have h1 := intBits_mul_le hyb (Nat.le_of_eq (bits_pow (0 - (((P + 1 : Nat) : Int) + 2 + bl y - bl x)).toNat))
    have := log_lt (bits_iff.mp h1) (by lia)
    lia
  · rw [if_neg h] at hsh; exact hsh
def IsnOk (p x y z g : Int) : Prop := ¬ x = 0 ∧ ¬ z = 0 ∧ (Builtin.Int.intBits (iabs z) : Int) ≤ p ∧ 1 ≤ p ∧ p ≤ 64 ∧ ¬ z.fmod 2 = 0 ∧ (decide (0 < x) != decide (0 < z)) = false ∧ -100000 ≤ g ∧ g ≤ 100000 ∧ (Builtin.Int.intBits (4 * iabs x) : Int) ≤ 100000 ∧ (Builtin.Int.intBits y : Int) ≤ 100000 ∧
  (∀ d, (d = 4 * fullOf p z - 1 ∨ d = 4 * fullOf p z - 2 ∨ d = 4 * fullOf p z + 2) → PySem.IntMulOk d (y * 2 ^ (levOf p z g).toNat) ∧ PySem.IntMulOk d y) ∧ Cmp p x y z g
theorem isn_ok {P : Nat} {X Y h l : Int} (hP : 1 ≤ P) (hP2 : P ≤ 60) (hX : X ≠ 0) (hY : 0 < Y) (bY : Y < 2 ^ 3000) (bX : iabs X < 2 ^ 3000) (hh : h ≠ 0) (hl : 0 < l) (bh : iabs h < 2 ^ 3000) (bll : l < 2 ^ 3000)
    (he : iabs h * Y = iabs X * l) (hs : 0 < h ↔ 0 < X) : IsnOk (P + 1 : Nat) h l (rdM (P + 1 : Nat) X Y) (rdE (P + 1 : Nat) X Y) := by
  obtain ⟨c, t, ⟨a, hz⟩, hb, hf, c1, c2, hcmp, ht, g, g1, g2, he2⟩ := full_at hP hX hY
  obtain ⟨r1, r2, r3, r4, r5⟩ := hcmp (iabs h) l (iabs_pos hh) hl he
  have hYb : Builtin.Int.intBits Y ≤ 3000 := bits_of_lt (by lia) bY
  have hXb : Builtin.Int.intBits (iabs X) ≤ 3000 := bits_of_lt (Int.le_of_lt (iabs_pos hX)) bX
  have hlb : Builtin.Int.intBits l ≤ 3000 := bits_of_lt (by lia) bll
  have eY : bl Y = (Builtin.Int.intBits Y : Nat) := by unfold bl; rw [iabs_of (by lia)]
  have eX : bl X = (Builtin.Int.intBits (iabs X) : Nat) := rfl
  have hz1 : rdM (P + 1 : Nat) X Y % 2 = 1 := by rcases sgn_of hX with ⟨h, _⟩ | ⟨h, _⟩ <;> rw [hz, h] <;> lia
  generalize rdM (P + 1 : Nat) X Y = z at *
  generalize rdE (P + 1 : Nat) X Y = e at *
  have hf' : fullOf (P + 1 : Nat) z = c := hf
  have hlv : LevOf (P + 1 : Nat) z e = levOf (P + 1 : Nat) z e := rfl
  have hL1 : -20000 ≤ levOf (P + 1 : Nat) z e ∧ levOf (P + 1 : Nat) z e ≤ 20000 := by unfold levOf; lia
  rw [hlv] at r1 r2 r3 r4 r5
  have pP := pow2_pos P
  have pP2 : (2 : Int) ^ P ≤ 2 ^ 60 := by
    have := Nat.pow_le_pow_right (show 0 < 2 by decide) hP2
    exact_mod_cast this
  have q5 : (2 : Int) ^ (P + 1) = 2 ^ P * 2 := by rw [pw]; rfl
  refine ⟨hh, by lia, hb, by lia, by lia, by rw [Int.fmod_eq_emod_of_nonneg _ (by decide)]; lia, ?_, by lia, by lia, ?_, by lia, ?_, ?_⟩
  · rcases sgn_of hX with ⟨h1, h2⟩ | ⟨h1, h2⟩ <;> rw [h1] at hz
    · rw [decide_eq_true (hs.mpr h2), decide_eq_true (show 0 < z by lia)]; rfl
    · rw [decide_eq_false (fun h3 => by have := hs.mp h3; lia), decide_eq_false (show ¬ 0 < z by lia)]; rfl
  · have : Builtin.Int.intBits (4 * iabs h) ≤ 3002 := bits_of_lt (by have := iabs_pos hh; lia) (by
      have e : (2 : Int) ^ 3002 = 2 ^ 3000 * 4 := by rw [show 3002 = 3000 + 2 from rfl, pw]; rfl
      rw [e]; lia)
    lia
  · intro d hd
    have hdb : Builtin.Int.intBits d ≤ 64 := bits_iff.mpr (by rw [hf'] at hd; lia)
    have h1 := intBits_mul_le hlb (Nat.le_of_eq (bits_pow (levOf (P + 1 : Nat) z e).toNat))
    exact ⟨mulOk_of_bits hdb h1 (by lia), mulOk_of_bits hdb hlb (by decide)⟩
  · have eL : nearLow (P + 1 : Nat) l z e = l * 2 ^ (levOf (P + 1 : Nat) z e).toNat := by
      unfold nearLow; split
      · rfl
      · have : (levOf (P + 1 : Nat) z e).toNat = 0 := by lia
        rw [this]; lia
    have eH : nearHigh (P + 1 : Nat) h z e = 4 * (iabs h * 2 ^ (0 - levOf (P + 1 : Nat) z e).toNat) := by
      unfold nearHigh; split
      · have : (0 - levOf (P + 1 : Nat) z e).toNat = 0 := by lia
        rw [this]; lia
      · rw [Int.mul_assoc]
    have ep : (((P + 1 : Nat) : Int) - 1).toNat = P := by lia
    unfold Cmp leastOf
    rw [eL, eH, hf', ep, Int.fmod_eq_emod_of_nonneg _ (by decide)]
    split
    · refine ⟨?_, r4⟩
      split
      · next hc => exact r3 hc
      · next hc => exact r2
    · next ho =>
      have hne : ¬ c = 1 * 2 ^ P := by
        intro hc
        obtain ⟨P', rfl⟩ : ∃ P', P = P' + 1 := ⟨P - 1, by lia⟩
        rw [Int.pow_succ] at hc; lia
      rw [if_neg hne]
      exact r5 (by lia)
theorem low_upp {c : Nat} : lowC (uppC c) = lowC c := by unfold lowC uppC; split <;> split <;> (try split) <;> lia
theorem low_upp_map (u : List Nat) : (u.map uppC).map lowC = u.map lowC := by
  rw [List.map_map]; exact List.map_congr_left fun c _ => low_upp
theorem low_digs {l : List Nat} (h : Digs l) : l.map lowC = l := by
  have : l.map lowC = l.map id := List.map_congr_left fun c hc => by have := h c hc; unfold lowC; split <;> simp <;> lia
  rw [this, List.map_id]
theorem Digs.sub {l r : List Nat} (h : Digs l) (hr : ∀ c ∈ r, c ∈ l) : Digs r := fun c hc => h c (hr c hc)
theorem sd_nn {x : Int} (h : 0 ≤ x) : sd x = nd x.toNat := by unfold sd; rw [if_neg (by lia)]
theorem sd_neg {x : Int} (h : x < 0) : sd x = 45 :: nd x.natAbs := by unfold sd; rw [if_pos h]
theorem ten4 (n : Nat) : (10 : Int) ^ n ≤ 2 ^ (4 * n) := by
  induction n with
  | zero => decide
  | succ n ih =>
    rw [Int.pow_succ, show 4 * (n + 1) = 4 * n + 4 from rfl, pw]
    have : (2 : Int) ^ 4 = 16 := rfl
    rw [this]
    have := ten_pow_pos n
    lia
theorem tp (a b : Nat) : (10 : Int) ^ (a + b) = 10 ^ a * 10 ^ b := by
  induction b with
  | zero => rw [Nat.add_zero, Int.pow_zero, Int.mul_one]
  | succ b ih => rw [← Nat.add_assoc, Int.pow_succ, ih, Int.pow_succ, Int.mul_assoc]
theorem tp_eq {a b c d : Nat} (h : a + b = c + d) : (10 : Int) ^ a * 10 ^ b = 10 ^ c * 10 ^ d := by rw [← tp, ← tp, h]
theorem bits_ten (n : Nat) : Builtin.Int.intBits ((10 : Int) ^ n) ≤ 4 * n + 1 := by
  have := ten_pow_pos n
  have := ten4 n
  exact bits_of_lt (by lia) (by rw [Int.pow_succ]; have := pow2_pos (4 * n); lia)
theorem big_lt {a b : Int} {i j : Nat} (ha : 0 ≤ a) (ha2 : a < 2 ^ i) (hb : b ≤ 2 ^ j) (h : i + j ≤ 3000) : a * b < 2 ^ 3000 := by
  have h1 := Int.mul_le_mul_of_nonneg_left hb ha
  have h2 := Int.mul_lt_mul_of_pos_right ha2 (pow2_pos j)
  rw [← pw] at h2
  have h3 : (2 : Int) ^ (i + j) ≤ 2 ^ 3000 := by
    have := Nat.pow_le_pow_right (show 0 < 2 by decide) h
    exact_mod_cast this
  lia
theorem pow_le3 {j : Nat} (h : j < 3000) : (2 : Int) ^ j < 2 ^ 3000 := by
  have := Nat.pow_lt_pow_right (show 1 < 2 by decide) h
  exact_mod_cast this
/-- a mantissa with an exponent is a decimal of the same worth -/
theorem dec_val {w M : List Nat} {c : Nat} {T : List Nat} {v m x : Int} {f k : Nat} (h : DecE w M c T v m (10 ^ f)) (hm : 0 ≤ m) (hm2 : m < 2 ^ 1100) (hf : f ≤ 310) (hv1 : -140 ≤ v) (hv2 : v ≤ 310)
    (e : m * 10 ^ v.toNat * 10 ^ k = x * 10 ^ f * 10 ^ (0 - v).toNat) : ∃ p q, Dec w p q ∧ p * 10 ^ k = x * q ∧ 0 ≤ p ∧ 0 < q ∧ p < 2 ^ 3000 ∧ q < 2 ^ 3000 := by
  have hmb : Builtin.Int.intBits m ≤ 1100 := bits_of_lt hm hm2
  have f0 := ten_pow_pos f
  by_cases hv : 0 ≤ v
  · have h0 : (0 - v).toNat = 0 := by lia
    rw [h0, Int.pow_zero, Int.mul_one] at e
    refine ⟨m * 10 ^ v.toNat, 10 ^ f, .inr ⟨M, c, T, v, m, 10 ^ f, h, .inl ⟨hv, ?_, rfl, rfl⟩⟩, e, ?_, by lia, ?_, ?_⟩
    · exact mulOk_of_bits hmb (bits_ten _) (by lia)
    · exact Int.mul_nonneg hm (by have := ten_pow_pos v.toNat; lia)
    · exact big_lt hm hm2 (ten4 _) (by lia)
    · exact Int.lt_of_le_of_lt (ten4 f) (pow_le3 (by lia))
  · have h0 : v.toNat = 0 := by lia
    rw [h0, Int.pow_zero, Int.mul_one] at e
    refine ⟨m, 10 ^ f * 10 ^ (0 - v).toNat, .inr ⟨M, c, T, v, m, 10 ^ f, h, .inr ⟨hv, ?_, rfl, rfl⟩⟩, by rw [e]; ac_rfl, hm, ?_, ?_, ?_⟩
    · exact mulOk_of_bits (bits_ten _) (bits_ten _) (by lia)
    · exact Int.mul_pos (by lia) (by have := ten_pow_pos (0 - v).toNat; lia)
    · exact Int.lt_trans hm2 (pow_le3 (by lia))
    · rw [← tp]; exact Int.lt_of_le_of_lt (ten4 _) (pow_le3 (by lia))
theorem nd_digs (n : Nat) : Digs (nd n) := (nd_all n).1
theorem nd_dv (n : Nat) : dv (nd n) = n := (nd_all n).2.1
theorem nd_ne (n : Nat) : nd n ≠ [] := (nd_all n).2.2.1
theorem nd_le {n k : Nat} (h : n < 10 ^ k) (hk : 0 < k) : (nd n).length ≤ k := (nd_all n).2.2.2 k h hk
theorem expo_neg {n : Nat} (h : n < 10 ^ 5) : Expo (45 :: nd n) (-1 * (n : Int)) := ⟨nd n, nd_digs n, nd_ne n, nd_le h (by decide), .inr (.inr ⟨rfl, by rw [nd_dv]⟩)⟩
theorem expo_plus {n : Nat} (h : n < 10 ^ 5) : Expo (43 :: nd n) (1 * (n : Int)) := ⟨nd n, nd_digs n, nd_ne n, nd_le h (by decide), .inr (.inl ⟨rfl, by rw [nd_dv]⟩)⟩
theorem expo_none {n : Nat} (h : n < 10 ^ 5) : Expo (nd n) (1 * (n : Int)) := ⟨nd n, nd_digs n, nd_ne n, nd_le h (by decide), .inl ⟨rfl, by rw [nd_dv]⟩⟩
theorem mk_ok : isMk 101 = true ∧ isMk 115 = true ∧ isMk 100 = true ∧ isMk 102 = true ∧ isMk 108 = true := by
  rw [isMk_eq, isMk_eq, isMk_eq, isMk_eq, isMk_eq]; decide
theorem mant_digs {l : List Nat} (h : Digs l) (hn : l ≠ []) (hl : l.length ≤ 1000) : Mant l (dv l) (10 ^ 0) := ⟨hl, .inl ⟨h, hn, rfl, rfl⟩⟩
theorem mant_pt {x y : List Nat} (hx : Digs x) (hy : Digs y) (hn : x ++ y ≠ []) (hl : x.length + y.length ≤ 999) : Mant (x ++ 46 :: y) (dv (x ++ y)) (10 ^ y.length) :=
  ⟨by simp only [List.length_append, List.length_cons]; lia, .inr ⟨x, y, rfl, hx, hy, hn, rfl, rfl⟩⟩
theorem dvF_zeros (n : Nat) : dv (List.replicate n 48) = 0 := by
  induction n with
  | zero => rfl
  | succ n ih => rw [List.replicate_succ, show (48 :: List.replicate n 48) = [48] ++ List.replicate n 48 from rfl, dv_app, ih]; show (0 * 10 + (48 - 48)) * _ + 0 = 0; lia
def TextOk (u : List Nat) (h l : Int) (ex : Bool) : Prop := ∃ p q, Uns (u.map lowC) p q ex ∧ p * l = h * q ∧ 0 ≤ p ∧ 0 < q ∧ p < 2 ^ 3000 ∧ q < 2 ^ 3000 ∧ (∀ c ∈ u, c < 128) ∧ u.length ≤ 50000
theorem expo_sd {v : Int} (h1 : -100000 < v) (h2 : v < 100000) : Expo (sd v) v := by
  unfold sd; split
  · have := expo_neg (n := v.natAbs) (by lia)
    rwa [show -1 * ((v.natAbs : Nat) : Int) = v by lia] at this
  · have := expo_none (n := v.toNat) (by lia)
    rwa [show 1 * ((v.toNat : Nat) : Int) = v by lia] at this
theorem sd_sign {v : Int} : ∀ c ∈ sd v, 48 ≤ c ∧ c ≤ 57 ∨ c = 45 := by
  unfold sd; intro c hc; split at hc
  · rcases List.mem_cons.mp hc with rfl | hc
    · exact .inr rfl
    · exact .inl (nd_digs _ c hc)
  · exact .inl (nd_digs _ c hc)
theorem low_id {l : List Nat} (h : ∀ c ∈ l, c < 65 ∨ 90 < c) : l.map lowC = l := by
  have : l.map lowC = l.map id := List.map_congr_left fun c hc => by have := h c hc; unfold lowC; split <;> simp <;> lia
  rw [this, List.map_id]
theorem small_len {x : Int} (hx : Small x) : (sd x).length ≤ 302 := by
  have h0 := hx.1
  have h1 := hx.2
  rw [sd_nn hx.1]
  refine nd_le ?_ (by decide)
  have h2 : (2 : Int) ^ 1000 < 10 ^ 302 := by decide +kernel
  have : ((x.toNat : Nat) : Int) < ((10 ^ 302 : Nat) : Int) := by rw [Int.toNat_of_nonneg h0, Int.natCast_pow]; exact Int.lt_trans h1 h2
  exact Int.ofNat_lt.mp this
theorem pad_ok {x k : Int} (hx : Small x) (h0 : 0 ≤ k) (h1 : k ≤ 130) : Digs (padOf x k) ∧ (dv (padOf x k) : Int) = x ∧ k < ((padOf x k).length : Int) ∧ (padOf x k).length ≤ 500 := by
  have hl := small_len hx
  have hn : Digs (sd x) := by rw [sd_nn hx.1]; exact nd_digs _
  have hv : dv (sd x) = x.toNat := by rw [sd_nn hx.1]; exact nd_dv _
  have := hx.1
  unfold padOf; split
  · refine ⟨Digs.app (fun c hc => ?_) hn, ?_, ?_, ?_⟩
    · rw [(List.mem_replicate.mp hc).2]; lia
    · rw [dv_app, dvF_zeros, hv]; lia
    · rw [List.length_append, List.length_replicate]; lia
    · rw [List.length_append, List.length_replicate]; lia
  · exact ⟨hn, by rw [hv]; lia, by lia, by lia⟩
theorem text_of {w M u : List Nat} {c : Nat} {T : List Nat} {v m x : Int} {f : Nat} {k : Int} (hu : u.map lowC = w) (e : w = M ++ c :: T) (hM : Mant M m (10 ^ f)) (hc : isMk c = true) (hT : Expo T v) (hm : 0 ≤ m) (hm2 : m < 2 ^ 1100) (hf : f ≤ 310) (hv1 : -140 ≤ v) (hv2 : v ≤ 310)
    (he : m * 10 ^ v.toNat * 10 ^ k.toNat = x * 10 ^ f * 10 ^ (0 - v).toNat) (ha : ∀ c ∈ u, c < 128) (hl : u.length ≤ 50000) : TextOk u x (10 ^ k.toNat) false := by
  obtain ⟨p, q, h1, h2, h3, h4, h5, h6⟩ := dec_val ⟨e, hM, hc, hT, by lia, by lia⟩ hm hm2 hf hv1 hv2 he
  exact ⟨p, q, .inr ⟨by rw [hu]; exact h1, rfl⟩, h2, h3, h4, h5, h6, ha, hl⟩
theorem lt1100 {x : Int} (h : Small x) : x < 2 ^ 1100 := Int.lt_trans h.2 (by decide +kernel)
theorem dt_ok {x k : Int} {u : List Nat} (hx : Small x) (h0 : 0 ≤ k) (h1 : k ≤ 130) (h : DT x k u) : TextOk u x (10 ^ k.toNat) false := by
  obtain ⟨p1, p2, p3, p4⟩ := pad_ok hx h0 h1
  have hl := small_len hx
  have hx0 := hx.1
  have hx2 := lt1100 hx
  have hn : Digs (sd x) := by rw [sd_nn hx.1]; exact nd_digs _
  have hv : (dv (sd x) : Int) = x := by rw [sd_nn hx.1, nd_dv]; lia
  have hne : sd x ≠ [] := by rw [sd_nn hx.1]; exact nd_ne _
  have hpne : padOf x k ≠ [] := by intro e; rw [e] at p3; simp at p3; lia
  generalize hpl : padOf x k = l at *
  have ti : ((l.length : Int) - k).toNat ≤ l.length := by lia
  have dt : Digs (l.take ((l.length : Int) - k).toNat) := p1.sub fun c => List.mem_of_mem_take
  have dd : Digs (l.drop ((l.length : Int) - k).toNat) := p1.sub fun c => List.mem_of_mem_drop
  have td : l.take ((l.length : Int) - k).toNat ++ l.drop ((l.length : Int) - k).toNat = l := List.take_append_drop _ _
  have dl : (l.drop ((l.length : Int) - k).toNat).length = k.toNat := by rw [List.length_drop]; lia
  have tl : (l.take ((l.length : Int) - k).toNat).length ≤ 500 := by rw [List.length_take]; lia
  have mpt := mant_pt dt dd (by rw [td]; exact hpne) (by rw [dl]; lia)
  rw [td, p2, dl] at mpt
  have sk : ∀ c ∈ sd k, 48 ≤ c ∧ c ≤ 57 := by rw [sd_nn h0]; exact nd_digs _
  have skl : (sd k).length ≤ 5 := by rw [sd_nn h0]; exact nd_le (by lia) (by decide)
  have sdl : ∀ v : Int, -10000 < v → v < 10000 → (sd v).length ≤ 6 := fun v v1 v2 => by
    unfold sd; split
    · have := nd_le (n := v.natAbs) (k := 5) (by lia) (by decide); simp only [List.length_cons]; lia
    · have := nd_le (n := v.toNat) (k := 5) (by lia) (by decide); lia
  generalize hA : l.take ((l.length : Int) - k).toNat = A at *
  generalize hB : l.drop ((l.length : Int) - k).toNat = B at *
  have hpt : ptOf l k = A ++ [46] ++ B := by unfold ptOf; rw [hA, hB]
  rw [show DT x k u = DT x k u from rfl] at h
  unfold DT at h
  rw [hpl, hpt] at h
  rcases h with rfl | rfl | rfl | rfl | ⟨m, rfl, hm⟩ | ⟨s, s1, s2, rfl⟩
  · have hu : (A ++ [46] ++ B).map lowC = A ++ 46 :: B := by
      rw [low_id]
      · simp
      · intro c hc; simp only [List.mem_append, List.mem_singleton] at hc
        rcases hc with (hc | rfl) | hc
        · have := dt c hc; lia
        · lia
        · have := dd c hc; lia
    refine ⟨x, 10 ^ k.toNat, .inr ⟨?_, rfl⟩, rfl, hx0, by have := ten_pow_pos k.toNat; lia, Int.lt_trans hx2 (pow_le3 (by lia)), Int.lt_of_le_of_lt (ten4 _) (pow_le3 (by lia)), ?_, ?_⟩
    · rw [hu]; exact .inl ⟨mpt, by simp⟩
    · intro c hc; simp only [List.mem_append, List.mem_singleton] at hc
      rcases hc with (hc | rfl) | hc
      · have := dt c hc; lia
      · lia
      · have := dd c hc; lia
    · simp only [List.length_append, List.length_cons, List.length_nil]; lia
  · have ch : ∀ c ∈ l ++ [101, 45] ++ sd k, c < 65 ∨ c = 101 := by
      intro c hc; simp only [List.mem_append, List.mem_cons, List.not_mem_nil, or_false] at hc
      rcases hc with (hc | rfl | rfl) | hc
      · have := p1 c hc; lia
      · lia
      · lia
      · have := sk c hc; lia
    refine text_of (low_id fun c hc => by have := ch c hc; lia) (M := l) (c := 101) (T := 45 :: nd k.toNat) (v := -1 * ((k.toNat : Nat) : Int)) (m := x) (f := 0) ?_ ?_ mk_ok.1 (expo_neg (by lia)) hx0 hx2 (by lia) (by lia) (by lia) ?_ (fun c hc => by have := ch c hc; lia) ?_
    · rw [sd_nn h0]; simp
    · have := mant_digs p1 hpne (by lia); rw [p2] at this; exact this
    · rw [show (-1 * ((k.toNat : Nat) : Int)).toNat = 0 by lia, show (0 - -1 * ((k.toNat : Nat) : Int)).toNat = k.toNat by lia, Int.pow_zero]
    · simp only [List.length_append, List.length_cons, List.length_nil]; lia
  · have ch : ∀ c ∈ A ++ [46] ++ B ++ [101, 48], c < 65 ∨ c = 101 := by
      intro c hc; simp only [List.mem_append, List.mem_cons, List.not_mem_nil, or_false] at hc
      rcases hc with ((hc | rfl) | hc) | rfl | rfl
      · have := dt c hc; lia
      · lia
      · have := dd c hc; lia
      · lia
      · lia
    refine text_of (low_id fun c hc => by have := ch c hc; lia) (M := A ++ 46 :: B) (c := 101) (T := nd 0) (v := 1 * ((0 : Nat) : Int)) (m := x) (f := k.toNat) ?_ mpt mk_ok.1 (expo_none (by decide)) hx0 hx2 (by lia) (by lia) (by lia) ?_ (fun c hc => by have := ch c hc; lia) ?_
    · rw [nd_small (by decide)]; simp
    · rw [show (1 * ((0 : Nat) : Int)).toNat = 0 from rfl, show (0 - 1 * ((0 : Nat) : Int)).toNat = 0 from rfl, Int.pow_zero, Int.mul_one, Int.mul_one]
    · simp only [List.length_append, List.length_cons, List.length_nil]; lia
  · have ch : ∀ c ∈ sd x ++ [46] ++ [101] ++ sd (0 - k), c < 65 ∨ c = 101 := by
      intro c hc; simp only [List.mem_append, List.mem_cons, List.not_mem_nil, or_false] at hc
      rcases hc with ((hc | rfl) | rfl) | hc
      · have := hn c hc; lia
      · lia
      · lia
      · have := sd_sign c hc; lia
    have hM := mant_pt (x := sd x) (y := []) hn (fun c hc => by cases hc) (by simpa using hne) (by simp; lia)
    rw [List.append_nil, hv] at hM
    refine text_of (low_id fun c hc => by have := ch c hc; lia) (M := sd x ++ 46 :: []) (c := 101) (T := sd (0 - k)) (v := 0 - k) (m := x) (f := 0) ?_ hM mk_ok.1 (expo_sd (by lia) (by lia)) hx0 hx2 (by lia) (by lia) (by lia) ?_ (fun c hc => by have := ch c hc; lia) ?_
    · simp
    · rw [show (0 - k).toNat = 0 by lia, show (0 - (0 - k)).toNat = k.toNat by lia, Int.pow_zero]
    · have := sdl (0 - k) (by lia) (by lia); simp only [List.length_append, List.length_cons, List.length_nil]; lia
  · have hM := mant_pt (x := []) (y := sd x) (fun c hc => by cases hc) hn (by simpa using hne) (by simp; lia)
    rw [show dv ([] ++ sd x) = dv (sd x) from rfl, hv] at hM
    have ev : ∀ v : Int, v = ((sd x).length : Int) - k → x * 10 ^ v.toNat * 10 ^ k.toNat = x * 10 ^ (sd x).length * 10 ^ (0 - v).toNat := fun v e => by
      rw [Int.mul_assoc, Int.mul_assoc, tp_eq (show v.toNat + k.toNat = (sd x).length + (0 - v).toNat by lia)]
    have hsl := sdl (((sd x).length : Int) - k) (by lia) (by lia)
    have gen : ∀ (m T : List Nat) (c : Nat) (v : Int), v = ((sd x).length : Int) - k → m ++ sd (((sd x).length : Int) - k) = c :: T → isMk c = true → c < 128 → (c < 65 ∨ 90 < c) → m.length ≤ 2 → (∀ d ∈ T, d < 65) → Expo T v → TextOk ([46] ++ sd x ++ m ++ sd (((sd x).length : Int) - k)) x (10 ^ k.toNat) false := by
      intro m T c v hv' hT hc c1 c2 ml hT2 hE
      have e : [46] ++ sd x ++ m ++ sd (((sd x).length : Int) - k) = ([] ++ 46 :: sd x) ++ c :: T := by rw [List.append_assoc, hT]; simp
      have ch : ∀ d ∈ [46] ++ sd x ++ m ++ sd (((sd x).length : Int) - k), d < 65 ∨ d = c := by
        intro d hd; rw [e] at hd; simp only [List.nil_append, List.mem_append, List.mem_cons] at hd
        rcases hd with (rfl | hd) | rfl | hd
        · lia
        · have := hn d hd; lia
        · exact .inr rfl
        · exact .inl (hT2 d hd)
      refine text_of (low_id fun d hd => by have := ch d hd; lia) (M := [] ++ 46 :: sd x) (c := c) (T := T) (v := v) (m := x) (f := (sd x).length) e hM hc hE hx0 hx2 (by lia) (by lia) (by lia) (ev v hv') (fun d hd => by have := ch d hd; lia) ?_
      simp only [List.length_append, List.length_cons, List.length_nil]; lia
    rcases hm with ⟨hp, rfl | rfl | rfl⟩ | ⟨hp, rfl | rfl | rfl⟩
    · exact gen [100] _ 100 _ rfl rfl mk_ok.2.2.1 (by lia) (by lia) (by simp) (fun d hd => by have := sd_sign d hd; lia) (expo_sd (by lia) (by lia))
    · refine gen [102, 43] (43 :: nd (((sd x).length : Int) - k).toNat) 102 (1 * (((((sd x).length : Int) - k).toNat : Nat) : Int)) (by lia) (by rw [sd_nn hp]; rfl) mk_ok.2.2.2.1 (by lia) (by lia) (by simp) (fun d hd => ?_) (expo_plus (by lia))
      rcases List.mem_cons.mp hd with rfl | hd
      · lia
      · have := nd_digs _ d hd; lia
    · refine gen [108, 43] (43 :: nd (((sd x).length : Int) - k).toNat) 108 (1 * (((((sd x).length : Int) - k).toNat : Nat) : Int)) (by lia) (by rw [sd_nn hp]; rfl) mk_ok.2.2.2.2 (by lia) (by lia) (by simp) (fun d hd => ?_) (expo_plus (by lia))
      rcases List.mem_cons.mp hd with rfl | hd
      · lia
      · have := nd_digs _ d hd; lia
    · exact gen [100] _ 100 _ rfl rfl mk_ok.2.2.1 (by lia) (by lia) (by simp) (fun d hd => by have := sd_sign d hd; lia) (expo_sd (by lia) (by lia))
    · exact gen [102] _ 102 _ rfl rfl mk_ok.2.2.2.1 (by lia) (by lia) (by simp) (fun d hd => by have := sd_sign d hd; lia) (expo_sd (by lia) (by lia))
    · exact gen [108] _ 108 _ rfl rfl mk_ok.2.2.2.2 (by lia) (by lia) (by simp) (fun d hd => by have := sd_sign d hd; lia) (expo_sd (by lia) (by lia))
  · have i1 := iabs_nn s
    have i2 := iabs_le4 s1 s2
    obtain ⟨m1, _⟩ := hx.mul i2
    have hd2 : Digs (sd (x * 10 ^ (iabs s).toNat)) := by rw [sd_nn m1]; exact nd_digs _
    have hv2 : (dv (sd (x * 10 ^ (iabs s).toNat)) : Int) = x * 10 ^ (iabs s).toNat := by rw [sd_nn m1, nd_dv]; lia
    have hb : x * 10 ^ (iabs s).toNat < 2 ^ 1100 := by
      have a1 := Int.mul_le_mul_of_nonneg_left (ten_pow_le (n := (iabs s).toNat) (k := 4) (by lia)) hx0
      have a2 := Int.mul_lt_mul_of_pos_right hx.2 (show (0 : Int) < 10 ^ 4 by decide)
      have a3 : (2 : Int) ^ 1000 * 10 ^ 4 < 2 ^ 1100 := by decide +kernel
      lia
    have hl2 : (sd (x * 10 ^ (iabs s).toNat)).length ≤ 1000 := by
      rw [sd_nn m1]
      refine nd_le ?_ (by decide)
      have h2 : (2 : Int) ^ 1100 < 10 ^ 1000 := by decide +kernel
      have : (((x * 10 ^ (iabs s).toNat).toNat : Nat) : Int) < ((10 ^ 1000 : Nat) : Int) := by rw [Int.toNat_of_nonneg m1, Int.natCast_pow]; exact Int.lt_trans hb h2
      exact Int.ofNat_lt.mp this
    have hne2 : sd (x * 10 ^ (iabs s).toNat) ≠ [] := by rw [sd_nn m1]; exact nd_ne _
    have ks : 0 ≤ k + iabs s := by lia
    have hsl := sdl (k + iabs s) (by lia) (by lia)
    have hu : (sd (x * 10 ^ (iabs s).toNat) ++ [83, 45] ++ sd (k + iabs s)).map lowC = sd (x * 10 ^ (iabs s).toNat) ++ 115 :: (45 :: nd (k + iabs s).toNat) := by
      rw [List.map_append, List.map_append, low_digs hd2, sd_nn ks, low_digs (nd_digs _)]
      simp [lowC]
    refine text_of hu (M := sd (x * 10 ^ (iabs s).toNat)) (c := 115) (T := 45 :: nd (k + iabs s).toNat) (v := -1 * (((k + iabs s).toNat : Nat) : Int)) (m := x * 10 ^ (iabs s).toNat) (f := 0) rfl ?_ mk_ok.2.1 (expo_neg (by lia)) m1 hb (by lia) (by lia) (by lia) ?_ ?_ ?_
    · have := mant_digs hd2 hne2 hl2; rw [hv2] at this; exact this
    · rw [show (-1 * (((k + iabs s).toNat : Nat) : Int)).toNat = 0 by lia, show (0 - -1 * (((k + iabs s).toNat : Nat) : Int)).toNat = (iabs s).toNat + k.toNat by lia, Int.pow_zero, Int.mul_one, Int.mul_one, tp, Int.mul_assoc]
    · intro c hc; simp only [List.mem_append, List.mem_cons, List.not_mem_nil, or_false] at hc
      rcases hc with (hc | rfl | rfl) | hc
      · have := hd2 c hc; lia
      · lia
      · lia
      · have := sd_sign c hc; lia
    · simp only [List.length_append, List.length_cons, List.length_nil]; lia
/-- the law's ratio text -/
theorem ratio_ok {h l : Int} (h0 : 0 ≤ h) (h1 : h < 2 ^ 1000) (l0 : 0 < l) (l1 : l < 2 ^ 1000) : TextOk (sd h ++ [47] ++ sd l) h l true := by
  have a1 := small_len ⟨h0, h1⟩
  have a2 := small_len (x := l) ⟨by lia, l1⟩
  have hu : (sd h ++ [47] ++ sd l).map lowC = nd h.toNat ++ 47 :: nd l.toNat := by
    rw [sd_nn h0, sd_nn (by lia), List.map_append, List.map_append, low_digs (nd_digs _), low_digs (nd_digs _)]; simp [lowC]
  refine ⟨h, l, .inl ⟨nd h.toNat, nd l.toNat, hu, nd_digs _, nd_digs _, nd_ne _, nd_ne _, by rw [nd_dv]; lia, ?_, by rw [nd_dv]; lia, by rw [nd_dv]; lia, rfl⟩, rfl, h0, l0, Int.lt_trans h1 (pow_le3 (by lia)), Int.lt_trans l1 (pow_le3 (by lia)), ?_, ?_⟩
  · rw [List.length_map]; simp only [List.length_append, List.length_cons, List.length_nil]; lia
  · intro c hc; simp only [List.mem_append, List.mem_cons, List.not_mem_nil, or_false] at hc
    rcases hc with (hc | rfl) | hc
    · have := sd_sign c hc; lia
    · lia
    · have := sd_sign c hc; lia
  · simp only [List.length_append, List.length_cons, List.length_nil]; lia
theorem nat_reduce {p q h l : Nat} (hq : 0 < q) (hl : 0 < l) (e : p * l = h * q) : p / Nat.gcd p q = h / Nat.gcd h l ∧ q / Nat.gcd p q = l / Nat.gcd h l := by
  have g1 : 0 < Nat.gcd p q := Nat.gcd_pos_of_pos_right _ hq
  have g2 : 0 < Nat.gcd h l := Nat.gcd_pos_of_pos_right _ hl
  have c1 := Nat.coprime_div_gcd_div_gcd g1
  have c2 := Nat.coprime_div_gcd_div_gcd g2
  have e1 : p = p / Nat.gcd p q * Nat.gcd p q := (Nat.div_mul_cancel (Nat.gcd_dvd_left p q)).symm
  have e2 : q = q / Nat.gcd p q * Nat.gcd p q := (Nat.div_mul_cancel (Nat.gcd_dvd_right p q)).symm
  have e3 : h = h / Nat.gcd h l * Nat.gcd h l := (Nat.div_mul_cancel (Nat.gcd_dvd_left h l)).symm
  have e4 : l = l / Nat.gcd h l * Nat.gcd h l := (Nat.div_mul_cancel (Nat.gcd_dvd_right h l)).symm
  generalize Nat.gcd p q = a at *
  generalize Nat.gcd h l = b at *
  generalize p / a = p' at *
  generalize q / a = q' at *
  generalize h / b = h' at *
  generalize l / b = l' at *
  have e5 : p' * l' = h' * q' := by
    have : p' * l' * (a * b) = h' * q' * (a * b) := by
      calc p' * l' * (a * b) = (p' * a) * (l' * b) := by ac_rfl
        _ = p * l := by rw [← e1, ← e4]
        _ = h * q := e
        _ = (h' * b) * (q' * a) := by rw [← e2, ← e3]
        _ = h' * q' * (a * b) := by ac_rfl
    exact Nat.eq_of_mul_eq_mul_right (Nat.mul_pos g1 g2) this
  have d1 : q' ∣ l' := c1.symm.dvd_of_dvd_mul_left (by rw [e5]; exact Nat.dvd_mul_left _ _)
  have d2 : l' ∣ q' := c2.symm.dvd_of_dvd_mul_left (by rw [← e5]; exact Nat.dvd_mul_left _ _)
  have eq : q' = l' := Nat.dvd_antisymm d1 d2
  have q0 : 0 < q' := by
    refine Nat.pos_of_ne_zero fun h0 => ?_
    rw [h0, Nat.zero_mul] at e2; lia
  subst eq
  exact ⟨Nat.eq_of_mul_eq_mul_right q0 e5, rfl⟩
/-- the reduced fractions of equal ratios are one -/
theorem int_reduce {p q h l : Int} (hp : 0 ≤ p) (hh : 0 ≤ h) (hq : 0 < q) (hl : 0 < l) (e : p * l = h * q) :
    (p.fdiv (Int.gcd p q : Int) = h.fdiv (Int.gcd h l : Int) ∧ q.fdiv (Int.gcd p q : Int) = l.fdiv (Int.gcd h l : Int)) ∧ (Int.gcd p q : Int) ≠ 0 ∧ (Int.gcd h l : Int) ≠ 0 := by
  obtain ⟨p, rfl⟩ := Int.eq_ofNat_of_zero_le hp
  obtain ⟨h, rfl⟩ := Int.eq_ofNat_of_zero_le hh
  obtain ⟨q, rfl⟩ := Int.eq_ofNat_of_zero_le (Int.le_of_lt hq)
  obtain ⟨l, rfl⟩ := Int.eq_ofNat_of_zero_le (Int.le_of_lt hl)
  have e' : p * l = h * q := by exact_mod_cast e
  obtain ⟨r1, r2⟩ := nat_reduce (show 0 < q by lia) (show 0 < l by lia) e'
  have a1 : Int.gcd (p : Int) (q : Int) = Nat.gcd p q := rfl
  have a2 : Int.gcd (h : Int) (l : Int) = Nat.gcd h l := rfl
  rw [a1, a2]
  have g1 : 0 < Nat.gcd p q := Nat.gcd_pos_of_pos_right _ (by lia)
  have g2 : 0 < Nat.gcd h l := Nat.gcd_pos_of_pos_right _ (by lia)
  refine ⟨⟨?_, ?_⟩, by lia, by lia⟩
  · rw [Int.fdiv_eq_ediv_of_nonneg _ (by lia), Int.fdiv_eq_ediv_of_nonneg _ (by lia)]; exact_mod_cast r1
  · rw [Int.fdiv_eq_ediv_of_nonneg _ (by lia), Int.fdiv_eq_ediv_of_nonneg _ (by lia)]; exact_mod_cast r2
/-- low is the common part just where the reduced bottom is one -/
theorem one_iff {h l : Int} (hl : 0 < l) : l.fdiv (Int.gcd h l : Int) = 1 ↔ l = (Int.gcd h l : Int) := by
  have g : 0 < Int.gcd h l := by
    refine Nat.pos_of_ne_zero fun e => ?_
    have := (Int.gcd_eq_zero_iff.mp e).2
    lia
  have hd : (Int.gcd h l : Int) ∣ l := Int.gcd_dvd_right ..
  rw [Int.fdiv_eq_ediv_of_nonneg _ (by lia)]
  constructor
  · intro e
    have := Int.ediv_mul_cancel hd
    rw [e, Int.one_mul] at this; exact this.symm
  · intro e
    have h2 : l / (Int.gcd h l : Int) * (Int.gcd h l : Int) = l := Int.ediv_mul_cancel hd
    generalize (Int.gcd h l : Int) = c at *
    subst e
    have h3 : l / l * l = 1 * l := by rw [h2, Int.one_mul]
    exact Int.eq_of_mul_eq_mul_right (by lia) h3
theorem gcd_log {p q : Int} (hq : 0 < q) (h : q < 2 ^ 3000) : (Int.gcd p q : Int).natAbs.log2 < 9000 := by
  have h1 : Int.gcd p q ≤ q.natAbs := Nat.le_of_dvd (by lia) (Nat.gcd_dvd_right _ _)
  have h2 : ((q.natAbs : Nat) : Int) < ((2 ^ 3000 : Nat) : Int) := by rw [Int.natAbs_of_nonneg (by lia), Int.natCast_pow]; exact h
  have h3 := Int.ofNat_lt.mp h2
  have h4 : (Int.gcd p q : Int).natAbs = Int.gcd p q := rfl
  rw [h4]
  have := log_lt (Nat.lt_of_le_of_lt h1 h3) (by decide)
  lia
section
variable {prog : Program} {w : World} {A : Around} {E : Value → Shared → Prop} {s : Shared} {env : Env} {h₀ : Heap}
/-- what a turn of the law's outer loop leaves -/
def RjPost (h₀ : Heap) (L : Addr) (I : Addr) (it : Obj) (J : (PySem.Str → Option Value) → List (Addr × Obj) → Prop) (s : Shared) (f : Flow) (s' : Shared) : Prop :=
  f = .next ∧ ∃ h' tk' m' news', s' = { s with heap := h', toks := tk' } ∧ Fr h₀ L h' m' ∧ News h₀ L h' ((I, it) :: news') ∧ J m' news'
theorem iter_rangeJ {x : PySem.Str} {body : List Stmt} {Q : Flow → Shared → Prop} {r : Addr} {a₀ b₀ : Int} {t₀ u₀ v₀ : Tok} {n : Nat} {m₀ : PySem.Str → Option Value} {news : List (Addr × Obj)}
    {L : Addr} (hL : env.locals = L) (hh : A.handled = none) (hr : IsRange s.heap r a₀ b₀ 1 t₀ u₀ v₀) (hsmall : Builtin.Range.small a₀ b₀ 1 = true) (hn : Builtin.Range.rangeSize a₀ b₀ 1 = (n : Int)) (F : Fr h₀ L s.heap m₀) (N : News h₀ L s.heap news)
    (J : (PySem.Str → Option Value) → List (Addr × Obj) → Prop) (h0 : J m₀ news) (hJ : ∀ m' news', J m' news' → ∀ p ∈ news', ∃ q ∈ news, p.1 = q.1)
    (turn : ∀ (I : Addr) (it : Obj) (k : Int) (t : Tok) (m₁ : PySem.Str → Option Value) (news₁ : List (Addr × Obj)) (h : Heap) (tk : Nat), (∀ p ∈ news, @LT.lt Nat _ p.1 I) → J m₁ news₁ → Fr h₀ L h (fun y => if y = x then some (.int k t) else m₁ y) → News h₀ L h ((I, it) :: news₁) →
      wpAny (model prog w) A (execs body env) (RjPost h₀ L I it J { s with heap := h, toks := tk }) E { s with heap := h, toks := tk })
    (fin : ∀ m' news' h tk, J m' news' → Fr h₀ L h m' → News h₀ L h news' → Q .next { s with heap := h, toks := tk }) :
    wpAny (model prog w) A (pyIter (.ref r)) (fun it s₂ => LoopAtV prog w A h₀ env x body Q E it s₂) E s := by
  subst hL
  refine iter_rangeUnr hh hr hsmall hn F N fun I hI => ?_
  have key : ∀ (k i : Nat) (m₁ : PySem.Str → Option Value) (news₁ : List (Addr × Obj)), J m₁ news₁ → RangeRest prog w A E h₀ env x body Q s I a₀ n k i m₁ news₁ := by
    intro k
    induction k with
    | zero => intro i m₁ news₁ hj; exact RangeRest.zero fun h tk F N => fin _ _ _ _ hj F N
    | succ k ih =>
      intro i m₁ news₁ hj
      refine RangeRest.succ fun t h tk F N => wpAny_mono (turn I _ _ t m₁ news₁ h tk hI hj F N) ?_ fun _ _ e => e
      rintro f s₂ ⟨rfl, h', tk', m', news', rfl, F', N', hj'⟩
      refine ⟨h', tk', m', news', rfl, F', N', fun p hp => ?_, ih _ _ _ hj'⟩
      obtain ⟨q, hq, e⟩ := hJ _ _ hj' p hp
      rw [e]
      exact Nat.ne_of_lt (hI q hq)
  exact key n 0 m₀ news h0
/-- what a turn over a row leaves -/
def RowPost (h₀ : Heap) (L : Addr) (I : Addr) (it : Obj) (news : List (Addr × Obj)) (J : (PySem.Str → Option Value) → Prop) (s : Shared) (f : Flow) (s' : Shared) : Prop :=
  f = .next ∧ ∃ h' tk' m', s' = { s with heap := h', toks := tk' } ∧ Fr h₀ L h' m' ∧ J m' ∧ News h₀ L h' ((I, it) :: news)
abbrev rowO (u : List Nat) (x y : Int) (ta tb tc : Tok) : Obj := W.listOf #[.str (S u) ta, .int x tb, .int y tc] 0
theorem iter_rows {target : PySem.Expr} {body : List Stmt} {Q : Flow → Shared → Prop} {ax r1 r2 : Addr} {u1 u2 : List Nat} {x1 y1 x2 y2 : Int} {ta1 tb1 tc1 ta2 tb2 tc2 : Tok} {n : Nat} {m₀ : PySem.Str → Option Value} {news : List (Addr × Obj)} (RowOk : List Nat → Int → Int → Prop)
    {L : Addr} (hL : env.locals = L) (hh : A.handled = none) (F : Fr h₀ L s.heap m₀) (N : News h₀ L s.heap news) (hm : (ax, W.listOf #[.ref r1, .ref r2] n) ∈ news) (hm1 : (r1, rowO u1 x1 y1 ta1 tb1 tc1) ∈ news) (hm2 : (r2, rowO u2 x2 y2 ta2 tb2 tc2) ∈ news) (o1 : RowOk u1 x1 y1) (o2 : RowOk u2 x2 y2)
    (J : (PySem.Str → Option Value) → Prop) (hJ : J m₀)
    (turn : ∀ (news : List (Addr × Obj)) (u : List Nat) (x y : Int) (ta tb tc : Tok) (r I : Addr) (it : Obj) (m₁ : PySem.Str → Option Value) (h : Heap) (tk : Nat), RowOk u x y → J m₁ → Fr h₀ L h m₁ → News h₀ L h ((r, rowO u x y ta tb tc) :: (I, it) :: news) →
      wpAny (model prog w) A (assign target env (.ref r)) (fun _ s₂ => wpAny (model prog w) A (execs body env) (RowPost h₀ L I it news J { s with heap := h, toks := tk }) E s₂) E { s with heap := h, toks := tk })
    (fin : ∀ m' h tk, J m' → Fr h₀ L h m' → News h₀ L h news → Q .next { s with heap := h, toks := tk }) :
    wpAny (model prog w) A (pyIter (.ref ax)) (fun it s₂ => TurnsAt prog w A h₀ env target body Q E it s₂) E s := by
  subst hL
  refine iter_listTurns (vs := [.ref r1, .ref r2]) hh F N hm rfl rfl fun I hI => ?_
  have one : ∀ (u : List Nat) (x y : Int) (ta tb tc : Tok) (r : Addr) (rest : List Itm) (m₁ : PySem.Str → Option Value), (r, rowO u x y ta tb tc) ∈ news → RowOk u x y → J m₁ →
      (∀ m', J m' → ItemsRest prog w A E h₀ env target body Q s [(I, "list_iterator")] [(ax, W.listOf #[.ref r1, .ref r2] n)] rest m' news) →
      ItemsRest prog w A E h₀ env target body Q s [(I, "list_iterator")] [(ax, W.listOf #[.ref r1, .ref r2] n)] (.val (.ref r) :: rest) m₁ news := by
    intro u x y ta tb tc r rest m₁ hmr ho hj next
    refine ItemsRest.val fun h tk F' => AllObj.cons fun it hit => AllObj.nil fun N' => ?_
    have N2 : News h₀ env.locals h ((r, rowO u x y ta tb tc) :: (I, it) :: news) := fun p hp => by
      rcases List.mem_cons.mp hp with rfl | hp
      · exact N' _ (List.mem_cons_of_mem _ hmr)
      · exact N' _ hp
    refine wpAny_mono (turn news u x y ta tb tc r I it m₁ h tk ho hj F' N2) (fun _ s₂ h₂ => wpAny_mono h₂ ?_ fun _ _ e => e) fun _ _ e => e
    rintro f s₃ ⟨rfl, h', tk', m', rfl, F3, hj', N3⟩
    exact ⟨h', tk', m', news, rfl, F3, N3, fun p hp q hq => by
      rw [List.mem_singleton.mp hq]; exact Nat.ne_of_lt (hI p hp), ⟨hm, trivial⟩, next m' hj'⟩
  exact one _ _ _ _ _ _ r1 _ m₀ hm1 o1 hJ fun m' hj' => one _ _ _ _ _ _ r2 _ m' hm2 o2 hj' fun m'' hj'' => ItemsRest.zero fun h tk F N => fin _ _ _ hj'' F N
/-- a step that leaves the frame but for one name -/
def CutPost (h₀ : Heap) (L : Addr) (x : PySem.Str) (m : PySem.Str → Option Value) (V : Value → Prop) (NP : List (Addr × Obj) → Prop) (s : Shared) (f : Flow) (s' : Shared) : Prop :=
  f = .next ∧ ∃ h' tk' m' v news', s' = { s with heap := h', toks := tk' } ∧ Fr h₀ L h' m' ∧ News h₀ L h' news' ∧ NP news' ∧ V v ∧ m' x = some v ∧ ∀ z, z ≠ x → m' z = m z
theorem cut_if {M : Model} {mm : Sem Flow} {L : Addr} {x : PySem.Str} {m : PySem.Str → Option Value} {V : Value → Prop} {NP : List (Addr × Obj) → Prop} {Q : Flow → Shared → Prop}
    (h1 : wpAny M A mm (CutPost h₀ L x m V NP s) E s)
    (h2 : ∀ v news' h' tk', V v → NP news' → Fr h₀ L h' (fun z => if z = x then some v else m z) → News h₀ L h' news' → Q .next { s with heap := h', toks := tk' }) : wpAny M A mm Q E s := by
  refine wpAny_mono h1 ?_ fun _ _ e => e
  rintro f s' ⟨rfl, h', tk', m', v, news', rfl, F, N, hN, hv, hx, hz⟩
  refine h2 v news' h' tk' hv hN ?_ N
  have e : m' = fun z => if z = x then some v else m z := by
    funext z
    by_cases hzx : z = x
    · subst hzx; simp [hx]
    · simp [hzx, hz z hzx]
  rwa [e] at F
theorem two_names {m : PySem.Str → Option Value} {a b : PySem.Str} {x y : Value} (h1 : m a = some x) (h2 : m b = some y) : m = fun z => if z = a then some x else if z = b then some y else m z := by
  funext z
  by_cases ha : z = a
  · subst ha; simp [h1]
  · by_cases hb : z = b
    · subst hb; simp [ha, h2]
    · simp [ha, hb]
theorem three_names {m : PySem.Str → Option Value} {a b c : PySem.Str} {x y v : Value} (h1 : m a = some x) (h2 : m b = some y) (h3 : m c = some v) : m = fun z => if z = a then some x else if z = b then some y else if z = c then some v else m z := by
  funext z
  by_cases ha : z = a
  · subst ha; simp [h1]
  · by_cases hb : z = b
    · subst hb; simp [ha, h2]
    · by_cases hc : z = c
      · subst hc; simp [ha, hb, h3]
      · simp [ha, hb, hc]
end
def NearOk (P x y z g : Int) : Prop := (x = 0 ∧ z = 0 ∧ g = 0) ∨ IsnOk P x y z g
def PNear (news : List (Addr × Obj)) (P x y : Int) (r : Value) (n' : List (Addr × Obj)) : Prop := ∃ z g, NearOk P x y z g ∧ PReal news z g r n'
theorem near_of {P x y X Y : Int} (hP : 2 ≤ P) (hP2 : P ≤ 60) (hY : 0 < Y) (bY : Y < 2 ^ 3000) (bX : iabs X < 2 ^ 3000) (hy : 0 < y) (bx : iabs x < 2 ^ 3000) (by' : y < 2 ^ 3000) (he : X * y = x * Y) :
    RndOk P X Y ∧ NearOk P x y (rdM P X Y) (rdE P X Y) := by
  obtain ⟨n, rfl⟩ : ∃ n : Nat, P = ((n + 1 : Nat) : Int) := ⟨(P - 1).toNat, by lia⟩
  refine ⟨rnd_ok (by lia) (by lia) hY bY bX, ?_⟩
  by_cases hx : x = 0
  · subst hx
    rw [Int.zero_mul] at he
    have hX : X = 0 := by
      rcases Int.mul_eq_zero.mp he with h | h
      · exact h
      · lia
    subst hX
    exact .inl ⟨rfl, by unfold rdM; rw [if_pos rfl], by unfold rdE; rw [if_pos rfl]⟩
  have hX : X ≠ 0 := by
    rintro rfl
    rw [Int.zero_mul] at he
    rcases Int.mul_eq_zero.mp he.symm with h | h
    · exact hx h
    · lia
  refine .inr (isn_ok (by lia) (by lia) hX hY bY bX hx hy bx by' ?_ ?_)
  · unfold iabs; split <;> split
    · rw [Int.neg_mul, Int.neg_mul, he]
    · next h1 h2 =>
      have a1 := Int.mul_neg_of_neg_of_pos h1 hY
      have a2 := Int.mul_nonneg (show 0 ≤ X by lia) (show 0 ≤ y by lia)
      lia
    · next h1 h2 =>
      have a1 := Int.mul_neg_of_neg_of_pos h2 hy
      have a2 := Int.mul_nonneg (show 0 ≤ x by lia) (show 0 ≤ Y by lia)
      lia
    · exact he.symm
  · constructor
    · intro h1
      have a1 := Int.mul_pos h1 hY
      rcases Int.lt_trichotomy X 0 with h | h | h
      · have := Int.mul_neg_of_neg_of_pos h hy; lia
      · exact absurd h hX
      · exact h
    · intro h1
      have a1 := Int.mul_pos h1 hy
      rcases Int.lt_trichotomy x 0 with h | h | h
      · have := Int.mul_neg_of_neg_of_pos h hY; lia
      · exact absurd h hx
      · exact h
theorem iabs_lt {x b : Int} (h1 : -b < x) (h2 : x < b) : iabs x < b := by unfold iabs; split <;> lia
def RowOk (u : List Nat) (x y : Int) : Prop := (∃ ex, TextOk u x y ex ∧ (47 ∈ u ∨ ex = false)) ∧ 0 ≤ x ∧ 0 < y ∧ x < 2 ^ 3000 ∧ y < 2 ^ 3000
def NegOk (u2 : List Nat) (x y : Int) : Prop := (∃ u ex, TextOk u x y ex ∧ u2 = [35, 73, 45] ++ u) ∨ (∃ u, TextOk u x y false ∧ u2 = [45] ++ u.map uppC)
theorem RowOk.sl {u : List Nat} {x y : Int} (h : RowOk u x y) : NegOk ([35, 73, 45] ++ u) x y := by
  obtain ⟨⟨ex, h, _⟩, _⟩ := h; exact .inl ⟨u, ex, h, rfl⟩
theorem RowOk.nosl {u : List Nat} {x y : Int} (h : RowOk u x y) (hs : ¬ 47 ∈ u) : NegOk ([45] ++ u.map uppC) x y := by
  obtain ⟨⟨ex, h, h2⟩, _⟩ := h
  rcases h2 with h2 | rfl
  · exact absurd h2 hs
  · exact .inr ⟨u, h, rfl⟩
theorem c_pI (P x y : Int) (u : List Nat) (t t1 t2 : Tok) (h : RowOk u x y) (hP : 2 ≤ P) (hP2 : P ≤ 60) (news : List (Addr × Obj)) : Ctr 289 [.int P t, .str (S ([35, 105] ++ u)) t1, .int 10 t2] news 500 5000 (PNear news P x y) := by
  obtain ⟨⟨ex, ⟨p, q, hU, he, hp0, hq0, hp3, hq3, ha, hlen⟩, _⟩, hx0, hy0, hx3, hy3⟩ := h
  obtain ⟨r1, r2⟩ := near_of (X := 1 * p) (x := x) (y := y) hP hP2 hq0 hq3 (iabs_lt (by lia) (by lia)) hy0 (iabs_lt (by lia) (by lia)) hy3 (by rw [Int.one_mul]; exact he)
  refine (c_parI1 P ([35, 105] ++ u) (u.map lowC) p q ex t t1 t2 (by simp [lowC]) ?_ ?_ hU r1 news).mono fun r n' hr => ⟨_, _, r2, hr⟩
  · intro c hc; simp only [List.mem_append, List.mem_cons, List.not_mem_nil, or_false] at hc
    rcases hc with (rfl | rfl) | hc
    · decide
    · decide
    · exact ha c hc
  · simp only [List.length_append, List.length_cons, List.length_nil]; lia
theorem uppC_lt {c : Nat} (h : c < 128) : uppC c < 128 := by unfold uppC; split <;> lia
theorem c_pN (P x y : Int) (u : List Nat) (t t1 t2 : Tok) (h : NegOk u x y) (hx0 : 0 ≤ x) (hy0 : 0 < y) (hx3 : x < 2 ^ 3000) (hy3 : y < 2 ^ 3000) (hP : 2 ≤ P) (hP2 : P ≤ 60) (news : List (Addr × Obj)) : Ctr 289 [.int P t, .str (S u) t1, .int 10 t2] news 500 5000 (PNear news P (0 - x) y) := by
  rcases h with ⟨u, ex, ⟨p, q, hU, he, hp0, hq0, hp3, hq3, ha, hlen⟩, rfl⟩ | ⟨u, ⟨p, q, hU, he, hp0, hq0, hp3, hq3, ha, hlen⟩, rfl⟩
  · obtain ⟨r1, r2⟩ := near_of (X := -1 * p) (x := 0 - x) (y := y) hP hP2 hq0 hq3 (iabs_lt (by lia) (by lia)) hy0 (iabs_lt (by lia) (by lia)) hy3 (by rw [Int.neg_mul, Int.one_mul, Int.neg_mul, he, Int.zero_sub, Int.neg_mul])
    refine (c_parI2 P ([35, 73, 45] ++ u) (u.map lowC) p q ex t t1 t2 (by simp [lowC]) ?_ ?_ hU r1 news).mono fun r n' hr => ⟨_, _, r2, hr⟩
    · intro c hc; simp only [List.mem_append, List.mem_cons, List.not_mem_nil, or_false] at hc
      rcases hc with (rfl | rfl | rfl) | hc
      · decide
      · decide
      · decide
      · exact ha c hc
    · simp only [List.length_append, List.length_cons, List.length_nil]; lia
  · obtain ⟨r1, r2⟩ := near_of (X := -1 * p) (x := 0 - x) (y := y) hP hP2 hq0 hq3 (iabs_lt (by lia) (by lia)) hy0 (iabs_lt (by lia) (by lia)) hy3 (by rw [Int.neg_mul, Int.one_mul, Int.neg_mul, he, Int.zero_sub, Int.neg_mul])
    refine (c_parN P ([45] ++ u.map uppC) (u.map lowC) p q false t t1 t2 ?_ ?_ ?_ hU rfl r1 news).mono fun r n' hr => ⟨_, _, r2, hr⟩
    · rw [List.map_append, low_upp_map]; simp [lowC]
    · intro c hc; simp only [List.mem_append, List.mem_cons, List.not_mem_nil, or_false, List.mem_map] at hc
      rcases hc with rfl | ⟨d, hd, rfl⟩
      · decide
      · exact uppC_lt (ha d hd)
    · simp only [List.length_append, List.length_cons, List.length_nil, List.length_map]; lia
theorem c_isn (P x y z g h1 h2 : Int) (ta tb tc t1 t2 t3 t4 : Tok) (O O2 : Addr) (hn : NearOk P x y z g) (news : List (Addr × Obj)) :
    Ctr 315 [.int P ta, .int x tb, .int y tc, .ref O] ((O, instObj 70 O2) :: (O2, realObj h1 h2 z g t1 t2 t3 t4) :: news) 60 600 (PBool ((O, instObj 70 O2) :: (O2, realObj h1 h2 z g t1 t2 t3 t4) :: news) true) := by
  rcases hn with ⟨rfl, rfl, rfl⟩ | ⟨a1, a2, a3, a4, a5, a6, a7, a8, a9, a10, a11, a12, a13⟩
  · exact c_isn0 P y h1 h2 ta tb tc t1 t2 t3 t4 O O2 news
  · have b1 := a12 (4 * fullOf P z - 1) (.inl rfl)
    have b2 := a12 (4 * fullOf P z - 2) (.inr (.inl rfl))
    have b3 := a12 (4 * fullOf P z + 2) (.inr (.inr rfl))
    exact c_isn1 P x y z g h1 h2 ta tb tc t1 t2 t3 t4 O O2 a1 a2 a3 (by lia) a4 a5 a6 a7 a8 a9 a10 a11 b1.1 b2.1 b3.1 b1.2 b2.2 b3.2 a13 news
def PEx (news : List (Addr × Obj)) (x y : Int) (r : Value) (n' : List (Addr × Obj)) : Prop :=
  (y = (Int.gcd x y : Int) ∧ PInt news (x.fdiv (Int.gcd x y : Int)) r n') ∨ (¬ y = (Int.gcd x y : Int) ∧ PRatio news (x.fdiv (Int.gcd x y : Int)) (y.fdiv (Int.gcd x y : Int)) r n')
theorem c_pE (P x y : Int) (u : List Nat) (t t1 t2 : Tok) (h : RowOk u x y) (news : List (Addr × Obj)) : Ctr 289 [.int P t, .str (S ([35, 101] ++ u)) t1, .int 10 t2] news 500 5000 (PEx news x y) := by
  obtain ⟨⟨ex, ⟨p, q, hU, he, hp0, hq0, hp3, hq3, ha, hlen⟩, _⟩, hx0, hy0, hx3, hy3⟩ := h
  obtain ⟨⟨r1, r2⟩, r3, r4⟩ := int_reduce hp0 hx0 hq0 hy0 he
  have ha' : ∀ c ∈ [35, 101] ++ u, c < 128 := by
    intro c hc; simp only [List.mem_append, List.mem_cons, List.not_mem_nil, or_false] at hc
    rcases hc with (rfl | rfl) | hc
    · decide
    · decide
    · exact ha c hc
  have hl' : ([35, 101] ++ u).length ≤ 100000 := by simp only [List.length_append, List.length_cons, List.length_nil]; lia
  have hu' : ([35, 101] ++ u).map lowC = 35 :: 101 :: u.map lowC := by simp [lowC]
  have e1 : 1 * p = p := Int.one_mul p
  refine (c_parE P ([35, 101] ++ u) (u.map lowC) p q ex t t1 t2 hu' ha' hl' hU (by lia) (by rw [e1]; exact r3) (by rw [e1]; exact gcd_log hq0 hq3) news).mono fun r n' hr => ?_
  rcases hr with ⟨hc, hr⟩ | ⟨hc, hr⟩
  · rw [e1, r2] at hc; rw [e1, r1] at hr; exact .inl ⟨(one_iff hy0).mp hc, hr⟩
  · rw [e1, r2] at hc; rw [e1, r1, r2] at hr; exact .inr ⟨fun h => hc ((one_iff hy0).mpr h), hr⟩
def PRow (D C : Addr) (es : List Value) (rest : List (Addr × Obj)) (r : Value) (n' : List (Addr × Obj)) : Prop :=
  ∃ a u x y ta tb tc k1 t1 st t2, r = .ref a ∧ RowOk u x y ∧ 0 ≤ k1 ∧ (@LT.lt Nat _ D a) ∧ n' = (D, deckO C k1 t1 st t2) :: (C, W.listOf es.toArray es.length) :: (a, rowO u x y ta tb tc) :: rest
theorem c_ldec (D C : Addr) (es : List Value) (ns : List Int) (k st T0 B0 K : Int) (t1 t2 tt tb tk0 : Tok) (rest : List (Addr × Obj)) (hi : IntsAre es ns) (h0 : 0 ≤ k) (hlen : ns.length ≤ 1000) (hDC : @Ne Nat D C) (hr : ∀ p ∈ rest, p.1 ≠ D) (hT0 : 0 ≤ T0) (hT1 : T0 < 2 ^ 128) (hB0 : 1 ≤ B0) (hB1 : B0 < 2 ^ 128) (hK0 : 0 ≤ K) (hK1 : K ≤ 130) :
    Ctr 336 [.ref D, .int T0 tt, .int B0 tb, .int K tk0] ((D, deckO C k t1 st t2) :: (C, W.listOf es.toArray es.length) :: rest) 200 2000 (PRow D C es rest) := by
  have ht := ten4 K.toNat
  have hp := ten_pow_pos K.toNat
  have h520 : (2 : Int) ^ (4 * K.toNat) ≤ 2 ^ 520 := by
    have := Nat.pow_le_pow_right (show 0 < 2 by decide) (show 4 * K.toNat ≤ 520 by lia)
    exact_mod_cast this
  have hm0 : 0 ≤ T0 * 10 ^ K.toNat := Int.mul_nonneg hT0 (by lia)
  have hm1 : T0 * 10 ^ K.toNat < 2 ^ 1000 := by
    have a1 := Int.mul_le_mul_of_nonneg_left (show (10 : Int) ^ K.toNat ≤ 2 ^ 520 by lia) hT0
    have a2 := Int.mul_lt_mul_of_pos_right hT1 (show (0 : Int) < 2 ^ 520 by decide +kernel)
    have a3 : (2 : Int) ^ 128 * 2 ^ 520 < 2 ^ 1000 := by decide +kernel
    lia
  have g1 : PySem.IntMulOk T0 (10 ^ K.toNat) := mulOk_of_bits (m := 128) (n := 521) (bits_of_lt hT0 hT1) (bits_of_lt (by lia) (by
    have : (2 : Int) ^ 520 < 2 ^ 521 := by decide +kernel
    lia)) (by decide)
  have g4 : Small ((T0 * 10 ^ K.toNat).fdiv B0) := by
    rw [Int.fdiv_eq_ediv_of_nonneg _ (by lia)]
    refine ⟨Int.ediv_nonneg hm0 (by lia), ?_⟩
    exact Int.lt_of_le_of_lt (Int.ediv_le_self _ hm0) hm1
  have g3 : B0.natAbs.log2 < 9000 := by
    have : B0.natAbs < 2 ^ 128 := by
      have h : ((B0.natAbs : Nat) : Int) < ((2 ^ 128 : Nat) : Int) := by rw [Int.natAbs_of_nonneg (by lia)]; exact_mod_cast hB1
      exact Int.ofNat_lt.mp h
    have := log_lt this (by decide)
    lia
  have g5 : ((T0 * 10 ^ K.toNat).fdiv B0).natAbs.log2 < 1920 := by
    have h : ((T0 * 10 ^ K.toNat).fdiv B0).natAbs < 2 ^ 1000 := by
      have h : ((((T0 * 10 ^ K.toNat).fdiv B0).natAbs : Nat) : Int) < ((2 ^ 1000 : Nat) : Int) := by rw [Int.natAbs_of_nonneg g4.1, Int.natCast_pow]; exact g4.2
      exact Int.ofNat_lt.mp h
    have := log_lt h (by decide)
    lia
  have fin : ∀ r n', PDec D C es rest ((T0 * 10 ^ K.toNat).fdiv B0) K r n' → PRow D C es rest r n' := by
    rintro r n' ⟨a, u, ta, tb, tc, k1, s1, st', s2, rfl, hd, hk, hD, rfl⟩
    refine ⟨a, u, _, _, ta, tb, tc, k1, s1, st', s2, rfl, ⟨⟨false, dt_ok g4 hK0 hK1 hd, .inr rfl⟩, g4.1, by lia, Int.lt_trans g4.2 (pow_le3 (by decide)), ?_⟩, hk, hD, rfl⟩
    have := pow_le3 (show 520 < 3000 by decide)
    lia
  exact (c_ldecU D C es ns k st T0 B0 K t1 t2 tt tb tk0 rest hi h0 hlen hDC hr hK0 hK1 g1 (by lia) g3 g4 g5 trivial).mono fin
theorem row_ratio {h l : Int} (h0 : 0 ≤ h) (h1 : h < 2 ^ 128) (l0 : 1 ≤ l) (l1 : l < 2 ^ 128) : RowOk (sd h ++ [47] ++ sd l) h l := by
  have a : (2 : Int) ^ 128 < 2 ^ 1000 := by decide +kernel
  have b := pow_le3 (show 1000 < 3000 by decide)
  exact ⟨⟨true, ratio_ok h0 (by lia) (by lia) (by lia), .inl (by simp)⟩, h0, by lia, by lia, by lia⟩
def LawP (h₀ : Heap) (L : Addr) (s : Shared) (f : Flow) (s' : Shared) : Prop :=
  f = .ret (.bool true) ∧ ∃ h' tk m' news', s' = { s with heap := h', toks := tk } ∧ Fr h₀ L h' m' ∧ News h₀ L h' news'
theorem law_split {M : Model} {A : Around} {mm : Sem Flow} {h₀ : Heap} {L : Addr} {m : PySem.Str → Option Value} {Q : Flow → Shared → Prop} {E : Value → Shared → Prop} {s : Shared} (F : Fr h₀ L s.heap m) (N : News h₀ L s.heap [])
    (h1 : ∀ s : Shared, Fr h₀ L s.heap m → News h₀ L s.heap [] → wpAny M A mm (LawP h₀ L s) (fun _ _ => False) s)
    (h2 : ∀ h' tk' m' news', Fr h₀ L h' m' → News h₀ L h' news' → Q (.ret (.bool true)) { s with heap := h', toks := tk' }) : wpAny M A mm Q E s :=
  wpAny_mono (h1 s F N) (by rintro f s' ⟨rfl, h', tk', m', news', rfl, F', N'⟩; exact h2 _ _ _ _ F' N') (fun _ _ h => h.elim)
theorem myX {P : Params} {h : Heap} (X : (Mine.kh.heap_1_39 P).In h) : (Mine.kh.heap_1_39 P).In h := X
def Mkd (P : Prop) : Prop := P
theorem mkd {P : Prop} (h : Mkd P) : P := h
theorem mkdo {P : Prop} (h : P) : Mkd P := h
theorem nlen63 {n : Nat} (h : ¬ ((63 : Nat) : Int) < (n : Int)) : ¬ 63 < n := by lia
def VPr (v : Value) : Prop := ∃ p t, v = .int p t ∧ 2 ≤ p ∧ p ≤ 60
theorem vpr_all (t1 t2 : Tok) : ∀ v ∈ [Value.int 24 t1, .int 53 t2], VPr v := by
  intro v hv
  simp only [List.mem_cons, List.not_mem_nil, or_false] at hv
  rcases hv with rfl | rfl
  · exact ⟨_, _, rfl, by decide, by decide⟩
  · exact ⟨_, _, rfl, by decide, by decide⟩
theorem frN {D : Addr} : ∀ p ∈ ([] : List (Addr × Obj)), p.1 ≠ D := fun _ h => nomatch h
theorem news_rot4 {h₀ h : Heap} {L : Addr} {a b c d : Addr × Obj} {rest : List (Addr × Obj)} (N : News h₀ L h (a :: b :: c :: d :: rest)) : News h₀ L h (c :: d :: a :: b :: rest) :=
  news_sub N (by intro p hp; simp only [List.mem_cons] at hp ⊢; rcases hp with h | h | h | h | h <;> simp [h])
theorem news_turn {h₀ h : Heap} {L : Addr} {i d c : Addr × Obj} (N : News h₀ L h [i, d, c]) : News h₀ L h [d, c, i] := news_rot N
theorem news_back {h₀ h : Heap} {L : Addr} {i d c x : Addr × Obj} {rest : List (Addr × Obj)} (N : News h₀ L h (x :: d :: c :: i :: rest)) : News h₀ L h (x :: d :: c :: i :: rest) := N
theorem turn_small (n : Nat) : Builtin.Range.small 0 (1 + (if (24 : Int) < (n : Int) then 24 else (n : Int)).fdiv 8) 1 = true := by
  refine small_one (by decide) (by decide) ?_ ?_
  · rw [Int.fdiv_eq_ediv_of_nonneg _ (by decide)]; split <;> lia
  · rw [Int.fdiv_eq_ediv_of_nonneg _ (by decide)]; split <;> lia
def JJ (D C l : Addr) (es : List Value) (m : PySem.Str → Option Value) (news : List (Addr × Obj)) : Prop :=
  m (PySem.Str.ofString "deck") = some (.ref D) ∧ m (PySem.Str.ofString "script") = some (.ref l) ∧ ∃ k t1 st t2, 0 ≤ k ∧ news = [(D, deckO C k t1 st t2), (C, W.listOf es.toArray es.length)]
theorem JJ_addr {D C l : Addr} {es : List Value} {t1 t2 : Tok} {k st : Int} : ∀ m' news', JJ D C l es m' news' → ∀ p ∈ news', ∃ q ∈ [(D, deckO C k t1 st t2), (C, W.listOf es.toArray es.length)], p.1 = q.1 := by
  rintro m' news' ⟨_, _, k', t1', st', t2', _, rfl⟩ p hp
  simp only [List.mem_cons, List.not_mem_nil, or_false] at hp
  rcases hp with rfl | rfl
  · exact ⟨_, List.mem_cons_self .., rfl⟩
  · exact ⟨_, List.mem_cons_of_mem _ (List.mem_cons_self ..), rfl⟩
def CMark : Prop := True
def VInt (lo hi : Int) (v : Value) : Prop := ∃ p t, v = .int p t ∧ lo ≤ p ∧ p ≤ hi
def NPd (D C : Addr) (es : List Value) (rest n' : List (Addr × Obj)) : Prop := ∃ k t1 st t2, 0 ≤ k ∧ n' = (D, deckO C k t1 st t2) :: (C, W.listOf es.toArray es.length) :: rest
theorem cut_int (x : PySem.Str) (lo hi : Int) {M : Model} {A : Around} {mm : Sem Flow} {E : Value → Shared → Prop} {s : Shared} {h₀ : Heap} {L : Addr} {Q : Flow → Shared → Prop} {m : PySem.Str → Option Value} {p k st : Int} {t t1 t2 : Tok} {D C : Addr} {es : List Value} {rest : List (Addr × Obj)}
    (_F : Fr h₀ L s.heap (fun y => if y = x then some (.int p t) else m y)) (_N : News h₀ L s.heap ((D, deckO C k t1 st t2) :: (C, W.listOf es.toArray es.length) :: rest))
    (h1 : CMark → wpAny M A mm (CutPost h₀ L x m (VInt lo hi) (NPd D C es rest) s) E s)
    (h2 : ∀ p t k t1 st t2 h' tk', lo ≤ p → p ≤ hi → 0 ≤ k → Fr h₀ L h' (fun y => if y = x then some (.int p t) else m y) → News h₀ L h' ((D, deckO C k t1 st t2) :: (C, W.listOf es.toArray es.length) :: rest) → Q .next { s with heap := h', toks := tk' }) : wpAny M A mm Q E s := by
  refine cut_if (h1 trivial) ?_
  rintro v news' h' tk' ⟨p, t, rfl, hlo, hhi⟩ ⟨k, t1, st, t2, hk, rfl⟩ F N
  exact h2 p t k t1 st t2 h' tk' hlo hhi hk F N
theorem cut_end {s : Shared} {h₀ h' : Heap} {L : Addr} {x : PySem.Str} {m m' : PySem.Str → Option Value} {lo hi p k st : Int} {t t1 t2 : Tok} {D C : Addr} {es : List Value} {rest all : List (Addr × Obj)} {tk' : Nat} (F : Fr h₀ L h' m') (N : News h₀ L h' all)
    (i1 : (D, deckO C k t1 st t2) ∈ all) (i2 : (C, W.listOf es.toArray es.length) ∈ all) (hs : ∀ p ∈ rest, p ∈ all) (hx : m' x = some (.int p t)) (hz : ∀ z, z ≠ x → m' z = m z) (hk : 0 ≤ k) (hlo : lo ≤ p) (hhi : p ≤ hi) :
    CutPost h₀ L x m (VInt lo hi) (NPd D C es rest) s .next { s with heap := h', toks := tk' } := by
  refine ⟨rfl, h', tk', m', _, (D, deckO C k t1 st t2) :: (C, W.listOf es.toArray es.length) :: rest, rfl, F, ?_, ⟨k, t1, st, t2, hk, rfl⟩, ⟨p, t, rfl, hlo, hhi⟩, hx, hz⟩
  refine news_sub N fun q hq => ?_
  rcases List.mem_cons.mp hq with rfl | hq
  · exact i1
  rcases List.mem_cons.mp hq with rfl | hq
  · exact i2
  exact hs q hq
theorem rj_end {s : Shared} {h₀ h' : Heap} {L I : Addr} {it : Obj} {m' : PySem.Str → Option Value} {k st : Int} {t1 t2 : Tok} {D C l : Addr} {es : List Value} {all : List (Addr × Obj)} {tk' : Nat} (F : Fr h₀ L h' m') (N : News h₀ L h' all)
    (i0 : (I, it) ∈ all) (i1 : (D, deckO C k t1 st t2) ∈ all) (i2 : (C, W.listOf es.toArray es.length) ∈ all) (hd : m' (PySem.Str.ofString "deck") = some (.ref D)) (hs : m' (PySem.Str.ofString "script") = some (.ref l)) (hk : 0 ≤ k) :
    RjPost h₀ L I it (JJ D C l es) s .next { s with heap := h', toks := tk' } := by
  refine ⟨rfl, h', tk', m', [(D, deckO C k t1 st t2), (C, W.listOf es.toArray es.length)], rfl, F, news_sub N fun q hq => ?_, hd, hs, k, t1, st, t2, hk, rfl⟩
  simp only [List.mem_cons, List.not_mem_nil, or_false] at hq
  rcases hq with rfl | rfl | rfl
  · exact i0
  · exact i1
  · exact i2
def JR (p : Int) (tp : Tok) (D l : Addr) (m : PySem.Str → Option Value) : Prop := m (PySem.Str.ofString "precision") = some (.int p tp) ∧ m (PySem.Str.ofString "deck") = some (.ref D) ∧ m (PySem.Str.ofString "script") = some (.ref l)
theorem row_end {s : Shared} {h₀ h' : Heap} {L I : Addr} {it : Obj} {m' : PySem.Str → Option Value} {p : Int} {tp : Tok} {D l : Addr} {news all : List (Addr × Obj)} {tk' : Nat} (F : Fr h₀ L h' m') (N : News h₀ L h' all)
    (i0 : (I, it) ∈ all) (hs : ∀ p ∈ news, p ∈ all) (h1 : m' (PySem.Str.ofString "precision") = some (.int p tp)) (h2 : m' (PySem.Str.ofString "deck") = some (.ref D)) (h3 : m' (PySem.Str.ofString "script") = some (.ref l)) :
    RowPost h₀ L I it news (JR p tp D l) s .next { s with heap := h', toks := tk' } := by
  refine ⟨rfl, h', tk', m', rfl, F, ⟨h1, h2, h3⟩, news_sub N fun q hq => ?_⟩
  rcases List.mem_cons.mp hq with rfl | hq
  · exact i0
  · exact hs q hq
def ValPost (V : List Nat → Prop) (s : Shared) (v : Value) (s' : Shared) : Prop := ∃ u t tk, v = .str (S u) t ∧ V u ∧ s' = { s with toks := tk }
theorem cut_neg {M : Model} {A : Around} {mm : Sem Value} {E : Value → Shared → Prop} {s : Shared} {Q : Value → Shared → Prop} {u : List Nat} {x y : Int} (_h : RowOk u x y)
    (h1 : CMark → wpAny M A mm (ValPost (fun w => NegOk w x y) s) E s)
    (h2 : ∀ u t tk, NegOk u x y → Q (.str (S u) t) { s with toks := tk }) : wpAny M A mm Q E s := by
  refine wpAny_mono (h1 trivial) ?_ fun _ _ e => e
  rintro v s' ⟨u, t, tk, rfl, hv, rfl⟩
  exact h2 u t tk hv
theorem RowOk.asc {u : List Nat} {x y : Int} (h : RowOk u x y) : (∀ c ∈ u, c < 128) ∧ u.length ≤ 50000 := by
  obtain ⟨⟨ex, ⟨p, q, _, _, _, _, _, _, h1, h2⟩, _⟩, _⟩ := h; exact ⟨h1, h2⟩
theorem log128 {x : Int} (h0 : 0 ≤ x) (h1 : x < 2 ^ 128) : x.natAbs.log2 < 1920 := by
  have h : ((x.natAbs : Nat) : Int) < ((2 ^ 128 : Nat) : Int) := by rw [Int.natAbs_of_nonneg h0]; exact_mod_cast h1
  have := log_lt (Int.ofNat_lt.mp h) (by decide)
  lia
theorem bits_b128 {x : Int} (h1 : 1 ≤ x) (h2 : x < 2 ^ 128) : 1 ≤ (Builtin.Int.intBits x : Int) ∧ (Builtin.Int.intBits x : Int) ≤ 128 := by
  have a := bits_of_lt (by lia) h2
  have b : ¬ Builtin.Int.intBits x ≤ 0 := fun h => by
    have := bits_iff.mp h
    simp at this; lia
  lia
theorem lit_hi : PySem.Str.ofString "#i" = S [35, 105] := by decide +kernel
theorem lit_he : PySem.Str.ofString "#e" = S [35, 101] := by decide +kernel
theorem lit_hI : PySem.Str.ofString "#I-" = S [35, 73, 45] := by decide +kernel
theorem lit_mi : PySem.Str.ofString "-" = S [45] := by decide +kernel
theorem lit_sl : PySem.Str.ofString "/" = S [47] := by decide +kernel
theorem nsl_of {u : List Nat} (h : ¬ PySem.Txt.contains (S u) (PySem.Str.ofString "/") = true) : ¬ 47 ∈ u := by
  rw [lit_sl, contains_one] at h
  intro h2; exact h (decide_eq_true h2)
theorem nsl_occ {u : List Nat} (h : (Builtin.Str.occurrences (S u) (PySem.Str.ofString "/") 0 (S u).length 1).isEmpty = true) : ¬ 47 ∈ u := by
  refine nsl_of ?_
  unfold PySem.Txt.contains
  simp [h]
theorem bits_lo {x : Int} (h1 : 1 ≤ x) (h2 : x < 2 ^ 128) : 0 ≤ (Builtin.Int.intBits x : Int) - 1 := by have := bits_b128 h1 h2; lia
theorem bits_hi {x : Int} (h1 : 1 ≤ x) (h2 : x < 2 ^ 128) : (Builtin.Int.intBits x : Int) - 1 ≤ 130 := by have := bits_b128 h1 h2; lia
theorem gcd_ne {x y : Int} (h : 0 < y) : (Int.gcd x y : Int) ≠ 0 := by
  intro e
  have h2 : Int.gcd x y = 0 := by lia
  have := (Int.gcd_eq_zero_iff.mp h2).2
  lia
theorem law_end {h₀ h' : Heap} {L : Addr} {s : Shared} {m' : PySem.Str → Option Value} {all : List (Addr × Obj)} {tk' : Nat} (F : Fr h₀ L h' m') (N : News h₀ L h' all) : LawP h₀ L s (.ret (.bool true)) { s with heap := h', toks := tk' } := ⟨rfl, h', tk', m', all, rfl, F, N⟩
theorem main_law.tw5353326789494000640 : True := trivial
theorem main_law.tw8288451024833081408 : True := trivial
theorem main_law.tw16286007283082228832 : True := trivial
theorem main_law.tw12698831123145480384 : True := trivial
theorem main_law.tw7840204356795725088 : True := trivial
theorem main_law.tw5588621912574102912 : True := trivial
theorem main_law.tw1078026133495624064 : True := trivial
theorem main_law.tw4832055644069049760 : True := trivial
theorem main_law.tw11512601830586984864 : True := trivial
theorem main_law.tw15759000958072008224 : True := trivial
theorem main_law.tw13691363202591883329 : True := trivial
theorem main_law.tw6292585281606267201 : True := trivial
theorem main_law.tw9092172640725566913 : True := trivial
theorem main_law.tw11008620335029927457 : True := trivial
theorem main_law.tw11343257537259788833 : True := trivial
theorem main_law.tw15468538816765809345 : True := trivial
theorem main_law.tw12926228763779099329 : True := trivial
theorem main_law.tw17489886405493091041 : True := trivial
theorem main_law.tw10207667289669707521 : True := trivial
theorem main_law.tw4426895543505749825 : True := trivial
theorem main_law.tw13139830256603302817 : True := trivial
theorem main_law.tw1442552980992136097 : True := trivial
theorem main_law.tw7111503389054446497 : True := trivial
theorem main_law.tw8361898076728500226 : True := trivial
theorem main_law.tw916838122906174562 : True := trivial
theorem main_law.tw640559179207459042 : True := trivial
theorem main_law.tw3039817385610043650 : True := trivial
theorem main_law.tw7041495009629143362 : True := trivial
theorem main_law.tw3238362900403454370 : True := trivial
theorem main_law.tw13013281967259298274 : True := trivial
theorem main_law.tw15600094149085818370 : True := trivial
theorem main_law.tw10159316013815350850 : True := trivial
theorem main_law.tw3807665519599147618 : True := trivial
theorem main_law.tw10895646960496474818 : True := trivial
theorem main_law.tw16175019814000161602 : True := trivial
theorem main_law.tw13640835053151220578 : True := trivial
theorem main_law.tw3704344393878324194 : True := trivial
theorem main_law.tw17719240347661515843 : True := trivial
theorem main_law.tw17647192487021778051 : True := trivial
theorem main_law.tw3581713840900055171 : True := trivial
theorem main_law.tw16297620445048084771 : True := trivial
theorem main_law.tw12265014747295117827 : True := trivial
theorem main_law.tw11902179559777970947 : True := trivial
theorem main_law.tw18017102852430702339 : True := trivial
theorem main_law.tw10426699653295671267 : True := trivial
theorem main_law.tw16957473255541733380 : True := trivial
theorem main_law.tw11692519008599543908 : True := trivial
theorem main_law.tw17096413403201147076 : True := trivial
theorem main_law.tw14092630415065390404 : True := trivial
theorem main_law.tw16308715335642619268 : True := trivial
theorem main_law.tw15588262202718929508 : True := trivial
theorem main_law.tw4476992017900759748 : True := trivial
theorem main_law.tw7890550108660965092 : True := trivial
theorem main_law.tw8874528170367171364 : True := trivial
theorem main_law.tw1344487813294145380 : True := trivial
theorem main_law.tw16760280088313828228 : True := trivial
theorem main_law.tw13160317913269003140 : True := trivial
theorem main_law.tw14038431453225360356 : True := trivial
theorem main_law.tw15052635539376447460 : True := trivial
theorem main_law.tw4529246978095800357 : True := trivial
theorem main_law.tw13207718404149424293 : True := trivial
theorem main_law.tw2242323704493238533 : True := trivial
theorem main_law.tw5864911018939430181 : True := trivial
theorem main_law.tw8287924934854214981 : True := trivial
theorem main_law.tw1213435187004711237 : True := trivial
theorem main_law.tw12924294907293518213 : True := trivial
theorem main_law.tw16554954349732622725 : True := trivial
theorem main_law.tw9413719172443092389 : True := trivial
theorem main_law.tw10358653817312704933 : True := trivial
theorem main_law.tw8289996319272191429 : True := trivial
theorem main_law.tw18088614038978814565 : True := trivial
theorem main_law.tw18193491604498387717 : True := trivial
theorem main_law.tw3035465177215179653 : True := trivial
theorem main_law.tw6845650870006892453 : True := trivial
theorem main_law.tw14847187725861923813 : True := trivial
theorem main_law.tw10991049728237422565 : True := trivial
theorem main_law.tw16609251905013705766 : True := trivial
theorem main_law.tw6271120052505989254 : True := trivial
theorem main_law.tw8908357357339859270 : True := trivial
theorem main_law.tw830100318205894246 : True := trivial
theorem main_law.tw13801887226015425222 : True := trivial
theorem main_law.tw17673818151441840870 : True := trivial
theorem main_law.tw8431041271433037638 : True := trivial
theorem main_law.tw6050420063670374246 : True := trivial
theorem main_law.tw7850594328292961158 : True := trivial
theorem main_law.tw6119022850491463558 : True := trivial
theorem main_law.tw15670040771272926086 : True := trivial
theorem main_law.tw18414911498218246118 : True := trivial
theorem main_law.tw14029786210118914022 : True := trivial
theorem main_law.tw9826609663811313638 : True := trivial
theorem main_law.tw14073985508804964455 : True := trivial
theorem main_law.tw16959561582339946599 : True := trivial
theorem main_law.tw9495027064225608007 : True := trivial
theorem main_law.tw18001747364475468199 : True := trivial
theorem main_law.tw10434648222827880935 : True := trivial
theorem main_law.tw16988780754823921159 : True := trivial
theorem main_law.tw662632512778647335 : True := trivial
theorem main_law.tw9317050211137671975 : True := trivial
theorem main_law.tw187005721817407560 : True := trivial
theorem main_law.tw10301515683172179080 : True := trivial
theorem main_law.tw2967029190297752840 : True := trivial
theorem main_law.tw12452175127523618056 : True := trivial
theorem main_law.tw15282857024069473640 : True := trivial
theorem main_law.tw13769864983697845608 : True := trivial
theorem main_law.tw14161096145371436424 : True := trivial
theorem main_law.tw8576731459629568552 : True := trivial
theorem main_law.tw11406156052087351944 : True := trivial
theorem main_law.tw15589622047800037096 : True := trivial
theorem main_law.tw4789102298219366312 : True := trivial
theorem main_law.tw17384968546999130217 : True := trivial
theorem main_law.tw1876702586818410633 : True := trivial
theorem main_law.tw4485890691264051401 : True := trivial
theorem main_law.tw6905574881165052201 : True := trivial
theorem main_law.tw861979655010901641 : True := trivial
theorem main_law.tw6627948293009315497 : True := trivial
theorem main_law.tw11344668301598812873 : True := trivial
theorem main_law.tw5145810062204999401 : True := trivial
theorem main_law.tw13452847242972338057 : True := trivial
theorem main_law.tw8822175357041293418 : True := trivial
theorem main_law.tw5502105838628023498 : True := trivial
theorem main_law.tw1491254348787290378 : True := trivial
theorem main_law.tw15498881130108479850 : True := trivial
theorem main_law.tw4837578159452390858 : True := trivial
theorem main_law.tw14547164390049841610 : True := trivial
theorem main_law.tw1765962772559403562 : True := trivial
theorem main_law.tw8501466704431552202 : True := trivial
theorem main_law.tw52432729963845354 : True := trivial
theorem main_law.tw15669032683269072714 : True := trivial
theorem main_law.tw15137370965591084043 : True := trivial
theorem main_law.tw13345559440158255179 : True := trivial
theorem main_law.tw5050812948931593515 : True := trivial
theorem main_law.tw9806116567328875883 : True := trivial
theorem main_law.tw11565611501933922731 : True := trivial
theorem main_law.tw7394612988828685739 : True := trivial
theorem main_law.tw2963061217832003019 : True := trivial
theorem main_law.tw15298461080173736459 : True := trivial
theorem main_law.tw17101045055237343979 : True := trivial
theorem main_law.tw16608322991080319755 : True := trivial
theorem main_law.tw8427367723230099243 : True := trivial
theorem main_law.tw12882720935077284908 : True := trivial
theorem main_law.tw9038132026388669548 : True := trivial
theorem main_law.tw8685041732657909100 : True := trivial
theorem main_law.tw8800008919730258316 : True := trivial
theorem main_law.tw1982817364526372300 : True := trivial
theorem main_law.tw14805507764386972140 : True := trivial
theorem main_law.tw9331339665354660524 : True := trivial
theorem main_law.tw7671161637319807692 : True := trivial
theorem main_law.tw10121133911094827756 : True := trivial
theorem main_law.tw3853287361600127788 : True := trivial
theorem main_law.tw1177755680426109740 : True := trivial
theorem main_law.tw13504126808124617676 : True := trivial
theorem main_law.tw18343058360681183212 : True := trivial
theorem main_law.tw12978469771230106637 : True := trivial
theorem main_law.tw9581690877128110125 : True := trivial
theorem main_law.tw13985277231109061741 : True := trivial
theorem main_law.tw18361000930040559917 : True := trivial
theorem main_law.tw16871939297608399149 : True := trivial
theorem main_law.tw7647389682234769837 : True := trivial
theorem main_law.tw11338232338888868301 : True := trivial
theorem main_law.tw1587078046754904557 : True := trivial
theorem main_law.tw13501277816834227949 : True := trivial
theorem main_law.tw1315633782200617773 : True := trivial
theorem main_law.tw11951096566971078509 : True := trivial
theorem main_law.tw4642305813326540717 : True := trivial
theorem main_law.tw8783266733319941037 : True := trivial
theorem main_law.tw16372249015720500173 : True := trivial
theorem main_law.tw7943257429101128846 : True := trivial
theorem main_law.tw13627970575961097454 : True := trivial
theorem main_law.tw8021522776792985838 : True := trivial
theorem main_law.tw5388619771488064878 : True := trivial
theorem main_law.tw8988552698228312494 : True := trivial
theorem main_law.tw8979877789544725934 : True := trivial
theorem main_law.tw10708498359814229454 : True := trivial
theorem main_law.tw3663406195790503598 : True := trivial
theorem main_law.tw1941748643372658382 : True := trivial
theorem main_law.tw17590814252520325006 : True := trivial
theorem main_law.tw15411426729849243598 : True := trivial
theorem main_law.tw2040995526116782095 : True := trivial
theorem main_law.tw4396538175457625199 : True := trivial
theorem main_law.tw12792513184576901391 : True := trivial
theorem main_law.tw6698979970770784559 : True := trivial
theorem main_law.tw6254001536475467279 : True := trivial
theorem main_law.tw7773193203782448655 : True := trivial
theorem main_law.tw898498796292447887 : True := trivial
theorem main_law.tw13640517522323398287 : True := trivial
theorem main_law.tw10180289444548343599 : True := trivial
theorem main_law.tw7373567077461374863 : True := trivial
theorem main_law.tw12036528885032745903 : True := trivial
theorem main_law.tw7072244913515454480 : True := trivial
theorem main_law.tw18354005608794056848 : True := trivial
theorem main_law.tw13443458070625012976 : True := trivial
theorem main_law.tw13417270991266615632 : True := trivial
theorem main_law.tw7404320845577062864 : True := trivial
theorem main_law.tw11277533200462911952 : True := trivial
theorem main_law.tw16541177496861496816 : True := trivial
theorem main_law.tw17901511531774875248 : True := trivial
theorem main_law.tw16684165022434844272 : True := trivial
theorem main_law.tw5705361161798644432 : True := trivial
theorem main_law.tw11223615384662488912 : True := trivial
theorem main_law.tw11876654407063538544 : True := trivial
theorem main_law.tw6159682534346271696 : True := trivial
theorem main_law.tw10898662669078090704 : True := trivial
theorem main_law.tw6120617864022503601 : True := trivial
theorem main_law.tw12006007678664152593 : True := trivial
theorem main_law.tw13216514687475604145 : True := trivial
theorem main_law.tw7763561671615140561 : True := trivial
theorem main_law.tw5340238847751742449 : True := trivial
theorem main_law.tw4786276955754096914 : True := trivial
theorem main_law.tw14706074144420472114 : True := trivial
theorem main_law.tw17149351397552047506 : True := trivial
theorem main_law.tw11816212873047868882 : True := trivial
theorem main_law.tw5295914041472728626 : True := trivial
theorem main_law.tw8276876575224774322 : True := trivial
theorem main_law.tw5528052050580724562 : True := trivial
theorem main_law.tw16074811975460281170 : True := trivial
theorem main_law.tw8917252461742809107 : True := trivial
theorem main_law.tw15256610629835806739 : True := trivial
theorem main_law.tw6545255089567754483 : True := trivial
theorem main_law.tw3412839808482551059 : True := trivial
theorem main_law.tw1585988687934816563 : True := trivial
theorem main_law.tw12824004496626932019 : True := trivial
theorem main_law.tw4019228787786408499 : True := trivial
theorem main_law.tw14852339249376343667 : True := trivial
theorem main_law.tw17080531086152120979 : True := trivial
theorem main_law.tw15054136229613229747 : True := trivial
theorem main_law.tw12984190096122927891 : True := trivial
theorem main_law.tw8929398946279688979 : True := trivial
theorem main_law.tw16099463249315408851 : True := trivial
theorem main_law.tw1626802335490295860 : True := trivial
theorem main_law.tw12444036595637010676 : True := trivial
theorem main_law.tw8962385097532271892 : True := trivial
theorem main_law.tw14254211337178286388 : True := trivial
theorem main_law.tw1676532013534000468 : True := trivial
theorem main_law.tw5860846804142538100 : True := trivial
theorem main_law.tw4449525720006252980 : True := trivial
theorem main_law.tw16359476435701988788 : True := trivial
theorem main_law.tw5350220646533860820 : True := trivial
theorem main_law.tw17181927476415188500 : True := trivial
theorem main_law.tw3267097829074763508 : True := trivial
theorem main_law.tw2350042637993798516 : True := trivial
theorem main_law.tw10974432331023935380 : True := trivial
theorem main_law.tw18061664619833975700 : True := trivial
theorem main_law.tw15396427993869498292 : True := trivial
theorem main_law.tw970781094822838325 : True := trivial
theorem main_law.tw992418245016069237 : True := trivial
theorem main_law.tw4028102288673434837 : True := trivial
theorem main_law.tw8025597811596456469 : True := trivial
theorem main_law.tw11419777614355012213 : True := trivial
theorem main_law.tw12904734418095327861 : True := trivial
theorem main_law.tw5811870045959716469 : True := trivial
theorem main_law.tw2468621491830868629 : True := trivial
theorem main_law.tw7124734291283883701 : True := trivial
theorem main_law.tw4388813895683842837 : True := trivial
theorem main_law.tw7620470246191451989 : True := trivial
theorem main_law.tw4202158787842144117 : True := trivial
theorem main_law.tw14407393874624642005 : True := trivial
theorem main_law.tw2255437313041451062 : True := trivial
theorem main_law.tw16747876854032489558 : True := trivial
theorem main_law.tw3093320345826289846 : True := trivial
theorem main_law.tw2003905744946825462 : True := trivial
theorem main_law.tw15567942915650383094 : True := trivial
theorem main_law.tw12395616120061132182 : True := trivial
theorem main_law.tw9887831065935326838 : True := trivial
theorem main_law.tw10363282163892160182 : True := trivial
theorem main_law.tw13986797781593057303 : True := trivial
theorem main_law.tw4446840693164827703 : True := trivial
theorem main_law.tw546474150443951191 : True := trivial
theorem main_law.tw4191183842421697655 : True := trivial
theorem main_law.tw6739212129233368247 : True := trivial
theorem main_law.tw9468068228965644535 : True := trivial
theorem main_law.tw15441263504960057719 : True := trivial
theorem main_law.tw11250198318855945687 : True := trivial
theorem main_law.tw13687877895448012279 : True := trivial
theorem main_law.tw15511409785521446423 : True := trivial
theorem main_law.tw12013131330337730071 : True := trivial
theorem main_law.tw8512675887166452247 : True := trivial
theorem main_law.tw13566461913770884759 : True := trivial
theorem main_law.tw15213542770847290007 : True := trivial
theorem main_law.tw8328550422021959575 : True := trivial
theorem main_law.tw17055984969882478519 : True := trivial
theorem main_law.tw12556127363711728567 : True := trivial
theorem main_law.tw17610874973069683671 : True := trivial
theorem main_law.tw2763757887628007512 : True := trivial
theorem main_law.tw16931371485973662840 : True := trivial
theorem main_law.tw16303022656503719128 : True := trivial
theorem main_law.tw6450007583688095000 : True := trivial
theorem main_law.tw13136009032543505080 : True := trivial
theorem main_law.tw2445446751080901336 : True := trivial
theorem main_law.tw13761647215050974008 : True := trivial
theorem main_law.tw10114663524821707961 : True := trivial
theorem main_law.tw17565018049709503737 : True := trivial
theorem main_law.tw17410375447638996249 : True := trivial
theorem main_law.tw11253679141724891481 : True := trivial
theorem main_law.tw17345624807135613337 : True := trivial
theorem main_law.tw8869780150625806809 : True := trivial
theorem main_law.tw7468204969562136089 : True := trivial
theorem main_law.tw109999001256780313 : True := trivial
theorem main_law.tw12020293476476516921 : True := trivial
theorem main_law.tw14754399581943492217 : True := trivial
theorem main_law.tw1547653816532681369 : True := trivial
theorem main_law.tw3084375833473715865 : True := trivial
theorem main_law.tw9683922868615289529 : True := trivial
theorem main_law.tw15080669434243068633 : True := trivial
theorem main_law.tw3324560929160861401 : True := trivial
theorem main_law.tw13758334501987462937 : True := trivial
theorem main_law.tw11018376735794205497 : True := trivial
theorem main_law.tw11652488503726682041 : True := trivial
theorem main_law.tw16872069560838238394 : True := trivial
theorem main_law.tw4683529176022350010 : True := trivial
theorem main_law.tw224835876299160858 : True := trivial
theorem main_law.tw7169100296650739034 : True := trivial
theorem main_law.tw457594037991308762 : True := trivial
theorem main_law.tw3735669402924798490 : True := trivial
theorem main_law.tw18104150276386245242 : True := trivial
theorem main_law.tw17008480732870085402 : True := trivial
theorem main_law.tw14569483998293321562 : True := trivial
theorem main_law.tw17045998893479331706 : True := trivial
theorem main_law.tw1744327996418068571 : True := trivial
theorem main_law.tw858303607373789307 : True := trivial
theorem main_law.tw13560192915540379771 : True := trivial
theorem main_law.tw15712292822109926715 : True := trivial
theorem main_law.tw3993256444115906907 : True := trivial
theorem main_law.tw6016114268149045627 : True := trivial
theorem main_law.tw13357139969324275131 : True := trivial
theorem main_law.tw12514139331367454171 : True := trivial
theorem main_law.tw16033796462886837723 : True := trivial
theorem main_law.tw5230168669133735707 : True := trivial
theorem main_law.tw17144854883367821179 : True := trivial
theorem main_law.tw12950523646536481787 : True := trivial
theorem main_law.tw17279658753926779899 : True := trivial
theorem main_law.tw4795194123435447420 : True := trivial
theorem main_law.tw4021316619011993756 : True := trivial
theorem main_law.tw5481643715258063164 : True := trivial
theorem main_law.tw9181495133003623740 : True := trivial
theorem main_law.tw11016783120338638492 : True := trivial
theorem main_law.tw15022178586666424028 : True := trivial
theorem main_law.tw15073254508346500828 : True := trivial
theorem main_law.tw12701361779100597052 : True := trivial
theorem main_law.tw6444935360635959100 : True := trivial
theorem main_law.tw3419093014431261532 : True := trivial
theorem main_law.tw6388159089620462460 : True := trivial
theorem main_law.tw3592502925901114332 : True := trivial
theorem main_law.tw13213009938832576605 : True := trivial
theorem main_law.tw6221319284851421309 : True := trivial
theorem main_law.tw17585736440321494365 : True := trivial
theorem main_law.tw6477117366899672445 : True := trivial
theorem main_law.tw7542935843937122685 : True := trivial
theorem main_law.tw9317643448646461853 : True := trivial
theorem main_law.tw6192539497889950109 : True := trivial
theorem main_law.tw5122930304085880381 : True := trivial
theorem main_law.tw20008720620835421 : True := trivial
theorem main_law.tw11216996987831386845 : True := trivial
theorem main_law.tw8686169790517143549 : True := trivial
theorem main_law.tw10721595893530235006 : True := trivial
theorem main_law.tw11614509275703221406 : True := trivial
theorem main_law.tw16009792786298581246 : True := trivial
theorem main_law.tw12854191353204107582 : True := trivial
theorem main_law.tw8664850713471145342 : True := trivial
theorem main_law.tw14098094135884746334 : True := trivial
theorem main_law.tw3967574190603234014 : True := trivial
theorem main_law.tw16178597560514998142 : True := trivial
theorem main_law.tw7132661392657392703 : True := trivial
theorem main_law.tw15278204504836372639 : True := trivial
theorem main_law.tw2091963006989219039 : True := trivial
theorem main_law.tw17614354631040383359 : True := trivial
theorem main_law.tw8277060195726779807 : True := trivial
theorem main_law.tw3880831689195804095 : True := trivial
theorem main_law.tw13117946467216291327 : True := trivial
theorem main_law.tw17443790467866220063 : True := trivial
theorem main_law.tw16495248484853580479 : True := trivial
theorem main_law.tw14496189835761362751 : True := trivial
theorem main_law.tw9988225645199122399 : True := trivial
theorem main_law.tw10376889787374487519 : True := trivial
theorem main_law.tw18041705412443217775 : True := trivial
section
local macro_rules | `(tactic| walk_at "exec For Tuple Name cons nil") => `(tactic| (k_here; (rename Fr _ _ _ _ => lF'); (with_unfolding_all refine' For_turns lF' ?_; k_whole)))
local macro_rules | `(tactic| walk_at "exec For Name Call cons nil") => `(tactic| (k_here; (rename Fr _ _ _ _ => lF'); (with_unfolding_all refine' For_invVF lF' ?k1 ?k2 ?_; (case k1 => exact rfl); (case k2 => exact rfl); k_whole)))
set_option Elab.async true
local macro_rules | `(tactic| walk_at "pyIter ref") => `(tactic| (k_here; refine mkd ?_))
local macro_rules | `(tactic| walk_at "exec If") => `(tactic| (k_here; (with_reducible show wpAny _ _ (exec (Stmt.If (Expr.BoolOp BoolOp.And _ _) _ _ _) _) _ _ _); (fail_if_success (rename CMark => hm9)); refine mkd ?_))
local macro_rules | `(tactic| walk_at "eval IfExp") => `(tactic| (k_here; (fail_if_success (rename CMark => hm9)); refine mkd ?_))
local macro_rules | `(tactic| walk_at "call builtin:str.upper cons nil") => `(tactic| (k_here; refine mkd ?_))
local macro_rules | `(tactic| walk_at "binaryOp Add str str") => `(tactic| (k_here; refine mkd ?_))
local macro_rules | `(tactic| walk_at "call type:str") => `(tactic| (k_here; refine mkd ?_))
local macro_rules | `(tactic| walk_at "call ref cons nil") => `(tactic| (k_here; refine mkd ?_))
theorem main_law : PySem.Challenge.rw_nt0169_01.Holds := by
  w_on
  o_law
  k_head
  (case hw => w_witness2)
  w_top off
  k_go0
  (all_goals try k_fold)
  rename Dflts _ _ _ _ _ _ => hD9
  rename Heap.CodeRec _ _ _ => hcd9
  clear hD9 hcd9
  (rename TopE _ _ _ _ => hTE9); clear hTE9
  (rename TopW _ _ _ => hTW9); clear hTW9
  (rename BMod _ _ _ _ _ => hBM9); clear hBM9
  (rename Tables _ _ _ _ => hTb9); clear hTb9
  (rename ReadsAllW _ _ _ _ _ _ => h9); clear h9
  (rename Reads _ _ _ _ => h9); clear h9
  (rename Well _ _ _ _ => h9); clear h9
  (rename ReadsAll _ _ _ _ => h9); clear h9
  dsimp only
  rename Fr _ _ _ _ => F
  rename News _ _ _ _ => N
  refine' law_split F N ?walk ?fin
  case fin =>
    intro h' tk' m' news' F' N'
    clear F N
    dsimp only
    k_end
    wrow_close
  case walk =>
    clear F N
    rename Shared => s1
    (rename Frag.In _ _ => X8)
    (rename Top _ _ _ _ _ _ => T8)
    (rename Below _ _ _ _ => B9)
    (rename Heap.IsList _ _ _ => hl9)
    (rename IntsAre _ _ => hi9)
    (rename ¬ _ < _ => hlen9)
    try ((rename Ground _ _ _ _ _ _ _ _ _ => g9); clear g9)
    try ((rename Glob _ _ _ _ _ _ _ _ => g9); clear g9)
    try ((rename Flt.MathXP _ _ _ => g9); clear g9)
    try ((rename LooseAre _ _ _ => g9); clear g9)
    try ((rename Hook.says _ _ _ => g9); clear g9)
    try ((rename Heap.get? _ _ = _ => g9); clear g9)
    try ((rename Shape.has _ _ = _ => g9); clear g9)
    try ((rename PyData.layableAll0 _ = _ => g9); clear g9)
    try ((rename PyData.layable0 _ = _ => g9); clear g9)
    try ((rename WShape.hasAll _ _ _ = _ => g9); clear g9)
    try ((rename WData.layableAll _ = _ => g9); clear g9)
    try ((rename Shared.gens _ = _ => g9); clear g9)
    try ((rename True => g9); clear g9)
    (try dsimp only [Top.heap] at B9)
    have X9 := myX X8
    have T9 : MyTop _ _ _ _ := T8
    clear X8 T8
    generalize s1.heap.objs.size = L9 at *
    generalize s1.heap = h₀ at *
    intro s F N
    dsimp only [List.reverse, List.reverseAux] at F
    (try k_fold)
    repeat' (first | (k_unfold; (try dsimp only)) | walk1 | ((with_reducible refine mkdo ?_); first | (k_here; (with_reducible show wpAny _ _ (pyIter (Value.ref _)) _ _ _); with_reducible ((with_reducible show wpAny _ _ (pyIter (Value.ref _)) (fun it s₂ => LoopAtV _ _ _ _ _ _ _ _ _ it s₂) _ _); (rename IsRange _ _ _ _ _ _ _ _ => lR'); (rename Fr _ _ _ _ => lF'); (rename News _ _ _ _ => lN'); k_dflt ((with_unfolding_all refine' iter_rangeJ ?zhL ?zhh lR' ?zhs ?zhn lF' lN' (JJ _ _ _ _) ?zj0 JJ_addr ?zturn ?zfin); (case zhL => exact rfl); (case zhh => rfl); (case zhs => exact (turn_small _)); (case zhn => exact rangeSize_nat _ _); (case zj0 => exact ⟨rfl, rfl, _, _, _, _, Int.le_refl _, rfl⟩); (case' zturn => (clear lR' lF' lN'; intro I9 it9 k9 t9 m9 news9 h9 tk9 hI9 hj9 F9 N9; (obtain ⟨hd9, hs9, kk9, ta9, st9, tb9, hk9, e9⟩ := hj9); subst e9; (have hDI9 := hI9 _ (List.mem_cons_self ..)); clear hI9; dsimp only at hDI9; rw [two_names hd9 hs9] at F9; clear hd9 hs9; (replace N9 := news_turn N9); (try dsimp only); (try k_fold))); (case' zfin => (intro m9 news9 h9 tk9 hj9 F9 N9; (obtain ⟨hd9, hs9, kk9, ta9, st9, tb9, hk9, e9⟩ := hj9); subst e9; (try dsimp only); (try k_fold)))))) | (k_here; (with_reducible show wpAny _ _ (pyIter (Value.ref _)) _ _ _); with_reducible ((try dsimp only); (with_reducible show wpAny _ _ (pyIter (Value.ref _)) (fun it s₂ => TurnsAt _ _ _ _ _ _ _ _ _ it s₂) _ _); (rename Fr _ _ _ _ => lF'); (rename News _ _ _ _ => lN'); k_dflt ((with_unfolding_all refine' iter_rows RowOk ?zhL ?zhh lF' lN' ?zhm ?zhm1 ?zhm2 ?zo1 ?zo2 (JR _ _ _ _) ?zhJ ?zturnb ?zfinb); (case zhL => exact rfl); (case zhh => rfl); (case zhm => k_mem); (case zhm1 => k_mem); (case zhm2 => k_mem); (case zo1 => first | assumption | exact row_ratio (by assumption) (by assumption) (by assumption) (by assumption)); (case zo2 => assumption); (case zhJ => exact ⟨by with_unfolding_all rfl, by with_unfolding_all rfl, by with_unfolding_all rfl⟩); (case' zturnb => (clear lF' lN'; intro news7 u7 x7 y7 ta7 tb7 tc7 r7 I7 it7 m7 h7 tk7 ho7 hj7 F7 N7; (obtain ⟨hp7, hd7, hs7⟩ := hj7); rw [three_names hp7 hd7 hs7] at F7; clear hp7 hd7 hs7; (obtain ⟨ha7, hl7⟩ := ho7.asc); (obtain ⟨hx7, hy7, hx8, hy8⟩ := ho7.2); (have hg7 := gcd_ne (x := x7) hy7); (try dsimp only); (try k_fold))); (case' zfinb => (clear lF' lN'; intro m7 h7 tk7 hj7 F7 N7; (obtain ⟨hp7, hd7, hs7⟩ := hj7); rw [three_names hp7 hd7 hs7] at F7; clear hp7 hd7 hs7; (try dsimp only); (try k_fold)))))) | (k_here; (with_reducible show wpAny _ _ (exec (Stmt.If _ _ _ _) _) _ _ _); (with_reducible show wpAny _ _ (exec (Stmt.If (Expr.BoolOp BoolOp.And _ _) _ _ _) _) _ _ _); with_reducible ((try dsimp only); (fail_if_success (rename CMark => hm9)); (rename Fr _ _ _ _ => lF'); (rename News _ _ _ _ => lN'); k_dflt (refine' cut_int (PySem.Str.ofString "many") 0 130 lF' lN' (fun hm8 => ?_) (fun p8 t8 k8 ta8 st8 tb8 h8 tk8 hlo8 hhi8 hk8 F8 N8 => ?_)); (all_goals (try dsimp only)); (all_goals (try k_fold)))) | (k_here; (with_reducible show wpAny _ _ (exec (Stmt.If _ _ _ _) _) _ _ _); (with_reducible show wpAny _ _ (exec (Stmt.If (Expr.BoolOp BoolOp.And _ _) _ _ _) _) _ _ _); with_reducible ((try dsimp only); (fail_if_success (rename CMark => hm9)); (rename Fr _ _ _ _ => lF'); (rename News _ _ _ _ => lN'); k_dflt (refine' cut_int (PySem.Str.ofString "precision") 2 60 lF' lN' (fun hm8 => ?_) (fun p8 t8 k8 ta8 st8 tb8 h8 tk8 hlo8 hhi8 hk8 F8 N8 => ?_)); (all_goals (try dsimp only)); (all_goals (try k_fold)))) | (k_here; (with_reducible show wpAny _ _ (eval (Expr.IfExp _ _ _ _) _) _ _ _); with_reducible ((try dsimp only); (fail_if_success (rename CMark => hm9)); (rename RowOk _ _ _ => hro'); k_dflt (refine' cut_neg hro' (fun hm8 => ?_) (fun u7 t7 tk7 hng7 => ?_)); (all_goals (try dsimp only)); (all_goals (try k_fold)))) | (k_here; (with_reducible show wpAny _ _ (call (Value.builtin "str.upper") (_ :: _)) _ _ _); with_reducible (k_dflt (refine' r_upper rfl ?zha ?zhl ?_; (case zha => assumption); (case zhl => first | assumption | lia); k_whole); intro _ _)) | (k_here; (with_reducible show wpAny _ _ (binaryOp Operator.Add (Value.str _ _) (Value.str _ _)) _ _ _); with_reducible (k_dflt (refine' r_add2 ?zhx ?zhy ?zhl ?_; (case zhx => first | with_reducible exact rfl | with_reducible exact lit_hi | with_reducible exact lit_he | with_reducible exact lit_hI | with_reducible exact lit_mi | with_reducible exact lit_sl); (case zhy => first | with_reducible exact rfl | with_reducible exact lit_hi | with_reducible exact lit_he | with_reducible exact lit_hI | with_reducible exact lit_mi | with_reducible exact lit_sl); (case zhl => first | assumption | lia | (simp only [List.length_append, List.length_cons, List.length_nil, List.length_map]; lia)); k_whole); intro _ _)) | (k_here; (with_reducible show wpAny _ _ (call (Value.type "str") (_ :: _)) _ _ _); (with_reducible show wpAny _ _ (call (Value.type "str") [Value.int _ _]) _ _ _); with_reducible (k_dflt (refine' r_str ?zhx ?_; (case zhx => first | assumption | exact log128 (by assumption) (by assumption) | exact log128 (by lia) (by assumption)); k_whole); intro _ _ _)) | (k_here; (with_reducible show wpAny _ _ (call (Value.ref 315) (_ :: _)) _ _ _); with_reducible (k_dflt (refine' use (c_isn _ _ _ _ _ _ _ _ _ _ _ _ _ _ _ _ ?zp1 _) ?zk1 ?zk2 ?zk3 ?zk4 ?zk5 ?zk6 ?zk7 ?zk8 ?_; (case zk1 => k_asm); (case zk2 => k_asm); (case zk3 => k_asm); (case zk4 => k_asm); (case zk5 => k_asm); (case zk6 => first | exact rfl | assumption); (case zk7 => ktr_room); (case zk8 => ktr_units); (case zp1 => assumption); k_whole); intro r9 h9 tk9 n9 F9 N9 p9; k_dflt (obtain ⟨e9, e8⟩ := p9; subst e9; subst e8); (try dsimp only); (try k_sweep); (try k_fold))) | (k_here; (with_reducible show wpAny _ _ (call (Value.ref 289) (_ :: _)) _ _ _); with_reducible (k_dflt (refine' use (c_pE _ _ _ _ _ _ _ ?zp1 _) ?zk1 ?zk2 ?zk3 ?zk4 ?zk5 ?zk6 ?zk7 ?zk8 ?_; (case zk1 => k_asm); (case zk2 => k_asm); (case zk3 => k_asm); (case zk4 => k_asm); (case zk5 => k_asm); (case zk6 => first | exact rfl | assumption); (case zk7 => ktr_room); (case zk8 => ktr_units); (case zp1 => assumption); k_whole); intro r9 h9 tk9 n9 F9 N9 p9; k_dflt (rcases p9 with ⟨hc9, e9, t9, e8⟩ | ⟨hc9, x9, d9, ha9, hb9, ta9, tb9, tc9, td9, e8, e9, l9, l8⟩ <;> (subst e9; subst e8; (try simp only [AllLt, and_true] at l9))); (try dsimp only); (try k_sweep); (try k_fold))) | (k_here; (with_reducible show wpAny _ _ (call (Value.ref 289) (_ :: _)) _ _ _); with_reducible (k_dflt (refine' use (c_pN _ _ _ _ _ _ _ ?zp1 ?zp2 ?zp3 ?zp4 ?zp5 ?zp6 ?zp7 _) ?zk1 ?zk2 ?zk3 ?zk4 ?zk5 ?zk6 ?zk7 ?zk8 ?_; (case zk1 => k_asm); (case zk2 => k_asm); (case zk3 => k_asm); (case zk4 => k_asm); (case zk5 => k_asm); (case zk6 => first | exact rfl | assumption); (case zk7 => ktr_room); (case zk8 => ktr_units); (case zp1 => assumption); (case zp2 => assumption); (case zp3 => assumption); (case zp4 => assumption); (case zp5 => assumption); (case zp6 => assumption); (case zp7 => assumption); k_whole); intro r9 h9 tk9 n9 F9 N9 p9; k_dflt (obtain ⟨z9, g9, hn9, x9, d9, ha9, hb9, ta9, tb9, tc9, td9, e8, e9, l9, l8⟩ := p9; subst e9; subst e8; (try simp only [AllLt, and_true] at l9)); (try dsimp only); (try k_sweep); (try k_fold))) | (k_here; (with_reducible show wpAny _ _ (call (Value.ref 289) (_ :: _)) _ _ _); with_reducible (k_dflt (refine' use (c_pI _ _ _ _ _ _ _ ?zp1 ?zp2 ?zp3 _) ?zk1 ?zk2 ?zk3 ?zk4 ?zk5 ?zk6 ?zk7 ?zk8 ?_; (case zk1 => k_asm); (case zk2 => k_asm); (case zk3 => k_asm); (case zk4 => k_asm); (case zk5 => k_asm); (case zk6 => first | exact rfl | assumption); (case zk7 => ktr_room); (case zk8 => ktr_units); (case zp1 => assumption); (case zp2 => assumption); (case zp3 => assumption); k_whole); intro r9 h9 tk9 n9 F9 N9 p9; k_dflt (obtain ⟨z9, g9, hn9, x9, d9, ha9, hb9, ta9, tb9, tc9, td9, e8, e9, l9, l8⟩ := p9; subst e9; subst e8; (try simp only [AllLt, and_true] at l9)); (try dsimp only); (try k_sweep); (try k_fold))) | (k_here; (with_reducible show wpAny _ _ (call (Value.ref 336) (_ :: _)) _ _ _); with_reducible (k_dflt (refine' use (c_ldec _ _ _ _ _ _ _ _ _ _ _ _ _ _ _ ?zp1 ?zp2 ?zp3 ?zp4 ?zp5 ?zp6 ?zp7 ?zp8 ?zp9 ?zp10 ?zp11) ?zk1 ?zk2 ?zk3 ?zk4 ?zk5 ?zk6 ?zk7 ?zk8 ?_; (case zk1 => k_asm); (case zk2 => k_asm); (case zk3 => k_asm); (case zk4 => first | k_asm | exact news_rot (by k_asm) | exact news_rot4 (by k_asm)); (case zk5 => k_asm); (case zk6 => first | exact rfl | assumption); (case zk7 => ktr_room); (case zk8 => ktr_units); (case zp1 => assumption); (case zp2 => first | assumption | decide | lia); (case zp3 => assumption); (case zp4 => assumption); (case zp5 => repeat' (first | assumption | exact frN | exact fr0 (by assumption) | refine' fr1 (by first | assumption | exact And.left (by assumption) | exact And.left (And.right (by assumption)) | exact And.left (And.right (And.right (by assumption))) | exact And.left (And.right (And.right (And.right (by assumption)))) | exact And.left (And.right (And.right (And.right (And.right (by assumption))))) | exact And.left (And.right (And.right (And.right (And.right (And.right (by assumption))))))) ?_)); (case zp6 => first | assumption | lia); (case zp7 => first | assumption | lia); (case zp8 => first | assumption | lia); (case zp9 => first | assumption | lia); (case zp10 => first | assumption | lia); (case zp11 => first | assumption | lia); k_whole); intro r9 h9 tk9 n9 F9 N9 p9; k_dflt (obtain ⟨a9, u9, x9, y9, ta9, tb9, tc9, k9, td9, st9, te9, e8, q1, q2, q3, e9⟩ := p9; subst e9; subst e8); (try dsimp only); (try k_sweep); (try k_fold))) | (k_here; (with_reducible show wpAny _ _ (call (Value.ref 329) (_ :: _)) _ _ _); with_reducible (k_dflt (refine' use (c_lratio _ _ _ _ _ _ _ _ _ _ _ ?zp1 ?zp2 ?zp3 ?zp4 ?zp5 ?zp6 ?zp7) ?zk1 ?zk2 ?zk3 ?zk4 ?zk5 ?zk6 ?zk7 ?zk8 ?_; (case zk1 => k_asm); (case zk2 => k_asm); (case zk3 => k_asm); (case zk4 => first | k_asm | exact news_rot (by k_asm) | exact news_rot4 (by k_asm)); (case zk5 => k_asm); (case zk6 => first | exact rfl | assumption); (case zk7 => ktr_room); (case zk8 => ktr_units); (case zp1 => assumption); (case zp2 => first | assumption | decide | lia); (case zp3 => assumption); (case zp4 => assumption); (case zp5 => repeat' (first | assumption | exact frN | exact fr0 (by assumption) | refine' fr1 (by first | assumption | exact And.left (by assumption) | exact And.left (And.right (by assumption)) | exact And.left (And.right (And.right (by assumption))) | exact And.left (And.right (And.right (And.right (by assumption)))) | exact And.left (And.right (And.right (And.right (And.right (by assumption))))) | exact And.left (And.right (And.right (And.right (And.right (And.right (by assumption))))))) ?_)); (case zp6 => first | assumption | lia); (case zp7 => first | assumption | lia); k_whole); intro r9 h9 tk9 n9 F9 N9 p9; k_dflt (obtain ⟨a9, ta9, tb9, T9, B9', k9, tc9, st9, td9, e8, q1, q2, q3, q4, q5, q6, e9⟩ := p9; subst e9; subst e8); (try dsimp only); (try k_sweep); (try k_fold))) | (k_here; (with_reducible show wpAny _ _ (call (Value.ref 303) (_ :: _)) _ _ _); with_reducible (k_dflt (refine' use (c_pick _ _ _ _ _ _ _ 2 _ _ _ _ _ VPr ?zp1 ?zp2 ?zp3 ?zp4 ?zp5 ?zp6 ?zp7 ?zp8 ?zp9) ?zk1 ?zk2 ?zk3 ?zk4 ?zk5 ?zk6 ?zk7 ?zk8 ?_; (case zk1 => k_asm); (case zk2 => k_asm); (case zk3 => k_asm); (case zk4 => first | k_asm | exact news_back (by k_asm)); (case zk5 => k_asm); (case zk6 => first | exact rfl | assumption); (case zk7 => ktr_room); (case zk8 => ktr_units); (case zp1 => assumption); (case zp2 => first | assumption | decide | lia); (case zp3 => assumption); (case zp4 => exact rfl); (case zp5 => decide); (case zp6 => decide); (case zp7 => assumption); (case zp8 => repeat' (first | assumption | exact frN | exact fr0 (by assumption) | refine' fr1 (by first | assumption | exact And.left (by assumption) | exact And.left (And.right (by assumption)) | exact And.left (And.right (And.right (by assumption))) | exact And.left (And.right (And.right (And.right (by assumption)))) | exact And.left (And.right (And.right (And.right (And.right (by assumption))))) | exact And.left (And.right (And.right (And.right (And.right (And.right (by assumption))))))) ?_)); (case zp9 => exact vpr_all _ _); k_whole); intro r9 h9 tk9 n9 F9 N9 p9; k_dflt (obtain ⟨v9, k9, tb9, st9, tc9, d9, e9⟩ := p9; subst e9; obtain ⟨p9, t9, e8, b9, c9⟩ := v9; subst e8); (try dsimp only); (try k_sweep); (try k_fold))) | (k_here; (with_reducible show wpAny _ _ (call (Value.ref 296) (_ :: _)) _ _ _); with_reducible (k_dflt (refine' use (c_draw _ _ _ _ _ _ _ _ _ _ _ ?zp1 ?zp2 ?zp3 ?zp4 ?zp5 ?zp6) ?zk1 ?zk2 ?zk3 ?zk4 ?zk5 ?zk6 ?zk7 ?zk8 ?_; (case zk1 => k_asm); (case zk2 => k_asm); (case zk3 => k_asm); (case zk4 => first | k_asm | exact news_rot (by k_asm) | exact news_rot4 (by k_asm)); (case zk5 => k_asm); (case zk6 => first | exact rfl | assumption); (case zk7 => ktr_room); (case zk8 => ktr_units); (case zp1 => assumption); (case zp2 => first | assumption | decide | lia); (case zp3 => assumption); (case zp4 => first | assumption | decide | lia); (case zp5 => assumption); (case zp6 => repeat' (first | assumption | exact frN | exact fr0 (by assumption) | refine' fr1 (by first | assumption | exact And.left (by assumption) | exact And.left (And.right (by assumption)) | exact And.left (And.right (And.right (by assumption))) | exact And.left (And.right (And.right (And.right (by assumption)))) | exact And.left (And.right (And.right (And.right (And.right (by assumption))))) | exact And.left (And.right (And.right (And.right (And.right (And.right (by assumption))))))) ?_)); k_whole); intro r9 h9 tk9 n9 F9 N9 p9; k_dflt (obtain ⟨v9, ta9, k9, tb9, st9, tc9, e8, b9, c9, d9, e9⟩ := p9; subst e9; subst e8); (try dsimp only); (try k_sweep); (try k_fold))) | (k_here; (with_reducible show wpAny _ _ (call (Value.ref 308) (_ :: _)) _ _ _); with_reducible (k_dflt (refine' c_deck _ _ _ _ ?za1 ?za2 _ _ _ _ _ _ _ _ _ _ _ _ _ _ _ _ _ _ _ _ _ ?zhl ?zk1 ?zk2 ?zk3 ?zk4 ?zk5 ?zk6 ?zk7 ?zk8 ?_; (case za1 => assumption); (case za2 => first | assumption | exact nlen63 (by assumption)); (case zhl => assumption); (case zk1 => k_asm); (case zk2 => k_asm); (case zk3 => k_asm); (case zk4 => k_asm); (case zk5 => k_asm); (case zk6 => first | exact rfl | assumption); (case zk7 => ktr_room); (case zk8 => ktr_units); k_whole); intro r9 h9 tk9 n9 F9 N9 p9; k_dflt (obtain ⟨D9, C9, es9, ns9, st9, ta9, tb9, e8, hi9', hl9', hDC9, e9⟩ := p9; subst e9; subst e8); (try dsimp only); (try k_sweep); (try k_fold))) | (k_here; (with_reducible show wpAny _ _ (call (Value.ref 296) (_ :: _)) _ _ _); with_reducible (k_dflt (refine' use (c_draw _ _ _ _ _ _ _ _ _ _ _ ?zp1 ?zp2 ?zp3 ?zp4 ?zp5 ?zp6) ?zk1 ?zk2 ?zk3 ?zk4 ?zk5 ?zk6 ?zk7 ?zk8 ?_; (case zk1 => k_asm); (case zk2 => k_asm); (case zk3 => k_asm); (case zk4 => first | k_asm | exact news_rot (by k_asm)); (case zk5 => k_asm); (case zk6 => first | exact rfl | assumption); (case zk7 => ktr_room); (case zk8 => ktr_units); (case zp1 => assumption); (case zp2 => first | assumption | decide | lia); (case zp3 => assumption); (case zp4 => first | assumption | decide | lia); (case zp5 => assumption); (case zp6 => repeat' (first | assumption | exact fr0 (by assumption) | refine' fr1 (by first | assumption | exact And.left (by assumption) | exact And.left (And.right (by assumption)) | exact And.left (And.right (And.right (by assumption))) | exact And.left (And.right (And.right (And.right (by assumption)))) | exact And.left (And.right (And.right (And.right (And.right (by assumption))))) | exact And.left (And.right (And.right (And.right (And.right (And.right (by assumption))))))) ?_)); k_whole); intro r9 h9 tk9 n9 F9 N9 p9; k_dflt (obtain ⟨v9, ta9, k9, tb9, st9, tc9, e8, b9, c9, d9, e9⟩ := p9; subst e9; subst e8); (try dsimp only); (try k_sweep); (try k_fold))) | (k_here; (with_reducible show wpAny _ _ (call (Value.ref 322) (_ :: _)) _ _ _); with_reducible (k_dflt (refine' use (c_common _ _ _ _ ?zp1 ?zp2 _) ?zk1 ?zk2 ?zk3 ?zk4 ?zk5 ?zk6 ?zk7 ?zk8 ?_; (case zk1 => k_asm); (case zk2 => k_asm); (case zk3 => k_asm); (case zk4 => k_asm); (case zk5 => k_asm); (case zk6 => first | exact rfl | assumption); (case zk7 => ktr_room); (case zk8 => ktr_units); (case zp1 => first | assumption | lia); (case zp2 => first | assumption | lia); k_whole); intro r9 h9 tk9 n9 F9 N9 p9; k_dflt (obtain ⟨e9, t9, e8⟩ := p9; subst e9; subst e8); (try dsimp only); (try k_sweep); (try k_fold)))) | (dsimp only; walk1) | (leave1; walk_say "STEP leave1"; try dsimp only) | fail "no step")
    all_goals (try dsimp only)
    all_goals first
      | ((rename Fr _ _ _ _ => lF'); (rename News _ _ _ _ => lN'); refine' cut_end lF' lN' (by k_mem) (by k_mem) ?hs (by with_unfolding_all rfl) ?hz ?hk ?lo ?hi; (case hs => (intro p hp; repeat' (first | exact hp | apply List.mem_cons_of_mem))); (case hz => (intro z hz; simp only [hz, if_false])); (case hk => first | assumption | lia); (case lo => first | assumption | exact bits_lo (by assumption) (by assumption) | lia); (case hi => first | assumption | exact bits_hi (by assumption) (by assumption) | lia))
      | ((rename Fr _ _ _ _ => lF'); (rename News _ _ _ _ => lN'); refine' rj_end lF' lN' (by k_mem) (by k_mem) (by k_mem) (by with_unfolding_all rfl) (by with_unfolding_all rfl) ?hk; (case hk => first | assumption | lia))
      | ((rename Fr _ _ _ _ => lF'); (rename News _ _ _ _ => lN'); refine' row_end lF' lN' (by k_mem) ?hs (by with_unfolding_all rfl) (by with_unfolding_all rfl) (by with_unfolding_all rfl); (case hs => (intro p hp; repeat' (first | exact hp | apply List.mem_cons_of_mem))))
      | exact ⟨_, _, _, rfl, RowOk.sl (by assumption), rfl⟩
      | exact ⟨_, _, _, rfl, RowOk.nosl (by assumption) (nsl_occ (by assumption)), rfl⟩
      | ((rename Fr _ _ _ _ => lF'); (rename News _ _ _ _ => lN'); exact law_end lF' lN')
      | contradiction
set_option Elab.async false
end
end Mine
theorem PySem.Challenge.cw_nt0169_01_holds : PySem.Challenge.rw_nt0169_01.Holds := by
  exact Mine.main_law
