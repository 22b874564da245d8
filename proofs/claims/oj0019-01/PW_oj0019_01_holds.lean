import PyProof.Rows.All
import Wide.All
import OpenK.AllK
import Wide.FinOn
import Lean
import PySem.Challenge.RW_oj0019_01
set_option Elab.async false
set_option linter.unusedVariables false

section
open PySem PySem.W PyProof.Rows
namespace Mine
set_option maxRecDepth 100000 in
set_option maxHeartbeats 8000000 in
open_top hd for PySem.Challenge.rw_oj0019_01
end Mine
end

section
open PySem PySem.W PyProof.Rows
set_option maxRecDepth 100000
namespace Mine
local macro_rules | `(tactic| units_room) => `(tactic| (have hcL9 := cLine_is; (try simp only [units_in1, units_deeper, units_under_make, Around.mark_units]); (try dsimp only [ktrTop]); omega))
local macro_rules | `(tactic| k_units) => `(tactic| units_room)
local macro_rules | `(tactic| room) => `(tactic| ((try simp only [depth_under_make, depth_under_kw, depth_in1, depth_deeper]); (try dsimp only [ktrTop]); (simp only [recursionLimit]); omega))
local macro_rules | `(tactic| k_room) => `(tactic| room)
local macro_rules | `(tactic| ktr_room) => `(tactic| room)
local macro_rules | `(tactic| k_all) => `(tactic| with_reducible assumption)
local macro_rules | `(tactic| k_handed) => `(tactic| with_reducible assumption)
local macro_rules | `(tactic| k_mem) => `(tactic| ((repeat (first | exact List.mem_cons_self | refine List.mem_cons_of_mem _ ?_)); all_goals (first | with_reducible assumption | ktr_member)))

theorem pop0 {prog : Program} {w : World} {A : Around} {E : Value → Shared → Prop} {s : Shared} {h₀ : Heap} {L D : Addr} {m : Str → Option Value} {news news' : List (Addr × Obj)} {n : Nat} {x : Value} {vs : List Value} {u : Tok} {Q : Value → Shared → Prop}
    (F : Fr h₀ L s.heap m) (N : News h₀ L s.heap news) (U : Upd D (listOf (x :: vs).toArray n) (listOf vs.toArray (n + 1)) news news') (hz : (x :: vs).length ≤ 100)
    (h : ∀ h', Fr h₀ L h' m → News h₀ L h' news' → Q x { s with heap := h' }) : wpAny (model prog w) A (call (.builtin "list.pop") [.ref D, .int 0 u]) Q E s :=
  kl_popAt (k := 0) (p := []) (q := vs) (y := x) F N (by decide) (by simp [seqIndex?]) rfl U (by rw [sizeLine_eq]; show (x :: vs).length ≤ _; omega) h
local macro_rules | `(tactic| walk_at "call builtin:list.pop") => `(tactic| (k_here; (with_reducible show wpAny _ _ (call (Value.builtin _) [Value.ref _, Value.int 0 _]) _ _ _); k_dflt (refine' pop0 ?F ?N ?U ?z ?_; (case F => k_asm); (case N => k_asm); (case U => k_upd); (case z => (simp only [List.length_cons] at *; (have hI9 := IntsAre.length (by assumption)); omega))); intro h' F' N'; (try dsimp only [List.nil_append, List.cons_append] at N')))

set_option maxHeartbeats 2000000 in
theorem draw_core {w : World} {loose : List Str} {mean : ExcName → Option Value} {mg mb : Str → Option Value} {dp un : Nat} {gd : Option (List Code)} {cn : Str} {cs : Scope} {a : Addr} {ccd : Value} {cl : List (Str × Addr)} {outer : List Env} {A₀ : Around} {base h₀ : Heap} {L : Addr} {m : Str → Option Value} {s : Shared} {Q E : Value → Shared → Prop} {R : List (Addr × Obj)}
    {dk : Addr} {vs : List Value} {ds : List Int} {n0 : Nat} {k : Int} {t : Tok}
    (B : Below A₀ base outer h₀) (F : Fr h₀ L s.heap m) (X : (Mine.hd.heap_39 w.params).In h₀) (N : News h₀ L s.heap ((dk, listOf vs.toArray n0) :: R)) (T : Top Mine.hd.view_39 loose mean mg mb h₀) (hk : cs.kind = .function) (hd : dp ≤ 320) (hu : un ≤ 100)
    (hR : ∀ p ∈ R, p.1 ≠ dk) (hi : IntsAre vs ds) (h0 : ∀ d ∈ ds, 0 ≤ d) (hlen : ds.length ≤ 63) (hk0 : 0 < k) (hk9 : k ≤ 100)
    (hret : ∀ r t' vs' ds' n' h' tk', 0 ≤ r → r < k → IntsAre vs' ds' → (∀ d ∈ ds', 0 ≤ d) → ds'.length ≤ 63 → Fr h₀ L h' m → News h₀ L h' ((dk, listOf vs'.toArray n') :: R) → Q (.int r t') { s with heap := h', toks := tk' }) :
    wpAny (model PySem.Challenge.rw_oj0019_01.row.prog w) (ktrTop dp un gd cn cs L a ccd cl outer) (call (.ref 140) [.ref dk, .int k t]) Q E s := by
  w_top off
  revert X; k_fill; intro X
  cases hi with
  | nil =>
    refine wpAny_call ?_
    k_dflt ktr_enter
    k_steps
    exact hret _ _ [] [] n0 _ _ (Int.le_refl 0) hk0 .nil h0 hlen (by assumption) (cb_drop (by assumption) (fun p hp => List.mem_cons_of_mem _ hp))
  | @cons x tx vs' ds' hi' =>
    refine wpAny_call ?_
    k_dflt ktr_enter
    k_steps
    · exact absurd (by assumption) (by simp_all)
    · exact hret _ _ vs' ds' _ _ _ (Int.fmod_nonneg (h0 x (List.mem_cons_self)) (Int.le_of_lt hk0)) (Int.fmod_lt_of_pos _ hk0) hi' (fun d hd => h0 d (List.mem_cons_of_mem _ hd)) (Nat.le_of_succ_le hlen) (by assumption) (cb_drop (by assumption) (fun p hp => List.mem_cons_of_mem _ hp))
end Mine
end

section
open PySem PySem.W PyProof.Rows
set_option maxRecDepth 100000
namespace Mine
local macro_rules | `(tactic| units_room) => `(tactic| (have hcL9 := cLine_is; (try simp only [units_in1, units_deeper, units_under_make, Around.mark_units]); (try dsimp only [ktrTop]); omega))
local macro_rules | `(tactic| k_units) => `(tactic| units_room)
local macro_rules | `(tactic| room) => `(tactic| ((try simp only [depth_under_make, depth_under_kw, depth_in1, depth_deeper]); (try dsimp only [ktrTop]); (simp only [recursionLimit]); omega))
local macro_rules | `(tactic| k_room) => `(tactic| room)
local macro_rules | `(tactic| ktr_room) => `(tactic| room)
local macro_rules | `(tactic| k_all) => `(tactic| with_reducible assumption)
local macro_rules | `(tactic| k_handed) => `(tactic| with_reducible assumption)
local macro_rules | `(tactic| k_mem) => `(tactic| ((repeat (first | exact List.mem_cons_self | refine List.mem_cons_of_mem _ ?_)); all_goals (first | with_reducible assumption | ktr_member)))

/-- a raw prefix argument, as the ledger bears it; b bounds its number -/
inductive RawIn (P : Params) (b : Nat) (news : List (Addr × Obj)) : Value → Prop
  | none : RawIn P b news .none
  | int (i : Int) (t : Tok) : i.natAbs ≤ b → RawIn P b news (.int i t)
  | minus (t : Tok) : RawIn P b news (.str (PySem.Str.ofString "-") t)
  | many (x dx : Addr) (i : Int) (t u : Tok) : i.natAbs ≤ b → (x, instObj 80 dx) ∈ news → (dx, dictOf [⟨PyData.keyHash P (PySem.Str.ofString "number"), .str (PySem.Str.ofString "number") u, .int i t⟩] 1) ∈ news → RawIn P b news (.ref x)
theorem RawIn.mono {P : Params} {b : Nat} {news news' : List (Addr × Obj)} {v : Value} (h : RawIn P b news v) (hs : ∀ p ∈ news, p ∈ news') : RawIn P b news' v := by
  cases h with
  | none => exact .none
  | int i t hb => exact .int i t hb
  | minus t => exact .minus t
  | many x dx i t u hb h1 h2 => exact .many x dx i t u hb (hs _ h1) (hs _ h2)
theorem RawIn.le {P : Params} {b b' : Nat} {news : List (Addr × Obj)} {v : Value} (h : RawIn P b news v) (hb : b ≤ b') : RawIn P b' news v := by
  cases h with
  | none => exact .none
  | int i t h => exact .int i t (Nat.le_trans h hb)
  | minus t => exact .minus t
  | many x dx i t u h h1 h2 => exact .many x dx i t u (Nat.le_trans h hb) h1 h2

set_option maxHeartbeats 2000000 in
theorem same_core {w : World} {loose : List Str} {mean : ExcName → Option Value} {mg mb : Str → Option Value} {dp un : Nat} {gd : Option (List Code)} {cn : Str} {cs : Scope} {a : Addr} {ccd : Value} {cl : List (Str × Addr)} {outer : List Env} {A₀ : Around} {base h₀ : Heap} {L : Addr} {m : Str → Option Value} {s : Shared} {Q E : Value → Shared → Prop} {news : List (Addr × Obj)} {v : Value} {b : Nat}
    (B : Below A₀ base outer h₀) (F : Fr h₀ L s.heap m) (X : (Mine.hd.heap_39 w.params).In h₀) (N : News h₀ L s.heap news) (T : Top Mine.hd.view_39 loose mean mg mb h₀) (hk : cs.kind = .function) (hd : dp ≤ 320) (hu : un ≤ 100)
    (hv : RawIn w.params b news v)
    (hret : ∀ h' tk', Fr h₀ L h' m → News h₀ L h' news → Q (.bool true) { s with heap := h', toks := tk' }) :
    wpAny (model PySem.Challenge.rw_oj0019_01.row.prog w) (ktrTop dp un gd cn cs L a ccd cl outer) (call (.ref 133) [v, v]) Q E s := by
  w_top off
  revert X; k_fill; intro X
  cases hv
  all_goals
    refine wpAny_call ?_
    k_dflt ktr_enter
    k_steps
    (try simp only [beq_self_eq_true])
    exact hret _ _ (by assumption) (by assumption)
end Mine
end

section
open PySem PySem.W PyProof.Rows
set_option maxRecDepth 100000
namespace Mine
local macro_rules | `(tactic| units_room) => `(tactic| (have hcL9 := cLine_is; (try simp only [units_in1, units_deeper, units_under_make, Around.mark_units]); (try dsimp only [ktrTop]); omega))
local macro_rules | `(tactic| k_units) => `(tactic| units_room)
local macro_rules | `(tactic| room) => `(tactic| ((try simp only [depth_under_make, depth_under_kw, depth_in1, depth_deeper]); (try dsimp only [ktrTop]); (simp only [recursionLimit]); omega))
local macro_rules | `(tactic| k_room) => `(tactic| room)
local macro_rules | `(tactic| ktr_room) => `(tactic| room)
local macro_rules | `(tactic| k_all) => `(tactic| with_reducible assumption)
local macro_rules | `(tactic| k_handed) => `(tactic| with_reducible assumption)
local macro_rules | `(tactic| k_mem) => `(tactic| ((repeat (first | exact List.mem_cons_self | refine List.mem_cons_of_mem _ ?_)); all_goals (first | with_reducible assumption | ktr_member)))
theorem allLt_ne {d : Addr} : ∀ {l : List (Addr × Obj)}, AllLt d l → ∀ p ∈ l, p.1 ≠ d
  | [], _, _, h => nomatch h
  | q :: l, ⟨h1, h2⟩, p, hp => by
    rcases List.mem_cons.mp hp with rfl | hp
    · exact Nat.ne_of_lt h1
    · exact allLt_ne h2 p hp
theorem allLt_lt {d : Addr} : ∀ {l : List (Addr × Obj)}, AllLt d l → ∀ p ∈ l, p.1 < d
  | [], _, _, h => nomatch h
  | q :: l, ⟨h1, h2⟩, p, hp => by
    rcases List.mem_cons.mp hp with rfl | hp
    · exact h1
    · exact allLt_lt h2 p hp
local macro_rules | `(tactic| k_all) => `(tactic| exact allLt_ne (by assumption))

theorem led2_lt {x d : Addr} {ox od : Obj} {news : List (Addr × Obj)} (l1 : ∀ p ∈ news, p.1 < d) (l2 : d < x) : ∀ p ∈ [(x, ox), (d, od)], ∀ q ∈ news, q.1 < p.1 := by
  intro p hp q hq
  have h := l1 q hq
  rcases List.mem_cons.mp hp with rfl | hp
  · exact Nat.lt_trans h l2
  · rcases List.mem_cons.mp hp with rfl | hp
    · exact h
    · cases hp
/-- a way's end: nothing made | one object and its dict made -/
theorem ret0 {P : Params} {b' : Nat} {h₀ h' : Heap} {L : Addr} {m : Str → Option Value} {news : List (Addr × Obj)} {s : Shared} {tk' : Nat} {Q : Value → Shared → Prop} {r : Value}
    (hret : ∀ r tl h' tk', Fr h₀ L h' m → News h₀ L h' (tl ++ news) → (∀ p ∈ tl, ∀ q ∈ news, q.1 < p.1) → RawIn P b' (tl ++ news) r → Q r { s with heap := h', toks := tk' })
    (F : Fr h₀ L h' m) (N : News h₀ L h' news) (hr : RawIn P b' news r) : Q r { s with heap := h', toks := tk' } :=
  hret r [] h' tk' F N (fun _ h => nomatch h) hr
theorem ret2 {P : Params} {b' : Nat} {h₀ h' : Heap} {L x d : Addr} {i : Int} {t u : Tok} {m : Str → Option Value} {news : List (Addr × Obj)} {s : Shared} {tk' : Nat} {Q : Value → Shared → Prop}
    (hret : ∀ r tl h' tk', Fr h₀ L h' m → News h₀ L h' (tl ++ news) → (∀ p ∈ tl, ∀ q ∈ news, q.1 < p.1) → RawIn P b' (tl ++ news) r → Q r { s with heap := h', toks := tk' })
    (F : Fr h₀ L h' m) (N : News h₀ L h' ((x, instObj 80 d) :: (d, dictOf [⟨PyData.keyHash P (PySem.Str.ofString "number"), .str (PySem.Str.ofString "number") u, .int i t⟩] 1) :: news)) (l1 : ∀ p ∈ news, p.1 < d) (l2 : d < x) (hi : i.natAbs ≤ b') : Q (.ref x) { s with heap := h', toks := tk' } :=
  hret (.ref x) [(x, instObj 80 d), (d, dictOf [⟨PyData.keyHash P (PySem.Str.ofString "number"), .str (PySem.Str.ofString "number") u, .int i t⟩] 1)] h' tk' F N (led2_lt l1 l2) (.many x d i t u hi (.head _) (.tail _ (.head _)))

set_option maxHeartbeats 2000000 in
theorem more_core {w : World} {loose : List Str} {mean : ExcName → Option Value} {mg mb : Str → Option Value} {dp un : Nat} {gd : Option (List Code)} {cn : Str} {cs : Scope} {a : Addr} {ccd : Value} {cl : List (Str × Addr)} {outer : List Env} {A₀ : Around} {base h₀ : Heap} {L : Addr} {m : Str → Option Value} {s : Shared} {Q E : Value → Shared → Prop} {news : List (Addr × Obj)} {v : Value} {b : Nat}
    (B : Below A₀ base outer h₀) (F : Fr h₀ L s.heap m) (X : (Mine.hd.heap_39 w.params).In h₀) (N : News h₀ L s.heap news) (T : Top Mine.hd.view_39 loose mean mg mb h₀) (hk : cs.kind = .function) (hd : dp ≤ 320) (hu : un ≤ 100)
    (hv : RawIn w.params b news v) (hb : b ≤ 1000000)
    (hret : ∀ r tl h' tk', Fr h₀ L h' m → News h₀ L h' (tl ++ news) → (∀ p ∈ tl, ∀ q ∈ news, q.1 < p.1) → RawIn w.params (10 * b + 9) (tl ++ news) r → Q r { s with heap := h', toks := tk' }) :
    wpAny (model PySem.Challenge.rw_oj0019_01.row.prog w) (ktrTop dp un gd cn cs L a ccd cl outer) (call (.ref 112) [v]) Q E s := by
  w_top off
  revert X; k_fill; intro X
  cases hv
  all_goals (refine wpAny_call ?_; k_dflt ktr_enter; k_steps)
  · exact ret0 hret (by assumption) (by assumption) .none
  · exact ret0 hret (by assumption) (by assumption) (.int _ _ (by omega))
  · exact ret2 hret (by assumption) (by assumption) (by assumption) (by assumption) (by omega)
  · exact ret2 hret (by assumption) (by assumption) (by assumption) (by assumption) (by omega)

set_option maxHeartbeats 2000000 in
theorem neg_core {w : World} {loose : List Str} {mean : ExcName → Option Value} {mg mb : Str → Option Value} {dp un : Nat} {gd : Option (List Code)} {cn : Str} {cs : Scope} {a : Addr} {ccd : Value} {cl : List (Str × Addr)} {outer : List Env} {A₀ : Around} {base h₀ : Heap} {L : Addr} {m : Str → Option Value} {s : Shared} {Q E : Value → Shared → Prop} {news : List (Addr × Obj)} {v : Value} {b : Nat}
    (B : Below A₀ base outer h₀) (F : Fr h₀ L s.heap m) (X : (Mine.hd.heap_39 w.params).In h₀) (N : News h₀ L s.heap news) (T : Top Mine.hd.view_39 loose mean mg mb h₀) (hk : cs.kind = .function) (hd : dp ≤ 320) (hu : un ≤ 100)
    (hv : RawIn w.params b news v) (hb : b ≤ 1000000)
    (hret : ∀ r tl h' tk', Fr h₀ L h' m → News h₀ L h' (tl ++ news) → (∀ p ∈ tl, ∀ q ∈ news, q.1 < p.1) → RawIn w.params (10 * b + 9) (tl ++ news) r → Q r { s with heap := h', toks := tk' }) :
    wpAny (model PySem.Challenge.rw_oj0019_01.row.prog w) (ktrTop dp un gd cn cs L a ccd cl outer) (call (.ref 126) [v]) Q E s := by
  w_top off
  revert X; k_fill; intro X
  cases hv
  all_goals (refine wpAny_call ?_; k_dflt ktr_enter; k_steps)
  all_goals first
    | exact ret0 hret (by assumption) (by assumption) .none
    | exact ret0 hret (by assumption) (by assumption) (.int _ _ (by omega))
    | exact ret0 hret (by assumption) (by assumption) (.minus _)
    | trace_state

set_option maxHeartbeats 2000000 in
theorem digit_core {w : World} {loose : List Str} {mean : ExcName → Option Value} {mg mb : Str → Option Value} {dp un : Nat} {gd : Option (List Code)} {cn : Str} {cs : Scope} {a : Addr} {ccd : Value} {cl : List (Str × Addr)} {outer : List Env} {A₀ : Around} {base h₀ : Heap} {L : Addr} {m : Str → Option Value} {s : Shared} {Q E : Value → Shared → Prop} {news : List (Addr × Obj)} {v : Value} {b : Nat} {d : Int} {td : Tok}
    (B : Below A₀ base outer h₀) (F : Fr h₀ L s.heap m) (X : (Mine.hd.heap_39 w.params).In h₀) (N : News h₀ L s.heap news) (T : Top Mine.hd.view_39 loose mean mg mb h₀) (hk : cs.kind = .function) (hd : dp ≤ 320) (hu : un ≤ 100)
    (hv : RawIn w.params b news v) (hb : b ≤ 1000000) (hd0 : 0 ≤ d) (hd9 : d ≤ 9)
    (hret : ∀ r tl h' tk', Fr h₀ L h' m → News h₀ L h' (tl ++ news) → (∀ p ∈ tl, ∀ q ∈ news, q.1 < p.1) → RawIn w.params (10 * b + 9) (tl ++ news) r → Q r { s with heap := h', toks := tk' }) :
    wpAny (model PySem.Challenge.rw_oj0019_01.row.prog w) (ktrTop dp un gd cn cs L a ccd cl outer) (call (.ref 119) [v, .int d td]) Q E s := by
  w_top off
  revert X; k_fill; intro X
  cases hv
  all_goals (refine wpAny_call ?_; k_dflt ktr_enter; k_steps)
  all_goals first
    | exact ret0 hret (by assumption) (by assumption) .none
    | exact ret0 hret (by assumption) (by assumption) (.int _ _ (by omega))
    | exact ret0 hret (by assumption) (by assumption) (.minus _)
    | trace_state
end Mine
end

section
open PySem PySem.W PyProof.Rows PyProof.V PySem.Spec PySem.Calls
set_option maxRecDepth 100000
namespace Mine
/-- the walk stops here: the next step is typed by hand -/
def Stop (P : Prop) : Prop := P
theorem Stop.out {P : Prop} (h : Stop P) : P := h
theorem Stop.mk {P : Prop} (h : P) : Stop P := h

section
variable {prog : Program} {w : World} {A : Around} {E : Value → Shared → Prop} {s : Shared} {env : Env} {h₀ : Heap} {x : PySem.Str} {body : List Stmt} {Q : Flow → Shared → Prop}

/-- a turn's end: the loop's own iterator stands, the word holds again -/
def EndJ (h₀ : Heap) (L : Addr) (J : (PySem.Str → Option Value) → List (Addr × Obj) → Prop) (I : Addr) (oI : Obj) (s₁ s₂ : Shared) : Prop :=
  ∃ h' tk m' news', s₂ = { s₁ with heap := h', toks := tk } ∧ Fr h₀ L h' m' ∧ News h₀ L h' ((I, oI) :: news') ∧ (∀ p ∈ news', p.1 ≠ I) ∧ J m' news'
def PostJ (h₀ : Heap) (L : Addr) (J : (PySem.Str → Option Value) → List (Addr × Obj) → Prop) (I : Addr) (oI : Obj) (s₁ : Shared) (Q : Flow → Shared → Prop) (f : Flow) (s₂ : Shared) : Prop :=
  match f with
  | .ret v => Q (.ret v) s₂
  | .brk => Q .next s₂
  | _ => EndJ h₀ L J I oI s₁ s₂

theorem PostJ.ret {L : Addr} {J : (PySem.Str → Option Value) → List (Addr × Obj) → Prop} {I : Addr} {oI : Obj} {s₁ s₂ : Shared} {v : Value} (h : Q (.ret v) s₂) : PostJ h₀ L J I oI s₁ Q (.ret v) s₂ := h
theorem PostJ.next {L : Addr} {J : (PySem.Str → Option Value) → List (Addr × Obj) → Prop} {I : Addr} {oI : Obj} {s₁ s₂ : Shared} (h : EndJ h₀ L J I oI s₁ s₂) : PostJ h₀ L J I oI s₁ Q .next s₂ := h
theorem loopJ {I : Addr} {n : Nat} {P : Nat → Value → Prop} {St : Nat → Heap → Prop} {m₀ : PySem.Str → Option Value} {news : List (Addr × Obj)} (J : Nat → (PySem.Str → Option Value) → List (Addr × Obj) → Prop)
    (W : Walks prog w A I [I] [I] n P St) (hIo : ∀ i h, St i h → ∃ o fs, h.get? I = some o ∧ o.data = .fields fs) (hL : env.locals ≠ I) (hI0 : h₀.get? I = none) (hnI : ∀ p ∈ news, p.1 ≠ I) (hst : St 0 s.heap)
    (F : Fr h₀ env.locals s.heap m₀) (N : News h₀ env.locals s.heap news) (hj : J 0 m₀ news)
    (turn : ∀ i v m₁ news₁ oI h tk, i < n → P i v → J i m₁ news₁ → (∀ p ∈ news₁, p.1 ≠ I) → (∃ fs, oI.data = .fields fs) → Fr h₀ env.locals h (fun y => if y = x then some v else m₁ y) → News h₀ env.locals h ((I, oI) :: news₁) →
      wpAny (model prog w) A (execs body env) (PostJ h₀ env.locals (J (i + 1)) I oI { s with heap := h, toks := tk } Q) E { s with heap := h, toks := tk })
    (done : ∀ m₁ news₁ h tk, J n m₁ news₁ → Fr h₀ env.locals h m₁ → News h₀ env.locals h news₁ → Q .next { s with heap := h, toks := tk }) :
    LoopAtV prog w A h₀ env x body Q E (.ref I) s := by
  refine ⟨I, [I], [I], n, P, St, m₀, news, J, rfl, W, ?_, ?_, ?_, hst, F, N, hj, ?_, ?_⟩
  · intro hm; exact hL (List.mem_singleton.mp hm)
  · intro b hb; rw [List.mem_singleton.mp hb]; exact hI0
  · intro p hp hm; exact hnI p hp (List.mem_singleton.mp hm)
  · rintro i v m₁ news₁ s₁ own ⟨h, tk, rfl⟩ hi hP hJ hoff hown hown2 hown3 hst₁ F₁ N₁
    obtain ⟨oI, fs, hoI, hfs⟩ := hIo _ _ hst₁
    have hmem : (I, oI) ∈ own := hown3 I (List.mem_singleton.mpr rfl) hI0 oI hoI
    have honly : ∀ p ∈ own, p = (I, oI) := by
      intro p hp
      have e1 := List.mem_singleton.mp (hown p hp)
      have e2 := hown2 p hp
      rw [e1, hoI] at e2
      exact Prod.ext e1 (Option.some.inj e2).symm
    have N₂ : News h₀ env.locals h ((I, oI) :: news₁) := fun p hp => N₁ p (by
      rcases List.mem_cons.mp hp with rfl | hp
      · exact List.mem_append_left _ hmem
      · exact List.mem_append_right _ hp)
    refine wpAny_mono (turn i v m₁ news₁ oI h tk hi hP hJ (fun p hp e => hoff p hp (List.mem_singleton.mpr e)) ⟨fs, hfs⟩ F₁ N₂) (fun f s₂ p => ?_) fun _ _ e => e
    have fin : EndJ h₀ env.locals (J (i + 1)) I oI { s with heap := h, toks := tk } s₂ → LoopStepU h₀ env.locals [I] own (J (i + 1)) { s with heap := h, toks := tk } .next s₂ := by
      rintro ⟨h', tk', m', news', e, F', N', hn, hm⟩
      refine ⟨rfl, h', tk', m', news', e, F', fun p hp => ?_, fun p hp hq => hn p hp (List.mem_singleton.mp hq), hm⟩
      rcases List.mem_append.mp hp with hp | hp
      · rw [honly p hp]; exact N' _ (List.mem_cons_self)
      · exact N' p (List.mem_cons_of_mem _ hp)
    cases f with
    | ret v => exact .ret p
    | brk => exact .brk p
    | next => exact .next (fin p)
    | cont => exact .cont (fin p)
  · rintro h' tk m' news' F' N' _ hJ
    exact done m' news' h' tk hJ F' N'

theorem rangeJL {r : Addr} {a₀ b₀ st : Int} {t₀ u₀ v₀ : Tok} {n : Nat} {m₀ : PySem.Str → Option Value} {news : List (Addr × Obj)} (J : Nat → (PySem.Str → Option Value) → List (Addr × Obj) → Prop)
    (hh : A.handled = none) (hr : IsRange s.heap r a₀ b₀ st t₀ u₀ v₀) (hsmall : Builtin.Range.small a₀ b₀ st = true) (hn : Builtin.Range.rangeSize a₀ b₀ st = (n : Int)) (F : Fr h₀ env.locals s.heap m₀) (N : News h₀ env.locals s.heap news) (hj : J 0 m₀ news)
    (turn : ∀ (i : Nat) t m₁ news₁ I oI h tk, i < n → J i m₁ news₁ → (∀ p ∈ news₁, p.1 ≠ I) → (∀ p ∈ news, p.1 < I) → (∃ fs, oI.data = .fields fs) → Fr h₀ env.locals h (fun y => if y = x then some (.int (a₀ + (i : Int) * st) t) else m₁ y) → News h₀ env.locals h ((I, oI) :: news₁) →
      wpAny (model prog w) A (execs body env) (PostJ h₀ env.locals (J (i + 1)) I oI { s with heap := h, toks := tk } Q) E { s with heap := h, toks := tk })
    (done : ∀ m₁ news₁ h tk, J n m₁ news₁ → Fr h₀ env.locals h m₁ → News h₀ env.locals h news₁ → Q .next { s with heap := h, toks := tk }) :
    wpAny (model prog w) A (pyIter (.ref r)) (fun it s₂ => LoopAtV prog w A h₀ env x body Q E it s₂) E s := by
  refine wpAny_pyIter_range hr hsmall ?_
  have W : Walks prog w A s.heap.objs.size [s.heap.objs.size] [s.heap.objs.size] n (fun i v => i < n ∧ ∃ t, v = .int (a₀ + i * st) t)
      (fun i h => IsRangeIter h s.heap.objs.size (a₀ + (i : Nat) * st) ((n : Int) - (i : Nat)) st) := (Walks.range hh _ a₀ st n).bound
  refine loopJ J W (fun _ _ h => ⟨_, _, h, rfl⟩) (Nat.ne_of_lt F.ns.lt) (next_is_new F) (fun p hp => Nat.ne_of_lt (Heap.lt_size (N p hp).1)) (by show IsRangeIter _ _ _ _ _; rw [hn]; simpa using Heap.get?_push_size _ rfl) (F.push _) (fun p hp => ⟨Heap.get?_push_of_some _ (N p hp).1, (N p hp).2⟩) hj ?_ ?_
  · rintro i v m₁ news₁ oI h tk hi ⟨_, t, rfl⟩ hJ hoff hfs F₁ N₁
    exact turn i t m₁ news₁ _ oI h tk hi hJ hoff (fun p hp => Heap.lt_size (N p hp).1) hfs F₁ N₁
  · intro m₁ news₁ h tk hJ F₁ N₁
    exact done m₁ news₁ h tk hJ F₁ N₁

theorem rangeJ {r : Addr} {a₀ b₀ st : Int} {t₀ u₀ v₀ : Tok} {n : Nat} {m₀ : PySem.Str → Option Value} {news : List (Addr × Obj)} (J : Nat → (PySem.Str → Option Value) → List (Addr × Obj) → Prop)
    (hh : A.handled = none) (hr : IsRange s.heap r a₀ b₀ st t₀ u₀ v₀) (hsmall : Builtin.Range.small a₀ b₀ st = true) (hn : Builtin.Range.rangeSize a₀ b₀ st = (n : Int)) (F : Fr h₀ env.locals s.heap m₀) (N : News h₀ env.locals s.heap news) (hj : J 0 m₀ news)
    (turn : ∀ (i : Nat) t m₁ news₁ I oI h tk, i < n → J i m₁ news₁ → (∀ p ∈ news₁, p.1 ≠ I) → (∃ fs, oI.data = .fields fs) → Fr h₀ env.locals h (fun y => if y = x then some (.int (a₀ + (i : Int) * st) t) else m₁ y) → News h₀ env.locals h ((I, oI) :: news₁) →
      wpAny (model prog w) A (execs body env) (PostJ h₀ env.locals (J (i + 1)) I oI { s with heap := h, toks := tk } Q) E { s with heap := h, toks := tk })
    (done : ∀ m₁ news₁ h tk, J n m₁ news₁ → Fr h₀ env.locals h m₁ → News h₀ env.locals h news₁ → Q .next { s with heap := h, toks := tk }) :
    wpAny (model prog w) A (pyIter (.ref r)) (fun it s₂ => LoopAtV prog w A h₀ env x body Q E it s₂) E s :=
  rangeJL J hh hr hsmall hn F N hj (fun i t m₁ news₁ I oI h tk hi hJ hoff _ hfs F₁ N₁ => turn i t m₁ news₁ I oI h tk hi hJ hoff hfs F₁ N₁) done

/-- the same, the word speaks of the map ahead of the loop too -/
theorem rangeJM {r : Addr} {a₀ b₀ st : Int} {t₀ u₀ v₀ : Tok} {n : Nat} {m₀ : PySem.Str → Option Value} {news : List (Addr × Obj)} (J : (PySem.Str → Option Value) → Nat → (PySem.Str → Option Value) → List (Addr × Obj) → Prop)
    (hh : A.handled = none) (hr : IsRange s.heap r a₀ b₀ st t₀ u₀ v₀) (hsmall : Builtin.Range.small a₀ b₀ st = true) (hn : Builtin.Range.rangeSize a₀ b₀ st = (n : Int)) (F : Fr h₀ env.locals s.heap m₀) (N : News h₀ env.locals s.heap news) (hj : J m₀ 0 m₀ news)
    (turn : ∀ (i : Nat) t m₁ news₁ I oI h tk, i < n → J m₀ i m₁ news₁ → (∀ p ∈ news₁, p.1 ≠ I) → (∃ fs, oI.data = .fields fs) → Fr h₀ env.locals h (fun y => if y = x then some (.int (a₀ + (i : Int) * st) t) else m₁ y) → News h₀ env.locals h ((I, oI) :: news₁) →
      wpAny (model prog w) A (execs body env) (PostJ h₀ env.locals (J m₀ (i + 1)) I oI { s with heap := h, toks := tk } Q) E { s with heap := h, toks := tk })
    (done : ∀ m₁ news₁ h tk, J m₀ n m₁ news₁ → Fr h₀ env.locals h m₁ → News h₀ env.locals h news₁ → Q .next { s with heap := h, toks := tk }) :
    wpAny (model prog w) A (pyIter (.ref r)) (fun it s₂ => LoopAtV prog w A h₀ env x body Q E it s₂) E s :=
  rangeJ (J m₀) hh hr hsmall hn F N hj turn done

theorem textJ {xt : PySem.Str} {tx : Tok} {m₀ : PySem.Str → Option Value} {news : List (Addr × Obj)} (J : Nat → (PySem.Str → Option Value) → List (Addr × Obj) → Prop)
    (hh : A.handled = none) (F : Fr h₀ env.locals s.heap m₀) (N : News h₀ env.locals s.heap news) (hj : J 0 m₀ news)
    (turn : ∀ i c t m₁ news₁ I oI h tk, xt.cps[i]? = some c → J i m₁ news₁ → (∀ p ∈ news₁, p.1 ≠ I) → (∃ fs, oI.data = .fields fs) → Fr h₀ env.locals h (fun y => if y = x then some (.str ⟨#[c]⟩ t) else m₁ y) → News h₀ env.locals h ((I, oI) :: news₁) →
      wpAny (model prog w) A (execs body env) (PostJ h₀ env.locals (J (i + 1)) I oI { s with heap := h, toks := tk } Q) E { s with heap := h, toks := tk })
    (done : ∀ m₁ news₁ h tk, J xt.cps.size m₁ news₁ → Fr h₀ env.locals h m₁ → News h₀ env.locals h news₁ → Q .next { s with heap := h, toks := tk }) :
    wpAny (model prog w) A (pyIter (.str xt tx)) (fun it s₂ => LoopAtV prog w A h₀ env x body Q E it s₂) E s := by
  have turn' : ∀ (o : Obj) i v m₁ news₁ oI h tk, i < xt.cps.size → SignAt xt i v → J i m₁ news₁ → (∀ p ∈ news₁, p.1 ≠ s.heap.objs.size) → (∃ fs, oI.data = .fields fs) → Fr h₀ env.locals h (fun y => if y = x then some v else m₁ y) → News h₀ env.locals h ((s.heap.objs.size, oI) :: news₁) →
      wpAny (model prog w) A (execs body env) (PostJ h₀ env.locals (J (i + 1)) s.heap.objs.size oI { s with heap := h, toks := tk } Q) E { s with heap := h, toks := tk } := by
    rintro o i v m₁ news₁ oI h tk hi ⟨c, u, hc, rfl⟩ hJ hoff hfs F₁ N₁
    exact turn i c u m₁ news₁ _ oI h tk hc hJ hoff hfs F₁ N₁
  cases ha : xt.cps.all (· < 128)
  · refine wpAny_pyIter_wide ha ?_
    exact loopJ J (Walks.strWide hh _ xt tx) (fun _ _ h => by obtain ⟨o, ho, _, hd⟩ := h; exact ⟨o, _, ho, hd⟩) (Nat.ne_of_lt F.ns.lt) (next_is_new F) (fun p hp => Nat.ne_of_lt (Heap.lt_size (N p hp).1)) ⟨_, Heap.get?_push_size _ rfl, rfl, rfl⟩ (F.push _) (fun p hp => ⟨Heap.get?_push_of_some _ (N p hp).1, (N p hp).2⟩) hj (turn' default) done
  · refine wpAny_pyIter_ascii ha ?_
    exact loopJ J (Walks.strAscii hh _ xt tx) (fun _ _ h => by obtain ⟨o, ho, _, hd⟩ := h; exact ⟨o, _, ho, hd⟩) (Nat.ne_of_lt F.ns.lt) (next_is_new F) (fun p hp => Nat.ne_of_lt (Heap.lt_size (N p hp).1)) ⟨_, Heap.get?_push_size _ rfl, rfl, rfl⟩ (F.push _) (fun p hp => ⟨Heap.get?_push_of_some _ (N p hp).1, (N p hp).2⟩) hj (turn' default) done
end

/-- a comprehension's turns by a word over what is made so far and the ledger -/
theorem restJ {prog : Program} {w : World} {A : Around} {h₀ : Heap} {L : Addr} {m : PySem.Str → Option Value} {env : Env} {elt : Expr} {x : PySem.Str} {scope : Scope} {cl : List (PySem.Str × Addr)} {s : Shared} {S : List (Addr × Obj) → Prop} {P : Nat → Value → Prop} {Fin : List Value → List (Addr × Obj) → Prop} {news : List (Addr × Obj)} {n : Nat}
    (J : Nat → List Value → List (Addr × Obj) → Prop) (hj : J 0 [] news)
    (turn : ∀ i v I oI C oC D m₂ ys news₁ h tk (E' : Value → Shared → Prop), i < n → P i v → J i ys news₁ → LCg.NsObj oC m₂ → m₂ x = some v → Fr h₀ L h m → News h₀ L h ((I, oI) :: (C, oC) :: (D, LCg.lst ys) :: news₁) → LCg.Off3 I C D news₁ → ((@Ne Nat I C) ∧ (@Ne Nat I D) ∧ (@Ne Nat C D)) →
      wpAny (model prog w) A (eval elt (compEnvC scope cl C env)) (LCg.CompEnd h₀ L m { s with heap := h, toks := tk } I oI C oC D (LCg.lst ys) S (fun y news' => J (i + 1) (ys ++ [y]) news')) E' { s with heap := h, toks := tk })
    (fin : ∀ ys news', J n ys news' → Fin ys news') : LCg.CompRest prog w A h₀ L m env elt x scope cl s S P Fin n 0 [] news := by
  have key : ∀ (j i : Nat) (ys : List Value) (nw : List (Addr × Obj)), i + j = n → J i ys nw → LCg.CompRest prog w A h₀ L m env elt x scope cl s S P Fin j i ys nw := by
    intro j
    induction j with
    | zero =>
      intro i ys nw hi hJ
      have e : i = n := by omega
      subst e
      exact LCg.CompRest.zero (fin ys nw hJ)
    | succ j ih =>
      intro i ys nw hi hJ
      refine LCg.CompRest.succ ?_
      intro v I oI C oC D m₂ h tk E' hv hC hx F N off ne
      refine wpAny_mono (turn i v I oI C oC D m₂ ys nw h tk E' (by omega) hv hJ hC hx F N off ne) (fun y s₂ hq => ?_) fun _ _ e => e
      obtain ⟨h', tk', nw', e, F', N', off', hS, hJ'⟩ := hq
      exact ⟨h', tk', nw', e, F', N', off', hS, ih (i + 1) _ _ (by omega) hJ'⟩
  exact key n 0 [] news (by omega) hj
end Mine
end

section
open PySem PySem.W PyProof.Rows
set_option maxRecDepth 100000
namespace Mine
local macro_rules | `(tactic| units_room) => `(tactic| (have hcL9 := cLine_is; (try simp only [units_in1, units_deeper, units_under_make, Around.mark_units]); (try dsimp only [ktrTop]); omega))
local macro_rules | `(tactic| k_units) => `(tactic| units_room)
local macro_rules | `(tactic| room) => `(tactic| ((try simp only [depth_under_make, depth_under_kw, depth_in1, depth_deeper]); (try dsimp only [ktrTop]); (simp only [recursionLimit]); omega))
local macro_rules | `(tactic| k_room) => `(tactic| room)
local macro_rules | `(tactic| ktr_room) => `(tactic| room)
local macro_rules | `(tactic| k_all) => `(tactic| with_reducible assumption)
local macro_rules | `(tactic| k_handed) => `(tactic| with_reducible assumption)
local macro_rules | `(tactic| k_mem) => `(tactic| ((repeat (first | exact List.mem_cons_self | refine List.mem_cons_of_mem _ ?_)); all_goals (first | with_reducible assumption | ktr_member)))
local macro_rules | `(tactic| walk_at "PostJ") => `(tactic| first | (refine PostJ.ret ?_; (try dsimp only)) | refine PostJ.next ?_)
local macro_rules | `(tactic| walk_at "exec For Name Name cons nil") => `(tactic| (k_here; (rename Fr _ _ _ _ => lF'); (with_unfolding_all refine' For_invVF lF' ?k1 ?k2 ?_; (case k1 => exact rfl); (case k2 => exact rfl); k_whole)))
local macro_rules | `(tactic| walk_at "exec For Name Call cons nil") => `(tactic| (k_here; (rename Fr _ _ _ _ => lF'); (with_unfolding_all refine' For_invVF lF' ?k1 ?k2 ?_; (case k1 => exact rfl); (case k2 => exact rfl); k_whole)))
local macro_rules | `(tactic| walk_at "pyIter str") => `(tactic| (refine Stop.out ?_))
local macro_rules | `(tactic| walk_at "pyIter ref") => `(tactic| (refine Stop.out ?_))
local macro_rules | `(tactic| k_all) => `(tactic| exact allLt_ne (by assumption))

local macro_rules | `(tactic| walk_at "call ref") => `(tactic| (k_here; (with_reducible show wpAny _ _ (call (Value.ref 112) _) _ _ _); k_dflt (refine' more_core ?k1 ?k2 ?k3 ?k4 ?k5 ?k6 ?k7 ?k8 ?k9 ?k10 ?_; (case k1 => k_asm); (case k2 => k_asm); (case k3 => k_asm); (case k4 => k_asm); (case k5 => k_asm); (case k6 => exact rfl); (case k7 => first | decide | ((try simp only [depth_deeper, depth_in1]); (try dsimp only [ktrTop]); omega)); (case k8 => first | decide | ((try simp only [units_deeper, units_in1]); (try dsimp only [ktrTop]); omega)); (case k9 => assumption); (case k10 => assumption)); intro r' tl' h' tk' F' N' hl' hr'; (try dsimp only); (try k_fold)))
local macro_rules | `(tactic| walk_at "call ref") => `(tactic| (k_here; (with_reducible show wpAny _ _ (call (Value.ref 126) _) _ _ _); k_dflt (refine' neg_core ?k1 ?k2 ?k3 ?k4 ?k5 ?k6 ?k7 ?k8 ?k9 ?k10 ?_; (case k1 => k_asm); (case k2 => k_asm); (case k3 => k_asm); (case k4 => k_asm); (case k5 => k_asm); (case k6 => exact rfl); (case k7 => first | decide | ((try simp only [depth_deeper, depth_in1]); (try dsimp only [ktrTop]); omega)); (case k8 => first | decide | ((try simp only [units_deeper, units_in1]); (try dsimp only [ktrTop]); omega)); (case k9 => assumption); (case k10 => assumption)); intro r' tl' h' tk' F' N' hl' hr'; (try dsimp only); (try k_fold)))
local macro_rules | `(tactic| walk_at "call ref") => `(tactic| (k_here; (with_reducible show wpAny _ _ (call (Value.ref 119) _) _ _ _); k_dflt (refine' digit_core ?k1 ?k2 ?k3 ?k4 ?k5 ?k6 ?k7 ?k8 ?k9 ?k10 ?k11 ?k12 ?_; (case k1 => k_asm); (case k2 => k_asm); (case k3 => k_asm); (case k4 => k_asm); (case k5 => k_asm); (case k6 => exact rfl); (case k7 => first | decide | ((try simp only [depth_deeper, depth_in1]); (try dsimp only [ktrTop]); omega)); (case k8 => first | decide | ((try simp only [units_deeper, units_in1]); (try dsimp only [ktrTop]); omega)); (case k9 => assumption); (case k10 => assumption); (case k11 => decide); (case k12 => decide)); intro r' tl' h' tk' F' N' hl' hr'; (try dsimp only); (try k_fold)))
/-- the signs that are typed -/
def SignOk (c : Nat) : Prop := c = 45 ∨ c = 117 ∨ c = 48 ∨ c = 49 ∨ c = 50 ∨ c = 51 ∨ c = 52 ∨ c = 53 ∨ c = 54 ∨ c = 55 ∨ c = 56 ∨ c = 57
def TextOk (x : PySem.Str) : Prop := x.cps.size ≤ 4 ∧ ∀ (i c : Nat), x.cps[i]? = some c → SignOk c
def bnd : Nat → Nat
  | 0 => 4
  | i + 1 => 10 * bnd i + 9
theorem bnd_le : ∀ i, i ≤ 4 → bnd i ≤ 100000
  | 0, _ => by decide
  | 1, _ => by decide
  | 2, _ => by decide
  | 3, _ => by decide
  | 4, _ => by decide
  | n + 5, h => absurd h (by omega)

theorem sign_lit {c : Nat} (h : SignOk c) : (⟨#[c]⟩ : PySem.Str) = PySem.Str.ofString "-" ∨ (⟨#[c]⟩ : PySem.Str) = PySem.Str.ofString "u" ∨ (⟨#[c]⟩ : PySem.Str) = PySem.Str.ofString "0" ∨ (⟨#[c]⟩ : PySem.Str) = PySem.Str.ofString "1" ∨ (⟨#[c]⟩ : PySem.Str) = PySem.Str.ofString "2" ∨ (⟨#[c]⟩ : PySem.Str) = PySem.Str.ofString "3" ∨ (⟨#[c]⟩ : PySem.Str) = PySem.Str.ofString "4" ∨ (⟨#[c]⟩ : PySem.Str) = PySem.Str.ofString "5" ∨ (⟨#[c]⟩ : PySem.Str) = PySem.Str.ofString "6" ∨ (⟨#[c]⟩ : PySem.Str) = PySem.Str.ofString "7" ∨ (⟨#[c]⟩ : PySem.Str) = PySem.Str.ofString "8" ∨ (⟨#[c]⟩ : PySem.Str) = PySem.Str.ofString "9" := by
  rcases h with rfl | rfl | rfl | rfl | rfl | rfl | rfl | rfl | rfl | rfl | rfl | rfl <;> decide +kernel
theorem map_with {m : PySem.Str → Option Value} {y : PySem.Str} {v : Value} (h : m y = some v) : m = fun z => if z = y then some v else m z := by
  funext z
  by_cases e : z = y
  · rw [if_pos e, e, h]
  · rw [if_neg e]
/-- a raw value does not hang on an iterator of the ledger -/
theorem RawIn.drop {P : Params} {b : Nat} {tl news : List (Addr × Obj)} {I : Addr} {oI : Obj} {fs : Array Value} {v : Value} (h : RawIn P b (tl ++ (I, oI) :: news) v) (hI : oI.data = .fields fs) : RawIn P b (tl ++ news) v := by
  have key : ∀ {x : Addr} {o : Obj}, (x, o) ∈ tl ++ (I, oI) :: news → (∀ fs, o.data ≠ .fields fs) → (x, o) ∈ tl ++ news := by
    intro x o hm hno
    rcases List.mem_append.mp hm with hm | hm
    · exact List.mem_append_left _ hm
    · rcases List.mem_cons.mp hm with e | hm
      · cases e; exact absurd hI (hno fs)
      · exact List.mem_append_right _ hm
  cases h with
  | none => exact .none
  | int i t h => exact .int i t h
  | minus t => exact .minus t
  | many x dx i t u h h1 h2 => exact .many x dx i t u h (key h1 (fun _ h => nomatch h)) (key h2 (fun _ h => nomatch h))

theorem raw_end {P : Params} {b : Nat} {h₀ h' : Heap} {L I : Addr} {oI : Obj} {fs : Array Value} {m' : PySem.Str → Option Value} {tl tl' news : List (Addr × Obj)} {s₁ : Shared} {tk : Nat} {r : Value}
    (F : Fr h₀ L h' m') (N : News h₀ L h' (tl' ++ (I, oI) :: (tl ++ news))) (hm : m' (PySem.Str.ofString "raw") = some r) (hl : ∀ p ∈ tl', ∀ q ∈ (I, oI) :: (tl ++ news), q.1 < p.1) (htl : ∀ p ∈ tl, ∀ q ∈ news, q.1 < p.1)
    (hr : RawIn P b (tl' ++ (I, oI) :: (tl ++ news)) r) (hoff : ∀ p ∈ tl ++ news, p.1 ≠ I) (hfs : oI.data = .fields fs) :
    EndJ h₀ L (fun m nw => ∃ v tl, m (PySem.Str.ofString "raw") = some v ∧ nw = tl ++ news ∧ (∀ p ∈ tl, ∀ q ∈ news, q.1 < p.1) ∧ RawIn P b nw v) I oI s₁ { s₁ with heap := h', toks := tk } := by
  refine ⟨h', tk, m', (tl' ++ tl) ++ news, rfl, F, fun p hp => N p ?_, fun p hp => ?_, r, tl' ++ tl, hm, rfl, fun p hp q hq => ?_, ?_⟩
  · rw [List.append_assoc] at hp
    rcases List.mem_cons.mp hp with rfl | hp
    · exact List.mem_append_right _ (.head _)
    · rcases List.mem_append.mp hp with hp | hp
      · exact List.mem_append_left _ hp
      · exact List.mem_append_right _ (.tail _ hp)
  · rw [List.append_assoc] at hp
    rcases List.mem_append.mp hp with hp | hp
    · exact Nat.ne_of_gt (hl p hp (I, oI) (.head _))
    · exact hoff p hp
  · rcases List.mem_append.mp hp with hp | hp
    · exact hl p hp q (.tail _ (List.mem_append_right _ hq))
    · exact htl p hp q hq
  · rw [List.append_assoc]; exact hr.drop hfs

set_option maxHeartbeats 4000000 in
theorem raw_core {w : World} {loose : List Str} {mean : ExcName → Option Value} {mg mb : Str → Option Value} {dp un : Nat} {gd : Option (List Code)} {cn : Str} {cs : Scope} {a : Addr} {ccd : Value} {cl : List (Str × Addr)} {outer : List Env} {A₀ : Around} {base h₀ : Heap} {L : Addr} {m : Str → Option Value} {s : Shared} {Q E : Value → Shared → Prop} {news : List (Addr × Obj)} {x : PySem.Str} {t : Tok}
    (B : Below A₀ base outer h₀) (F : Fr h₀ L s.heap m) (X : (Mine.hd.heap_39 w.params).In h₀) (N : News h₀ L s.heap news) (T : Top Mine.hd.view_39 loose mean mg mb h₀) (hk : cs.kind = .function) (hd : dp ≤ 310) (hu : un ≤ 50)
    (hx : TextOk x)
    (hret : ∀ r tl h' tk', Fr h₀ L h' m → News h₀ L h' (tl ++ news) → (∀ p ∈ tl, ∀ q ∈ news, q.1 < p.1) → RawIn w.params 100000 (tl ++ news) r → Q r { s with heap := h', toks := tk' }) :
    wpAny (model PySem.Challenge.rw_oj0019_01.row.prog w) (ktrTop dp un gd cn cs L a ccd cl outer) (call (.ref 152) [.str x t]) Q E s := by
  w_top off
  revert X; k_fill; intro X
  refine wpAny_call ?_
  k_dflt ktr_enter
  k_steps
  refine Stop.mk ?_
  rename Fr _ _ _ _ => lF
  rename News _ _ _ _ => lN
  rename ∀ p ∈ news, _ => l1
  rename @LT.lt Nat _ _ _ => l2
  refine textJ (fun i m nw => ∃ v tl, m (PySem.Str.ofString "raw") = some v ∧ nw = tl ++ news ∧ (∀ p ∈ tl, ∀ q ∈ news, q.1 < p.1) ∧ RawIn w.params (bnd i) nw v) rfl lF lN ⟨_, [_, _], rfl, rfl, led2_lt l1 l2, .many _ _ _ _ _ (by decide) (.head _) (.tail _ (.head _))⟩ ?_ ?_
  · rintro i c t m₁ news₁ I oI h tk hc ⟨v, tl, hm, rfl, htl, hr⟩ hoff ⟨fs, hfs⟩ F₁ N₁
    have hi : i < 4 := Nat.lt_of_lt_of_le (by by_cases hlt : i < x.cps.size; exact hlt; rw [Array.getElem?_eq_none (Nat.not_lt.mp hlt)] at hc; cases hc) hx.1
    have hb : bnd i ≤ 1000000 := Nat.le_trans (bnd_le i (Nat.le_of_lt hi)) (by decide)
    rw [map_with hm] at F₁
    have hr' : RawIn w.params (bnd i) ((I, oI) :: (tl ++ news)) v := hr.mono (fun p hp => List.mem_cons_of_mem (I, oI) hp)
    rcases sign_lit (hx.2 i c hc) with e | e | e | e | e | e | e | e | e | e | e | e
    all_goals (rw [e] at F₁; try k_fold)
    all_goals k_steps
    all_goals exact raw_end (by assumption) (by assumption) (by with_unfolding_all rfl) (by assumption) htl (by assumption) hoff hfs
  · rintro m₁ news₁ h tk ⟨v, tl, hm, rfl, htl, hr⟩ F₁ N₁
    rw [map_with hm] at F₁
    try k_fold
    k_steps
    exact hret _ tl _ _ (by assumption) (by assumption) htl (hr.le (bnd_le _ hx.1))
end Mine
end

section
open PySem PySem.W PyProof.Rows
set_option maxRecDepth 100000
namespace Mine
local macro_rules | `(tactic| units_room) => `(tactic| (have hcL9 := cLine_is; (try simp only [units_in1, units_deeper, units_under_make, Around.mark_units]); (try dsimp only [ktrTop]); omega))
local macro_rules | `(tactic| k_units) => `(tactic| units_room)
local macro_rules | `(tactic| room) => `(tactic| ((try simp only [depth_under_make, depth_under_kw, depth_in1, depth_deeper]); (try dsimp only [ktrTop]); (simp only [recursionLimit]); omega))
local macro_rules | `(tactic| k_room) => `(tactic| room)
local macro_rules | `(tactic| ktr_room) => `(tactic| room)
local macro_rules | `(tactic| k_all) => `(tactic| with_reducible assumption)
local macro_rules | `(tactic| k_handed) => `(tactic| with_reducible assumption)
local macro_rules | `(tactic| k_mem) => `(tactic| ((repeat (first | exact List.mem_cons_self | refine List.mem_cons_of_mem _ ?_)); all_goals (first | with_reducible assumption | ktr_member)))
local macro_rules | `(tactic| walk_at "PostJ") => `(tactic| first | (refine PostJ.ret ?_; (try dsimp only)) | refine PostJ.next ?_)
local macro_rules | `(tactic| walk_at "exec For Name Name cons nil") => `(tactic| (k_here; (rename Fr _ _ _ _ => lF'); (with_unfolding_all refine' For_invVF lF' ?k1 ?k2 ?_; (case k1 => exact rfl); (case k2 => exact rfl); k_whole)))
local macro_rules | `(tactic| walk_at "exec For Name Call cons nil") => `(tactic| (k_here; (rename Fr _ _ _ _ => lF'); (with_unfolding_all refine' For_invVF lF' ?k1 ?k2 ?_; (case k1 => exact rfl); (case k2 => exact rfl); k_whole)))
local macro_rules | `(tactic| walk_at "pyIter str") => `(tactic| (refine Stop.out ?_))
local macro_rules | `(tactic| walk_at "pyIter ref") => `(tactic| (refine Stop.out ?_))
local macro_rules | `(tactic| k_all) => `(tactic| exact allLt_ne (by assumption))

theorem draw_at {w : World} {loose : List Str} {mean : ExcName → Option Value} {mg mb : Str → Option Value} {dp un : Nat} {gd : Option (List Code)} {cn : Str} {cs : Scope} {a : Addr} {ccd : Value} {cl : List (Str × Addr)} {outer : List Env} {A₀ : Around} {base h₀ : Heap} {L : Addr} {m : Str → Option Value} {s : Shared} {Q E : Value → Shared → Prop} {news : List (Addr × Obj)} {g : Obj → List (Addr × Obj)}
    {dk : Addr} {vs : List Value} {ds : List Int} {n0 : Nat} {k : Int} {t : Tok}
    (B : Below A₀ base outer h₀) (F : Fr h₀ L s.heap m) (X : (Mine.hd.heap_39 w.params).In h₀) (N : News h₀ L s.heap news) (T : Top Mine.hd.view_39 loose mean mg mb h₀) (hk : cs.kind = .function) (hd : dp ≤ 320) (hu : un ≤ 100)
    (U : UpdF dk (listOf vs.toArray n0) news g) (hi : IntsAre vs ds) (h0 : ∀ d ∈ ds, 0 ≤ d) (hlen : ds.length ≤ 63) (hk0 : 0 < k) (hk9 : k ≤ 100)
    (hret : ∀ r t' vs' ds' n' h' tk', 0 ≤ r → r < k → IntsAre vs' ds' → (∀ d ∈ ds', 0 ≤ d) → ds'.length ≤ 63 → Fr h₀ L h' m → News h₀ L h' (g (listOf vs'.toArray n')) → Q (.int r t') { s with heap := h', toks := tk' }) :
    wpAny (model PySem.Challenge.rw_oj0019_01.row.prog w) (ktrTop dp un gd cn cs L a ccd cl outer) (call (.ref 140) [.ref dk, .int k t]) Q E s := by
  obtain ⟨pre, post, rfl, hg, h1, h2⟩ := U.split
  refine draw_core (R := pre ++ post) (n0 := n0) B F X (cb_drop N fun p hp => ?_) T hk hd hu (fun p hp => (List.mem_append.mp hp).elim (h1 p) (h2 p)) hi h0 hlen hk0 hk9 ?_
  · rcases List.mem_cons.mp hp with rfl | hp
    · exact List.mem_append_right _ (.head _)
    · rcases List.mem_append.mp hp with hp | hp
      · exact List.mem_append_left _ hp
      · exact List.mem_append_right _ (.tail _ hp)
  · intro r t' vs' ds' n' h' tk' hr0 hrk hi' h0' hl' F' N'
    refine hret r t' vs' ds' n' h' tk' hr0 hrk hi' h0' hl' F' (cb_drop N' fun p hp => ?_)
    rw [hg] at hp
    rcases List.mem_append.mp hp with hp | hp
    · exact .tail _ (List.mem_append_left _ hp)
    · rcases List.mem_cons.mp hp with rfl | hp
      · exact .head _
      · exact .tail _ (List.mem_append_right _ hp)
local macro_rules | `(tactic| walk_at "call ref") => `(tactic| (k_here; (with_reducible show wpAny _ _ (call (Value.ref 140) _) _ _ _); k_dflt (refine' draw_at ?k1 ?k2 ?k3 ?k4 ?k5 ?k6 ?k7 ?k8 ?k9 ?k10 ?k11 ?k12 ?k13 ?k14 ?_; (case k1 => k_asm); (case k2 => k_asm); (case k3 => k_asm); (case k4 => k_asm); (case k5 => k_asm); (case k6 => exact rfl); (case k7 => first | decide | ((try simp only [depth_deeper, depth_in1]); (try dsimp only [ktrTop]); omega)); (case k8 => first | decide | ((try simp only [units_deeper, units_in1]); (try dsimp only [ktrTop]); omega)); (case k9 => k_updF); (case k10 => assumption); (case k11 => assumption); (case k12 => assumption); (case k13 => decide); (case k14 => decide)); intro r' t' vs' ds' n' h' tk' hr0' hrk' hi' h0' hlen' F' N'; (try dsimp only at N'); (try dsimp only); (try k_fold)))
local macro_rules | `(tactic| walk_at "CompSrc") => `(tactic| (refine Stop.out ?_))

/-- what the comprehension has made: texts of one typed sign each -/
def SignsAre (ys : List Value) (cs : List Nat) : Prop := StrsAre ys (cs.map fun c => (⟨#[c]⟩ : PySem.Str)) ∧ ∀ c ∈ cs, SignOk c
theorem strs_snoc {us : List Value} {ws : List PySem.Str} {x : PySem.Str} {t : Tok} (h : StrsAre us ws) : StrsAre (us ++ [.str x t]) (ws ++ [x]) := by
  induction h with
  | nil => exact .cons _ _ .nil
  | cons y t' _ ih => exact .cons y t' ih
theorem signs_snoc {ys : List Value} {cs : List Nat} {c : Nat} {t : Tok} (h : SignsAre ys cs) (hc : SignOk c) : SignsAre (ys ++ [.str ⟨#[c]⟩ t]) (cs ++ [c]) := by
  refine ⟨?_, fun d hd => ?_⟩
  · rw [List.map_append]; exact strs_snoc h.1
  · rcases List.mem_append.mp hd with hd | hd
    · exact h.2 d hd
    · rw [List.mem_singleton.mp hd]; exact hc
theorem join_signs : ∀ cs : List Nat, (PySem.Str.join PySem.Str.empty (cs.map fun c => (⟨#[c]⟩ : PySem.Str))).cps = cs.toArray
  | [] => rfl
  | [c] => rfl
  | c :: d :: r => by
    have ih := join_signs (d :: r)
    show ((⟨#[c]⟩ : PySem.Str) ++ PySem.Str.empty ++ PySem.Str.join PySem.Str.empty ((d :: r).map fun c => (⟨#[c]⟩ : PySem.Str))).cps = _
    have e1 : ∀ a b : PySem.Str, (a ++ b).cps = a.cps ++ b.cps := fun _ _ => rfl
    rw [e1, e1, ih]
    apply Array.toList_inj.mp
    simp [PySem.Str.empty]
theorem text_ok {cs : List Nat} (h : ∀ c ∈ cs, SignOk c) (hl : cs.length ≤ 4) : TextOk (PySem.Str.join PySem.Str.empty (cs.map fun c => (⟨#[c]⟩ : PySem.Str))) := by
  refine ⟨?_, fun i c hc => ?_⟩
  · rw [join_signs]; simpa using hl
  · rw [join_signs] at hc
    exact h c (List.mem_of_getElem? (by simpa using hc))

theorem item_sign {r : Int} (h0 : 0 ≤ r) (h1 : r < 13) : ∃ c, Txt.item (PySem.Str.ofString "0123456789-u7") r = ⟨#[c]⟩ ∧ SignOk c := by
  obtain ⟨n, rfl⟩ := Int.eq_ofNat_of_zero_le h0
  have hn : n < 13 := by omega
  have all : ∀ n : Fin 13, ∃ c, Txt.item (PySem.Str.ofString "0123456789-u7") ((n.val : Nat) : Int) = ⟨#[c]⟩ ∧ SignOk c := by
    intro n
    match n with
    | 0 => exact ⟨48, by decide +kernel, by unfold SignOk; decide⟩
    | 1 => exact ⟨49, by decide +kernel, by unfold SignOk; decide⟩
    | 2 => exact ⟨50, by decide +kernel, by unfold SignOk; decide⟩
    | 3 => exact ⟨51, by decide +kernel, by unfold SignOk; decide⟩
    | 4 => exact ⟨52, by decide +kernel, by unfold SignOk; decide⟩
    | 5 => exact ⟨53, by decide +kernel, by unfold SignOk; decide⟩
    | 6 => exact ⟨54, by decide +kernel, by unfold SignOk; decide⟩
    | 7 => exact ⟨55, by decide +kernel, by unfold SignOk; decide⟩
    | 8 => exact ⟨56, by decide +kernel, by unfold SignOk; decide⟩
    | 9 => exact ⟨57, by decide +kernel, by unfold SignOk; decide⟩
    | 10 => exact ⟨45, by decide +kernel, by unfold SignOk; decide⟩
    | 11 => exact ⟨117, by decide +kernel, by unfold SignOk; decide⟩
    | 12 => exact ⟨55, by decide +kernel, by unfold SignOk; decide⟩
  exact all ⟨n, hn⟩
theorem join_len {cs : List Nat} : ((cs.map fun c => (⟨#[c]⟩ : PySem.Str)).map (·.length)).sum = cs.length := by
  induction cs with
  | nil => rfl
  | cons c r ih => simp only [List.map_cons, List.sum_cons, List.length_cons]; rw [ih]; show 1 + r.length = _; omega
theorem empty_is : PySem.Str.ofString "" = PySem.Str.empty := by decide +kernel

set_option maxHeartbeats 4000000 in
theorem typed_core {w : World} {loose : List Str} {mean : ExcName → Option Value} {mg mb : Str → Option Value} {dp un : Nat} {gd : Option (List Code)} {cn : Str} {cs : Scope} {a : Addr} {ccd : Value} {cl : List (Str × Addr)} {outer : List Env} {A₀ : Around} {base h₀ : Heap} {L : Addr} {m : Str → Option Value} {s : Shared} {Q E : Value → Shared → Prop} {R : List (Addr × Obj)}
    {dk : Addr} {vs : List Value} {ds : List Int} {n0 : Nat}
    (B : Below A₀ base outer h₀) (F : Fr h₀ L s.heap m) (X : (Mine.hd.heap_39 w.params).In h₀) (N : News h₀ L s.heap ((dk, listOf vs.toArray n0) :: R)) (T : Top Mine.hd.view_39 loose mean mg mb h₀) (hk : cs.kind = .function) (hd : dp ≤ 310) (hu : un ≤ 50)
    (hR : ∀ p ∈ R, p.1 ≠ dk) (hi : IntsAre vs ds) (h0 : ∀ d ∈ ds, 0 ≤ d) (hlen : ds.length ≤ 63)
    (hret : ∀ x t' vs' ds' n' h' tk', TextOk x → IntsAre vs' ds' → (∀ d ∈ ds', 0 ≤ d) → ds'.length ≤ 63 → Fr h₀ L h' m → News h₀ L h' ((dk, listOf vs'.toArray n') :: R) → Q (.str x t') { s with heap := h', toks := tk' }) :
    wpAny (model PySem.Challenge.rw_oj0019_01.row.prog w) (ktrTop dp un gd cn cs L a ccd cl outer) (call (.ref 145) [.ref dk]) Q E s := by
  w_top off
  revert X; k_fill; intro X
  refine wpAny_call ?_
  k_dflt (refine' code_defC ?k1 ?k2 ?k3 ?k4 ?k5 ?kA ?kF ?kK ?k6 ?k7 ?k8 ?k9 ?kB ?kD ?_ ?c2 ?c3 ?c4; (case kA => exact rfl); (case kF => exact rfl); (case kK => assumption); (case k1 => k_asm); (case k2 => k_asm); (case k3 => k_asm); (case k4 => k_asm); (case k5 => k_asm); (case k6 => k_is); (case k7 => k_is); (case k8 => ktr_room); (case k9 => exact BindsTo.of_eq rfl); (case kB => exact rfl); (case kD => decide +kernel); (case c2 => exact rfl); (case c3 => exact rfl); (case c4 => exact rfl); k_whole; intro g' L' h' tk' cells' FG' F' N' Y' B' X' T' l1; (try k_lt l1); k_cells Y'; (try simp only [List.cons_append, List.nil_append] at N'); (try dsimp only); (try k_lift B'); (try k_fold))
  k_steps
  refine Stop.mk ?_
  rename IsRange _ _ _ _ _ _ _ _ => hrg
  rename Fr _ _ _ _ => lF
  rename News _ _ _ _ => lN
  refine LCg.CompSrc.range rfl lF lN hrg (small_one (by omega) (by omega) (by omega) (by omega)) (rangeSize_nat _ _) (by rw [sizeLine_eq]; omega) ?_
  intro g''
  rename IntsAre _ _ => hI1
  rename ∀ d ∈ _, (0 : Int) ≤ d => hN1
  rename List.length _ ≤ 63 => hL1
  refine restJ (fun i ys nw => ∃ us es ne cs, nw = (L' + 1, _) :: (dk, listOf us.toArray ne) :: R ∧ IntsAre us es ∧ (∀ d ∈ es, 0 ≤ d) ∧ es.length ≤ 63 ∧ SignsAre ys cs ∧ cs.length = i) ⟨_, _, _, [], rfl, hI1, hN1, hL1, ⟨.nil, fun _ h => nomatch h⟩, rfl⟩ ?_ ?_
  · rintro i v I oI C oC D m₂ ys nw h tk E' hilt ⟨t, rfl⟩ ⟨us, es, ne, cs, rfl, hI2, hN2, hL2, hS, hl⟩ hC hx F₁ N₁ off ne'
    simp only [LCg.Off3, and_true] at off
    try k_fold
    k_steps
    rename (_ : Int) < 13 => hr13
    obtain ⟨c, ec, hc⟩ := item_sign (by assumption) hr13
    rw [ec]
    rename IntsAre _ _ => hI3
    rename ∀ d ∈ _, (0 : Int) ≤ d => hN3
    rename List.length _ ≤ 63 => hL3
    rename News _ _ _ _ => lN3
    exact LCg.CompEnd.intro (by assumption) lN3 ((L' + 1, _) :: (dk, listOf _ _) :: R) (fun _ h => h) off trivial ⟨_, _, _, cs ++ [c], rfl, hI3, hN3, hL3, signs_snoc hS hc, by rw [List.length_append, hl]; rfl⟩
  · rintro ys nw ⟨us, es, ne, cs, rfl, hI2, hN2, hL2, hS, hl⟩
    k_steps
    rename News _ _ _ _ => lN3
    refine join_list (News.isList lN3 (.head _)) hS.1 ?_ ?_
    · have e : (PySem.Str.ofString "").length = 0 := by decide +kernel
      rw [join_len, e]; omega
    intro t9 k9
    try k_fold
    k_steps
    have ej : Txt.join (PySem.Str.ofString "") (cs.map fun c => (⟨#[c]⟩ : PySem.Str)) = PySem.Str.join PySem.Str.empty (cs.map fun c => (⟨#[c]⟩ : PySem.Str)) := by
      rw [empty_is]; exact PySem.StrLaws.glued_eq_join _ _
    rw [ej]
    rename News h₀ L _ _ => kN
    exact hret _ _ us es _ _ _ (text_ok hS.2 (by omega)) hI2 hN2 hL2 (by assumption) (cb_drop kN fun p hp => List.mem_cons_of_mem _ (List.mem_cons_of_mem _ hp))
end Mine
end

section
open PySem PySem.W PyProof.Rows
set_option maxRecDepth 100000
namespace Mine
local macro_rules | `(tactic| units_room) => `(tactic| (have hcL9 := cLine_is; (try simp only [units_in1, units_deeper, units_under_make, Around.mark_units]); (try dsimp only [ktrTop]); omega))
local macro_rules | `(tactic| k_units) => `(tactic| units_room)
local macro_rules | `(tactic| room) => `(tactic| ((try simp only [depth_under_make, depth_under_kw, depth_in1, depth_deeper]); (try dsimp only [ktrTop]); (simp only [recursionLimit]); omega))
local macro_rules | `(tactic| k_room) => `(tactic| room)
local macro_rules | `(tactic| ktr_room) => `(tactic| room)
local macro_rules | `(tactic| k_all) => `(tactic| with_reducible assumption)
local macro_rules | `(tactic| k_handed) => `(tactic| with_reducible assumption)
local macro_rules | `(tactic| k_mem) => `(tactic| ((repeat (first | exact List.mem_cons_self | refine List.mem_cons_of_mem _ ?_)); all_goals (first | with_reducible assumption | ktr_member)))
local macro_rules | `(tactic| walk_at "PostJ") => `(tactic| first | (refine PostJ.ret ?_; (try dsimp only)) | refine PostJ.next ?_)
local macro_rules | `(tactic| walk_at "exec For Name Name cons nil") => `(tactic| (k_here; (rename Fr _ _ _ _ => lF'); (with_unfolding_all refine' For_invVF lF' ?k1 ?k2 ?_; (case k1 => exact rfl); (case k2 => exact rfl); k_whole)))
local macro_rules | `(tactic| walk_at "exec For Name Call cons nil") => `(tactic| (k_here; (rename Fr _ _ _ _ => lF'); (with_unfolding_all refine' For_invVF lF' ?k1 ?k2 ?_; (case k1 => exact rfl); (case k2 => exact rfl); k_whole)))
local macro_rules | `(tactic| walk_at "pyIter str") => `(tactic| (refine Stop.out ?_))
local macro_rules | `(tactic| walk_at "pyIter ref") => `(tactic| (refine Stop.out ?_))

/-- how a command ended -/
inductive Way
  | over | left | abort
abbrev Way.code : Way → Nat
  | .over => 0
  | .left => 1
  | .abort => 2
theorem code_left : ∀ {w : Way}, w = .left → w.code = 1
  | .left, _ => rfl
theorem code_over : ∀ {w : Way}, w = .over → w.code = 0
  | .over, _ => rfl
theorem code_no_left : ∀ {w : Way}, w ≠ .left → w.code ≠ 1
  | .over, _ => by decide
  | .abort, _ => by decide
  | .left, h => absurd rfl h
theorem code_no_over : ∀ {w : Way}, w ≠ .over → w.code ≠ 0
  | .left, _ => by decide
  | .abort, _ => by decide
  | .over, h => absurd rfl h
abbrev Way.str : Way → PySem.Str
  | .over => PySem.Str.ofString "over"
  | .left => PySem.Str.ofString "left"
  | .abort => PySem.Str.ofString "abort"
/-- one command of the history -/
structure Ent where
  name : PySem.Str
  tn : Tok
  keys : Addr
  way : Way
  tw : Tok
  left : Value
  raw : Value
abbrev entObj (e : Ent) (n : Nat) : Obj := { cls := .type "tuple", data := .seq #[.str e.name e.tn, .ref e.keys, .str e.way.str e.tw, e.left, e.raw] n }
structure EntAt (P : Params) (news : List (Addr × Obj)) (v : Value) (e : Ent) : Prop where
  at_ : ∃ a n, v = .ref a ∧ (a, entObj e n) ∈ news
  left : RawIn P 100000 news e.left
  raw : RawIn P 100000 news e.raw
theorem EntAt.mono {P : Params} {news news' : List (Addr × Obj)} {v : Value} {e : Ent} (h : EntAt P news v e) (hs : ∀ p ∈ news, p ∈ news') : EntAt P news' v e :=
  ⟨by obtain ⟨a, n, e1, e2⟩ := h.at_; exact ⟨a, n, e1, hs _ e2⟩, h.left.mono hs, h.raw.mono hs⟩
/-- the history, newest first -/
inductive HistR (P : Params) (news : List (Addr × Obj)) : List Value → List Ent → Prop
  | nil : HistR P news [] []
  | cons {v : Value} {e : Ent} {ws : List Value} {G : List Ent} : EntAt P news v e → HistR P news ws G → HistR P news (v :: ws) (e :: G)
theorem HistR.mono {P : Params} {news news' : List (Addr × Obj)} {ws : List Value} {G : List Ent} (h : HistR P news ws G) (hs : ∀ p ∈ news, p ∈ news') : HistR P news' ws G := by
  induction h with
  | nil => exact .nil
  | cons h1 _ ih => exact .cons (h1.mono hs) ih
theorem HistR.length {P : Params} {news : List (Addr × Obj)} {ws : List Value} {G : List Ent} (h : HistR P news ws G) : ws.length = G.length := by
  induction h with
  | nil => rfl
  | cons _ _ ih => rw [List.length_cons, List.length_cons, ih]
theorem HistR.at {P : Params} {news : List (Addr × Obj)} {ws : List Value} {G : List Ent} (h : HistR P news ws G) : ∀ {i : Nat}, i < G.length → ∃ v e, ws[i]? = some v ∧ G[i]? = some e ∧ EntAt P news v e := by
  induction h with
  | nil => intro i hi; exact absurd hi (Nat.not_lt_zero _)
  | cons h1 _ ih =>
    intro i hi
    cases i with
    | zero => exact ⟨_, _, rfl, rfl, h1⟩
    | succ i => obtain ⟨v, e, a, b, c⟩ := ih (Nat.lt_of_succ_lt_succ hi); exact ⟨v, e, by simpa using a, by simpa using b, c⟩
theorem rev_at {ws : List Value} {i n : Nat} {v : Value} {k : Int} (hl : ws.length = n) (hi : i < n) (hv : ws[i]? = some v) (hk : k = (n : Int) - 1 - (i : Int)) : ws.reverse[k.toNat]? = some v := by
  have e : k.toNat = ws.length - 1 - i := by omega
  rw [e, List.getElem?_reverse (by omega)]
  rw [← hv]; congr 1; omega

/-- the name that the history gives as the last command's -/
def lastName : List Ent → PySem.Str
  | [] => PySem.Str.ofString ""
  | e :: r => if e.way.code = 1 then lastName r else e.name
def FindSpec (G : List Ent) (r : Int) : Prop :=
  (r = -1 ∧ lastName G = PySem.Str.ofString "") ∨ ∃ i e, i < G.length ∧ G[i]? = some e ∧ lastName G = e.name ∧ r = (G.length : Int) - 1 - (i : Int)
theorem find_none : ∀ {G : List Ent}, (∀ (j : Nat) (e : Ent), G[j]? = some e → e.way = .left) → lastName G = PySem.Str.ofString ""
  | [], _ => rfl
  | e :: r, h => by
    have h0 := h 0 e rfl
    show (if e.way.code = 1 then lastName r else e.name) = _
    rw [if_pos (code_left h0)]
    exact find_none fun j e' hj => h (j + 1) e' (by simpa using hj)
theorem find_some : ∀ {G : List Ent} {i : Nat} {e : Ent}, G[i]? = some e → e.way ≠ .left → (∀ j, j < i → ∀ e' : Ent, G[j]? = some e' → e'.way = .left) → lastName G = e.name
  | [], i, e, hi, _, _ => by simp at hi
  | e₀ :: r, 0, e, hi, hw, _ => by
    have : e₀ = e := by simpa using hi
    subst this
    show (if e₀.way.code = 1 then lastName r else e₀.name) = _
    rw [if_neg (code_no_left hw)]
  | e₀ :: r, i + 1, e, hi, hw, hj => by
    have h0 := hj 0 (Nat.succ_pos _) e₀ rfl
    show (if e₀.way.code = 1 then lastName r else e₀.name) = _
    rw [if_pos (code_left h0)]
    exact find_some (by simpa using hi) hw fun j hjl e' he' => hj (j + 1) (Nat.succ_lt_succ hjl) e' (by simpa using he')

theorem item_at {prog : Program} {w : World} {A : Around} {E : Value → Shared → Prop} {s : Shared} {value slice : PySem.Expr} {l : Addr} {vs : List Value} {k : Int} {u : Tok} {v : Value} {h₀ : Heap} {L : Addr} {news : List (Addr × Obj)} {n : Nat} {Q : Value → Shared → Prop}
    (N : News h₀ L s.heap news) (hl : (l, listOf vs.toArray n) ∈ news) (hx : vs[k.toNat]? = some v) (h0 : 0 ≤ k) (hhi : k < 2 ^ 63) (h : Q v s)
    (hs : subscripted slice false (.ref l) (.int k u) = operate [.ref l, .int k u] (getItem (.ref l) (.int k u)) := by with_unfolding_all rfl) :
    wpAny (model prog w) A (subscriptTail value slice (.ref l) (.int k u)) Q E s :=
  tail_any (News.isList N hl).typeIs slot_list_getitem.lookup (wpAny_getItem_list (News.isList N hl) h0 hhi (by simpa using hx) h) hs
local macro_rules | `(tactic| walk_at "subscriptTail") => `(tactic| (k_here; (with_reducible show wpAny _ _ (subscriptTail _ _ (Value.ref _) (Value.int _ _)) _ _ _); k_dflt (refine' item_at ?k1 ?k2 ?k3 ?k4 ?k5 ?_ ?k6; (case k1 => k_asm); (case k2 => assumption); (case k3 => assumption); (case k4 => omega); (case k5 => omega); (case k6 => with_unfolding_all rfl); k_whole)))

set_option maxHeartbeats 4000000 in
theorem find_core {w : World} {loose : List Str} {mean : ExcName → Option Value} {mg mb : Str → Option Value} {dp un : Nat} {gd : Option (List Code)} {cn : Str} {cs : Scope} {a : Addr} {ccd : Value} {cl : List (Str × Addr)} {outer : List Env} {A₀ : Around} {base h₀ : Heap} {L : Addr} {m : Str → Option Value} {s : Shared} {Q E : Value → Shared → Prop} {news : List (Addr × Obj)} {hs : Addr} {ws : List Value} {G : List Ent} {nh : Nat} {t : Tok}
    (B : Below A₀ base outer h₀) (F : Fr h₀ L s.heap m) (X : (Mine.hd.heap_39 w.params).In h₀) (N : News h₀ L s.heap news) (T : Top Mine.hd.view_39 loose mean mg mb h₀) (hk : cs.kind = .function) (hd : dp ≤ 310) (hu : un ≤ 50)
    (hm : (hs, listOf ws.reverse.toArray nh) ∈ news) (hH : HistR w.params news ws G) (hG : G.length ≤ 20)
    (hret : ∀ r t' h' tk', FindSpec G r → Fr h₀ L h' m → News h₀ L h' news → Q (.int r t') { s with heap := h', toks := tk' }) :
    wpAny (model PySem.Challenge.rw_oj0019_01.row.prog w) (ktrTop dp un gd cn cs L a ccd cl outer) (call (.ref 159) [.ref hs, .int (G.length : Int) t]) Q E s := by
  w_top off
  revert X; k_fill; intro X
  refine wpAny_call ?_
  k_dflt ktr_enter
  k_steps
  refine Stop.mk ?_
  rename IsRange _ _ _ _ _ _ _ _ => hrg
  rename Fr _ _ _ _ => lF
  rename News _ _ _ _ => lN
  refine rangeJM (fun m0 i m nw => nw = news ∧ (∀ z, z ≠ PySem.Str.ofString "at" → m z = m0 z) ∧ ∀ j, j < i → ∀ e : Ent, G[j]? = some e → e.way = .left) rfl hrg (small_down (by omega) (by omega) (by omega) (by omega)) (rangeSize_downNat _ _) lF lN ⟨rfl, fun _ _ => rfl, fun j hj => absurd hj (Nat.not_lt_zero _)⟩ ?_ ?_
  · rintro i t₁ m₁ news₁ I oI h tk hi ⟨rfl, hmap, hj⟩ hoff ⟨fs, hfs⟩ F₁ N₁
    rw [map_none hmap] at F₁
    have hiG : i < G.length := by omega
    obtain ⟨v, e, hv, he, hE⟩ := hH.at hiG
    obtain ⟨a9, n9, rfl, ha9⟩ := hE.at_
    have hv' := rev_at (k := (G.length : Int) - 1 + (i : Int) * -1) hH.length hiG hv (by omega)
    have hm' : (hs, listOf ws.reverse.toArray nh) ∈ (I, oI) :: news₁ := List.mem_cons_of_mem _ hm
    obtain ⟨nm, tn, ks, way, tw, le, ra⟩ := e
    try k_fold
    cases way
    all_goals (dsimp only [entObj, Way.str] at ha9; k_steps)
    · rename News h₀ L _ _ => kN
      exact hret _ _ _ _ (.inr ⟨i, _, hiG, he, find_some he (fun h => nomatch h) hj, by omega⟩) (by assumption) (cb_drop kN fun p hp => List.mem_cons_of_mem _ hp)
    · refine ⟨_, _, _, news₁, rfl, by assumption, by assumption, hoff, rfl, fun z hz => if_neg hz, fun j hjl e' he' => ?_⟩
      rcases Nat.lt_succ_iff_lt_or_eq.mp hjl with hjl | rfl
      · exact hj j hjl e' he'
      · rw [he] at he'; cases he'; rfl
    · rename News h₀ L _ _ => kN
      exact hret _ _ _ _ (.inr ⟨i, _, hiG, he, find_some he (fun h => nomatch h) hj, by omega⟩) (by assumption) (cb_drop kN fun p hp => List.mem_cons_of_mem _ hp)
  · rintro m₁ news₁ h tk ⟨rfl, hmap, hj⟩ F₁ N₁
    try k_fold
    k_steps
    refine hret _ _ _ _ (.inl ⟨rfl, find_none fun j e he => hj j ?_ e he⟩) (by assumption) (by assumption)
    by_cases hjl : j < G.length
    · omega
    · rw [List.getElem?_eq_none (Nat.not_lt.mp hjl)] at he; cases he
end Mine
end

section
open PySem PySem.W PyProof.Rows
set_option maxRecDepth 100000
namespace Mine

/-- the tail of a ledger that is written ahead of it -/
inductive Tail (R : List (Addr × Obj)) : List (Addr × Obj) → (List (Addr × Obj) → List (Addr × Obj)) → Prop
  | here : Tail R R (fun r => r)
  | cons {p : Addr × Obj} {l : List (Addr × Obj)} {g : List (Addr × Obj) → List (Addr × Obj)} : Tail R l g → Tail R (p :: l) (fun r => p :: g r)
theorem Tail.mem {R l tl : List (Addr × Obj)} {g : List (Addr × Obj) → List (Addr × Obj)} (t : Tail R l g) : ∀ p, p ∈ g (tl ++ R) → p ∈ tl ++ l := by
  induction t with
  | here => exact fun p hp => hp
  | cons _ ih =>
    intro p hp
    rcases List.mem_cons.mp hp with rfl | hp
    · exact List.mem_append_right _ (.head _)
    · rcases List.mem_append.mp (ih p hp) with h | h
      · exact List.mem_append_left _ h
      · exact List.mem_append_right _ (.tail _ h)
theorem Tail.mem' {R l tl : List (Addr × Obj)} {g : List (Addr × Obj) → List (Addr × Obj)} (t : Tail R l g) : ∀ p, p ∈ tl ++ l → p ∈ g (tl ++ R) := by
  induction t with
  | here => exact fun p hp => hp
  | cons _ ih =>
    intro p hp
    rcases List.mem_append.mp hp with h | h
    · exact .tail _ (ih p (List.mem_append_left _ h))
    · rcases List.mem_cons.mp h with rfl | h
      · exact .head _
      · exact .tail _ (ih p (List.mem_append_right _ h))
theorem Tail.news {R l tl : List (Addr × Obj)} {g : List (Addr × Obj) → List (Addr × Obj)} (t : Tail R l g) {h₀ h : Heap} {L : Addr} (N : News h₀ L h (tl ++ l)) : News h₀ L h (g (tl ++ R)) := cb_drop N (t.mem)
theorem Tail.sub {R l : List (Addr × Obj)} {g : List (Addr × Obj) → List (Addr × Obj)} (t : Tail R l g) : ∀ p ∈ R, p ∈ l := by
  induction t with
  | here => exact fun p hp => hp
  | cons _ ih => exact fun p hp => .tail _ (ih p hp)

section
variable {prog : Program} {w : World} {A : Around} {E : Value → Shared → Prop} {s : Shared} {value slice : PySem.Expr} {l : Addr} {k : Int} {u : Tok} {h₀ : Heap} {L : Addr} {news : List (Addr × Obj)} {n : Nat} {Q : Value → Shared → Prop}
theorem item_str4 {a b c d : PySem.Str} {ta tb tc td : Tok} (N : News h₀ L s.heap news) (hl : (l, listOf #[.str a ta, .str b tb, .str c tc, .str d td] n) ∈ news) (h0 : 0 ≤ k) (h4 : k < 4) (h : ∀ x t, Q (.str x t) s)
    (hs : subscripted slice false (.ref l) (.int k u) = operate [.ref l, .int k u] (getItem (.ref l) (.int k u)) := by with_unfolding_all rfl) :
    wpAny (model prog w) A (subscriptTail value slice (.ref l) (.int k u)) Q E s := by
  have hk : k = 0 ∨ k = 1 ∨ k = 2 ∨ k = 3 := by omega
  rcases hk with rfl | rfl | rfl | rfl
  · exact item_at (vs := [.str a ta, .str b tb, .str c tc, .str d td]) N hl rfl (by decide) (by decide) (h _ _) hs
  · exact item_at (vs := [.str a ta, .str b tb, .str c tc, .str d td]) N hl rfl (by decide) (by decide) (h _ _) hs
  · exact item_at (vs := [.str a ta, .str b tb, .str c tc, .str d td]) N hl rfl (by decide) (by decide) (h _ _) hs
  · exact item_at (vs := [.str a ta, .str b tb, .str c tc, .str d td]) N hl rfl (by decide) (by decide) (h _ _) hs
theorem item_str3 {a b c : PySem.Str} {ta tb tc : Tok} (N : News h₀ L s.heap news) (hl : (l, listOf #[.str a ta, .str b tb, .str c tc] n) ∈ news) (h0 : 0 ≤ k) (h4 : k < 3) (ha : Q (.str a ta) s) (hb : Q (.str b tb) s) (hc : Q (.str c tc) s)
    (hs : subscripted slice false (.ref l) (.int k u) = operate [.ref l, .int k u] (getItem (.ref l) (.int k u)) := by with_unfolding_all rfl) :
    wpAny (model prog w) A (subscriptTail value slice (.ref l) (.int k u)) Q E s := by
  have hk : k = 0 ∨ k = 1 ∨ k = 2 := by omega
  rcases hk with rfl | rfl | rfl
  · exact item_at (vs := [.str a ta, .str b tb, .str c tc]) N hl rfl (by decide) (by decide) ha hs
  · exact item_at (vs := [.str a ta, .str b tb, .str c tc]) N hl rfl (by decide) (by decide) hb hs
  · exact item_at (vs := [.str a ta, .str b tb, .str c tc]) N hl rfl (by decide) (by decide) hc hs
end

/-- what the state is to hold behind a history -/
def prefOf : List Ent → Value
  | [] => .none
  | e :: _ => e.left
def overOf : List Ent → Option Ent
  | [] => none
  | e :: r => if e.way.code = 0 then some e else overOf r
def lastPref (G : List Ent) : Value := match overOf G with
  | none => .none
  | some e => e.raw
/-- the state's entries -/
structure Sta where
  k1 : Tok
  k2 : Tok
  k3 : Tok
  k4 : Tok
  k5 : Tok
  k6 : Tok
  k7 : Tok
  k8 : Tok
  k9 : Tok
  k10 : Tok
  k11 : Tok
  k12 : Tok
  k13 : Tok
  tc : PySem.Str
  t1 : Tok
  t2 : Tok
  t9 : Tok
  vc : Value
  ks : Addr
  ur : Addr
  b1 : Bool
  b2 : Bool
  b3 : Bool
abbrev staObj (P : Params) (S : Sta) (G : List Ent) : Obj := dictOf [
  ⟨PyData.keyHash P (PySem.Str.ofString "this_command"), .str (PySem.Str.ofString "this_command") S.k1, .str S.tc S.t1⟩,
  ⟨PyData.keyHash P (PySem.Str.ofString "last_command"), .str (PySem.Str.ofString "last_command") S.k2, .str (lastName G) S.t2⟩,
  ⟨PyData.keyHash P (PySem.Str.ofString "prefix"), .str (PySem.Str.ofString "prefix") S.k3, prefOf G⟩,
  ⟨PyData.keyHash P (PySem.Str.ofString "current"), .str (PySem.Str.ofString "current") S.k4, S.vc⟩,
  ⟨PyData.keyHash P (PySem.Str.ofString "last_prefix"), .str (PySem.Str.ofString "last_prefix") S.k5, lastPref G⟩,
  ⟨PyData.keyHash P (PySem.Str.ofString "this_keys"), .str (PySem.Str.ofString "this_keys") S.k6, .ref S.ks⟩,
  ⟨PyData.keyHash P (PySem.Str.ofString "last_event"), .str (PySem.Str.ofString "last_event") S.k7, .none⟩,
  ⟨PyData.keyHash P (PySem.Str.ofString "unread"), .str (PySem.Str.ofString "unread") S.k8, .ref S.ur⟩,
  ⟨PyData.keyHash P (PySem.Str.ofString "echo"), .str (PySem.Str.ofString "echo") S.k9, .str (PySem.Str.ofString "") S.t9⟩,
  ⟨PyData.keyHash P (PySem.Str.ofString "is_universal"), .str (PySem.Str.ofString "is_universal") S.k10, .bool S.b1⟩,
  ⟨PyData.keyHash P (PySem.Str.ofString "is_repeating"), .str (PySem.Str.ofString "is_repeating") S.k11, .bool S.b2⟩,
  ⟨PyData.keyHash P (PySem.Str.ofString "is_shifted"), .str (PySem.Str.ofString "is_shifted") S.k12, .bool S.b3⟩,
  ⟨PyData.keyHash P (PySem.Str.ofString "repeated"), .str (PySem.Str.ofString "repeated") S.k13, .none⟩] 13

/-- the word of the outer loop -/
def Word (P : Params) (cd dk st sd hs : Addr) (oc : Obj) (i : Nat) (m : PySem.Str → Option Value) (nw : List (Addr × Obj)) : Prop :=
  ∃ (us : List Value) (es : List Int) (ne : Nat) (S : Sta) (ws : List Value) (G : List Ent) (nh : Nat) (R : List (Addr × Obj)),
    nw = (cd, oc) :: (dk, listOf us.toArray ne) :: (st, instObj 59 sd) :: (sd, staObj P S G) :: (hs, listOf ws.reverse.toArray nh) :: R ∧
    m (PySem.Str.ofString "state") = some (.ref st) ∧ m (PySem.Str.ofString "history") = some (.ref hs) ∧
    IntsAre us es ∧ (∀ d ∈ es, 0 ≤ d) ∧ es.length ≤ 63 ∧ HistR P R ws G ∧ G.length = i ∧
    (∀ p ∈ R, p.1 ≠ dk) ∧ (∀ p ∈ R, p.1 ≠ sd) ∧ (∀ p ∈ R, p.1 ≠ hs)
theorem HistR.pref {P : Params} {R : List (Addr × Obj)} {ws : List Value} {G : List Ent} (h : HistR P R ws G) : RawIn P 100000 R (prefOf G) := by
  cases h with
  | nil => exact .none
  | cons h1 _ => exact h1.left

section
variable {prog : Program} {w : World} {A : Around} {E : Value → Shared → Prop} {s : Shared} {env : Env} {h₀ : Heap} {x : PySem.Str} {body : List Stmt} {Q : Flow → Shared → Prop}
/-- the outer loop: its start and one turn -/
theorem outer {P : Params} {r : Addr} {b₀ : Int} {t₀ u₀ v₀ : Tok} {m₀ : PySem.Str → Option Value} {D1 hs ur D4 st sd dk D8 cd : Addr} {o1 o3 o4 o8 oc : Obj} {nh0 n0 : Nat} {us : List Value} {es : List Int} {k1 k2 k3 k4 k5 k6 k7 k8 k9 k10 k11 k12 k13 t1 t2 t9 : Tok} {ks : Addr} {b1 b2 b3 : Bool}
    (hh : A.handled = none) (hr : IsRange s.heap r 0 b₀ 1 t₀ u₀ v₀) (hb : b₀ ≤ 14) (hb0 : 0 ≤ b₀) (F : Fr h₀ env.locals s.heap m₀)
    (N : News h₀ env.locals s.heap [(D1, o1), (hs, listOf #[] nh0), (ur, o3), (D4, o4), (st, instObj 59 sd), (sd, dictOf [
      ⟨PyData.keyHash P (PySem.Str.ofString "this_command"), .str (PySem.Str.ofString "this_command") k1, .str (PySem.Str.ofString "") t1⟩,
      ⟨PyData.keyHash P (PySem.Str.ofString "last_command"), .str (PySem.Str.ofString "last_command") k2, .str (PySem.Str.ofString "") t2⟩,
      ⟨PyData.keyHash P (PySem.Str.ofString "prefix"), .str (PySem.Str.ofString "prefix") k3, .none⟩,
      ⟨PyData.keyHash P (PySem.Str.ofString "current"), .str (PySem.Str.ofString "current") k4, .none⟩,
      ⟨PyData.keyHash P (PySem.Str.ofString "last_prefix"), .str (PySem.Str.ofString "last_prefix") k5, .none⟩,
      ⟨PyData.keyHash P (PySem.Str.ofString "this_keys"), .str (PySem.Str.ofString "this_keys") k6, .ref ks⟩,
      ⟨PyData.keyHash P (PySem.Str.ofString "last_event"), .str (PySem.Str.ofString "last_event") k7, .none⟩,
      ⟨PyData.keyHash P (PySem.Str.ofString "unread"), .str (PySem.Str.ofString "unread") k8, .ref ur⟩,
      ⟨PyData.keyHash P (PySem.Str.ofString "echo"), .str (PySem.Str.ofString "echo") k9, .str (PySem.Str.ofString "") t9⟩,
      ⟨PyData.keyHash P (PySem.Str.ofString "is_universal"), .str (PySem.Str.ofString "is_universal") k10, .bool b1⟩,
      ⟨PyData.keyHash P (PySem.Str.ofString "is_repeating"), .str (PySem.Str.ofString "is_repeating") k11, .bool b2⟩,
      ⟨PyData.keyHash P (PySem.Str.ofString "is_shifted"), .str (PySem.Str.ofString "is_shifted") k12, .bool b3⟩,
      ⟨PyData.keyHash P (PySem.Str.ofString "repeated"), .str (PySem.Str.ofString "repeated") k13, .none⟩] 13), (dk, listOf us.toArray n0), (D8, o8), (cd, oc)])
    (hI : IntsAre us es) (h0 : ∀ d ∈ es, 0 ≤ d) (hl : es.length ≤ 63) (hm1 : m₀ (PySem.Str.ofString "state") = some (.ref st)) (hm2 : m₀ (PySem.Str.ofString "history") = some (.ref hs))
    (hord : (@Ne Nat cd dk ∧ @LT.lt Nat _ cd sd ∧ @LT.lt Nat _ dk sd ∧ @LT.lt Nat _ sd st ∧ @LT.lt Nat _ st hs))
    (ne' : (@Ne Nat D1 dk ∧ @Ne Nat D1 sd ∧ @Ne Nat D1 hs) ∧ (@Ne Nat ur dk ∧ @Ne Nat ur sd ∧ @Ne Nat ur hs) ∧ (@Ne Nat D4 dk ∧ @Ne Nat D4 sd ∧ @Ne Nat D4 hs) ∧ (@Ne Nat D8 dk ∧ @Ne Nat D8 sd ∧ @Ne Nat D8 hs))
    (turn : ∀ (i : Nat) (t : Tok) (m₁ : PySem.Str → Option Value) (I : Addr) (oI : Obj) (fs : Array Value) (h : Heap) (tk : Nat) (us : List Value) (es : List Int) (ne : Nat) (S : Sta) (ws : List Value) (G : List Ent) (nh : Nat) (R : List (Addr × Obj)), i < 14 → IntsAre us es → (∀ d ∈ es, 0 ≤ d) → es.length ≤ 63 → HistR P R ws G → G.length = i → (∀ p ∈ R, p.1 ≠ dk) → (∀ p ∈ R, p.1 ≠ sd) → (∀ p ∈ R, p.1 ≠ hs) → (∀ p ∈ R, p.1 ≠ I) → oI.data = .fields fs →
      (@Ne Nat cd dk ∧ @LT.lt Nat _ cd sd ∧ @LT.lt Nat _ dk sd ∧ @LT.lt Nat _ sd st ∧ @LT.lt Nat _ st hs ∧ @LT.lt Nat _ hs I) →
      Fr h₀ env.locals h (fun y => if y = x then some (.int (0 + (i : Int) * 1) t) else if y = PySem.Str.ofString "state" then some (.ref st) else if y = PySem.Str.ofString "history" then some (.ref hs) else m₁ y) →
      News h₀ env.locals h ((I, oI) :: (cd, oc) :: (dk, listOf us.toArray ne) :: (st, instObj 59 sd) :: (sd, staObj P S G) :: (hs, listOf ws.reverse.toArray nh) :: R) →
      wpAny (model prog w) A (execs body env) (PostJ h₀ env.locals (Word P cd dk st sd hs oc (i + 1)) I oI { s with heap := h, toks := tk } Q) E { s with heap := h, toks := tk })
    (done : ∀ m₁ news₁ h tk, Fr h₀ env.locals h m₁ → News h₀ env.locals h news₁ → Q .next { s with heap := h, toks := tk }) :
    wpAny (model prog w) A (pyIter (.ref r)) (fun it s₂ => LoopAtV prog w A h₀ env x body Q E it s₂) E s := by
  refine rangeJL (Word P cd dk st sd hs oc) hh hr (small_one (by omega) (by omega) (by omega) (by omega)) (rangeSize_nat _ _) F (news := (cd, oc) :: (dk, listOf us.toArray n0) :: (st, instObj 59 sd) :: (sd, staObj P ⟨k1, k2, k3, k4, k5, k6, k7, k8, k9, k10, k11, k12, k13, PySem.Str.ofString "", t1, t2, t9, .none, ks, ur, b1, b2, b3⟩ []) :: (hs, listOf ([] : List Value).reverse.toArray nh0) :: [(D1, o1), (ur, o3), (D4, o4), (D8, o8)]) (cb_drop N ?_)
    ⟨us, es, n0, _, [], [], nh0, _, rfl, hm1, hm2, hI, h0, hl, .nil, rfl, ?_, ?_, ?_⟩ ?_ ?_
  · intro p hp
    rcases List.mem_cons.mp hp with rfl | hp
    · simp
    rcases List.mem_cons.mp hp with rfl | hp
    · simp
    rcases List.mem_cons.mp hp with rfl | hp
    · simp
    rcases List.mem_cons.mp hp with rfl | hp
    · exact .tail _ (.tail _ (.tail _ (.tail _ (.tail _ (.head _)))))
    rcases List.mem_cons.mp hp with rfl | hp
    · exact .tail _ (.head _)
    rcases List.mem_cons.mp hp with rfl | hp
    · simp
    rcases List.mem_cons.mp hp with rfl | hp
    · simp
    rcases List.mem_cons.mp hp with rfl | hp
    · simp
    rcases List.mem_cons.mp hp with rfl | hp
    · simp
    · cases hp
  · intro p hp
    simp only [List.mem_cons, List.not_mem_nil, or_false] at hp
    rcases hp with rfl | rfl | rfl | rfl
    · exact ne'.1.1
    · exact ne'.2.1.1
    · exact ne'.2.2.1.1
    · exact ne'.2.2.2.1
  · intro p hp
    simp only [List.mem_cons, List.not_mem_nil, or_false] at hp
    rcases hp with rfl | rfl | rfl | rfl
    · exact ne'.1.2.1
    · exact ne'.2.1.2.1
    · exact ne'.2.2.1.2.1
    · exact ne'.2.2.2.2.1
  · intro p hp
    simp only [List.mem_cons, List.not_mem_nil, or_false] at hp
    rcases hp with rfl | rfl | rfl | rfl
    · exact ne'.1.2.2
    · exact ne'.2.1.2.2
    · exact ne'.2.2.1.2.2
    · exact ne'.2.2.2.2.2
  · rintro i t m₁ news₁ I oI h tk hi ⟨us, es, ne, S, ws, G, nh, R, rfl, hm1, hm2, hI, h0, hl, hH, hG, hR1, hR2, hR3⟩ hoff hltI ⟨fs, hfs⟩ F₁ N₁
    have eqm : (fun y => if y = x then some (Value.int (0 + (i : Int) * 1) t) else m₁ y) = fun y => if y = x then some (.int (0 + (i : Int) * 1) t) else if y = PySem.Str.ofString "state" then some (.ref st) else if y = PySem.Str.ofString "history" then some (.ref hs) else m₁ y := by
      funext y
      by_cases h1 : y = x
      · rw [if_pos h1, if_pos h1]
      · rw [if_neg h1, if_neg h1]
        by_cases h2 : y = PySem.Str.ofString "state"
        · rw [if_pos h2, h2, hm1]
        · rw [if_neg h2]
          by_cases h3 : y = PySem.Str.ofString "history"
          · rw [if_pos h3, h3, hm2]
          · rw [if_neg h3]
    rw [eqm] at F₁
    refine turn i t m₁ I oI fs h tk us es ne S ws G nh R (by omega) hI h0 hl hH hG hR1 hR2 hR3 (fun p hp => hoff p ?_) hfs ⟨hord.1, hord.2.1, hord.2.2.1, hord.2.2.2.1, hord.2.2.2.2, ?_⟩ F₁ N₁
    · exact .tail _ (.tail _ (.tail _ (.tail _ (.tail _ hp))))
    · exact hltI (hs, _) (.tail _ (.tail _ (.tail _ (.tail _ (.head _)))))
  · rintro m₁ news₁ h tk _ F₁ N₁
    exact done m₁ news₁ h tk F₁ N₁

theorem news_same {h : Heap} {L a : Addr} {o o' : Obj} {nw : List (Addr × Obj)} (N : News h₀ L h nw) (h1 : (a, o) ∈ nw) (h2 : (a, o') ∈ nw) : o = o' := by
  have e1 := (N _ h1).1
  have e2 := (N _ h2).1
  exact Option.some.inj (e1.symm.trans e2)

theorem ne_cls {h : Heap} {L a b : Addr} {o o' : Obj} {nw : List (Addr × Obj)} (N : News h₀ L h nw) (h1 : (a, o) ∈ nw) (h2 : (b, o') ∈ nw) (hc : o.cls ≠ o'.cls) : @Ne Nat a b := fun e => by
  have e' : a = b := e
  subst e'
  exact hc (congrArg Obj.cls (news_same N h1 h2))

/-- what a turn leaves behind in the tail -/
abbrev tailOf (I dk sd hs : Addr) (nw : List (Addr × Obj)) : List (Addr × Obj) := nw.filter fun p => !(p.1 == I) && !(p.1 == dk) && !(p.1 == sd) && !(p.1 == hs)
theorem mem_tailOf {I dk sd hs : Addr} {nw : List (Addr × Obj)} {p : Addr × Obj} : p ∈ tailOf I dk sd hs nw ↔ p ∈ nw ∧ p.1 ≠ I ∧ p.1 ≠ dk ∧ p.1 ≠ sd ∧ p.1 ≠ hs := by
  simp only [tailOf, List.mem_filter, Bool.and_eq_true, Bool.not_eq_true', beq_eq_false_iff_ne, and_assoc]
structure Marks (P : Params) (h₀ : Heap) (L : Addr) (h : Heap) (I dk sd hs : Addr) (nw : List (Addr × Obj)) : Prop where
  N : News h₀ L h nw
  eI : ∃ oI fs, (I, oI) ∈ nw ∧ oI.data = .fields fs
  edk : ∃ its n, (dk, listOf its n) ∈ nw
  esd : ∃ en, (sd, dictOf en 13) ∈ nw
  ehs : ∃ its n, (hs, listOf its n) ∈ nw
theorem Marks.keep {P : Params} {h : Heap} {L I dk sd hs : Addr} {nw : List (Addr × Obj)} (M : Marks P h₀ L h I dk sd hs nw) {a : Addr} {o : Obj} (ha : (a, o) ∈ nw) (h1 : ∀ fs, o.data ≠ .fields fs) (h2 : o.cls ≠ .type "list") (h3 : ∀ en, o ≠ dictOf en 13) : (a, o) ∈ tailOf I dk sd hs nw := by
  refine mem_tailOf.mpr ⟨ha, fun e => ?_, fun e => ?_, fun e => ?_, fun e => ?_⟩
  · obtain ⟨oI, fs, hm, hd⟩ := M.eI
    have q := news_same M.N hm (e ▸ ha : (I, o) ∈ nw)
    exact h1 fs (q ▸ hd)
  · obtain ⟨its, n, hm⟩ := M.edk
    have q := news_same M.N hm (e ▸ ha : (dk, o) ∈ nw)
    exact h2 (q ▸ rfl)
  · obtain ⟨en, hm⟩ := M.esd
    have q := news_same M.N hm (e ▸ ha : (sd, o) ∈ nw)
    exact h3 en q.symm
  · obtain ⟨its, n, hm⟩ := M.ehs
    have q := news_same M.N hm (e ▸ ha : (hs, o) ∈ nw)
    exact h2 (q ▸ rfl)
theorem Marks.raw {P : Params} {h : Heap} {L I dk sd hs : Addr} {nw : List (Addr × Obj)} (M : Marks P h₀ L h I dk sd hs nw) {b : Nat} {v : Value} (hv : RawIn P b nw v) : RawIn P b (tailOf I dk sd hs nw) v := by
  cases hv with
  | none => exact .none
  | int i t h => exact .int i t h
  | minus t => exact .minus t
  | many x dx i t u h h1 h2 =>
    exact .many x dx i t u h (M.keep h1 (fun _ h => nomatch h) (fun h => nomatch h) (fun _ h => nomatch h)) (M.keep h2 (fun _ h => nomatch h) (show Value.type "dict" ≠ Value.type "list" by decide) (fun en h => by injection h with _ _ hd _; injection hd with _ hn; exact absurd hn (by decide)))
theorem Marks.ent {P : Params} {h : Heap} {L I dk sd hs : Addr} {nw : List (Addr × Obj)} (M : Marks P h₀ L h I dk sd hs nw) {v : Value} {e : Ent} (hv : EntAt P nw v e) : EntAt P (tailOf I dk sd hs nw) v e := by
  refine ⟨?_, M.raw hv.left, M.raw hv.raw⟩
  obtain ⟨a, n, e1, e2⟩ := hv.at_
  exact ⟨a, n, e1, M.keep e2 (fun _ h => nomatch h) (show Value.type "tuple" ≠ Value.type "list" by decide) (fun en h => absurd (congrArg Obj.cls h) (show Value.type "tuple" ≠ Value.type "dict" by decide))⟩
theorem Marks.hist {P : Params} {h : Heap} {L I dk sd hs : Addr} {nw : List (Addr × Obj)} (M : Marks P h₀ L h I dk sd hs nw) {ws : List Value} {G : List Ent} (hv : HistR P nw ws G) : HistR P (tailOf I dk sd hs nw) ws G := by
  induction hv with
  | nil => exact .nil
  | cons h1 _ ih => exact .cons (M.ent h1) ih

/-- a turn's end -/
theorem turn_end {P : Params} {h' : Heap} {L cd dk st sd hs I : Addr} {oc oI : Obj} {fs : Array Value} {m' : PySem.Str → Option Value} {nw : List (Addr × Obj)} {i : Nat} {us : List Value} {es : List Int} {ne nh : Nat} {its : Array Value} {ws : List Value} {G : List Ent} {s₁ : Shared} {tk : Nat}
    {k1 k2 k3 k4 k5 k6 k7 k8 k9 k10 k11 k12 k13 t1 t2 t9 : Tok} {ks ur : Addr} {b1 b2 b3 : Bool} {tc lc : PySem.Str} {vp vc vl : Value}
    (F : Fr h₀ L h' m') (N : News h₀ L h' nw) (hfs : oI.data = .fields fs) (hI : IntsAre us es) (h0 : ∀ d ∈ es, 0 ≤ d) (hl : es.length ≤ 63) (hG : G.length = i)
    (hne : (@Ne Nat cd dk ∧ @LT.lt Nat _ cd sd ∧ @LT.lt Nat _ dk sd ∧ @LT.lt Nat _ sd st ∧ @LT.lt Nat _ st hs ∧ @LT.lt Nat _ hs I))
    (eI : (I, oI) ∈ nw) (ecd : (cd, oc) ∈ nw) (edk : (dk, listOf us.toArray ne) ∈ nw) (est : (st, instObj 59 sd) ∈ nw) (ehs : (hs, listOf its nh) ∈ nw)
    (esd : (sd, dictOf [
      ⟨PyData.keyHash P (PySem.Str.ofString "this_command"), .str (PySem.Str.ofString "this_command") k1, .str tc t1⟩,
      ⟨PyData.keyHash P (PySem.Str.ofString "last_command"), .str (PySem.Str.ofString "last_command") k2, .str lc t2⟩,
      ⟨PyData.keyHash P (PySem.Str.ofString "prefix"), .str (PySem.Str.ofString "prefix") k3, vp⟩,
      ⟨PyData.keyHash P (PySem.Str.ofString "current"), .str (PySem.Str.ofString "current") k4, vc⟩,
      ⟨PyData.keyHash P (PySem.Str.ofString "last_prefix"), .str (PySem.Str.ofString "last_prefix") k5, vl⟩,
      ⟨PyData.keyHash P (PySem.Str.ofString "this_keys"), .str (PySem.Str.ofString "this_keys") k6, .ref ks⟩,
      ⟨PyData.keyHash P (PySem.Str.ofString "last_event"), .str (PySem.Str.ofString "last_event") k7, .none⟩,
      ⟨PyData.keyHash P (PySem.Str.ofString "unread"), .str (PySem.Str.ofString "unread") k8, .ref ur⟩,
      ⟨PyData.keyHash P (PySem.Str.ofString "echo"), .str (PySem.Str.ofString "echo") k9, .str (PySem.Str.ofString "") t9⟩,
      ⟨PyData.keyHash P (PySem.Str.ofString "is_universal"), .str (PySem.Str.ofString "is_universal") k10, .bool b1⟩,
      ⟨PyData.keyHash P (PySem.Str.ofString "is_repeating"), .str (PySem.Str.ofString "is_repeating") k11, .bool b2⟩,
      ⟨PyData.keyHash P (PySem.Str.ofString "is_shifted"), .str (PySem.Str.ofString "is_shifted") k12, .bool b3⟩,
      ⟨PyData.keyHash P (PySem.Str.ofString "repeated"), .str (PySem.Str.ofString "repeated") k13, .none⟩] 13) ∈ nw)
    (hm1 : m' (PySem.Str.ofString "state") = some (.ref st)) (hm2 : m' (PySem.Str.ofString "history") = some (.ref hs))
    (hH : HistR P nw ws G) (hits : its = ws.reverse.toArray) (e1 : lc = lastName G) (e2 : vp = prefOf G) (e3 : vl = lastPref G) :
    EndJ h₀ L (Word P cd dk st sd hs oc i) I oI s₁ { s₁ with heap := h', toks := tk } := by
  subst e1 e2 e3 hits
  have M : Marks P h₀ L h' I dk sd hs nw := ⟨N, ⟨oI, fs, eI, hfs⟩, ⟨_, _, edk⟩, ⟨_, esd⟩, ⟨_, _, ehs⟩⟩
  refine ⟨h', tk, m', (cd, oc) :: (dk, listOf us.toArray ne) :: (st, instObj 59 sd) :: (sd, staObj P ⟨k1, k2, k3, k4, k5, k6, k7, k8, k9, k10, k11, k12, k13, tc, t1, t2, t9, vc, ks, ur, b1, b2, b3⟩ G) :: (hs, listOf ws.reverse.toArray nh) :: tailOf I dk sd hs nw, rfl, F, fun p hp => N p ?_, fun p hp => ?_, us, es, ne, _, ws, G, nh, _, rfl, hm1, hm2, hI, h0, hl, M.hist hH, hG, fun p hp => (mem_tailOf.mp hp).2.2.1, fun p hp => (mem_tailOf.mp hp).2.2.2.1, fun p hp => (mem_tailOf.mp hp).2.2.2.2⟩
  · rcases List.mem_cons.mp hp with rfl | hp
    · exact eI
    rcases List.mem_cons.mp hp with rfl | hp
    · exact ecd
    rcases List.mem_cons.mp hp with rfl | hp
    · exact edk
    rcases List.mem_cons.mp hp with rfl | hp
    · exact est
    rcases List.mem_cons.mp hp with rfl | hp
    · exact esd
    rcases List.mem_cons.mp hp with rfl | hp
    · exact ehs
    exact (mem_tailOf.mp hp).1
  · rcases List.mem_cons.mp hp with rfl | hp
    · exact Nat.ne_of_lt (by have := hne; omega : @LT.lt Nat _ cd I)
    rcases List.mem_cons.mp hp with rfl | hp
    · exact Nat.ne_of_lt (by have := hne; omega : @LT.lt Nat _ dk I)
    rcases List.mem_cons.mp hp with rfl | hp
    · exact Nat.ne_of_lt (by have := hne; omega : @LT.lt Nat _ st I)
    rcases List.mem_cons.mp hp with rfl | hp
    · exact Nat.ne_of_lt (by have := hne; omega : @LT.lt Nat _ sd I)
    rcases List.mem_cons.mp hp with rfl | hp
    · exact Nat.ne_of_lt hne.2.2.2.2.2
    exact (mem_tailOf.mp hp).2.1
end

/-- a step cut off from what stands behind it: the frame and the ledger stand, Pv is said of its value -/
def Kept {α : Type} (h₀ : Heap) (L : Addr) (m : PySem.Str → Option Value) (news : List (Addr × Obj)) (s : Shared) (Pv : α → Prop) (v : α) (s' : Shared) : Prop :=
  ∃ h' tk', s' = { s with heap := h', toks := tk' } ∧ Fr h₀ L h' m ∧ News h₀ L h' news ∧ Pv v
theorem cutK {α : Type} {M : Model} {A : Around} {E : Value → Shared → Prop} {s : Shared} {h₀ : Heap} {L : Addr} {m : PySem.Str → Option Value} {news : List (Addr × Obj)} {t : Sem α} {Q : α → Shared → Prop} (Pv : α → Prop) (hF0 : Fr h₀ L s.heap m) (hN0 : News h₀ L s.heap news)
    (h1 : wpAny M A t (Kept h₀ L m news s Pv) E s) (h2 : ∀ a h' tk', Pv a → Fr h₀ L h' m → News h₀ L h' news → Q a { s with heap := h', toks := tk' }) : wpAny M A t Q E s :=
  wpAny_mono h1 (fun a s' hk => by obtain ⟨h', tk', rfl, F', N', hp⟩ := hk; exact h2 a h' tk' hp F' N') fun _ _ e => e
theorem Kept.mk {α : Type} {h₀ h' : Heap} {L : Addr} {m : PySem.Str → Option Value} {news nw : List (Addr × Obj)} {s : Shared} {tk' : Nat} {Pv : α → Prop} {v : α} (F : Fr h₀ L h' m) (N : News h₀ L h' nw) (hs : ∀ p ∈ news, p ∈ nw) (hp : Pv v) : Kept h₀ L m news s Pv v { s with heap := h', toks := tk' } :=
  ⟨h', tk', rfl, F, cb_drop N hs, hp⟩
theorem b14 (n : Nat) : (1 + (if 13 < ((n : Int).fdiv 3) then (13 : Int) else (n : Int).fdiv 3)) ≤ 14 ∧ 0 ≤ (1 + (if 13 < ((n : Int).fdiv 3) then (13 : Int) else (n : Int).fdiv 3)) := by
  have h : 0 ≤ (n : Int).fdiv 3 := Int.fdiv_nonneg (Int.natCast_nonneg n) (by decide)
  split <;> omega
theorem abs_nonneg {ns : List Int} : ∀ d ∈ ns.map (fun k' => if k' < 0 then -k' else k'), (0 : Int) ≤ d := by
  intro d hd
  obtain ⟨k, _, rfl⟩ := List.mem_map.mp hd
  split <;> omega
theorem abs_len {ns : List Int} {f : Int → Int} : ((ns.take 60).map f).length ≤ 63 := by
  rw [List.length_map, List.length_take]; omega
/-- the keys: draws in a comprehension -/
def KeysJ (g : Obj → List (Addr × Obj)) (i : Nat) (ys : List Value) (nw : List (Addr × Obj)) : Prop :=
  ∃ (us : List Value) (es : List Int) (ne : Nat) (ks : List Int), nw = g (listOf us.toArray ne) ∧ IntsAre us es ∧ (∀ d ∈ es, 0 ≤ d) ∧ es.length ≤ 63 ∧ IntsAre ys ks ∧ ks.length = i
theorem KeysJ.snoc {g : Obj → List (Addr × Obj)} {i : Nat} {ys us : List Value} {es : List Int} {ne : Nat} {ks : List Int} {r : Int} {t : Tok} {nw : List (Addr × Obj)} (e : nw = g (listOf us.toArray ne)) (h1 : IntsAre us es) (h2 : ∀ d ∈ es, 0 ≤ d) (h3 : es.length ≤ 63) (h4 : IntsAre ys ks) (h5 : ks.length = i) : KeysJ g (i + 1) (ys ++ [.int r t]) nw :=
  ⟨us, es, ne, ks ++ [r], e, h1, h2, h3, IntsAre.append h4 (.cons r t .nil), by rw [List.length_append, h5]; rfl⟩
theorem keys_src {prog : Program} {w : World} {A : Around} {h₀ : Heap} {L : Addr} {m : PySem.Str → Option Value} {env : Env} {elt : Expr} {x : PySem.Str} {scope : Scope} {cl : List (PySem.Str × Addr)} {Fin : Shared → List Value → List (Addr × Obj) → Prop} {r : Addr} {b : Int} {t u v : Tok} {news : List (Addr × Obj)} {s₁ : Shared}
    {g : Obj → List (Addr × Obj)} {dk : Addr} {us : List Value} {es : List Int} {n0 : Nat} {oc : Obj} (hc0 : oc.data = .cell (some (.ref dk)))
    (hh : A.handled = none) (hr : IsRange s₁.heap r 0 b 1 t u v) (hb0 : 0 ≤ b) (hb : b ≤ 5) (F : Fr h₀ L s₁.heap m) (N : News h₀ L s₁.heap news) (U : UpdF dk (listOf us.toArray n0) news g) (h1 : IntsAre us es) (h2 : ∀ d ∈ es, 0 ≤ d) (h3 : es.length ≤ 63)
    (turn : ∀ s i I oI C oC D m₂ ys us es ne ks h tk (E' : Value → Shared → Prop), IntsAre us es → (∀ d ∈ es, 0 ≤ d) → es.length ≤ 63 → IntsAre ys ks → ks.length = i → LCg.NsObj oC m₂ → Fr h₀ L h m → News h₀ L h ((I, oI) :: (C, oC) :: (D, LCg.lst ys) :: g (listOf us.toArray ne)) → LCg.Off3 I C D (g (listOf us.toArray ne)) → ((@Ne Nat I C) ∧ (@Ne Nat I D) ∧ (@Ne Nat C D)) →
      wpAny (model prog w) A (eval elt (compEnvC scope cl C env)) (LCg.CompEnd h₀ L m { (s : Shared) with heap := h, toks := tk } I oI C oC D (LCg.lst ys) (fun _ => True) (fun y news' => KeysJ g (i + 1) (ys ++ [y]) news')) E' { s with heap := h, toks := tk })
    (fin : ∀ hp ys us es ne ks, IntsAre us es → (∀ d ∈ es, 0 ≤ d) → es.length ≤ 63 → IntsAre ys ks → ks.length ≤ 5 → Fin { s₁ with heap := hp } ys (g (listOf us.toArray ne))) :
    LCg.CompSrc prog w A h₀ L m env elt x scope cl Fin (.ref r) s₁ := by
  obtain ⟨pre, post, rfl, hg, _, _⟩ := U.split
  refine LCg.CompSrc.range hh F N hr (small_one (by omega) (by omega) (by omega) (by omega)) (rangeSize_nat _ _) (by rw [sizeLine_eq]; omega) ?_
  intro hp
  refine restJ (KeysJ g) ⟨us, es, n0, [], (hg _).symm, h1, h2, h3, .nil, rfl⟩ ?_ ?_
  · rintro i v I oI C oC D m₂ ys nw h tk E' _ _ ⟨us, es, ne, ks, rfl, a1, a2, a3, a4, a5⟩ hC _ F₁ N₁ off ne'
    exact turn { s₁ with heap := hp } i I oI C oC D m₂ ys us es ne ks h tk E' a1 a2 a3 a4 a5 hC F₁ N₁ off ne'
  · rintro ys nw ⟨us, es, ne, ks, rfl, a1, a2, a3, a4, a5⟩
    exact fin hp ys us es ne ks a1 a2 a3 a4 (by omega)

/-- the turn's first statement: a name, the keys -/
def Mid1 (h₀ : Heap) (L : Addr) (m : PySem.Str → Option Value) (g : Obj → List (Addr × Obj)) (s : Shared) (f : Flow) (s' : Shared) : Prop :=
  f = .next ∧ ∃ h' tk' nm tn kA n kv ks us es ne, s' = { s with heap := h', toks := tk' } ∧ Fr h₀ L h' (fun y => if y = PySem.Str.ofString "name" then some (.str nm tn) else if y = PySem.Str.ofString "keys" then some (.ref kA) else m y) ∧
    News h₀ L h' ((kA, { cls := .type "tuple", data := .seq (kv : List Value).toArray n }) :: g (listOf (us : List Value).toArray ne)) ∧ IntsAre us es ∧ (∀ d ∈ es, 0 ≤ d) ∧ es.length ≤ 63 ∧ IntsAre kv ks ∧ ks.length ≤ 5
theorem cut1 {M : Model} {A : Around} {E : Value → Shared → Prop} {s : Shared} {h₀ : Heap} {L : Addr} {m : PySem.Str → Option Value} {news : List (Addr × Obj)} {g : Obj → List (Addr × Obj)} {t : Sem Flow} {Q : Flow → Shared → Prop} {dk : Addr} {us : List Value} {n0 : Nat} {oc : Obj} (hc0 : oc.data = .cell (some (.ref dk)))
    (hF0 : Fr h₀ L s.heap m) (hN0 : News h₀ L s.heap news) (hU0 : UpdF dk (listOf us.toArray n0) news g) (h1 : wpAny M A t (Mid1 h₀ L m g s) E s)
    (h2 : ∀ h' tk' nm tn kA n kv ks us es ne, Fr h₀ L h' (fun y => if y = PySem.Str.ofString "name" then some (.str nm tn) else if y = PySem.Str.ofString "keys" then some (.ref kA) else m y) →
      News h₀ L h' ((kA, { cls := .type "tuple", data := .seq (kv : List Value).toArray n }) :: g (listOf (us : List Value).toArray ne)) → IntsAre us es → (∀ d ∈ es, 0 ≤ d) → es.length ≤ 63 → IntsAre kv ks → ks.length ≤ 5 → Q .next { s with heap := h', toks := tk' }) : wpAny M A t Q E s :=
  wpAny_mono h1 (fun f s' hk => by obtain ⟨rfl, h', tk', nm, tn, kA, n, kv, ks, us, es, ne, rfl, a, b, d, e, f, g, h⟩ := hk; exact h2 h' tk' nm tn kA n kv ks us es ne a b d e f g h) fun _ _ e => e

theorem Mid1.mk {h₀ h' : Heap} {L kA : Addr} {m : PySem.Str → Option Value} {g : Obj → List (Addr × Obj)} {s : Shared} {tk' n : Nat} {nm : PySem.Str} {tn : Tok} {kv us : List Value} {ks es : List Int} {ne : Nat} {nw : List (Addr × Obj)}
    (F : Fr h₀ L h' (fun y => if y = PySem.Str.ofString "name" then some (.str nm tn) else if y = PySem.Str.ofString "keys" then some (.ref kA) else m y)) (N : News h₀ L h' nw)
    (hs : ∀ p ∈ (kA, { cls := .type "tuple", data := .seq (kv : List Value).toArray n }) :: g (listOf (us : List Value).toArray ne), p ∈ nw)
    (b1 : IntsAre us es) (b2 : ∀ d ∈ es, 0 ≤ d) (b3 : es.length ≤ 63) (b4 : IntsAre kv ks) (b5 : ks.length ≤ 5) : Mid1 h₀ L m g s .next { s with heap := h', toks := tk' } :=
  ⟨rfl, h', tk', nm, tn, kA, n, kv, ks, us, es, ne, rfl, F, cb_drop N hs, b1, b2, b3, b4, b5⟩
theorem mem_drop4 {a b c d : Addr × Obj} {l : List (Addr × Obj)} : ∀ p ∈ b :: l, p ∈ a :: b :: c :: d :: l := fun p hp => by
  rcases List.mem_cons.mp hp with rfl | hp
  · exact .tail _ (.head _)
  · exact .tail _ (.tail _ (.tail _ (.tail _ hp)))

theorem RawIn.handed {P : Params} {b : Nat} {news : List (Addr × Obj)} {v : Value} (h : RawIn P b news v) : handedIn v = true := by
  cases h <;> rfl
theorem HistR.over {P : Params} {R : List (Addr × Obj)} {ws : List Value} {G : List Ent} (h : HistR P R ws G) : overOf G = none ∨ ∃ v e, overOf G = some e ∧ EntAt P R v e := by
  induction h with
  | nil => exact .inl rfl
  | @cons v e ws G h1 _ ih =>
    by_cases hw : e.way = .over
    · exact .inr ⟨v, e, by show (if e.way.code = 0 then some e else overOf G) = _; rw [if_pos (code_over hw)], h1⟩
    · have eq : overOf (e :: G) = overOf G := by show (if e.way.code = 0 then some e else overOf G) = _; rw [if_neg (code_no_over hw)]
      rw [eq]; exact ih
theorem HistR.lastP {P : Params} {R : List (Addr × Obj)} {ws : List Value} {G : List Ent} (h : HistR P R ws G) : RawIn P 100000 R (lastPref G) := by
  unfold lastPref
  rcases h.over with e | ⟨v, e', e, hE⟩
  · rw [e]; exact .none
  · rw [e]; exact hE.raw

theorem hist_len {P : Params} {prog : Program} {w : World} {A : Around} {E : Value → Shared → Prop} {s : Shared} {h₀ : Heap} {L hs : Addr} {news R : List (Addr × Obj)} {ws : List Value} {G : List Ent} {nh i : Nat} {Q : Value → Shared → Prop}
    (N : News h₀ L s.heap news) (hm : (hs, listOf ws.reverse.toArray nh) ∈ news) (hH : HistR P R ws G) (hG : G.length = i) (hi : i < 14) (h : Q (.int (G.length : Int) (s.toks + 1)) { s with toks := s.toks + 1 + 1 }) : wpAny (model prog w) A (call (.builtin "len") [.ref hs]) Q E s := by
  have e : (ws.reverse.toArray.size : Int) = (G.length : Int) := by simp [hH.length]
  exact kun_lenL (News.isList N hm) e (by omega) h
theorem HistR.top {P : Params} {R : List (Addr × Obj)} {ws : List Value} {G : List Ent} (h : HistR P R ws G) : (G.length = 0 ∧ prefOf G = .none) ∨ ∃ a n e, 0 < G.length ∧ ws.reverse[((G.length : Int) - 1).toNat]? = some (.ref a) ∧ (a, entObj e n) ∈ R ∧ prefOf G = e.left := by
  have hh := h
  cases h with
  | nil => exact .inl ⟨rfl, rfl⟩
  | @cons v e ws G h1 h2 =>
    obtain ⟨a, n, rfl, ha⟩ := h1.at_
    exact .inr ⟨a, n, e, Nat.succ_pos _, rev_at (i := 0) hh.length (Nat.succ_pos _) rfl (by simp), ha, rfl⟩

/-- what the inner loop has found in the newest i commands -/
def AheadIs (R : List (Addr × Obj)) (G : List Ent) (v : Value) : Prop :=
  (overOf G = none ∧ v = .none) ∨ ∃ a n e, overOf G = some e ∧ v = .ref a ∧ (a, entObj e n) ∈ R
theorem overOf_snoc : ∀ {G : List Ent} {e : Ent}, overOf (G ++ [e]) = match overOf G with | some x => some x | none => if e.way.code = 0 then some e else none
  | [], e => rfl
  | d :: r, e => by
    show (if d.way.code = 0 then some d else overOf (r ++ [e])) = match (if d.way.code = 0 then some d else overOf r) with | some x => some x | none => if e.way.code = 0 then some e else none
    by_cases h : d.way = .over
    · rw [if_pos (code_over h), if_pos (code_over h)]
    · rw [if_neg (code_no_over h), if_neg (code_no_over h), overOf_snoc]
theorem take_snoc {G : List Ent} {i : Nat} {e : Ent} (h : G[i]? = some e) : G.take (i + 1) = G.take i ++ [e] := by
  rw [List.take_add_one, h]; rfl
theorem AheadIs.keep {R : List (Addr × Obj)} {G : List Ent} {i : Nat} {e : Ent} {v : Value} (h : AheadIs R (G.take i) v) (he : G[i]? = some e) (hw : e.way ≠ .over ∨ v ≠ .none) : AheadIs R (G.take (i + 1)) v := by
  rw [take_snoc he]
  rcases h with ⟨h1, h2⟩ | ⟨a, n, e', h1, h2, h3⟩
  · refine .inl ⟨?_, h2⟩
    rw [overOf_snoc, h1]
    rcases hw with hw | hw
    · exact if_neg (code_no_over hw)
    · exact absurd h2 hw
  · exact .inr ⟨a, n, e', by rw [overOf_snoc, h1], h2, h3⟩
theorem AheadIs.set {R : List (Addr × Obj)} {G : List Ent} {i : Nat} {e : Ent} {a : Addr} {n : Nat} (h : AheadIs R (G.take i) .none) (he : G[i]? = some e) (hw : e.way = .over) (hm : (a, entObj e n) ∈ R) : AheadIs R (G.take (i + 1)) (.ref a) := by
  rw [take_snoc he]
  rcases h with ⟨h1, _⟩ | ⟨a, n, e', _, h2, _⟩
  · exact .inr ⟨a, n, e, by rw [overOf_snoc, h1]; exact if_pos (code_over hw), rfl, hm⟩
  · cases h2
theorem map_two {m m0 : PySem.Str → Option Value} {x y : PySem.Str} {v : Value} (h : ∀ z, z ≠ x → z ≠ y → m z = m0 z) (hy : m y = some v) : m = fun z => if z = y then some v else if z = x then m x else m0 z := by
  funext z
  by_cases e : z = y
  · rw [if_pos e, e, hy]
  · rw [if_neg e]
    by_cases e2 : z = x
    · rw [if_pos e2, e2]
    · rw [if_neg e2, h z e2 e]

theorem ne_row {prog : Program} {w : World} {A : Around} {E : Value → Shared → Prop} {s : Shared} {h₀ : Heap} {L a b k : Addr} {x1 x2 x3 : PySem.Str} {t1 t2 t3 u1 u2 u3 : Tok} {n n' : Nat} {news : List (Addr × Obj)} {Q : Value → Shared → Prop}
    (N : News h₀ L s.heap news) (ha : (a, { cls := .type "tuple", data := .seq #[.str x1 t1, .str x2 t2, .ref k, .str x3 t3] n }) ∈ news) (hb : (b, { cls := .type "tuple", data := .seq #[.str x1 u1, .str x2 u2, .ref k, .str x3 u3] n' }) ∈ news)
    (hu : A.units < cLine) (h : Q (.bool false) s) : wpAny (model prog w) A (compareOp .NotEq (.ref a) (.ref b)) Q E s := by
  have hl : s.heap.IsTuple a #[.str x1 t1, .str x2 t2, .ref k, .str x3 t3] := ⟨_, (N _ ha).1, rfl, _, rfl⟩
  have hl' : s.heap.IsTuple b #[.str x1 u1, .str x2 u2, .ref k, .str x3 u3] := ⟨_, (N _ hb).1, rfl, _, rfl⟩
  have st : ∀ (x : PySem.Str) (t u : Tok), PySem.SeqAt.EqAt A.in1 s (.str x t) (.str x u) true := fun x t u => by
    have := (eqGives_str x x t u).at A.in1 s
    rwa [beq_self_eq_true] at this
  exact cmp_ofNotEq (PySem.SeqAt.RcNeAt.tuples (e := fun _ => true) hl hl' hu (fun j h1 h2 => match j, h1, h2 with
    | 0, _, _ => st x1 t1 u1
    | 1, _, _ => st x2 t2 u2
    | 2, _, _ => PySem.SeqAt.EqAt.same _
    | 3, _, _ => st x3 t3 u3) prog w E Q h)

theorem typed_at {w : World} {loose : List Str} {mean : ExcName → Option Value} {mg mb : Str → Option Value} {dp un : Nat} {gd : Option (List Code)} {cn : Str} {cs : Scope} {a : Addr} {ccd : Value} {cl : List (Str × Addr)} {outer : List Env} {A₀ : Around} {base h₀ : Heap} {L : Addr} {m : Str → Option Value} {s : Shared} {Q E : Value → Shared → Prop} {news : List (Addr × Obj)} {g : Obj → List (Addr × Obj)}
    {dk : Addr} {vs : List Value} {ds : List Int} {n0 : Nat}
    (B : Below A₀ base outer h₀) (F : Fr h₀ L s.heap m) (X : (Mine.hd.heap_39 w.params).In h₀) (N : News h₀ L s.heap news) (T : Top Mine.hd.view_39 loose mean mg mb h₀) (hk : cs.kind = .function) (hd : dp ≤ 310) (hu : un ≤ 50)
    (U : UpdF dk (listOf vs.toArray n0) news g) (hi : IntsAre vs ds) (h0 : ∀ d ∈ ds, 0 ≤ d) (hlen : ds.length ≤ 63)
    (hret : ∀ x t' vs' ds' n' h' tk', TextOk x → IntsAre vs' ds' → (∀ d ∈ ds', 0 ≤ d) → ds'.length ≤ 63 → Fr h₀ L h' m → News h₀ L h' (g (listOf vs'.toArray n')) → Q (.str x t') { s with heap := h', toks := tk' }) :
    wpAny (model PySem.Challenge.rw_oj0019_01.row.prog w) (ktrTop dp un gd cn cs L a ccd cl outer) (call (.ref 145) [.ref dk]) Q E s := by
  obtain ⟨pre, post, rfl, hg, h1, h2⟩ := U.split
  refine typed_core (R := pre ++ post) (n0 := n0) B F X (cb_drop N fun p hp => ?_) T hk hd hu (fun p hp => (List.mem_append.mp hp).elim (h1 p) (h2 p)) hi h0 hlen ?_
  · rcases List.mem_cons.mp hp with rfl | hp
    · exact List.mem_append_right _ (.head _)
    · rcases List.mem_append.mp hp with hp | hp
      · exact List.mem_append_left _ hp
      · exact List.mem_append_right _ (.tail _ hp)
  · intro x t' vs' ds' n' h' tk' hx hi' h0' hl' F' N'
    refine hret x t' vs' ds' n' h' tk' hx hi' h0' hl' F' (cb_drop N' fun p hp => ?_)
    rw [hg] at hp
    rcases List.mem_append.mp hp with hp | hp
    · exact .tail _ (List.mem_append_left _ hp)
    · rcases List.mem_cons.mp hp with rfl | hp
      · exact .head _
      · exact .tail _ (List.mem_append_right _ hp)
theorem raw_at {w : World} {loose : List Str} {mean : ExcName → Option Value} {mg mb : Str → Option Value} {dp un : Nat} {gd : Option (List Code)} {cn : Str} {cs : Scope} {a : Addr} {ccd : Value} {cl : List (Str × Addr)} {outer : List Env} {A₀ : Around} {base h₀ : Heap} {L : Addr} {m : Str → Option Value} {s : Shared} {Q E : Value → Shared → Prop} {news R : List (Addr × Obj)} {g : List (Addr × Obj) → List (Addr × Obj)} {x : PySem.Str} {t : Tok}
    (B : Below A₀ base outer h₀) (F : Fr h₀ L s.heap m) (X : (Mine.hd.heap_39 w.params).In h₀) (N : News h₀ L s.heap news) (T : Top Mine.hd.view_39 loose mean mg mb h₀) (hk : cs.kind = .function) (hd : dp ≤ 310) (hu : un ≤ 50)
    (hT : Tail R news g) (hx : TextOk x)
    (hret : ∀ r R' h' tk', (∀ p ∈ R, p ∈ R') → (∀ d o, (d, o) ∈ news → (∀ p ∈ R, p.1 ≠ d) → ∀ p ∈ R', p.1 ≠ d) → Fr h₀ L h' m → News h₀ L h' (g R') → RawIn w.params 100000 (g R') r → Q r { s with heap := h', toks := tk' }) :
    wpAny (model PySem.Challenge.rw_oj0019_01.row.prog w) (ktrTop dp un gd cn cs L a ccd cl outer) (call (.ref 152) [.str x t]) Q E s := by
  refine raw_core B F X N T hk hd hu hx ?_
  intro r tl h' tk' F' N' hl hr
  refine hret r (tl ++ R) h' tk' (fun p hp => List.mem_append_right _ hp) (fun d o hd hR p hp => ?_) F' (hT.news N') (hr.mono hT.mem')
  rcases List.mem_append.mp hp with hp | hp
  · exact Nat.ne_of_gt (hl p hp _ hd)
  · exact hR p hp

/-- a way is drawn -/
def Mid2 (h₀ : Heap) (L : Addr) (m : PySem.Str → Option Value) (g : Obj → List (Addr × Obj)) (s : Shared) (f : Flow) (s' : Shared) : Prop :=
  f = .next ∧ ∃ h' tk' wy tw us es ne, s' = { s with heap := h', toks := tk' } ∧ Fr h₀ L h' (fun y => if y = PySem.Str.ofString "way" then some (.str (Way.str wy) tw) else m y) ∧
    News h₀ L h' (g (listOf (us : List Value).toArray ne)) ∧ IntsAre us es ∧ (∀ d ∈ es, 0 ≤ d) ∧ es.length ≤ 63
theorem cut2 {M : Model} {A : Around} {E : Value → Shared → Prop} {s : Shared} {h₀ : Heap} {L : Addr} {m : PySem.Str → Option Value} {news : List (Addr × Obj)} {g : Obj → List (Addr × Obj)} {t : Sem Flow} {Q : Flow → Shared → Prop} {dk : Addr} {us : List Value} {n0 : Nat} {oc : Obj} (hc0 : oc.data = .cell (some (.ref dk)))
    (hF0 : Fr h₀ L s.heap m) (hN0 : News h₀ L s.heap news) (hU0 : UpdF dk (listOf us.toArray n0) news g) (h1 : wpAny M A t (Mid2 h₀ L m g s) E s)
    (h2 : ∀ h' tk' wy tw us es ne, Fr h₀ L h' (fun y => if y = PySem.Str.ofString "way" then some (.str (Way.str wy) tw) else m y) →
      News h₀ L h' (g (listOf (us : List Value).toArray ne)) → IntsAre us es → (∀ d ∈ es, 0 ≤ d) → es.length ≤ 63 → Q .next { s with heap := h', toks := tk' }) : wpAny M A t Q E s :=
  wpAny_mono h1 (fun f s' hk => by obtain ⟨rfl, h', tk', wy, tw, us, es, ne, rfl, a, b, d, e, f⟩ := hk; exact h2 h' tk' wy tw us es ne a b d e f) fun _ _ e => e
theorem Mid2.mk {h₀ h' : Heap} {L : Addr} {m : PySem.Str → Option Value} {g : Obj → List (Addr × Obj)} {s : Shared} {tk' : Nat} {tw : Tok} {us : List Value} {es : List Int} {ne : Nat} {nw : List (Addr × Obj)} (wy : Way)
    (F : Fr h₀ L h' (fun y => if y = PySem.Str.ofString "way" then some (.str (Way.str wy) tw) else m y)) (N : News h₀ L h' nw)
    (hs : ∀ p ∈ g (listOf (us : List Value).toArray ne), p ∈ nw)
    (b1 : IntsAre us es) (b2 : ∀ d ∈ es, 0 ≤ d) (b3 : es.length ≤ 63) : Mid2 h₀ L m g s .next { s with heap := h', toks := tk' } :=
  ⟨rfl, h', tk', wy, tw, us, es, ne, rfl, F, cb_drop N hs, b1, b2, b3⟩

theorem hist_append {P : Params} {prog : Program} {w : World} {A : Around} {E : Value → Shared → Prop} {s : Shared} {h₀ : Heap} {L hs : Addr} {m : PySem.Str → Option Value} {news news' R : List (Addr × Obj)} {ws : List Value} {G : List Ent} {nh i : Nat} {x : Value} {Q : Value → Shared → Prop}
    (F : Fr h₀ L s.heap m) (N : News h₀ L s.heap news) (U : Upd hs (listOf ws.reverse.toArray nh) (listOf (x :: ws).reverse.toArray (nh + 1)) news news') (hH : HistR P R ws G) (hG : G.length = i) (hi : i < 14)
    (h : ∀ h', Fr h₀ L h' m → News h₀ L h' news' → Q .none { s with heap := h' }) : wpAny (model prog w) A (call (.builtin "list.append") [.ref hs, x]) Q E s := by
  have e : (x :: ws).reverse.toArray = ws.reverse.toArray.push x := by simp
  rw [e] at U
  refine append_K F N U h ?_
  have := hH.length
  rw [sizeLine_eq]; simp; omega

theorem lastName_ne {e : Ent} {G : List Ent} (h : e.way ≠ .left) : lastName (e :: G) = e.name := if_neg (code_no_left h)
theorem lastName_left {e : Ent} {G : List Ent} (h : e.way = .left) : lastName (e :: G) = lastName G := if_pos (code_left h)
theorem lastPref_over {e : Ent} {G : List Ent} (h : e.way = .over) : lastPref (e :: G) = e.raw := by
  have q : overOf (e :: G) = some e := if_pos (code_over h)
  unfold lastPref; rw [q]
theorem lastPref_ne {e : Ent} {G : List Ent} (h : e.way ≠ .over) : lastPref (e :: G) = lastPref G := by
  have q : overOf (e :: G) = overOf G := if_neg (code_no_over h)
  unfold lastPref; rw [q]

theorem over_ne : Way.over ≠ Way.left := fun h => nomatch h
theorem abort_ne : Way.abort ≠ Way.left := fun h => nomatch h
theorem abort_no : Way.abort ≠ Way.over := fun h => nomatch h
theorem left_no : Way.left ≠ Way.over := fun h => nomatch h

/-- what a turn changes: the lists, the state's dict -/
abbrev Stale (o : Obj) : Prop := o.cls = .type "list" ∨ ∃ en, o = dictOf en 13
theorem RawIn.swap {P : Params} {b : Nat} {nw nw' : List (Addr × Obj)} {v : Value} (h : RawIn P b nw v) (hs : ∀ p ∈ nw, p ∈ nw' ∨ Stale p.2) : RawIn P b nw' v := by
  cases h with
  | none => exact .none
  | int i t h => exact .int i t h
  | minus t => exact .minus t
  | many x dx i t u h h1 h2 =>
    refine .many x dx i t u h ?_ ?_
    · rcases hs _ h1 with h | h | ⟨en, h⟩
      · exact h
      · exact nomatch h
      · exact nomatch congrArg Obj.cls h
    · rcases hs _ h2 with h | h | ⟨en, h⟩
      · exact h
      · exact absurd h (show Value.type "dict" ≠ Value.type "list" by decide)
      · injection h with _ _ hd _; injection hd with _ hn; exact absurd hn (by decide)
theorem swap_cons {p : Addr × Obj} {l nw' : List (Addr × Obj)} (h1 : p ∈ nw' ∨ Stale p.2) (h2 : ∀ q ∈ l, q ∈ nw' ∨ Stale q.2) : ∀ q ∈ p :: l, q ∈ nw' ∨ Stale q.2 := by
  intro q hq
  rcases List.mem_cons.mp hq with rfl | hq
  · exact h1
  · exact h2 q hq

/-- marks that tell the walk where to stop -/
structure StopIf : Prop where
structure StopExp : Prop where
structure StopAsg : Prop where
end Mine
end

section
open PySem PySem.W PyProof.Rows
set_option maxRecDepth 100000
namespace Mine
theorem allLt_tail {d : Addr} {l R : List (Addr × Obj)} (h : ∀ p ∈ l, p.1 < d) (hs : ∀ p ∈ R, p ∈ l) : ∀ p ∈ R, p.1 < d := fun p hp => h p (hs p hp)
theorem lt_all {d : Addr} {R : List (Addr × Obj)} (h : ∀ p ∈ R, p.1 < d) : ∀ p ∈ R, p.1 ≠ d := fun p hp => Nat.ne_of_lt (h p hp)
/-- a stretch of the walk: what it leaves to show, and that this is enough -/
structure Hid (P : Prop) : Prop where
  out : P
structure Stretch (H : Prop) where
  P : Prop
  go : Hid P → H
abbrev stretch {H P : Prop} (f : Hid P → H) : Stretch H := ⟨P, f⟩
local macro_rules | `(tactic| units_room) => `(tactic| (have hcL9 := cLine_is; (try simp only [units_in1, units_deeper, units_under_make, Around.mark_units]); (try dsimp only [ktrTop]); omega))
local macro_rules | `(tactic| k_units) => `(tactic| units_room)
local macro_rules | `(tactic| room) => `(tactic| ((try simp only [depth_under_make, depth_under_kw, depth_in1, depth_deeper]); (try dsimp only [ktrTop]); (simp only [recursionLimit]); omega))
local macro_rules | `(tactic| k_room) => `(tactic| room)
local macro_rules | `(tactic| ktr_room) => `(tactic| room)
local macro_rules | `(tactic| k_all) => `(tactic| with_reducible assumption)
local macro_rules | `(tactic| k_handed) => `(tactic| with_reducible assumption)
local macro_rules | `(tactic| k_mem) => `(tactic| ((repeat (first | exact List.mem_cons_self | refine List.mem_cons_of_mem _ ?_)); all_goals (first | with_reducible assumption | ktr_member)))
local macro_rules | `(tactic| walk_at "PostJ") => `(tactic| first | (refine PostJ.ret ?_; (try dsimp only)) | refine PostJ.next ?_)
local macro_rules | `(tactic| walk_at "exec For Name Name cons nil") => `(tactic| (k_here; (rename Fr _ _ _ _ => lF'); (with_unfolding_all refine' For_invVF lF' ?k1 ?k2 ?_; (case k1 => exact rfl); (case k2 => exact rfl); k_whole)))
local macro_rules | `(tactic| walk_at "exec For Name Call cons nil") => `(tactic| (k_here; (rename Fr _ _ _ _ => lF'); (with_unfolding_all refine' For_invVF lF' ?k1 ?k2 ?_; (case k1 => exact rfl); (case k2 => exact rfl); k_whole)))
local macro_rules | `(tactic| walk_at "pyIter str") => `(tactic| (refine Stop.out ?_))
local macro_rules | `(tactic| walk_at "pyIter ref") => `(tactic| (refine Stop.out ?_))
local macro_rules | `(tactic| k_all) => `(tactic| exact lt_all (by assumption))
local macro_rules | `(tactic| k_lt $h) => `(tactic| ((try (have kTl := allLt_tail (R := $(Lean.mkIdent `R)) $h (by intro p hp; repeat (first | exact hp | refine List.mem_cons_of_mem _ ?_)))); replace $h := allLt_of $h; simp only [AllLt, and_true] at $h:ident))
local macro_rules | `(tactic| walk_at "CompSrc") => `(tactic| ((rename StopExp => hst); refine Stop.out ?_))
local macro_rules | `(tactic| walk_at "eval IfExp") => `(tactic| ((rename StopExp => hst); refine Stop.out ?_))
local macro_rules | `(tactic| walk_at "exec Assign") => `(tactic| ((rename StopAsg => hst); refine Stop.out ?_))
local macro_rules | `(tactic| walk_at "exec If") => `(tactic| ((rename StopIf => hst); refine Stop.out ?_))
local macro_rules | `(tactic| walk_at "call ref") => `(tactic| (k_here; (with_reducible show wpAny _ _ (call (Value.ref 140) _) _ _ _); k_dflt (refine' draw_at ?k1 ?k2 ?k3 ?k4 ?k5 ?k6 ?k7 ?k8 ?k9 ?k10 ?k11 ?k12 ?k13 ?k14 ?_; (case k1 => k_asm); (case k2 => k_asm); (case k3 => k_asm); (case k4 => k_asm); (case k5 => k_asm); (case k6 => exact rfl); (case k7 => first | decide | ((try simp only [depth_deeper, depth_in1]); (try dsimp only [ktrTop]); omega)); (case k8 => first | decide | ((try simp only [units_deeper, units_in1]); (try dsimp only [ktrTop]); omega)); (case k9 => k_updF); (case k10 => assumption); (case k11 => assumption); (case k12 => assumption); (case k13 => decide); (case k14 => decide)); intro r' t' vs' ds' n' h' tk' hr0' hrk' hi' h0' hlen' F' N'; (try dsimp only at N'); (try dsimp only); (try k_fold)))
local macro_rules | `(tactic| walk_at "call builtin:len") => `(tactic| (k_here; (with_reducible show wpAny _ _ (call (Value.builtin "len") [Value.ref _]) _ _ _); k_dflt (refine' hist_len ?k1 ?k2 ?k3 ?k4 ?k5 ?_; (case k1 => k_asm); (case k2 => k_mem); (case k3 => with_reducible assumption); (case k4 => with_reducible assumption); (case k5 => with_reducible assumption); k_whole)))
local macro_rules | `(tactic| walk_at "subscriptTail") => `(tactic| (k_here; (with_reducible show wpAny _ _ (subscriptTail _ _ (Value.ref _) (Value.int _ _)) _ _ _); k_dflt (refine' item_at ?k1 ?k2 ?k3 ?k4 ?k5 ?_ ?k6; (case k1 => k_asm); (case k2 => k_mem); (case k3 => with_reducible assumption); (case k4 => omega); (case k5 => omega); (case k6 => with_unfolding_all rfl); k_whole)))
local macro_rules | `(tactic| walk_at "compareOp NotEq ref ref") => `(tactic| (k_here; (with_reducible show wpAny _ _ (compareOp CmpOp.NotEq (Value.ref _) (Value.ref _)) _ _ _); k_dflt (refine' ne_row ?k1 ?k2 ?k3 ?k4 ?_; (case k1 => k_asm); (case k2 => k_mem); (case k3 => k_mem); (case k4 => k_units); k_whole)))
local macro_rules | `(tactic| walk_at "call ref") => `(tactic| (k_here; (with_reducible show wpAny _ _ (call (Value.ref 159) _) _ _ _); k_dflt (refine' find_core ?k1 ?k2 ?k3 ?k4 ?k5 ?k6 ?k7 ?k8 ?k9 ?k10 ?k11 ?_; (case k1 => k_asm); (case k2 => k_asm); (case k3 => k_asm); (case k4 => k_asm); (case k5 => k_asm); (case k6 => exact rfl); (case k7 => first | decide | ((try simp only [depth_deeper, depth_in1]); (try dsimp only [ktrTop]); omega)); (case k8 => first | decide | ((try simp only [units_deeper, units_in1]); (try dsimp only [ktrTop]); omega)); (case k9 => k_mem); (case k10 => exact HistR.mono (by assumption) (by intro p hp; repeat (first | exact hp | refine List.mem_cons_of_mem _ ?_))); (case k11 => omega)); intro r' t' h' tk' hr' F' N'; (try dsimp only at N'); (try dsimp only); (try k_fold)))
local macro_rules | `(tactic| walk_at "call ref") => `(tactic| (k_here; (with_reducible show wpAny _ _ (call (Value.ref 133) _) _ _ _); k_dflt (refine' same_core ?k1 ?k2 ?k3 ?k4 ?k5 ?k6 ?k7 ?k8 ?k9 ?_; (case k1 => k_asm); (case k2 => k_asm); (case k3 => k_asm); (case k4 => k_asm); (case k5 => k_asm); (case k6 => exact rfl); (case k7 => first | decide | ((try simp only [depth_deeper, depth_in1]); (try dsimp only [ktrTop]); omega)); (case k8 => first | decide | ((try simp only [units_deeper, units_in1]); (try dsimp only [ktrTop]); omega)); (case k9 => exact RawIn.mono (by assumption) (by intro p hp; repeat (first | exact hp | refine List.mem_cons_of_mem _ ?_)))); intro h' tk' F' N'; (try dsimp only at N'); (try dsimp only); (try k_fold)))
local macro_rules | `(tactic| walk_at "subscriptTail") => `(tactic| (k_here; (with_reducible show wpAny _ _ (subscriptTail _ _ (Value.ref _) (Value.int _ _)) _ _ _); k_dflt (first
  | (refine' item_str4 ?k1 ?k2 ?k3 ?k4 ?_ ?k6; (case k1 => k_asm); (case k2 => k_mem); (case k3 => assumption); (case k4 => assumption); (case k6 => with_unfolding_all rfl); k_whole; intro nm' tn')
  | (refine' item_str3 ?k1 ?k2 ?k3 ?k4 ?_ ?_ ?_ ?k6; (case k1 => k_asm); (case k2 => k_mem); (case k3 => assumption); (case k4 => assumption); (case k6 => with_unfolding_all rfl); k_whole))))

local macro_rules | `(tactic| walk_at "call ref") => `(tactic| (k_here; (with_reducible show wpAny _ _ (call (Value.ref 145) _) _ _ _); k_dflt (refine' typed_at ?k1 ?k2 ?k3 ?k4 ?k5 ?k6 ?k7 ?k8 ?k9 ?k10 ?k11 ?k12 ?_; (case k1 => k_asm); (case k2 => k_asm); (case k3 => k_asm); (case k4 => k_asm); (case k5 => k_asm); (case k6 => exact rfl); (case k7 => first | decide | ((try simp only [depth_deeper, depth_in1]); (try dsimp only [ktrTop]); omega)); (case k8 => first | decide | ((try simp only [units_deeper, units_in1]); (try dsimp only [ktrTop]); omega)); (case k9 => k_updF); (case k10 => assumption); (case k11 => assumption); (case k12 => assumption)); intro x' t' vs' ds' n' h' tk' hx' hi' h0' hlen' F' N'; (try dsimp only at N'); (try dsimp only); (try k_fold)))
local macro_rules | `(tactic| walk_at "call ref") => `(tactic| (k_here; (with_reducible show wpAny _ _ (call (Value.ref 152) _) _ _ _); k_dflt (refine' raw_at (R := $(Lean.mkIdent `R)) ?k1 ?k2 ?k3 ?k4 ?k5 ?k6 ?k7 ?k8 ?k9 ?k10 ?_; (case k1 => k_asm); (case k2 => k_asm); (case k3 => k_asm); (case k4 => k_asm); (case k5 => k_asm); (case k6 => exact rfl); (case k7 => first | decide | ((try simp only [depth_deeper, depth_in1]); (try dsimp only [ktrTop]); omega)); (case k8 => first | decide | ((try simp only [units_deeper, units_in1]); (try dsimp only [ktrTop]); omega)); (case k9 => (first | exact Tail.cons (Tail.cons (Tail.cons (Tail.cons Tail.here))) | exact Tail.cons (Tail.cons (Tail.cons (Tail.cons (Tail.cons Tail.here)))) | exact Tail.cons (Tail.cons (Tail.cons (Tail.cons (Tail.cons (Tail.cons Tail.here))))) | exact Tail.cons (Tail.cons (Tail.cons (Tail.cons (Tail.cons (Tail.cons (Tail.cons Tail.here)))))) | exact Tail.cons (Tail.cons (Tail.cons (Tail.cons (Tail.cons (Tail.cons (Tail.cons (Tail.cons Tail.here))))))) | exact Tail.cons (Tail.cons (Tail.cons (Tail.cons (Tail.cons (Tail.cons (Tail.cons (Tail.cons (Tail.cons Tail.here)))))))) | exact Tail.cons (Tail.cons (Tail.cons (Tail.cons (Tail.cons (Tail.cons (Tail.cons (Tail.cons (Tail.cons (Tail.cons Tail.here))))))))) | exact Tail.cons (Tail.cons (Tail.cons (Tail.cons (Tail.cons (Tail.cons (Tail.cons (Tail.cons (Tail.cons (Tail.cons (Tail.cons Tail.here)))))))))) | exact Tail.cons (Tail.cons (Tail.cons (Tail.cons (Tail.cons (Tail.cons (Tail.cons (Tail.cons (Tail.cons (Tail.cons (Tail.cons (Tail.cons Tail.here))))))))))))); (case k10 => assumption)); intro r' $(Lean.mkIdent `R):ident h' tk' $(Lean.mkIdent `hsubn):ident $(Lean.mkIdent `hoffn):ident F' N' $(Lean.mkIdent `hrn):ident; (try dsimp only at N' $(Lean.mkIdent `hrn):ident); (try dsimp only); (try k_fold)))
local macro_rules | `(tactic| walk_at "call builtin:list.append") => `(tactic| (k_here; (with_reducible show wpAny _ _ (call (Value.builtin _) [Value.ref _, _]) _ _ _); k_dflt (refine' hist_append ?k1 ?k2 ?k3 ?k4 ?k5 ?k6 ?_; (case k1 => k_asm); (case k2 => k_asm); (case k3 => k_upd); (case k4 => with_reducible assumption); (case k5 => with_reducible assumption); (case k6 => with_reducible assumption); k_whole); intro h' F' N'; (try k_sweep)))
set_option maxHeartbeats 0 in
def stretchA : Stretch PySem.Challenge.rw_oj0019_01.Holds := stretch fun rest => by
  refine Mine.hd ?_
  w_strict (
    k_go0
    (all_goals try k_fold)
    k_steps
    refine Stop.mk ?_
    rename IsRange _ _ _ _ _ _ _ _ => hrg
    rename Fr _ _ _ _ => lF
    rename News _ _ _ _ => lN
    rename IntsAre _ (List.map _ _) => hI0
    refine outer rfl hrg (b14 _).1 (b14 _).2 lF lN hI0 abs_nonneg abs_len (by with_unfolding_all rfl) (by with_unfolding_all rfl) ?g5 ?g6 ?g7 ?g8
    case g5 => refine ⟨?_, ?_, ?_, ?_, ?_⟩ <;> omega
    case g6 => refine ⟨⟨?_, ?_, ?_⟩, ⟨?_, ?_, ?_⟩, ⟨?_, ?_, ?_⟩, ⟨?_, ?_, ?_⟩⟩ <;> omega
    case g8 =>
      intro m₁ news₁ h tk F₁ N₁
      (try k_fold)
      k_steps
    (repeat (with_reducible rename (_ ∧ _) => hx9; clear hx9))
    (repeat (with_reducible rename @Ne _ _ _ => hx9; clear hx9))
    (repeat (with_reducible rename IntsAre _ _ => hx9; clear hx9))
    (repeat (with_reducible rename News _ _ _ _ => hx9; clear hx9))
    (repeat (with_reducible rename Fr _ _ _ _ => hx9; clear hx9))
    (repeat (with_reducible rename @LT.lt Nat _ _ _ => hx9; clear hx9))
    (repeat (with_reducible rename IsRange _ _ _ _ _ _ _ _ => hx9; clear hx9)))
  refine Stop.out ?_
  (rename World => w9; revert w9)
  (try revert R); (try revert G); (try revert ws); (try revert es); (try revert us); (try revert S); (try revert ne); (try revert nh); (try revert oI); (try revert I); (try revert m₁); (try revert i); (try revert t); (try revert fs); (try revert h); (try revert tk); (try revert h'); (try revert tk'); (try revert nm); (try revert tn); (try revert kA); (try revert n9); (try revert kv); (try revert ks); (try revert h8); (try revert tk8); (try revert m₂); (try revert h₂); (try revert tk₂); (try revert v2); (try revert h9); (try revert tk9)
  repeat (first | exact rest.out | (rename _ => hx; revert hx))
set_option maxHeartbeats 0 in
def stretchB : Stretch PySem.Challenge.rw_oj0019_01.Holds := stretch fun rest => by
  refine stretchA.go ⟨?_⟩
  w_top off
  intro w0
  (set_option tactic.hygienic false in intros)
  refine Stop.mk ?_
  intro i t m₁ I oI fs h tk us es ne S ws G nh R hi hI h0 hl hH hG hR1 hR2 hR3 hR4 hfs hord F₁ N₁
  have hst : StopAsg := ⟨⟩
  try k_fold
  k_steps
  refine Stop.mk ?_
  (rename StopAsg => hx9); clear hx9
  have hst : StopExp := ⟨⟩
  k_dflt (refine' cut1 (us := us) ?q1x0 F₁ N₁ ?q1x3 ?q1x7 ?q1x8)
  (case q1x0 => assumption); (case q1x3 => k_updF)
  case q1x7 =>
    try k_fold
    k_steps
    refine Stop.mk ?_
    (rename StopExp => hx9); clear hx9
    rename IsRange _ _ _ _ _ _ _ _ => hrg
    rename Fr _ _ _ _ => lF
    rename News _ _ _ _ => lN
    k_dflt (refine' keys_src ?r1x0 rfl hrg ?r1x1 ?r1x2 lF lN ?r1x3 ?r1x4 ?r1x5 ?r1x6 ?r1x7 ?r1x8)
    (case r1x0 => assumption); (case r1x1 => assumption); (case r1x2 => omega); (case r1x4 => assumption); (case r1x3 => k_updF); (case r1x5 => assumption); (case r1x6 => assumption)
    case r1x7 =>
      intro s9 i9 I9 oI9 C9 oC9 D9 m9 ys9 us9 es9 ne9 ks9 h9 tk9 E9 a1 a2 a3 a4 a5 hC9 F9 N9 off9 ne9'
      (try dsimp only at N9)
      have off9' := off9
      simp only [LCg.Off3] at off9'
      try k_fold
      k_steps
      rename IntsAre _ _ => hI3
      rename ∀ d ∈ _, (0 : Int) ≤ d => hN3
      rename List.length _ ≤ 63 => hL3
      rename News _ _ _ _ => lN3
      exact LCg.CompEnd.intro (by assumption) lN3 _ (fun _ h => h) off9 trivial (KeysJ.snoc rfl hI3 hN3 hL3 a4 a5)
    case r1x8 =>
      intro hp9 ys9 us9 es9 ne9 ks9 a1 a2 a3 a4 a5
      k_steps
      rename News _ _ _ _ => lN4
      exact Mid1.mk (by assumption) lN4 mem_drop4 a1 a2 a3 a4 a5
  refine Stop.out ?_
  (rename World => w9; revert w9)
  (try revert R); (try revert G); (try revert ws); (try revert es); (try revert us); (try revert S); (try revert ne); (try revert nh); (try revert oI); (try revert I); (try revert m₁); (try revert i); (try revert t); (try revert fs); (try revert h); (try revert tk); (try revert h'); (try revert tk'); (try revert nm); (try revert tn); (try revert kA); (try revert n9); (try revert kv); (try revert ks); (try revert h8); (try revert tk8); (try revert m₂); (try revert h₂); (try revert tk₂); (try revert v2); (try revert h9); (try revert tk9)
  repeat (first | exact rest.out | (rename _ => hx; revert hx))
set_option maxHeartbeats 0 in
def stretchC : Stretch PySem.Challenge.rw_oj0019_01.Holds := stretch fun rest => by
  refine stretchB.go ⟨?_⟩
  w_top off
  intro w0
  (set_option tactic.hygienic false in intros)
  refine Stop.mk ?_
  intro h' tk' nm tn kA n9 kv ks us es ne F' N' hI h0 hl hkv hks
  dsimp only [staObj] at N'
  have hk1 := ne_cls N' (.head _) (.tail _ (.tail _ (.tail _ (.head _)))) (show Value.type "tuple" ≠ Value.type "list" by decide)
  have hk2 := ne_cls N' (.head _) (.tail _ (.tail _ (.tail _ (.tail _ (.tail _ (.head _)))))) (show Value.type "tuple" ≠ Value.type "dict" by decide)
  have hk3 := ne_cls N' (.head _) (.tail _ (.tail _ (.tail _ (.tail _ (.tail _ (.tail _ (.head _))))))) (show Value.type "tuple" ≠ Value.type "list" by decide)
  have hp1 := hH.pref.handed
  have hp2 := hH.lastP.handed
  try k_fold
  k_steps
  refine Stop.mk ?_
  refine Stop.out ?_
  (rename World => w9; revert w9)
  (try revert R); (try revert G); (try revert ws); (try revert es); (try revert us); (try revert S); (try revert ne); (try revert nh); (try revert oI); (try revert I); (try revert m₁); (try revert i); (try revert t); (try revert fs); (try revert h); (try revert tk); (try revert h'); (try revert tk'); (try revert nm); (try revert tn); (try revert kA); (try revert n9); (try revert kv); (try revert ks); (try revert h8); (try revert tk8); (try revert m₂); (try revert h₂); (try revert tk₂); (try revert v2); (try revert h9); (try revert tk9)
  repeat (first | exact rest.out | (rename _ => hx; revert hx))
set_option maxHeartbeats 0 in
def stretchD : Stretch PySem.Challenge.rw_oj0019_01.Holds := stretch fun rest => by
  refine stretchC.go ⟨?_⟩
  w_top off
  intro w0
  (set_option tactic.hygienic false in intros)
  refine Stop.mk ?_
  (rename StopExp => hx9); clear hx9
  rename Fr _ _ _ _ => lF
  rename News _ _ _ _ => lN
  k_dflt (refine' cutK (fun v9 => v9 = prefOf G) lF lN ?q3x1 ?q3x2)
  case q3x1 =>
    rcases hH.top with ⟨hG0, hpf⟩ | ⟨a9, n8, e9, hG0, hv9, ha9, hpf⟩
    · try k_fold
      k_steps
      exact Kept.mk (by assumption) (by assumption) (fun _ h => h) (by first | exact hpf.symm | rfl)
    · obtain ⟨nm9, tn9, ks9, way9, tw9, le9, ra9⟩ := e9
      dsimp only [entObj] at ha9 hpf
      try k_fold
      k_steps
      exact Kept.mk (by assumption) (by assumption) (fun _ h => h) (by first | exact hpf.symm | rfl)
  intro raw9 h8 tk8 hraw F8 N8
  subst hraw
  try k_fold
  k_steps
  refine Stop.mk ?_
  refine Stop.out ?_
  (rename World => w9; revert w9)
  (try revert R); (try revert G); (try revert ws); (try revert es); (try revert us); (try revert S); (try revert ne); (try revert nh); (try revert oI); (try revert I); (try revert m₁); (try revert i); (try revert t); (try revert fs); (try revert h); (try revert tk); (try revert h'); (try revert tk'); (try revert nm); (try revert tn); (try revert kA); (try revert n9); (try revert kv); (try revert ks); (try revert h8); (try revert tk8); (try revert m₂); (try revert h₂); (try revert tk₂); (try revert v2); (try revert h9); (try revert tk9)
  repeat (first | exact rest.out | (rename _ => hx; revert hx))
set_option maxHeartbeats 0 in
def stretchE : Stretch PySem.Challenge.rw_oj0019_01.Holds := stretch fun rest => by
  refine stretchD.go ⟨?_⟩
  w_top off
  intro w0
  (set_option tactic.hygienic false in intros)
  refine Stop.mk ?_
  rename IsRange _ _ _ _ _ _ _ _ => hrg
  rename Fr _ _ _ _ => lF
  rename News _ _ _ _ => lN
  k_dflt (refine' rangeJM (fun m0 j m nw => nw = _ ∧ (∀ z, z ≠ PySem.Str.ofString "at" → z ≠ PySem.Str.ofString "ahead" → m z = m0 z) ∧ ∃ v, m (PySem.Str.ofString "ahead") = some v ∧ AheadIs R (G.take j) v) rfl hrg (small_down (by omega) (by omega) (by omega) (by omega)) (rangeSize_downNat _ _) lF lN ⟨rfl, fun _ _ _ => rfl, Value.none, ?q4x3, .inl ⟨rfl, rfl⟩⟩ ?q4x1 ?q4x2)
  case q4x3 => with_unfolding_all rfl
  case q4x1 =>
    rintro j t₁ m₂ news₂ I₂ oI₂ h₂ tk₂ hj ⟨rfl, hmap, v2, hv2, hA⟩ hoff ⟨fs₂, hfs₂⟩ F₂ N₂
    rw [map_two hmap hv2] at F₂
    have hjG : j < G.length := by omega
    obtain ⟨v, e, hv, he, hE⟩ := hH.at hjG
    obtain ⟨a9, n9, rfl, ha9⟩ := hE.at_
    have hv' := rev_at (k := (G.length : Int) - 1 + (j : Int) * -1) hH.length hjG hv (by omega)
    have ha9' := And.intro ha9 trivial
    obtain ⟨nm9, tn9, ks9, way9, tw9, le9, ra9⟩ := e
    have hA' := hA
    rcases hA' with ⟨hA1, rfl⟩ | ⟨a3, n3, e3, hA1, rfl, hA3⟩
    all_goals (cases way9 <;> dsimp only [entObj, Way.str] at ha9 <;> (try k_fold) <;> k_steps)
    · exact ⟨_, _, _, _, rfl, by assumption, by assumption, hoff, rfl, fun z h1 h2 => by simp only [if_neg h1, if_neg h2], _, if_pos rfl, hA.set he rfl ha9'.1⟩
    · exact ⟨_, _, _, _, rfl, by assumption, by assumption, hoff, rfl, fun z h1 h2 => by simp only [if_neg h1, if_neg h2], Value.none, by with_unfolding_all rfl, hA.keep he (.inl (fun h => nomatch h))⟩
    · exact ⟨_, _, _, _, rfl, by assumption, by assumption, hoff, rfl, fun z h1 h2 => by simp only [if_neg h1, if_neg h2], Value.none, by with_unfolding_all rfl, hA.keep he (.inl (fun h => nomatch h))⟩
    all_goals exact ⟨_, _, _, _, rfl, by assumption, by assumption, hoff, rfl, fun z h1 h2 => by simp only [if_neg h1, if_neg h2], Value.ref a3, by with_unfolding_all rfl, hA.keep he (.inr (fun h => nomatch h))⟩
  rintro m₂ news₂ h₂ tk₂ ⟨rfl, hmap, v2, hv2, hA⟩ F₂ N₂
  rw [map_two hmap hv2] at F₂
  have hst : StopIf := ⟨⟩
  try k_fold
  k_steps
  have eT : ((G.length : Int) - 1 - -1).toNat = G.length := by omega
  rw [eT, List.take_length] at hA
  refine Stop.mk ?_
  refine Stop.out ?_
  (rename World => w9; revert w9)
  (try revert R); (try revert G); (try revert ws); (try revert es); (try revert us); (try revert S); (try revert ne); (try revert nh); (try revert oI); (try revert I); (try revert m₁); (try revert i); (try revert t); (try revert fs); (try revert h); (try revert tk); (try revert h'); (try revert tk'); (try revert nm); (try revert tn); (try revert kA); (try revert n9); (try revert kv); (try revert ks); (try revert h8); (try revert tk8); (try revert m₂); (try revert h₂); (try revert tk₂); (try revert v2); (try revert h9); (try revert tk9)
  repeat (first | exact rest.out | (rename _ => hx; revert hx))
set_option maxHeartbeats 0 in
def stretchF : Stretch PySem.Challenge.rw_oj0019_01.Holds := stretch fun rest => by
  refine stretchE.go ⟨?_⟩
  w_top off
  intro w0
  (set_option tactic.hygienic false in intros)
  refine Stop.mk ?_
  (rename StopIf => hx9); clear hx9
  rename Fr _ _ _ _ => lF
  rename News _ _ _ _ => lN
  have hRp := hH.pref
  k_dflt (refine' cutK (fun f9 => f9 = Flow.next) lF lN ?q5x1 ?q5x2)
  case q5x1 =>
    try k_fold
    k_steps
    exact Kept.mk (by assumption) (by assumption) (fun _ h => h) rfl
  intro f9 h9 tk9 hf9 F9 N9
  subst hf9
  have hst : StopIf := ⟨⟩
  try k_fold
  k_steps
  refine Stop.mk ?_
  refine Stop.out ?_
  (rename World => w9; revert w9)
  (try revert R); (try revert G); (try revert ws); (try revert es); (try revert us); (try revert S); (try revert ne); (try revert nh); (try revert oI); (try revert I); (try revert m₁); (try revert i); (try revert t); (try revert fs); (try revert h); (try revert tk); (try revert h'); (try revert tk'); (try revert nm); (try revert tn); (try revert kA); (try revert n9); (try revert kv); (try revert ks); (try revert h8); (try revert tk8); (try revert m₂); (try revert h₂); (try revert tk₂); (try revert v2); (try revert h9); (try revert tk9)
  repeat (first | exact rest.out | (rename _ => hx; revert hx))
set_option maxHeartbeats 0 in
def stretchG : Stretch PySem.Challenge.rw_oj0019_01.Holds := stretch fun rest => by
  refine stretchF.go ⟨?_⟩
  w_top off
  intro w0
  (set_option tactic.hygienic false in intros)
  refine Stop.mk ?_
  (rename StopIf => hx9); clear hx9
  rename Fr _ _ _ _ => lF
  rename News _ _ _ _ => lN
  rename FindSpec _ _ => hfs9
  k_dflt (refine' cutK (fun f9 => f9 = Flow.next) lF lN ?q6x1 ?q6x2)
  case q6x1 =>
    rcases hfs9 with ⟨hr1, hln⟩ | ⟨j9, e9, hj9, he9, hln, hr1⟩
    · subst hr1
      rw [hln] at lN
      try k_fold
      k_steps
      exact Kept.mk (by assumption) (by assumption) (by intro p hp; rw [hln] at hp; repeat (first | exact hp | refine List.mem_cons_of_mem _ ?_)) rfl
    · obtain ⟨v8, e8, hv8, he8, hE8⟩ := hH.at hj9
      obtain ⟨a9, n8, rfl, ha9⟩ := hE8.at_
      rw [he9] at he8; cases he8
      have hv9 := rev_at hH.length hj9 hv8 hr1
      rw [hln] at lN
      obtain ⟨nm9, tn9, ks9, way9, tw9, le9, ra9⟩ := e9
      dsimp only [entObj] at ha9 hln lN
      try k_fold
      k_steps
      exact Kept.mk (by assumption) (by assumption) (by intro p hp; rw [hln] at hp; repeat (first | exact hp | refine List.mem_cons_of_mem _ ?_)) rfl
  intro f9 h9 tk9 hf9 F9 N9
  subst hf9
  have hst : StopIf := ⟨⟩
  try k_fold
  k_steps
  refine Stop.mk ?_
  refine Stop.out ?_
  (rename World => w9; revert w9)
  (try revert R); (try revert G); (try revert ws); (try revert es); (try revert us); (try revert S); (try revert ne); (try revert nh); (try revert oI); (try revert I); (try revert m₁); (try revert i); (try revert t); (try revert fs); (try revert h); (try revert tk); (try revert h'); (try revert tk'); (try revert nm); (try revert tn); (try revert kA); (try revert n9); (try revert kv); (try revert ks); (try revert h8); (try revert tk8); (try revert m₂); (try revert h₂); (try revert tk₂); (try revert v2); (try revert h9); (try revert tk9)
  repeat (first | exact rest.out | (rename _ => hx; revert hx))
set_option maxHeartbeats 0 in
def stretchH : Stretch PySem.Challenge.rw_oj0019_01.Holds := stretch fun rest => by
  refine stretchG.go ⟨?_⟩
  w_top off
  intro w0
  (set_option tactic.hygienic false in intros)
  refine Stop.mk ?_
  (rename StopIf => hx9); clear hx9
  rename Fr _ _ _ _ => lF
  rename News _ _ _ _ => lN
  k_dflt (refine' cutK (fun f9 => f9 = Flow.next) lF lN ?q7x1 ?q7x2)
  case q7x1 =>
    rcases hA with ⟨hA1, rfl⟩ | ⟨a3, n3, e3, hA1, rfl, hA3⟩
    · have hL : lastPref G = .none := by unfold lastPref; rw [hA1]
      rw [hL] at lN
      try k_fold
      k_steps
      exact Kept.mk (by assumption) (by assumption) (by intro p hp; rw [hL] at hp; repeat (first | exact hp | refine List.mem_cons_of_mem _ ?_)) rfl
    · have hL : lastPref G = e3.raw := by unfold lastPref; rw [hA1]
      have hRl := hH.lastP
      rw [hL] at lN hRl
      have hRh := hRl.handed
      obtain ⟨nm9, tn9, ks9, way9, tw9, le9, ra9⟩ := e3
      dsimp only [entObj] at hA3 hL lN hRl hRh
      try k_fold
      k_steps
      exact Kept.mk (by assumption) (by assumption) (by intro p hp; rw [hL] at hp; repeat (first | exact hp | refine List.mem_cons_of_mem _ ?_)) rfl
  intro f9 h9 tk9 hf9 F9 N9
  subst hf9
  have hst : StopAsg := ⟨⟩
  try k_fold
  k_steps
  refine Stop.mk ?_
  refine Stop.out ?_
  (rename World => w9; revert w9)
  (try revert R); (try revert G); (try revert ws); (try revert es); (try revert us); (try revert S); (try revert ne); (try revert nh); (try revert oI); (try revert I); (try revert m₁); (try revert i); (try revert t); (try revert fs); (try revert h); (try revert tk); (try revert h'); (try revert tk'); (try revert nm); (try revert tn); (try revert kA); (try revert n9); (try revert kv); (try revert ks); (try revert h8); (try revert tk8); (try revert m₂); (try revert h₂); (try revert tk₂); (try revert v2); (try revert h9); (try revert tk9)
  repeat (first | exact rest.out | (rename _ => hx; revert hx))
set_option maxHeartbeats 0 in
def stretchI : Stretch PySem.Challenge.rw_oj0019_01.Holds := stretch fun rest => by
  refine stretchH.go ⟨?_⟩
  w_top off
  intro w0
  (set_option tactic.hygienic false in intros)
  refine Stop.mk ?_
  rename Fr _ _ _ _ => lF
  rename News _ _ _ _ => lN
  k_dflt (refine' cut2 (us := us) ?q8x0 lF lN ?q8x3 ?q8x1 ?q8x2)
  (case q8x0 => assumption); (case q8x3 => k_updF)
  case q8x1 =>
    (rename StopAsg => hx9); clear hx9
    try k_fold
    k_steps
    all_goals (rename News _ _ _ _ => lN3; rename IntsAre _ _ => hI3; rename ∀ d ∈ _, (0 : Int) ≤ d => hN3; rename List.length _ ≤ 63 => hL3)
    · exact Mid2.mk .over (by assumption) lN3 (fun _ h => .tail _ h) hI3 hN3 hL3
    · exact Mid2.mk .left (by assumption) lN3 (fun _ h => .tail _ h) hI3 hN3 hL3
    · exact Mid2.mk .abort (by assumption) lN3 (fun _ h => .tail _ h) hI3 hN3 hL3
  refine Stop.out ?_
  (rename World => w9; revert w9)
  (try revert R); (try revert G); (try revert ws); (try revert es); (try revert us); (try revert S); (try revert ne); (try revert nh); (try revert oI); (try revert I); (try revert m₁); (try revert i); (try revert t); (try revert fs); (try revert h); (try revert tk); (try revert h'); (try revert tk'); (try revert nm); (try revert tn); (try revert kA); (try revert n9); (try revert kv); (try revert ks); (try revert h8); (try revert tk8); (try revert m₂); (try revert h₂); (try revert tk₂); (try revert v2); (try revert h9); (try revert tk9)
  repeat (first | exact rest.out | (rename _ => hx; revert hx))
set_option maxHeartbeats 0 in
theorem law_all : PySem.Challenge.rw_oj0019_01.Holds := by
  refine stretchI.go ⟨?_⟩
  w_top off
  intro w0
  (set_option tactic.hygienic false in intros)
  refine Stop.mk ?_
  intro h9 tk9 wy tw us es ne F9 N9 hI h0 hl
  (try dsimp only at N9)
  (rename StopAsg => hx9); clear hx9
  have hst : StopIf := ⟨⟩
  cases wy
  all_goals dsimp only [Way.str] at F9
  all_goals (try k_fold)
  all_goals k_steps
  all_goals refine Stop.mk ?_
  rotate_left
  have hQ1 := hoffn _ _ (by k_mem) hR1
  have hQ2 := hoffn _ _ (by k_mem) hR2
  have hQ3 := hoffn _ _ (by k_mem) hR3
  have hQ4 := hoffn _ _ (by k_mem) hR4
  have hHn := hH.mono hsubn
  rotate_right
  · skip
    (rename StopIf => hx9); clear hx9
    rename IntsAre _ _ => hI9
    rename ∀ d ∈ _, (0 : Int) ≤ d => hN9
    rename List.length _ ≤ 63 => hL9
    try k_fold
    k_steps
    rename News _ _ _ _ => lN
    exact turn_end (G := ⟨nm, tn, kA, .over, _, Value.none, prefOf G⟩ :: G) (ws := _ :: ws) (by assumption) lN hfs hI9 hN9 hL9 (congrArg Nat.succ hG) hord (by k_mem) (by k_mem) (by k_mem) (by k_mem) (by k_mem) (by k_mem) (by with_unfolding_all rfl) (by with_unfolding_all rfl) (.cons ⟨⟨_, _, rfl, by k_mem⟩, .none, RawIn.mono (hH).pref (by intro p hp; repeat (first | exact hp | refine List.mem_cons_of_mem _ ?_))⟩ (HistR.mono hH (by intro p hp; repeat (first | exact hp | refine List.mem_cons_of_mem _ ?_)))) rfl (Eq.symm (lastName_ne (by exact over_ne))) rfl (Eq.symm (lastPref_over (by exact rfl)))
  · skip
    (rename StopIf => hx9); clear hx9
    rename IntsAre _ _ => hI9
    rename ∀ d ∈ _, (0 : Int) ≤ d => hN9
    rename List.length _ ≤ 63 => hL9
    have hrk := hrn
    cases hrn
    · try k_fold
      k_steps
      rename News _ _ _ _ => lN
      exact turn_end (G := ⟨nm, tn, kA, .over, _, Value.none, prefOf G⟩ :: G) (ws := _ :: ws) (by assumption) lN hfs hI9 hN9 hL9 (congrArg Nat.succ hG) hord (by k_mem) (by k_mem) (by k_mem) (by k_mem) (by k_mem) (by k_mem) (by with_unfolding_all rfl) (by with_unfolding_all rfl) (.cons ⟨⟨_, _, rfl, by k_mem⟩, .none, RawIn.mono (hHn).pref (by intro p hp; repeat (first | exact hp | refine List.mem_cons_of_mem _ ?_))⟩ (HistR.mono hHn (by intro p hp; repeat (first | exact hp | refine List.mem_cons_of_mem _ ?_)))) rfl (Eq.symm (lastName_ne (by exact over_ne))) rfl (Eq.symm (lastPref_over (by exact rfl)))
    all_goals
      try k_fold
      k_steps
      rename News _ _ _ _ => lN
      exact turn_end (G := ⟨nm, tn, kA, .left, _, _, prefOf G⟩ :: G) (ws := _ :: ws) (by assumption) lN hfs hI9 hN9 hL9 (congrArg Nat.succ hG) hord (by k_mem) (by k_mem) (by k_mem) (by k_mem) (by k_mem) (by k_mem) (by with_unfolding_all rfl) (by with_unfolding_all rfl) (.cons ⟨⟨_, _, rfl, by k_mem⟩, (RawIn.swap hrk (by (repeat (first | refine swap_cons (.inr (.inl rfl)) ?_ | refine swap_cons (.inr (.inr ⟨_, rfl⟩)) ?_ | refine swap_cons (.inl (by k_mem)) ?_)); exact fun p hp => .inl (by repeat (first | exact hp | refine List.mem_cons_of_mem _ ?_)))), RawIn.mono (hHn).pref (by intro p hp; repeat (first | exact hp | refine List.mem_cons_of_mem _ ?_))⟩ (HistR.mono hHn (by intro p hp; repeat (first | exact hp | refine List.mem_cons_of_mem _ ?_)))) rfl (Eq.symm (lastName_left (by exact rfl))) rfl (Eq.symm (lastPref_ne (by exact left_no)))
  · skip
    (rename StopIf => hx9); clear hx9
    rename IntsAre _ _ => hI9
    rename ∀ d ∈ _, (0 : Int) ≤ d => hN9
    rename List.length _ ≤ 63 => hL9
    try k_fold
    k_steps
    rename News _ _ _ _ => lN
    exact turn_end (G := ⟨nm, tn, kA, .abort, _, Value.none, prefOf G⟩ :: G) (ws := _ :: ws) (by assumption) lN hfs hI9 hN9 hL9 (congrArg Nat.succ hG) hord (by k_mem) (by k_mem) (by k_mem) (by k_mem) (by k_mem) (by k_mem) (by with_unfolding_all rfl) (by with_unfolding_all rfl) (.cons ⟨⟨_, _, rfl, by k_mem⟩, .none, RawIn.mono (hH).pref (by intro p hp; repeat (first | exact hp | refine List.mem_cons_of_mem _ ?_))⟩ (HistR.mono hH (by intro p hp; repeat (first | exact hp | refine List.mem_cons_of_mem _ ?_)))) rfl (Eq.symm (lastName_ne (by exact abort_ne))) rfl (Eq.symm (lastPref_ne (by exact abort_no)))
end Mine
end

theorem PySem.Challenge.cw_oj0019_01_holds : PySem.Challenge.rw_oj0019_01.Holds := by
  exact Mine.law_all
