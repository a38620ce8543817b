import PyProof.Rows.All
import Wide.All
import OpenK.AllK
import Wide.FinOn
import PySem.Challenge.RW_uf050027_04
open PySem PySem.W PyProof.Rows
set_option Elab.async false
set_option maxRecDepth 100000
set_option maxHeartbeats 0
namespace Mine
section
local macro_rules | `(tactic| o_head $_) => `(tactic| assumption)
theorem k04 : PySem.Challenge.rw_uf050027_04.row.Holds → PySem.Challenge.rw_uf050027_04.row.Holds := by
  intro h
  k_head
end
noncomputable def vw04 : Program := { PySem.Challenge.pw_uf050027_04 with main := { PySem.Challenge.pw_uf050027_04.main with body := ((((PySem.Challenge.pw_uf050027_04.main.body.eraseIdx 21).eraseIdx 18).eraseIdx 12).eraseIdx 0) } }
theorem kas04 : ∀ P, [2, 3, 15, 22, 23, 24, 25, 28, 35, 36, 37, 40, 47, 48, 49, 52, 59, 60, 61, 64, 71, 72, 73, 76, 83, 84, 85, 88, 95, 96, 97, 100, 107, 108, 109, 112, 119, 120, 121, 124, 131, 132, 133, 136, 143, 144, 145, 148, 150, 151, 153, 154, 155, 157, 158, 160, 161, 162, 164, 165, 167, 168, 169, 171, 172, 174, 175, 176, 178, 179, 181, 182, 183, 186, 187, 188, 190, 191, 193, 194, 195, 197, 198, 200, 201, 202, 204, 205, 207, 208, 209, 211, 212, 214, 215, 216, 218, 219, 221, 222, 223, 225, 226, 228, 229, 230, 232, 233, 235, 236, 237, 239, 240, 242, 243, 244, 246, 247, 249, 250, 251, 254, 255, 256, 258, 259, 261, 262, 263, 266, 267, 268, 270, 271, 273, 274, 275, 278, 279, 280, 283, 284, 285, 287, 288, 290, 291, 292, 294, 295, 297, 298] = (k04.heap_1 P).map (·.1) := fun _ => by kernel_rfl
end Mine
namespace Mine
noncomputable def mix (c k : Int) : Int := Int.fmod (Int.fmod ((c + 7919 * k + 1) * 48271) 1000003 * Int.fmod ((c + 7919 * k + 1) * 48271) 1000003) 999983
theorem mix_bd (c k : Int) : 0 ≤ mix c k ∧ mix c k < 999983 := by
  unfold mix
  generalize Int.fmod ((c + 7919 * k + 1) * 48271) 1000003 * Int.fmod ((c + 7919 * k + 1) * 48271) 1000003 = x
  exact ⟨Int.fmod_nonneg_of_pos x (by decide), Int.fmod_lt_of_pos x (by decide)⟩
noncomputable def big (c k : Int) : Int :=
  if Int.fmod (mix c (k + 90)) 4 = 0 then Int.fmod (mix c k) 30
  else if Int.fmod (mix c (k + 90)) 4 = 1 then Int.fmod (mix c k) 3000
  else if Int.fmod (mix c (k + 90)) 4 = 2 then
    (if Int.fmod (mix c k) 4 = 0 then 0 else if Int.fmod (mix c k) 4 = 1 then 1 else if Int.fmod (mix c k) 4 = 2 then 1000000000000 else 999999999999)
  else Int.fmod (mix c k * 1000003 + mix c (k + 50)) 1000000000001
theorem big_0 {c k : Int} (h : Int.fmod (mix c (k + 90)) 4 = 0) : Int.fmod (mix c k) 30 = big c k := by unfold big; rw [if_pos h]
theorem big_1 {c k : Int} (h : Int.fmod (mix c (k + 90)) 4 = 1) : Int.fmod (mix c k) 3000 = big c k := by unfold big; rw [if_neg (by rw [h]; decide), if_pos h]
theorem four_at {x : Int} (h0 : 0 ≤ x) (h1 : x < 4) : x = 0 ∨ x = 1 ∨ x = 2 ∨ x = 3 := by omega
theorem big_2 {c k : Int} (h : Int.fmod (mix c (k + 90)) 4 = 2) : ([0, 1, 10 ^ (Int.toNat 12), 10 ^ (Int.toNat 12) - 1] : List Int).getD (Int.toNat (Int.fmod (mix c k) 4)) 0 = big c k := by
  unfold big
  rw [if_neg (by rw [h]; decide), if_neg (by rw [h]; decide), if_pos h]
  rcases four_at (Int.fmod_nonneg_of_pos (mix c k) (by decide)) (Int.fmod_lt_of_pos (mix c k) (show (0 : Int) < 4 by decide)) with e | e | e | e <;> (rw [e]; rfl)
theorem big_3 {c k : Int} (h0 : ¬ Int.fmod (mix c (k + 90)) 4 = 0) (h1 : ¬ Int.fmod (mix c (k + 90)) 4 = 1) (h2 : ¬ Int.fmod (mix c (k + 90)) 4 = 2) : Int.fmod (mix c k * 1000003 + mix c (k + 50)) 1000000000001 = big c k := by
  unfold big; rw [if_neg h0, if_neg h1, if_neg h2]
theorem big_bd (c k : Int) : 0 ≤ big c k ∧ big c k ≤ 1000000000000 := by
  unfold big
  have h1 := Int.fmod_nonneg_of_pos (mix c k) (show (0 : Int) < 30 by decide)
  have h2 := Int.fmod_lt_of_pos (mix c k) (show (0 : Int) < 30 by decide)
  have h3 := Int.fmod_nonneg_of_pos (mix c k) (show (0 : Int) < 3000 by decide)
  have h4 := Int.fmod_lt_of_pos (mix c k) (show (0 : Int) < 3000 by decide)
  have h5 := Int.fmod_nonneg_of_pos (mix c k * 1000003 + mix c (k + 50)) (show (0 : Int) < 1000000000001 by decide)
  have h6 := Int.fmod_lt_of_pos (mix c k * 1000003 + mix c (k + 50)) (show (0 : Int) < 1000000000001 by decide)
  (repeat' split) <;> omega
noncomputable def off (c : Int) : Int := [0, 0, 1, 999, Int.fmod (mix c 70) 30, Int.fmod (mix c 71) 1000].getD (Int.fmod c 6).toNat 0
theorem off_bd (c : Int) : 0 ≤ off c ∧ off c ≤ 999 := by
  unfold off
  have h1 := Int.fmod_nonneg_of_pos (mix c 70) (show (0 : Int) < 30 by decide)
  have h2 := Int.fmod_lt_of_pos (mix c 70) (show (0 : Int) < 30 by decide)
  have h3 := Int.fmod_nonneg_of_pos (mix c 71) (show (0 : Int) < 1000 by decide)
  have h4 := Int.fmod_lt_of_pos (mix c 71) (show (0 : Int) < 1000 by decide)
  generalize (Int.fmod c 6).toNat = i
  match i with
  | 0 => simp
  | 1 => simp
  | 2 => simp
  | 3 => simp
  | 4 => simp; omega
  | 5 => simp; omega
  | n + 6 => simp
noncomputable def sl (p o : Int) : Int := Int.fdiv (p * o + 999) 1000
theorem fdiv_lo (x : Int) : Int.fdiv x 1000 * 1000 ≤ x ∧ x < Int.fdiv x 1000 * 1000 + 1000 := by
  rw [Int.fdiv_eq_ediv_of_nonneg x (by decide)]
  omega
theorem sl_up (p o : Int) (h : Int.fdiv (p * o) 1000 * 1000 < p * o) : Int.fdiv (p * o) 1000 + 1 = sl p o := by
  unfold sl
  have h1 := fdiv_lo (p * o)
  have h2 := fdiv_lo (p * o + 999)
  omega
theorem sl_same (p o : Int) (h : ¬ Int.fdiv (p * o) 1000 * 1000 < p * o) : Int.fdiv (p * o) 1000 = sl p o := by
  unfold sl
  have h1 := fdiv_lo (p * o)
  have h2 := fdiv_lo (p * o + 999)
  omega
theorem sl_own (p o : Int) : Int.fdiv (p * o + 1000 - 1) 1000 = sl p o := by
  unfold sl
  rw [show p * o + 1000 - 1 = p * o + 999 by omega]
end Mine
namespace Mine
open PySem PySem.W PyProof.Rows
noncomputable def Ct (prog : Program) (w : World) (K : Frag) (p : Program) (loose : List Str) (mean : ExcName → Option Value) (mg mb : Str → Option Value) (f : Addr) (sz : Nat) (vs : List Value) (P : Prop) (R : Tok → Value) : Prop :=
  ∀ (dp un : Nat) (gd : Option (List Code)) (cn : Str) (cs : Scope) (a : Addr) (ccd : Value) (cl : List (Str × Addr)) (outer : List Env) (A₀ : Around) (base h₀ : Heap) (L : Addr) (m : Str → Option Value) (news : List (Addr × Obj)) (s : Shared) (Q E : Value → Shared → Prop),
    Below A₀ base outer h₀ → Fr h₀ L s.heap m → K.In h₀ → News h₀ L s.heap news → Top p loose mean mg mb h₀ → cs.kind = .function → dp + sz < recursionLimit → un + 8 * sz < cLine →
    (∀ (t : Tok) (h' : Heap) (tk' : Nat), P → Fr h₀ L h' m → News h₀ L h' news → Q (R t) { s with heap := h', toks := tk' }) →
    wpAny (model prog w) (ktrTop dp un gd cn cs L a ccd cl outer) (call (.ref f) vs) Q E s
theorem Ct.use {prog : Program} {w : World} {K : Frag} {p : Program} {loose : List Str} {mean : ExcName → Option Value} {mg mb : Str → Option Value} {f : Addr} {sz : Nat} {vs : List Value} {P : Prop} {R : Tok → Value} (C : Ct prog w K p loose mean mg mb f sz vs P R)
    {dp un : Nat} {gd : Option (List Code)} {cn : Str} {cs : Scope} {a : Addr} {ccd : Value} {cl : List (Str × Addr)} {outer : List Env} {A₀ : Around} {base h₀ : Heap} {L : Addr} {m : Str → Option Value} {news : List (Addr × Obj)} {s : Shared} {Q E : Value → Shared → Prop}
    (B : Below A₀ base outer h₀ := by k_asm) (F : Fr h₀ L s.heap m := by k_asm) (X : K.In h₀ := by k_asm) (N : News h₀ L s.heap news := by k_asm) (T : Top p loose mean mg mb h₀ := by k_asm) (hk : cs.kind = .function := by first | exact rfl | assumption) (hd : dp + sz < recursionLimit := by first | assumption | omega | ktr_room) (hu : un + 8 * sz < cLine := by first | assumption | omega | ktr_units)
    (ret : ∀ (t : Tok) (h' : Heap) (tk' : Nat), P → Fr h₀ L h' m → News h₀ L h' news → Q (R t) { s with heap := h', toks := tk' }) :
    wpAny (model prog w) (ktrTop dp un gd cn cs L a ccd cl outer) (call (.ref f) vs) Q E s := C _ _ _ _ _ _ _ _ _ _ _ _ _ _ _ _ _ _ B F X N T hk hd hu ret
theorem ct_retI {h₀ h' : Heap} {L : Addr} {m : Str → Option Value} {news : List (Addr × Obj)} {s : Shared} {Q : Value → Shared → Prop} {t : Tok} {tk' : Nat} {P : Prop} {x y : Int}
    (hret : ∀ (t : Tok) (h' : Heap) (tk' : Nat), P → Fr h₀ L h' m → News h₀ L h' news → Q (.int x t) { s with heap := h', toks := tk' }) (hP : P) (e : y = x) (F : Fr h₀ L h' m) (N : News h₀ L h' news) : Q (.int y t) { s with heap := h', toks := tk' } := by
  subst e
  exact hret t h' tk' hP F N
noncomputable def CellOk (c : Int) : Prop := Builtin.Int.intBits c ≤ 1100000
theorem CellOk.bits {c : Int} {P : Prop} (h : CellOk c ∧ P) : Builtin.Int.intBits c ≤ 1100000 := h.1
theorem cellOk_of {c : Int} {n : Nat} (h : Builtin.Int.intBits c ≤ n) (hn : n ≤ 1100000) : CellOk c := Nat.le_trans h hn
end Mine
local macro_rules | `(tactic| bits_by_make) => `(tactic| exact Mine.CellOk.bits (by assumption))
local macro_rules | `(tactic| l_fact) => `(tactic| ((with_reducible refine And.intro (a := Mine.CellOk _) ?_ ?_); (focus (first | exact And.left (by assumption) | exact Mine.cellOk_of (by bits_by_make) (by decide))); (focus (first | omega | (k_fmods; omega) | (kmn_bounds; omega)))))
local macro_rules | `(tactic| walk_at $s:str) => `(tactic| k_extra $s)
namespace Mine
abbrev Con (w : World) (mean : ExcName → Option Value) (mg mb : Str → Option Value) (f : Addr) (sz : Nat) (vs : List Value) (P : Prop) (R : Tok → Value) : Prop :=
  Ct PySem.Challenge.rw_uf050027_04.row.prog w (k04.heap_1 w.params) vw04 (looseW vw04 []) mean mg mb f sz vs P R
end Mine
namespace Mine
theorem c_lmix (w : World) (mean : ExcName → Option Value) (mg mb : Str → Option Value) (x0 x1 : Int) (tx0 tx1 : Tok) (hpre : (fun c k => CellOk c ∧ 0 ≤ k ∧ k ≤ 1000) x0 x1 := by first | trivial | ((try dsimp only); first | assumption | omega | l_fact)) : Con w mean mg mb 208 1 [.int x0 tx0, .int x1 tx1] ((fun c k => 0 ≤ mix c k ∧ mix c k < 999983) x0 x1) (fun t => .int (mix x0 x1) t) := by
  unfold Con Ct
  k_fill
  w_top off
  intro dp un gd cn cs a ccd cl outer A₀ base h₀ L m news s Q E B F X N T hk hd hu hret
  refine wpAny_call ?_
  k_dflt cell_enter
  k_with_none
  k_steps
  all_goals (refine' ct_retI hret ?e1 ?e2 ?e3 ?e4; (case e3 => k_asm); (case e4 => first | k_asm | (refine' cb_drop ?cbN ?cbS; (case cbN => assumption); (case cbS => kcj_all))); (case e1 => exact mix_bd _ _); (case e2 => rfl))
end Mine
namespace Mine
theorem c_lbig (w : World) (mean : ExcName → Option Value) (mg mb : Str → Option Value) (x0 x1 : Int) (tx0 tx1 : Tok) (hpre : (fun c k => CellOk c ∧ 0 ≤ k ∧ k ≤ 500) x0 x1 := by first | trivial | ((try dsimp only); first | assumption | omega | l_fact)) : Con w mean mg mb 215 2 [.int x0 tx0, .int x1 tx1] ((fun c k => 0 ≤ big c k ∧ big c k ≤ 1000000000000) x0 x1) (fun t => .int (big x0 x1) t) := by
  unfold Con Ct
  k_fill
  w_top off
  intro dp un gd cn cs a ccd cl outer A₀ base h₀ L m news s Q E B F X N T hk hd hu hret
  refine wpAny_call ?_
  k_dflt cell_enter
  k_with_none
  k_with "call ref" => (k_here; (with_reducible show wpAny _ _ (call (Value.ref 208) _) _ _ _); k_dflt (refine Mine.Ct.use (Mine.c_lmix _ _ _ _ _ _ _ _) (ret := ?_)); intro t9 h9 tk9 P9 F9 N9; (try dsimp only); (try k_fold))
  k_steps
  all_goals (refine' ct_retI hret ?e1 ?e2 ?e3 ?e4; (case e3 => k_asm); (case e4 => first | k_asm | (refine' cb_drop ?cbN ?cbS; (case cbN => assumption); (case cbS => kcj_all))); (case e1 => exact big_bd _ _); (case e2 => (first | exact big_0 (by assumption) | exact big_1 (by assumption) | exact big_2 (by assumption) | exact big_3 (by assumption) (by assumption) (by assumption) | (unfold big; cb_eq))))
end Mine
namespace Mine
theorem c_loff (w : World) (mean : ExcName → Option Value) (mg mb : Str → Option Value) (x0 : Int) (tx0 : Tok) (hpre : (fun c => CellOk c ∧ (0 : Int) ≤ 0) x0 := by first | trivial | ((try dsimp only); first | assumption | omega | l_fact)) : Con w mean mg mb 222 2 [.int x0 tx0] ((fun c => 0 ≤ off c ∧ off c ≤ 999) x0) (fun t => .int (off x0) t) := by
  unfold Con Ct
  k_fill
  w_top off
  intro dp un gd cn cs a ccd cl outer A₀ base h₀ L m news s Q E B F X N T hk hd hu hret
  refine wpAny_call ?_
  k_dflt cell_enter
  k_with_none
  k_with "call ref" => (k_here; (with_reducible show wpAny _ _ (call (Value.ref 208) _) _ _ _); k_dflt (refine Mine.Ct.use (Mine.c_lmix _ _ _ _ _ _ _ _) (ret := ?_)); intro t9 h9 tk9 P9 F9 N9; (try dsimp only); (try k_fold))
  k_with "call ref" => (k_here; (with_reducible show wpAny _ _ (call (Value.ref 215) _) _ _ _); k_dflt (refine Mine.Ct.use (Mine.c_lbig _ _ _ _ _ _ _ _) (ret := ?_)); intro t9 h9 tk9 P9 F9 N9; (try dsimp only); (try k_fold))
  k_steps
  all_goals (refine' ct_retI hret ?e1 ?e2 ?e3 ?e4; (case e3 => k_asm); (case e4 => first | k_asm | (refine' cb_drop ?cbN ?cbS; (case cbN => assumption); (case cbS => kcj_all))); (case e1 => exact off_bd _); (case e2 => rfl))
end Mine
namespace Mine
theorem c_slack (w : World) (mean : ExcName → Option Value) (mg mb : Str → Option Value) (x0 x1 : Int) (tx0 tx1 : Tok) (hpre : (fun p o => -100000000000000000 ≤ p ∧ p ≤ 100000000000000000 ∧ -100000000000000000 ≤ o ∧ o ≤ 100000000000000000) x0 x1 := by first | trivial | ((try dsimp only); first | assumption | omega | l_fact)) : Con w mean mg mb 168 1 [.int x0 tx0, .int x1 tx1] (True) (fun t => .int (sl x0 x1) t) := by
  unfold Con Ct
  k_fill
  w_top off
  intro dp un gd cn cs a ccd cl outer A₀ base h₀ L m news s Q E B F X N T hk hd hu hret
  refine wpAny_call ?_
  k_dflt cell_enter
  k_with_none
  k_steps
  all_goals (refine' ct_retI hret ?e1 ?e2 ?e3 ?e4; (case e3 => k_asm); (case e4 => first | k_asm | (refine' cb_drop ?cbN ?cbS; (case cbN => assumption); (case cbS => kcj_all))); (case e1 => trivial); (case e2 => exact sl_own _ _))
end Mine
namespace Mine
theorem c_lslack (w : World) (mean : ExcName → Option Value) (mg mb : Str → Option Value) (x0 x1 : Int) (tx0 tx1 : Tok) (hpre : (fun p o => -100000000000000000 ≤ p ∧ p ≤ 100000000000000000 ∧ -100000000000000000 ≤ o ∧ o ≤ 100000000000000000) x0 x1 := by first | trivial | ((try dsimp only); first | assumption | omega | l_fact)) : Con w mean mg mb 229 1 [.int x0 tx0, .int x1 tx1] (True) (fun t => .int (sl x0 x1) t) := by
  unfold Con Ct
  k_fill
  w_top off
  intro dp un gd cn cs a ccd cl outer A₀ base h₀ L m news s Q E B F X N T hk hd hu hret
  refine wpAny_call ?_
  k_dflt cell_enter
  k_with_none
  k_steps
  all_goals (refine' ct_retI hret ?e1 ?e2 ?e3 ?e4; (case e3 => k_asm); (case e4 => first | k_asm | (refine' cb_drop ?cbN ?cbS; (case cbN => assumption); (case cbS => kcj_all))); (case e1 => trivial); (case e2 => first | exact sl_up _ _ (by assumption) | exact sl_same _ _ (by assumption) | exact sl_up _ _ (by simpa using by assumption) | exact sl_same _ _ (by simpa using by assumption)))
end Mine
namespace Mine
open PySem PySem.W PyProof.Rows
noncomputable def Cv (prog : Program) (w : World) (K : Frag) (p : Program) (loose : List Str) (mean : ExcName → Option Value) (mg mb : Str → Option Value) (f : Addr) (sz : Nat) (vs : List Value) (P : List (Addr × Obj) → Prop) (Out : Value → Prop) : Prop :=
  ∀ (dp un : Nat) (gd : Option (List Code)) (cn : Str) (cs : Scope) (a : Addr) (ccd : Value) (cl : List (Str × Addr)) (outer : List Env) (A₀ : Around) (base h₀ : Heap) (L : Addr) (m : Str → Option Value) (news : List (Addr × Obj)) (s : Shared) (Q E : Value → Shared → Prop),
    Below A₀ base outer h₀ → Fr h₀ L s.heap m → K.In h₀ → News h₀ L s.heap news → Top p loose mean mg mb h₀ → cs.kind = .function → dp + sz < recursionLimit → un + 8 * sz < cLine → P news →
    (∀ (r : Value) (h' : Heap) (tk' : Nat), Out r → Fr h₀ L h' m → News h₀ L h' news → Q r { s with heap := h', toks := tk' }) →
    wpAny (model prog w) (ktrTop dp un gd cn cs L a ccd cl outer) (call (.ref f) vs) Q E s
theorem Cv.use {prog : Program} {w : World} {K : Frag} {p : Program} {loose : List Str} {mean : ExcName → Option Value} {mg mb : Str → Option Value} {f : Addr} {sz : Nat} {vs : List Value} {P : List (Addr × Obj) → Prop} {Out : Value → Prop} (C : Cv prog w K p loose mean mg mb f sz vs P Out)
    {dp un : Nat} {gd : Option (List Code)} {cn : Str} {cs : Scope} {a : Addr} {ccd : Value} {cl : List (Str × Addr)} {outer : List Env} {A₀ : Around} {base h₀ : Heap} {L : Addr} {m : Str → Option Value} {news : List (Addr × Obj)} {s : Shared} {Q E : Value → Shared → Prop}
    (B : Below A₀ base outer h₀ := by k_asm) (F : Fr h₀ L s.heap m := by k_asm) (X : K.In h₀ := by k_asm) (N : News h₀ L s.heap news := by k_asm) (T : Top p loose mean mg mb h₀ := by k_asm) (hk : cs.kind = .function := by first | exact rfl | assumption) (hd : dp + sz < recursionLimit := by first | assumption | omega | ktr_room) (hu : un + 8 * sz < cLine := by first | assumption | omega | ktr_units) (hp : P news := by first | trivial | k_mem)
    (ret : ∀ (r : Value) (h' : Heap) (tk' : Nat), Out r → Fr h₀ L h' m → News h₀ L h' news → Q r { s with heap := h', toks := tk' }) :
    wpAny (model prog w) (ktrTop dp un gd cn cs L a ccd cl outer) (call (.ref f) vs) Q E s := C _ _ _ _ _ _ _ _ _ _ _ _ _ _ _ _ _ _ B F X N T hk hd hu hp ret
noncomputable def TextLe (n : Nat) (r : Value) : Prop := ∃ (x : Str) (t : Tok), r = .str x t ∧ x.length ≤ n ∧ PyData.strOk x = true
end Mine
namespace Mine
open PySem PySem.W PyProof.Rows
theorem textLe_of {n : Nat} {x : Str} {t : Tok} (h : x.length ≤ n) (ho : PyData.strOk x = true) : TextLe n (.str x t) := ⟨x, t, rfl, h, ho⟩
theorem strOk_append {x y : Str} (hx : PyData.strOk x = true) (hy : PyData.strOk y = true) : PyData.strOk (x ++ y) = true := by
  unfold PyData.strOk at *
  show (x.cps ++ y.cps).all _ = true
  rw [Array.all_append, hx, hy]; rfl
theorem strOk_mem {x : Str} (hx : PyData.strOk x = true) {c : Nat} (h : c ∈ x.cps) : c < 0x110000 := by
  unfold PyData.strOk at hx
  simpa using (Array.all_eq_true_iff_forall_mem.mp hx) c h
theorem strOk_slice {x : Str} (hx : PyData.strOk x = true) (l u : Option Int) : PyData.strOk (Txt.slice x l u) = true := by
  unfold Txt.slice
  split
  · exact hx
  · unfold PyData.strOk
    rw [Array.all_eq_true_iff_forall_mem]
    intro c hc
    obtain ⟨i, _, hi⟩ := List.mem_filterMap.mp (List.mem_toArray.mp hc)
    simpa using strOk_mem hx (Array.mem_of_getElem? hi)
theorem strOk_item {x : Str} (hx : PyData.strOk x = true) (i : Int) : PyData.strOk (Txt.item x i) = true := by
  unfold Txt.item Txt.charAt
  unfold PyData.strOk
  cases h : (seqIndex? i x.length).bind (x.cps[·]?) with
  | none => simp
  | some c =>
    have : c < 0x110000 := by
      cases hs : seqIndex? i x.length with
      | none => rw [hs] at h; cases h
      | some k => rw [hs] at h; exact strOk_mem hx (Array.mem_of_getElem? h)
    simp [this]
theorem len_item1 (x : Str) (i : Int) : (Txt.item x i).length = 1 := rfl
theorem textAll_nil {n : Nat} : ∀ v ∈ ([] : List Value), TextLe n v := fun _ h => nomatch h
theorem textAll_cons {n : Nat} {v : Value} {r : List Value} (h : TextLe n v) (hr : ∀ v ∈ r, TextLe n v) : ∀ u ∈ v :: r, TextLe n u := fun u hu => by
  rcases List.mem_cons.mp hu with rfl | hu
  · exact h
  · exact hr u hu
theorem item_texts {prog : Program} {w : World} {A : Around} {E : Value → Shared → Prop} {s : Shared} {value slice : PySem.Expr} {l : Addr} {vs : List Value} {k : Int} {u : Tok} {Q : Value → Shared → Prop} (n : Nat) (hl : s.heap.IsList l vs.toArray)
    (h0 : 0 ≤ k ∧ k < vs.length) (hfit : k < 2 ^ 63) (ht : ∀ v ∈ vs, TextLe n v) (h : ∀ x t, (x.length ≤ n ∧ PyData.strOk x = true) → Q (.str x t) s)
    (hs : subscripted slice false (.ref l) (.int k u) = operate [.ref l, .int k u] (getItem (.ref l) (.int k u)) := by with_unfolding_all rfl) :
    wpAny (model prog w) A (subscriptTail value slice (.ref l) (.int k u)) Q E s := by
  have hlt : k.toNat < vs.length := by omega
  obtain ⟨x, t, e, hx⟩ := ht _ (List.getElem_mem hlt)
  exact tail_any hl.typeIs slot_list_getitem.lookup (wpAny_getItem_list hl h0.1 hfit (x := .str x t) (by rw [List.getElem?_toArray, List.getElem?_eq_getElem hlt, e]) (h x t hx)) hs
end Mine
namespace Mine
open PySem PySem.W PyProof.Rows
end Mine
namespace Mine
theorem c_word (w : World) (mean : ExcName → Option Value) (mg mb : Str → Option Value) (c n : Int) (tc tn : Tok) (hc : CellOk c ∧ 0 ≤ n ∧ n ≤ 13 := by first | trivial | ((try dsimp only); first | assumption | omega | l_fact)) :
    Cv PySem.Challenge.rw_uf050027_04.row.prog w (k04.heap_1 w.params) vw04 (looseW vw04 []) mean mg mb 250 2 [.int c tc, .int n tn] (fun _ => True) (TextLe n.toNat) := by
  unfold Cv
  k_fill
  w_top off
  intro dp un gd cn cs a ccd cl outer A₀ base h₀ L m news s Q E B F X N T hk hd hu hP hret
  refine wpAny_call ?_
  k_dflt cell_enter
  k_with_none
  k_with "call ref" => (k_here; (with_reducible show wpAny _ _ (call (Value.ref 208) _) _ _ _); k_dflt (refine Mine.Ct.use (Mine.c_lmix _ _ _ _ _ _ _ _) (ret := ?_)); intro t9 h9 tk9 P9 F9 N9; (try dsimp only); (try k_fold))
  k_with "call ref" => (k_here; (with_reducible show wpAny _ _ (call (Value.ref 215) _) _ _ _); k_dflt (refine Mine.Ct.use (Mine.c_lbig _ _ _ _ _ _ _ _) (ret := ?_)); intro t9 h9 tk9 P9 F9 N9; (try dsimp only); (try k_fold))
  k_with "call ref" => (k_here; (with_reducible show wpAny _ _ (call (Value.ref 222) _) _ _ _); k_dflt (refine Mine.Ct.use (Mine.c_loff _ _ _ _ _ _) (ret := ?_)); intro t9 h9 tk9 P9 F9 N9; (try dsimp only); (try k_fold))
  k_with "state" => (first | exact ⟨⟨rfl, by decide⟩, by decide +kernel⟩ | (refine ⟨⟨?sa, ?sc⟩, ?sb⟩; (case sa => (rw [Str.length_append, Mine.len_item1, List.length_append, List.length_cons, List.length_nil]; omega)); (case sc => (rw [List.length_append, List.length_cons, List.length_nil]; omega)); (case sb => exact Mine.strOk_append (by assumption) (Mine.strOk_item (by decide +kernel) _))))
  k_with "pyIter ref" => k_state (fun pre w => (w.length = pre.length ∧ pre.length ≤ 13) ∧ PyData.strOk w = true) "_law_word_here"
  k_steps
  k_with_none
  all_goals (refine' hret _ _ _ ⟨_, _, rfl, ?q1⟩ ?q2 ?q3; (case q2 => k_asm); (case q3 => first | k_asm | (refine' cb_drop ?cbN ?cbS; (case cbN => assumption); (case cbS => kcj_all))); (case q1 => (refine ⟨?_, by assumption⟩; simp only [rangeKs_length] at *; omega)))

end Mine
namespace Mine
open PySem PySem.W PyProof.Rows PySem.Spec PySem.Calls PyProof.Rows.LCg PyProof.Rows.LCt
section
variable {prog : Program} {w : World} {A : Around} {E : Value → Shared → Prop} {s : Shared} {h₀ : Heap} {L : Addr} {m : Str → Option Value} {env : Env}
noncomputable def CompTurn (h₀ : Heap) (L : Addr) (m : Str → Option Value) (s₁ : Shared) (I : Addr) (oI : Obj) (C : Addr) (oC : Obj) (D : Addr) (oD : Obj) (S : List (Addr × Obj) → Prop) (rest : Value → List (Addr × Obj) → Prop) (y : Value) (s₂ : Shared) : Prop :=
  LCg.CompEnd h₀ L m s₁ I oI C oC D oD S rest y s₂
theorem CompTurn.intro {I C D : Addr} {s₁ : Shared} {oI oC oD : Obj} {S : List (Addr × Obj) → Prop} {rest : Value → List (Addr × Obj) → Prop} {y : Value} {h' : Heap} {tk : Nat} {all : List (Addr × Obj)}
    (F : Fr h₀ L h' m) (N : News h₀ L h' all) (news' : List (Addr × Obj)) (sub : ∀ p ∈ (I, oI) :: (C, oC) :: (D, oD) :: news', p ∈ all) (off : Off3 I C D news') (hS : S news') (r : rest y news') :
    CompTurn h₀ L m s₁ I oI C oC D oD S rest y { s₁ with heap := h', toks := tk } := CompEnd.intro F N news' sub off hS r
theorem rest_inv {elt : Expr} {x : Str} {scope : Scope} {cl : List (Str × Addr)} {S : List (Addr × Obj) → Prop} {P : Nat → Value → Prop} {Fin : List Value → List (Addr × Obj) → Prop} {n : Nat} {news : List (Addr × Obj)}
    (Inv : Nat → List Value → List (Addr × Obj) → Prop) (h0 : Inv 0 [] news)
    (turn : ∀ i ys nw v I oI C oC D m₂ h tk (E' : Value → Shared → Prop), i < n → Inv i ys nw → P i v → NsObj oC m₂ → m₂ x = some v → Fr h₀ L h m → News h₀ L h ((I, oI) :: (C, oC) :: (D, lst ys) :: nw) → Off3 I C D nw → ((@Ne Nat I C) ∧ (@Ne Nat I D) ∧ (@Ne Nat C D)) →
      wpAny (model prog w) A (eval elt (compEnvC scope cl C env)) (CompTurn h₀ L m { s with heap := h, toks := tk } I oI C oC D (lst ys) S (fun y nw' => Inv (i + 1) (ys ++ [y]) nw')) E' { s with heap := h, toks := tk })
    (fin : ∀ ys nw, Inv n ys nw → Fin ys nw) : CompRest prog w A h₀ L m env elt x scope cl s S P Fin n 0 [] news := by
  have key : ∀ (j i : Nat) (ys : List Value) (nw : List (Addr × Obj)), i + j = n → Inv i ys nw → CompRest prog w A h₀ L m env elt x scope cl s S P Fin j i ys nw := by
    intro j
    induction j with
    | zero =>
      intro i ys nw hi hv
      have e : i = n := by omega
      subst e
      exact CompRest.zero (fin ys nw hv)
    | succ j ih =>
      intro i ys nw hi hv
      refine CompRest.succ ?_
      intro v I oI C oC D m₂ h tk E' hP hC hx F N off ne
      refine wpAny_mono (turn i ys nw v I oI C oC D m₂ h tk E' (by omega) hv hP hC hx F N off ne) (fun y s₂ hq => ?_) fun _ _ e => e
      obtain ⟨h', tk', nw', e, F', N', off', hS, r⟩ := hq
      exact ⟨h', tk', nw', e, F', N', off', hS, ih (i + 1) _ nw' (by omega) r⟩
  exact key n 0 [] news (by omega) h0
theorem restT_inv {ct elt : Expr} {x : Str} {scope : Scope} {cl : List (Str × Addr)} {S : List (Addr × Obj) → Prop} {P : Nat → Value → Prop} {Fin : List Value → List (Addr × Obj) → Prop} {n : Nat} {news : List (Addr × Obj)}
    (Inv : Nat → List Value → List (Addr × Obj) → Prop) (h0 : Inv 0 [] news)
    (turn : ∀ i ys nw v I oI C oC D m₂ h tk (E' : Value → Shared → Prop), i < n → Inv i ys nw → P i v → NsObj oC m₂ → m₂ x = some v → Fr h₀ L h m → News h₀ L h ((I, oI) :: (C, oC) :: (D, lst ys) :: nw) → Off3 I C D nw → ((@Ne Nat I C) ∧ (@Ne Nat I D) ∧ (@Ne Nat C D)) →
      wpAny (model prog w) A (isTrue ct (compEnvC scope cl C env) (eval ct (compEnvC scope cl C env))) (fun ok s' => if ok = true then
        wpAny (model prog w) A (eval elt (compEnvC scope cl C env)) (CompTurn h₀ L m { s with heap := h, toks := tk } I oI C oC D (lst ys) S (fun y nw' => Inv (i + 1) (ys ++ [y]) nw')) E' s'
        else CompTurn h₀ L m { s with heap := h, toks := tk } I oI C oC D (lst ys) S (fun _ nw' => Inv (i + 1) ys nw') Value.none s') E' { s with heap := h, toks := tk })
    (fin : ∀ ys nw, Inv n ys nw → Fin ys nw) : CompRestT prog w A h₀ L m env ct elt x scope cl s S P Fin n 0 [] news := by
  have key : ∀ (j i : Nat) (ys : List Value) (nw : List (Addr × Obj)), i + j = n → Inv i ys nw → CompRestT prog w A h₀ L m env ct elt x scope cl s S P Fin j i ys nw := by
    intro j
    induction j with
    | zero =>
      intro i ys nw hi hv
      have e : i = n := by omega
      subst e
      exact CompRestT.zero (fin ys nw hv)
    | succ j ih =>
      intro i ys nw hi hv
      refine CompRestT.succ ?_
      intro v I oI C oC D m₂ h tk E' hP hC hx F N off ne
      refine wpAny_mono (turn i ys nw v I oI C oC D m₂ h tk E' (by omega) hv hP hC hx F N off ne) (fun ok s' hq => ?_) fun _ _ e => e
      cases ok with
      | true =>
        rw [if_pos rfl] at hq ⊢
        refine wpAny_mono hq (fun y s₂ hq => ?_) fun _ _ e => e
        obtain ⟨h', tk', nw', e, F', N', off', hS, r⟩ := hq
        exact ⟨h', tk', nw', e, F', N', off', hS, ih (i + 1) _ nw' (by omega) r⟩
      | false =>
        rw [if_neg (by decide)] at hq ⊢
        obtain ⟨h', tk', nw', e, F', N', off', hS, r⟩ := hq
        exact ⟨h', tk', nw', e, F', N', off', hS, ih (i + 1) _ nw' (by omega) r⟩
  exact key n 0 [] news (by omega) h0
noncomputable def SrcS (prog : Program) (w : World) (A : Around) (h₀ : Heap) (L : Addr) (m : Str → Option Value) (R : Shared → Str → List (Addr × Obj) → Prop) (xv : Value) (s₁ : Shared) : Prop :=
  ∃ tx t news, xv = .str tx t ∧ A.handled = none ∧ Fr h₀ L s₁.heap m ∧ News h₀ L s₁.heap news ∧ tx.cps.size ≤ sizeLine ∧ ∀ s₂ : Shared, (∃ h, s₂ = { s₁ with heap := h }) → R s₂ tx news
theorem SrcS.intro {R : Shared → Str → List (Addr × Obj) → Prop} {tx : Str} {t : Tok} {s₁ : Shared} {news : List (Addr × Obj)} (hh : A.handled = none) (F : Fr h₀ L s₁.heap m) (N : News h₀ L s₁.heap news) (hsz : tx.length ≤ sizeLine) (h : ∀ g, R { s₁ with heap := g } tx news) : SrcS prog w A h₀ L m R (.str tx t) s₁ :=
  ⟨tx, t, news, rfl, hh, F, N, hsz, fun _ ⟨g, e⟩ => e ▸ h g⟩
end
end Mine
namespace Mine
open PySem PySem.W PyProof.Rows PySem.Spec PySem.Calls
section
variable {prog : Program} {w : World} {A : Around} {E : Value → Shared → Prop} {s : Shared} {env : Env} {h₀ : Heap} {target : Expr} {body : List Stmt} {Q : Flow → Shared → Prop}
noncomputable def LoopTurn (h₀ : Heap) (L : Addr) (s₁ : Shared) (I : Addr) (o : Obj) (rest : (Str → Option Value) → List (Addr × Obj) → Prop) (Q : Flow → Shared → Prop) (f : Flow) (s₂ : Shared) : Prop :=
  UnrPostW h₀ L s₁ [(I, o)] rest Q f s₂
noncomputable def Between {σ : Type} (ps : σ → List (Str × Value)) (stored : List Str) (m₀ : Str → Option Value) (ax : Addr) (lo : Obj) (I : Addr) (Inv : σ → List (Addr × Obj) → Prop) (m : Str → Option Value) (nw : List (Addr × Obj)) : Prop :=
  (ax, lo) ∈ nw ∧ (∀ p ∈ nw, p.1 ≠ I) ∧ ∃ c, (∀ p ∈ ps c, m p.1 = some p.2) ∧ (∀ z, (∀ p ∈ ps c, z ≠ p.1) → stored.contains z = false → m z = m₀ z) ∧ Inv c nw
theorem LoopTurn.ret {L I : Addr} {s₁ : Shared} {o : Obj} {rest : (Str → Option Value) → List (Addr × Obj) → Prop} {v : Value} {s₂ : Shared} (h : Q (.ret v) s₂) : LoopTurn h₀ L s₁ I o rest Q (.ret v) s₂ := h
theorem LoopTurn.next {σ : Type} {ps : σ → List (Str × Value)} {stored : List Str} {m₀ : Str → Option Value} {ax : Addr} {lo : Obj} {L I : Addr} {o : Obj} {Inv : σ → List (Addr × Obj) → Prop} {s₁ : Shared} {h' : Heap} {tk : Nat} {m' : Str → Option Value} {all : List (Addr × Obj)} (c : σ) (nw' : List (Addr × Obj))
    (F : Fr h₀ L h' m') (N : News h₀ L h' all) (hI : (I, o) ∈ all) (sub : ∀ p ∈ nw', p ∈ all) (hax : (ax, lo) ∈ nw') (off : ∀ p ∈ nw', p.1 ≠ I) (hk : ∀ p ∈ ps c, m' p.1 = some p.2) (hr : ∀ z, (∀ p ∈ ps c, z ≠ p.1) → stored.contains z = false → m' z = m₀ z) (hv : Inv c nw') :
    LoopTurn h₀ L s₁ I o (Between ps stored m₀ ax lo I Inv) Q .next { s₁ with heap := h', toks := tk } :=
  ⟨h', tk, m', nw', rfl, F, fun p hp => by
    rcases List.mem_append.mp hp with hp | hp
    · rw [List.mem_singleton.mp hp]; exact N _ hI
    · exact N p (sub p hp), fun p hp q hq => by rw [List.mem_singleton.mp hq]; exact off p hp, hax, off, c, hk, hr, hv⟩
theorem LoopTurn.cont {σ : Type} {ps : σ → List (Str × Value)} {stored : List Str} {m₀ : Str → Option Value} {ax : Addr} {lo : Obj} {L I : Addr} {o : Obj} {Inv : σ → List (Addr × Obj) → Prop} {s₁ s₂ : Shared} (h : LoopTurn h₀ L s₁ I o (Between ps stored m₀ ax lo I Inv) Q .next s₂) :
    LoopTurn h₀ L s₁ I o (Between ps stored m₀ ax lo I Inv) Q .cont s₂ := h
theorem between_fr {L : Addr} {h : Heap} {ps : List (Str × Value)} {stored : List Str} {m₀ m₁ : Str → Option Value} (h1 : ∀ p ∈ ps, m₁ p.1 = some p.2) (h2 : ∀ z, (∀ p ∈ ps, z ≠ p.1) → stored.contains z = false → m₁ z = m₀ z)
    (F : Fr h₀ L h m₁) : Fr h₀ L h (kstB (fun z => if stored.contains z then m₁ z else m₀ z) ps) := by
  have em : kstB (fun z => if stored.contains z then m₁ z else m₀ z) ps = m₁ := by
    funext y
    refine kstB_eq h1 fun hn => ?_
    by_cases hc : stored.contains y = true
    · rw [if_pos hc]
    · rw [if_neg hc]
      exact (h2 y hn (by simpa using hc)).symm
  rw [em]
  exact F
theorem loop_list {σ : Type} {ax : Addr} {lo : Obj} {vs : List Value} {n : Nat} {m₀ : Str → Option Value} {news : List (Addr × Obj)} (ps : σ → List (Str × Value)) (stored : List Str) (Inv : Nat → σ → List (Addr × Obj) → Prop) (c₀ : σ)
    (hh : A.handled = none) (F : Fr h₀ env.locals s.heap m₀) (N : News h₀ env.locals s.heap news) (hm : (ax, lo) ∈ news) (hc : lo.cls = .type "list") (hd : lo.data = .seq vs.toArray n)
    (hk : ∀ p ∈ ps c₀, m₀ p.1 = some p.2) (h0 : Inv 0 c₀ news)
    (turn : ∀ i v c nw (u : Str → Option Value) I o h tk, vs[i]? = some v → Inv i c nw → (ax, lo) ∈ nw → (∀ p ∈ nw, p.1 ≠ I) → o.cls = .type "list_iterator" → Fr h₀ env.locals h (kstB (fun z => if stored.contains z then u z else m₀ z) (ps c)) → News h₀ env.locals h ((I, o) :: nw) →
      wpAny (model prog w) A (assign target env v) (fun _ s₂ => wpAny (model prog w) A (execs body env) (LoopTurn h₀ env.locals { s with heap := h, toks := tk } I o (Between ps stored m₀ ax lo I (Inv (i + 1))) Q) E s₂) E { s with heap := h, toks := tk })
    (done : ∀ c nw (u : Str → Option Value) h tk, Inv vs.length c nw → (ax, lo) ∈ nw → Fr h₀ env.locals h (kstB (fun z => if stored.contains z then u z else m₀ z) (ps c)) → News h₀ env.locals h nw → Q .next { s with heap := h, toks := tk }) :
    wpAny (model prog w) A (pyIter (.ref ax)) (fun it s₂ => TurnsAt prog w A h₀ env target body Q E it s₂) E s := by
  refine iter_listTurns hh F N hm hc hd fun I hI => ?_
  have key : ∀ (xs : List Value) (i : Nat) (m : Str → Option Value) (nw : List (Addr × Obj)), vs.drop i = xs → i ≤ vs.length → Between ps stored m₀ ax lo I (Inv i) m nw →
      ItemsRest prog w A E h₀ env target body Q s [(I, "list_iterator")] [(ax, lo)] (xs.map .val) m nw := by
    intro xs
    induction xs with
    | nil =>
      intro i m nw hx hi hb
      obtain ⟨hax, hne, c, h1, h2, hv⟩ := hb
      have e : i = vs.length := by
        have := congrArg List.length hx
        rw [List.length_drop, List.length_nil] at this
        omega
      subst e
      exact ItemsRest.zero fun h tk F' N' => done c nw m h tk hv hax (between_fr h1 h2 F') N'
    | cons v r ih =>
      intro i m nw hx hi hb
      obtain ⟨hax, hne, c, h1, h2, hv⟩ := hb
      have hlt : i < vs.length := by
        have := congrArg List.length hx
        rw [List.length_drop, List.length_cons] at this
        omega
      have hvi : vs[i]? = some v := by
        rw [List.drop_eq_getElem_cons hlt] at hx
        rw [List.getElem?_eq_getElem hlt]
        exact congrArg some (List.cons.inj hx).1
      have hr : vs.drop (i + 1) = r := by
        rw [List.drop_eq_getElem_cons hlt] at hx
        exact (List.cons.inj hx).2
      refine ItemsRest.val fun h tk F' => AllObj.cons fun o ho => AllObj.nil fun N' => ?_
      refine wpAny_mono (turn i v c nw m I o h tk hvi hv hax hne ho (between_fr h1 h2 F') N') (fun _ s₂ q => wpAny_mono q (fun f s₃ p => ?_) fun _ _ e => e) fun _ _ e => e
      have fin : ∀ s₃, UnrEndW h₀ env.locals { s with heap := h, toks := tk } [(I, o)] (Between ps stored m₀ ax lo I (Inv (i + 1))) s₃ →
          UnrEndW h₀ env.locals { s with heap := h, toks := tk } [(I, o)] (fun m' n' => SubL [(ax, lo)] n' ∧ ItemsRest prog w A E h₀ env target body Q s [(I, "list_iterator")] [(ax, lo)] (r.map .val) m' n') s₃ := by
        rintro s₃ ⟨h', tk', m', nw', e, F₃, N₃, off, b⟩
        exact ⟨h', tk', m', nw', e, F₃, N₃, off, And.intro b.1 trivial, ih (i + 1) m' nw' hr hlt b⟩
      cases f with
      | ret v => exact p
      | brk => exact p
      | next => exact fin _ p
      | cont => exact fin _ p
  exact key vs 0 m₀ news (List.drop_zero) (Nat.zero_le _) ⟨hm, fun p hp => Nat.ne_of_lt (hI p hp), c₀, hk, fun _ _ _ => rfl, h0⟩
noncomputable def Still {σ : Type} (ps : σ → List (Str × Value)) (stored : List Str) (m₀ : Str → Option Value) (news : List (Addr × Obj)) (P : σ → Prop) (m : Str → Option Value) (nw : List (Addr × Obj)) : Prop :=
  nw = news ∧ ∃ c, (∀ p ∈ ps c, m p.1 = some p.2) ∧ (∀ z, (∀ p ∈ ps c, z ≠ p.1) → stored.contains z = false → m z = m₀ z) ∧ P c
theorem LoopTurn.still {σ : Type} {ps : σ → List (Str × Value)} {stored : List Str} {m₀ : Str → Option Value} {L I : Addr} {o : Obj} {news : List (Addr × Obj)} {P : σ → Prop} {s₁ : Shared} {h' : Heap} {tk : Nat} {m' : Str → Option Value} {all : List (Addr × Obj)} (c : σ)
    (F : Fr h₀ L h' m') (N : News h₀ L h' all) (hI : (I, o) ∈ all) (sub : ∀ p ∈ news, p ∈ all) (off : ∀ p ∈ news, p.1 ≠ I) (hk : ∀ p ∈ ps c, m' p.1 = some p.2) (hr : ∀ z, (∀ p ∈ ps c, z ≠ p.1) → stored.contains z = false → m' z = m₀ z) (hv : P c) :
    LoopTurn h₀ L s₁ I o (Still ps stored m₀ news P) Q .next { s₁ with heap := h', toks := tk } :=
  ⟨h', tk, m', news, rfl, F, fun p hp => by
    rcases List.mem_append.mp hp with hp | hp
    · rw [List.mem_singleton.mp hp]; exact N _ hI
    · exact N p (sub p hp), fun p hp q hq => by rw [List.mem_singleton.mp hq]; exact off p hp, rfl, c, hk, hr, hv⟩
theorem still_post {σ : Type} {ps : σ → List (Str × Value)} {stored : List Str} {m₀ : Str → Option Value} {L I ax : Addr} {lo : Obj} {o : Obj} {news : List (Addr × Obj)} {P : σ → Prop} {s₁ : Shared} {f : Flow} {s₂ : Shared} (hm : (ax, lo) ∈ news) (off : ∀ p ∈ news, p.1 ≠ I)
    (h : LoopTurn h₀ L s₁ I o (Still ps stored m₀ news P) Q f s₂) : LoopTurn h₀ L s₁ I o (Between ps stored m₀ ax lo I (fun c nw => nw = news ∧ P c)) Q f s₂ := by
  have key : UnrEndW h₀ L s₁ [(I, o)] (Still ps stored m₀ news P) s₂ → UnrEndW h₀ L s₁ [(I, o)] (Between ps stored m₀ ax lo I (fun c nw => nw = news ∧ P c)) s₂ := by
    rintro ⟨h', tk, m', nw', e, F, N, off', hn, c, h1, h2, h3⟩
    subst hn
    exact ⟨h', tk, m', nw', e, F, N, off', hm, off, c, h1, h2, rfl, h3⟩
  cases f with
  | ret v => exact h
  | brk => exact h
  | next => exact key h
  | cont => exact key h
theorem loop_listD {σ : Type} {ax : Addr} {lo : Obj} {vs : List Value} {ds : List Dat} {n : Nat} {m₀ : Str → Option Value} {news : List (Addr × Obj)} (ps : σ → List (Str × Value)) (stored : List Str) (P : List Dat → σ → Prop) (c₀ : σ) (hi : DatAll news vs ds)
    (hh : A.handled = none) (F : Fr h₀ env.locals s.heap m₀) (N : News h₀ env.locals s.heap news) (hm : (ax, lo) ∈ news) (hc : lo.cls = .type "list") (hd : lo.data = .seq vs.toArray n)
    (hk : ∀ p ∈ ps c₀, m₀ p.1 = some p.2) (h0 : P [] c₀)
    (turn : ∀ pre d post v c (u : Str → Option Value) I o h tk, ds = pre ++ d :: post → d ∈ ds → DatIn news v d → P pre c → (∀ p ∈ news, p.1 ≠ I) → o.cls = .type "list_iterator" → Fr h₀ env.locals h (kstB (fun z => if stored.contains z then u z else m₀ z) (ps c)) → News h₀ env.locals h ((I, o) :: news) →
      wpAny (model prog w) A (assign target env v) (fun _ s₂ => wpAny (model prog w) A (execs body env) (LoopTurn h₀ env.locals { s with heap := h, toks := tk } I o (Still ps stored m₀ news (P (pre ++ [d]))) Q) E s₂) E { s with heap := h, toks := tk })
    (done : ∀ c (u : Str → Option Value) h tk, P ds c → Fr h₀ env.locals h (kstB (fun z => if stored.contains z then u z else m₀ z) (ps c)) → News h₀ env.locals h news → Q .next { s with heap := h, toks := tk }) :
    wpAny (model prog w) A (pyIter (.ref ax)) (fun it s₂ => TurnsAt prog w A h₀ env target body Q E it s₂) E s := by
  have hl := hi.length
  refine loop_list ps stored (fun i c nw => nw = news ∧ P (ds.take i) c) c₀ hh F N hm hc hd hk ⟨rfl, by simpa using h0⟩ ?_ ?_
  · rintro i v c nw u I o h tk hv ⟨rfl, hp⟩ hax hne ho F' N'
    have hlt : i < ds.length := by
      rw [← hl]
      exact (List.getElem?_eq_some_iff.mp hv).1
    obtain ⟨v', hv', hD⟩ := hi.get hlt
    rw [hv] at hv'
    cases hv'
    have hs : ds.take (i + 1) = ds.take i ++ [ds[i]] := by rw [List.take_succ_eq_append_getElem hlt]
    have e : ds = ds.take i ++ ds[i] :: ds.drop (i + 1) := by
      have ht := List.take_append_drop (i + 1) ds
      rw [hs, List.append_assoc] at ht
      exact ht.symm
    rw [hs]
    exact wpAny_mono (turn _ ds[i] _ v c u I o h tk e (List.getElem_mem hlt) hD hp hne ho F' N') (fun _ s₂ q => wpAny_mono q (fun f s₃ p => still_post hax hne p) fun _ _ e => e) fun _ _ e => e
  · rintro c nw u h tk ⟨rfl, hp⟩ hax F' N'
    rw [hl, List.take_length] at hp
    exact done c u h tk hp F' N'
end
end Mine
namespace Mine
open PySem PySem.W PyProof.Rows PySem.Spec PySem.Calls
section
variable {prog : Program} {w : World} {A : Around} {E : Value → Shared → Prop} {s : Shared} {env : Env} {h₀ : Heap} {x : Str} {px : Pos} {body : List Stmt} {Q : Flow → Shared → Prop}
theorem iter_rangeTurns {r : Addr} {a b : Int} {t u v : Tok} {n : Nat} {m₀ : Str → Option Value} {news : List (Addr × Obj)}
    (hh : A.handled = none) (F : Fr h₀ env.locals s.heap m₀) (N : News h₀ env.locals s.heap news) (hr : IsRange s.heap r a b 1 t u v) (hsm : Builtin.Range.small a b 1 = true) (hn : Builtin.Range.rangeSize a b 1 = ((n : Nat) : Int))
    (rest₀ : ∀ I : Addr, (∀ p ∈ news, p.1 < I) → ItemsRest prog w A E h₀ env (.Name x px) body Q s [(I, "range_iterator")] [] ((rangeKs a n).map fun k => .tok fun t => .int k t) m₀ news) :
    wpAny (model prog w) A (pyIter (.ref r)) (fun it s₂ => TurnsAt prog w A h₀ env (.Name x px) body Q E it s₂) E s := by
  refine wpAny_pyIter_range hr hsm ?_
  refine ktu_core (tk0 := s.toks) (keep := []) (KTurns.ofWalks (LCg.range_walks hh a n).bound fun i v s Q E st q => wpAny_pure q) (by rw [List.length_map, rangeKs_length]) (fun i v h hp => ?_) (fun i h st => ?_) (fun b hb => ?_) (fun b hb => by simpa using hb) (fun b hb => .inl (by simpa using hb)) ?_ (fun p hp hI => ?_) ?_ (F.push _) (fun p hp => ⟨Heap.get?_push_of_some _ (N p hp).1, (N p hp).2⟩) trivial (rest₀ s.heap.objs.size fun p hp => Heap.lt_size (N p hp).1)
  · obtain ⟨hi, t', e⟩ := hp
    exact ⟨.tok fun t => .int (a + (i : Int)) t, by simp [rangeKs, hi], t', e⟩
  · exact ⟨[(s.heap.objs.size, _)], ⟨⟨rfl, rfl⟩, trivial⟩, fun p hp => by rw [List.mem_singleton.mp hp]; exact st⟩
  · have hb' : b = s.heap.objs.size := by simpa using hb
    rw [hb']
    exact ⟨List.mem_cons_self .., next_is_new F⟩
  · intro hI
    have e := List.mem_singleton.mp hI
    exact absurd F.ns.lt (e ▸ Nat.lt_irrefl _)
  · exact absurd (Heap.lt_size (N p hp).1) ((List.mem_singleton.mp hI) ▸ Nat.lt_irrefl _)
  · show IsRangeIter _ _ _ _ _
    rw [hn]
    simpa using Heap.get?_push_size _ rfl
noncomputable def BetweenR {σ : Type} (ps : σ → List (Str × Value)) (stored : List Str) (m₀ : Str → Option Value) (I : Addr) (Inv : σ → List (Addr × Obj) → Prop) (m : Str → Option Value) (nw : List (Addr × Obj)) : Prop :=
  (∀ p ∈ nw, p.1 ≠ I) ∧ ∃ c, (∀ p ∈ ps c, m p.1 = some p.2) ∧ (∀ z, (∀ p ∈ ps c, z ≠ p.1) → stored.contains z = false → m z = m₀ z) ∧ Inv c nw
theorem LoopTurn.nextR {σ : Type} {ps : σ → List (Str × Value)} {stored : List Str} {m₀ : Str → Option Value} {L I : Addr} {o : Obj} {Inv : σ → List (Addr × Obj) → Prop} {s₁ : Shared} {h' : Heap} {tk : Nat} {m' : Str → Option Value} {all : List (Addr × Obj)} (c : σ) (nw' : List (Addr × Obj))
    (F : Fr h₀ L h' m') (N : News h₀ L h' all) (hI : (I, o) ∈ all) (sub : ∀ p ∈ nw', p ∈ all) (off : ∀ p ∈ nw', p.1 ≠ I) (hk : ∀ p ∈ ps c, m' p.1 = some p.2) (hr : ∀ z, (∀ p ∈ ps c, z ≠ p.1) → stored.contains z = false → m' z = m₀ z) (hv : Inv c nw') :
    LoopTurn h₀ L s₁ I o (BetweenR ps stored m₀ I Inv) Q .next { s₁ with heap := h', toks := tk } :=
  ⟨h', tk, m', nw', rfl, F, fun p hp => by
    rcases List.mem_append.mp hp with hp | hp
    · rw [List.mem_singleton.mp hp]; exact N _ hI
    · exact N p (sub p hp), fun p hp q hq => by rw [List.mem_singleton.mp hq]; exact off p hp, off, c, hk, hr, hv⟩
theorem loop_range {σ : Type} {r : Addr} {a b : Int} {t u v : Tok} {n : Nat} {m₀ : Str → Option Value} {news : List (Addr × Obj)} (ps : σ → List (Str × Value)) (stored : List Str) (Inv : Nat → σ → List (Addr × Obj) → Prop) (c₀ : σ)
    (hh : A.handled = none) (F : Fr h₀ env.locals s.heap m₀) (N : News h₀ env.locals s.heap news) (hr : IsRange s.heap r a b 1 t u v) (hsm : Builtin.Range.small a b 1 = true) (hn : Builtin.Range.rangeSize a b 1 = ((n : Nat) : Int))
    (hk : ∀ p ∈ ps c₀, m₀ p.1 = some p.2) (h0 : Inv 0 c₀ news)
    (turn : ∀ (i : Nat) t c nw (u : Str → Option Value) I o h tk, i < n → Inv i c nw → (∀ p ∈ nw, p.1 ≠ I) → o.cls = .type "range_iterator" → Fr h₀ env.locals h (kstB (fun z => if stored.contains z then u z else m₀ z) (ps c)) → News h₀ env.locals h ((I, o) :: nw) →
      wpAny (model prog w) A (assign (.Name x px) env (.int (a + (i : Int)) t)) (fun _ s₂ => wpAny (model prog w) A (execs body env) (LoopTurn h₀ env.locals { s with heap := h, toks := tk } I o (BetweenR ps stored m₀ I (Inv (i + 1))) Q) E s₂) E { s with heap := h, toks := tk })
    (done : ∀ c nw (u : Str → Option Value) h tk, Inv n c nw → Fr h₀ env.locals h (kstB (fun z => if stored.contains z then u z else m₀ z) (ps c)) → News h₀ env.locals h nw → Q .next { s with heap := h, toks := tk }) :
    wpAny (model prog w) A (pyIter (.ref r)) (fun it s₂ => TurnsAt prog w A h₀ env (.Name x px) body Q E it s₂) E s := by
  refine iter_rangeTurns hh F N hr hsm hn fun I hI => ?_
  have key : ∀ (xs : List Int) (i : Nat) (m : Str → Option Value) (nw : List (Addr × Obj)), (rangeKs a n).drop i = xs → i ≤ n → BetweenR ps stored m₀ I (Inv i) m nw →
      ItemsRest prog w A E h₀ env (.Name x px) body Q s [(I, "range_iterator")] [] (xs.map fun k => .tok fun t => .int k t) m nw := by
    intro xs
    induction xs with
    | nil =>
      intro i m nw hx hi hb
      obtain ⟨hne, c, h1, h2, hv⟩ := hb
      have e : i = n := by
        have := congrArg List.length hx
        rw [List.length_drop, List.length_nil, rangeKs_length] at this
        omega
      subst e
      exact ItemsRest.zero fun h tk F' N' => done c nw m h tk hv (between_fr h1 h2 F') N'
    | cons k r ih =>
      intro i m nw hx hi hb
      obtain ⟨hne, c, h1, h2, hv⟩ := hb
      have hlt' : i < (rangeKs a n).length := by
        have := congrArg List.length hx
        rw [List.length_drop, List.length_cons] at this
        omega
      have hlt : i < n := by rw [rangeKs_length] at hlt'; exact hlt'
      have hki : k = a + (i : Int) := by
        rw [List.drop_eq_getElem_cons hlt'] at hx
        have := (List.cons.inj hx).1
        simpa [rangeKs] using this.symm
      have hr' : (rangeKs a n).drop (i + 1) = r := by
        rw [List.drop_eq_getElem_cons hlt'] at hx
        exact (List.cons.inj hx).2
      subst hki
      refine ItemsRest.tok fun t h tk F' => AllObj.cons fun o ho => AllObj.nil fun N' => ?_
      refine wpAny_mono (turn i t c nw m I o h tk hlt hv hne ho (between_fr h1 h2 F') N') (fun _ s₂ q => wpAny_mono q (fun f s₃ p => ?_) fun _ _ e => e) fun _ _ e => e
      have fin : ∀ s₃, UnrEndW h₀ env.locals { s with heap := h, toks := tk } [(I, o)] (BetweenR ps stored m₀ I (Inv (i + 1))) s₃ →
          UnrEndW h₀ env.locals { s with heap := h, toks := tk } [(I, o)] (fun m' n' => SubL [] n' ∧ ItemsRest prog w A E h₀ env (.Name x px) body Q s [(I, "range_iterator")] [] (r.map fun k => .tok fun t => .int k t) m' n') s₃ := by
        rintro s₃ ⟨h', tk', m', nw', e, F₃, N₃, off, b⟩
        exact ⟨h', tk', m', nw', e, F₃, N₃, off, trivial, ih (i + 1) m' nw' hr' hlt b⟩
      cases f with
      | ret v => exact p
      | brk => exact p
      | next => exact fin _ p
      | cont => exact fin _ p
  exact key (rangeKs a n) 0 m₀ news (List.drop_zero) (Nat.zero_le _) ⟨fun p hp => Nat.ne_of_lt (hI p hp), c₀, hk, fun _ _ _ => rfl, h0⟩
end
end Mine
namespace Mine
open PySem PySem.W PyProof.Rows PySem.Spec PySem.Calls PyProof.Rows.LCg PyProof.Rows.LCt
section
variable {prog : Program} {w : World} {A : Around} {E : Value → Shared → Prop} {s : Shared} {h₀ : Heap} {L : Addr} {m : Str → Option Value} {env : Env}
noncomputable def SrcU (prog : Program) (w : World) (A : Around) (h₀ : Heap) (L : Addr) (m : Str → Option Value) (env : Env) (elt : Expr) (x : Str) (scope : Scope) (cl : List (Str × Addr)) (Fin : Shared → List Value → List (Addr × Obj) → Prop) (xv : Value) (s₁ : Shared) : Prop :=
  CompSrc prog w A h₀ L m env elt x scope cl Fin xv s₁
theorem SrcU.ledger {elt : Expr} {x : Str} {scope : Scope} {cl : List (Str × Addr)} {Fin : Shared → List Value → List (Addr × Obj) → Prop} {ax : Addr} {its : Array Value} {k : Nat} {news : List (Addr × Obj)} {s₁ : Shared}
    (hh : A.handled = none) (F : Fr h₀ L s₁.heap m) (N : News h₀ L s₁.heap news) (hm : (ax, ({ cls := .type "list", data := .seq its k } : Obj)) ∈ news) (hsz : its.size ≤ sizeLine)
    (h : ∀ g, CompRest prog w A h₀ L m env elt x scope cl { s₁ with heap := g } (SrcAt h₀ ax its) (fun i v => its[i]? = some v) (Fin { s₁ with heap := g }) its.size 0 [] news) :
    SrcU prog w A h₀ L m env elt x scope cl Fin (.ref ax) s₁ := CompSrc.ledger hh F N hm hsz h
theorem SrcU.range {elt : Expr} {x : Str} {scope : Scope} {cl : List (Str × Addr)} {Fin : Shared → List Value → List (Addr × Obj) → Prop} {r : Addr} {a b : Int} {t u v : Tok} {n : Nat} {news : List (Addr × Obj)} {s₁ : Shared}
    (hh : A.handled = none) (F : Fr h₀ L s₁.heap m) (N : News h₀ L s₁.heap news) (hr : IsRange s₁.heap r a b 1 t u v) (hsm : Builtin.Range.small a b 1 = true) (hn : Builtin.Range.rangeSize a b 1 = ((n : Nat) : Int)) (hsz : n ≤ sizeLine)
    (h : ∀ g, CompRest prog w A h₀ L m env elt x scope cl { s₁ with heap := g } (fun _ => True) (fun i v => ∃ t, v = .int (a + (i : Int)) t) (Fin { s₁ with heap := g }) n 0 [] news) :
    SrcU prog w A h₀ L m env elt x scope cl Fin (.ref r) s₁ := CompSrc.range hh F N hr hsm hn hsz h
theorem ListComp_V {elt iter : Expr} {x : Str} {px : Pos} {scope : Scope} {cl : List (Str × Addr)} {pos : Pos} {Q : Value → Shared → Prop} (F₀ : Fr h₀ L s.heap m)
    (hclos : closureFor scope env = pure cl) (hcell : ∀ y ∈ scope.names, y.2 ≠ .cell) (hkind : scope.kind = .function)
    (hnames : ∀ y ∈ scope.names, y.2 = .local → scope.names.lookup y.1 = some .local) (hx : scope.names.lookup x = some .local)
    (h : wpAny (model prog w) A (eval iter env) (SrcU prog w A h₀ L m env elt x scope cl (fun s₂ => FinE h₀ L m s₂ Q)) E s)
    (hs : ∀ x, foldedSetIterable iter env x = pure x := by intro _; rfl) :
    wpAny (model prog w) A (eval (.ListComp elt [⟨.Name x px, iter, [], 0⟩] scope pos) env) Q E s := ListComp_U F₀ hclos hcell hkind hnames hx h hs
end
end Mine
namespace Mine
open PySem PySem.W PyProof.Rows PySem.Spec PySem.Calls PyProof.Rows.LCg PyProof.Rows.LCt
section
variable {prog : Program} {w : World} {A : Around} {E : Value → Shared → Prop} {s : Shared} {h₀ : Heap} {L : Addr} {m : Str → Option Value} {env : Env}
noncomputable def TupAt (ax : Addr) (its : Array Value) (nw : List (Addr × Obj)) : Prop := ∃ o, (ax, o) ∈ nw ∧ o.cls = .type "tuple" ∧ ∃ n, o.data = .seq its n
theorem TupAt.tup {h : Heap} {ax : Addr} {its : Array Value} {nw : List (Addr × Obj)} (x : TupAt ax its nw) (N : News h₀ L h nw) : h.IsTuple ax its := by
  obtain ⟨o, hm, hc, n, hd⟩ := x
  exact ⟨o, (N _ hm).1, hc, n, hd⟩
noncomputable def SrcT (prog : Program) (w : World) (A : Around) (h₀ : Heap) (L : Addr) (m : Str → Option Value) (R : Shared → Addr → Array Value → List (Addr × Obj) → Prop) (xv : Value) (s₁ : Shared) : Prop :=
  ∃ ax its news, xv = .ref ax ∧ A.handled = none ∧ Fr h₀ L s₁.heap m ∧ News h₀ L s₁.heap news ∧ TupAt ax its news ∧ its.size ≤ sizeLine ∧ ∀ s₂ : Shared, (∃ h, s₂ = { s₁ with heap := h }) → R s₂ ax its news
theorem SrcT.intro {R : Shared → Addr → Array Value → List (Addr × Obj) → Prop} {ax : Addr} {its : Array Value} {k : Nat} {s₁ : Shared} {news : List (Addr × Obj)} (hh : A.handled = none) (F : Fr h₀ L s₁.heap m) (N : News h₀ L s₁.heap news) (hm : (ax, ({ cls := .type "tuple", data := .seq its k } : Obj)) ∈ news) (hsz : its.size ≤ sizeLine) (h : ∀ g, R { s₁ with heap := g } ax its news) : SrcT prog w A h₀ L m R (.ref ax) s₁ :=
  ⟨ax, its, news, rfl, hh, F, N, ⟨_, hm, rfl, _, rfl⟩, hsz, fun _ ⟨g, e⟩ => e ▸ h g⟩
theorem tupiter_st {ax I : Addr} {its : Array Value} : ∀ i (h h' : Heap) (o : Obj) (nw : List (Addr × Obj)), (h.IsTupleIter I ax i ∧ h.IsTuple ax its) → h.get? I = some o → h'.get? I = some o → (∀ b o, h₀.get? b = some o → h'.get? b = some o) → News h₀ L h' nw → TupAt ax its nw → (h'.IsTupleIter I ax i ∧ h'.IsTuple ax its) :=
  fun i h h' o nw st e e' k N S => ⟨by obtain ⟨o', q, r⟩ := st.1; rw [e] at q; cases q; exact ⟨o, e', r⟩, S.tup N⟩
end
end Mine
namespace Mine
open PySem PySem.W PyProof.Rows
noncomputable def Cm (prog : Program) (w : World) (K : Frag) (p : Program) (loose : List Str) (mean : ExcName → Option Value) (mg mb : Str → Option Value) (f : Addr) (sz : Nat) (vs : List Value) (P : Heap → List (Addr × Obj) → Prop) (Out : Value → List (Addr × Obj) → Prop) : Prop :=
  ∀ (dp un : Nat) (gd : Option (List Code)) (cn : Str) (cs : Scope) (a : Addr) (ccd : Value) (cl : List (Str × Addr)) (outer : List Env) (A₀ : Around) (base h₀ : Heap) (L : Addr) (m : Str → Option Value) (news : List (Addr × Obj)) (s : Shared) (Q E : Value → Shared → Prop),
    Below A₀ base outer h₀ → Fr h₀ L s.heap m → K.In h₀ → News h₀ L s.heap news → Top p loose mean mg mb h₀ → cs.kind = .function → dp + sz < recursionLimit → un + 8 * sz < cLine → P h₀ news →
    (∀ (r : Value) (add : List (Addr × Obj)) (h' : Heap) (tk' : Nat), Out r add → (∀ p ∈ add, ∀ q ∈ news, q.1 ≠ p.1) → Fr h₀ L h' m → News h₀ L h' (add ++ news) → Q r { s with heap := h', toks := tk' }) →
    wpAny (model prog w) (ktrTop dp un gd cn cs L a ccd cl outer) (call (.ref f) vs) Q E s
theorem Cm.use {prog : Program} {w : World} {K : Frag} {p : Program} {loose : List Str} {mean : ExcName → Option Value} {mg mb : Str → Option Value} {f : Addr} {sz : Nat} {vs : List Value} {P : Heap → List (Addr × Obj) → Prop} {Out : Value → List (Addr × Obj) → Prop} (C : Cm prog w K p loose mean mg mb f sz vs P Out)
    {dp un : Nat} {gd : Option (List Code)} {cn : Str} {cs : Scope} {a : Addr} {ccd : Value} {cl : List (Str × Addr)} {outer : List Env} {A₀ : Around} {base h₀ : Heap} {L : Addr} {m : Str → Option Value} {news : List (Addr × Obj)} {s : Shared} {Q E : Value → Shared → Prop}
    (B : Below A₀ base outer h₀ := by k_asm) (F : Fr h₀ L s.heap m := by k_asm) (X : K.In h₀ := by k_asm) (N : News h₀ L s.heap news := by k_asm) (T : Top p loose mean mg mb h₀ := by k_asm) (hk : cs.kind = .function := by first | exact rfl | assumption) (hd : dp + sz < recursionLimit := by first | assumption | omega | ktr_room) (hu : un + 8 * sz < cLine := by first | assumption | omega | ktr_units) (hp : P h₀ news := by first | trivial | k_mem)
    (ret : ∀ (r : Value) (add : List (Addr × Obj)) (h' : Heap) (tk' : Nat), Out r add → (∀ p ∈ add, ∀ q ∈ news, q.1 ≠ p.1) → Fr h₀ L h' m → News h₀ L h' (add ++ news) → Q r { s with heap := h', toks := tk' }) :
    wpAny (model prog w) (ktrTop dp un gd cn cs L a ccd cl outer) (call (.ref f) vs) Q E s := C _ _ _ _ _ _ _ _ _ _ _ _ _ _ _ _ _ _ B F X N T hk hd hu hp ret
noncomputable def TextsAt (L : List (Addr × Obj)) (D : Addr) (n k : Nat) : Prop := ∃ ys xs, (D, LCg.lst ys) ∈ L ∧ StrsAre ys xs ∧ xs.length = k ∧ ∀ x ∈ xs, x.length ≤ n ∧ PyData.strOk x = true
theorem TextsAt.mono {L L' : List (Addr × Obj)} {D : Addr} {n k : Nat} (h : TextsAt L D n k) (hs : ∀ p ∈ L, p ∈ L') : TextsAt L' D n k := by
  obtain ⟨ys, xs, hm, r⟩ := h
  exact ⟨ys, xs, hs _ hm, r⟩
theorem dat_pair {nw : List (Addr × Obj)} {v : Value} {x : Str} {d : Dat} (h : DatIn nw v (.tuple [.str x, d])) : ∃ a n t u, v = .ref a ∧ (a, ({ cls := .type "tuple", data := .seq #[.str x t, u] n } : Obj)) ∈ nw ∧ DatIn nw u d := by
  cases h with
  | tuple hm r =>
    cases r with
    | cons h1 r =>
      cases h1
      cases r with
      | cons h2 r => cases r; exact ⟨_, _, _, _, rfl, hm, h2⟩
theorem dat_two {nw : List (Addr × Obj)} {v : Value} {a b : Int} (h : DatIn nw v (.tuple [.int a, .int b])) : ∃ ad n t u, v = .ref ad ∧ (ad, ({ cls := .type "tuple", data := .seq #[.int a t, .int b u] n } : Obj)) ∈ nw := by
  cases h with
  | tuple hm r =>
    cases r with
    | cons h1 r =>
      cases h1
      cases r with
      | cons h2 r => cases h2; cases r; exact ⟨_, _, _, _, rfl, hm⟩
theorem da_cons {nw : List (Addr × Obj)} {vs : List Value} {d : Dat} {ds : List Dat} (h : DatAll nw vs (d :: ds)) : ∃ v r, vs = v :: r ∧ DatIn nw v d ∧ DatAll nw r ds := by
  cases h with
  | cons a r => exact ⟨_, _, rfl, a, r⟩
theorem da_nil {nw : List (Addr × Obj)} {vs : List Value} (h : DatAll nw vs []) : vs = [] := by
  cases h; rfl
theorem di_int {nw : List (Addr × Obj)} {v : Value} {a : Int} (h : DatIn nw v (.int a)) : ∃ t, v = .int a t := by
  cases h; exact ⟨_, rfl⟩
theorem di_str {nw : List (Addr × Obj)} {v : Value} {x : Str} (h : DatIn nw v (.str x)) : ∃ t, v = .str x t := by
  cases h; exact ⟨_, rfl⟩
theorem da_ints {nw : List (Addr × Obj)} {vs : List Value} {a : Int} {ds : List Dat} (h : DatAll nw vs (.int a :: ds)) : ∃ t r, vs = .int a t :: r ∧ DatAll nw r ds := by
  obtain ⟨v, r, rfl, h1, h2⟩ := da_cons h
  obtain ⟨t, rfl⟩ := di_int h1
  exact ⟨t, r, rfl, h2⟩
theorem dat_letter {nw : List (Addr × Obj)} {v : Value} {x : Str} {a b c d : Int} (h : DatIn nw v (.tuple [.str x, .int a, .int b, .int c, .int d])) : ∃ ad n t t1 t2 t3 t4, v = .ref ad ∧ (ad, ({ cls := .type "tuple", data := .seq #[.str x t, .int a t1, .int b t2, .int c t3, .int d t4] n } : Obj)) ∈ nw := by
  cases h with
  | tuple hm r =>
    obtain ⟨v, r0, rfl, h1, q0⟩ := da_cons r
    obtain ⟨t, rfl⟩ := di_str h1
    obtain ⟨t1, r1, rfl, q1⟩ := da_ints q0
    obtain ⟨t2, r2, rfl, q2⟩ := da_ints q1
    obtain ⟨t3, r3, rfl, q3⟩ := da_ints q2
    obtain ⟨t4, r4, rfl, q4⟩ := da_ints q3
    obtain rfl := da_nil q4
    exact ⟨_, _, t, t1, t2, t3, t4, rfl, hm⟩
theorem dat_at {nw : List (Addr × Obj)} {vs : List Value} {ds : List Dat} (h : DatAll nw vs ds) {i : Nat} {v : Value} (hv : vs[i]? = some v) : ∃ d, ds[i]? = some d ∧ d ∈ ds ∧ DatIn nw v d := by
  have hl := h.length
  have hi : i < ds.length := by
    rw [← hl]
    exact (List.getElem?_eq_some_iff.mp hv).1
  obtain ⟨u, hu, hd⟩ := h.get hi
  rw [hv] at hu
  cases hu
  exact ⟨ds[i], List.getElem?_eq_getElem hi, List.getElem_mem hi, hd⟩
theorem sub_three {α : Type} {x y z : α} {add nw : List α} : ∀ p ∈ x :: y :: z :: (add ++ nw), p ∈ add ++ x :: y :: z :: nw := fun p hp => by
  simp only [List.mem_cons, List.mem_append] at hp ⊢
  rcases hp with h | h | h | h | h
  · exact .inr (.inl h)
  · exact .inr (.inr (.inl h))
  · exact .inr (.inr (.inr (.inl h)))
  · exact .inl h
  · exact .inr (.inr (.inr (.inr h)))
theorem off_three {I C D : Addr} {oI oC oD : Obj} {add nw : List (Addr × Obj)} (off : LCg.Off3 I C D nw) (hlt : ∀ p ∈ add, ∀ q ∈ (I, oI) :: (C, oC) :: (D, oD) :: nw, q.1 ≠ p.1) : LCg.Off3 I C D (add ++ nw) :=
  LCg.Off3.of fun p hp => by
    rcases List.mem_append.mp hp with h | h
    · exact ⟨Ne.symm (hlt p h _ (.head _)), Ne.symm (hlt p h _ (.tail _ (.head _))), Ne.symm (hlt p h _ (.tail _ (.tail _ (.head _))))⟩
    · exact off.mem p h
theorem off1_mem {D : Addr} : ∀ {l : List (Addr × Obj)}, LCg.Off1 D l → ∀ p ∈ l, p.1 ≠ D
  | [], _, _, h => nomatch h
  | _ :: _, x, p, h => by
    rcases List.mem_cons.mp h with rfl | h
    · exact x.1
    · exact off1_mem x.2 p h
theorem allLt_mem {d : Addr} : ∀ {l : List (Addr × Obj)}, AllLt d l → ∀ p ∈ l, p.1 < d
  | [], _, _, h => nomatch h
  | _ :: _, x, p, h => by
    rcases List.mem_cons.mp h with rfl | h
    · exact x.1
    · exact allLt_mem x.2 p h
theorem ne_above {d e : Nat} {l : List (Addr × Obj)} (h : ∀ p ∈ l, p.1 < d) (hle : d ≤ e) : ∀ p ∈ l, p.1 ≠ e := fun p hp q => by
  have := h p hp
  rw [q] at this
  exact Nat.lt_irrefl _ (Nat.lt_of_lt_of_le this hle)
end Mine
namespace Mine
open PySem PySem.W PyProof.Rows PyProof.Rows.LCg
theorem rest_each {prog : Program} {w : World} {A : Around} {s : Shared} {h₀ : Heap} {L : Addr} {m : Str → Option Value} {env : Env} {elt : Expr} {x : Str} {scope : Scope} {cl : List (Str × Addr)} {S : List (Addr × Obj) → Prop} {P : Nat → Value → Prop} {Fin : List Value → List (Addr × Obj) → Prop} {n : Nat} {news : List (Addr × Obj)}
    (V : Value → Prop) (hS : S news)
    (turn : ∀ i ys v I oI C oC D m₂ h tk (E' : Value → Shared → Prop), i < n → P i v → NsObj oC m₂ → m₂ x = some v → Fr h₀ L h m → News h₀ L h ((I, oI) :: (C, oC) :: (D, lst ys) :: news) → Off3 I C D news → ((@Ne Nat I C) ∧ (@Ne Nat I D) ∧ (@Ne Nat C D)) →
      wpAny (model prog w) A (eval elt (compEnvC scope cl C env)) (CompTurn h₀ L m { s with heap := h, toks := tk } I oI C oC D (lst ys) (fun _ => True) (fun y nw' => nw' = news ∧ V y)) E' { s with heap := h, toks := tk })
    (fin : ∀ ys, ys.length = n → (∀ v ∈ ys, V v) → Fin ys news) : CompRest prog w A h₀ L m env elt x scope cl s S P Fin n 0 [] news := by
  refine rest_inv (fun i ys nw => nw = news ∧ ys.length = i ∧ ∀ v ∈ ys, V v) ⟨rfl, rfl, fun _ h => nomatch h⟩ ?_ ?_
  · rintro i ys nw v I oI C oC D m₂ h tk E' hi ⟨rfl, hl, hb⟩ hv hC hx F N off ne
    refine wpAny_mono (turn i ys v I oI C oC D m₂ h tk E' hi hv hC hx F N off ne) (fun y s₂ hq => ?_) fun _ _ e => e
    obtain ⟨h', tk', nw', e, F', N', off', _, hn, hy⟩ := hq
    subst hn
    refine ⟨h', tk', _, e, F', N', off', hS, rfl, by rw [List.length_append, List.length_singleton, hl], fun u hu => ?_⟩
    rcases List.mem_append.mp hu with hu | hu
    · exact hb u hu
    · rw [List.mem_singleton.mp hu]; exact hy
  · rintro ys nw ⟨rfl, hl, hb⟩
    exact fin ys hl hb
theorem texts_of {n : Nat} : ∀ {ys : List Value}, (∀ v ∈ ys, TextLe n v) → ∃ xs, StrsAre ys xs ∧ xs.length = ys.length ∧ ∀ x ∈ xs, x.length ≤ n ∧ PyData.strOk x = true
  | [], _ => ⟨[], .nil, rfl, fun _ h => nomatch h⟩
  | v :: r, h => by
    obtain ⟨x, t, e, hl⟩ := h v (.head _)
    subst e
    obtain ⟨xs, hs, hn, hb⟩ := texts_of (ys := r) fun u hu => h u (.tail _ hu)
    refine ⟨x :: xs, .cons x t hs, by rw [List.length_cons, List.length_cons, hn], fun y hy => ?_⟩
    rcases List.mem_cons.mp hy with rfl | hy
    · exact hl
    · exact hb y hy
theorem fdiv_b {i : Nat} (h : i < 42) : 0 ≤ Int.fdiv (0 + (i : Int)) 26 ∧ Int.fdiv (0 + (i : Int)) 26 < 2 := by
  rw [Int.fdiv_eq_ediv_of_nonneg _ (by decide)]; omega
theorem fmod11 (c : Int) : 0 ≤ c.fmod 11 ∧ c.fmod 11 < 11 := ⟨Int.fmod_nonneg_of_pos c (by decide), Int.fmod_lt_of_pos c (by decide)⟩
theorem name_ok {x y z : Str} {c : Int} {l u : Option Int} {l' u' : Option Int} {i : Int} {t : Tok} (hx : x.length ≤ (c.fmod 11).toNat) (ox : PyData.strOk x = true) (oy : PyData.strOk y = true) (hz : z.length ≤ 1 ∧ PyData.strOk z = true) :
    TextLe 24 (.str (Txt.slice x l u ++ Txt.item y i ++ z ++ Txt.slice x l' u') t) := by
  have hc := fmod11 c
  have h1 := Txt.slice_le x l u
  have h2 := Txt.slice_le x l' u'
  refine textLe_of ?_ (strOk_append (strOk_append (strOk_append (strOk_slice ox _ _) (strOk_item oy _)) hz.2) (strOk_slice ox _ _))
  rw [Str.length_append, Str.length_append, Str.length_append, len_item1]
  omega
noncomputable def LetterOk (d : Dat) : Prop := ∃ x se ba lo hi, d = .tuple [.str x, .int se, .int ba, .int lo, .int hi] ∧ (x.length ≤ 24 ∧ PyData.strOk x = true) ∧ (0 ≤ se ∧ se ≤ ba ∧ ba ≤ 2000000000000) ∧ 0 ≤ lo ∧ lo ≤ hi ∧ hi ≤ 2000000000000
theorem letter_dat {L : List (Addr × Obj)} {a : Addr} {n : Nat} {x : Str} {se ba lo hi : Int} {t t1 t2 t3 t4 : Tok} (hm : (a, ({ cls := .type "tuple", data := .seq #[.str x t, .int se t1, .int ba t2, .int lo t3, .int hi t4] n } : Obj)) ∈ L)
    (hx : x.length ≤ 24 ∧ PyData.strOk x = true) (h1 : 0 ≤ se ∧ se ≤ ba ∧ ba ≤ 2000000000000) (h2 : 0 ≤ lo ∧ lo ≤ hi ∧ hi ≤ 2000000000000) : ∃ d, DatIn L (.ref a) d ∧ LetterOk d :=
  ⟨_, .tuple (vs := [.str x t, .int se t1, .int ba t2, .int lo t3, .int hi t4]) hm (.cons (.str _ _) (.cons (.int _ _) (.cons (.int _ _) (.cons (.int _ _) (.cons (.int _ _) .nil))))), x, se, ba, lo, hi, rfl, hx, h1, h2⟩
theorem item_name {prog : Program} {w : World} {A : Around} {E : Value → Shared → Prop} {s : Shared} {value slice : PySem.Expr} {h₀ : Heap} {L l : Addr} {news : List (Addr × Obj)} {ys : List Value} {xs : List Str} {k : Int} {u : Tok} {Q : Value → Shared → Prop} (N : News h₀ L s.heap news) (hm : (l, LCg.lst ys) ∈ news) (hs : StrsAre ys xs)
    (h0 : 0 ≤ k ∧ k < (xs.length : Int)) (hfit : k < 2 ^ 63) (h : ∀ x t, x ∈ xs → Q (.str x t) s)
    (hq : subscripted slice false (.ref l) (.int k u) = operate [.ref l, .int k u] (getItem (.ref l) (.int k u)) := by with_unfolding_all rfl) :
    wpAny (model prog w) A (subscriptTail value slice (.ref l) (.int k u)) Q E s :=
  KTb.item_list (News.isList N hm) hs h0.1 h0.2 hfit (fun t hlt => h _ t (by rw [List.getD_eq_getElem?_getD, List.getElem?_eq_getElem hlt, Option.getD_some]; exact List.getElem_mem hlt)) hq
theorem item_bd {prog : Program} {w : World} {A : Around} {E : Value → Shared → Prop} {s : Shared} {value slice : PySem.Expr} {l : Addr} {vs : List Value} {ns : List Int} {k : Int} {u : Tok} {Q : Value → Shared → Prop} (lo hi : Int) (hl : s.heap.IsList l vs.toArray) (hi' : IntsAre vs ns) (hb : ∀ n ∈ ns, lo ≤ n ∧ n ≤ hi)
    (h0 : 0 ≤ k ∧ k < (ns.length : Int)) (hfit : k < 2 ^ 63) (h : ∀ t x, (lo ≤ x ∧ x ≤ hi) → Q (.int x t) s)
    (hs : subscripted slice false (.ref l) (.int k u) = operate [.ref l, .int k u] (getItem (.ref l) (.int k u)) := by with_unfolding_all rfl) :
    wpAny (model prog w) A (subscriptTail value slice (.ref l) (.int k u)) Q E s := by
  have hlt : k.toNat < ns.length := by omega
  obtain ⟨t, hx⟩ := hi'.get k.toNat ns[k.toNat] (List.getElem?_eq_getElem hlt)
  exact tail_any hl.typeIs slot_list_getitem.lookup (wpAny_getItem_list hl h0.1 hfit (by simpa using hx) (h t _ (hb _ (List.getElem_mem hlt)))) hs
theorem letter_ret {h₀ h' : Heap} {L : Addr} {m : Str → Option Value} {news rest : List (Addr × Obj)} {s : Shared} {Q : Value → Shared → Prop} {tk' : Nat} {D : Addr} {n : Nat} {x : Str} {se ba lo hi : Int} {t t1 t2 t3 t4 : Tok}
    (hret : ∀ (r : Value) (add : List (Addr × Obj)) (h' : Heap) (tk' : Nat), (∃ d, DatIn add r d ∧ LetterOk d) → (∀ p ∈ add, ∀ q ∈ news, q.1 ≠ p.1) → Fr h₀ L h' m → News h₀ L h' (add ++ news) → Q r { s with heap := h', toks := tk' })
    (N : News h₀ L h' ((D, ({ cls := .type "tuple", data := .seq #[.str x t, .int se t1, .int ba t2, .int lo t3, .int hi t4] n } : Obj)) :: rest)) (F : Fr h₀ L h' m) (sub : ∀ p ∈ news, p ∈ rest) (lt : AllLt D news)
    (hx : x.length ≤ 24 ∧ PyData.strOk x = true) (h1 : 0 ≤ se ∧ se ≤ ba ∧ ba ≤ 2000000000000) (h2 : 0 ≤ lo ∧ lo ≤ hi ∧ hi ≤ 2000000000000) : Q (.ref D) { s with heap := h', toks := tk' } := by
  refine hret (.ref D) [(D, ({ cls := .type "tuple", data := .seq #[.str x t, .int se t1, .int ba t2, .int lo t3, .int hi t4] n } : Obj))] h' tk' (letter_dat (.head _) hx h1 h2) (fun p hp q hq => ?_) F fun p hp => ?_
  · rw [List.mem_singleton.mp hp]
    exact Nat.ne_of_lt (allLt_mem lt q hq)
  · rcases List.mem_append.mp hp with hp | hp
    · rw [List.mem_singleton.mp hp]; exact N _ (.head _)
    · exact N p (.tail _ (sub p hp))
theorem fmb (a b : Int) (h : 0 < b) : 0 ≤ a.fmod b ∧ a.fmod b < b := ⟨Int.fmod_nonneg_of_pos a h, Int.fmod_lt_of_pos a h⟩
end Mine
local macro_rules | `(tactic| k_all) => `(tactic| first | assumption | exact Mine.ne_above (by assumption) (by omega))
local macro_rules | `(tactic| k_mem) => `(tactic| ((repeat (first | assumption | refine List.Mem.tail _ ?_)); done))
namespace Mine
theorem c_names (w : World) (mean : ExcName → Option Value) (mg mb : Str → Option Value) (c : Int) (tc : Tok) (hc : CellOk c ∧ (0 : Int) ≤ 0) :
    Cm PySem.Challenge.rw_uf050027_04.row.prog w (k04.heap_1 w.params) vw04 (looseW vw04 []) mean mg mb 255 3 [.int c tc] (fun _ _ => True) (fun r L => ∃ D, r = .ref D ∧ TextsAt L D 24 42) := by
  unfold Cm
  k_fill
  w_top off
  intro dp un gd cn cs a ccd cl outer A₀ base h₀ L m news s Q E B F X N T hk hd hu hP hret
  refine wpAny_call ?_
  k_dflt (refine' code_defC ?k1 ?k2 ?k3 ?k4 ?k5 ?kA ?kF ?kK ?k6 ?k7 ?k8 ?k9 ?kB ?kD ?_ ?c2 ?c3 ?c4; (case kA => exact rfl); (case kF => exact rfl); (case kK => assumption); (case k1 => k_asm); (case k2 => k_asm); (case k3 => k_asm); (case k4 => k_asm); (case k5 => k_asm); (case k6 => k_is); (case k7 => k_is); (case k8 => ktr_room); (case k9 => exact BindsTo.of_eq rfl); (case kB => exact rfl); (case kD => decide +kernel); (case c2 => exact rfl); (case c3 => exact rfl); (case c4 => exact rfl); k_whole; intro g' L' h' tk' cells' FG' F' N' Y' B' X' T' l1; (try k_lt l1); k_cells Y'; (try simp only [List.cons_append, List.nil_append] at N'); (try dsimp only); (try k_lift B'); (try k_fold))
  k_with_none
  k_with "call ref" => (k_here; (with_reducible show wpAny _ _ (call (Value.ref 208) _) _ _ _); k_dflt (refine Mine.Ct.use (Mine.c_lmix _ _ _ _ _ _ _ _) (ret := ?_)); intro t9 h9 tk9 P9 F9 N9; (try dsimp only); (try k_fold))
  k_with "call ref" => (k_here; (with_reducible show wpAny _ _ (call (Value.ref 215) _) _ _ _); k_dflt (refine Mine.Ct.use (Mine.c_lbig _ _ _ _ _ _ _ _) (ret := ?_)); intro t9 h9 tk9 P9 F9 N9; (try dsimp only); (try k_fold))
  k_with "call ref" => (k_here; (with_reducible show wpAny _ _ (call (Value.ref 222) _) _ _ _); k_dflt (refine Mine.Ct.use (Mine.c_loff _ _ _ _ _ _) (ret := ?_)); intro t9 h9 tk9 P9 F9 N9; (try dsimp only); (try k_fold))
  k_with "call ref" => (k_here; (with_reducible show wpAny _ _ (call (Value.ref 250) _) _ _ _); k_dflt (refine Mine.Cv.use (Mine.c_word _ _ _ _ _ _ _ _) (ret := ?_)); intro r9 h9 tk9 ho9 F9 N9; k_dflt ((obtain ⟨x9, v9, e9, hl9, hs9⟩ := ho9); subst e9); (try dsimp only); (try k_fold))
  k_with "eval ListComp" => (k_here; k_dflt (refine Mine.ListComp_V (by k_asm) (by with_unfolding_all rfl) (by decide) (by rfl) (by decide) (by rfl) ?_))
  k_steps
  refine SrcU.range (n := 42) (by rfl) (by k_asm) (by k_asm) (by assumption) (by decide) (by rfl) (by decide) ?_
  intro g9
  refine rest_each (TextLe 24) trivial ?_ ?_
  · intro i ys v I oI C oC D m₂ h tk E' hi hv hC hx F' N' off ne
    obtain ⟨t9, rfl⟩ := hv
    k_with "subscriptTail List cons BinOp ref int" => (k_here; (with_reducible show wpAny _ _ (subscriptTail _ _ (Value.ref _) (Value.int _ _)) _ _ _); k_dflt (refine' Mine.item_texts 1 ?k1 ?k2 ?k3 ?k4 ?_; (case k1 => is_list); (case k2 => exact ⟨(Mine.fdiv_b hi).1, by simpa using (Mine.fdiv_b hi).2⟩); (case k3 => (have hb9 := (Mine.fdiv_b hi).2; omega)); (case k4 => exact Mine.textAll_cons (Mine.textLe_of (by decide) (by decide +kernel)) (Mine.textAll_cons (Mine.textLe_of (by decide) (by decide +kernel)) Mine.textAll_nil)); k_whole); intro z9 tz9 hz9)
    k_steps
    all_goals first | (refine CompTurn.intro (by k_asm) (by k_asm) _ ?cS ?cO trivial ⟨rfl, name_ok (by assumption) (by assumption) (by decide +kernel) (by assumption)⟩; (case cS => first | exact fun _ h => h | kst_inAny); (case cO => assumption))
  · intro ys hl hb
    obtain ⟨xs, hs, hn, hx⟩ := texts_of hb
    intro D h tk F' N' o1
    k_steps
    refine hret (.ref D) [(D, LCg.lst ys)] h tk ⟨D, rfl, ys, xs, .head _, hs, by rw [hn, hl], hx⟩ (fun p hp q hq => by rw [List.mem_singleton.mp hp]; exact off1_mem o1 q (.tail _ (.tail _ (.tail _ hq)))) (by k_asm) ?_
    rename News h₀ L _ _ => kN9
    intro p hp
    refine kN9 p ?_
    rcases List.mem_append.mp hp with hp | hp
    · rw [List.mem_singleton.mp hp]; exact .head _
    · exact .tail _ (.tail _ (.tail _ (.tail _ hp)))

end Mine
namespace Mine
open PySem PySem.W PyProof.Rows
theorem two_of {v : List Value} {n : List Int} {a b : Int} (hi : IntsAre v n) (hp : n.Perm [a, b]) (hb : (n.getD (Int.toNat 0) 0 = a ∨ n.getD (Int.toNat 0) 0 = b) ∧ n.getD (Int.toNat 0) 0 ≤ a ∧ n.getD (Int.toNat 0) 0 ≤ b) :
    ∃ x y t u, v = [.int x t, .int y u] ∧ n = [x, y] ∧ (x = a ∧ y = b ∨ x = b ∧ y = a) ∧ x ≤ y := by
  have hl := hp.length_eq
  cases hi with
  | nil => simp at hl
  | cons x t r =>
    cases r with
    | nil => simp at hl
    | cons y u r =>
      cases r with
      | cons z _ _ => simp at hl
      | nil =>
        have hb' : (x = a ∨ x = b) ∧ x ≤ a ∧ x ≤ b := hb
        have hm : (x = a ∧ y = b) ∨ (x = b ∧ y = a) := by
          rcases hb'.1 with e | e
          · subst e
            exact .inl ⟨rfl, by simpa using (List.perm_cons x).mp hp⟩
          · subst e
            have := (List.perm_cons x).mp (hp.trans (List.Perm.swap x a []))
            exact .inr ⟨rfl, by simpa using this⟩
        refine ⟨x, y, t, u, rfl, rfl, hm, ?_⟩
        rcases hm with ⟨_, e⟩ | ⟨_, e⟩ <;> rw [e]
        · exact hb'.2.2
        · exact hb'.2.1
end Mine
namespace Mine
open PySem PySem.W PyProof.Rows
theorem item_four {prog : Program} {w : World} {A : Around} {E : Value → Shared → Prop} {s : Shared} {value slice : PySem.Expr} {l : Addr} {vs : List Value} {a b c d : Int} {k : Int} {u : Tok} {Q : Value → Shared → Prop} (hl : s.heap.IsList l vs.toArray) (hi : IntsAre vs [a, b, c, d])
    (h0 : 0 ≤ k ∧ k < 4) (h : ∀ t x, (x = a ∨ x = b ∨ x = c ∨ x = d) → Q (.int x t) s)
    (hs : subscripted slice false (.ref l) (.int k u) = operate [.ref l, .int k u] (getItem (.ref l) (.int k u)) := by with_unfolding_all rfl) :
    wpAny (model prog w) A (subscriptTail value slice (.ref l) (.int k u)) Q E s := by
  obtain ⟨t, hx⟩ := hi.get k.toNat _ (ints_getD h0.1 (by simpa using h0.2))
  refine tail_any hl.typeIs slot_list_getitem.lookup (wpAny_getItem_list hl h0.1 (by omega) (by simpa using hx) (h t _ ?_)) hs
  rcases (show k = 0 ∨ k = 1 ∨ k = 2 ∨ k = 3 by omega) with e | e | e | e <;> subst e <;> simp
end Mine
namespace Mine
open PySem PySem.W PyProof.Rows PySem.Calls
theorem fr_same {h₀ h : Heap} {L : Addr} {m : Str → Option Value} {x : Str} {v : Value} (F : Fr h₀ L h m) (hx : m x = some v) : Fr h₀ L h (fun z => if z = x then some v else m z) := by
  have e : (fun z => if z = x then some v else m z) = m := funext fun z => by
    by_cases q : z = x
    · rw [if_pos q, q, hx]
    · rw [if_neg q]
  rw [e]; exact F
theorem fr_same2 {h₀ h : Heap} {L : Addr} {m : Str → Option Value} {x y : Str} {v u : Value} (F : Fr h₀ L h m) (hy : m y = some u) (hx : m x = some v) : Fr h₀ L h (fun z => if z = y then some u else if z = x then some v else m z) := by
  have e : (fun z => if z = y then some u else if z = x then some v else m z) = m := funext fun z => by
    by_cases q : z = y
    · rw [if_pos q, q, hy]
    · rw [if_neg q]
      by_cases q : z = x
      · rw [if_pos q, q, hx]
      · rw [if_neg q]
  rw [e]; exact F
noncomputable def IfEnd (h₀ : Heap) (L : Addr) (x : Str) (m : Str → Option Value) (news : List (Addr × Obj)) (P : Int → Prop) (s₁ : Shared) (fl : Flow) (s₂ : Shared) : Prop :=
  fl = .next ∧ ∃ h' tk' v t, s₂ = { s₁ with heap := h', toks := tk' } ∧ Fr h₀ L h' (fun z => if z = x then some (.int v t) else m z) ∧ News h₀ L h' news ∧ P v
noncomputable def IfEnd2 (h₀ : Heap) (L : Addr) (x y : Str) (m : Str → Option Value) (news : List (Addr × Obj)) (P : Int → Int → Prop) (s₁ : Shared) (fl : Flow) (s₂ : Shared) : Prop :=
  fl = .next ∧ ∃ h' tk' v t u r, s₂ = { s₁ with heap := h', toks := tk' } ∧ Fr h₀ L h' (fun z => if z = y then some (.int u r) else if z = x then some (.int v t) else m z) ∧ News h₀ L h' news ∧ P v u
theorem If_cut2 {prog : Program} {w : World} {A : Around} {E : Value → Shared → Prop} {s : Shared} {env : Env} {st : Stmt} {Q : Flow → Shared → Prop} {h₀ : Heap} {L : Addr} {m : Str → Option Value} {news : List (Addr × Obj)} (x y : Str) (P : Int → Int → Prop) (_F : Fr h₀ L s.heap m) (_N : News h₀ L s.heap news)
    (h1 : wpAny (model prog w) A (exec st env) (IfEnd2 h₀ L x y m news P s) E s) (h2 : ∀ h' tk' v t u r, Fr h₀ L h' (fun z => if z = y then some (.int u r) else if z = x then some (.int v t) else m z) → News h₀ L h' news → P v u → Q .next { s with heap := h', toks := tk' }) :
    wpAny (model prog w) A (exec st env) Q E s :=
  wpAny_mono h1 (fun fl s' q => by
    obtain ⟨rfl, h', tk', v, t, u, r, rfl, F', N', p⟩ := q
    exact h2 h' tk' v t u r F' N' p) fun _ _ e => e
theorem IfEnd2.set {h₀ h' : Heap} {L : Addr} {x y : Str} {m : Str → Option Value} {news all : List (Addr × Obj)} {P : Int → Int → Prop} {s₁ : Shared} {tk' : Nat} {v u : Int} {t r : Tok} (F : Fr h₀ L h' (fun z => if z = y then some (.int u r) else if z = x then some (.int v t) else m z)) (N : News h₀ L h' all) (sub : ∀ p ∈ news, p ∈ all) (p : P v u) :
    IfEnd2 h₀ L x y m news P s₁ .next { s₁ with heap := h', toks := tk' } := ⟨rfl, h', tk', v, t, u, r, rfl, F, fun q hq => N q (sub q hq), p⟩
theorem IfEnd2.same {h₀ h' : Heap} {L : Addr} {x y : Str} {m : Str → Option Value} {news all : List (Addr × Obj)} {P : Int → Int → Prop} {s₁ : Shared} {tk' : Nat} {v u : Int} {t r : Tok} (F : Fr h₀ L h' m) (N : News h₀ L h' all) (sub : ∀ p ∈ news, p ∈ all) (hy : m y = some (.int u r)) (hx : m x = some (.int v t)) (p : P v u) :
    IfEnd2 h₀ L x y m news P s₁ .next { s₁ with heap := h', toks := tk' } := ⟨rfl, h', tk', v, t, u, r, rfl, fr_same2 F hy hx, fun q hq => N q (sub q hq), p⟩
theorem IfEnd.set {h₀ h' : Heap} {L : Addr} {x : Str} {m : Str → Option Value} {news all : List (Addr × Obj)} {P : Int → Prop} {s₁ : Shared} {tk' : Nat} {v : Int} {t : Tok} (F : Fr h₀ L h' (fun z => if z = x then some (.int v t) else m z)) (N : News h₀ L h' all) (sub : ∀ p ∈ news, p ∈ all) (p : P v) :
    IfEnd h₀ L x m news P s₁ .next { s₁ with heap := h', toks := tk' } := ⟨rfl, h', tk', v, t, rfl, F, fun q hq => N q (sub q hq), p⟩
theorem IfEnd.same {h₀ h' : Heap} {L : Addr} {x : Str} {m : Str → Option Value} {news all : List (Addr × Obj)} {P : Int → Prop} {s₁ : Shared} {tk' : Nat} {v : Int} {t : Tok} (F : Fr h₀ L h' m) (N : News h₀ L h' all) (sub : ∀ p ∈ news, p ∈ all) (hx : m x = some (.int v t)) (p : P v) :
    IfEnd h₀ L x m news P s₁ .next { s₁ with heap := h', toks := tk' } := ⟨rfl, h', tk', v, t, rfl, fr_same F hx, fun q hq => N q (sub q hq), p⟩
end Mine
namespace Mine
open PySem PySem.W PyProof.Rows PySem.Calls
theorem fr_same3 {h₀ h : Heap} {L : Addr} {m : Str → Option Value} {x y q : Str} {v u w : Value} (F : Fr h₀ L h m) (hq : m q = some w) (hy : m y = some u) (hx : m x = some v) : Fr h₀ L h (fun z => if z = q then some w else if z = y then some u else if z = x then some v else m z) := by
  have e : (fun z => if z = q then some w else if z = y then some u else if z = x then some v else m z) = m := funext fun z => by
    by_cases e : z = q
    · rw [if_pos e, e, hq]
    · rw [if_neg e]
      by_cases e : z = y
      · rw [if_pos e, e, hy]
      · rw [if_neg e]
        by_cases e : z = x
        · rw [if_pos e, e, hx]
        · rw [if_neg e]
  rw [e]; exact F
noncomputable def IfEnd3 (h₀ : Heap) (L : Addr) (x y q : Str) (m : Str → Option Value) (news : List (Addr × Obj)) (P : Int → Int → Int → Prop) (s₁ : Shared) (fl : Flow) (s₂ : Shared) : Prop :=
  fl = .next ∧ ∃ h' tk' v t u r b c, s₂ = { s₁ with heap := h', toks := tk' } ∧ Fr h₀ L h' (fun z => if z = q then some (.int b c) else if z = y then some (.int u r) else if z = x then some (.int v t) else m z) ∧ News h₀ L h' news ∧ P v u b
theorem If_cut3 {prog : Program} {w : World} {A : Around} {E : Value → Shared → Prop} {s : Shared} {env : Env} {st : Stmt} {Q : Flow → Shared → Prop} {h₀ : Heap} {L : Addr} {m : Str → Option Value} {news : List (Addr × Obj)} (x y q : Str) (P : Int → Int → Int → Prop) (_F : Fr h₀ L s.heap m) (_N : News h₀ L s.heap news)
    (h1 : wpAny (model prog w) A (exec st env) (IfEnd3 h₀ L x y q m news P s) E s) (h2 : ∀ h' tk' v t u r b c, Fr h₀ L h' (fun z => if z = q then some (.int b c) else if z = y then some (.int u r) else if z = x then some (.int v t) else m z) → News h₀ L h' news → P v u b → Q .next { s with heap := h', toks := tk' }) :
    wpAny (model prog w) A (exec st env) Q E s :=
  wpAny_mono h1 (fun fl s' q => by
    obtain ⟨rfl, h', tk', v, t, u, r, b, c, rfl, F', N', p⟩ := q
    exact h2 h' tk' v t u r b c F' N' p) fun _ _ e => e
theorem IfEnd3.set {h₀ h' : Heap} {L : Addr} {x y q : Str} {m : Str → Option Value} {news all : List (Addr × Obj)} {P : Int → Int → Int → Prop} {s₁ : Shared} {tk' : Nat} {v u b : Int} {t r c : Tok} (F : Fr h₀ L h' (fun z => if z = q then some (.int b c) else if z = y then some (.int u r) else if z = x then some (.int v t) else m z)) (N : News h₀ L h' all) (sub : ∀ p ∈ news, p ∈ all) (p : P v u b) :
    IfEnd3 h₀ L x y q m news P s₁ .next { s₁ with heap := h', toks := tk' } := ⟨rfl, h', tk', v, t, u, r, b, c, rfl, F, fun q hq => N q (sub q hq), p⟩
theorem IfEnd3.same {h₀ h' : Heap} {L : Addr} {x y q : Str} {m : Str → Option Value} {news all : List (Addr × Obj)} {P : Int → Int → Int → Prop} {s₁ : Shared} {tk' : Nat} {v u b : Int} {t r c : Tok} (F : Fr h₀ L h' m) (N : News h₀ L h' all) (sub : ∀ p ∈ news, p ∈ all) (hq : m q = some (.int b c)) (hy : m y = some (.int u r)) (hx : m x = some (.int v t)) (p : P v u b) :
    IfEnd3 h₀ L x y q m news P s₁ .next { s₁ with heap := h', toks := tk' } := ⟨rfl, h', tk', v, t, u, r, b, c, rfl, fr_same3 F hq hy hx, fun q hq => N q (sub q hq), p⟩
end Mine
namespace Mine
theorem c_letter (w : World) (mean : ExcName → Option Value) (mg mb : Str → Option Value) (c many : Int) (D : Addr) (tc tm : Tok) (hc : CellOk c ∧ 1 ≤ many ∧ many ≤ 42) :
    Cm PySem.Challenge.rw_uf050027_04.row.prog w (k04.heap_1 w.params) vw04 (looseW vw04 []) mean mg mb 262 3 [.int c tc, .ref D, .int many tm] (fun _ news => TextsAt news D 24 42) (fun r L => ∃ d, DatIn L r d ∧ LetterOk d) := by
  unfold Cm
  k_fill
  w_top off
  intro dp un gd cn cs a ccd cl outer A₀ base h₀ L m news s Q E B F X N T hk hd hu hP hret
  obtain ⟨ys, xs, hm, hs, hl, hx⟩ := hP
  refine wpAny_call ?_
  k_dflt cell_enter
  k_with_none
  k_with "call ref" => (k_here; (with_reducible show wpAny _ _ (call (Value.ref 208) _) _ _ _); k_dflt (refine Mine.Ct.use (Mine.c_lmix _ _ _ _ _ _ _ _) (ret := ?_)); intro t9 h9 tk9 P9 F9 N9; (try dsimp only); (try k_fold))
  k_with "call ref" => (k_here; (with_reducible show wpAny _ _ (call (Value.ref 215) _) _ _ _); k_dflt (refine Mine.Ct.use (Mine.c_lbig _ _ _ _ _ _ _ _) (ret := ?_)); intro t9 h9 tk9 P9 F9 N9; (try dsimp only); (try k_fold))
  k_with "call ref" => (k_here; (with_reducible show wpAny _ _ (call (Value.ref 222) _) _ _ _); k_dflt (refine Mine.Ct.use (Mine.c_loff _ _ _ _ _ _) (ret := ?_)); intro t9 h9 tk9 P9 F9 N9; (try dsimp only); (try k_fold))
  k_with "call ref" => (k_here; (with_reducible show wpAny _ _ (call (Value.ref 250) _) _ _ _); k_dflt (refine Mine.Cv.use (Mine.c_word _ _ _ _ _ _ _ _) (ret := ?_)); intro r9 h9 tk9 ho9 F9 N9; k_dflt ((obtain ⟨x9, v9, e9, hl9, hs9⟩ := ho9); subst e9); (try dsimp only); (try k_fold))
  k_with "assign Tuple cons ref" => (k_here; (with_reducible rename List.Perm _ [_, _] => pmX); (obtain ⟨x9, y9, t9, u9, ev9, en9, hc9, hl9⟩ := Mine.two_of (by assumption) pmX (by assumption)); subst ev9; subst en9)
  k_with "subscriptTail List cons BinOp ref int" => (k_here; (with_reducible show wpAny _ _ (subscriptTail _ _ (Value.ref _) (Value.int _ _)) _ _ _); (try k_fmods); k_dflt (refine' Mine.item_four ?k1 ?k2 ?k3 ?_; (case k1 => is_list); (case k2 => l_ints); (case k3 => omega); k_whole); intro _ _ hFour)
  k_with "subscriptTail Name Name ref int" => (k_here; (with_reducible show wpAny _ _ (subscriptTail _ _ (Value.ref _) (Value.int _ _)) _ _ _); k_dflt (refine' Mine.item_name ?k1 ?k2 hs ?k3 ?k4 ?_; (case k1 => k_asm); (case k2 => (repeat (first | exact hm | refine List.Mem.tail _ ?_))); (case k3 => (have hb9 := Int.fmod_nonneg_of_pos (mix c 0) (show (0 : Int) < many by omega); have hb8 := Int.fmod_lt_of_pos (mix c 0) (show (0 : Int) < many by omega); omega)); (case k4 => (have hb8 := Int.fmod_lt_of_pos (mix c 0) (show (0 : Int) < many by omega); omega)); k_whole); intro x9 tx9 hx9)
  k_with "subscriptTail List cons BinOp ref int" => (k_here; (with_reducible show wpAny _ _ (subscriptTail _ _ (Value.ref _) (Value.int _ _)) _ _ _); (try k_fmods); k_dflt (first | (refine' Mine.item_bd 1 60 ?k1 ?k2 ?k3 ?k4 ?k5 ?_; (case k1 => is_list); (case k2 => l_ints); (case k3 => decide); (case k4 => (simp only [List.length_cons, List.length_nil]; omega)); (case k5 => omega); k_whole) | (refine' Mine.item_bd 0 600 ?k1 ?k2 ?k3 ?k4 ?k5 ?_; (case k1 => is_list); (case k2 => l_ints); (case k3 => decide); (case k4 => (simp only [List.length_cons, List.length_nil]; omega)); (case k5 => omega); k_whole)); intro t8 d9 hd9; (try (have hm9 := Int.fmod_nonneg_of_pos (mix c 2) (show (0 : Int) < d9 by omega); have hm8 := Int.fmod_lt_of_pos (mix c 2) (show (0 : Int) < d9 by omega))))
  k_with "exec If Compare cons nil" => (k_here; (rename Fr _ _ _ _ => iF7); (rename News _ _ _ _ => iN7); k_dflt (refine' Mine.If_cut3 (Str.ofString "_law_back") (Str.ofString "_law_low") (Str.ofString "_law_high") (fun v u r => (mix c 1).fmod 1000 ≤ v ∧ v ≤ 2000 ∧ 0 ≤ u ∧ u ≤ 2000000 ∧ 0 ≤ r ∧ r ≤ 2000000) iF7 iN7 ?ia1 ?ia2); (case' ia2 => (intro h7 tk7 ba7 tb7 lo7 tl7 hi7 th7 F7 N7 hq7)); (try (clear iF7 iN7)))
  k_with "exec If Compare cons nil" => (k_here; (have hg7 := hq7); (rename Fr _ _ _ _ => iF7); (rename News _ _ _ _ => iN7); k_dflt (refine' Mine.If_cut2 (Str.ofString "_law_low") (Str.ofString "_law_high") (fun v u => 0 ≤ v ∧ v ≤ u ∧ u ≤ 2000000000000) iF7 iN7 ?ib1 ?ib2); (case' ib2 => (intro h8 tk8 lo8 tl8 hi8 th8 F8 N8 hq8)); (try (clear iF7 iN7)))
  k_with "exec If Compare cons nil" => (k_here; (have hg8 := hq8); (rename Fr _ _ _ _ => iF7); (rename News _ _ _ _ => iN7); k_dflt (refine' Mine.If_cut2 (Str.ofString "_law_sent") (Str.ofString "_law_back") (fun v u => 0 ≤ v ∧ v ≤ u ∧ u ≤ 2000000000000) iF7 iN7 ?ic1 ?ic2); (case' ic2 => (intro h9 tk9 se9 ts9 ba9 tb9 F9 N9 hq9)); (try (clear iF7 iN7)))
  k_steps
  all_goals first | (k_dflt ((with_reducible show Mine.IfEnd3 _ _ _ _ _ _ _ _ _ _ _); (rename Fr _ _ _ _ => lF8); (rename News _ _ _ _ => lN8); first | (refine' Mine.IfEnd3.set lF8 lN8 ?eS ?eP; (case eS => (intro p9 hp9; (repeat (first | exact hp9 | refine List.Mem.tail _ ?_)))); (case eP => (have f1 := fmb (mix c 4) 80 (by decide); have f2 := fmb (mix c 4) 6 (by decide); have f3 := fmb (mix c 5) 100 (by decide); have f4 := fmb (mix c 5) 4 (by decide); have f5 := fmb (mix c 1) 1000 (by decide); omega))) | (refine' Mine.IfEnd3.same lF8 lN8 ?eS ?eQ ?eY ?eX ?eP; (case eS => (intro p9 hp9; (repeat (first | exact hp9 | refine List.Mem.tail _ ?_)))); (case eQ => first | exact rfl | exact if_pos rfl); (case eY => first | exact rfl | exact if_pos rfl); (case eX => first | exact rfl | exact if_pos rfl); (case eP => (have f1 := fmb (mix c 4) 80 (by decide); have f2 := fmb (mix c 4) 6 (by decide); have f3 := fmb (mix c 5) 100 (by decide); have f4 := fmb (mix c 5) 4 (by decide); have f5 := fmb (mix c 1) 1000 (by decide); omega))))) | (k_dflt ((with_reducible show Mine.IfEnd2 _ _ _ _ _ _ _ _ _ _); (rename Fr _ _ _ _ => lF8); (rename News _ _ _ _ => lN8); first | (refine' Mine.IfEnd2.set lF8 lN8 ?eS ?eP; (case eS => (intro p9 hp9; (repeat (first | exact hp9 | refine List.Mem.tail _ ?_)))); (case eP => (have f1 := fmb (mix c 4) 80 (by decide); have f2 := fmb (mix c 4) 6 (by decide); have f3 := fmb (mix c 5) 100 (by decide); have f4 := fmb (mix c 5) 4 (by decide); have f5 := fmb (mix c 1) 1000 (by decide); omega))) | (refine' Mine.IfEnd2.same lF8 lN8 ?eS ?eY ?eX ?eP; (case eS => (intro p9 hp9; (repeat (first | exact hp9 | refine List.Mem.tail _ ?_)))); (case eY => first | exact rfl | exact if_pos rfl); (case eX => first | exact rfl | exact if_pos rfl); (case eP => (have f1 := fmb (mix c 4) 80 (by decide); have f2 := fmb (mix c 4) 6 (by decide); have f3 := fmb (mix c 5) 100 (by decide); have f4 := fmb (mix c 5) 4 (by decide); have f5 := fmb (mix c 1) 1000 (by decide); omega))))) | (refine letter_ret hret (by assumption) (by k_asm) ?_ (by first | tbn_find | exact allLt_of (by assumption)) (hx _ (by assumption)) hq9 hq8; (intro p9 hp9; (repeat (first | exact hp9 | refine List.Mem.tail _ ?_))))
end Mine
namespace Mine
abbrev St := Int × Int
noncomputable def cnt : List St → Int → Int
  | [], _ => 0
  | s :: r, p => (if s.1 ≤ p ∧ p ≤ s.2 then 1 else 0) + cnt r p
noncomputable def chg : List St → Int → Int
  | [], _ => 0
  | s :: r, p => (if s.1 = p then 1 else 0) - (if s.2 + 1 = p then 1 else 0) + chg r p
noncomputable def edges : List St → List Int
  | [] => []
  | s :: r => s.1 :: (s.2 + 1) :: edges r
noncomputable def Rising : List Int → Prop
  | [] => True
  | [_] => True
  | a :: b :: r => a < b ∧ Rising (b :: r)
theorem Rising.tail {a : Int} {r : List Int} (h : Rising (a :: r)) : Rising r := by
  cases r with
  | nil => trivial
  | cons b r => exact h.2
theorem Rising.lt {a : Int} {r : List Int} (h : Rising (a :: r)) : ∀ b ∈ r, a < b := by
  induction r generalizing a with
  | nil => intro b hb; cases hb
  | cons c r ih =>
    intro b hb
    rcases List.mem_cons.mp hb with rfl | hb
    · exact h.1
    · have := ih h.2 b hb
      have := h.1
      omega
structure FewInv (S : List St) (done : List Int) (a : Int × Option Int) : Prop where
  nn : 0 ≤ a.1
  top : ∀ q ∈ done, cnt S q ≤ a.1
  pt : (a.1 = 0 ∧ a.2 = none) ∨ ∃ p ∈ done, a.2 = some p ∧ cnt S p = a.1 ∧ 0 < a.1 ∧ ∀ q ∈ done, q < p → cnt S q < a.1
noncomputable def Held (P : List St) (x : Int) : Prop := ∃ s ∈ P, s.1 ≤ x ∧ x ≤ s.2
noncomputable def Apart : List St → Prop
  | [] => True
  | s :: r => s.1 ≤ s.2 ∧ (∀ t ∈ r, s.2 + 1 < t.1) ∧ Apart r
theorem apart_cases {P : List St} (h : Apart P) : ∀ s ∈ P, ∀ t ∈ P, s = t ∨ s.2 + 1 < t.1 ∨ t.2 + 1 < s.1 := by
  induction P with
  | nil => intro s hs; cases hs
  | cons u r ih =>
    intro s hs t ht
    rcases List.mem_cons.mp hs with rfl | hs
    · rcases List.mem_cons.mp ht with rfl | ht
      · exact .inl rfl
      · exact .inr (.inl (h.2.1 t ht))
    · rename_i hs'
      rcases List.mem_cons.mp ht with h2 | h2
      · rw [h2]; exact .inr (.inr (h.2.1 s hs))
      · exact ih h.2.2 s hs t h2
theorem apart_le {P : List St} (h : Apart P) : ∀ s ∈ P, s.1 ≤ s.2 := by
  induction P with
  | nil => intro s hs; cases hs
  | cons u r ih =>
    intro s hs
    rcases List.mem_cons.mp hs with rfl | hs
    · exact h.1
    · exact ih h.2.2 s hs
theorem part_ends {S : List St} {need : Int} {P : List St} (hA : Apart P) (hH : ∀ x, Held P x ↔ need ≤ cnt S x) {s : St} (hs : s ∈ P) : cnt S (s.1 - 1) < need ∧ cnt S (s.2 + 1) < need := by
  have hle := apart_le hA s hs
  refine ⟨?_, ?_⟩
  · by_cases h : need ≤ cnt S (s.1 - 1)
    · obtain ⟨t, ht, h1, h2⟩ := (hH _).mpr h
      have := apart_le hA t ht
      rcases apart_cases hA s hs t ht with rfl | h | h <;> omega
    · omega
  · by_cases h : need ≤ cnt S (s.2 + 1)
    · obtain ⟨t, ht, h1, h2⟩ := (hH _).mpr h
      have := apart_le hA t ht
      rcases apart_cases hA s hs t ht with rfl | h | h <;> omega
    · omega
end Mine
namespace Mine
open PySem.W
structure Tab (S : List St) (c : List (Int × Int)) : Prop where
  nodup : (c.map (·.1)).Nodup
  keys : ∀ x, x ∈ c.map (·.1) ↔ x ∈ edges S
  look : ∀ k, kdfLook c k 0 = chg S k
  len : c.length ≤ 2 * S.length
theorem rising_of {l : List Int} (h : l.Pairwise (· ≤ ·)) (n : l.Nodup) : Rising l := by
  induction l with
  | nil => trivial
  | cons a r ih =>
    cases r with
    | nil => trivial
    | cons b r =>
      have h' := List.pairwise_cons.mp h
      have n' := List.nodup_cons.mp n
      refine ⟨?_, ih h'.2 n'.2⟩
      have h1 := h'.1 b (by simp)
      have h2 : a ≠ b := fun e => n'.1 (by rw [e]; simp)
      omega
structure Pts (S : List St) (pts : List Int) : Prop where
  rising : Rising pts
  mem : ∀ x, x ∈ pts ↔ x ∈ edges S
theorem Tab.pts {S : List St} {c : List (Int × Int)} (T : Tab S c) {pts : List Int} (p : pts.Perm (c.map (·.1))) (o : pts.Pairwise (· ≤ ·)) : Pts S pts :=
  ⟨rising_of o (p.nodup_iff.mpr T.nodup), fun x => (p.mem_iff).trans (T.keys x)⟩
theorem getD_at {pts : List Int} {k : Nat} (h : k < pts.length) : pts.getD k 0 = pts[k] := by simp [h]
end Mine
namespace Mine
structure PartOk (S : List St) (need : Int) (P : List St) : Prop where
  apart : Apart P
  held : ∀ x, Held P x ↔ need ≤ cnt S x
theorem PartOk.ends {S : List St} {need : Int} {P : List St} (h : PartOk S need P) {s : St} (hs : s ∈ P) : cnt S (s.1 - 1) < need ∧ cnt S (s.2 + 1) < need := part_ends h.apart h.held hs
theorem apart_mid {P Q : List St} {s t : St} (h : Apart (P ++ s :: Q)) (ht : t ∈ Q) : s.2 + 1 < t.1 := by
  induction P with
  | nil => exact h.2.1 t ht
  | cons p P ih => exact ih h.2.2
theorem PartOk.next {S : List St} {need : Int} {P A B : List St} {s t : St} (h : PartOk S need P) (e : P = A ++ [s] ++ t :: B) : s.2 + 1 < t.1 := by
  have := h.apart
  rw [e, List.append_assoc] at this
  exact apart_mid this (by simp)
end Mine
namespace Mine
open PySem PySem.W PyProof.Rows PyProof.Rows.LCg
theorem texts_one {h₀ h : Heap} {L D : Addr} {n k : Nat} {ad cells : List (Addr × Obj)} (ht : TextsAt ad D n k) (hn : ∀ p ∈ ad, ∀ q ∈ cells, q.1 ≠ p.1) (N : News h₀ L h (ad ++ cells)) :
    ∃ ys xs, News h₀ L h ((D, lst ys) :: cells) ∧ (∀ q ∈ cells, @Ne Nat q.1 D) ∧ StrsAre ys xs ∧ xs.length = k ∧ ∀ x ∈ xs, x.length ≤ n ∧ PyData.strOk x = true := by
  obtain ⟨ys, xs, hm, hs, hl, hx⟩ := ht
  refine ⟨ys, xs, fun p hp => ?_, fun q hq => hn _ hm q hq, hs, hl, hx⟩
  rcases List.mem_cons.mp hp with rfl | hp
  · exact N _ (List.mem_append.mpr (.inl hm))
  · exact N p (List.mem_append.mpr (.inr hp))
theorem cell_item {vs : List Value} {ns : List Int} {a b i : Nat} {v : Value} (hi : IntsAre vs (List.take a (List.drop b ns))) (hl : PyData.layable0 (.list (ns.map .int)) = true) (hv : vs.toArray[i]? = some v) : ∃ c t, v = .int c t ∧ CellOk c := by
  have hv' : vs[i]? = some v := by simpa using hv
  have hlt : i < (List.take a (List.drop b ns)).length := by
    rw [← hi.length]
    exact (List.getElem?_eq_some_iff.mp hv').1
  obtain ⟨t, hx⟩ := hi.get i _ (List.getElem?_eq_getElem hlt)
  rw [hv'] at hx
  cases hx
  exact ⟨_, t, rfl, cellOk_of (intBits_le_of_item (List.mem_of_mem_drop (List.mem_of_mem_take (List.getElem_mem hlt))) hl) (by decide)⟩
end Mine
namespace Mine
open PySem PySem.W PyProof.Rows PyProof.Rows.LCg
end Mine
namespace Mine
open PySem PySem.W PyProof.Rows PySem.Spec PySem.Calls
section
variable {prog : Program} {w : World} {A : Around} {E : Value → Shared → Prop} {s : Shared} {env : Env} {h₀ : Heap} {target : Expr} {body : List Stmt} {Q : Flow → Shared → Prop}
end
end Mine
namespace Mine
open PySem PySem.W PyProof.Rows
theorem still_int {y : Str} {stored : List Str} {m₀ : Str → Option Value} {h₀ : Heap} {L I : Addr} {o : Obj} {news : List (Addr × Obj)} {P : Int × Tok → Prop} {s₁ : Shared} {h' : Heap} {tk : Nat} {m' : Str → Option Value} {all : List (Addr × Obj)} {Q : Flow → Shared → Prop} {x : Int} {t : Tok}
    (F : Fr h₀ L h' m') (N : News h₀ L h' all) (hk : m' y = some (.int x t)) (hI : (I, o) ∈ all) (sub : ∀ p ∈ news, p ∈ all) (off : ∀ p ∈ news, p.1 ≠ I) (hr : ∀ z, z ≠ y → stored.contains z = false → m' z = m₀ z) (hv : P (x, t)) :
    LoopTurn h₀ L s₁ I o (Still (fun c : Int × Tok => [(y, Value.int c.1 c.2)]) stored m₀ news P) Q .next { s₁ with heap := h', toks := tk } :=
  LoopTurn.still (x, t) F N hI sub off (List.forall_mem_cons.mpr ⟨hk, List.forall_mem_nil _⟩) (fun z hz hc => hr z (hz _ (.head _)) hc) hv
end Mine
namespace Mine
open PySem PySem.W PyProof.Rows
theorem range_size {b : Int} (n : Nat) (h : b = n ∨ (b ≤ 0 ∧ n = 0)) : Builtin.Range.rangeSize 0 b 1 = (n : Int) := by
  unfold Builtin.Range.rangeSize
  rw [if_pos (by decide)]
  rcases h with rfl | ⟨h, rfl⟩
  · by_cases h0 : (0 : Int) < n
    · rw [if_pos h0, Int.ediv_one]; omega
    · rw [if_neg h0]; omega
  · rw [if_neg (by omega)]; rfl
end Mine
namespace Mine
open PySem PySem.W PyProof.Rows
end Mine
namespace Mine
open PySem PySem.W PyProof.Rows PySem.Spec PySem.Calls
section
variable {prog : Program} {w : World} {A : Around} {E : Value → Shared → Prop} {s : Shared} {env : Env} {h₀ : Heap} {x : Str} {px : Pos} {body : List Stmt} {Q : Flow → Shared → Prop}
end
section
variable {prog : Program} {w : World} {A : Around} {E : Value → Shared → Prop} {s : Shared} {h₀ : Heap}
end
end Mine
namespace Mine
open PySem PySem.W PyProof.Rows
end Mine
namespace Mine
open PySem PySem.W PyProof.Rows
end Mine
namespace Mine
open PySem PySem.W PyProof.Rows
theorem list_up {h₀ g : Heap} {L S : Addr} {m : Str → Option Value} {xs : Array Value} (F : Fr h₀ L g m) (h : h₀.IsList S xs) : g.IsList S xs := by
  obtain ⟨o, e, c, n, d⟩ := h
  exact ⟨o, F.keep _ _ e, c, n, d⟩
end Mine
namespace Mine
open PySem PySem.W PyProof.Rows
theorem getD_out {ns : List Int} {k : Nat} (h : ns.length ≤ k) : ns.getD k 0 = 0 := by simp [List.getD, List.getElem?_eq_none h]
theorem int_out {ns : List Int} {k : Nat} {t : Tok} (h : ns.length ≤ k) : ∃ u, Value.int 0 t = Value.int (ns.getD k 0) u := ⟨t, by rw [getD_out h]⟩
end Mine
namespace Mine
open PySem PySem.W PyProof.Rows
section
variable {h₀ : Heap} {Q : Flow → Shared → Prop} {stored : List Str} {m₀ : Str → Option Value} {L I D T U : Addr} {o oT oU : Obj} {news add rest : List (Addr × Obj)} {R : Nat → Unit → List Dat → Prop} {i : Nat} {s₁ : Shared} {h' : Heap} {tk : Nat} {m' : Str → Option Value} {ys : List Value} {e : Nat} {ds : List Dat} {dd : Dat}
end
section
variable {prog : Program} {w : World} {A : Around} {E : Value → Shared → Prop} {s : Shared}
end
end Mine
namespace Mine
open PySem PySem.W PyProof.Rows
theorem item_of {prog : Program} {w : World} {A : Around} {E : Value → Shared → Prop} {s : Shared} {value slice : PySem.Expr} {l : Addr} {vs : List Value} {ns : List Int} {k : Int} {u : Tok} {Q : Value → Shared → Prop} (P : Int → Prop) (hl : s.heap.IsList l vs.toArray) (hi' : IntsAre vs ns) (hb : ∀ n ∈ ns, P n)
    (h0 : 0 ≤ k ∧ k < (ns.length : Int)) (hfit : k < 2 ^ 63) (h : ∀ t x, P x → Q (.int x t) s)
    (hs : subscripted slice false (.ref l) (.int k u) = operate [.ref l, .int k u] (getItem (.ref l) (.int k u)) := by with_unfolding_all rfl) :
    wpAny (model prog w) A (subscriptTail value slice (.ref l) (.int k u)) Q E s := by
  have hlt : k.toNat < ns.length := by omega
  obtain ⟨t, hx⟩ := hi'.get k.toNat ns[k.toNat] (List.getElem?_eq_getElem hlt)
  exact tail_any hl.typeIs slot_list_getitem.lookup (wpAny_getItem_list hl h0.1 hfit (by simpa using hx) (h t _ (hb _ (List.getElem_mem hlt)))) hs
end Mine
namespace Mine
end Mine
namespace Mine
end Mine
namespace Mine
open PySem PySem.W PyProof.Rows PySem.Spec PySem.Calls
section
variable {prog : Program} {w : World} {A : Around} {E : Value → Shared → Prop} {s : Shared} {env : Env} {h₀ : Heap} {target : Expr} {body : List Stmt} {Q : Flow → Shared → Prop}
end
section
variable {h₀ : Heap} {Q : Flow → Shared → Prop} {stored : List Str} {m₀ : Str → Option Value} {L I D T ax : Addr} {o oT lo : Obj} {news add rest all : List (Addr × Obj)} {R : Nat → Unit → List Dat → Prop} {i : Nat} {s₁ : Shared} {h' : Heap} {tk : Nat} {m' : Str → Option Value} {ys : List Value} {e : Nat} {ds : List Dat} {dd : Dat}
end
end Mine
namespace Mine
open PySem PySem.W PyProof.Rows
end Mine
namespace Mine
open PySem PySem.W PyProof.Rows
end Mine
namespace Mine
open PySem PySem.W PyProof.Rows
end Mine
namespace Mine
open PySem PySem.W PyProof.Rows
theorem cell_ok {ns : List Int} (hl : PyData.layable0 (.list (ns.map .int)) = true) (k : Nat) : CellOk (ns.getD k 0) := by
  by_cases h : k < ns.length
  · rw [getD_at h]
    exact cellOk_of (intBits_le_of_item (List.getElem_mem h) hl) (by decide)
  · rw [getD_out (by omega)]
    exact cellOk_of (n := 0) (by decide) (by decide)
end Mine
namespace Mine
theorem cell_ok2 {ns : List Int} (hl : PyData.layable0 (.list (ns.map .int)) = true) (k : Nat) : CellOk (ns.getD k 0) ∧ True := ⟨cell_ok hl k, trivial⟩
end Mine
namespace Mine
open PySem PySem.W PyProof.Rows PySem.Spec PySem.Calls
section
variable {prog : Program} {w : World} {A : Around} {E : Value → Shared → Prop} {s : Shared} {env : Env} {h₀ : Heap} {target : Expr} {body : List Stmt} {Q : Flow → Shared → Prop}
end
end Mine
namespace Mine
open PySem PySem.W PyProof.Rows
end Mine
namespace Mine
open PySem PySem.W PyProof.Rows PyProof.Rows.LCg
theorem ints_snoc {y : Int} {t : Tok} : ∀ {vs : List Value} {ys : List Int}, IntsAre vs ys → IntsAre (vs ++ [.int y t]) (ys ++ [y])
  | _, _, .nil => .cons y t .nil
  | _, _, .cons z u r => .cons z u (ints_snoc r)
theorem rest_ints {prog : Program} {w : World} {A : Around} {s : Shared} {h₀ : Heap} {L : Addr} {m : Str → Option Value} {env : Env} {elt : Expr} {x : Str} {scope : Scope} {cl : List (Str × Addr)} {S : List (Addr × Obj) → Prop} {Fin : List Value → List (Addr × Obj) → Prop} {vs : List Value} {ds : List Dat} {news n₁ : List (Addr × Obj)}
    (f : Dat → Int) (hD : DatAll n₁ vs ds) (hS : S news)
    (turn : ∀ d v ys I oI C oC D m₂ h tk (E' : Value → Shared → Prop), d ∈ ds → DatIn n₁ v d → NsObj oC m₂ → m₂ x = some v → Fr h₀ L h m → News h₀ L h ((I, oI) :: (C, oC) :: (D, lst ys) :: news) → Off3 I C D news → ((@Ne Nat I C) ∧ (@Ne Nat I D) ∧ (@Ne Nat C D)) →
      wpAny (model prog w) A (eval elt (compEnvC scope cl C env)) (CompTurn h₀ L m { s with heap := h, toks := tk } I oI C oC D (lst ys) (fun _ => True) (fun y nw' => nw' = news ∧ ∃ t, y = .int (f d) t)) E' { s with heap := h, toks := tk })
    (fin : ∀ ys, IntsAre ys (ds.map f) → Fin ys news) : CompRest prog w A h₀ L m env elt x scope cl s S (fun i v => vs.toArray[i]? = some v) Fin vs.toArray.size 0 [] news := by
  have hl := hD.length
  refine rest_inv (fun i ys nw => nw = news ∧ IntsAre ys ((ds.take i).map f)) ⟨rfl, .nil⟩ ?_ ?_
  · rintro i ys nw v I oI C oC D m₂ h tk E' hlt ⟨rfl, hb⟩ hv hC hx F N off ne
    obtain ⟨d, hd, hm, hI⟩ := dat_at hD (i := i) (by simpa using hv)
    refine wpAny_mono (turn d v ys I oI C oC D m₂ h tk E' hm hI hC hx F N off ne) (fun y s₂ hq => ?_) fun _ _ e => e
    obtain ⟨h', tk', nw', e, F', N', off', _, hn, t, hy⟩ := hq
    subst hn hy
    refine ⟨h', tk', _, e, F', N', off', hS, rfl, ?_⟩
    rw [show ds.take (i + 1) = ds.take i ++ [d] by simp [List.take_add_one, hd], List.map_append]
    exact ints_snoc hb
  · rintro ys nw ⟨rfl, hb⟩
    rw [List.size_toArray, hl, List.take_length] at hb
    exact fin ys hb
end Mine
namespace Mine
open PySem PySem.W PyProof.Rows
end Mine
namespace Mine
end Mine
namespace Mine
open PySem PySem.W PyProof.Rows
end Mine
namespace Mine
open PySem PySem.W PyProof.Rows PySem.Spec PySem.Calls
section
variable {prog : Program} {w : World} {A : Around} {E : Value → Shared → Prop} {s : Shared} {env : Env} {h₀ : Heap} {target : Expr} {body : List Stmt} {Q : Flow → Shared → Prop}
end
end Mine
namespace Mine
open PySem PySem.W PyProof.Rows PySem.Spec PySem.Calls PyProof.Rows.LCg PyProof.Rows.LCt
section
variable {prog : Program} {w : World} {A : Around} {E : Value → Shared → Prop} {s : Shared} {h₀ : Heap} {L : Addr} {m : Str → Option Value} {env : Env}
noncomputable def SrcUT (prog : Program) (w : World) (A : Around) (h₀ : Heap) (L : Addr) (m : Str → Option Value) (env : Env) (ct elt : Expr) (x : Str) (scope : Scope) (cl : List (Str × Addr)) (Fin : Shared → List Value → List (Addr × Obj) → Prop) (xv : Value) (s₁ : Shared) : Prop :=
  CompSrcT prog w A h₀ L m env ct elt x scope cl Fin xv s₁
theorem SrcUT.ledger {ct elt : Expr} {x : Str} {scope : Scope} {cl : List (Str × Addr)} {Fin : Shared → List Value → List (Addr × Obj) → Prop} {ax : Addr} {its : Array Value} {k : Nat} {news : List (Addr × Obj)} {s₁ : Shared}
    (hh : A.handled = none) (F : Fr h₀ L s₁.heap m) (N : News h₀ L s₁.heap news) (hm : (ax, ({ cls := .type "list", data := .seq its k } : Obj)) ∈ news) (hsz : its.size ≤ sizeLine)
    (h : ∀ g, CompRestT prog w A h₀ L m env ct elt x scope cl { s₁ with heap := g } (SrcAt h₀ ax its) (fun i v => its[i]? = some v) (Fin { s₁ with heap := g }) its.size 0 [] news) :
    SrcUT prog w A h₀ L m env ct elt x scope cl Fin (.ref ax) s₁ := CompSrcT.ledger hh F N hm hsz h
theorem rest_filter {ct elt : Expr} {x : Str} {scope : Scope} {cl : List (Str × Addr)} {S : List (Addr × Obj) → Prop} {Fin : List Value → List (Addr × Obj) → Prop} {vs : List Value} {ds : List Dat} {news n₁ : List (Addr × Obj)}
    (f : Dat → Bool) (hD : DatAll n₁ vs ds) (hS : S news)
    (turn : ∀ d v ys I oI C oC D m₂ h tk (E' : Value → Shared → Prop), d ∈ ds → DatIn n₁ v d → NsObj oC m₂ → m₂ x = some v → Fr h₀ L h m → News h₀ L h ((I, oI) :: (C, oC) :: (D, lst ys) :: news) → Off3 I C D news → ((@Ne Nat I C) ∧ (@Ne Nat I D) ∧ (@Ne Nat C D)) →
      wpAny (model prog w) A (isTrue ct (compEnvC scope cl C env) (eval ct (compEnvC scope cl C env))) (fun ok s' => if ok = true then
        wpAny (model prog w) A (eval elt (compEnvC scope cl C env)) (CompTurn h₀ L m { s with heap := h, toks := tk } I oI C oC D (lst ys) (fun _ => True) (fun y nw' => nw' = news ∧ y = v ∧ f d = true)) E' s'
        else CompTurn h₀ L m { s with heap := h, toks := tk } I oI C oC D (lst ys) (fun _ => True) (fun _ nw' => nw' = news ∧ f d = false) Value.none s') E' { s with heap := h, toks := tk })
    (fin : ∀ ys, DatAll n₁ ys (ds.filter f) → Fin ys news) : CompRestT prog w A h₀ L m env ct elt x scope cl s S (fun i v => vs.toArray[i]? = some v) Fin vs.toArray.size 0 [] news := by
  have hl := hD.length
  refine restT_inv (fun i ys nw => nw = news ∧ DatAll n₁ ys ((ds.take i).filter f)) ⟨rfl, .nil⟩ ?_ ?_
  · rintro i ys nw v I oI C oC D m₂ h tk E' hlt ⟨rfl, hb⟩ hv hC hx F N off ne
    obtain ⟨d, hd, hm, hI⟩ := dat_at hD (i := i) (by simpa using hv)
    have ht : ds.take (i + 1) = ds.take i ++ [d] := by simp [List.take_add_one, hd]
    refine wpAny_mono (turn d v ys I oI C oC D m₂ h tk E' hm hI hC hx F N off ne) (fun ok s₂ hq => ?_) fun _ _ e => e
    cases ok with
    | true =>
      simp only [if_true] at hq ⊢
      refine wpAny_mono hq (fun y s₃ hq => ?_) fun _ _ e => e
      obtain ⟨h', tk', nw', e, F', N', off', _, hn, hy, hf⟩ := hq
      subst hn hy
      refine ⟨h', tk', _, e, F', N', off', hS, rfl, ?_⟩
      rw [ht, List.filter_append]
      simp only [List.filter_cons, hf, if_true, List.filter_nil]
      exact hb.append (.cons hI .nil)
    | false =>
      simp only [Bool.false_eq_true, if_false] at hq ⊢
      obtain ⟨h', tk', nw', e, F', N', off', _, hn, hf⟩ := hq
      subst hn
      refine ⟨h', tk', _, e, F', N', off', hS, rfl, ?_⟩
      rw [ht, List.filter_append]
      simp only [List.filter_cons, hf, Bool.false_eq_true, if_false, List.filter_nil, List.append_nil]
      exact hb
  · rintro ys nw ⟨rfl, hb⟩
    rw [List.size_toArray, hl, List.take_length] at hb
    exact fin ys hb
end
end Mine
namespace Mine
open PySem PySem.W PyProof.Rows
end Mine
namespace Mine
open PySem PySem.W PyProof.Rows
end Mine
namespace Mine
open PySem PySem.W PyProof.Rows
end Mine
namespace Mine
open PySem PySem.W PyProof.Rows
theorem len_led {prog : Program} {w : World} {A : Around} {E : Value → Shared → Prop} {s : Shared} {h₀ : Heap} {L l : Addr} {news : List (Addr × Obj)} {vs : List Value} {e k : Nat} {Q : Value → Shared → Prop} (N : News h₀ L s.heap news) (hm : (l, ({ cls := .type "list", data := .seq vs.toArray e } : Obj)) ∈ news) (hl : vs.length = k) (hk : k ≤ 1000)
    (h : Q (.int (k : Int) (s.toks + 1)) { s with toks := s.toks + 1 + 1 }) : wpAny (model prog w) A (call (.builtin "len") [.ref l]) Q E s := by
  have hI : s.heap.IsList l vs.toArray := ⟨_, (N _ hm).1, rfl, e, rfl⟩
  have ez : (List.toArray vs).size = k := by rw [List.size_toArray]; exact hl
  exact Calls.call_len_list hI (by rw [ez]; omega) (by rw [ez]; exact h)
end Mine
namespace Mine
open PySem PySem.W PyProof.Rows
end Mine
namespace Mine
open PySem PySem.W PyProof.Rows PyProof.Rows.LCg
theorem strs_snoc {y : Str} {t : Tok} : ∀ {vs : List Value} {ys : List Str}, StrsAre vs ys → StrsAre (vs ++ [.str y t]) (ys ++ [y])
  | _, _, .nil => .cons y t .nil
  | _, _, .cons z u r => .cons z u (strs_snoc r)
theorem rest_texts {prog : Program} {w : World} {A : Around} {s : Shared} {h₀ : Heap} {L : Addr} {m : Str → Option Value} {env : Env} {elt : Expr} {x : Str} {scope : Scope} {cl : List (Str × Addr)} {S : List (Addr × Obj) → Prop} {Fin : List Value → List (Addr × Obj) → Prop} {vs : List Value} {ds : List Dat} {news n₁ : List (Addr × Obj)}
    (f : Dat → Str) (hD : DatAll n₁ vs ds) (hS : S news)
    (turn : ∀ d v ys I oI C oC D m₂ h tk (E' : Value → Shared → Prop), d ∈ ds → DatIn n₁ v d → NsObj oC m₂ → m₂ x = some v → Fr h₀ L h m → News h₀ L h ((I, oI) :: (C, oC) :: (D, lst ys) :: news) → Off3 I C D news → ((@Ne Nat I C) ∧ (@Ne Nat I D) ∧ (@Ne Nat C D)) →
      wpAny (model prog w) A (eval elt (compEnvC scope cl C env)) (CompTurn h₀ L m { s with heap := h, toks := tk } I oI C oC D (lst ys) (fun _ => True) (fun y nw' => nw' = news ∧ ∃ t, y = .str (f d) t)) E' { s with heap := h, toks := tk })
    (fin : ∀ ys, StrsAre ys (ds.map f) → Fin ys news) : CompRest prog w A h₀ L m env elt x scope cl s S (fun i v => vs.toArray[i]? = some v) Fin vs.toArray.size 0 [] news := by
  have hl := hD.length
  refine rest_inv (fun i ys nw => nw = news ∧ StrsAre ys ((ds.take i).map f)) ⟨rfl, .nil⟩ ?_ ?_
  · rintro i ys nw v I oI C oC D m₂ h tk E' hlt ⟨rfl, hb⟩ hv hC hx F N off ne
    obtain ⟨d, hd, hm, hI⟩ := dat_at hD (i := i) (by simpa using hv)
    refine wpAny_mono (turn d v ys I oI C oC D m₂ h tk E' hm hI hC hx F N off ne) (fun y s₂ hq => ?_) fun _ _ e => e
    obtain ⟨h', tk', nw', e, F', N', off', _, hn, t, hy⟩ := hq
    subst hn hy
    refine ⟨h', tk', _, e, F', N', off', hS, rfl, ?_⟩
    rw [show ds.take (i + 1) = ds.take i ++ [d] by simp [List.take_add_one, hd], List.map_append]
    exact strs_snoc hb
  · rintro ys nw ⟨rfl, hb⟩
    rw [List.size_toArray, hl, List.take_length] at hb
    exact fin ys hb
end Mine
namespace Mine
open PySem PySem.W PyProof.Rows PyProof.Rows.LCg
end Mine
namespace Mine
open PySem PySem.W PyProof.Rows PyProof.Rows.LCg
theorem letter_kqd {d : Dat} (h : LetterOk d) : kqdOk 8 d = true := by
  obtain ⟨x, se, ba, lo, hi, rfl, hx, _, _⟩ := h
  simp only [kqdOk, List.all_cons, List.all_nil, Bool.and_true]
  exact hx.2
end Mine
namespace Mine
open PySem PySem.W PyProof.Rows PyProof.Rows.LCg
theorem rest_made {prog : Program} {w : World} {A : Around} {s : Shared} {h₀ : Heap} {L : Addr} {m : Str → Option Value} {env : Env} {elt : Expr} {x : Str} {scope : Scope} {cl : List (Str × Addr)} {S : List (Addr × Obj) → Prop} {P : Nat → Value → Prop} {Fin : List Value → List (Addr × Obj) → Prop} {n : Nat} {news : List (Addr × Obj)}
    (V : Nat → Dat → Prop) (hS : ∀ nw, (∀ p ∈ news, p ∈ nw) → S nw)
    (turn : ∀ i v ys nw I oI C oC D m₂ h tk (E' : Value → Shared → Prop), i < n → P i v → (∀ p ∈ news, p ∈ nw) → NsObj oC m₂ → m₂ x = some v → Fr h₀ L h m → News h₀ L h ((I, oI) :: (C, oC) :: (D, lst ys) :: nw) → Off3 I C D nw → ((@Ne Nat I C) ∧ (@Ne Nat I D) ∧ (@Ne Nat C D)) →
      wpAny (model prog w) A (eval elt (compEnvC scope cl C env)) (CompTurn h₀ L m { s with heap := h, toks := tk } I oI C oC D (lst ys) (fun _ => True) (fun y nw' => ∃ add, nw' = add ++ nw ∧ (∀ p ∈ add, ∀ q ∈ nw, q.1 ≠ p.1) ∧ ∃ d, DatIn add y d ∧ V i d)) E' { s with heap := h, toks := tk })
    (fin : ∀ ys add ds, (∀ p ∈ add, ∀ q ∈ news, q.1 ≠ p.1) → DatAll add ys ds → ds.length = n → (∀ d ∈ ds, ∃ i, V i d) → Fin ys (add ++ news)) : CompRest prog w A h₀ L m env elt x scope cl s S P Fin n 0 [] news := by
  refine rest_inv (fun i ys nw => ∃ add, nw = add ++ news ∧ (∀ p ∈ add, ∀ q ∈ news, q.1 ≠ p.1) ∧ ∃ ds, DatAll add ys ds ∧ ds.length = i ∧ ∀ d ∈ ds, ∃ i, V i d) ⟨[], rfl, (fun _ h => nomatch h), [], .nil, rfl, fun _ h => nomatch h⟩ ?_ ?_
  · rintro i ys nw v I oI C oC D m₂ h tk E' hi ⟨add, rfl, hap, ds, hD, hl, hb⟩ hv hC hx F N off ne
    refine wpAny_mono (turn i v ys _ I oI C oC D m₂ h tk E' hi hv (fun p hp => List.mem_append.mpr (.inr hp)) hC hx F N off ne) (fun y s₂ hq => ?_) fun _ _ e => e
    obtain ⟨h', tk', nw', e, F', N', off', _, ad, rfl, hn, d, hd, hV⟩ := hq
    refine ⟨h', tk', _, e, F', N', off', hS _ fun p hp => List.mem_append.mpr (.inr (List.mem_append.mpr (.inr hp))), ad ++ add, (List.append_assoc ..).symm, fun p hp q hq => ?_, ds ++ [d], (hD.mono fun p hp => List.mem_append.mpr (.inr hp)).append (.cons (hd.mono fun p hp => List.mem_append.mpr (.inl hp)) .nil), by rw [List.length_append, List.length_singleton, hl], fun u hu => ?_⟩
    · rcases List.mem_append.mp hp with hp | hp
      · exact hn p hp q (List.mem_append.mpr (.inr hq))
      · exact hap p hp q hq
    · rcases List.mem_append.mp hu with hu | hu
      · exact hb u hu
      · rw [List.mem_singleton.mp hu]; exact ⟨i, hV⟩
  · rintro ys nw ⟨add, rfl, hap, ds, hD, hl, hb⟩
    exact fin ys add ds hap hD hl hb
theorem turn_new {h₀ h' : Heap} {L I C D : Addr} {m : Str → Option Value} {s₁ : Shared} {oI oC oD : Obj} {tk : Nat} {add nw : List (Addr × Obj)} {y : Value} {V : Dat → Prop}
    (F : Fr h₀ L h' m) (N : News h₀ L h' (add ++ (I, oI) :: (C, oC) :: (D, oD) :: nw)) (off : Off3 I C D nw) (hn : ∀ p ∈ add, ∀ q ∈ (I, oI) :: (C, oC) :: (D, oD) :: nw, q.1 ≠ p.1) (hd : ∃ d, DatIn add y d ∧ V d) :
    CompTurn h₀ L m s₁ I oI C oC D oD (fun _ => True) (fun y nw' => ∃ add, nw' = add ++ nw ∧ (∀ p ∈ add, ∀ q ∈ nw, q.1 ≠ p.1) ∧ ∃ d, DatIn add y d ∧ V d) y { s₁ with heap := h', toks := tk } :=
  CompTurn.intro F N (add ++ nw) sub_three (off_three off hn) trivial ⟨add, rfl, fun p hp q hq => hn p hp q (.tail _ (.tail _ (.tail _ hq))), hd⟩
theorem made_ret {h₀ h : Heap} {L : Addr} {m : Str → Option Value} {news add cells : List (Addr × Obj)} {s : Shared} {Q : Value → Shared → Prop} {tk' : Nat} {D : Addr} {ys : List Value} {Out : Value → List (Addr × Obj) → Prop}
    (hret : ∀ (r : Value) (add : List (Addr × Obj)) (h' : Heap) (tk' : Nat), Out r add → (∀ p ∈ add, ∀ q ∈ news, q.1 ≠ p.1) → Fr h₀ L h' m → News h₀ L h' (add ++ news) → Q r { s with heap := h', toks := tk' })
    (F : Fr h₀ L h m) (N : News h₀ L h ((D, lst ys) :: (add ++ cells))) (hs : ∀ p ∈ news, p ∈ cells) (hap : ∀ p ∈ add, ∀ q ∈ cells, q.1 ≠ p.1) (off : Off1 D (add ++ cells)) (ho : Out (.ref D) ((D, lst ys) :: add)) : Q (.ref D) { s with heap := h, toks := tk' } := by
  refine hret _ _ _ _ ho (fun p hp q hq => ?_) F fun p hp => ?_
  · rcases List.mem_cons.mp hp with rfl | hp
    · exact off1_mem off q (List.mem_append.mpr (.inr (hs q hq)))
    · exact hap p hp q (hs q hq)
  · rcases List.mem_append.mp hp with hp | hp
    · rcases List.mem_cons.mp hp with rfl | hp
      · exact N _ (.head _)
      · exact N p (.tail _ (List.mem_append.mpr (.inl hp)))
    · exact N p (.tail _ (List.mem_append.mpr (.inr (hs p hp))))
end Mine
namespace Mine
open PySem PySem.W PyProof.Rows
noncomputable def backD : Dat → Int
  | .tuple [_, _, .int b, _, _] => b
  | _ => 0
noncomputable def NowOk (ds : List Dat) (n : Int) : Prop := (0 ≤ n ∧ n ≤ 3000000000000) ∧ ∀ d ∈ ds, backD d ≤ n
noncomputable def NowUp (pre : List Dat) (c : Int × Tok) : Prop := (0 ≤ c.1 ∧ c.1 ≤ 2000000000500) ∧ ∀ d ∈ pre, backD d ≤ c.1
theorem now_nil {x : Int} {t : Tok} (h : 0 ≤ x ∧ x < 500) : NowUp [] (x, t) := ⟨⟨h.1, by have := h.2; dsimp only; omega⟩, fun _ h => nomatch h⟩
theorem now_more {pre : List Dat} {d : Dat} {c : Int × Tok} {x : Int} {t : Tok} (h : NowUp pre c) (hx : c.1 ≤ x) (hd : backD d ≤ x) (hb : x ≤ 2000000000500) : NowUp (pre ++ [d]) (x, t) := by
  refine ⟨⟨Int.le_trans h.1.1 hx, hb⟩, fun e he => ?_⟩
  rcases List.mem_append.mp he with he | he
  · exact Int.le_trans (h.2 e he) hx
  · rw [List.mem_singleton.mp he]; exact hd
theorem now_end {ds : List Dat} {c : Int × Tok} {y : Int} (h : NowUp ds c) (h0 : 0 ≤ y) (h1 : y ≤ 3000) : NowOk ds (c.1 + y) := by
  obtain ⟨⟨a, b⟩, q⟩ := h
  exact ⟨⟨by omega, by omega⟩, fun d hd => by have := q d hd; omega⟩
end Mine
namespace Mine
open PySem PySem.W PyProof.Rows
theorem one_ret {h₀ h' : Heap} {L : Addr} {m : Str → Option Value} {news rest : List (Addr × Obj)} {s : Shared} {Q : Value → Shared → Prop} {tk' : Nat} {D : Addr} {o : Obj} {Out : Value → List (Addr × Obj) → Prop}
    (hret : ∀ (r : Value) (add : List (Addr × Obj)) (h' : Heap) (tk' : Nat), Out r add → (∀ p ∈ add, ∀ q ∈ news, q.1 ≠ p.1) → Fr h₀ L h' m → News h₀ L h' (add ++ news) → Q r { s with heap := h', toks := tk' })
    (N : News h₀ L h' ((D, o) :: rest)) (F : Fr h₀ L h' m) (sub : ∀ p ∈ news, p ∈ rest) (lt : AllLt D news) (ho : Out (.ref D) [(D, o)]) : Q (.ref D) { s with heap := h', toks := tk' } := by
  refine hret (.ref D) [(D, o)] h' tk' ho (fun p hp q hq => ?_) F fun p hp => ?_
  · rw [List.mem_singleton.mp hp]
    exact Nat.ne_of_lt (allLt_mem lt q hq)
  · rcases List.mem_append.mp hp with hp | hp
    · rw [List.mem_singleton.mp hp]; exact N _ (.head _)
    · exact N p (.tail _ (sub p hp))
noncomputable def PairNew (a b : Int) (r : Value) (add : List (Addr × Obj)) : Prop := ∃ D t u c, r = .ref D ∧ add = [(D, ({ cls := .type "tuple", data := .seq #[.int a t, .int b u] c } : Obj))]
theorem pair_new {a b x y : Int} {D : Addr} {t u : Tok} {c : Nat} (e1 : x = a) (e2 : y = b) : PairNew a b (.ref D) [(D, ({ cls := .type "tuple", data := .seq #[.int x t, .int y u] c } : Obj))] := by
  subst e1 e2
  exact ⟨D, t, u, c, rfl, rfl⟩
end Mine
namespace Mine
open PySem PySem.W PyProof.Rows
theorem cell_shift {ns : List Int} (hl : PyData.layable0 (.list (ns.map .int)) = true) (k : Nat) {i : Int} (h0 : 0 ≤ i) (h1 : i < 201) : CellOk (ns.getD k 0 + 31 * i) ∧ True := by
  refine ⟨?_, trivial⟩
  have hb : Builtin.Int.intBits (ns.getD k 0) ≤ 1048576 := by
    by_cases h : k < ns.length
    · rw [getD_at h]; exact intBits_le_of_item (List.getElem_mem h) hl
    · rw [getD_out (by omega)]; decide
  exact cellOk_of (intBits_add_le hb (intBits_le_64 (k := 31 * i) (by omega) (by omega))) (by decide)
end Mine
namespace Mine
open PySem PySem.W PyProof.Rows
theorem ct_retB {h₀ h' : Heap} {L : Addr} {m : Str → Option Value} {news : List (Addr × Obj)} {s : Shared} {Q : Value → Shared → Prop} {tk' : Nat} {P : Prop} {x y : Bool}
    (hret : ∀ (t : Tok) (h' : Heap) (tk' : Nat), P → Fr h₀ L h' m → News h₀ L h' news → Q (.bool x) { s with heap := h', toks := tk' }) (hP : P) (e : y = x) (F : Fr h₀ L h' m) (N : News h₀ L h' news) : Q (.bool y) { s with heap := h', toks := tk' } := by
  subst e
  exact hret 0 h' tk' hP F N
end Mine
namespace Mine4
abbrev St := Int × Int
noncomputable def shared (a : Option St) (b : St) : Option St := match a with
  | none => none
  | some a => if max a.1 b.1 > min a.2 b.2 then none else some (max a.1 b.1, min a.2 b.2)
noncomputable def maxL : List St → Int
  | [] => 0
  | [s] => s.1
  | s :: t :: r => max s.1 (maxL (t :: r))
noncomputable def minH : List St → Int
  | [] => 0
  | [s] => s.2
  | s :: t :: r => min s.2 (minH (t :: r))
noncomputable def meet (l : List St) : Option St := if maxL l ≤ minH l then some (maxL l, minH l) else none
theorem maxL_append (l : List St) (h : l ≠ []) (s : St) : maxL (l ++ [s]) = max (maxL l) s.1 := by
  induction l with
  | nil => exact absurd rfl h
  | cons t r ih =>
    cases r with
    | nil => rfl
    | cons u r =>
      have := ih (by simp)
      simp only [List.cons_append, maxL] at this ⊢
      rw [this]; omega
theorem minH_append (l : List St) (h : l ≠ []) (s : St) : minH (l ++ [s]) = min (minH l) s.2 := by
  induction l with
  | nil => exact absurd rfl h
  | cons t r ih =>
    cases r with
    | nil => rfl
    | cons u r =>
      have := ih (by simp)
      simp only [List.cons_append, minH] at this ⊢
      rw [this]; omega
theorem shared_meet (l : List St) (h : l ≠ []) (s : St) : shared (meet l) s = meet (l ++ [s]) := by
  unfold meet
  rw [maxL_append l h, minH_append l h]
  by_cases h1 : maxL l ≤ minH l
  · rw [if_pos h1]
    unfold shared
    dsimp only
    split
    · rw [if_neg (by omega)]
    · rw [if_pos (by omega)]
  · rw [if_neg h1]
    unfold shared
    rw [if_neg (by omega)]
theorem meet_one (s : St) (h : s.1 ≤ s.2) : meet [s] = some s := by
  unfold meet maxL minH
  rw [if_pos h]
section
variable {N : Type} [DecidableEq N]
noncomputable def firsts (l : List N) : List N := l.foldl (fun a n => if n ∈ a then a else a ++ [n]) []
theorem firsts_snoc (l : List N) (n : N) : firsts (l ++ [n]) = if n ∈ firsts l then firsts l else firsts l ++ [n] := by
  unfold firsts; rw [List.foldl_append]; rfl
theorem mem_firsts_go (l : List N) : ∀ (a : List N) (n : N), n ∈ l.foldl (fun a n => if n ∈ a then a else a ++ [n]) a ↔ n ∈ a ∨ n ∈ l := by
  induction l with
  | nil => intro a n; simp
  | cons b l ih =>
    intro a n
    rw [List.foldl_cons, ih]
    by_cases hb : b ∈ a
    · rw [if_pos hb]
      simp only [List.mem_cons]
      constructor
      · rintro (h | h)
        · exact .inl h
        · exact .inr (.inr h)
      · rintro (h | rfl | h)
        · exact .inl h
        · exact .inl hb
        · exact .inr h
    · rw [if_neg hb]
      simp only [List.mem_append, List.mem_cons, List.not_mem_nil, or_false]
      constructor
      · rintro ((h | h) | h)
        · exact .inl h
        · exact .inr (.inl h)
        · exact .inr (.inr h)
      · rintro (h | h | h)
        · exact .inl (.inl h)
        · exact .inl (.inr h)
        · exact .inr h
theorem mem_firsts (l : List N) (n : N) : n ∈ firsts l ↔ n ∈ l := by
  unfold firsts; rw [mem_firsts_go]; simp
noncomputable def ofName (L : List (N × St)) (n : N) : List St := (L.filter (fun p => p.1 = n)).map (·.2)
theorem ofName_append (L : List (N × St)) (n : N) (p : N × St) : ofName (L ++ [p]) n = if p.1 = n then ofName L n ++ [p.2] else ofName L n := by
  unfold ofName
  rw [List.filter_append, List.map_append]
  by_cases h : p.1 = n
  · simp [h]
  · simp [h]
theorem ofName_ne (L : List (N × St)) (n : N) : ofName L n ≠ [] ↔ n ∈ L.map (·.1) := by
  unfold ofName
  constructor
  · intro h
    cases hf : L.filter (fun p => p.1 = n) with
    | nil => rw [hf] at h; exact absurd rfl h
    | cons p r =>
      have : p ∈ L.filter (fun p => p.1 = n) := by rw [hf]; exact List.mem_cons_self
      rw [List.mem_filter] at this
      exact List.mem_map.mpr ⟨p, this.1, by simpa using this.2⟩
  · intro h
    obtain ⟨p, hp, e⟩ := List.mem_map.mp h
    have : p ∈ L.filter (fun p => p.1 = n) := List.mem_filter.mpr ⟨hp, by simpa using e⟩
    intro hn
    rw [List.map_eq_nil_iff] at hn
    rw [hn] at this; cases this
theorem ofName_nil (L : List (N × St)) (n : N) (h : n ∉ L.map (·.1)) : ofName L n = [] := by
  cases hL : ofName L n with
  | nil => rfl
  | cons a r => exact absurd ((ofName_ne L n).mp (by rw [hL]; simp)) h
noncomputable def valAt {V : Type} (a : List (N × V)) (n : N) : Option V := (a.find? fun kv => kv.1 = n).map (·.2)
noncomputable def put {V : Type} (a : List (N × V)) (n : N) (v : V) : List (N × V) :=
  if a.any (fun kv => kv.1 = n) then a.map (fun kv => if kv.1 = n then (kv.1, v) else kv) else a ++ [(n, v)]
noncomputable def stepP (a : List (N × Option St)) (p : N × St) : List (N × Option St) :=
  match valAt a p.1 with
  | none => put a p.1 (some p.2)
  | some o => put a p.1 (shared o p.2)
noncomputable def spec (L : List (N × St)) : List (N × Option St) := (firsts (L.map (·.1))).map fun n => (n, meet (ofName L n))
theorem valAt_map {V : Type} (ns : List N) (f : N → V) (n : N) : valAt (ns.map fun n => (n, f n)) n = if n ∈ ns then some (f n) else none := by
  induction ns with
  | nil => rfl
  | cons a r ih =>
    unfold valAt at ih ⊢
    rw [List.map_cons, List.find?_cons]
    by_cases h : a = n
    · subst h
      simp
    · have h' : ¬ n = a := fun e => h e.symm
      simp only [h, decide_false]
      rw [ih]
      simp [h']
theorem any_map {V : Type} (ns : List N) (f : N → V) (n : N) : (ns.map fun n => (n, f n)).any (fun kv => kv.1 = n) = decide (n ∈ ns) := by
  induction ns with
  | nil => rfl
  | cons a r ih =>
    rw [List.map_cons, List.any_cons, ih]
    by_cases h : a = n
    · subst h; simp
    · have h' : ¬ n = a := fun e => h e.symm
      simp [h, h']
theorem stepP_spec (pre : List (N × St)) (p : N × St) (h : p.2.1 ≤ p.2.2) : stepP (spec pre) p = spec (pre ++ [p]) := by
  unfold stepP spec
  rw [valAt_map, List.map_append, List.map_cons, List.map_nil, firsts_snoc]
  by_cases hm : p.1 ∈ firsts (pre.map (·.1))
  · rw [if_pos hm, if_pos hm]
    dsimp only
    unfold put
    rw [any_map, if_pos (by simpa using hm), List.map_map]
    apply List.map_congr_left
    intro n hn
    simp only [Function.comp_apply]
    rw [ofName_append]
    by_cases e : p.1 = n
    · subst e
      rw [if_pos rfl, if_pos rfl, shared_meet _ ((ofName_ne pre p.1).mpr ((mem_firsts _ _).mp hm))]
    · rw [if_neg (fun q => e q.symm), if_neg e]
  · rw [if_neg hm, if_neg hm]
    dsimp only
    unfold put
    rw [any_map, if_neg (by simpa using hm), List.map_append, List.map_cons, List.map_nil]
    congr 1
    · apply List.map_congr_left
      intro n hn
      rw [ofName_append, if_neg]
      intro e
      rw [e] at hm
      exact hm hn
    · rw [ofName_append, if_pos rfl, ofName_nil _ _ (fun q => hm ((mem_firsts _ _).mpr q)), List.nil_append, meet_one _ h]
end
end Mine4
namespace Mine
open PySem PySem.W PyProof.Rows
noncomputable def OptNew (o : Option (Int × Int)) (r : Value) (add : List (Addr × Obj)) : Prop := (o = none ∧ r = .none ∧ add = []) ∨ ∃ a b, o = some (a, b) ∧ PairNew a b r add
theorem shared_no {a b c d : Int} (h : min b d < max a c) : OptNew (Mine4.shared (some (a, b)) (c, d)) .none [] := .inl ⟨by unfold Mine4.shared; exact if_pos h, rfl, rfl⟩
theorem shared_yes {a b c d x y : Int} {D : Addr} {t u : Tok} {k : Nat} (h : ¬ min b d < max a c) (e1 : x = max a c) (e2 : y = min b d) : OptNew (Mine4.shared (some (a, b)) (c, d)) (.ref D) [(D, ({ cls := .type "tuple", data := .seq #[.int x t, .int y u] k } : Obj))] :=
  .inr ⟨max a c, min b d, by unfold Mine4.shared; exact if_neg h, pair_new e1 e2⟩
theorem none_ret {h₀ h' : Heap} {L : Addr} {m : Str → Option Value} {news rest : List (Addr × Obj)} {s : Shared} {Q : Value → Shared → Prop} {tk' : Nat} {Out : Value → List (Addr × Obj) → Prop}
    (hret : ∀ (r : Value) (add : List (Addr × Obj)) (h' : Heap) (tk' : Nat), Out r add → (∀ p ∈ add, ∀ q ∈ news, q.1 ≠ p.1) → Fr h₀ L h' m → News h₀ L h' (add ++ news) → Q r { s with heap := h', toks := tk' })
    (N : News h₀ L h' rest) (F : Fr h₀ L h' m) (sub : ∀ p ∈ news, p ∈ rest) (ho : Out .none []) : Q .none { s with heap := h', toks := tk' } :=
  hret .none [] h' tk' ho (fun _ h => nomatch h) F fun p hp => N p (sub p hp)
end Mine
namespace Mine
open PySem PySem.W PyProof.Rows PySem.Spec PySem.Calls PyProof.Rows.LCg PyProof.Rows.LCt
section
variable {prog : Program} {w : World} {A : Around} {E : Value → Shared → Prop} {s : Shared} {h₀ : Heap} {L : Addr} {m : Str → Option Value} {env : Env} {K : Type} [DecidableEq K] {knd : KeyKind prog w K}
noncomputable def SrcDi (knd : KeyKind prog w K) (A : Around) (h₀ : Heap) (L : Addr) (m : Str → Option Value) (R : Shared → Addr → Obj → List (K × Value) → List (Addr × Obj) → Prop) (xv : Value) (s₁ : Shared) : Prop :=
  ∃ d o kvs news, xv = .ref d ∧ A.handled = none ∧ Fr h₀ L s₁.heap m ∧ News h₀ L s₁.heap news ∧ (d, o) ∈ news ∧ o.IsDictOf knd kvs ∧ (d == sysModules) = false ∧ kvs.length ≤ sizeLine ∧ ∀ s₂ : Shared, (∃ h, s₂ = { s₁ with heap := h }) → R s₂ d o kvs news
theorem SrcDi.intro {R : Shared → Addr → Obj → List (K × Value) → List (Addr × Obj) → Prop} {d : Addr} {o : Obj} {kvs : List (K × Value)} {s₁ : Shared} {news : List (Addr × Obj)} (hh : A.handled = none) (F : Fr h₀ L s₁.heap m) (N : News h₀ L s₁.heap news) (hm : (d, o) ∈ news) (hd : o.IsDictOf knd kvs) (lo : (d == sysModules) = false) (hsz : kvs.length ≤ sizeLine) (h : ∀ g, R { s₁ with heap := g } d o kvs news) : SrcDi knd A h₀ L m R (.ref d) s₁ :=
  ⟨d, o, kvs, news, rfl, hh, F, N, hm, hd, lo, hsz, fun _ ⟨g, e⟩ => e ▸ h g⟩
theorem ListComp_Di {elt iter : Expr} {x : Str} {px : Pos} {scope : Scope} {cl : List (Str × Addr)} {pos : Pos} {Q : Value → Shared → Prop} (knd : KeyKind prog w K) (_F₀ : Fr h₀ L s.heap m)
    (hclos : closureFor scope env = pure cl) (hcell : ∀ y ∈ scope.names, y.2 ≠ .cell) (hkind : scope.kind = .function)
    (hnames : ∀ y ∈ scope.names, y.2 = .local → scope.names.lookup y.1 = some .local) (hx : scope.names.lookup x = some .local)
    (h : wpAny (model prog w) A (eval iter env) (SrcDi knd A h₀ L m (fun s₂ d o kvs news => CompRest prog w A h₀ L m env elt x scope cl s₂ (fun nw => (d, o) ∈ nw) (fun i v => ∃ k y, kvs[i]? = some (k, y) ∧ knd.is k v = true) (FinE h₀ L m s₂ Q) kvs.length 0 [] news)) E s)
    (hs : ∀ x, foldedSetIterable iter env x = pure x := by intro _; rfl) :
    wpAny (model prog w) A (eval (.ListComp elt [⟨.Name x px, iter, [], 0⟩] scope pos) env) Q E s := by
  rw [eval_ListComp]
  refine wpAny_comprehension_free (use := none) rfl hs hclos hkind hnames (wpAny_mono h (fun xv s₁ h₁ => ?_) fun _ _ e => e)
  obtain ⟨d, o, kvs, news, rfl, hh, F, N, hm, ⟨es, ep, hx1, hx2, hx3, hx4, hx5⟩, lo, hsz, R⟩ := h₁
  have hat : s₁.heap.DictAt knd d kvs ep := ⟨o, es, (N _ hm).1, hx1, hx2, hx3, hx4, hx5⟩
  have hlt : d < s₁.heap.objs.size := hat.lt_size
  refine wpAny_pyIter_dict lo hat ?_
  have up : ∀ b o, s₁.heap.get? b = some o → (s₁.heap.push { cls := .type "dict_keyiterator", data := .fields #[.ref d, .int 0 0, .int kvs.length 0, .int ep 0] }).get? b = some o := fun b o e => Heap.get?_push_of_some _ e
  refine block_U (Walks.dictKeys (knd := knd) hh s₁.heap.objs.size d (Nat.ne_of_lt hlt) kvs ep) hsz (fun i h st => by obtain ⟨o, e, _⟩ := st.1; exact ⟨o, e⟩)
    (fun i h h' o' nw st e e' _ N' S' => ⟨by obtain ⟨o'', q, r⟩ := st.1; rw [e] at q; cases q; exact ⟨o', e', r⟩, ⟨o, es, (N' _ S').1, hx1, hx2, hx3, hx4, hx5⟩⟩)
    hcell hkind hx ⟨⟨_, Heap.get?_push_size _ rfl, rfl, rfl⟩, hat.push _⟩ (fun b hb => ?_)
    (F.keeps up) (N.grown up) (Nat.ne_of_lt F.ns.lt) (next_is_new F) (fun p hp => Nat.ne_of_lt (Heap.lt_size (N p hp).1)) hm (R _ ⟨_, rfl⟩) ?_
  · show b < (s₁.heap.push _).objs.size
    rw [Heap.size_push]
    rcases List.mem_cons.mp hb with rfl | hb
    · exact Nat.lt_succ_self _
    · rw [List.mem_singleton.mp hb]; exact Nat.lt_succ_of_lt hlt
  · intro D C h tk m' ys news' F' N' o1 hn hC₀ hD₀ hCL hDL hCD offC fin
    refine ⟨m', hn, fun h'' hs'' => fin D h'' tk (F'.change hs'' hCL hC₀) (fun p hp => ?_) o1⟩
    refine ⟨hs''.extBut _ _ ?_ (N' p hp).1, (N' p hp).2⟩
    rcases List.mem_cons.mp hp with rfl | hp
    · exact Ne.symm hCD
    · exact offC p hp
theorem rest_exact {elt : Expr} {x : Str} {scope : Scope} {cl : List (Str × Addr)} {S : List (Addr × Obj) → Prop} {P : Nat → Value → Prop} {Fin : List Value → List (Addr × Obj) → Prop} {n : Nat} {news : List (Addr × Obj)}
    (X : List (Addr × Obj)) (es : List Dat) (hn : es.length = n) (hS : ∀ nw, (∀ p ∈ news, p ∈ nw) → S nw)
    (turn : ∀ i d v ys nw I oI C oC D m₂ h tk (E' : Value → Shared → Prop), es[i]? = some d → P i v → (∀ p ∈ news, p ∈ nw) → NsObj oC m₂ → m₂ x = some v → Fr h₀ L h m → News h₀ L h ((I, oI) :: (C, oC) :: (D, lst ys) :: nw) → Off3 I C D nw → ((@Ne Nat I C) ∧ (@Ne Nat I D) ∧ (@Ne Nat C D)) →
      wpAny (model prog w) A (eval elt (compEnvC scope cl C env)) (CompTurn h₀ L m { s with heap := h, toks := tk } I oI C oC D (lst ys) (fun _ => True) (fun y nw' => ∃ add, nw' = add ++ nw ∧ (∀ p ∈ add, ∀ q ∈ nw, q.1 ≠ p.1) ∧ DatIn (add ++ X) y d)) E' { s with heap := h, toks := tk })
    (fin : ∀ ys add, (∀ p ∈ add, ∀ q ∈ news, q.1 ≠ p.1) → DatAll (add ++ X) ys es → Fin ys (add ++ news)) : CompRest prog w A h₀ L m env elt x scope cl s S P Fin n 0 [] news := by
  subst hn
  refine rest_inv (fun i ys nw => ∃ add, nw = add ++ news ∧ (∀ p ∈ add, ∀ q ∈ news, q.1 ≠ p.1) ∧ DatAll (add ++ X) ys (es.take i)) ⟨[], rfl, (fun _ h => nomatch h), .nil⟩ ?_ ?_
  · rintro i ys nw v I oI C oC D m₂ h tk E' hi ⟨add, rfl, hap, hD⟩ hv hC hx F N off ne
    have hd : es[i]? = some es[i] := List.getElem?_eq_getElem hi
    refine wpAny_mono (turn i es[i] v ys _ I oI C oC D m₂ h tk E' hd hv (fun p hp => List.mem_append.mpr (.inr hp)) hC hx F N off ne) (fun y s₂ hq => ?_) fun _ _ e => e
    obtain ⟨h', tk', nw', e, F', N', off', _, ad, rfl, hn, hd⟩ := hq
    refine ⟨h', tk', _, e, F', N', off', hS _ fun p hp => List.mem_append.mpr (.inr (List.mem_append.mpr (.inr hp))), ad ++ add, (List.append_assoc ..).symm, fun p hp q hq => ?_, ?_⟩
    · rcases List.mem_append.mp hp with hp | hp
      · exact hn p hp q (List.mem_append.mpr (.inr hq))
      · exact hap p hp q hq
    · rw [List.take_succ_eq_append_getElem hi, List.append_assoc]
      refine (hD.mono fun p hp => List.mem_append.mpr (.inr hp)).append (.cons (hd.mono fun p hp => ?_) .nil)
      rcases List.mem_append.mp hp with hp | hp
      · exact List.mem_append.mpr (.inl hp)
      · exact List.mem_append.mpr (.inr (List.mem_append.mpr (.inr hp)))
  · rintro ys nw ⟨add, rfl, hap, hD⟩
    rw [List.take_length] at hD
    exact fin ys add hap hD
theorem turn_exact {h' : Heap} {I C D : Addr} {s₁ : Shared} {oI oC oD : Obj} {tk : Nat} {add nw X : List (Addr × Obj)} {y : Value} {d : Dat}
    (F : Fr h₀ L h' m) (N : News h₀ L h' (add ++ (I, oI) :: (C, oC) :: (D, oD) :: nw)) (off : Off3 I C D nw) (hn : ∀ p ∈ add, ∀ q ∈ (I, oI) :: (C, oC) :: (D, oD) :: nw, q.1 ≠ p.1) (hd : DatIn (add ++ X) y d) :
    CompTurn h₀ L m s₁ I oI C oC D oD (fun _ => True) (fun y nw' => ∃ add, nw' = add ++ nw ∧ (∀ p ∈ add, ∀ q ∈ nw, q.1 ≠ p.1) ∧ DatIn (add ++ X) y d) y { s₁ with heap := h', toks := tk } :=
  CompTurn.intro F N (add ++ nw) sub_three (off_three off hn) trivial ⟨add, rfl, fun p hp q hq => hn p hp q (.tail _ (.tail _ (.tail _ hq))), hd⟩
end
noncomputable def optD : Option (Int × Int) → Dat
  | none => .none
  | some s => .tuple [.int s.1, .int s.2]
inductive KvIs (add : List (Addr × Obj)) : List (Str × Value) → List (Str × Option (Int × Int)) → Prop
  | nil : KvIs add [] []
  | cons {k : Str} {v : Value} {o : Option (Int × Int)} {r : List (Str × Value)} {T : List (Str × Option (Int × Int))} : DatIn add v (optD o) → KvIs add r T → KvIs add ((k, v) :: r) ((k, o) :: T)
theorem KvIs.mono {add add' : List (Addr × Obj)} (hs : ∀ p ∈ add, p ∈ add') : ∀ {kvs : List (Str × Value)} {T : List (Str × Option (Int × Int))}, KvIs add kvs T → KvIs add' kvs T
  | _, _, .nil => .nil
  | _, _, .cons h r => .cons (h.mono hs) (r.mono hs)
theorem KvIs.length {add : List (Addr × Obj)} : ∀ {kvs : List (Str × Value)} {T : List (Str × Option (Int × Int))}, KvIs add kvs T → kvs.length = T.length
  | _, _, .nil => rfl
  | _, _, .cons _ r => by rw [List.length_cons, List.length_cons, r.length]
theorem KvIs.at {add : List (Addr × Obj)} : ∀ {kvs : List (Str × Value)} {T : List (Str × Option (Int × Int))}, KvIs add kvs T → ∀ {i : Nat} {k : Str} {v : Value}, kvs[i]? = some (k, v) → ∃ o, T[i]? = some (k, o) ∧ DatIn add v (optD o)
  | _, _, .cons h _, 0, _, _, e => by cases e; exact ⟨_, rfl, h⟩
  | _, _, .cons _ r, i + 1, k, v, e => r.at (i := i) (by simpa using e)
theorem KvIs.none {add : List (Addr × Obj)} {k : Str} : ∀ {kvs : List (Str × Value)} {T : List (Str × Option (Int × Int))}, KvIs add kvs T → valueAt kvs k = none → Mine4.valAt T k = none
  | _, _, .nil, _ => rfl
  | _, _, .cons (k := k') (r := rr) _ r, e => by
    by_cases h : k' = k
    · subst h; simp [valueAt] at e
    · have e' : valueAt rr k = Option.none := by simpa [valueAt, h] using e
      have := r.none e'
      simpa [Mine4.valAt, h] using this
theorem KvIs.some {add : List (Addr × Obj)} {k : Str} {v : Value} : ∀ {kvs : List (Str × Value)} {T : List (Str × Option (Int × Int))}, KvIs add kvs T → valueAt kvs k = some v → ∃ o, Mine4.valAt T k = some o ∧ DatIn add v (optD o)
  | _, _, .nil, e => by cases e
  | _, _, .cons (k := k') (r := rr) hd r, e => by
    by_cases h : k' = k
    · subst h
      simp [valueAt] at e
      subst e
      exact ⟨_, by simp [Mine4.valAt], hd⟩
    · have e' : valueAt rr k = Option.some v := by simpa [valueAt, h] using e
      obtain ⟨o, h1, h2⟩ := r.some e'
      exact ⟨o, by simpa [Mine4.valAt, h] using h1, h2⟩
theorem KvIs.any {add : List (Addr × Obj)} {k : Str} : ∀ {kvs : List (Str × Value)} {T : List (Str × Option (Int × Int))}, KvIs add kvs T → kvs.any (fun kv => kv.1 = k) = T.any (fun kv => kv.1 = k)
  | _, _, .nil => rfl
  | _, _, .cons _ r => by rw [List.any_cons, List.any_cons, r.any]
theorem KvIs.map {add : List (Addr × Obj)} {k : Str} {v : Value} {o : Option (Int × Int)} (hv : DatIn add v (optD o)) : ∀ {kvs : List (Str × Value)} {T : List (Str × Option (Int × Int))}, KvIs add kvs T →
    KvIs add (kvs.map fun kv => if kv.1 = k then (kv.1, v) else kv) (T.map fun kv => if kv.1 = k then (kv.1, o) else kv)
  | _, _, .nil => .nil
  | _, _, .cons (k := k') hd r => by
    rw [List.map_cons, List.map_cons]
    by_cases h : k' = k
    · simp only [h, if_true]; exact .cons hv (r.map hv)
    · simp only [h, if_false]; exact .cons hd (r.map hv)
theorem KvIs.snoc {add : List (Addr × Obj)} {k : Str} {v : Value} {o : Option (Int × Int)} (hv : DatIn add v (optD o)) : ∀ {kvs : List (Str × Value)} {T : List (Str × Option (Int × Int))}, KvIs add kvs T → KvIs add (kvs ++ [(k, v)]) (T ++ [(k, o)])
  | _, _, .nil => .cons hv .nil
  | _, _, .cons hd r => .cons hd (r.snoc hv)
theorem KvIs.put {add : List (Addr × Obj)} {k : Str} {v : Value} {o : Option (Int × Int)} {kvs : List (Str × Value)} {T : List (Str × Option (Int × Int))} (h : KvIs add kvs T) (hv : DatIn add v (optD o)) : KvIs add (stored kvs k v) (Mine4.put T k o) := by
  unfold stored Mine4.put
  rw [h.any]
  by_cases e : (T.any fun kv => kv.1 = k) = true
  · rw [if_pos e, if_pos e]; exact h.map hv
  · rw [if_neg e, if_neg e]; exact h.snoc hv
end Mine
namespace Mine
open PySem PySem.W PyProof.Rows PySem.Spec PySem.Calls
noncomputable def letP (now o : Int) : Dat → Str × (Int × Int)
  | .tuple [.str x, .int se, .int ba, .int lo, .int hi] => (x, (lo + now - ba - sl (now - ba) o, hi + now - se + sl (now - se) o))
  | _ => (Str.ofString "", (0, 0))
noncomputable def letPs (now o : Int) (ds : List Dat) : List (Str × (Int × Int)) := ds.map (letP now o)
noncomputable def pairG (p : Str × Option (Int × Int)) : Dat := .tuple [.str p.1, optD p.2]
noncomputable def gathD (now o : Int) (ds : List Dat) : List Dat := (Mine4.spec (letPs now o ds)).map pairG
theorem sl_nonneg {p o : Int} (hp : 0 ≤ p) (ho : 0 ≤ o) : 0 ≤ sl p o := by
  unfold sl
  have := Int.mul_nonneg hp ho
  have := fdiv_lo (p * o + 999)
  omega
theorem letP_le {now o : Int} {d : Dat} (hd : LetterOk d) (hb : backD d ≤ now) (ho : 0 ≤ o) : (letP now o d).2.1 ≤ (letP now o d).2.2 := by
  obtain ⟨x, se, ba, lo, hi, rfl, _, h1, h2⟩ := hd
  have hb' : ba ≤ now := hb
  have s1 := sl_nonneg (p := now - ba) (o := o) (by omega) ho
  have s2 := sl_nonneg (p := now - se) (o := o) (by omega) ho
  show lo + now - ba - sl (now - ba) o ≤ hi + now - se + sl (now - se) o
  omega
theorem spec_next {L : List (Str × (Int × Int))} {i : Nat} {p : Str × (Int × Int)} (hi : L[i]? = some p) (h : p.2.1 ≤ p.2.2) : Mine4.spec (L.take (i + 1)) = Mine4.stepP (Mine4.spec (L.take i)) p := by
  obtain ⟨hlt, e⟩ := List.getElem?_eq_some_iff.mp hi
  rw [List.take_succ_eq_append_getElem hlt, e, Mine4.stepP_spec _ _ h]
theorem stepP_none {a : List (Str × Option (Int × Int))} {p : Str × (Int × Int)} (h : Mine4.valAt a p.1 = none) : Mine4.stepP a p = Mine4.put a p.1 (some p.2) := by unfold Mine4.stepP; rw [h]
theorem stepP_some {a : List (Str × Option (Int × Int))} {p : Str × (Int × Int)} {o : Option (Int × Int)} (h : Mine4.valAt a p.1 = some o) : Mine4.stepP a p = Mine4.put a p.1 (Mine4.shared o p.2) := by unfold Mine4.stepP; rw [h]
noncomputable def GInv (prog : Program) (w : World) (Df : Addr) (base : List (Addr × Obj)) (T : Nat → List (Str × Option (Int × Int))) (i : Nat) (_ : Unit) (nw : List (Addr × Obj)) : Prop :=
  ∃ od kvs add, nw = (Df, od) :: (add ++ base) ∧ (∀ p ∈ add, p.1 ≠ Df ∧ ∀ q ∈ base, q.1 ≠ p.1) ∧ od.IsDictOf (PySem.strKind prog w) kvs ∧ KvIs add kvs (T i)
theorem g_next {prog : Program} {w : World} {h₀ h' : Heap} {L I ax Df : Addr} {lo o od od' : Obj} {m₀ m' : Str → Option Value} {stored' : List Str} {base add ts all : List (Addr × Obj)} {T : Nat → List (Str × Option (Int × Int))} {i : Nat} {kvs : List (Str × Value)} {x : Str} {v : Value} {o9 : Option (Int × Int)} {s₁ : Shared} {tk : Nat} {Q : Flow → Shared → Prop}
    (F : Fr h₀ L h' m') (N : News h₀ L h' all) (hI : (I, o) ∈ all) (hD : (Df, od') ∈ all) (hts : ∀ p ∈ ts, p ∈ all) (hab : ∀ p ∈ add ++ base, p ∈ all)
    (hax : (ax, lo) ∈ base) (hne : ∀ p ∈ (Df, od) :: (add ++ base), p.1 ≠ I) (hap : ∀ p ∈ add, p.1 ≠ Df ∧ ∀ q ∈ base, q.1 ≠ p.1)
    (htp : ∀ p ∈ ts, ∀ q ∈ (I, o) :: (Df, od) :: (add ++ base), q.1 ≠ p.1)
    (hd : od'.IsDictOf (PySem.strKind prog w) (stored kvs x v)) (hk : KvIs add kvs (T i)) (hv : DatIn (ts ++ add) v (optD o9)) (hT : T (i + 1) = Mine4.put (T i) x o9)
    (hr : ∀ z, stored'.contains z = false → m' z = m₀ z) :
    LoopTurn h₀ L s₁ I o (Between (fun _ : Unit => []) stored' m₀ ax lo I (GInv prog w Df base T (i + 1))) Q .next { s₁ with heap := h', toks := tk } := by
  refine LoopTurn.next () ((Df, od') :: ((ts ++ add) ++ base)) F N hI (fun p hp => ?_) (.tail _ (List.mem_append.mpr (.inr hax))) (fun p hp => ?_) (List.forall_mem_nil _) (fun z _ hc => hr z hc) ⟨od', _, ts ++ add, rfl, fun p hp => ?_, hd, hT ▸ (hk.mono fun p hp => List.mem_append.mpr (.inr hp)).put hv⟩
  · rcases List.mem_cons.mp hp with rfl | hp
    · exact hD
    · rcases List.mem_append.mp hp with hp | hp
      · rcases List.mem_append.mp hp with hp | hp
        · exact hts p hp
        · exact hab p (List.mem_append.mpr (.inl hp))
      · exact hab p (List.mem_append.mpr (.inr hp))
  · rcases List.mem_cons.mp hp with rfl | hp
    · exact hne (Df, od) (.head _)
    · rcases List.mem_append.mp hp with hp | hp
      · rcases List.mem_append.mp hp with hp | hp
        · exact Ne.symm (htp p hp _ (.head _))
        · exact hne p (.tail _ (List.mem_append.mpr (.inl hp)))
      · exact hne p (.tail _ (List.mem_append.mpr (.inr hp)))
  · rcases List.mem_append.mp hp with hp | hp
    · exact ⟨Ne.symm (htp p hp _ (.tail _ (.head _))), fun q hq => htp p hp q (.tail _ (.tail _ (List.mem_append.mpr (.inr hq))))⟩
    · exact hap p hp
end Mine
namespace Mine
theorem firsts_len {N : Type} [DecidableEq N] : ∀ (l a : List N), (l.foldl (fun a n => if n ∈ a then a else a ++ [n]) a).length ≤ a.length + l.length
  | [], a => Nat.le_refl _
  | n :: l, a => by
    rw [List.foldl_cons]
    refine Nat.le_trans (firsts_len l _) ?_
    rw [List.length_cons]
    split
    · omega
    · rw [List.length_append, List.length_singleton]; omega
theorem spec_len {L : List (PySem.Str × (Int × Int))} : (Mine4.spec L).length ≤ L.length := by
  unfold Mine4.spec Mine4.firsts
  rw [List.length_map]
  have := firsts_len (L.map (·.1)) []
  simpa using this
theorem letPs_at {now o : Int} {ds : List PySem.W.Dat} {i : Nat} {d : PySem.W.Dat} (h : ds[i]? = some d) : (letPs now o ds)[i]? = some (letP now o d) := by
  unfold letPs; rw [List.getElem?_map, h]; rfl
theorem kv_len {add : List (PySem.Addr × PySem.Obj)} {kvs : List (PySem.Str × PySem.Value)} {now o : Int} {ds : List PySem.W.Dat} {i : Nat} (h : KvIs add kvs (Mine4.spec ((letPs now o ds).take i))) (hl : ds.length ≤ 200) : kvs.length ≤ 1000 := by
  rw [h.length]
  refine Nat.le_trans spec_len ?_
  rw [List.length_take]
  have : (letPs now o ds).length = ds.length := by unfold letPs; rw [List.length_map]
  omega
end Mine
namespace Mine
open PySem PySem.W PyProof.Rows
theorem g_cell {h₀ h : Heap} {L : Addr} {x c : Addr × Obj} {add news : List (Addr × Obj)} (_ : News h₀ L h (x :: (add ++ c :: news))) : c ∈ add ++ c :: news := List.mem_append.mpr (.inr (.head _))
theorem g_left {h₀ h : Heap} {L : Addr} {x c : Addr × Obj} {add news : List (Addr × Obj)} (_ : News h₀ L h (x :: (add ++ c :: news))) : ∀ p ∈ add, p ∈ add ++ c :: news := fun _ hp => List.mem_append.mpr (.inl hp)
theorem g_right {h₀ h : Heap} {L : Addr} {x c : Addr × Obj} {add news : List (Addr × Obj)} (_ : News h₀ L h (x :: (add ++ c :: news))) : ∀ p ∈ news, p ∈ add ++ c :: news := fun _ hp => List.mem_append.mpr (.inr (.tail _ hp))
theorem n_tail {h₀ h : Heap} {L : Addr} {x : Addr × Obj} {l : List (Addr × Obj)} (N : News h₀ L h (x :: l)) : News h₀ L h l := fun p hp => N p (.tail _ hp)
end Mine
namespace Mine
open PySem PySem.W PyProof.Rows
theorem g_one {h₀ h : Heap} {L : Addr} {x : Addr × Obj} {l : List (Addr × Obj)} (N : News h₀ L h ([x] ++ l)) : News h₀ L h (x :: l) := N
theorem g_none {h₀ h : Heap} {L : Addr} {l : List (Addr × Obj)} (N : News h₀ L h ([] ++ l)) : News h₀ L h l := N
end Mine
namespace Mine
open PySem PySem.W PyProof.Rows
theorem g_ne {P I D : Addr} {o o1 o2 : Obj} {l : List (Addr × Obj)} (h : ∀ p ∈ [(P, o)], ∀ q ∈ (I, o1) :: (D, o2) :: l, q.1 ≠ p.1) : @Ne Nat D P := h _ (.head _) _ (.tail _ (.head _))
theorem g_ne3 {P B I D : Addr} {o ob o1 o2 : Obj} {l : List (Addr × Obj)} (h : ∀ p ∈ [(P, o)], ∀ q ∈ (B, ob) :: (I, o1) :: (D, o2) :: l, q.1 ≠ p.1) : @Ne Nat D P := h _ (.head _) _ (.tail _ (.tail _ (.head _)))
end Mine
namespace Mine
open PySem PySem.W PyProof.Rows
theorem g_apart {Df : Addr} {c : Addr × Obj} {add news : List (Addr × Obj)} (hap : ∀ p ∈ add, p.1 ≠ Df ∧ ∀ q ∈ c :: news, q.1 ≠ p.1) (hc : c.1 < Df) (hl : ∀ p ∈ news, p.1 < Df) : ∀ p ∈ add ++ c :: news, p.1 ≠ Df := fun p hp => by
  rcases List.mem_append.mp hp with hp | hp
  · exact (hap p hp).1
  · rcases List.mem_cons.mp hp with rfl | hp
    · exact Nat.ne_of_lt hc
    · exact Nat.ne_of_lt (hl p hp)
end Mine
namespace Mine
open PySem PySem.W PyProof.Rows
theorem g_dat_none {l : List (Addr × Obj)} {o : Option (Int × Int)} (h : o = none) : DatIn l .none (optD o) := by subst h; exact .none
theorem g_dat_some {l : List (Addr × Obj)} {o : Option (Int × Int)} {a b : Int} {P : Addr} {t u : Tok} {c : Nat} (h : o = some (a, b)) (hm : (P, ({ cls := .type "tuple", data := .seq #[.int a t, .int b u] c } : Obj)) ∈ l) : DatIn l (.ref P) (optD o) := by
  subst h
  exact .tuple hm (.cons (.int _ _) (.cons (.int _ _) .nil))
end Mine
namespace Mine
open PySem PySem.W PyProof.Rows PyProof.Rows.LCg
theorem made_ret2 {h₀ h : Heap} {L : Addr} {m : Str → Option Value} {news add all : List (Addr × Obj)} {s : Shared} {Q : Value → Shared → Prop} {tk' : Nat} {D : Addr} {ys : List Value} {Out : Value → List (Addr × Obj) → Prop}
    (hret : ∀ (r : Value) (add : List (Addr × Obj)) (h' : Heap) (tk' : Nat), Out r add → (∀ p ∈ add, ∀ q ∈ news, q.1 ≠ p.1) → Fr h₀ L h' m → News h₀ L h' (add ++ news) → Q r { s with heap := h', toks := tk' })
    (F : Fr h₀ L h m) (N : News h₀ L h all) (hD : (D, lst ys) ∈ all) (ha : ∀ p ∈ add, p ∈ all) (hs : ∀ p ∈ news, p ∈ all) (hap : ∀ p ∈ add, ∀ q ∈ news, q.1 ≠ p.1) (off : ∀ q ∈ news, q.1 ≠ D) (ho : Out (.ref D) ((D, lst ys) :: add)) : Q (.ref D) { s with heap := h, toks := tk' } := by
  refine hret _ _ _ _ ho (fun p hp q hq => ?_) F fun p hp => ?_
  · rcases List.mem_cons.mp hp with rfl | hp
    · exact off q hq
    · exact hap p hp q hq
  · rcases List.mem_append.mp hp with hp | hp
    · rcases List.mem_cons.mp hp with rfl | hp
      · exact N _ hD
      · exact N p (ha p hp)
    · exact N p (hs p hp)
theorem gath_ret {h₀ h : Heap} {L : Addr} {m : Str → Option Value} {news add add8 : List (Addr × Obj)} {c : Addr × Obj} {s : Shared} {Q : Value → Shared → Prop} {tk' : Nat} {D Df : Addr} {od : Obj} {ys : List Value} {es : List Dat}
    (hret : ∀ (r : Value) (add : List (Addr × Obj)) (h' : Heap) (tk' : Nat), (fun r add => ∃ D ys e ad, r = Value.ref D ∧ add = (D, ({ cls := .type "list", data := .seq (List.toArray ys) e } : Obj)) :: ad ∧ (∀ p ∈ ad, p.1 ≠ D) ∧ DatAll ad ys es) r add → (∀ p ∈ add, ∀ q ∈ news, q.1 ≠ p.1) → Fr h₀ L h' m → News h₀ L h' (add ++ news) → Q r { s with heap := h', toks := tk' })
    (F : Fr h₀ L h m) (N : News h₀ L h ((D, lst ys) :: (add ++ (Df, od) :: (add8 ++ c :: news)))) (hap7 : ∀ p ∈ add, ∀ q ∈ (Df, od) :: (add8 ++ c :: news), q.1 ≠ p.1) (hap8 : ∀ p ∈ add8, p.1 ≠ Df ∧ ∀ q ∈ c :: news, q.1 ≠ p.1)
    (o7 : Off1 D (add ++ (Df, od) :: (add8 ++ c :: news))) (hD : DatAll (add ++ add8) ys es) : Q (.ref D) { s with heap := h, toks := tk' } := by
  have hin : ∀ q ∈ news, q ∈ add ++ (Df, od) :: (add8 ++ c :: news) := fun q hq => List.mem_append.mpr (.inr (.tail _ (List.mem_append.mpr (.inr (.tail _ hq)))))
  have hia : ∀ q ∈ add ++ add8, q ∈ add ++ (Df, od) :: (add8 ++ c :: news) := fun p hp => by
    rcases List.mem_append.mp hp with hp | hp
    · exact List.mem_append.mpr (.inl hp)
    · exact List.mem_append.mpr (.inr (.tail _ (List.mem_append.mpr (.inl hp))))
  refine made_ret2 (add := add ++ add8) hret F N (.head _) (fun p hp => .tail _ (hia p hp)) (fun p hp => .tail _ (hin p hp)) (fun p hp q hq => ?_) (fun q hq => off1_mem o7 q (hin q hq)) ⟨D, ys, _, add ++ add8, rfl, rfl, fun p hp => off1_mem o7 p (hia p hp), hD⟩
  rcases List.mem_append.mp hp with hp | hp
  · exact hap7 p hp q (.tail _ (List.mem_append.mpr (.inr (.tail _ hq))))
  · exact (hap8 p hp).2 q (.tail _ hq)
theorem gath_at {now o : Int} {ds : List Dat} {i : Nat} {d : Dat} {k : Str} {x : Option (Int × Int)} (h : (gathD now o ds)[i]? = some d) (hx : (Mine4.spec (letPs now o ds))[i]? = some (k, x)) : d = .tuple [.str k, optD x] := by
  unfold gathD at h
  rw [List.getElem?_map, hx] at h
  exact (Option.some.inj h).symm
theorem dict_nodup {prog : Program} {w : World} {o : Obj} {kvs : List (Str × Value)} (h : o.IsDictOf (PySem.strKind prog w) kvs) : (kvs.map (·.1)).Nodup := by
  obtain ⟨_, _, _, _, _, _, hn⟩ := h
  exact hn
theorem kv_all {add : List (Addr × Obj)} {kvs : List (Str × Value)} {now o : Int} {ds : List Dat} {ys : List Value} {nw : List (Addr × Obj)} (h : KvIs add kvs (Mine4.spec ((letPs now o ds).take ys.length))) (hD : DatAll nw ys ds) : KvIs add kvs (Mine4.spec (letPs now o ds)) := by
  have e : (letPs now o ds).take ys.length = letPs now o ds := by
    rw [List.take_of_length_le]
    unfold letPs
    rw [List.length_map, hD.length]
    exact Nat.le_refl _
  rwa [e] at h
theorem gath_len {add : List (Addr × Obj)} {kvs : List (Str × Value)} {now o : Int} {ds : List Dat} (h : KvIs add kvs (Mine4.spec (letPs now o ds))) : (gathD now o ds).length = kvs.length := by
  unfold gathD
  rw [List.length_map, h.length]
end Mine
namespace Mine
open PySem PySem.W PyProof.Rows PyProof.Rows.LCg
theorem turn_pair {h₀ h h' : Heap} {L : Addr} {m : Str → Option Value} {I C D : Addr} {s₁ : Shared} {o oI oC oD : Obj} {tk : Nat} {nw X : List (Addr × Obj)} {y : Value} {d : Dat}
    (N0 : ∀ q ∈ (I, oI) :: (C, oC) :: (D, oD) :: nw, q.1 < h.objs.size) (F : Fr h₀ L h' m) (N : News h₀ L h' ((h.objs.size, o) :: (I, oI) :: (C, oC) :: (D, oD) :: nw)) (off : Off3 I C D nw) (hd : DatIn ([(h.objs.size, o)] ++ X) y d) :
    CompTurn h₀ L m s₁ I oI C oC D oD (fun _ => True) (fun y nw' => ∃ add, nw' = add ++ nw ∧ (∀ p ∈ add, ∀ q ∈ nw, q.1 ≠ p.1) ∧ DatIn (add ++ X) y d) y { s₁ with heap := h', toks := tk } :=
  turn_exact (add := [(h.objs.size, o)]) F N off (fun p hp q hq => by rw [List.mem_singleton.mp hp]; exact Nat.ne_of_lt (N0 q hq)) hd
end Mine
namespace Mine
open PySem PySem.W PyProof.Rows PySem.Spec PySem.Calls
noncomputable def GInvE (prog : Program) (w : World) (Df : Addr) (base : List (Addr × Obj)) (T : Nat → List (Str × Option (Int × Int))) (P : Nat → Prop) (i : Nat) (c : Unit) (nw : List (Addr × Obj)) : Prop := P i ∧ GInv prog w Df base T i c nw
theorem g_nextE {prog : Program} {w : World} {h₀ h' : Heap} {L I ax Df : Addr} {lo o od od' : Obj} {m₀ m' : Str → Option Value} {stored' : List Str} {base add ts all : List (Addr × Obj)} {T : Nat → List (Str × Option (Int × Int))} {P : Nat → Prop} {i : Nat} {kvs : List (Str × Value)} {x : Str} {v : Value} {o9 : Option (Int × Int)} {s₁ : Shared} {tk : Nat} {Q : Flow → Shared → Prop}
    (hPi : P (i + 1)) (F : Fr h₀ L h' m') (N : News h₀ L h' all) (hI : (I, o) ∈ all) (hD : (Df, od') ∈ all) (hts : ∀ p ∈ ts, p ∈ all) (hab : ∀ p ∈ add ++ base, p ∈ all)
    (hax : (ax, lo) ∈ base) (hne : ∀ p ∈ (Df, od) :: (add ++ base), p.1 ≠ I) (hap : ∀ p ∈ add, p.1 ≠ Df ∧ ∀ q ∈ base, q.1 ≠ p.1)
    (htp : ∀ p ∈ ts, ∀ q ∈ (I, o) :: (Df, od) :: (add ++ base), q.1 ≠ p.1)
    (hd : od'.IsDictOf (PySem.strKind prog w) (stored kvs x v)) (hk : KvIs add kvs (T i)) (hv : DatIn (ts ++ add) v (optD o9)) (hT : T (i + 1) = Mine4.put (T i) x o9)
    (hr : ∀ z, stored'.contains z = false → m' z = m₀ z) :
    LoopTurn h₀ L s₁ I o (Between (fun _ : Unit => []) stored' m₀ ax lo I (GInvE prog w Df base T P (i + 1))) Q .next { s₁ with heap := h', toks := tk } := by
  obtain ⟨h1, t1, m1, n1, e1, F1, N1, o1, b1, b2, c1, b3, b4, b5⟩ := g_next (s₁ := s₁) (tk := tk) (Q := Q) F N hI hD hts hab hax hne hap htp hd hk hv hT hr
  exact ⟨h1, t1, m1, n1, e1, F1, N1, o1, b1, b2, c1, b3, b4, hPi, b5⟩
theorem take_more {ds : List Dat} {i : Nat} {d : Dat} {P : Dat → Prop} (h : ∀ d ∈ ds.take i, P d) (hd : ds[i]? = some d) (hp : P d) : ∀ d ∈ ds.take (i + 1), P d := by
  obtain ⟨hlt, e⟩ := List.getElem?_eq_some_iff.mp hd
  rw [List.take_succ_eq_append_getElem hlt, e]
  intro x hx
  rcases List.mem_append.mp hx with hx | hx
  · exact h x hx
  · rw [List.mem_singleton.mp hx]; exact hp
theorem take_all {ds : List Dat} {ys : List Value} {l : List (Addr × Obj)} {P : Dat → Prop} (hD : DatAll l ys ds) (h : ∀ d ∈ ds.take ys.length, P d) : ∀ d ∈ ds, P d := by
  rw [hD.length, List.take_length] at h
  exact h
end Mine
namespace Mine
open PySem PySem.W PyProof.Rows PySem.Spec PySem.Calls PyProof.Rows.LCg PyProof.Rows.LCt
section
variable {prog : Program} {w : World} {A : Around} {E : Value → Shared → Prop} {s : Shared} {h₀ : Heap} {L : Addr} {m : Str → Option Value} {env : Env}
theorem Assign_ListComp_VT {ct elt iter : Expr} {x y : Str} {px py : Pos} {scope : Scope} {cl : List (Str × Addr)} {pos spos : Pos} {Q : Flow → Shared → Prop} (F₀ : Fr h₀ L s.heap m) (hLe : env.locals = L)
    (hsw : swapsWith (.ListComp elt [⟨.Name x px, iter, [ct], 0⟩] scope pos) (some (.Name y py)) spos.line env = pure true)
    (hclos : closureFor scope env = pure cl) (hcell : ∀ z ∈ scope.names, z.2 ≠ .cell) (hkind : scope.kind = .function)
    (hnames : ∀ z ∈ scope.names, z.2 = .local → scope.names.lookup z.1 = some .local) (hx : scope.names.lookup x = some .local)
    (hy : env.kindOf y = some .local) (hp : (env.scope.kind == .class || (env.scope.kind == .module && env.locals != env.globals)) = false)
    (h : wpAny (model prog w) A (eval iter env) (SrcUT prog w A h₀ L m env ct elt x scope cl (fun s₂ => FinA h₀ L m s₂ y Q)) E s)
    (hs : ∀ x, foldedSetIterable iter env x = pure x := by intro _; rfl) :
    wpAny (model prog w) A (exec (.Assign [.Name y py] (.ListComp elt [⟨.Name x px, iter, [ct], 0⟩] scope pos) spos) env) Q E s := LCt.Assign_ListComp_T F₀ hLe hsw hclos hcell hkind hnames hx hy hp h hs
theorem rest_filterX {ct elt : Expr} {x : Str} {scope : Scope} {cl : List (Str × Addr)} {S : List (Addr × Obj) → Prop} {Fin : List Value → List (Addr × Obj) → Prop} {vs : List Value} {ds : List Dat} {news n₁ : List (Addr × Obj)}
    (f : Dat → Bool) (gd : Dat → Dat) (hD : DatAll n₁ vs ds) (hS : ∀ nw, (∀ p ∈ news, p ∈ nw) → S nw)
    (turn : ∀ d v ys nw I oI C oC D m₂ h tk (E' : Value → Shared → Prop), d ∈ ds → DatIn n₁ v d → (∀ p ∈ news, p ∈ nw) → NsObj oC m₂ → m₂ x = some v → Fr h₀ L h m → News h₀ L h ((I, oI) :: (C, oC) :: (D, lst ys) :: nw) → Off3 I C D nw → ((@Ne Nat I C) ∧ (@Ne Nat I D) ∧ (@Ne Nat C D)) →
      wpAny (model prog w) A (isTrue ct (compEnvC scope cl C env) (eval ct (compEnvC scope cl C env))) (fun ok s' => if ok = true then
        wpAny (model prog w) A (eval elt (compEnvC scope cl C env)) (CompTurn h₀ L m { s with heap := h, toks := tk } I oI C oC D (lst ys) (fun _ => True) (fun y nw' => f d = true ∧ ∃ add, nw' = add ++ nw ∧ (∀ p ∈ add, ∀ q ∈ nw, q.1 ≠ p.1) ∧ DatIn add y (gd d))) E' s'
        else CompTurn h₀ L m { s with heap := h, toks := tk } I oI C oC D (lst ys) (fun _ => True) (fun _ nw' => nw' = nw ∧ f d = false) Value.none s') E' { s with heap := h, toks := tk })
    (fin : ∀ ys add, (∀ p ∈ add, ∀ q ∈ news, q.1 ≠ p.1) → DatAll add ys ((ds.filter f).map gd) → Fin ys (add ++ news)) : CompRestT prog w A h₀ L m env ct elt x scope cl s S (fun i v => vs.toArray[i]? = some v) Fin vs.toArray.size 0 [] news := by
  have hl := hD.length
  refine restT_inv (fun i ys nw => ∃ add, nw = add ++ news ∧ (∀ p ∈ add, ∀ q ∈ news, q.1 ≠ p.1) ∧ DatAll add ys (((ds.take i).filter f).map gd)) ⟨[], rfl, (fun _ h => nomatch h), .nil⟩ ?_ ?_
  · rintro i ys nw v I oI C oC D m₂ h tk E' hlt ⟨add, rfl, hap, hb⟩ hv hC hx F N off ne
    obtain ⟨d, hd, hm, hI⟩ := dat_at hD (i := i) (by simpa using hv)
    have ht : ds.take (i + 1) = ds.take i ++ [d] := by simp [List.take_add_one, hd]
    refine wpAny_mono (turn d v ys _ I oI C oC D m₂ h tk E' hm hI (fun p hp => List.mem_append.mpr (.inr hp)) hC hx F N off ne) (fun ok s₂ hq => ?_) fun _ _ e => e
    cases ok with
    | true =>
      simp only [if_true] at hq ⊢
      refine wpAny_mono hq (fun y s₃ hq => ?_) fun _ _ e => e
      obtain ⟨h', tk', nw', e, F', N', off', _, hf, ad, rfl, hn, hd'⟩ := hq
      refine ⟨h', tk', _, e, F', N', off', hS _ fun p hp => List.mem_append.mpr (.inr (List.mem_append.mpr (.inr hp))), ad ++ add, (List.append_assoc ..).symm, fun p hp q hq => ?_, ?_⟩
      · rcases List.mem_append.mp hp with hp | hp
        · exact hn p hp q (List.mem_append.mpr (.inr hq))
        · exact hap p hp q hq
      · rw [ht, List.filter_append, List.map_append]
        simp only [List.filter_cons, hf, if_true, List.filter_nil, List.map_cons, List.map_nil]
        exact (hb.mono fun p hp => List.mem_append.mpr (.inr hp)).append (.cons (hd'.mono fun p hp => List.mem_append.mpr (.inl hp)) .nil)
    | false =>
      simp only [Bool.false_eq_true, if_false] at hq ⊢
      obtain ⟨h', tk', nw', e, F', N', off', _, hn, hf⟩ := hq
      subst hn
      refine ⟨h', tk', _, e, F', N', off', hS _ fun p hp => List.mem_append.mpr (.inr hp), add, rfl, hap, ?_⟩
      rw [ht, List.filter_append]
      simp only [List.filter_cons, hf, Bool.false_eq_true, if_false, List.filter_nil, List.append_nil]
      exact hb
  · rintro ys nw ⟨add, rfl, hap, hb⟩
    rw [List.size_toArray, hl, List.take_length] at hb
    exact fin ys add hap hb
theorem turn_yes {h' : Heap} {I C D : Addr} {s₁ : Shared} {oI oC oD : Obj} {tk : Nat} {add nw : List (Addr × Obj)} {y : Value} {d : Dat} {b : Prop}
    (F : Fr h₀ L h' m) (N : News h₀ L h' (add ++ (I, oI) :: (C, oC) :: (D, oD) :: nw)) (off : Off3 I C D nw) (hn : ∀ p ∈ add, ∀ q ∈ (I, oI) :: (C, oC) :: (D, oD) :: nw, q.1 ≠ p.1) (hf : b) (hd : DatIn add y d) :
    CompTurn h₀ L m s₁ I oI C oC D oD (fun _ => True) (fun y nw' => b ∧ ∃ add, nw' = add ++ nw ∧ (∀ p ∈ add, ∀ q ∈ nw, q.1 ≠ p.1) ∧ DatIn add y d) y { s₁ with heap := h', toks := tk } :=
  CompTurn.intro F N (add ++ nw) sub_three (off_three off hn) trivial ⟨hf, add, rfl, fun p hp q hq => hn p hp q (.tail _ (.tail _ (.tail _ hq))), hd⟩
theorem turn_no {h' : Heap} {I C D : Addr} {s₁ : Shared} {oI oC oD : Obj} {tk : Nat} {nw : List (Addr × Obj)} {b : Prop}
    (F : Fr h₀ L h' m) (N : News h₀ L h' ((I, oI) :: (C, oC) :: (D, oD) :: nw)) (off : Off3 I C D nw) (hf : b) :
    CompTurn h₀ L m s₁ I oI C oC D oD (fun _ => True) (fun _ nw' => nw' = nw ∧ b) Value.none { s₁ with heap := h', toks := tk } :=
  CompTurn.intro F N nw (fun _ h => h) off trivial ⟨rfl, hf⟩
end
noncomputable def nameD : Dat → Str
  | .tuple (.str x :: _) => x
  | _ => Str.ofString ""
noncomputable def gdD (now o : Int) (d : Dat) : Dat := .tuple [.int (letP now o d).2.1, .int (letP now o d).2.2]
noncomputable def fstD : Dat → Int
  | .tuple [.int a, _] => a
  | _ => 0
noncomputable def sndD : Dat → Int
  | .tuple [_, .int a] => a
  | _ => 0
theorem ofName_ds (now o : Int) (x : Str) : ∀ ds : List Dat, Mine4.ofName (letPs now o ds) x = (ds.filter fun d => decide ((letP now o d).1 = x)).map fun d => (letP now o d).2
  | [] => rfl
  | d :: ds => by
    have ih := ofName_ds now o x ds
    unfold Mine4.ofName letPs at ih ⊢
    rw [List.map_cons, List.filter_cons, List.filter_cons]
    by_cases h : (letP now o d).1 = x
    · simp only [h, decide_true, if_true, List.map_cons]; rw [ih]
    · simp only [h, decide_false, Bool.false_eq_true, if_false]; exact ih
theorem fst_ds (now o : Int) (x : Str) (ds : List Dat) : (((ds.filter fun d => decide ((letP now o d).1 = x)).map (gdD now o)).map fstD) = (Mine4.ofName (letPs now o ds) x).map (·.1) := by
  rw [ofName_ds, List.map_map, List.map_map]; rfl
theorem snd_ds (now o : Int) (x : Str) (ds : List Dat) : (((ds.filter fun d => decide ((letP now o d).1 = x)).map (gdD now o)).map sndD) = (Mine4.ofName (letPs now o ds) x).map (·.2) := by
  rw [ofName_ds, List.map_map, List.map_map]; rfl
theorem maxL_mem : ∀ {l : List (Int × Int)}, l ≠ [] → Mine4.maxL l ∈ l.map (·.1) ∧ ∀ a ∈ l.map (·.1), a ≤ Mine4.maxL l
  | [s], _ => ⟨by simp [Mine4.maxL], by simp [Mine4.maxL]⟩
  | s :: t :: r, _ => by
    obtain ⟨h1, h2⟩ := maxL_mem (l := t :: r) (by simp)
    constructor
    · show max s.1 (Mine4.maxL (t :: r)) ∈ _
      rcases Int.le_total s.1 (Mine4.maxL (t :: r)) with h | h
      · rw [Int.max_eq_right h]; exact .tail _ h1
      · rw [Int.max_eq_left h]; exact .head _
    · intro a ha
      show a ≤ max s.1 (Mine4.maxL (t :: r))
      rcases List.mem_cons.mp ha with rfl | ha
      · exact Int.le_max_left ..
      · exact Int.le_trans (h2 a ha) (Int.le_max_right ..)
theorem minH_mem : ∀ {l : List (Int × Int)}, l ≠ [] → Mine4.minH l ∈ l.map (·.2) ∧ ∀ a ∈ l.map (·.2), Mine4.minH l ≤ a
  | [s], _ => ⟨by simp [Mine4.minH], by simp [Mine4.minH]⟩
  | s :: t :: r, _ => by
    obtain ⟨h1, h2⟩ := minH_mem (l := t :: r) (by simp)
    constructor
    · show min s.2 (Mine4.minH (t :: r)) ∈ _
      rcases Int.le_total s.2 (Mine4.minH (t :: r)) with h | h
      · rw [Int.min_eq_left h]; exact .head _
      · rw [Int.min_eq_right h]; exact .tail _ h1
    · intro a ha
      show min s.2 (Mine4.minH (t :: r)) ≤ a
      rcases List.mem_cons.mp ha with rfl | ha
      · exact Int.min_le_left ..
      · exact Int.le_trans (Int.min_le_right ..) (h2 a ha)
theorem max_is {l : List (Int × Int)} {M : Int} (hn : l ≠ []) (h1 : M ∈ l.map (·.1)) (h2 : ∀ a, a ∈ l.map (·.1) → a ≤ M) : M = Mine4.maxL l := by
  obtain ⟨a, b⟩ := maxL_mem hn
  exact Int.le_antisymm (b M h1) (h2 _ a)
theorem min_is {l : List (Int × Int)} {M : Int} (hn : l ≠ []) (h1 : M ∈ l.map (·.2)) (h2 : ∀ a, a ∈ l.map (·.2) → M ≤ a) : M = Mine4.minH l := by
  obtain ⟨a, b⟩ := minH_mem hn
  exact Int.le_antisymm (h2 _ a) (b M h1)
noncomputable def TL (now o : Int) (ds : List Dat) (i : Nat) : List Dat := (Mine4.firsts ((ds.map nameD).take i)).map fun n => pairG (n, Mine4.meet (Mine4.ofName (letPs now o ds) n))
theorem TL_names (now o : Int) (ds : List Dat) (i : Nat) : (TL now o ds i).map nameD = Mine4.firsts ((ds.map nameD).take i) := by
  unfold TL
  rw [List.map_map]
  have : (nameD ∘ fun n => pairG (n, Mine4.meet (Mine4.ofName (letPs now o ds) n))) = id := rfl
  rw [this, List.map_id]
theorem TL_in {now o : Int} {ds : List Dat} {i : Nat} {x : Str} (h : (ds.map nameD)[i]? = some x) (hx : x ∈ Mine4.firsts ((ds.map nameD).take i)) : TL now o ds (i + 1) = TL now o ds i := by
  obtain ⟨hlt, e⟩ := List.getElem?_eq_some_iff.mp h
  unfold TL
  rw [List.take_succ_eq_append_getElem hlt, e, Mine4.firsts_snoc, if_pos hx]
theorem TL_new {now o : Int} {ds : List Dat} {i : Nat} {x : Str} (h : (ds.map nameD)[i]? = some x) (hx : x ∉ Mine4.firsts ((ds.map nameD).take i)) : TL now o ds (i + 1) = TL now o ds i ++ [pairG (x, Mine4.meet (Mine4.ofName (letPs now o ds) x))] := by
  obtain ⟨hlt, e⟩ := List.getElem?_eq_some_iff.mp h
  unfold TL
  rw [List.take_succ_eq_append_getElem hlt, e, Mine4.firsts_snoc, if_neg hx, List.map_append]; rfl
theorem letP_name {now o : Int} {d : Dat} (h : LetterOk d) : (letP now o d).1 = nameD d := by
  obtain ⟨x, se, ba, lo, hi, rfl, _⟩ := h; rfl
theorem TL_all {now o : Int} {ds : List Dat} (hok : ∀ d ∈ ds, LetterOk d) : TL now o ds ds.length = gathD now o ds := by
  have e : (letPs now o ds).map (·.1) = ds.map nameD := by
    unfold letPs
    rw [List.map_map]
    exact List.map_congr_left fun d hd => letP_name (hok d hd)
  unfold TL gathD Mine4.spec
  rw [List.take_of_length_le (by rw [List.length_map]; exact Nat.le_refl _), e, List.map_map]; rfl
theorem TL_len {now o : Int} {ds : List Dat} {i : Nat} : (TL now o ds i).length ≤ ds.length := by
  unfold TL Mine4.firsts
  rw [List.length_map]
  refine Nat.le_trans (firsts_len _ []) ?_
  rw [List.length_nil, List.length_take, List.length_map]; omega
theorem ofName_some {now o : Int} {ds : List Dat} {d : Dat} {x : Str} (hd : d ∈ ds) (h : (letP now o d).1 = x) : Mine4.ofName (letPs now o ds) x ≠ [] := by
  rw [Mine4.ofName_ne]
  exact List.mem_map.mpr ⟨letP now o d, List.mem_map.mpr ⟨d, hd, rfl⟩, h⟩
noncomputable def LInv (Dm cN : Addr) (base : List (Addr × Obj)) (T : Nat → List Dat) (i : Nat) (_ : Unit) (nw : List (Addr × Obj)) : Prop :=
  ∃ mv e oN add, nw = (Dm, ({ cls := .type "list", data := .seq (List.toArray mv) e } : Obj)) :: (cN, oN) :: (add ++ base) ∧ (∀ p ∈ add, p.1 ≠ Dm ∧ p.1 ≠ cN ∧ ∀ q ∈ base, q.1 ≠ p.1) ∧ (∃ x, oN.data = Data.cell x) ∧ DatAll add mv (T i)
theorem l_next {h₀ h' : Heap} {L I ax Dm cN : Addr} {lo o om oN oN' : Obj} {m₀ m' : Str → Option Value} {stored' : List Str} {base add ts all : List (Addr × Obj)} {T : Nat → List Dat} {i e' : Nat} {mv' : List Value} {s₁ : Shared} {tk : Nat} {Q : Flow → Shared → Prop}
    (F : Fr h₀ L h' m') (N : News h₀ L h' all) (hI : (I, o) ∈ all) (hDm : (Dm, ({ cls := .type "list", data := .seq (List.toArray mv') e' } : Obj)) ∈ all) (hcN : (cN, oN') ∈ all) (hoN : ∃ x, oN'.data = Data.cell x) (hts : ∀ p ∈ ts, p ∈ all) (hab : ∀ p ∈ add ++ base, p ∈ all)
    (hax : (ax, lo) ∈ base) (hne : ∀ p ∈ (Dm, om) :: (cN, oN) :: (add ++ base), p.1 ≠ I) (hap : ∀ p ∈ add, p.1 ≠ Dm ∧ p.1 ≠ cN ∧ ∀ q ∈ base, q.1 ≠ p.1)
    (htp : ∀ p ∈ ts, p.1 ≠ I ∧ p.1 ≠ Dm ∧ p.1 ≠ cN ∧ ∀ q ∈ base, q.1 ≠ p.1) (hD : DatAll (ts ++ add) mv' (T (i + 1)))
    (hr : ∀ z, stored'.contains z = false → m' z = m₀ z) :
    LoopTurn h₀ L s₁ I o (Between (fun _ : Unit => []) stored' m₀ ax lo I (LInv Dm cN base T (i + 1))) Q .next { s₁ with heap := h', toks := tk } := by
  refine LoopTurn.next () ((Dm, ({ cls := .type "list", data := .seq (List.toArray mv') e' } : Obj)) :: (cN, oN') :: ((ts ++ add) ++ base)) F N hI (fun p hp => ?_) (.tail _ (.tail _ (List.mem_append.mpr (.inr hax)))) (fun p hp => ?_) (List.forall_mem_nil _) (fun z _ hc => hr z hc) ⟨mv', e', oN', ts ++ add, rfl, fun p hp => ?_, hoN, hD⟩
  · rcases List.mem_cons.mp hp with rfl | hp
    · exact hDm
    · rcases List.mem_cons.mp hp with rfl | hp
      · exact hcN
      · rcases List.mem_append.mp hp with hp | hp
        · rcases List.mem_append.mp hp with hp | hp
          · exact hts p hp
          · exact hab p (List.mem_append.mpr (.inl hp))
        · exact hab p (List.mem_append.mpr (.inr hp))
  · rcases List.mem_cons.mp hp with rfl | hp
    · exact hne (Dm, om) (.head _)
    · rcases List.mem_cons.mp hp with rfl | hp
      · exact hne (cN, oN) (.tail _ (.head _))
      · rcases List.mem_append.mp hp with hp | hp
        · rcases List.mem_append.mp hp with hp | hp
          · exact (htp p hp).1
          · exact hne p (.tail _ (.tail _ (List.mem_append.mpr (.inl hp))))
        · exact hne p (.tail _ (.tail _ (List.mem_append.mpr (.inr hp))))
  · rcases List.mem_append.mp hp with hp | hp
    · exact (htp p hp).2
    · exact hap p hp
end Mine
namespace Mine
open PySem PySem.W PyProof.Rows PyProof.Rows.LCg
theorem l_order {h₀ h : Heap} {L : Addr} {x a b : Addr × Obj} {r : List (Addr × Obj)} (N : News h₀ L h (x :: a :: b :: r)) : News h₀ L h (a :: b :: ([] ++ x :: r)) := fun p hp => by
  refine N p ?_
  rcases List.mem_cons.mp hp with rfl | hp
  · exact .tail _ (.head _)
  · rcases List.mem_cons.mp hp with rfl | hp
    · exact .tail _ (.tail _ (.head _))
    · rcases List.mem_cons.mp hp with rfl | hp
      · exact .head _
      · exact .tail _ (.tail _ (.tail _ hp))
theorem strs_at : ∀ {vs : List Value} {xs : List Str}, StrsAre vs xs → ∀ {i : Nat} {v : Value}, vs[i]? = some v → ∃ x t, xs[i]? = some x ∧ v = .str x t
  | _, _, .cons x t r, 0, v, e => by cases e; exact ⟨x, t, rfl, rfl⟩
  | _, _, .cons x t r, i + 1, v, e => strs_at r (i := i) (by simpa using e)
theorem l_apart {h₀ h : Heap} {L : Addr} {i d c : Addr × Obj} {D9 a b : Addr} {o9 o2 o3 : Obj} {add news : List (Addr × Obj)} {X : Addr} (_ : News h₀ L h (i :: d :: c :: (add ++ (D9, o9) :: (a, o2) :: (b, o3) :: news))) (hX : ∀ p ∈ add, p.1 ≠ X) (h1 : @Ne Nat D9 X) (h2 : @Ne Nat a X) (h3 : @Ne Nat b X) (h4 : ∀ p ∈ news, p.1 ≠ X) : ∀ p ∈ add ++ (D9, o9) :: (a, o2) :: (b, o3) :: news, p.1 ≠ X := fun p hp => by
  rcases List.mem_append.mp hp with hp | hp
  · exact hX p hp
  · rcases List.mem_cons.mp hp with rfl | hp
    · exact h1
    · rcases List.mem_cons.mp hp with rfl | hp
      · exact h2
      · rcases List.mem_cons.mp hp with rfl | hp
        · exact h3
        · exact h4 p hp
theorem any_t {xs : List Str} {x : Str} (h : x ∈ xs) : (!(xs.any (· == x))) = false := by
  rw [Bool.not_eq_false', List.any_eq_true]
  exact ⟨x, h, by simp⟩
theorem any_f {xs : List Str} {x : Str} (h : x ∉ xs) : (!(xs.any (· == x))) = true := by
  rw [Bool.not_eq_true', List.any_eq_false]
  intro y hy e
  have : y = x := by simpa using e
  exact h (this ▸ hy)
end Mine
namespace Mine
open PySem PySem.W PyProof.Rows PyProof.Rows.LCg
theorem l_right {h₀ h : Heap} {L : Addr} {i d c : Addr × Obj} {add base : List (Addr × Obj)} (_ : News h₀ L h (i :: d :: c :: (add ++ base))) : (∀ p ∈ add, p ∈ add ++ base) ∧ ∀ p ∈ base, p ∈ add ++ base := ⟨fun _ hp => List.mem_append.mpr (.inl hp), fun _ hp => List.mem_append.mpr (.inr hp)⟩
theorem lg_ret {h₀ h : Heap} {L : Addr} {m : Str → Option Value} {news add8 : List (Addr × Obj)} {x1 x2 x3 : Addr × Obj} {s : Shared} {Q : Value → Shared → Prop} {tk' e : Nat} {Dm cN : Addr} {oN : Obj} {ys : List Value} {es T : List Dat}
    (hret : ∀ (r : Value) (add : List (Addr × Obj)) (h' : Heap) (tk' : Nat), (fun r add => ∃ D ys e, r = Value.ref D ∧ (D, ({ cls := .type "list", data := .seq (List.toArray ys) e } : Obj)) ∈ add ∧ DatAll add ys es) r add → (∀ p ∈ add, ∀ q ∈ news, q.1 ≠ p.1) → Fr h₀ L h' m → News h₀ L h' (add ++ news) → Q r { s with heap := h', toks := tk' })
    (F : Fr h₀ L h m) (N : News h₀ L h ((Dm, ({ cls := .type "list", data := .seq (List.toArray ys) e } : Obj)) :: (cN, oN) :: (add8 ++ x1 :: x2 :: x3 :: news))) (hap8 : ∀ p ∈ add8, p.1 ≠ Dm ∧ p.1 ≠ cN ∧ ∀ q ∈ x1 :: x2 :: x3 :: news, q.1 ≠ p.1)
    (hl : ∀ p ∈ news, p.1 < Dm) (hD : DatAll add8 ys T) (hT : T = es) : Q (.ref Dm) { s with heap := h, toks := tk' } := by
  subst hT
  refine hret _ ((Dm, ({ cls := .type "list", data := .seq (List.toArray ys) e } : Obj)) :: add8) _ _ ⟨Dm, ys, e, rfl, .head _, hD.mono fun p hp => .tail _ hp⟩ (fun p hp q hq => ?_) F fun p hp => ?_
  · rcases List.mem_cons.mp hp with rfl | hp
    · exact Nat.ne_of_lt (hl q hq)
    · exact (hap8 p hp).2.2 q (.tail _ (.tail _ (.tail _ hq)))
  · rcases List.mem_append.mp hp with hp | hp
    · rcases List.mem_cons.mp hp with rfl | hp
      · exact N _ (.head _)
      · exact N p (.tail _ (.tail _ (List.mem_append.mpr (.inl hp))))
    · exact N p (.tail _ (.tail _ (List.mem_append.mpr (.inr (.tail _ (.tail _ (.tail _ hp)))))))
theorem strs_len : ∀ {vs : List Value} {xs : List Str}, StrsAre vs xs → vs.length = xs.length
  | _, _, .nil => rfl
  | _, _, .cons _ _ r => by rw [List.length_cons, List.length_cons, strs_len r]
theorem TL_end {now o : Int} {ds : List Dat} {ys : List Value} (hs : StrsAre ys (ds.map nameD)) (hok : ∀ d ∈ ds, LetterOk d) : TL now o ds ys.length = gathD now o ds := by
  rw [strs_len hs, List.length_map, TL_all hok]
end Mine
namespace Mine
open PySem PySem.W PyProof.Rows PyProof.Rows.LCg
theorem notin_t {prog : Program} {w : World} {A : Around} {E : Value → Shared → Prop} {s : Shared} {l : Addr} {vs : List Value} {ys : List Str} {k : Str} {t : Tok} {Q : Value → Shared → Prop} (hl : s.heap.IsList l vs.toArray) (hi : StrsAre vs ys) (hx : k ∈ ys) (h : Q (.bool false) s) : wpAny (model prog w) A (compareOp .NotIn (.str k t) (.ref l)) Q E s :=
  notin_list_strs hl hi (by rw [any_t hx]; exact h)
theorem notin_f {prog : Program} {w : World} {A : Around} {E : Value → Shared → Prop} {s : Shared} {l : Addr} {vs : List Value} {ys : List Str} {k : Str} {t : Tok} {Q : Value → Shared → Prop} (hl : s.heap.IsList l vs.toArray) (hi : StrsAre vs ys) (hx : k ∉ ys) (h : Q (.bool true) s) : wpAny (model prog w) A (compareOp .NotIn (.str k t) (.ref l)) Q E s :=
  notin_list_strs hl hi (by rw [any_f hx]; exact h)
theorem TL_mem {now o : Int} {ds : List Dat} {i : Nat} {d : Dat} (h : d ∈ TL now o ds i) : ∃ n p, d = .tuple [.str n, optD p] := by
  obtain ⟨n, _, e⟩ := List.mem_map.mp h
  exact ⟨n, _, e.symm⟩
end Mine
namespace Mine
open PySem PySem.W PyProof.Rows PyProof.Rows.LCg
theorem l_in {h₀ h : Heap} {L : Addr} {x : Addr × Obj} {ad r : List (Addr × Obj)} (_ : News h₀ L h (x :: (ad ++ r))) : ∀ p ∈ ad, p ∈ ad ++ r := fun _ hp => List.mem_append.mpr (.inl hp)
end Mine
namespace Mine
open PySem PySem.W PyProof.Rows PyProof.Rows.LCg
theorem l_drop {h₀ h : Heap} {L : Addr} {a b c d : Addr × Obj} {ad r : List (Addr × Obj)} (N : News h₀ L h (a :: b :: c :: (ad ++ d :: r))) : News h₀ L h r := fun p hp => N p (.tail _ (.tail _ (.tail _ (List.mem_append.mpr (.inr (.tail _ hp))))))
theorem l_app {h₀ h' : Heap} {L I ax Dm cN : Addr} {lo o om oN oN' : Obj} {m₀ m' : Str → Option Value} {stored' : List Str} {base add ts all : List (Addr × Obj)} {T : Nat → List Dat} {i e' : Nat} {mv : List Value} {v : Value} {d : Dat} {s₁ : Shared} {tk : Nat} {Q : Flow → Shared → Prop}
    (F : Fr h₀ L h' m') (N : News h₀ L h' all) (hI : (I, o) ∈ all) (hDm : (Dm, ({ cls := .type "list", data := .seq ((List.toArray mv).push v) e' } : Obj)) ∈ all) (hcN : (cN, oN') ∈ all) (hoN : ∃ x, oN'.data = Data.cell x) (hts : ∀ p ∈ ts, p ∈ all) (hab : ∀ p ∈ add ++ base, p ∈ all)
    (hax : (ax, lo) ∈ base) (hne : ∀ p ∈ (Dm, om) :: (cN, oN) :: (add ++ base), p.1 ≠ I) (hap : ∀ p ∈ add, p.1 ≠ Dm ∧ p.1 ≠ cN ∧ ∀ q ∈ base, q.1 ≠ p.1)
    (htp : ∀ p ∈ ts, p.1 ≠ I ∧ p.1 ≠ Dm ∧ p.1 ≠ cN ∧ ∀ q ∈ base, q.1 ≠ p.1) (hM : DatAll add mv (T i)) (hv : DatIn (ts ++ add) v d) (hT : T (i + 1) = T i ++ [d])
    (hr : ∀ z, stored'.contains z = false → m' z = m₀ z) :
    LoopTurn h₀ L s₁ I o (Between (fun _ : Unit => []) stored' m₀ ax lo I (LInv Dm cN base T (i + 1))) Q .next { s₁ with heap := h', toks := tk } := by
  rw [List.push_toArray] at hDm
  exact l_next F N hI hDm hcN hoN hts hab hax hne hap htp (hT ▸ (hM.mono fun p hp => List.mem_append.mpr (.inr hp)).append (.cons hv .nil)) hr
theorem meet_yes {l : List (Int × Int)} (h : Mine4.maxL l ≤ Mine4.minH l) : Mine4.meet l = some (Mine4.maxL l, Mine4.minH l) := if_pos h
theorem meet_no {l : List (Int × Int)} (h : ¬ Mine4.maxL l ≤ Mine4.minH l) : Mine4.meet l = none := if_neg h
theorem name_dat {l : List (Addr × Obj)} {P : Addr} {x : Str} {t : Tok} {u : Value} {c : Nat} {o : Option (Int × Int)} (hm : (P, ({ cls := .type "tuple", data := .seq #[.str x t, u] c } : Obj)) ∈ l) (h : DatIn l u (optD o)) : DatIn l (.ref P) (pairG (x, o)) := .tuple hm (.cons (.str _ _) (.cons h .nil))
end Mine
namespace Mine
open PySem PySem.W PyProof.Rows
theorem lt4 {I Dm cN P : Addr} {add base : List (Addr × Obj)} (h : @LT.lt Nat _ I P ∧ @LT.lt Nat _ Dm P ∧ @LT.lt Nat _ cN P ∧ AllLt P (add ++ base)) : P ≠ I ∧ P ≠ Dm ∧ P ≠ cN ∧ ∀ q ∈ base, q.1 ≠ P :=
  ⟨Nat.ne_of_gt h.1, Nat.ne_of_gt h.2.1, Nat.ne_of_gt h.2.2.1, fun q hq => Nat.ne_of_lt (allLt_mem h.2.2.2 q (List.mem_append.mpr (.inr hq)))⟩
end Mine
namespace Mine
open PySem PySem.W PyProof.Rows PyProof.Rows.LCg
theorem l_app2 {h₀ h' : Heap} {L I ax Dm cN P1 P2 : Addr} {lo o o1 o2 om oN oN' : Obj} {m₀ m' : Str → Option Value} {stored' : List Str} {base add all : List (Addr × Obj)} {T : Nat → List Dat} {i e' : Nat} {mv : List Value} {v : Value} {d : Dat} {s₁ : Shared} {tk : Nat} {Q : Flow → Shared → Prop}
    (F : Fr h₀ L h' m') (N : News h₀ L h' ((P2, o2) :: (P1, o1) :: all)) (hI : (I, o) ∈ all) (hDm : (Dm, ({ cls := .type "list", data := .seq ((List.toArray mv).push v) e' } : Obj)) ∈ all) (hcN : (cN, oN') ∈ all) (hoN : ∃ x, oN'.data = Data.cell x) (hab : ∀ p ∈ add ++ base, p ∈ all)
    (hax : (ax, lo) ∈ base) (hne : ∀ p ∈ (Dm, om) :: (cN, oN) :: (add ++ base), p.1 ≠ I) (hap : ∀ p ∈ add, p.1 ≠ Dm ∧ p.1 ≠ cN ∧ ∀ q ∈ base, q.1 ≠ p.1)
    (h1 : @LT.lt Nat _ I P1 ∧ @LT.lt Nat _ Dm P1 ∧ @LT.lt Nat _ cN P1 ∧ AllLt P1 (add ++ base)) (h2 : @LT.lt Nat _ P1 P2 ∧ @LT.lt Nat _ I P2 ∧ @LT.lt Nat _ Dm P2 ∧ @LT.lt Nat _ cN P2 ∧ AllLt P2 (add ++ base)) (hM : DatAll add mv (T i)) (hv : DatIn ([(P2, o2), (P1, o1)] ++ add) v d) (hT : T (i + 1) = T i ++ [d])
    (hr : ∀ z, stored'.contains z = false → m' z = m₀ z) :
    LoopTurn h₀ L s₁ I o (Between (fun _ : Unit => []) stored' m₀ ax lo I (LInv Dm cN base T (i + 1))) Q .next { s₁ with heap := h', toks := tk } :=
  l_app (ts := [(P2, o2), (P1, o1)]) F N (.tail _ (.tail _ hI)) (.tail _ (.tail _ hDm)) (.tail _ (.tail _ hcN)) hoN (List.forall_mem_cons.mpr ⟨.head _, List.forall_mem_cons.mpr ⟨.tail _ (.head _), List.forall_mem_nil _⟩⟩) (fun p hp => .tail _ (.tail _ (hab p hp))) hax hne hap
    (List.forall_mem_cons.mpr ⟨lt4 h2.2, List.forall_mem_cons.mpr ⟨lt4 h1, List.forall_mem_nil _⟩⟩) hM hv hT hr
theorem l_app1 {h₀ h' : Heap} {L I ax Dm cN P2 : Addr} {lo o o2 om oN oN' : Obj} {m₀ m' : Str → Option Value} {stored' : List Str} {base add all : List (Addr × Obj)} {T : Nat → List Dat} {i e' : Nat} {mv : List Value} {v : Value} {d : Dat} {s₁ : Shared} {tk : Nat} {Q : Flow → Shared → Prop}
    (F : Fr h₀ L h' m') (N : News h₀ L h' ((P2, o2) :: all)) (hI : (I, o) ∈ all) (hDm : (Dm, ({ cls := .type "list", data := .seq ((List.toArray mv).push v) e' } : Obj)) ∈ all) (hcN : (cN, oN') ∈ all) (hoN : ∃ x, oN'.data = Data.cell x) (hab : ∀ p ∈ add ++ base, p ∈ all)
    (hax : (ax, lo) ∈ base) (hne : ∀ p ∈ (Dm, om) :: (cN, oN) :: (add ++ base), p.1 ≠ I) (hap : ∀ p ∈ add, p.1 ≠ Dm ∧ p.1 ≠ cN ∧ ∀ q ∈ base, q.1 ≠ p.1)
    (h2 : @LT.lt Nat _ I P2 ∧ @LT.lt Nat _ Dm P2 ∧ @LT.lt Nat _ cN P2 ∧ AllLt P2 (add ++ base)) (hM : DatAll add mv (T i)) (hv : DatIn ([(P2, o2)] ++ add) v d) (hT : T (i + 1) = T i ++ [d])
    (hr : ∀ z, stored'.contains z = false → m' z = m₀ z) :
    LoopTurn h₀ L s₁ I o (Between (fun _ : Unit => []) stored' m₀ ax lo I (LInv Dm cN base T (i + 1))) Q .next { s₁ with heap := h', toks := tk } :=
  l_app (ts := [(P2, o2)]) F N (.tail _ hI) (.tail _ hDm) (.tail _ hcN) hoN (List.forall_mem_cons.mpr ⟨.head _, List.forall_mem_nil _⟩) (fun p hp => .tail _ (hab p hp)) hax hne hap (List.forall_mem_cons.mpr ⟨lt4 h2, List.forall_mem_nil _⟩) hM hv hT hr
end Mine
namespace Mine
open PySem PySem.W PyProof.Rows PySem.Spec PySem.Calls PyProof.Rows.LCg PyProof.Rows.LCt
section
variable {prog : Program} {w : World} {A : Around} {E : Value → Shared → Prop} {s : Shared} {h₀ : Heap} {L : Addr} {m : Str → Option Value} {env : Env}
theorem ListComp_TuT {ct elt iter : Expr} {x : Str} {px : Pos} {scope : Scope} {cl : List (Str × Addr)} {pos : Pos} {Q : Value → Shared → Prop} (_F₀ : Fr h₀ L s.heap m)
    (hclos : closureFor scope env = pure cl) (hcell : ∀ y ∈ scope.names, y.2 ≠ .cell) (hkind : scope.kind = .function)
    (hnames : ∀ y ∈ scope.names, y.2 = .local → scope.names.lookup y.1 = some .local) (hx : scope.names.lookup x = some .local)
    (h : wpAny (model prog w) A (eval iter env) (SrcT prog w A h₀ L m (fun s₂ ax its news => CompRestT prog w A h₀ L m env ct elt x scope cl s₂ (TupAt ax its) (fun i v => its[i]? = some v) (FinE h₀ L m s₂ Q) its.size 0 [] news)) E s)
    (hs : ∀ x, foldedSetIterable iter env x = pure x := by intro _; rfl) :
    wpAny (model prog w) A (eval (.ListComp elt [⟨.Name x px, iter, [ct], 0⟩] scope pos) env) Q E s := by
  rw [eval_ListComp]
  refine wpAny_comprehension_free (use := none) rfl hs hclos hkind hnames (wpAny_mono h (fun xv s₁ h₁ => ?_) fun _ _ e => e)
  obtain ⟨ax, its, news, rfl, hh, F, N, S, hsz, R⟩ := h₁
  have hl := S.tup N
  have hlt : ax < s₁.heap.objs.size := by obtain ⟨_, e, _⟩ := hl; exact Heap.lt_size e
  refine wpAny_pyIter_tuple hl ?_
  have up : ∀ b o, s₁.heap.get? b = some o → (s₁.heap.push { cls := .type "tuple_iterator", data := .fields #[.ref ax, .int 0 0] }).get? b = some o := fun b o e => Heap.get?_push_of_some _ e
  refine block_T (Walks.tuple hh s₁.heap.objs.size ax (Nat.ne_of_lt hlt) its) hsz (fun i h st => by obtain ⟨o, e, _⟩ := st.1; exact ⟨o, e⟩) tupiter_st hcell hkind hx ⟨⟨_, Heap.get?_push_size _ rfl, rfl, rfl⟩, hl.at fun o e => Heap.get?_push_of_some _ e⟩ (fun b hb => ?_)
    (F.keeps up) (N.grown up) (Nat.ne_of_lt F.ns.lt) (next_is_new F) (fun p hp => Nat.ne_of_lt (Heap.lt_size (N p hp).1)) S (R _ ⟨_, rfl⟩) ?_
  · show b < (s₁.heap.push _).objs.size
    rw [Heap.size_push]
    rcases List.mem_cons.mp hb with rfl | hb
    · exact Nat.lt_succ_self _
    · rw [List.mem_singleton.mp hb]; exact Nat.lt_succ_of_lt hlt
  · intro D C h tk m' ys news' F' N' o1 hn hC₀ hD₀ hCL hDL hCD offC fin
    refine ⟨m', hn, fun h'' hs'' => fin D h'' tk (F'.change hs'' hCL hC₀) (fun p hp => ?_) o1⟩
    refine ⟨hs''.extBut _ _ ?_ (N' p hp).1, (N' p hp).2⟩
    rcases List.mem_cons.mp hp with rfl | hp
    · exact Ne.symm hCD
    · exact offC p hp
theorem item_ix {value slice : PySem.Expr} {l : Addr} {news : List (Addr × Obj)} {vs : List Value} {e i : Nat} {k : Int} {u : Tok} {v : Value} {Q : Value → Shared → Prop} (N : News h₀ L s.heap news) (hm : (l, ({ cls := .type "list", data := .seq vs.toArray e } : Obj)) ∈ news) (hv : vs[i]? = some v) (hk : k = (i : Int)) (hfit : k < 2 ^ 63) (h : Q v s)
    (hs : subscripted slice false (.ref l) (.int k u) = operate [.ref l, .int k u] (getItem (.ref l) (.int k u)) := by with_unfolding_all rfl) :
    wpAny (model prog w) A (subscriptTail value slice (.ref l) (.int k u)) Q E s := by
  have hl : s.heap.IsList l vs.toArray := ⟨_, (N _ hm).1, rfl, e, rfl⟩
  exact tail_any hl.typeIs slot_list_getitem.lookup (wpAny_getItem_list hl (by omega) hfit (by subst hk; simpa using hv) h) hs

end
theorem g_ne_same {prog : Program} {w : World} {A : Around} {E : Value → Shared → Prop} {s : Shared} {h₀ : Heap} {L a b : Addr} {oa ob : Obj} {xs ys : List Value} {ka kb : Nat} {news n₁ n₂ : List (Addr × Obj)} {ds : List Dat} {Q : Value → Shared → Prop} (N : News h₀ L s.heap news) (ma : (a, oa) ∈ news) (ca : oa.cls = .type "list") (da : oa.data = .seq xs.toArray ka) (Da : DatAll n₁ xs ds) (sa : ∀ p ∈ n₁, p ∈ news)
    (mb : (b, ob) ∈ news) (cb : ob.cls = .type "list") (db : ob.data = .seq ys.toArray kb) (Db : DatAll n₂ ys ds) (sb : ∀ p ∈ n₂, p ∈ news) (ha : ∀ d ∈ ds, kqdOk 8 d = true) (hu : A.units + 64 < cLine) (h : Q (.bool false) s) : wpAny (model prog w) A (compareOp .NotEq (.ref a) (.ref b)) Q E s :=
  kqd_ne N ma ca da Da sa mb cb db Db sb ha ha hu (by simpa using h)
theorem g_eq_same {prog : Program} {w : World} {A : Around} {E : Value → Shared → Prop} {s : Shared} {h₀ : Heap} {L a b : Addr} {oa ob : Obj} {xs ys : List Value} {ka kb : Nat} {news n₁ n₂ : List (Addr × Obj)} {ds : List Dat} {Q : Value → Shared → Prop} (N : News h₀ L s.heap news) (ma : (a, oa) ∈ news) (ca : oa.cls = .type "list") (da : oa.data = .seq xs.toArray ka) (Da : DatAll n₁ xs ds) (sa : ∀ p ∈ n₁, p ∈ news)
    (mb : (b, ob) ∈ news) (cb : ob.cls = .type "list") (db : ob.data = .seq ys.toArray kb) (Db : DatAll n₂ ys ds) (sb : ∀ p ∈ n₂, p ∈ news) (ha : ∀ d ∈ ds, kqdOk 8 d = true) (hu : A.units + 64 < cLine) (h : Q (.bool true) s) : wpAny (model prog w) A (compareOp .Eq (.ref a) (.ref b)) Q E s :=
  kqd_eq N ma ca da Da sa mb cb db Db sb ha ha hu (by simpa using h)
noncomputable def PairOk (d : Dat) : Prop := ∃ n p, d = .tuple [.str n, optD p] ∧ PyData.strOk n = true
theorem pairok_kqd {d : Dat} (h : PairOk d) : kqdOk 8 d = true := by
  obtain ⟨n, p, rfl, hn⟩ := h
  rcases p with _ | ⟨a, b⟩ <;> simp [kqdOk, optD, hn]
theorem gath_ok {now o : Int} {ds : List Dat} (hok : ∀ d ∈ ds, LetterOk d) : ∀ d ∈ gathD now o ds, PairOk d := fun d hd => by
  obtain ⟨p, hp, e⟩ := List.mem_map.mp hd
  obtain ⟨n, hn, rfl⟩ := List.mem_map.mp hp
  obtain ⟨q, hq, rfl⟩ := List.mem_map.mp ((Mine4.mem_firsts _ _).mp hn)
  obtain ⟨d', hd', rfl⟩ := List.mem_map.mp hq
  refine ⟨_, _, e.symm, ?_⟩
  obtain ⟨x, se, ba, lo, hi, rfl, hx, _⟩ := hok d' hd'
  exact hx.2
theorem gath_le {now o : Int} {ds : List Dat} : (gathD now o ds).length ≤ ds.length := by
  unfold gathD
  rw [List.length_map]
  refine Nat.le_trans spec_len ?_
  unfold letPs; rw [List.length_map]; exact Nat.le_refl _
end Mine
namespace Mine
open PySem PySem.W PyProof.Rows
theorem two_int {lo hi : Int} {d : Dat} {v : Value} {l : List (Addr × Obj)} (h : d ∈ [Dat.int lo, Dat.int hi]) (hI : DatIn l v d) : ∃ k t, v = .int k t := by
  rcases List.mem_cons.mp h with rfl | h
  · cases hI; exact ⟨_, _, rfl⟩
  · rw [List.mem_singleton.mp h] at hI; cases hI; exact ⟨_, _, rfl⟩
theorem no_data {l : List (Addr × Obj)} {ys : List Value} {ds : List Dat} (h : DatAll l ys (ds.filter fun _ => false)) : ys = [] := by
  have e : ds.filter (fun _ => false) = [] := by simp
  rw [e] at h
  cases h; rfl
end Mine
namespace Mine
open PySem PySem.W PyProof.Rows PySem.Calls
theorem kts_memC {name : Str} {scope : Scope} {L a b : Addr} {cd : Value} {outer : List Env} (hm : b ∈ (envOfC name scope L a cd :: outer).filterMap (·.frame)) : b = L ∨ b ∈ outer.filterMap (·.frame) := by
  obtain ⟨env, he, hf⟩ := List.mem_filterMap.mp hm
  rcases List.mem_cons.mp he with rfl | he
  · exact .inl (Option.some.inj hf).symm
  · exact .inr (List.mem_filterMap.mpr ⟨env, he, hf⟩)
theorem leave_onSC {M : Model} {A : Around} {E : Value → Shared → Prop} {s' : Shared} {base g g₂ : Heap} {outer : List Env} {L a e t : Addr} {m : Str → Option Value} {name : Str} {scope : Scope} {cd : Value} {Q : Unit → Shared → Prop} {news : List (Addr × Obj)} {cls : Value} {vs : List Value}
    (K : Below A base outer g) (F : Fr g L g₂ m) (R : RaisedS base g₂ (envOfC name scope L a cd :: outer) e cls t vs news s'.heap) (hsm : g₂.UpToSlots s'.heap)
    (hQ : ∀ h', RaisedS base g outer e cls t vs news h' → RaisedK base outer e cls t vs news h' → g.UpToSlots h' → Q () { s' with heap := h' }) :
    wpAny M (A.deeper (envOfC name scope L a cd)) (leaving (envOfC name scope L a cd) (.ref e)) Q E s' := by
  obtain ⟨⟨B, hB, hBG, hl, hfl, hnew⟩, htup⟩ := R
  exact wpAny_leaves_onW (Around.frames_deeper K.stack) rfl hfl fun h' x1 x2 =>
    have R : RaisedS base g outer e cls t vs news h' := ⟨⟨B, hB, fun b o q nm => hBG b o (F.keep b o q) (fun hm => by
      rcases kts_memC hm with z | z
      · rw [z, kts_self F] at q
        cases q
      · exact nm z), fun q hq => ⟨(hl q hq).1, kts_none F.keep (hl q hq).2.1, (hl q hq).2.2⟩, x1, hnew⟩, htup.of_slots x2⟩
    hQ h' R R.toK ((Heap.UpToSlots.of_keeps F.keep).trans (hsm.trans x2))
noncomputable def CzM (prog : Program) (w : World) (K : Frag) (p : Program) (loose : List Str) (mean : ExcName → Option Value) (mg mb : Str → Option Value) (f : Addr) (vs : List Value) (P : List (Addr × Obj) → Prop) (Out : Value → List (Addr × Obj) → Prop) : Prop :=
  ∀ (cn : Str) (cs : Scope) (a : Addr) (ccd : Value) (A₀ : Around) (base h₀ : Heap) (L : Addr) (m : Str → Option Value) (news : List (Addr × Obj)) (s : Shared) (Q E : Value → Shared → Prop),
    Below A₀ base [] h₀ → Fr h₀ L s.heap m → K.In h₀ → News h₀ L s.heap news → Top p loose mean mg mb h₀ → K.In base → Top p loose mean mg mb base → cs.kind = .function → P news →
    (∀ (r : Value) (add : List (Addr × Obj)) (h' : Heap) (tk' : Nat), Out r add → (∀ p ∈ add, ∀ q ∈ news, q.1 ≠ p.1) → Fr h₀ L h' m → News h₀ L h' (add ++ news) → Q r { s with heap := h', toks := tk' }) →
    wpAny (model prog w) (callerA.deeper (envOf cn cs L a ccd)) (call (.ref f) vs) Q E s
theorem CzM.use {prog : Program} {w : World} {K : Frag} {p : Program} {loose : List Str} {mean : ExcName → Option Value} {mg mb : Str → Option Value} {f : Addr} {vs : List Value} {P : List (Addr × Obj) → Prop} {Out : Value → List (Addr × Obj) → Prop} (C : CzM prog w K p loose mean mg mb f vs P Out)
    {cn : Str} {cs : Scope} {a : Addr} {ccd : Value} {A₀ : Around} {base h₀ : Heap} {L : Addr} {m : Str → Option Value} {news : List (Addr × Obj)} {s : Shared} {Q E : Value → Shared → Prop}
    (B : Below A₀ base [] h₀ := by k_asm) (F : Fr h₀ L s.heap m := by k_asm) (X : K.In h₀ := by k_asm) (N : News h₀ L s.heap news := by k_asm) (T : Top p loose mean mg mb h₀ := by k_asm) (XB : K.In base := by assumption) (TB : Top p loose mean mg mb base := by assumption) (hk : cs.kind = .function := by first | exact rfl | assumption) (hp : P news := by first | trivial | k_mem)
    (ret : ∀ (r : Value) (add : List (Addr × Obj)) (h' : Heap) (tk' : Nat), Out r add → (∀ p ∈ add, ∀ q ∈ news, q.1 ≠ p.1) → Fr h₀ L h' m → News h₀ L h' (add ++ news) → Q r { s with heap := h', toks := tk' }) :
    wpAny (model prog w) (callerA.deeper (envOf cn cs L a ccd)) (call (.ref f) vs) Q E s := C _ _ _ _ _ _ _ _ _ _ _ _ _ B F X N T XB TB hk hp ret
end Mine
namespace Mine
open PySem PySem.W PyProof.Rows
theorem l_keep {h₀ h : Heap} {L : Addr} {a b : List (Addr × Obj)} (N : News h₀ L h (a ++ b)) : News h₀ L h a := fun p hp => N p (List.mem_append.mpr (.inl hp))
theorem item_letter {prog : Program} {w : World} {A : Around} {E : Value → Shared → Prop} {s : Shared} {value slice : PySem.Expr} {h₀ : Heap} {L l : Addr} {news n₁ : List (Addr × Obj)} {vs : List Value} {ds : List Dat} {e : Nat} {k : Int} {u : Tok} {Q : Value → Shared → Prop} (N : News h₀ L s.heap news) (hm : (l, ({ cls := .type "list", data := .seq vs.toArray e } : Obj)) ∈ news) (hD : DatAll n₁ vs ds) (hok : ∀ d ∈ ds, LetterOk d)
    (h0 : 0 ≤ k ∧ k < (ds.length : Int)) (hfit : k < 2 ^ 63) (h : ∀ a n (x : Str) (se ba lo hi : Int) t t1 t2 t3 t4, (a, ({ cls := .type "tuple", data := .seq #[.str x t, .int se t1, .int ba t2, .int lo t3, .int hi t4] n } : Obj)) ∈ n₁ → (0 ≤ ba ∧ ba ≤ 2000000000000) → (∃ d ∈ ds, ba - 1 < backD d) → Q (.ref a) s)
    (hs : subscripted slice false (.ref l) (.int k u) = operate [.ref l, .int k u] (getItem (.ref l) (.int k u)) := by with_unfolding_all rfl) :
    wpAny (model prog w) A (subscriptTail value slice (.ref l) (.int k u)) Q E s := by
  have hlt : k.toNat < ds.length := by omega
  obtain ⟨v, hv, hd⟩ := hD.get hlt
  obtain ⟨x, se, ba, lo, hi, e1, hx, h1, h2⟩ := hok _ (List.getElem_mem hlt)
  have hmem := List.getElem_mem hlt
  rw [e1] at hd hmem
  obtain ⟨a, n, t, t1, t2, t3, t4, rfl, hb⟩ := dat_letter hd
  exact item_ix N hm (i := k.toNat) hv (by omega) hfit (h a n x se ba lo hi t t1 t2 t3 t4 hb ⟨by omega, h1.2.2⟩ ⟨_, hmem, by show ba - 1 < ba; omega⟩) hs
theorem nil_ne {prog : Program} {w : World} {A : Around} {E : Value → Shared → Prop} {s : Shared} {h₀ : Heap} {L a b : Addr} {xs : List Value} {ka kb : Nat} {news n₁ : List (Addr × Obj)} {ds : List Dat} {Q : Value → Shared → Prop} (N : News h₀ L s.heap news) (mb : (b, ({ cls := .type "list", data := .seq #[] kb } : Obj)) ∈ news) (ma : (a, ({ cls := .type "list", data := .seq xs.toArray ka } : Obj)) ∈ news) (Da : DatAll n₁ xs ds) (sa : ∀ p ∈ n₁, p ∈ news)
    (ha : ∀ d ∈ ds, kqdOk 8 d = true) (hu : A.units + 64 < cLine) (bv : Bool) (hb : (!decide (ds = [])) = bv) (h : Q (.bool bv) s) : wpAny (model prog w) A (compareOp .NotEq (.ref a) (.ref b)) Q E s :=
  kqd_ne (ds := ds) (es := []) (ys := []) N ma rfl rfl Da sa mb rfl rfl (DatAll.nil (news := [])) (fun _ h => nomatch h) ha (fun _ h => nomatch h) hu (by rw [hb]; exact h)
theorem nilD_t {ds : List Dat} (h : ds = []) : (!decide (ds = [])) = false := by simp [h]
theorem nilD_f {ds : List Dat} (h : ¬ ds = []) : (!decide (ds = [])) = true := by simp [h]
end Mine
namespace Mine
open PySem PySem.W PyProof.Rows
theorem clear_drop {prog : Program} {w : World} {A : Around} {E : Value → Shared → Prop} {s : Shared} {h₀ : Heap} {L D : Addr} {m : Str → Option Value} {all : List (Addr × Obj)} {its : Array Value} {n : Nat} {Q : Value → Shared → Prop} (F : Fr h₀ L s.heap m) (N : News h₀ L s.heap all) (hm : (D, ({ cls := .type "list", data := .seq its n } : Obj)) ∈ all) (rest : List (Addr × Obj)) (hs : ∀ p ∈ rest, p ∈ all) (hne : ∀ p ∈ rest, p.1 ≠ D) (hz : its.size ≤ sizeLine)
    (h : ∀ h', Fr h₀ L h' m → News h₀ L h' rest → Q .none { s with heap := h' }) : wpAny (model prog w) A (call (.builtin "list.clear") [.ref D]) Q E s := by
  have z := N _ hm
  exact call_meets PySem.F.slot_list_clear ⟨_, z.1, rfl⟩ PySem.F.entry_list_clear (PySem.F.args_list_clear_1 _) (PySem.AutoSeq1.list_clear_list_0 D its n hz) ⟨z.1, h _ (F.change (Heap.SameBut.update ..) z.2.1 z.2.2) fun p hp => ⟨(Heap.get?_update_ne _ _ _ _ (hne p hp)).trans (N p (hs p hp)).1, (N p (hs p hp)).2⟩⟩
theorem l_told {h₀ h : Heap} {L : Addr} {f hh : Addr × Obj} {ag ad : List (Addr × Obj)} (N : News h₀ L h ((f :: ag) ++ hh :: ad)) : News h₀ L h (f :: hh :: (ag ++ ad)) := fun p hp => by
  refine N p ?_
  rcases List.mem_cons.mp hp with rfl | hp
  · exact List.mem_append.mpr (.inl (.head _))
  · rcases List.mem_cons.mp hp with rfl | hp
    · exact List.mem_append.mpr (.inr (.head _))
    · rcases List.mem_append.mp hp with hp | hp
      · exact List.mem_append.mpr (.inl (.tail _ hp))
      · exact List.mem_append.mpr (.inr (.tail _ hp))
end Mine
namespace Mine
open PySem PySem.W PyProof.Rows
theorem l_sub {h₀ h : Heap} {L : Addr} {l l' : List (Addr × Obj)} (N : News h₀ L h l') (hs : ∀ p ∈ l, p ∈ l') : News h₀ L h l := fun p hp => N p (hs p hp)
theorem ne_lists {prog : Program} {w : World} {A : Around} {E : Value → Shared → Prop} {s : Shared} {h₀ : Heap} {L a b : Addr} {xs ys : List Value} {ka kb : Nat} {news n₁ n₂ : List (Addr × Obj)} {ds : List Dat} {Q : Value → Shared → Prop} (N : News h₀ L s.heap news) (ma : (a, ({ cls := .type "list", data := .seq xs.toArray ka } : Obj)) ∈ news) (mb : (b, ({ cls := .type "list", data := .seq ys.toArray kb } : Obj)) ∈ news)
    (Da : DatAll n₁ xs ds) (sa : ∀ p ∈ n₁, p ∈ news) (Db : DatAll n₂ ys ds) (sb : ∀ p ∈ n₂, p ∈ news) (ha : ∀ d ∈ ds, kqdOk 8 d = true) (hu : A.units + 64 < cLine) (h : Q (.bool false) s) : wpAny (model prog w) A (compareOp .NotEq (.ref a) (.ref b)) Q E s := g_ne_same N ma rfl rfl Da sa mb rfl rfl Db sb ha hu h
theorem eq_lists {prog : Program} {w : World} {A : Around} {E : Value → Shared → Prop} {s : Shared} {h₀ : Heap} {L a b : Addr} {xs ys : List Value} {ka kb : Nat} {news n₁ n₂ : List (Addr × Obj)} {ds : List Dat} {Q : Value → Shared → Prop} (N : News h₀ L s.heap news) (ma : (a, ({ cls := .type "list", data := .seq xs.toArray ka } : Obj)) ∈ news) (mb : (b, ({ cls := .type "list", data := .seq ys.toArray kb } : Obj)) ∈ news)
    (Da : DatAll n₁ xs ds) (sa : ∀ p ∈ n₁, p ∈ news) (Db : DatAll n₂ ys ds) (sb : ∀ p ∈ n₂, p ∈ news) (ha : ∀ d ∈ ds, kqdOk 8 d = true) (hu : A.units + 64 < cLine) (h : Q (.bool true) s) : wpAny (model prog w) A (compareOp .Eq (.ref a) (.ref b)) Q E s := g_eq_same N ma rfl rfl Da sa mb rfl rfl Db sb ha hu h
theorem l_rest {F : Addr} {hh : Addr × Obj} {a b c : List (Addr × Obj)} (h1 : ∀ p ∈ hh :: c, p.1 ≠ F) (h2 : ∀ p ∈ a, p.1 ≠ F) (h3 : ∀ p ∈ b, p.1 ≠ F) : ∀ p ∈ hh :: (a ++ (b ++ c)), p.1 ≠ F := fun p hp => by
  rcases List.mem_cons.mp hp with rfl | hp
  · exact h1 _ (.head _)
  · rcases List.mem_append.mp hp with hp | hp
    · exact h2 p hp
    · rcases List.mem_append.mp hp with hp | hp
      · exact h3 p hp
      · exact h1 p (.tail _ hp)
end Mine
namespace Mine
open PySem PySem.W PyProof.Rows
theorem nil_split {prog : Program} {w : World} {A : Around} {E : Value → Shared → Prop} {s : Shared} {h₀ : Heap} {L a b : Addr} {xs : List Value} {ka kb : Nat} {news n₁ : List (Addr × Obj)} {ds : List Dat} {Q : Value → Shared → Prop} (N : News h₀ L s.heap news) (mb : (b, ({ cls := .type "list", data := .seq #[] kb } : Obj)) ∈ news) (ma : (a, ({ cls := .type "list", data := .seq xs.toArray ka } : Obj)) ∈ news) (Da : DatAll n₁ xs ds) (sa : ∀ p ∈ n₁, p ∈ news)
    (ha : ∀ d ∈ ds, kqdOk 8 d = true) (hu : A.units + 64 < cLine) (h1 : ds = [] → Q (.bool false) s) (h2 : ¬ ds = [] → 0 < ds.length → Q (.bool true) s) : wpAny (model prog w) A (compareOp .NotEq (.ref a) (.ref b)) Q E s := by
  by_cases h : ds = []
  · exact nil_ne N mb ma Da sa ha hu _ (nilD_t h) (h1 h)
  · exact nil_ne N mb ma Da sa ha hu _ (nilD_f h) (h2 h (List.length_pos_iff.mpr h))
end Mine
namespace Mine
theorem c_cell (w : World) (mean : ExcName → Option Value) (mg mb : Str → Option Value) (S : Addr) (vs : List Value) (ns : List Int) (hi : IntsAre vs ns) (hlay : PyData.layable0 (.list (ns.map .int)) = true) (hln : ns.length ≤ 63) (k : Int) (tk : Tok) (hkk : 0 ≤ k ∧ k ≤ 5) :
    Cm PySem.Challenge.rw_uf050027_04.row.prog w (k04.heap_1 w.params) vw04 (looseW vw04 []) mean mg mb 201 2 [.ref S, .int k tk] (fun h₀ _ => h₀.IsList S vs.toArray) (fun r add => add = [] ∧ ∃ t, r = .int (ns.getD k.toNat 0) t) := by
  unfold Cm
  k_fill
  w_top off
  intro dp un gd cn cs a ccd cl outer A₀ base h₀ L m news s Q E B F X N T hk hd hu hP hret
  have hl9 := hi.length
  replace hP : h₀.IsList S vs.toArray := hP
  refine wpAny_call ?_
  k_dflt cell_enter
  (rename Fr h₀ L _ m => FG9)
  have hP9 := list_up FG9 hP
  k_with_none
  k_steps
  all_goals (refine' hret _ [] _ _ ⟨rfl, ?q1⟩ (fun _ h => nomatch h) ?q2 ?q3; (case q2 => k_asm); (case q3 => k_asm); (case q1 => first | exact ⟨_, rfl⟩ | exact int_out (by omega)))
end Mine
namespace Mine
theorem c_letters (w : World) (mean : ExcName → Option Value) (mg mb : Str → Option Value) (S : Addr) (vs : List Value) (ns : List Int) (hi : IntsAre vs ns) (hlay : PyData.layable0 (.list (ns.map .int)) = true) (hln : ns.length ≤ 63) (D : Addr) :
    Cm PySem.Challenge.rw_uf050027_04.row.prog w (k04.heap_1 w.params) vw04 (looseW vw04 []) mean mg mb 267 5 [.ref S, .ref D] (fun h₀ news => h₀.IsList S vs.toArray ∧ TextsAt news D 24 42) (fun r add => ∃ D ys e ds, r = .ref D ∧ (D, ({ cls := .type "list", data := .seq (List.toArray ys) e } : Obj)) ∈ add ∧ DatAll add ys ds ∧ (∀ d ∈ ds, LetterOk d) ∧ ds.length ≤ 200) := by
  unfold Cm
  k_fill
  w_top off
  intro dp un gd cn cs a ccd cl outer A₀ base h₀ L m news s Q E B F X N T hk hd hu hP hret
  obtain ⟨hP, ysn, xsn, hmn, hsn, hln9, hxn⟩ := hP
  have hl9 := hi.length
  replace hP : h₀.IsList S vs.toArray := hP
  refine wpAny_call ?_
  k_dflt (refine' code_defC ?k1 ?k2 ?k3 ?k4 ?k5 ?kA ?kF ?kK ?k6 ?k7 ?k8 ?k9 ?kB ?kD ?_ ?c2 ?c3 ?c4; (case kA => exact rfl); (case kF => exact rfl); (case kK => assumption); (case k1 => k_asm); (case k2 => k_asm); (case k3 => k_asm); (case k4 => k_asm); (case k5 => k_asm); (case k6 => k_is); (case k7 => k_is); (case k8 => ktr_room); (case k9 => exact BindsTo.of_eq rfl); (case kB => exact rfl); (case kD => decide +kernel); (case c2 => exact rfl); (case c3 => exact rfl); (case c4 => exact rfl); k_whole; intro g' L' h' tk' cells' FG' F' N' Y' B' X' T' l1; (try k_lt l1); k_cells Y'; (try simp only [List.cons_append, List.nil_append] at N'); (try dsimp only); (try k_lift B'); (try k_fold))
  (rename Fr h₀ L _ m => FG9)
  have hP9 := list_up FG9 hP
  have ck1 := cell_ok2 hlay (Int.toNat 1)
  k_with_none
  k_with "call ref" => (k_here; (with_reducible show wpAny _ _ (call (Value.ref 208) _) _ _ _); k_dflt (refine Mine.Ct.use (Mine.c_lmix _ _ _ _ _ _ _ _) (ret := ?_)); intro t9 h9 tk9 P9 F9 N9; (try dsimp only); (try k_fold))
  k_with "call ref" => (k_here; (with_reducible show wpAny _ _ (call (Value.ref 215) _) _ _ _); k_dflt (refine Mine.Ct.use (Mine.c_lbig _ _ _ _ _ _ _ _) (ret := ?_)); intro t9 h9 tk9 P9 F9 N9; (try dsimp only); (try k_fold))
  k_with "call ref" => (k_here; (with_reducible show wpAny _ _ (call (Value.ref 222) _) _ _ _); k_dflt (refine Mine.Ct.use (Mine.c_loff _ _ _ _ _ _) (ret := ?_)); intro t9 h9 tk9 P9 F9 N9; (try dsimp only); (try k_fold))
  k_with "eval ListComp" => (k_here; k_dflt (refine Mine.ListComp_V (by k_asm) (by with_unfolding_all rfl) (by decide) (by rfl) (by decide) (by rfl) ?_))
  k_with "call ref" => (k_here; (with_reducible show wpAny _ _ (call (Value.ref 262) _) _ _ _); k_dflt (refine' Mine.Cm.use (Mine.c_letter _ _ _ _ _ _ _ _ _ ?kp0) (hp := ?kP) (ret := ?_); (case kP => exact ⟨ysn, xsn, by k_mem, hsn, hln9, hxn⟩); (case kp0 => first | trivial | ((try dsimp only); first | assumption | omega | l_fact))); intro r9 ad9 h9 tk9 ho9 hn9 F9 N9; (try dsimp only); (try k_fold))
  k_with "call ref" => (k_here; (with_reducible show wpAny _ _ (call (Value.ref 201) _) _ _ _); k_dflt (refine' Mine.Cm.use (Mine.c_cell _ _ _ _ S vs ns hi hlay hln _ _ ?kp8) (hp := ?kP) (ret := ?_); (case kP => first | exact hP9 | exact hP); (case kp8 => omega)); intro r9 ad9 h9 tk9 ho9 hn9 F9 N9; k_dflt ((obtain ⟨e9, t9, e8⟩ := ho9); subst e9; subst e8; (replace N9 : News _ _ _ _ := N9); (simp only [List.nil_append] at N9)); (try dsimp only); (try k_fold))
  k_with "subscriptTail List cons BinOp ref int" => (k_here; (with_reducible show wpAny _ _ (subscriptTail _ _ (Value.ref _) (Value.int _ _)) _ _ _); (try k_fmods); k_dflt (refine' Mine.item_bd 1 40 ?k1 ?k2 ?k3 ?k4 ?k5 ?_; (case k1 => is_list); (case k2 => l_ints); (case k3 => (simp only [List.forall_mem_cons, List.not_mem_nil, false_implies, implies_true, and_true]; (have f1 := fmb (ns.getD (Int.toNat 1) 0) 7 (by decide)); (have f2 := fmb (ns.getD (Int.toNat 1) 0) 40 (by decide)); omega)); (case k4 => (simp only [List.length_cons, List.length_nil]; (have f3 := fmb (Int.fdiv (ns.getD (Int.toNat 1) 0) 40) 2 (by decide)); omega)); (case k5 => (have f3 := fmb (Int.fdiv (ns.getD (Int.toNat 1) 0) 40) 2 (by decide); omega)); k_whole); intro t8 mn9 hm9)
  k_steps
  · (rename News _ _ _ _ => kN8)
    (rename IsRange _ _ _ _ _ _ _ _ => lR8)
    have fm8 := fmb (mix (ns.getD (Int.toNat 1) 0) 82) 160 (by decide)
    k_dflt (refine SrcU.range (n := (41 + (mix (ns.getD (Int.toNat 1) 0) 82).fmod 160).toNat) (by rfl) (by k_asm) kN8 lR8 (small_one (by decide) (by decide) (by omega) (by omega)) (range_size _ (.inl (by omega))) (by rw [sizeLine_eq]; omega) ?_)
    intro g9
    refine rest_made (fun _ d => LetterOk d) (fun nw hs => trivial) ?_ ?_
    · intro i8 v8 ys8 nw8 I8 oI8 C8 oC8 D8 m8 h8 tk8 E8 hi8 hv8 hs8 hC8 hx8 F8 N8 off8 ne88
      obtain ⟨t8, rfl⟩ := hv8
      have hi88 := cell_shift hlay (Int.toNat 1) (i := 0 + (i8 : Int)) (by omega) (by omega)
      have q1 := hs8 _ (.tail _ (.head _))
      have q2 := hs8 _ (.tail _ (.tail _ (.head _)))
      have q3 := hs8 _ (.tail _ (.tail _ (.tail _ (.head _))))
      have qn := hs8 _ (.tail _ (.tail _ (.tail _ (.tail _ hmn))))
      clear kN8
      k_steps
      all_goals exact turn_new (by k_asm) (by assumption) off8 (by assumption) (by assumption)
    · intro ys7 ad7 ds7 hap7 hD7 hl7 hok7
      intro D7 h7 tk7 F7 N7 o7
      replace hok7 : ∀ d ∈ ds7, LetterOk d := fun d h => let ⟨_, q⟩ := hok7 d h; q
      have hlen7 : ds7.length ≤ 200 := by omega
      clear kN8
      k_steps
      all_goals (refine made_ret hret (by k_asm) (by k_asm) (fun p hp => ?_) hap7 o7 ⟨D7, ys7, _, ds7, rfl, .head _, hD7.mono fun p hp => .tail _ hp, hok7, hlen7⟩; (repeat (first | exact hp | refine List.Mem.tail _ ?_)))
  · (rename News _ _ _ _ => kN8)
    (rename IntsAre _ (List.take _ _) => hI8)
    k_dflt (refine SrcU.ledger (by rfl) (by k_asm) kN8 (by k_mem) (by rw [List.size_toArray, hI8.length, List.length_take, sizeLine_eq]; omega) ?_)
    intro g9
    refine rest_made (fun _ d => LetterOk d) (fun nw hs => .inr ⟨_, hs _ (.head _), rfl, _, rfl⟩) ?_ ?_
    · intro i8 v8 ys8 nw8 I8 oI8 C8 oC8 D8 m8 h8 tk8 E8 hi8 hv8 hs8 hC8 hx8 F8 N8 off8 ne88
      obtain ⟨c8, t8, rfl, hc8⟩ := cell_item hI8 hlay hv8
      have hc88 : CellOk c8 ∧ True := ⟨hc8, trivial⟩
      have q2 := hs8 _ (.tail _ (.tail _ (.head _)))
      have q3 := hs8 _ (.tail _ (.tail _ (.tail _ (.head _))))
      have q4 := hs8 _ (.tail _ (.tail _ (.tail _ (.tail _ (.head _)))))
      have qn := hs8 _ (.tail _ (.tail _ (.tail _ (.tail _ (.tail _ hmn)))))
      clear kN8
      k_steps
      all_goals exact turn_new (by k_asm) (by assumption) off8 (by assumption) (by assumption)
    · intro ys7 ad7 ds7 hap7 hD7 hl7 hok7
      intro D7 h7 tk7 F7 N7 o7
      replace hok7 : ∀ d ∈ ds7, LetterOk d := fun d h => let ⟨_, q⟩ := hok7 d h; q
      have hlen7 : ds7.length ≤ 200 := by rw [hl7, List.size_toArray, hI8.length, List.length_take]; omega
      clear kN8
      k_steps
      all_goals (refine made_ret hret (by k_asm) (by k_asm) (fun p hp => ?_) hap7 o7 ⟨D7, ys7, _, ds7, rfl, .head _, hD7.mono fun p hp => .tail _ hp, hok7, hlen7⟩; (repeat (first | exact hp | refine List.Mem.tail _ ?_)))

end Mine
namespace Mine
theorem c_now (w : World) (mean : ExcName → Option Value) (mg mb : Str → Option Value) (S : Addr) (vs : List Value) (ns : List Int) (hi : IntsAre vs ns) (hlay : PyData.layable0 (.list (ns.map .int)) = true) (hln : ns.length ≤ 63) (C : Addr) (ys : List Value) (ds : List Dat) (k : Nat) (hok : ∀ d ∈ ds, LetterOk d) (hlen : ds.length ≤ 200) :
    Cm PySem.Challenge.rw_uf050027_04.row.prog w (k04.heap_1 w.params) vw04 (looseW vw04 []) mean mg mb 274 3 [.ref S, .ref C] (fun h₀ news => h₀.IsList S vs.toArray ∧ (C, ({ cls := .type "list", data := .seq ys.toArray k } : Obj)) ∈ news ∧ DatAll news ys ds) (fun r add => add = [] ∧ ∃ x t, r = .int x t ∧ NowOk ds x) := by
  unfold Cm
  k_fill
  w_top off
  intro dp un gd cn cs a ccd cl outer A₀ base h₀ L m news s Q E B F X N T hk hd hu hP hret
  obtain ⟨hP, hm, hD⟩ := hP
  have hl9 := hi.length
  replace hP : h₀.IsList S vs.toArray := hP
  refine wpAny_call ?_
  k_dflt cell_enter
  (rename Fr h₀ L _ m => FG9)
  have hP9 := list_up FG9 hP
  have ck2 := cell_ok2 hlay (Int.toNat 2)
  k_with_none
  k_with "call ref" => (k_here; (with_reducible show wpAny _ _ (call (Value.ref 208) _) _ _ _); k_dflt (refine Mine.Ct.use (Mine.c_lmix _ _ _ _ _ _ _ _) (ret := ?_)); intro t9 h9 tk9 P9 F9 N9; (try dsimp only); (try k_fold))
  k_with "call ref" => (k_here; (with_reducible show wpAny _ _ (call (Value.ref 215) _) _ _ _); k_dflt (refine Mine.Ct.use (Mine.c_lbig _ _ _ _ _ _ _ _) (ret := ?_)); intro t9 h9 tk9 P9 F9 N9; (try dsimp only); (try k_fold))
  k_with "call ref" => (k_here; (with_reducible show wpAny _ _ (call (Value.ref 222) _) _ _ _); k_dflt (refine Mine.Ct.use (Mine.c_loff _ _ _ _ _ _) (ret := ?_)); intro t9 h9 tk9 P9 F9 N9; (try dsimp only); (try k_fold))
  k_with "call ref" => (k_here; (with_reducible show wpAny _ _ (call (Value.ref 201) _) _ _ _); k_dflt (refine' Mine.Cm.use (Mine.c_cell _ _ _ _ S vs ns hi hlay hln _ _ ?kp8) (hp := ?kP) (ret := ?_); (case kP => first | exact hP9 | exact hP); (case kp8 => omega)); intro r9 ad9 h9 tk9 ho9 hn9 F9 N9; k_dflt ((obtain ⟨e9, t9, e8⟩ := ho9); subst e9; subst e8; (replace N9 : News _ _ _ _ := N9); (simp only [List.nil_append] at N9)); (try dsimp only); (try k_fold))
  k_with "exec For Name Name cons nil" => (k_here; (rename Fr _ _ _ _ => lF'); (with_unfolding_all refine' For_turns lF' ?_; k_whole))
  k_steps
  (rename Fr _ _ _ _ => lF')
  (rename News _ _ _ _ => lN')
  k_dflt (refine' Mine.loop_listD (σ := Int × Tok) (fun c => [(Str.ofString "_law_now_here", Value.int c.1 c.2)]) [Str.ofString "_law_letter_here"] NowUp (_, _) hD (by rfl) lF' lN' hm rfl rfl (List.forall_mem_cons.mpr ⟨rfl, List.forall_mem_nil _⟩) (now_nil (fmb (mix (ns.getD (Int.toNat 2) 0) 12) 500 (by decide))) ?_ ?_)
  (all_goals (clear lF' lN'))
  · intro pre8 d8 post8 v8 c8 u8 I8 o8 h8 tk8 e8 hd8 hI8 hP8 hne8 ho8 F8 N8
    obtain ⟨x8, tx8⟩ := c8
    dsimp only at F8
    obtain ⟨y8, se8, ba8, lo8, hi8, rfl, hxx8, h18, h28⟩ := hok d8 hd8
    obtain ⟨a8, n8, t08, t18, t28, t38, t48, rfl, hm8⟩ := dat_letter hI8
    have hb8 := hP8.1.2
    dsimp only at hb8
    k_steps
    all_goals ((rename Fr _ _ _ _ => lF8); (rename News _ _ _ _ => lN8); k_dflt (refine' Mine.still_int lF8 lN8 ?lK (List.Mem.head _) (fun p hp => List.Mem.tail _ hp) ?lO ?lR ?lP; (case lK => first | exact if_pos rfl | exact rfl); (case lO => assumption); (case lP => exact now_more hP8 (by dsimp only; omega) (by show ba8 ≤ _; omega) (by omega)); (case lR => (intro z h4 h3; (simp only [List.contains_cons, List.contains_nil, Bool.or_false, Bool.or_eq_false_iff, beq_eq_false_iff_ne, ne_eq] at h3 h4); (simp [h3, h4, kstB]; done)))))
  · intro c8 u8 h8 tk8 hP8 F8 N8
    obtain ⟨x8, tx8⟩ := c8
    dsimp only at F8
    k_with "subscriptTail List cons BinOp ref int" => (k_here; (with_reducible show wpAny _ _ (subscriptTail _ _ (Value.ref _) (Value.int _ _)) _ _ _); (try k_fmods); k_dflt (refine' Mine.item_bd 0 3000 ?k1 ?k2 ?k3 ?k4 ?k5 ?_; (case k1 => is_list); (case k2 => l_ints); (case k3 => (simp only [List.forall_mem_cons, List.not_mem_nil, false_implies, implies_true, and_true]; (have f1 := fmb (mix (ns.getD (Int.toNat 2) 0) 13) 3000 (by decide)); omega)); (case k4 => (simp only [List.length_cons, List.length_nil]; (have f3 := fmb (ns.getD (Int.toNat 2) 0) 2 (by decide)); omega)); (case k5 => (have f3 := fmb (ns.getD (Int.toNat 2) 0) 2 (by decide); omega)); k_whole); intro t8 mn9 hm9)
    k_steps
    all_goals (refine' hret _ [] _ _ ⟨rfl, _, _, rfl, now_end hP8 hm9.1 hm9.2⟩ (fun _ h => nomatch h) ?q2 ?q3; (case q2 => k_asm); (case q3 => ((rename News h₀ L _ _ => kN9); exact fun p hp => kN9 p (by (repeat (first | exact hp | refine List.Mem.tail _ ?_))))))

end Mine
namespace Mine
theorem c_within (w : World) (mean : ExcName → Option Value) (mg mb : Str → Option Value) (x l h : Int) (tx tl th : Tok) (hx : l ≤ x ∧ x ≤ h) : Con w mean mg mb 154 1 [.int x tx, .int l tl, .int h th] True (fun _ => .bool true) := by
  unfold Con Ct
  k_fill
  w_top off
  intro dp un gd cn cs a ccd cl outer A₀ base h₀ L m news s Q E B F X N T hk hd hu hret
  refine wpAny_call ?_
  k_dflt cell_enter
  k_with_none
  k_steps
  all_goals (refine' ct_retB hret trivial ?e2 ?e3 ?e4; (case e3 => k_asm); (case e4 => k_asm); (case e2 => (first | rfl | (exfalso; omega) | exact decide_eq_true (by omega))))
end Mine
namespace Mine
theorem c_need (w : World) (mean : ExcName → Option Value) (mg mb : Str → Option Value) (o : Int) (to : Tok) (ho : 0 ≤ o ∧ o ≤ 999) : Con w mean mg mb 161 2 [.int o to] True (fun _ => .none) := by
  unfold Con Ct
  k_fill
  w_top off
  intro dp un gd cn cs a ccd cl outer A₀ base h₀ L m news s Q E B F X N T hk hd hu hret
  refine wpAny_call ?_
  k_dflt cell_enter
  k_with_none
  k_with "call ref" => (k_here; (with_reducible show wpAny _ _ (call (Value.ref 154) _) _ _ _); k_dflt (refine Mine.Ct.use (Mine.c_within _ _ _ _ _ _ _ _ _ _ ?hh) (ret := ?_); (case hh => omega)); intro t9 h9 tk9 P9 F9 N9; (try dsimp only); (try k_fold))
  k_steps
  all_goals (refine' hret 0 _ _ trivial ?e3 ?e4; (case e3 => k_asm); (case e4 => k_asm))
end Mine
namespace Mine
theorem c_brought (w : World) (mean : ExcName → Option Value) (mg mb : Str → Option Value) (S : Addr) (nm : Value) (se ba lo hi now o : Int) (t₁ t₂ t₃ t₄ tn to : Tok) (c : Nat) (ho : 0 ≤ o ∧ o ≤ 999) (hp : ba ≤ now ∧ now ≤ 10000000000000 ∧ 0 ≤ se ∧ 0 ≤ ba ∧ se ≤ 2000000000000 ∧ ba ≤ 2000000000000) (hb : 0 ≤ lo ∧ lo ≤ 2000000000000 ∧ 0 ≤ hi ∧ hi ≤ 2000000000000) :
    Cm PySem.Challenge.rw_uf050027_04.row.prog w (k04.heap_1 w.params) vw04 (looseW vw04 []) mean mg mb 175 3 [.ref S, .int now tn, .int o to] (fun _ news => (S, ({ cls := .type "tuple", data := .seq #[nm, .int se t₁, .int ba t₂, .int lo t₃, .int hi t₄] c } : Obj)) ∈ news) (PairNew (lo + now - ba - sl (now - ba) o) (hi + now - se + sl (now - se) o)) := by
  unfold Cm
  k_fill
  w_top off
  intro dp un gd cn cs a ccd cl outer A₀ base h₀ L m news s Q E B F X N T hk hd hu hP hret
  refine wpAny_call ?_
  k_dflt cell_enter
  k_with_none
  k_with "call ref" => (k_here; (with_reducible show wpAny _ _ (call (Value.ref 168) _) _ _ _); k_dflt (refine Mine.Ct.use (Mine.c_slack _ _ _ _ _ _ _ _) (ret := ?_)); intro t9 h9 tk9 P9 F9 N9; (try dsimp only); (try k_fold))
  k_with "call ref" => (k_here; (with_reducible show wpAny _ _ (call (Value.ref 229) _) _ _ _); k_dflt (refine Mine.Ct.use (Mine.c_lslack _ _ _ _ _ _ _ _) (ret := ?_)); intro t9 h9 tk9 P9 F9 N9; (try dsimp only); (try k_fold))
  k_with "call ref" => (k_here; (with_reducible show wpAny _ _ (call (Value.ref 161) _) _ _ _); k_dflt (refine Mine.Ct.use (Mine.c_need _ _ _ _ _ _ ?hh) (ret := ?_); (case hh => omega)); intro t9 h9 tk9 P9 F9 N9; (try dsimp only); (try k_fold))
  k_steps
  all_goals (refine one_ret hret (by k_asm) (by k_asm) ?_ (by (first | tbn_find | exact allLt_of (by assumption))) (pair_new ?_ ?_) <;> first | (intro p9 hp9; (repeat (first | exact hp9 | refine List.Mem.tail _ ?_))) | rfl | (exfalso; omega))

end Mine
namespace Mine
theorem c_lbrought (w : World) (mean : ExcName → Option Value) (mg mb : Str → Option Value) (S : Addr) (nm : Value) (se ba lo hi now o : Int) (t₁ t₂ t₃ t₄ tn to : Tok) (c : Nat) (ho : 0 ≤ o ∧ o ≤ 999) (hp : ba ≤ now ∧ now ≤ 10000000000000 ∧ 0 ≤ se ∧ 0 ≤ ba ∧ se ≤ 2000000000000 ∧ ba ≤ 2000000000000) (hb : 0 ≤ lo ∧ lo ≤ 2000000000000 ∧ 0 ≤ hi ∧ hi ≤ 2000000000000) :
    Cm PySem.Challenge.rw_uf050027_04.row.prog w (k04.heap_1 w.params) vw04 (looseW vw04 []) mean mg mb 236 3 [.ref S, .int now tn, .int o to] (fun _ news => (S, ({ cls := .type "tuple", data := .seq #[nm, .int se t₁, .int ba t₂, .int lo t₃, .int hi t₄] c } : Obj)) ∈ news) (PairNew (lo + now - ba - sl (now - ba) o) (hi + now - se + sl (now - se) o)) := by
  unfold Cm
  k_fill
  w_top off
  intro dp un gd cn cs a ccd cl outer A₀ base h₀ L m news s Q E B F X N T hk hd hu hP hret
  refine wpAny_call ?_
  k_dflt cell_enter
  k_with_none
  k_with "call ref" => (k_here; (with_reducible show wpAny _ _ (call (Value.ref 168) _) _ _ _); k_dflt (refine Mine.Ct.use (Mine.c_slack _ _ _ _ _ _ _ _) (ret := ?_)); intro t9 h9 tk9 P9 F9 N9; (try dsimp only); (try k_fold))
  k_with "call ref" => (k_here; (with_reducible show wpAny _ _ (call (Value.ref 229) _) _ _ _); k_dflt (refine Mine.Ct.use (Mine.c_lslack _ _ _ _ _ _ _ _) (ret := ?_)); intro t9 h9 tk9 P9 F9 N9; (try dsimp only); (try k_fold))
  k_steps
  all_goals (refine one_ret hret (by k_asm) (by k_asm) ?_ (by (first | tbn_find | exact allLt_of (by assumption))) (pair_new ?_ ?_) <;> first | (intro p9 hp9; (repeat (first | exact hp9 | refine List.Mem.tail _ ?_))) | rfl | (exfalso; omega))

end Mine
namespace Mine
theorem c_sharedn (w : World) (mean : ExcName → Option Value) (mg mb : Str → Option Value) (v : Value) : Con w mean mg mb 182 1 [.none, v] True (fun _ => .none) := by
  unfold Con Ct
  k_fill
  w_top off
  intro dp un gd cn cs a ccd cl outer A₀ base h₀ L m news s Q E B F X N T hk hd hu hret
  refine wpAny_call ?_
  k_dflt cell_enter
  k_with_none
  k_steps
  all_goals (refine' hret 0 _ _ trivial ?e3 ?e4; (case e3 => k_asm); (case e4 => k_asm))
end Mine
namespace Mine
theorem c_shareds (w : World) (mean : ExcName → Option Value) (mg mb : Str → Option Value) (A B : Addr) (a₁ b₁ c₁ d₁ : Int) (ta tb tc td : Tok) (k₁ k₂ : Nat) :
    Cm PySem.Challenge.rw_uf050027_04.row.prog w (k04.heap_1 w.params) vw04 (looseW vw04 []) mean mg mb 182 1 [.ref A, .ref B] (fun _ news => (A, ({ cls := .type "tuple", data := .seq #[.int a₁ ta, .int b₁ tb] k₁ } : Obj)) ∈ news ∧ (B, ({ cls := .type "tuple", data := .seq #[.int c₁ tc, .int d₁ td] k₂ } : Obj)) ∈ news) (OptNew (Mine4.shared (some (a₁, b₁)) (c₁, d₁))) := by
  unfold Cm
  k_fill
  w_top off
  intro dp un gd cn cs a ccd cl outer A₀ base h₀ L m news s Q E B F X N T hk hd hu hP hret
  obtain ⟨hA, hB⟩ := hP
  refine wpAny_call ?_
  k_dflt cell_enter
  k_with_none
  k_steps
  all_goals (first
    | (refine none_ret hret (by k_asm) (by k_asm) ?_ (shared_no ?_) <;> first | (intro p9 hp9; (repeat (first | exact hp9 | refine List.Mem.tail _ ?_))) | omega)
    | (refine one_ret hret (by k_asm) (by k_asm) ?_ (by (first | tbn_find | exact allLt_of (by assumption))) (shared_yes ?_ ?_ ?_) <;> first | (intro p9 hp9; (repeat (first | exact hp9 | refine List.Mem.tail _ ?_))) | rfl | omega))

end Mine
namespace Mine
theorem c_gathered (w : World) (mean : ExcName → Option Value) (mg mb : Str → Option Value) (C : Addr) (ys : List Value) (ds : List Dat) (k : Nat) (hok : ∀ d ∈ ds, LetterOk d) (hlen : ds.length ≤ 200) (now o : Int) (tn to : Tok) (ho : 0 ≤ o ∧ o ≤ 999) (hnow : NowOk ds now) :
    Cm PySem.Challenge.rw_uf050027_04.row.prog w (k04.heap_1 w.params) vw04 (looseW vw04 []) mean mg mb 187 5 [.ref C, .int now tn, .int o to] (fun _ news => (C, ({ cls := .type "list", data := .seq ys.toArray k } : Obj)) ∈ news ∧ DatAll news ys ds) (fun r add => ∃ D ys e ad, r = .ref D ∧ add = (D, ({ cls := .type "list", data := .seq (List.toArray ys) e } : Obj)) :: ad ∧ (∀ p ∈ ad, p.1 ≠ D) ∧ DatAll ad ys (gathD now o ds)) := by
  unfold Cm
  k_fill
  w_top off
  intro dp un gd cn cs a ccd cl outer A₀ base h₀ L m news s Q E B F X N T hk hd hu hP hret
  obtain ⟨hm, hD⟩ := hP
  obtain ⟨hnb, hbk⟩ := hnow
  refine wpAny_call ?_
  k_dflt (refine' code_defC ?k1 ?k2 ?k3 ?k4 ?k5 ?kA ?kF ?kK ?k6 ?k7 ?k8 ?k9 ?kB ?kD ?_ ?c2 ?c3 ?c4; (case kA => exact rfl); (case kF => exact rfl); (case kK => assumption); (case k1 => k_asm); (case k2 => k_asm); (case k3 => k_asm); (case k4 => k_asm); (case k5 => k_asm); (case k6 => k_is); (case k7 => k_is); (case k8 => ktr_room); (case k9 => exact BindsTo.of_eq rfl); (case kB => exact rfl); (case kD => decide +kernel); (case c2 => exact rfl); (case c3 => exact rfl); (case c4 => exact rfl); k_whole; intro g' L' h' tk' cells' FG' F' N' Y' B' X' T' l1; (try k_lt l1); k_cells Y'; (try simp only [List.cons_append, List.nil_append] at N'); (try dsimp only); (try k_lift B'); (try k_fold))
  k_with_none
  k_with "call ref" => (k_here; (with_reducible show wpAny _ _ (call (Value.ref 161) _) _ _ _); k_dflt (refine Mine.Ct.use (Mine.c_need _ _ _ _ _ _ ?hh) (ret := ?_); (case hh => omega)); intro t9 h9 tk9 P9 F9 N9; (try dsimp only); (try k_fold))
  k_with "exec For Name Name cons nil" => (k_here; (rename Fr _ _ _ _ => lF'); (with_unfolding_all refine' For_turns lF' ?_; k_whole))
  k_steps
  (rename Fr _ _ _ _ => lF')
  (rename News _ _ _ _ => lN')
  (rename Obj.IsDictOf (PySem.strKind _ _) _ _ => hs')
  (rename (_ == sysModules) = false => lo')
  (rename (_ < _ ∧ AllLt _ news) => lB')
  (rename Obj.data _ = Data.cell (some _) => dc')
  have lC' := allLt_mem lB'.2
  k_dflt (refine' Mine.loop_list (σ := Unit) (fun _ => []) [Str.ofString "letter", Str.ofString "stretch"] (GInv PySem.Challenge.rw_uf050027_04.row.prog w _ _ (fun i => Mine4.spec ((letPs now o ds).take i))) () (by rfl) lF' lN' (.tail _ (.tail _ hm)) rfl rfl (List.forall_mem_nil _) ⟨_, [], [], rfl, (fun _ h => nomatch h), hs', KvIs.nil⟩ ?_ ?_)
  (all_goals (clear lF' lN' hs'))
  · intro i8 v8 c8 nw8 u8 I8 o8 h8 tk8 hv8 hG8 hax8 hne8 ho8 F8 N8
    obtain ⟨od8, kvs8, add8, rfl, hap8, hd8, hk8⟩ := hG8
    obtain ⟨d8, hdi8, hdm8, hI8⟩ := dat_at hD hv8
    have hb8 := hbk d8 hdm8
    have hT8 := spec_next (letPs_at (now := now) (o := o) hdi8) (letP_le (hok d8 hdm8) hb8 ho.1)
    obtain ⟨y8, se8, ba8, lo8, hi8, rfl, hxx8, h18, h28⟩ := hok d8 hdm8
    obtain ⟨a8, n8, t08, t18, t28, t38, t48, rfl, hm8⟩ := dat_letter hI8
    replace hb8 : ba8 ≤ now := hb8
    have hz8 := kv_len hk8 hlen
    have qn8 := g_left (n_tail N8)
    have qm8 := g_right (n_tail N8) _ hm8
    have qc8 := g_cell (n_tail N8)
    have qa8 := g_apart hap8 lB'.1 lC'
    have q18 := hne8 _ (.head _)
    have q28 := Ne.symm q18
    dsimp only at q18 q28
    rcases hv9 : valueAt kvs8 y8 with _ | v9
    · have hz9 := hk8.none hv9
      rw [stepP_none hz9] at hT8
      k_with "call ref" => (k_here; (with_reducible show wpAny _ _ (call (Value.ref 175) _) _ _ _); k_dflt (refine' Mine.Cm.use (Mine.c_brought _ _ _ _ _ _ _ _ _ _ _ _ _ _ _ _ _ _ _ ho ?h2 ?h3) (hp := ?kP) (ret := ?_); (case kP => (show _ ∈ _; k_mem)); (case h2 => omega); (case h3 => omega)); intro r9 ad9 h9 tk9 ho9 hn9 F9 N9; k_dflt ((obtain ⟨P9, tp9, tq9, cp9, e9, e8⟩ := ho9); subst e9; subst e8; (replace N9 := Mine.g_one N9); (have n91 := Mine.g_ne hn9); (have n92 := Ne.symm n91)); (try dsimp only); (try k_fold))
      k_with "compareOp In str ref" => (k_here; (with_reducible show wpAny _ _ (compareOp CmpOp.In (Value.str _ _) (Value.ref _)) _ _ _); (rename News _ _ _ _ => kN9); k_dflt (refine kda_in (knd := PySem.strKind _ _) kN9 ?mm hd8 lo' (strKind_is _ _ _ _) false (by rw [hv9]; rfl) ?_; (case mm => (repeat (first | exact List.Mem.head _ | refine List.Mem.tail _ ?_)))))
      k_with "setItem ref str" => (k_here; (with_reducible show wpAny _ _ (setItem (Value.ref _) (Value.str _ _) _) _ _ _); k_dflt (refine' kda_set (knd := PySem.strKind _ _) ?F ?N ?U hd8 (strKind_is _ _ _ _) ?z ?_; (case F => k_asm); (case N => k_asm); (case U => k_updF); (case z => (rw [sizeLine_eq]; omega))); intro h' o' F' N' hd'; (try dsimp only at N'))
      k_steps
      all_goals ((rename Fr _ _ _ _ => lF8); (rename News _ _ _ _ => lN8); k_dflt (refine' Mine.g_next (ts := [_]) lF8 lN8 ?gI ?gD ?gT ?gA (List.Mem.tail _ hm) hne8 hap8 ?gP (by assumption) hk8 ?gV ?gE ?gR; (case gI => (repeat (first | exact List.Mem.head _ | refine List.Mem.tail _ ?_))); (case gD => (repeat (first | exact List.Mem.head _ | refine List.Mem.tail _ ?_))); (case gT => (intro p9 hp9; rw [List.mem_singleton.mp hp9]; exact List.Mem.head _)); (case gA => (intro p9 hp9; (repeat (first | exact hp9 | refine List.Mem.tail _ ?_)))); (case gP => exact hn9); (case gE => exact hT8); (case gV => exact Mine.g_dat_some rfl (List.Mem.head _)); (case gR => (intro z h3; (simp only [List.contains_cons, List.contains_nil, Bool.or_false, Bool.or_eq_false_iff, beq_eq_false_iff_ne, ne_eq] at h3); (simp [h3, kstB]; done)))))
    · obtain ⟨o9, hz9, hw9⟩ := hk8.some hv9
      rw [stepP_some hz9] at hT8
      rcases o9 with _ | ⟨a9, b9⟩
      · cases hw9
        k_with "call ref" => (k_here; (with_reducible show wpAny _ _ (call (Value.ref 175) _) _ _ _); k_dflt (refine' Mine.Cm.use (Mine.c_brought _ _ _ _ _ _ _ _ _ _ _ _ _ _ _ _ _ _ _ ho ?h2 ?h3) (hp := ?kP) (ret := ?_); (case kP => (show _ ∈ _; k_mem)); (case h2 => omega); (case h3 => omega)); intro r9 ad9 h9 tk9 ho9 hn9 F9 N9; k_dflt ((obtain ⟨P9, tp9, tq9, cp9, e9, e8⟩ := ho9); subst e9; subst e8; (replace N9 := Mine.g_one N9); (have n91 := Mine.g_ne hn9); (have n92 := Ne.symm n91)); (try dsimp only); (try k_fold))
        k_with "compareOp In str ref" => (k_here; (with_reducible show wpAny _ _ (compareOp CmpOp.In (Value.str _ _) (Value.ref _)) _ _ _); (rename News _ _ _ _ => kN9); k_dflt (refine kda_in (knd := PySem.strKind _ _) kN9 ?mm hd8 lo' (strKind_is _ _ _ _) true (by rw [hv9]; rfl) ?_; (case mm => (repeat (first | exact List.Mem.head _ | refine List.Mem.tail _ ?_)))))
        k_with "subscriptTail Name Subscript ref str" => (k_here; (with_reducible show wpAny _ _ (subscriptTail _ _ (Value.ref _) (Value.str _ _)) _ _ _); (rename News _ _ _ _ => kN9); k_dflt (refine kda_item (knd := PySem.strKind _ _) kN9 ?mm hd8 (strKind_is _ _ _ _) hv9 ?_; (case mm => (repeat (first | exact List.Mem.head _ | refine List.Mem.tail _ ?_)))))
        k_with "call ref" => (k_here; (with_reducible show wpAny _ _ (call (Value.ref 182) [Value.none, _]) _ _ _); k_dflt (refine Mine.Ct.use (Mine.c_sharedn _ _ _ _ _) (ret := ?_)); intro t9 h9 tk9 P8 F9 N9; (try dsimp only); (try k_fold))
        k_with "setItem ref str" => (k_here; (with_reducible show wpAny _ _ (setItem (Value.ref _) (Value.str _ _) _) _ _ _); k_dflt (refine' kda_set (knd := PySem.strKind _ _) ?F ?N ?U hd8 (strKind_is _ _ _ _) ?z ?_; (case F => k_asm); (case N => k_asm); (case U => k_updF); (case z => (rw [sizeLine_eq]; omega))); intro h' o' F' N' hd'; (try dsimp only at N'))
        k_steps
        all_goals ((rename Fr _ _ _ _ => lF8); (rename News _ _ _ _ => lN8); k_dflt (refine' Mine.g_next (ts := []) lF8 lN8 ?gI ?gD ?gT ?gA (List.Mem.tail _ hm) hne8 hap8 ?gP (by assumption) hk8 ?gV ?gE ?gR; (case gI => (repeat (first | exact List.Mem.head _ | refine List.Mem.tail _ ?_))); (case gD => (repeat (first | exact List.Mem.head _ | refine List.Mem.tail _ ?_))); (case gT => exact fun _ h => nomatch h); (case gA => (intro p9 hp9; (repeat (first | exact hp9 | refine List.Mem.tail _ ?_)))); (case gP => exact fun _ h => nomatch h); (case gE => exact hT8); (case gV => exact Mine.g_dat_none rfl); (case gR => (intro z h3; (simp only [List.contains_cons, List.contains_nil, Bool.or_false, Bool.or_eq_false_iff, beq_eq_false_iff_ne, ne_eq] at h3); (simp [h3, kstB]; done)))))
      · obtain ⟨A9, n9, ta9, tb9, rfl, hA9⟩ := dat_two hw9
        have qA9 := qn8 _ hA9
        k_with "call ref" => (k_here; (with_reducible show wpAny _ _ (call (Value.ref 175) _) _ _ _); k_dflt (refine' Mine.Cm.use (Mine.c_brought _ _ _ _ _ _ _ _ _ _ _ _ _ _ _ _ _ _ _ ho ?h2 ?h3) (hp := ?kP) (ret := ?_); (case kP => (show _ ∈ _; k_mem)); (case h2 => omega); (case h3 => omega)); intro r9 ad9 h9 tk9 ho9 hn9 F9 N9; k_dflt ((obtain ⟨P9, tp9, tq9, cp9, e9, e8⟩ := ho9); subst e9; subst e8; (replace N9 := Mine.g_one N9); (have n91 := Mine.g_ne hn9); (have n92 := Ne.symm n91)); (try dsimp only); (try k_fold))
        k_with "compareOp In str ref" => (k_here; (with_reducible show wpAny _ _ (compareOp CmpOp.In (Value.str _ _) (Value.ref _)) _ _ _); (rename News _ _ _ _ => kN9); k_dflt (refine kda_in (knd := PySem.strKind _ _) kN9 ?mm hd8 lo' (strKind_is _ _ _ _) true (by rw [hv9]; rfl) ?_; (case mm => (repeat (first | exact List.Mem.head _ | refine List.Mem.tail _ ?_)))))
        k_with "subscriptTail Name Subscript ref str" => (k_here; (with_reducible show wpAny _ _ (subscriptTail _ _ (Value.ref _) (Value.str _ _)) _ _ _); (rename News _ _ _ _ => kN9); k_dflt (refine kda_item (knd := PySem.strKind _ _) kN9 ?mm hd8 (strKind_is _ _ _ _) hv9 ?_; (case mm => (repeat (first | exact List.Mem.head _ | refine List.Mem.tail _ ?_)))))
        k_with "call ref" => (k_here; (with_reducible show wpAny _ _ (call (Value.ref 182) [Value.ref _, Value.ref _]) _ _ _); k_dflt (refine' Mine.Cm.use (Mine.c_shareds _ _ _ _ _ _ _ _ _ _ _ _ _ _ _ _) (hp := ⟨?kA, ?kB⟩) (ret := ?_); (case kA => k_mem); (case kB => exact List.Mem.head _)); intro r9 ad9 h9 tk9 ho9 hn7 F9 N9; k_dflt (rcases ho9 with ⟨eo9, er9, ea9⟩ | ⟨a7, b7, eo9, P7, tp7, tq7, cp7, er9, ea9⟩ <;> (subst er9; subst ea9)); (all_goals (first | ((replace N9 := Mine.g_one N9); (have n71 := Mine.g_ne3 hn7); (have n72 := Ne.symm n71)) | (replace N9 := Mine.g_none N9))); (try dsimp only); (try k_fold))
        k_with "setItem ref str" => (k_here; (with_reducible show wpAny _ _ (setItem (Value.ref _) (Value.str _ _) _) _ _ _); k_dflt (refine' kda_set (knd := PySem.strKind _ _) ?F ?N ?U hd8 (strKind_is _ _ _ _) ?z ?_; (case F => k_asm); (case N => k_asm); (case U => k_updF); (case z => (rw [sizeLine_eq]; omega))); intro h' o' F' N' hd'; (try dsimp only at N'))
        k_steps
        all_goals (first | ((rename Fr _ _ _ _ => lF8); (rename News _ _ _ _ => lN8); k_dflt (refine' Mine.g_next (ts := [_]) lF8 lN8 ?gI ?gD ?gT ?gA (List.Mem.tail _ hm) hne8 hap8 ?gP (by assumption) hk8 ?gV ?gE ?gR; (case gI => (repeat (first | exact List.Mem.head _ | refine List.Mem.tail _ ?_))); (case gD => (repeat (first | exact List.Mem.head _ | refine List.Mem.tail _ ?_))); (case gT => (intro p9 hp9; rw [List.mem_singleton.mp hp9]; exact List.Mem.head _)); (case gA => (intro p9 hp9; (repeat (first | exact hp9 | refine List.Mem.tail _ ?_)))); (case gP => exact fun p hp q hq => hn7 p hp q (List.Mem.tail _ hq)); (case gE => exact hT8); (case gV => exact Mine.g_dat_some eo9 (List.Mem.head _)); (case gR => (intro z h3; (simp only [List.contains_cons, List.contains_nil, Bool.or_false, Bool.or_eq_false_iff, beq_eq_false_iff_ne, ne_eq] at h3); (simp [h3, kstB]; done))))) | ((rename Fr _ _ _ _ => lF8); (rename News _ _ _ _ => lN8); k_dflt (refine' Mine.g_next (ts := []) lF8 lN8 ?gI ?gD ?gT ?gA (List.Mem.tail _ hm) hne8 hap8 ?gP (by assumption) hk8 ?gV ?gE ?gR; (case gI => (repeat (first | exact List.Mem.head _ | refine List.Mem.tail _ ?_))); (case gD => (repeat (first | exact List.Mem.head _ | refine List.Mem.tail _ ?_))); (case gT => exact fun _ h => nomatch h); (case gA => (intro p9 hp9; (repeat (first | exact hp9 | refine List.Mem.tail _ ?_)))); (case gP => exact fun _ h => nomatch h); (case gE => exact hT8); (case gV => exact Mine.g_dat_none eo9); (case gR => (intro z h3; (simp only [List.contains_cons, List.contains_nil, Bool.or_false, Bool.or_eq_false_iff, beq_eq_false_iff_ne, ne_eq] at h3); (simp [h3, kstB]; done))))))
  · intro c8 nw8 u8 h8 tk8 hG8 hax8 F8 N8
    obtain ⟨od8, kvs8, add8, rfl, hap8, hd8, hk8⟩ := hG8
    have qc8 := g_cell N8
    k_with "eval ListComp" => (k_here; k_dflt (refine Mine.ListComp_Di (PySem.strKind _ _) (by k_asm) (by with_unfolding_all rfl) (by decide) (by rfl) (by decide) (by rfl) ?_))
    k_steps
    replace hk8 := kv_all hk8 hD
    have hz8 := gath_len hk8
    have hz9 := hk8.length
    have hzz := kv_len (i := ds.length) (by rw [List.take_of_length_le (by unfold letPs; rw [List.length_map]; exact Nat.le_refl _)]; exact hk8) hlen
    (rename News _ _ _ _ => kN8)
    k_dflt (refine SrcDi.intro (by rfl) (by k_asm) kN8 (List.Mem.head _) hd8 lo' (by rw [sizeLine_eq]; omega) ?_)
    intro g9
    refine rest_exact add8 (gathD now o ds) hz8 (fun nw hs => hs _ (.head _)) ?_ ?_
    · intro i7 d7 v7 ys7 nw7 I7 oI7 C7 oC7 D7 m7 h7 tk7 E7 hd7 hv7 hs7 hC7 hx7 F7 N7 off7 ne7
      obtain ⟨k7, x7, hkx7, hkv7⟩ := hv7
      obtain ⟨t7, rfl⟩ := Value.isStrOf_shape hkv7
      obtain ⟨o7, ho7, hdo7⟩ := hk8.at hkx7
      have e7 := gath_at hd7 ho7
      subst e7
      have hvx7 := valueAt_of_get (dict_nodup hd8) hkx7
      have lt7 : ∀ q ∈ (I7, oI7) :: (C7, oC7) :: (D7, LCg.lst ys7) :: nw7, q.1 < h7.objs.size := fun q hq => Heap.lt_size (N7 q hq).1
      have q7 := hs7 _ (.head _)
      have qc7 := hs7 _ (.tail _ qc8)
      k_with "subscriptTail Name Name ref str" => (k_here; (with_reducible show wpAny _ _ (subscriptTail _ _ (Value.ref _) (Value.str _ _)) _ _ _); (rename News _ _ _ _ => kN9); k_dflt (refine kda_item (knd := PySem.strKind _ _) kN9 ?mm hd8 (strKind_is _ _ _ _) hvx7 ?_; (case mm => k_mem)))
      clear kN8
      k_steps
      all_goals exact turn_pair lt7 (by k_asm) (by k_asm) off7 (.tuple (List.Mem.head _) (.cons (.str _ _) (.cons (hdo7.mono fun _ h => .tail _ h) .nil)))
    · intro ys7 ad7 hap7 hD7
      intro D7 h7 tk7 F7 N7 o7
      clear kN8
      k_steps
      all_goals exact gath_ret hret (by k_asm) (by k_asm) hap7 hap8 o7 hD7

end Mine
namespace Mine
theorem c_lgathered (w : World) (mean : ExcName → Option Value) (mg mb : Str → Option Value) (C : Addr) (ys : List Value) (ds : List Dat) (k : Nat) (hok : ∀ d ∈ ds, LetterOk d) (hlen : ds.length ≤ 200) (now o : Int) (tn to : Tok) (ho : 0 ≤ o ∧ o ≤ 999) (hnow : NowOk ds now) :
    Cm PySem.Challenge.rw_uf050027_04.row.prog w (k04.heap_1 w.params) vw04 (looseW vw04 []) mean mg mb 279 5 [.ref C, .int now tn, .int o to] (fun _ news => (C, ({ cls := .type "list", data := .seq ys.toArray k } : Obj)) ∈ news ∧ DatAll news ys ds) (fun r add => ∃ D ys e, r = .ref D ∧ (D, ({ cls := .type "list", data := .seq (List.toArray ys) e } : Obj)) ∈ add ∧ DatAll add ys (gathD now o ds)) := by
  unfold Cm
  k_fill
  w_top off
  intro dp un gd cn cs a ccd cl outer A₀ base h₀ L m news s Q E B F X N T hk hd hu hP hret
  obtain ⟨hm, hD⟩ := hP
  obtain ⟨hnb, hbk⟩ := hnow
  refine wpAny_call ?_
  k_dflt (refine' code_defC ?k1 ?k2 ?k3 ?k4 ?k5 ?kA ?kF ?kK ?k6 ?k7 ?k8 ?k9 ?kB ?kD ?_ ?c2 ?c3 ?c4; (case kA => exact rfl); (case kF => exact rfl); (case kK => assumption); (case k1 => k_asm); (case k2 => k_asm); (case k3 => k_asm); (case k4 => k_asm); (case k5 => k_asm); (case k6 => k_is); (case k7 => k_is); (case k8 => ktr_room); (case k9 => exact BindsTo.of_eq rfl); (case kB => exact rfl); (case kD => decide +kernel); (case c2 => exact rfl); (case c3 => exact rfl); (case c4 => exact rfl); k_whole; intro g' L' h' tk' cells' FG' F' N' Y' B' X' T' l1; (try k_lt l1); k_cells Y'; (try simp only [List.cons_append, List.nil_append] at N'); (try dsimp only); (try k_lift B'); (try k_fold))
  k_with_none
  k_with "exec For Name ListComp cons nil" => (k_here; (rename Fr _ _ _ _ => lF'); (with_unfolding_all refine' For_turns lF' ?_; k_whole))
  k_with "eval ListComp" => (k_here; k_dflt (refine Mine.ListComp_V (by k_asm) (by with_unfolding_all rfl) (by decide) (by rfl) (by decide) (by rfl) ?_))
  k_steps
  (rename News _ _ _ _ => kN8)
  (rename (_ < _ ∧ _ < _ ∧ _ < _ ∧ AllLt _ news) => lB')
  have lC' := allLt_mem lB'.2.2.2
  k_dflt (refine SrcU.ledger (by rfl) (by k_asm) kN8 (.tail _ (.tail _ (.tail _ (.tail _ hm)))) (by rw [List.size_toArray, hD.length, sizeLine_eq]; omega) ?_)
  intro g9
  refine rest_texts nameD hD (.inr ⟨_, .tail _ (.tail _ (.tail _ (.tail _ hm))), rfl, _, rfl⟩) ?_ ?_
  · intro d8 v8 ys8 I8 oI8 C8 oC8 D8 m8 h8 tk8 E8 hd8 hI8 hC8 hx8 F8 N8 off8 ne8
    obtain ⟨y8, se8, ba8, lo8, hi8, rfl, hxx8, h18, h28⟩ := hok d8 hd8
    obtain ⟨a8, n8, t08, t18, t28, t38, t48, rfl, hm8⟩ := dat_letter hI8
    clear kN8
    k_steps
    all_goals (refine CompTurn.intro (by k_asm) (by k_asm) _ ?cS ?cO trivial ⟨rfl, _, rfl⟩; (case cS => first | exact fun _ h => h | kst_inAny); (case cO => assumption))
  · intro ys9 hs9
    intro D9 h9 tk9 F9 N9 o9
    clear kN8
    have lD' := off1_mem o9
    k_steps
    (rename Fr _ _ _ _ => lF9)
    (rename News _ _ _ _ => lN9)
    replace lN9 := l_order lN9
    have dD1 := lD' _ (.head _)
    have dD2 := lD' _ (.tail _ (.head _))
    k_dflt (refine' Mine.loop_list (σ := Unit) (fun _ => []) [Str.ofString "_law_some", Str.ofString "_law_low", Str.ofString "_law_high"] (LInv _ _ _ (TL now o ds)) () (by rfl) lF9 lN9 (.tail _ (.tail _ (.head _))) rfl rfl (List.forall_mem_nil _) ⟨[], 0, _, [], rfl, (fun _ h => nomatch h), ⟨_, by assumption⟩, .nil⟩ ?_ ?_)
    (all_goals (clear lF9 lN9))
    · intro i8 v8 c8 nw8 u8 I8 o8 h8 tk8 hv8 hL8 hax8 hne8 ho8 F8 N8
      k_with "storeName str" => (k_here; (with_reducible show wpAny _ _ (storeName _ (PySem.Str.ofString "_law_name") _) _ _ _); k_dflt (refine' storeX_C ?uF ?uN ?uc ?uU ?ud ?_ ?ua ?ub; (case ua => rfl); (case ub => rfl); (case uF => k_asm); (case uN => k_asm); (case uc => rfl); (case uU => k_updF); (case ud => exact hoN8); k_whole); intro h' o' F' N' d'; (try dsimp only at N'))
      obtain ⟨mv8, em8, oN8, add8, rfl, hap8, ⟨xN8, hoN8⟩, hM8⟩ := hL8
      obtain ⟨x8, t8, hx8, rfl⟩ := strs_at hs9 hv8
      have q18 : @Ne Nat _ _ := hne8 _ (.head _)
      have q28 : @Ne Nat _ _ := hne8 _ (.tail _ (.head _))
      have qa8 := l_apart N8 (fun p hp => (hap8 p hp).1) (Ne.symm dD1) (Nat.ne_of_lt lB'.2.1) (Nat.ne_of_lt lB'.2.2.1) (fun p hp => Nat.ne_of_lt (lC' p hp))
      have qd8 := l_apart N8 (fun p hp => (hap8 p hp).2.1) (Ne.symm dD2) (Nat.ne_of_lt (Nat.lt_succ_self _)) (by omega) (fun p hp => Nat.ne_of_lt (Nat.lt_of_lt_of_le (l1 p hp) (by omega)))
      obtain ⟨qn8, qb8⟩ := l_right N8
      have qc81 := qb8 _ (.tail _ (.head _))
      have qc82 := qb8 _ (.tail _ (.tail _ (.head _)))
      have qm8 := qb8 _ (.tail _ (.tail _ (.tail _ hm)))
      dsimp only at q18 q28
      have hz8 : mv8.length ≤ 1000 := by rw [hM8.length]; exact Nat.le_trans TL_len (by omega)
      k_steps
      (rename News _ _ _ _ => kN8)
      k_dflt (refine SrcU.ledger (by rfl) (by k_asm) kN8 (.tail _ (.head _)) (by rw [List.size_toArray, sizeLine_eq]; omega) ?_)
      intro g7
      refine rest_texts nameD hM8 (.inr ⟨_, .tail _ (.head _), rfl, _, rfl⟩) ?_ ?_
      · intro d7 v7 ys7 I7 oI7 C7 oC7 D7 m7 h7 tk7 E7 hd7 hI7 hC7 hx7 F7 N7 off7 ne7
        obtain ⟨nm7, op7, rfl⟩ := TL_mem hd7
        obtain ⟨a7, k7, t7, u7, rfl, hm7, _⟩ := dat_pair hI7
        have q7 := qn8 _ hm7
        clear kN8
        k_steps
        all_goals (refine CompTurn.intro (by k_asm) (by k_asm) _ ?cS ?cO trivial ⟨rfl, _, rfl⟩; (case cS => first | exact fun _ h => h | kst_inAny); (case cO => assumption))
      · intro ys7 hs7
        intro D7 h7 tk7 F7 N7 o7
        rw [TL_names] at hs7
        clear kN8
        have lD7 := off1_mem o7
        by_cases hx9 : x8 ∈ Mine4.firsts ((ds.map nameD).take i8)
        · k_with "compareOp NotIn str ref" => (k_here; (with_reducible show wpAny _ _ (compareOp CmpOp.NotIn (Value.str _ _) (Value.ref _)) _ _ _); k_dflt (refine Mine.notin_t (News.isList (by k_asm) (List.Mem.head _)) hs7 hx9 ?_))
          k_steps
          all_goals ((rename Fr _ _ _ _ => lF8); (rename News _ _ _ _ => lN8); k_dflt (refine' Mine.l_next (ts := []) lF8 lN8 ?gI ?gM ?gC ?gO ?gT ?gA (List.Mem.head _) hne8 hap8 ?gP ?gD ?gR; (case gI => (repeat (first | exact List.Mem.head _ | refine List.Mem.tail _ ?_))); (case gM => (repeat (first | exact List.Mem.head _ | refine List.Mem.tail _ ?_))); (case gC => (repeat (first | exact List.Mem.head _ | refine List.Mem.tail _ ?_))); (case gO => exact ⟨_, by assumption⟩); (case gT => exact fun _ h => nomatch h); (case gA => (intro p9 hp9; (repeat (first | exact hp9 | refine List.Mem.tail _ ?_)))); (case gP => exact fun _ h => nomatch h); (case gD => (rw [Mine.TL_in hx8 hx9]; exact hM8)); (case gR => (intro z h3; (simp only [List.contains_cons, List.contains_nil, Bool.or_false, Bool.or_eq_false_iff, beq_eq_false_iff_ne, ne_eq] at h3); (simp [h3, kstB]; done)))))
        · k_with "compareOp NotIn str ref" => (k_here; (with_reducible show wpAny _ _ (compareOp CmpOp.NotIn (Value.str _ _) (Value.ref _)) _ _ _); k_dflt (refine Mine.notin_f (News.isList (by k_asm) (List.Mem.head _)) hs7 hx9 ?_))
          k_with "exec Assign cons ListComp" => (k_here; k_dflt (refine Mine.Assign_ListComp_VT (by k_asm) (by rfl) (by with_unfolding_all rfl) (by with_unfolding_all rfl) (by decide) (by rfl) (by decide) (by rfl) (by rfl) (by rfl) ?_))
          k_steps
          (rename News _ _ _ _ => kN8)
          k_dflt (refine SrcUT.ledger (by rfl) (by k_asm) kN8 (.tail _ (.tail _ (.tail _ (.tail _ qm8)))) (by rw [List.size_toArray, hD.length, sizeLine_eq]; omega) ?_)
          intro g6
          refine rest_filterX (fun d => decide ((letP now o d).1 = x8)) (gdD now o) hD (fun nw hs => .inr ⟨_, hs _ (.tail _ (.tail _ (.tail _ (.tail _ qm8)))), rfl, _, rfl⟩) ?_ ?_
          · intro d6 v6 ys6 nw6 I6 oI6 C6 oC6 D6 m6 h6 tk6 E6 hd6 hI6 hs6 hC6 hx6 F6 N6 off6 ne6
            have hb6 := hbk d6 hd6
            obtain ⟨y6, se6, ba6, lo6, hi6, rfl, hxx6, h16, h26⟩ := hok d6 hd6
            obtain ⟨a6, n6, t06, t16, t26, t36, t46, rfl, hm6⟩ := dat_letter hI6
            replace hb6 : ba6 ≤ now := hb6
            have q61 := hs6 _ (.tail _ (.tail _ (.tail _ (.head _))))
            have q62 := hs6 _ (.tail _ (.tail _ (.tail _ (.tail _ qc81))))
            have q63 := hs6 _ (.tail _ (.tail _ (.tail _ (.tail _ qc82))))
            have q64 := hs6 _ (.tail _ (.tail _ (.tail _ (.tail _ (qb8 _ (.tail _ (.tail _ (.tail _ hm6))))))))
            clear kN8
            k_with "call ref" => (k_here; (with_reducible show wpAny _ _ (call (Value.ref 236) _) _ _ _); k_dflt (refine' Mine.Cm.use (Mine.c_lbrought _ _ _ _ _ _ _ _ _ _ _ _ _ _ _ _ _ _ _ ho ?h2 ?h3) (hp := ?kP) (ret := ?_); (case kP => (show _ ∈ _; k_mem)); (case h2 => omega); (case h3 => omega)); intro r9 ad9 h9 tk9 ho9 hn9 F9 N9; k_dflt ((obtain ⟨P9, tp9, tq9, cp9, e9, e8⟩ := ho9); subst e9; subst e8); (try dsimp only); (try k_fold))
            k_steps
            all_goals (first | (refine turn_yes (add := [_]) (by k_asm) (by k_asm) off6 hn9 ?_ (.tuple (List.Mem.head _) (.cons (.int _ _) (.cons (.int _ _) .nil))); exact decide_eq_true (show y6 = x8 by first | assumption | (simp_all; done))) | (refine turn_no (by k_asm) (by k_asm) off6 ?_; exact decide_eq_false (show ¬ y6 = x8 by first | assumption | (simp_all; done))))
          · intro zs6 ad6 hap6 hZ6
            intro D6 h6 tk6 F6 N6 o6
            clear kN8
            have lD6 := off1_mem o6
            have hin6 := l_in N6
            have hzl6 : zs6.length ≤ 200 := by rw [hZ6.length, List.length_map]; exact Nat.le_trans (List.length_filter_le ..) hlen
            obtain ⟨d8, hdm8, hdn8⟩ : ∃ d ∈ ds, nameD d = x8 := List.mem_map.mp (List.mem_of_getElem? hx8)
            have hno8 := ofName_some (now := now) (o := o) (x := x8) hdm8 (by rw [letP_name (hok d8 hdm8)]; exact hdn8)
            k_steps
            (rename News _ _ _ _ => kN8)
            k_dflt (refine SrcU.ledger (by rfl) (by k_asm) kN8 (.head _) (by rw [List.size_toArray, sizeLine_eq]; omega) ?_)
            intro g5
            refine rest_ints fstD hZ6 (.inr ⟨_, .head _, rfl, _, rfl⟩) ?_ ?_
            · intro d5 v5 ys5 I5 oI5 C5 oC5 D5 m5 h5 tk5 E5 hd5 hI5 hC5 hx5 F5 N5 off5 ne5
              obtain ⟨e5, he5, rfl⟩ := List.mem_map.mp hd5
              obtain ⟨a5, n5, t5, u5, rfl, hm5⟩ := dat_two hI5
              have q5 := hin6 _ hm5
              clear kN8
              k_steps
              all_goals (refine CompTurn.intro (by k_asm) (by k_asm) _ ?cS ?cO trivial ⟨rfl, _, rfl⟩; (case cS => first | exact fun _ h => h | kst_inAny); (case cO => assumption))
            · intro ys5 hs5
              intro D5 h5 tk5 F5 N5 o5
              rw [fst_ds] at hs5
              clear kN8
              have lD5 := off1_mem o5
              k_with "call builtin:max" => (k_here; (with_reducible show wpAny _ _ (call (Value.builtin _) [Value.ref _]) _ _ _); (rename News _ _ _ _ => kN9); k_dflt (refine' kso_max ?qF kN9 ?ql hs5 ?qn ?qh ?_; (case qF => k_asm); (case ql => exact kso_isList (its := ys5.toArray) kN9 (List.Mem.head _) rfl); (case qn => (rw [List.length_map]; exact List.length_pos_iff.mpr hno8)); (case qh => rfl)); intro h4 M4 tM4 kM4 FM4 NM4 aM4 bM4; k_dflt ((have hM4 := Mine.max_is hno8 aM4 bM4); subst hM4); (try dsimp only); (try k_fold))
              k_steps
              (rename News _ _ _ _ => kN8)
              k_dflt (refine SrcU.ledger (by rfl) (by k_asm) kN8 (.tail _ (.head _)) (by rw [List.size_toArray, sizeLine_eq]; omega) ?_)
              intro g4
              refine rest_ints sndD hZ6 (.inr ⟨_, .tail _ (.head _), rfl, _, rfl⟩) ?_ ?_
              · intro d5 v5 ys4 I5 oI5 C5 oC5 D5 m5 h5 tk5 E5 hd5 hI5 hC5 hx5 F5 N5 off5 ne5
                obtain ⟨e5, he5, rfl⟩ := List.mem_map.mp hd5
                obtain ⟨a5, n5, t5, u5, rfl, hm5⟩ := dat_two hI5
                have q5 := hin6 _ hm5
                clear kN8
                k_steps
                all_goals (refine CompTurn.intro (by k_asm) (by k_asm) _ ?cS ?cO trivial ⟨rfl, _, rfl⟩; (case cS => first | exact fun _ h => h | kst_inAny); (case cO => assumption))
              · intro ys4 hs4
                intro D4 h4 tk4 F4 N4 o4
                rw [snd_ds] at hs4
                clear kN8
                k_with "call builtin:min" => (k_here; (with_reducible show wpAny _ _ (call (Value.builtin _) [Value.ref _]) _ _ _); (rename News _ _ _ _ => kN9); k_dflt (refine' kso_min ?qF kN9 ?ql hs4 ?qn ?qh ?_; (case qF => k_asm); (case ql => exact kso_isList (its := ys4.toArray) kN9 (List.Mem.head _) rfl); (case qn => (rw [List.length_map]; exact List.length_pos_iff.mpr hno8)); (case qh => rfl)); intro h3 M3 tM3 kM3 FM3 NM3 aM3 bM3; k_dflt ((have hM3 := Mine.min_is hno8 aM3 bM3); subst hM3; (replace NM3 := Mine.l_drop NM3); clear kN9); (try dsimp only); (try k_fold))
                k_with "call builtin:list.append" => (k_here; (with_reducible show wpAny _ _ (call (Value.builtin _) [Value.ref _, _]) _ _ _); k_dflt (refine' append_K ?k1 ?k2 ?k3 ?_ ?z; (case k1 => k_asm); (case k2 => k_asm); (case k3 => k_upd); (case z => (rw [List.size_toArray, sizeLine_eq]; omega)); k_whole); intro h' F' N')
                k_steps
                all_goals (first | ((rename Fr _ _ _ _ => lF8); (rename News _ _ _ _ => lN8); k_dflt (refine' Mine.l_app2 lF8 lN8 ?gI ?gM ?gC ?gO ?gA (List.Mem.head _) hne8 hap8 (by assumption) (by assumption) hM8 ?gV ?gE ?gR; (case gI => (repeat (first | exact List.Mem.head _ | refine List.Mem.tail _ ?_))); (case gM => (repeat (first | exact List.Mem.head _ | refine List.Mem.tail _ ?_))); (case gC => (repeat (first | exact List.Mem.head _ | refine List.Mem.tail _ ?_))); (case gO => exact ⟨_, by assumption⟩); (case gA => (intro p9 hp9; (repeat (first | exact hp9 | refine List.Mem.tail _ ?_)))); (case gE => exact Mine.TL_new hx8 hx9); (case gV => exact Mine.name_dat (List.Mem.head _) (Mine.g_dat_some (Mine.meet_yes (by assumption)) (List.Mem.tail _ (List.Mem.head _)))); (case gR => (intro z h3; (simp only [List.contains_cons, List.contains_nil, Bool.or_false, Bool.or_eq_false_iff, beq_eq_false_iff_ne, ne_eq] at h3); (simp [h3, kstB]; done))))) | ((rename Fr _ _ _ _ => lF8); (rename News _ _ _ _ => lN8); k_dflt (refine' Mine.l_app1 lF8 lN8 ?gI ?gM ?gC ?gO ?gA (List.Mem.head _) hne8 hap8 (by assumption) hM8 ?gV ?gE ?gR; (case gI => (repeat (first | exact List.Mem.head _ | refine List.Mem.tail _ ?_))); (case gM => (repeat (first | exact List.Mem.head _ | refine List.Mem.tail _ ?_))); (case gC => (repeat (first | exact List.Mem.head _ | refine List.Mem.tail _ ?_))); (case gO => exact ⟨_, by assumption⟩); (case gA => (intro p9 hp9; (repeat (first | exact hp9 | refine List.Mem.tail _ ?_)))); (case gE => exact Mine.TL_new hx8 hx9); (case gV => exact Mine.name_dat (List.Mem.head _) (Mine.g_dat_none (Mine.meet_no (by assumption)))); (case gR => (intro z h3; (simp only [List.contains_cons, List.contains_nil, Bool.or_false, Bool.or_eq_false_iff, beq_eq_false_iff_ne, ne_eq] at h3); (simp [h3, kstB]; done))))))
    · intro c8 nw8 u8 h8 tk8 hL8 hax8 F8 N8
      obtain ⟨mv8, em8, oN8, add8, rfl, hap8, ⟨xN8, hoN8⟩, hM8⟩ := hL8
      k_steps
      all_goals exact lg_ret hret (by k_asm) (by k_asm) hap8 lC' hM8 (TL_end hs9 hok)

end Mine
namespace Mine
theorem c_whole (w : World) (mean : ExcName → Option Value) (mg mb : Str → Option Value) (x : Int) (tx : Tok) : Con w mean mg mb 194 1 [.int x tx] True (fun _ => .bool (true)) := by
  unfold Con Ct
  k_fill
  w_top off
  intro dp un gd cn cs a ccd cl outer A₀ base h₀ L m news s Q E B F X N T hk hd hu hret
  refine wpAny_call ?_
  k_dflt cell_enter
  k_with_none
  k_steps
  all_goals (refine' hret (0 : Nat) _ _ trivial ?e3 ?e4; (case e3 => k_asm); (case e4 => k_asm))
end Mine
namespace Mine
theorem c_pairs (w : World) (mean : ExcName → Option Value) (mg mb : Str → Option Value) (Fa Du : Addr) (ys₁ ys₂ : List Value) (es : List Dat) (e₁ e₂ : Nat) (hok : ∀ d ∈ es, PairOk d) (hlen : es.length ≤ 200) :
    Cv PySem.Challenge.rw_uf050027_04.row.prog w (k04.heap_1 w.params) vw04 (looseW vw04 []) mean mg mb 284 12 [.ref Fa, .ref Du] (fun news => ((Fa, ({ cls := .type "list", data := .seq ys₁.toArray e₁ } : Obj)) ∈ news ∧ DatAll news ys₁ es) ∧ (Du, ({ cls := .type "list", data := .seq ys₂.toArray e₂ } : Obj)) ∈ news ∧ DatAll news ys₂ es) (fun r => r = .bool true) := by
  unfold Cv
  k_fill
  w_top off
  intro dp un gd cn cs a ccd cl outer A₀ base h₀ L m news s Q E B F X N T hk hd hu hP hret
  obtain ⟨⟨hm1, hD1⟩, hm2, hD2⟩ := hP
  have hl1 := hD1.length
  have hl2 := hD2.length
  refine wpAny_call ?_
  k_dflt cell_enter
  k_with_none
  k_with "exec For Name Call cons nil" => (k_here; (rename Fr _ _ _ _ => lF'); (with_unfolding_all refine' For_turns lF' ?_; k_whole))
  k_with "call ref" => (k_here; (with_reducible show wpAny _ _ (call (Value.ref 194) _) _ _ _); k_dflt (refine Mine.Ct.use (Mine.c_whole _ _ _ _ _ _) (ret := ?_)); intro t9 h9 tk9 P9 F9 N9; (try dsimp only); (try k_fold))
  k_with "call builtin:len" => (k_here; (with_reducible show wpAny _ _ (call (Value.builtin _) [Value.ref Fa]) _ _ _); (rename News _ _ _ _ => kN9); k_dflt (refine' Mine.len_led kN9 ?lm7 hl1 ?lz7 ?_; (case lm7 => k_mem); (case lz7 => omega)))
  k_with "call builtin:len" => (k_here; (with_reducible show wpAny _ _ (call (Value.builtin _) [Value.ref Du]) _ _ _); (rename News _ _ _ _ => kN9); k_dflt (refine' Mine.len_led kN9 ?lm7 hl2 ?lz7 ?_; (case lm7 => k_mem); (case lz7 => omega)))
  k_steps
  any_goals (exfalso; omega)
  (rename Fr _ _ _ _ => lF')
  (rename News _ _ _ _ => lN')
  (rename IsRange _ _ _ _ _ _ _ _ => lR')
  k_dflt (refine' Mine.loop_range (n := es.length) (σ := Unit) (fun _ => []) [Str.ofString "_law_k"] (fun _ _ nw => nw = news) () (by rfl) lF' lN' lR' (small_one (by decide) (by decide) (by omega) (by omega)) (range_size _ (.inl rfl)) (List.forall_mem_nil _) rfl ?_ ?_)
  (all_goals (clear lF' lN'))
  · intro i8 t8 c8 nw8 u8 I8 o8 h8 tk8 hi8 hw8 hne8 ho8 F8 N8
    replace hw8 := hw8.symm
    subst hw8
    obtain ⟨v8, hv8, hI8⟩ := hD1.get hi8
    obtain ⟨nm8, op8, hd8, hn8⟩ := hok _ (List.getElem_mem hi8)
    rw [hd8] at hI8
    obtain ⟨a8, k8, tn8, uu8, rfl, hm8, hu8⟩ := dat_pair hI8
    k_with "subscriptTail Name Name ref int" => (k_here; (with_reducible show wpAny _ _ (subscriptTail _ _ (Value.ref Fa) (Value.int _ _)) _ _ _); (rename News _ _ _ _ => kN9); k_dflt (refine Mine.item_ix kN9 (by k_mem) hv8 (by omega) (by omega) ?_))
    rcases op8 with _ | ⟨lo8, hi8⟩
    · cases hu8
      k_steps
      all_goals ((rename Fr _ _ _ _ => lF8); (rename News _ _ _ _ => lN8); k_dflt (refine' Mine.LoopTurn.nextR () news lF8 lN8 (List.Mem.head _) (fun p hp => List.Mem.tail _ hp) hne8 (List.forall_mem_nil _) ?lR rfl; (case lR => (intro z _ h3; (simp only [List.contains_cons, List.contains_nil, Bool.or_false, Bool.or_eq_false_iff, beq_eq_false_iff_ne, ne_eq] at h3); (simp [h3, kstB]; done)))))
    · obtain ⟨b8, kb8, tl8, th8, rfl, hb8⟩ := dat_two hu8
      k_with "eval ListComp" => (k_here; k_dflt (refine Mine.ListComp_TuT (by k_asm) (by with_unfolding_all rfl) (by decide) (by rfl) (by decide) (by rfl) ?_))
      k_steps
      (rename News _ _ _ _ => kN8)
      k_dflt (refine SrcT.intro (by rfl) (by k_asm) kN8 (.tail _ hb8) (Nat.le_of_ble_eq_true rfl) ?_)
      intro g7
      refine rest_filter (fun _ => false) (n₁ := []) (vs := [.int lo8 tl8, .int hi8 th8]) (ds := [.int lo8, .int hi8]) (.cons (.int _ _) (.cons (.int _ _) .nil)) ⟨_, .tail _ hb8, rfl, _, rfl⟩ ?_ ?_
      · intro d7 v7 ys7 I7 oI7 C7 oC7 D7 m7 h7 tk7 E7 hd7 hI7 hC7 hx7 F7 N7 off7 ne7
        obtain ⟨k7, t7, rfl⟩ := two_int hd7 hI7
        clear kN8
        k_steps
        all_goals (refine CompTurn.intro (by k_asm) (by k_asm) _ ?cS ?cO trivial ⟨rfl, rfl⟩; (case cS => first | exact fun _ h => h | kst_inAny); (case cO => assumption))
      · intro ys7 hy7
        obtain rfl := no_data hy7
        intro D7 h7 tk7 F7 N7 o7
        clear kN8
        k_with "compareOp NotEq ref ref" => (k_here; (with_reducible show wpAny _ _ (compareOp CmpOp.NotEq (Value.ref _) (Value.ref _)) _ _ _); (rename News _ _ _ _ => kN9); k_dflt (refine' Mine.g_ne_same (ds := []) (xs := []) (ys := []) (n₁ := []) (n₂ := []) kN9 (List.Mem.tail _ (List.Mem.head _)) rfl rfl .nil (fun _ h => nomatch h) (List.Mem.head _) rfl rfl .nil (fun _ h => nomatch h) (fun _ h => nomatch h) ?ni7 ?_; (case ni7 => first | ke_room | ktr_units)))
        k_steps
        all_goals ((rename Fr _ _ _ _ => lF8); (rename News _ _ _ _ => lN8); k_dflt (refine' Mine.LoopTurn.nextR () news lF8 lN8 ?lI ?lS hne8 (List.forall_mem_nil _) ?lR rfl; (case lI => (repeat (first | exact List.Mem.head _ | refine List.Mem.tail _ ?_))); (case lS => (intro p9 hp9; (repeat (first | exact hp9 | refine List.Mem.tail _ ?_)))); (case lR => (intro z _ h3; (simp only [List.contains_cons, List.contains_nil, Bool.or_false, Bool.or_eq_false_iff, beq_eq_false_iff_ne, ne_eq] at h3); (simp [h3, kstB]; done)))))
  · intro c8 nw8 u8 h8 tk8 hw8 F8 N8
    replace hw8 := hw8.symm
    subst hw8
    k_with "compareOp Eq ref ref" => (k_here; (with_reducible show wpAny _ _ (compareOp CmpOp.Eq (Value.ref _) (Value.ref _)) _ _ _); (rename News _ _ _ _ => kN9); k_dflt (refine' Mine.g_eq_same kN9 hm1 rfl rfl hD1 (fun _ h => h) hm2 rfl rfl hD2 (fun _ h => h) (fun d h => Mine.pairok_kqd (hok d h)) ?ni7 ?_; (case ni7 => first | ke_room | ktr_units)))
    k_steps
    all_goals (refine' hret _ _ _ rfl ?q2 ?q3; (case q2 => k_asm); (case q3 => k_asm))
end Mine
namespace Mine
section
open PySem PySem.W PyProof.Rows PySem.Spec PySem.Calls
noncomputable def ExcAt (x D : Addr) (h : Heap) : Prop := ∃ ox : Obj, h.get? x = some ox ∧ ox.cls = .ref D
theorem ExcAt.type {x D : Addr} {M : Model} {h : Heap} (I : ExcAt x D h) : Looks M h (typeOf (.ref x)) (.ref D) := by
  obtain ⟨ox, hx, hc⟩ := I
  exact hc ▸ (Looks.ld hx).andThen .now
variable {prog : Program} {w : World} {A : Around} {E : Value → Shared → Prop} {s : Shared} {K : Frag} {x D : Addr}
theorem exc_find {M : Model} {h : Heap} (X : K.In h) (ha : findIn K (.ref D) "__class__" = some (some (.builtin "object.__class__"))) (hn : specialIn K (.builtin "object.__class__") "__get__" = some (some (.builtin "getset_descriptor.__get__")))
    (htk : takesIn K (.builtin "object.__class__") = some true) : Looks M h (Builtin.ObjectAttr.find (.ref x) (.ref D) "__class__") (.bind (.builtin "getset_descriptor.__get__") (.builtin "object.__class__")) := by
  have L1 := looks_findIn (M := M) X ha
  have L2 : Looks M h (Builtin.ObjectAttr.getOf (some (.builtin "object.__class__"))) (some (.builtin "getset_descriptor.__get__")) := looks_specialIn X hn
  have L3 := looks_takesIn (M := M) X htk
  exact L1.andThen (L2.andThen ((show Looks M h (Builtin.ObjectAttr.dataDescriptor? (some (.builtin "object.__class__")) (some (.builtin "getset_descriptor.__get__"))) (some (.builtin "getset_descriptor.__get__", .builtin "object.__class__")) from L3.andThen .now).andThen (Looks.tag .now)))
theorem exc_classGet {R : Result → Shared → Prop} {tp : Value} (X : K.In s.heap) (I : ExcAt x D s.heap) (hm : mroIn K D (.type "object") = some true)
    (h : R (.ok (.ret (.ref D))) s) : codeAny (model prog w) A (.call (.builtin "getset_descriptor.__get__") ⟨[.builtin "object.__class__", .ref x, tp], []⟩) R s := by
  obtain ⟨hh, g, dr, t, os⟩ := s
  have L0 := I.type (M := model prog w)
  have L1 := looks_mroIn (M := model prog w) X hm
  refine codeAny_call_builtin KF.slot_gs.plain KF.entry_gs (KF.slot_gs.check _ _ _ _ _ _ _ _ KF.type_class (KF.args_gs _ _ _) ?_)
  unfold Builtin.«getset_descriptor.__get__» Builtin.Getset_descriptor.descrGet
  rw [dga_obj]
  refine wpAny_bind (wpAny_pure ?_)
  unfold Builtin.Getset_descriptor.descrGetter Builtin.Getset_descriptor.descrCheckInstance Builtin.Getset_descriptor.descrNameAndClass isInstance
  simp only [KF.owner_class]
  repeat lk
  refine ⟨Code.quiet_builtin _ (by decide +kernel), codeAny_builtin KF.entry_class ?_⟩
  unfold Builtin.«object.__class__» shownTypeOf
  repeat lk
  exact h
theorem exc_entry {tk : Tok} {Q : Fin → Shared → Prop} (X : K.In s.heap) (I : ExcAt x D s.heap)
    (ha : findIn K (.ref D) "__class__" = some (some (.builtin "object.__class__"))) (hn : specialIn K (.builtin "object.__class__") "__get__" = some (some (.builtin "getset_descriptor.__get__"))) (htk : takesIn K (.builtin "object.__class__") = some true)
    (hm : mroIn K D (.type "object") = some true) (h : Q (.done (.ret (.ref D))) s) :
    wpAny (model prog w) A (Builtin.«object.__getattribute__» ⟨[.ref x, .str "__class__" tk], []⟩) Q E s := by
  obtain ⟨hh, g, d, t, os⟩ := s
  have L0 := I.type (M := model prog w)
  have L1 := exc_find (x := x) (M := model prog w) X ha hn htk
  unfold Builtin.«object.__getattribute__»
  repeat lk
  show wpAny _ _ (run (.call (.builtin "getset_descriptor.__get__") ⟨[.builtin "object.__class__", .ref x, .ref D], []⟩)) _ _ _
  refine wpAny_run (exc_classGet X I hm ?_)
  show wpAny _ _ (pure (Value.ref D)) _ _ _
  exact wpAny_pure (wpAny_pure h)
theorem exc_check {tk : Tok} {Q : Unit → Shared → Prop} (X : K.In s.heap) (I : ExcAt x D s.heap) (hb : mroIn K D (.type "BaseException") = some true) (h : Q () s) :
    wpAny (model prog w) A (checkBuiltinCall "BaseException.__getattribute__" ⟨[.ref x, .str "__class__" tk], []⟩) Q E s := by
  obtain ⟨hh, g, d, t, os⟩ := s
  have L0 := I.type (M := model prog w)
  have L1 := looks_mroIn (M := model prog w) X hb
  have hk : builtinKind "BaseException.__getattribute__" = some .slot := by decide +kernel
  have hsplit : splitId "BaseException.__getattribute__" = some ("BaseException", "__getattribute__") := by decide +kernel
  have ha := F.args_bexc_ga (.ref x) (.str "__class__" tk)
  simp only [checkBuiltinCall, hk, hsplit]
  unfold isInstance
  repeat lk
  exact h
theorem exc_class {Q : Option Value → Shared → Prop} (X : K.In s.heap) (I : ExcAt x D s.heap) (hga : findIn K (.ref D) "__getattribute__" = some (some (.builtin "BaseException.__getattribute__"))) (hgt : findIn K (.ref D) "__getattr__" = some none)
    (ha : findIn K (.ref D) "__class__" = some (some (.builtin "object.__class__"))) (hn : specialIn K (.builtin "object.__class__") "__get__" = some (some (.builtin "getset_descriptor.__get__"))) (htk : takesIn K (.builtin "object.__class__") = some true)
    (hm : mroIn K D (.type "object") = some true) (hb : mroIn K D (.type "BaseException") = some true)
    (h : Q (some (.ref D)) { s with toks := s.toks + 1 }) : wpAny (model prog w) A (getAttr? (.ref x) "__class__") Q E s := by
  obtain ⟨hh, g, d, t, os⟩ := s
  have L0 := I.type (M := model prog w)
  have L1 := looks_findIn (M := model prog w) X hga
  have L2 := looks_findIn (M := model prog w) X hgt
  unfold getAttr? getAttrBy? getAttrBy
  refine wpAny_bind (wpAny_mkText (wpAny_bind (wpAny_attempt (wpAny_holding (wpAny_bind (L0.at (wpAny_bind (L1.at ?_))))))))
  show wpAny _ _ (getAttrByItsOwn _ _ _ _ _ _) _ _ _
  unfold getAttrByItsOwn hookBefore
  refine wpAny_bind (L2.at (wpAny_bind (wpAny_attempt (wpAny_holding ?_))))
  show wpAny _ _ (boundAndCalled _ _ _) _ _ _
  unfold boundAndCalled
  have hbs : bindSpecial (.builtin "BaseException.__getattribute__") (.ref x) = pure (.builtin "BaseException.__getattribute__", [.ref x]) := by
    have hop : withoutEnding? "BaseException.__getattribute__" "#opaque" = none := by decide +kernel
    have hdat : withoutEnding? "BaseException.__getattribute__" "#data" = none := by decide +kernel
    have hk : builtinKind "BaseException.__getattribute__" = some .slot := by decide +kernel
    simp only [bindSpecial, typeOf, builtinType, hop, hdat, hk]; rfl
  rw [hbs]
  have hpl : plainId "BaseException.__getattribute__" = true := by decide +kernel
  refine wpAny_bind (wpAny_pure (wpAny_call (codeAny_call_builtin hpl F.entry_bexc_ga (exc_check (s := ⟨hh, g, d, t + 1, os⟩) X I hb (exc_entry (s := ⟨hh, g, d, t + 1, os⟩) X I ha hn htk hm ?_)))))
  show wpAny _ _ (handedOut (Value.ref D)) _ _ _
  exact handed_on rfl (wpAny_pure h)
theorem exc_kit (hga : findIn K (.ref D) "__getattribute__" = some (some (.builtin "BaseException.__getattribute__"))) (hgt : findIn K (.ref D) "__getattr__" = some none)
    (ha : findIn K (.ref D) "__class__" = some (some (.builtin "object.__class__"))) (hn : specialIn K (.builtin "object.__class__") "__get__" = some (some (.builtin "getset_descriptor.__get__"))) (htk : takesIn K (.builtin "object.__class__") = some true)
    (hcl : isClsIn K D = true) (hm : mroIn K D (.type "object") = some true) (hb : mroIn K D (.type "BaseException") = some true) :
    KitX K (.ref x) (.ref D) (ExcAt x D) where
  ty := fun M h X I => I.type
  it := fun M h X _ => by
    unfold isClsIn at hcl
    unfold clsIn at hcl
    split at hcl
    · rename_i c' d' cd' sl' ho
      intro A' Q' E' s' k q
      unfold isType loadHead
      exact wpAny_bind (wpAny_loadPart (k _ _ (X _ _ ho)) (wpAny_pure q))
    · cases hcl
  ne := fun h tp dd its n sl X htp => by
    unfold isClsIn at hcl
    unfold clsIn at hcl
    split at hcl
    · rename_i c' d' cd' sl' ho
      refine Bool.eq_false_iff.mpr fun q => ?_
      have e := Value.ref.inj (beq_iff_eq.mp q)
      have := X _ _ ho
      rw [e, htp] at this
      cases this
    · cases hcl
  ca := fun {_ _ _ _ _ s} X I h => exc_class X I hga hgt ha hn htk hm hb h
theorem exc_isi {Q : Value → Shared → Prop} {c : Value} {b : Bool} {h₀ : Heap} {L : Addr} {news : List (Addr × Obj)} {oe : Obj} (N : News h₀ L s.heap news) (he : (x, oe) ∈ news) (hc : oe.cls = .ref D) (X : K.In s.heap)
    (hga : findIn K (.ref D) "__getattribute__" = some (some (.builtin "BaseException.__getattribute__"))) (hgt : findIn K (.ref D) "__getattr__" = some none)
    (ha : findIn K (.ref D) "__class__" = some (some (.builtin "object.__class__"))) (hn : specialIn K (.builtin "object.__class__") "__get__" = some (some (.builtin "getset_descriptor.__get__"))) (htk : takesIn K (.builtin "object.__class__") = some true)
    (hcl : isClsIn K D = true) (hm : mroIn K D (.type "object") = some true) (hb : mroIn K D (.type "BaseException") = some true) (ee : kitOne K (.ref D) c = some b) (h : ∀ tk, Q (.bool b) { s with toks := tk }) :
    wpAny (model prog w) A (call (.builtin "isinstance") [.ref x, c]) Q E s :=
  kia_one (exc_kit hga hgt ha hn htk hcl hm hb) X ⟨oe, (N _ he).1, hc⟩ ee (by intro q; cases q) h
end
end Mine
namespace Mine
open PySem PySem.W PyProof.Rows
noncomputable def Ck (prog : Program) (w : World) (K : Frag) (p : Program) (loose : List Str) (mean : ExcName → Option Value) (mg mb : Str → Option Value) (f : Addr) (sz : Nat) (vs : List Value) (P : List (Addr × Obj) → Prop) (R : Tok → Value) : Prop :=
  ∀ (hdl : Option Value) (dp un : Nat) (gd : Option (List Code)) (cn : Str) (cs : Scope) (a : Addr) (ccd : Value) (cl : List (Str × Addr)) (outer : List Env) (A₀ : Around) (base h₀ : Heap) (L : Addr) (m : Str → Option Value) (news : List (Addr × Obj)) (s : Shared) (Q E : Value → Shared → Prop),
    Below A₀ base outer h₀ → Fr h₀ L s.heap m → K.In h₀ → News h₀ L s.heap news → Top p loose mean mg mb h₀ → cs.kind = .function → dp + sz < recursionLimit → un + 8 * sz < cLine → P news →
    (∀ (t : Tok) (h' : Heap) (tk' : Nat), Fr h₀ L h' m → News h₀ L h' news → Q (R t) { s with heap := h', toks := tk' }) →
    wpAny (model prog w) { ktrTop dp un gd cn cs L a ccd cl outer with handled := hdl } (call (.ref f) vs) Q E s
theorem Ck.use {prog : Program} {w : World} {K : Frag} {p : Program} {loose : List Str} {mean : ExcName → Option Value} {mg mb : Str → Option Value} {f : Addr} {sz : Nat} {vs : List Value} {P : List (Addr × Obj) → Prop} {R : Tok → Value} (C : Ck prog w K p loose mean mg mb f sz vs P R)
    {hdl : Option Value} {dp un : Nat} {gd : Option (List Code)} {cn : Str} {cs : Scope} {a : Addr} {ccd : Value} {cl : List (Str × Addr)} {outer : List Env} {A₀ : Around} {base h₀ : Heap} {L : Addr} {m : Str → Option Value} {news : List (Addr × Obj)} {s : Shared} {Q E : Value → Shared → Prop}
    (B : Below A₀ base outer h₀ := by k_asm) (F : Fr h₀ L s.heap m := by k_asm) (X : K.In h₀ := by k_asm) (N : News h₀ L s.heap news := by k_asm) (T : Top p loose mean mg mb h₀ := by k_asm) (hk : cs.kind = .function := by first | exact rfl | assumption) (hd : dp + sz < recursionLimit := by first | assumption | omega | ktr_room) (hu : un + 8 * sz < cLine := by first | assumption | omega | ktr_units) (hp : P news := by first | trivial | k_mem)
    (ret : ∀ (t : Tok) (h' : Heap) (tk' : Nat), Fr h₀ L h' m → News h₀ L h' news → Q (R t) { s with heap := h', toks := tk' }) :
    wpAny (model prog w) { ktrTop dp un gd cn cs L a ccd cl outer with handled := hdl } (call (.ref f) vs) Q E s := C _ _ _ _ _ _ _ _ _ _ _ _ _ _ _ _ _ _ _ B F X N T hk hd hu hp ret
theorem ck_retS {h₀ h' : Heap} {L : Addr} {m : Str → Option Value} {news : List (Addr × Obj)} {s : Shared} {Q : Value → Shared → Prop} {t : Tok} {tk' : Nat} {x y : Str}
    (hret : ∀ (t : Tok) (h' : Heap) (tk' : Nat), Fr h₀ L h' m → News h₀ L h' news → Q (.str x t) { s with heap := h', toks := tk' }) (e : y = x) (F : Fr h₀ L h' m) (N : News h₀ L h' news) : Q (.str y t) { s with heap := h', toks := tk' } := by
  subst e
  exact hret t h' tk' F N
end Mine
namespace Mine
section
open PySem PySem.W PyProof.Rows PySem.SeqAt
variable {prog : Program} {w : World} {A : Around} {E : Value → Shared → Prop} {s : Shared}
noncomputable def isB : Value → Bool
  | .bool _ => true
  | _ => false
noncomputable def isT : Value → Bool
  | .bool b => b
  | _ => false
theorem isT_eq {v : Value} (h : isB v = true) (A : Around) (s : Shared) : EqAt A s v (.bool true) (isT v) := by
  cases v <;> first | (rename_i b; have e := EqAt.bool_bool (A := A) (s := s) b true; cases b <;> exact e) | cases h
theorem count_true {l : Addr} {vs : List Value} {n : Nat} {Q : Value → Shared → Prop} (hl : s.heap.IsList l vs.toArray) (hb : vs.all isB = true) (hn : vs.countP isT = n) {z : Int} (hz : ((n : Nat) : Int) = z)
    (h : Q (.int z s.toks) { s with toks := s.toks + 1 }) : wpAny (model prog w) A (call (.builtin "list.count") [.ref l, .bool true]) Q E s := by
  subst hz
  subst hn
  obtain ⟨⟨cls, dd, data, sl⟩, ho, hc, n, hd⟩ := id hl
  simp only at hc hd
  subst hc hd
  exact call_meets PySem.F.slot_list_count ⟨_, ho, rfl⟩ PySem.F.entry_list_count (PySem.F.args_list_count_2 _ _) (list_countAt l vs.toArray n dd sl (.bool true) isT)
    ⟨ho, fun y hy => isT_eq (List.all_eq_true.mp hb y (by simpa using hy)) _ _, h⟩
noncomputable def firstT : List Value → Nat → Bool
  | [], _ => false
  | v :: _, 0 => isT v
  | v :: r, j + 1 => !isT v && firstT r j
theorem firstT_at : ∀ {vs : List Value} {j : Nat}, firstT vs j = true → ∃ hj : j < vs.length, isT vs[j] = true ∧ ∀ m (hm : m < vs.length), m < j → isT vs[m] = false
  | [], j, h => by cases j <;> cases h
  | v :: r, 0, h => ⟨Nat.succ_pos _, h, fun m _ hlt => absurd hlt (Nat.not_lt_zero _)⟩
  | v :: r, j + 1, h => by
    simp only [firstT, Bool.and_eq_true, Bool.not_eq_true'] at h
    obtain ⟨hj, h1, h2⟩ := firstT_at h.2
    refine ⟨Nat.succ_lt_succ hj, h1, fun m hm hlt => ?_⟩
    cases m with
    | zero => exact h.1
    | succ m => exact h2 m (Nat.lt_of_succ_lt_succ hm) (Nat.lt_of_succ_lt_succ hlt)
theorem index_true {l : Addr} {vs : List Value} {j : Nat} {Q : Value → Shared → Prop} (hl : s.heap.IsList l vs.toArray) (hb : vs.all isB = true) (hj : firstT vs j = true) (hs : j < 1000) {z : Int} (hz : ((j : Nat) : Int) = z)
    (h : Q (.int z s.toks) { s with toks := s.toks + 1 }) : wpAny (model prog w) A (call (.builtin "list.index") [.ref l, .bool true]) Q E s := by
  subst hz
  obtain ⟨⟨cls, dd, data, sl⟩, ho, hc, n, hd⟩ := id hl
  simp only at hc hd
  subst hc hd
  obtain ⟨hlt, h1, h2⟩ := firstT_at hj
  exact call_meets PySem.F.slot_list_index ⟨_, ho, rfl⟩ PySem.F.entry_list_index (PySem.F.args_list_index_2 _ _)
    (list_indexAt l vs.toArray n dd sl (.bool true) isT j (by simpa using hlt) (by omega) (by simpa using h1) (fun m hm hlt' => by simpa using h2 m (by simpa using hm) hlt')) ⟨ho, fun y hy => isT_eq (List.all_eq_true.mp hb y (by simpa using hy)) _ _, h⟩
end
end Mine
namespace Mine
theorem ite_nt {P Q : Prop} (h : Q) : if (!true) = true then P else Q := by simpa using h
theorem ite_nf {P Q : Prop} (h : P) : if (!false) = true then P else Q := by simpa using h
end Mine
namespace Mine
theorem ite_f {P Q : Prop} (h : Q) : if false = true then P else Q := by simpa using h
theorem ite_t {P Q : Prop} (h : P) : if true = true then P else Q := by simpa using h
end Mine
namespace Mine
theorem c_kind_off (w : World) (mean : ExcName → Option Value) (mg mb : Str → Option Value) (e : Addr) (oe : Obj) (hc : oe.cls = .ref 61) :
    Ck PySem.Challenge.rw_uf050027_04.row.prog w (k04.heap_1 w.params) vw04 (looseW vw04 []) mean mg mb 243 1 [.ref e] (fun news => (e, oe) ∈ news) (fun t => .str (Str.ofString "off") t) := by
  unfold Ck
  k_fill
  w_top off
  intro hdl dp un gd cn cs a ccd cl outer A₀ base h₀ L m news s Q E B F X N T hk hd hu he hret
  refine wpAny_call ?_
  k_dflt cell_enter
  k_with_none
  k_with "call builtin:isinstance" => (k_here; (with_reducible show wpAny _ _ (call (Value.builtin "isinstance") [Value.ref _, _]) _ _ _); k_dflt (refine' Mine.exc_isi ?N ?he ?hc ?X ?a1 ?a2 ?a3 ?a4 ?a5 ?a6 ?a7 ?a8 ?ee ?_; (case N => k_asm); (case hc => assumption); (case he => repeat (first | assumption | refine List.mem_cons_of_mem _ ?_)); (case X => k_in); (case a1 => k_is); (case a2 => k_is); (case a3 => k_is); (case a4 => k_is); (case a5 => k_is); (case a6 => k_is); (case a7 => k_is); (case a8 => k_is); (case ee => kit_is)); intro _)
  k_with "call builtin:list.count" => (k_here; (with_reducible show wpAny _ _ (call (Value.builtin _) [Value.ref _, Value.bool _]) _ _ _); k_dflt (refine' Mine.count_true (n := 1) ?k1 ?k2 ?k3 (z := 1) (by rfl) ?_; (case k1 => is_list); (case k2 => rfl); (case k3 => rfl)))
  k_with "call builtin:list.index" => (k_here; (with_reducible show wpAny _ _ (call (Value.builtin _) [Value.ref _, Value.bool _]) _ _ _); k_dflt (first | (refine' Mine.index_true (j := 0) ?k1 ?k2 ?k3 (by decide) (z := 0) (by rfl) ?_; (case k1 => is_list); (case k2 => rfl); (case k3 => rfl)) | (refine' Mine.index_true (j := 1) ?k1 ?k2 ?k3 (by decide) (z := 1) (by rfl) ?_; (case k1 => is_list); (case k2 => rfl); (case k3 => rfl)) | (refine' Mine.index_true (j := 2) ?k1 ?k2 ?k3 (by decide) (z := 2) (by rfl) ?_; (case k1 => is_list); (case k2 => rfl); (case k3 => rfl)) | (refine' Mine.index_true (j := 3) ?k1 ?k2 ?k3 (by decide) (z := 3) (by rfl) ?_; (case k1 => is_list); (case k2 => rfl); (case k3 => rfl)) | (refine' Mine.index_true (j := 6) ?k1 ?k2 ?k3 (by decide) (z := 6) (by rfl) ?_; (case k1 => is_list); (case k2 => rfl); (case k3 => rfl)) | (refine' Mine.index_true (j := 9) ?k1 ?k2 ?k3 (by decide) (z := 9) (by rfl) ?_; (case k1 => is_list); (case k2 => rfl); (case k3 => rfl))))
  k_with "ite" => ((with_reducible show ite ((!true) = true) _ _); refine Mine.ite_nt ?_)
  k_with "ite" => ((with_reducible show ite ((!false) = true) _ _); refine Mine.ite_nf ?_)
  k_with "ite" => ((with_reducible show ite (false = true) _ _); refine Mine.ite_f ?_)
  k_with "ite" => ((with_reducible show ite (true = true) _ _); refine Mine.ite_t ?_)
  k_steps
  all_goals (refine' ck_retS hret ?e2 ?e3 ?e4; (case e3 => k_asm); (case e4 => first | k_asm | (refine' cb_drop ?cbN ?cbS; (case cbN => assumption); (case cbS => kcj_all))); (case e2 => rfl))
theorem u_kind_off {w : World} {mean : ExcName → Option Value} {mg mb : Str → Option Value} {e t₁ : Addr} {n₂ : List (Addr × Obj)} {vs : List Value} (G : Got n₂ e t₁ (.ref 61) vs)
    {hdl : Option Value} {dp un : Nat} {gd : Option (List Code)} {cn : Str} {cs : Scope} {a : Addr} {ccd : Value} {cl : List (Str × Addr)} {outer : List Env} {A₀ : Around} {base h₀ : Heap} {L : Addr} {m : Str → Option Value} {news : List (Addr × Obj)} {s : Shared} {Q E : Value → Shared → Prop}
    (N₂ : News h₀ L s.heap n₂) (B : Below A₀ base outer h₀) (F : Fr h₀ L s.heap m) (X : (k04.heap_1 w.params).In h₀) (N : News h₀ L s.heap news) (T : Top vw04 (looseW vw04 []) mean mg mb h₀) (hk : cs.kind = .function) (hd : dp + 1 < recursionLimit) (hu : un + 8 * 1 < cLine)
    (ret : ∀ (t : Tok) (h' : Heap) (tk' : Nat), Fr h₀ L h' m → News h₀ L h' news → Q (.str (Str.ofString "off") t) { s with heap := h', toks := tk' }) :
    wpAny (model PySem.Challenge.rw_uf050027_04.row.prog w) { ktrTop dp un gd cn cs L a ccd cl outer with handled := hdl } (call (.ref 243) [.ref e]) Q E s := by
  obtain ⟨oe, ot, ws, nt, h1, _, hc, _⟩ := G
  exact (c_kind_off w mean mg mb e oe hc).use B F X (N₂.append N) T hk hd hu (List.mem_append.mpr (.inl h1)) fun t h' tk' F' N' => ret t h' tk' F' fun p hp => N' p (List.mem_append.mpr (.inr hp))
end Mine
namespace Mine
theorem c_kind_early (w : World) (mean : ExcName → Option Value) (mg mb : Str → Option Value) (e : Addr) (oe : Obj) (hc : oe.cls = .ref 73) :
    Ck PySem.Challenge.rw_uf050027_04.row.prog w (k04.heap_1 w.params) vw04 (looseW vw04 []) mean mg mb 243 1 [.ref e] (fun news => (e, oe) ∈ news) (fun t => .str (Str.ofString "early") t) := by
  unfold Ck
  k_fill
  w_top off
  intro hdl dp un gd cn cs a ccd cl outer A₀ base h₀ L m news s Q E B F X N T hk hd hu he hret
  refine wpAny_call ?_
  k_dflt cell_enter
  k_with_none
  k_with "call builtin:isinstance" => (k_here; (with_reducible show wpAny _ _ (call (Value.builtin "isinstance") [Value.ref _, _]) _ _ _); k_dflt (refine' Mine.exc_isi ?N ?he ?hc ?X ?a1 ?a2 ?a3 ?a4 ?a5 ?a6 ?a7 ?a8 ?ee ?_; (case N => k_asm); (case hc => assumption); (case he => repeat (first | assumption | refine List.mem_cons_of_mem _ ?_)); (case X => k_in); (case a1 => k_is); (case a2 => k_is); (case a3 => k_is); (case a4 => k_is); (case a5 => k_is); (case a6 => k_is); (case a7 => k_is); (case a8 => k_is); (case ee => kit_is)); intro _)
  k_with "call builtin:list.count" => (k_here; (with_reducible show wpAny _ _ (call (Value.builtin _) [Value.ref _, Value.bool _]) _ _ _); k_dflt (refine' Mine.count_true (n := 1) ?k1 ?k2 ?k3 (z := 1) (by rfl) ?_; (case k1 => is_list); (case k2 => rfl); (case k3 => rfl)))
  k_with "call builtin:list.index" => (k_here; (with_reducible show wpAny _ _ (call (Value.builtin _) [Value.ref _, Value.bool _]) _ _ _); k_dflt (first | (refine' Mine.index_true (j := 0) ?k1 ?k2 ?k3 (by decide) (z := 0) (by rfl) ?_; (case k1 => is_list); (case k2 => rfl); (case k3 => rfl)) | (refine' Mine.index_true (j := 1) ?k1 ?k2 ?k3 (by decide) (z := 1) (by rfl) ?_; (case k1 => is_list); (case k2 => rfl); (case k3 => rfl)) | (refine' Mine.index_true (j := 2) ?k1 ?k2 ?k3 (by decide) (z := 2) (by rfl) ?_; (case k1 => is_list); (case k2 => rfl); (case k3 => rfl)) | (refine' Mine.index_true (j := 3) ?k1 ?k2 ?k3 (by decide) (z := 3) (by rfl) ?_; (case k1 => is_list); (case k2 => rfl); (case k3 => rfl)) | (refine' Mine.index_true (j := 6) ?k1 ?k2 ?k3 (by decide) (z := 6) (by rfl) ?_; (case k1 => is_list); (case k2 => rfl); (case k3 => rfl)) | (refine' Mine.index_true (j := 9) ?k1 ?k2 ?k3 (by decide) (z := 9) (by rfl) ?_; (case k1 => is_list); (case k2 => rfl); (case k3 => rfl))))
  k_with "ite" => ((with_reducible show ite ((!true) = true) _ _); refine Mine.ite_nt ?_)
  k_with "ite" => ((with_reducible show ite ((!false) = true) _ _); refine Mine.ite_nf ?_)
  k_with "ite" => ((with_reducible show ite (false = true) _ _); refine Mine.ite_f ?_)
  k_with "ite" => ((with_reducible show ite (true = true) _ _); refine Mine.ite_t ?_)
  k_steps
  all_goals (refine' ck_retS hret ?e2 ?e3 ?e4; (case e3 => k_asm); (case e4 => first | k_asm | (refine' cb_drop ?cbN ?cbS; (case cbN => assumption); (case cbS => kcj_all))); (case e2 => rfl))
theorem u_kind_early {w : World} {mean : ExcName → Option Value} {mg mb : Str → Option Value} {e t₁ : Addr} {n₂ : List (Addr × Obj)} {vs : List Value} (G : Got n₂ e t₁ (.ref 73) vs)
    {hdl : Option Value} {dp un : Nat} {gd : Option (List Code)} {cn : Str} {cs : Scope} {a : Addr} {ccd : Value} {cl : List (Str × Addr)} {outer : List Env} {A₀ : Around} {base h₀ : Heap} {L : Addr} {m : Str → Option Value} {news : List (Addr × Obj)} {s : Shared} {Q E : Value → Shared → Prop}
    (N₂ : News h₀ L s.heap n₂) (B : Below A₀ base outer h₀) (F : Fr h₀ L s.heap m) (X : (k04.heap_1 w.params).In h₀) (N : News h₀ L s.heap news) (T : Top vw04 (looseW vw04 []) mean mg mb h₀) (hk : cs.kind = .function) (hd : dp + 1 < recursionLimit) (hu : un + 8 * 1 < cLine)
    (ret : ∀ (t : Tok) (h' : Heap) (tk' : Nat), Fr h₀ L h' m → News h₀ L h' news → Q (.str (Str.ofString "early") t) { s with heap := h', toks := tk' }) :
    wpAny (model PySem.Challenge.rw_uf050027_04.row.prog w) { ktrTop dp un gd cn cs L a ccd cl outer with handled := hdl } (call (.ref 243) [.ref e]) Q E s := by
  obtain ⟨oe, ot, ws, nt, h1, _, hc, _⟩ := G
  exact (c_kind_early w mean mg mb e oe hc).use B F X (N₂.append N) T hk hd hu (List.mem_append.mpr (.inl h1)) fun t h' tk' F' N' => ret t h' tk' F' fun p hp => N' p (List.mem_append.mpr (.inr hp))
end Mine
namespace Mine
open PySem PySem.W PyProof.Rows
noncomputable def Cz (prog : Program) (w : World) (K : Frag) (p : Program) (loose : List Str) (mean : ExcName → Option Value) (mg mb : Str → Option Value) (f : Addr) (vs : List Value) (P : List (Addr × Obj) → Prop) (R : Tok → Value) : Prop :=
  ∀ (cn : Str) (cs : Scope) (a : Addr) (ccd : Value) (A₀ : Around) (base h₀ : Heap) (L : Addr) (m : Str → Option Value) (news : List (Addr × Obj)) (s : Shared) (Q E : Value → Shared → Prop),
    Below A₀ base [] h₀ → Fr h₀ L s.heap m → K.In h₀ → News h₀ L s.heap news → Top p loose mean mg mb h₀ → K.In base → Top p loose mean mg mb base → cs.kind = .function → P news →
    (∀ (t : Tok) (h' : Heap) (tk' : Nat), Fr h₀ L h' m → News h₀ L h' news → Q (R t) { s with heap := h', toks := tk' }) →
    wpAny (model prog w) (callerA.deeper (envOf cn cs L a ccd)) (call (.ref f) vs) Q E s
theorem Cz.use {prog : Program} {w : World} {K : Frag} {p : Program} {loose : List Str} {mean : ExcName → Option Value} {mg mb : Str → Option Value} {f : Addr} {vs : List Value} {P : List (Addr × Obj) → Prop} {R : Tok → Value} (C : Cz prog w K p loose mean mg mb f vs P R)
    {cn : Str} {cs : Scope} {a : Addr} {ccd : Value} {A₀ : Around} {base h₀ : Heap} {L : Addr} {m : Str → Option Value} {news : List (Addr × Obj)} {s : Shared} {Q E : Value → Shared → Prop}
    (B : Below A₀ base [] h₀ := by k_asm) (F : Fr h₀ L s.heap m := by k_asm) (X : K.In h₀ := by k_asm) (N : News h₀ L s.heap news := by k_asm) (T : Top p loose mean mg mb h₀ := by k_asm) (XB : K.In base := by assumption) (TB : Top p loose mean mg mb base := by assumption) (hk : cs.kind = .function := by first | exact rfl | assumption) (hp : P news := by first | trivial | k_mem)
    (ret : ∀ (t : Tok) (h' : Heap) (tk' : Nat), Fr h₀ L h' m → News h₀ L h' news → Q (R t) { s with heap := h', toks := tk' }) :
    wpAny (model prog w) (callerA.deeper (envOf cn cs L a ccd)) (call (.ref f) vs) Q E s := C _ _ _ _ _ _ _ _ _ _ _ _ _ B F X N T XB TB hk hp ret
noncomputable def Cz2 (prog : Program) (w : World) (K : Frag) (p : Program) (loose : List Str) (mean : ExcName → Option Value) (mg mb : Str → Option Value) (f : Addr) (vs : List Value) (P : List (Addr × Obj) → Prop) (R₁ R₂ : Tok → Value) (Fc : Prop) : Prop :=
  ∀ (cn : Str) (cs : Scope) (a : Addr) (ccd : Value) (A₀ : Around) (base h₀ : Heap) (L : Addr) (m : Str → Option Value) (news : List (Addr × Obj)) (s : Shared) (Q E : Value → Shared → Prop),
    Below A₀ base [] h₀ → Fr h₀ L s.heap m → K.In h₀ → News h₀ L s.heap news → Top p loose mean mg mb h₀ → K.In base → Top p loose mean mg mb base → cs.kind = .function → P news →
    (∀ (D : Addr) (t₁ t₂ : Tok) (c : Nat) (h' : Heap) (tk' : Nat), Fc → Fr h₀ L h' m → News h₀ L h' ((D, ({ cls := .type "tuple", data := .seq #[R₁ t₁, R₂ t₂] c } : Obj)) :: news) → (∀ p ∈ news, p.1 < D) → Q (.ref D) { s with heap := h', toks := tk' }) →
    wpAny (model prog w) (callerA.deeper (envOf cn cs L a ccd)) (call (.ref f) vs) Q E s
theorem Cz2.use {prog : Program} {w : World} {K : Frag} {p : Program} {loose : List Str} {mean : ExcName → Option Value} {mg mb : Str → Option Value} {f : Addr} {vs : List Value} {P : List (Addr × Obj) → Prop} {R₁ R₂ : Tok → Value} {Fc : Prop} (C : Cz2 prog w K p loose mean mg mb f vs P R₁ R₂ Fc)
    {cn : Str} {cs : Scope} {a : Addr} {ccd : Value} {A₀ : Around} {base h₀ : Heap} {L : Addr} {m : Str → Option Value} {news : List (Addr × Obj)} {s : Shared} {Q E : Value → Shared → Prop}
    (B : Below A₀ base [] h₀ := by k_asm) (F : Fr h₀ L s.heap m := by k_asm) (X : K.In h₀ := by k_asm) (N : News h₀ L s.heap news := by k_asm) (T : Top p loose mean mg mb h₀ := by k_asm) (XB : K.In base := by assumption) (TB : Top p loose mean mg mb base := by assumption) (hk : cs.kind = .function := by first | exact rfl | assumption) (hp : P news := by first | trivial | k_mem)
    (ret : ∀ (D : Addr) (t₁ t₂ : Tok) (c : Nat) (h' : Heap) (tk' : Nat), Fc → Fr h₀ L h' m → News h₀ L h' ((D, ({ cls := .type "tuple", data := .seq #[R₁ t₁, R₂ t₂] c } : Obj)) :: news) → (∀ p ∈ news, p.1 < D) → Q (.ref D) { s with heap := h', toks := tk' }) :
    wpAny (model prog w) (callerA.deeper (envOf cn cs L a ccd)) (call (.ref f) vs) Q E s := C _ _ _ _ _ _ _ _ _ _ _ _ _ B F X N T XB TB hk hp ret
end Mine
section
local macro_rules | `(tactic| k_mem) => `(tactic| assumption)
namespace Mine
theorem c_told_off (w : World) (mean : ExcName → Option Value) (mg mb : Str → Option Value) (v : Value) (p o : Int) (tp to : Tok) (ho : o < 0 ∨ 999 < o) :
    Cz PySem.Challenge.rw_uf050027_04.row.prog w (k04.heap_1 w.params) vw04 (looseW vw04 []) mean mg mb 291 [v, .int p tp, .int o to] (fun _ => True) (fun t => .str (Str.ofString "off") t) := by
  unfold Cz
  k_fill
  w_top off
  intro cn cs a ccd A₀ base h₀ L m news s Q E B F X N T XB TB hk hP hret
  refine wpAny_call ?_
  k_dflt (refine' code_defS0 ?k1 ?k2 ?k3 ?k4 ?k5 ?kA ?k6 ?k7 ?k8 ?k9 ?kB ?_ ?cK ?c2 ?c3 ?c4 ?c5; (case kA => exact rfl); (case k2 => k_asm); (case k1 => k_asm); (case k3 => k_asm); (case k4 => k_asm); (case k5 => k_asm); (case k6 => k_is); (case k7 => k_is); (case k8 => k_room); (case k9 => first | exact binds_K (by k_in) rfl (by k_is) rfl rfl rfl | exact BindsTo.of_eq rfl); (case kB => exact locs rfl); (case cK => assumption); (case c2 => exact rfl); (case c3 => exact rfl); (case c4 => exact rfl); (case c5 => decide); k_whole; intro g' L' h' FG' F' N' B' X' T' D'; (try dsimp only); (try k_lift B'); (try k_fold))
  k_with_none
  k_with "ite" => ((with_reducible show ite ((!true) = true) _ _); refine Mine.ite_nt ?_)
  k_with "ite" => ((with_reducible show ite ((!false) = true) _ _); refine Mine.ite_nf ?_)
  k_with "ite" => ((with_reducible show ite (false = true) _ _); refine Mine.ite_f ?_)
  k_with "ite" => ((with_reducible show ite (true = true) _ _); refine Mine.ite_t ?_)
  k_with "call ref" => (k_here; (with_reducible show wpAny _ _ (call (Value.ref 243) [Value.ref _]) _ _ _); (with_reducible rename Got _ _ _ (Value.ref 61) _ => gtX); k_dflt (refine' Mine.u_kind_off gtX ?k0 ?k1 ?k2 ?k3 ?k4 ?k5 ?kK ?kd ?ku ?_; (case k0 => assumption); (case k1 => k_asm); (case k2 => k_asm); (case k3 => k_asm); (case k4 => k_asm); (case k5 => k_asm); (case kK => first | exact rfl | assumption); (case kd => first | assumption | omega | ktr_room); (case ku => first | assumption | omega | ktr_units)); intro t9 h9 tk9 F9 N9; (try dsimp only); (try k_fold))
  k_with "call ref" => (k_here; (with_reducible show wpAny _ _ (call (Value.ref 243) [Value.ref _]) _ _ _); (with_reducible rename Got _ _ _ (Value.ref 73) _ => gtX); k_dflt (refine' Mine.u_kind_early gtX ?k0 ?k1 ?k2 ?k3 ?k4 ?k5 ?kK ?kd ?ku ?_; (case k0 => assumption); (case k1 => k_asm); (case k2 => k_asm); (case k3 => k_asm); (case k4 => k_asm); (case k5 => k_asm); (case kK => first | exact rfl | assumption); (case kd => first | assumption | omega | ktr_room); (case ku => first | assumption | omega | ktr_units)); intro t9 h9 tk9 F9 N9; (try dsimp only); (try k_fold))
  k_with "leaving ref" => (k_here; (with_reducible rename KtsDicts _ _ => kdX); (refine' Mine.leave_onSC ?k1 ?k2 ?k3 ?k4 ?_; (case k3 => assumption); (case k2 => assumption); (case k1 => assumption); (case k4 => assumption); k_whole; intro h' S' R' U'; (try dsimp only at S' R' U' ⊢)))
  k_steps
  all_goals (refine' ck_retS hret ?e2 ?e3 ?e4; (case e3 => k_asm); (case e4 => first | k_asm | (refine' cb_drop ?cbN ?cbS; (case cbN => assumption); (case cbS => kcj_all))); (case e2 => rfl))
end Mine
end
namespace Mine
theorem c_told_ok (w : World) (mean : ExcName → Option Value) (mg mb : Str → Option Value) (C : Addr) (ys : List Value) (ds : List Dat) (k : Nat) (hok : ∀ d ∈ ds, LetterOk d) (hlen : ds.length ≤ 200) (now o : Int) (tn to : Tok) (ho : 0 ≤ o ∧ o ≤ 999) (hnow : NowOk ds now) :
    CzM PySem.Challenge.rw_uf050027_04.row.prog w (k04.heap_1 w.params) vw04 (looseW vw04 []) mean mg mb 291 [.ref C, .int now tn, .int o to] (fun news => (C, ({ cls := .type "list", data := .seq ys.toArray k } : Obj)) ∈ news ∧ DatAll news ys ds) (fun r add => ∃ D ys e ad, r = .ref D ∧ add = (D, ({ cls := .type "list", data := .seq (List.toArray ys) e } : Obj)) :: ad ∧ (∀ p ∈ ad, p.1 ≠ D) ∧ DatAll ad ys (gathD now o ds)) := by
  unfold CzM
  k_fill
  w_top off
  intro cn cs a ccd A₀ base h₀ L m news s Q E B F X N T XB TB hk hP hret
  refine wpAny_call ?_
  k_dflt (refine' code_defS0 ?k1 ?k2 ?k3 ?k4 ?k5 ?kA ?k6 ?k7 ?k8 ?k9 ?kB ?_ ?cK ?c2 ?c3 ?c4 ?c5; (case kA => exact rfl); (case k2 => k_asm); (case k1 => k_asm); (case k3 => k_asm); (case k4 => k_asm); (case k5 => k_asm); (case k6 => k_is); (case k7 => k_is); (case k8 => k_room); (case k9 => first | exact binds_K (by k_in) rfl (by k_is) rfl rfl rfl | exact BindsTo.of_eq rfl); (case kB => exact locs rfl); (case cK => assumption); (case c2 => exact rfl); (case c3 => exact rfl); (case c4 => exact rfl); (case c5 => decide); k_whole; intro g' L' h' FG' F' N' B' X' T' D'; (try dsimp only); (try k_lift B'); (try k_fold))
  k_with_none
  k_with "call ref" => (k_here; (with_reducible show wpAny _ _ (call (Value.ref 187) _) _ _ _); k_dflt (refine' Mine.Cm.use (Mine.c_gathered _ _ _ _ C ys ds k hok hlen _ _ _ _ ho hnow) (hp := hP) (ret := ?_)); intro r9 ad9 h9 tk9 ho9 hn9 F9 N9; (try dsimp only); (try k_fold))
  k_steps
  all_goals exact hret _ _ _ _ ho9 hn9 (by k_asm) (by k_asm)
end Mine
namespace Mine
theorem c_told_early (w : World) (mean : ExcName → Option Value) (mg mb : Str → Option Value) (C : Addr) (ys : List Value) (ds : List Dat) (k : Nat) (hok : ∀ d ∈ ds, LetterOk d) (hlen : ds.length ≤ 200) (now o : Int) (tn to : Tok) (ho : 0 ≤ o ∧ o ≤ 999) (hlo : -1 ≤ now ∧ now ≤ 3000000000000) (hex : ∃ d ∈ ds, now < backD d) :
    Cz PySem.Challenge.rw_uf050027_04.row.prog w (k04.heap_1 w.params) vw04 (looseW vw04 []) mean mg mb 291 [.ref C, .int now tn, .int o to] (fun news => (C, ({ cls := .type "list", data := .seq ys.toArray k } : Obj)) ∈ news ∧ DatAll news ys ds) (fun t => .str (Str.ofString "early") t) := by
  unfold Cz
  k_fill
  w_top off
  intro cn cs a ccd A₀ base h₀ L m news s Q E B F X N T XB TB hk hP hret
  obtain ⟨hm, hD⟩ := hP
  refine wpAny_call ?_
  k_dflt (refine' code_defS0 ?k1 ?k2 ?k3 ?k4 ?k5 ?kA ?k6 ?k7 ?k8 ?k9 ?kB ?_ ?cK ?c2 ?c3 ?c4 ?c5; (case kA => exact rfl); (case k2 => k_asm); (case k1 => k_asm); (case k3 => k_asm); (case k4 => k_asm); (case k5 => k_asm); (case k6 => k_is); (case k7 => k_is); (case k8 => k_room); (case k9 => first | exact binds_K (by k_in) rfl (by k_is) rfl rfl rfl | exact BindsTo.of_eq rfl); (case kB => exact locs rfl); (case cK => assumption); (case c2 => exact rfl); (case c3 => exact rfl); (case c4 => exact rfl); (case c5 => decide); k_whole; intro g' L' h' FG' F' N' B' X' T' D'; (try dsimp only); (try k_lift B'); (try k_fold))
  k_with_none
  k_with "call ref" => (k_here; (with_reducible show wpAny _ _ (call (Value.ref 161) _) _ _ _); k_dflt (refine Mine.Ct.use (Mine.c_need _ _ _ _ _ _ ?hh) (ret := ?_); (case hh => omega)); intro t9 h9 tk9 P9 F9 N9; (try dsimp only); (try k_fold))
  k_with "exec For Name Name cons nil" => (k_here; (rename Fr _ _ _ _ => lF'); (with_unfolding_all refine' For_turns lF' ?_; k_whole))
  k_with "leaving ref" => (k_here; (with_reducible rename KtsDicts _ _ => kdX); (refine' Mine.leave_onSC ?k1 ?k2 ?k3 ?k4 ?_; (case k3 => assumption); (case k2 => assumption); (case k1 => assumption); (case k4 => assumption); k_whole; intro h' S' R' U'; (try dsimp only at S' R' U' ⊢)))
  k_with "ite" => ((with_reducible show ite ((!true) = true) _ _); refine Mine.ite_nt ?_)
  k_with "ite" => ((with_reducible show ite ((!false) = true) _ _); refine Mine.ite_nf ?_)
  k_with "ite" => ((with_reducible show ite (false = true) _ _); refine Mine.ite_f ?_)
  k_with "ite" => ((with_reducible show ite (true = true) _ _); refine Mine.ite_t ?_)
  k_with "call ref" => (k_here; (with_reducible show wpAny _ _ (call (Value.ref 243) [Value.ref _]) _ _ _); (with_reducible rename Got _ _ _ (Value.ref 61) _ => gtX); k_dflt (refine' Mine.u_kind_off gtX ?k0 ?k1 ?k2 ?k3 ?k4 ?k5 ?kK ?kd ?ku ?_; (case k0 => assumption); (case k1 => k_asm); (case k2 => k_asm); (case k3 => k_asm); (case k4 => k_asm); (case k5 => k_asm); (case kK => first | exact rfl | assumption); (case kd => first | assumption | omega | ktr_room); (case ku => first | assumption | omega | ktr_units)); intro t9 h9 tk9 F9 N9; (try dsimp only); (try k_fold))
  k_with "call ref" => (k_here; (with_reducible show wpAny _ _ (call (Value.ref 243) [Value.ref _]) _ _ _); (with_reducible rename Got _ _ _ (Value.ref 73) _ => gtX); k_dflt (refine' Mine.u_kind_early gtX ?k0 ?k1 ?k2 ?k3 ?k4 ?k5 ?kK ?kd ?ku ?_; (case k0 => assumption); (case k1 => k_asm); (case k2 => k_asm); (case k3 => k_asm); (case k4 => k_asm); (case k5 => k_asm); (case kK => first | exact rfl | assumption); (case kd => first | assumption | omega | ktr_room); (case ku => first | assumption | omega | ktr_units)); intro t9 h9 tk9 F9 N9; (try dsimp only); (try k_fold))
  k_steps
  (rename Fr _ _ _ _ => lF')
  (rename News _ _ _ _ => lN')
  (rename Obj.IsDictOf (PySem.strKind _ _) _ _ => hs')
  (rename (_ == sysModules) = false => lo')
  (rename (_ < _ ∧ AllLt _ news) => lB')
  (rename Obj.data _ = Data.cell (some _) => dc')
  have lC' := allLt_mem lB'.2
  k_dflt (refine' Mine.loop_list (σ := Unit) (fun _ => []) [Str.ofString "letter", Str.ofString "stretch"] (GInvE PySem.Challenge.rw_uf050027_04.row.prog w _ _ (fun i => Mine4.spec ((letPs now o ds).take i)) (fun i => ∀ d ∈ ds.take i, backD d ≤ now)) () (by rfl) lF' lN' (.tail _ (.tail _ hm)) rfl rfl (List.forall_mem_nil _) ⟨(fun _ h => by cases h), _, [], [], rfl, (fun _ h => nomatch h), hs', KvIs.nil⟩ ?_ ?_)
  (all_goals (clear lF' lN' hs'))
  · intro i8 v8 c8 nw8 u8 I8 o8 h8 tk8 hv8 hG8 hax8 hne8 ho8 F8 N8
    obtain ⟨hpre8, od8, kvs8, add8, rfl, hap8, hd8, hk8⟩ := hG8
    obtain ⟨d8, hdi8, hdm8, hI8⟩ := dat_at hD hv8
    have qn8 := g_left (n_tail N8)
    have qc8 := g_cell (n_tail N8)
    by_cases hb8 : backD d8 ≤ now
    · have hP8 := take_more hpre8 hdi8 hb8
      have hT8 := spec_next (letPs_at (now := now) (o := o) hdi8) (letP_le (hok d8 hdm8) hb8 ho.1)
      obtain ⟨y8, se8, ba8, lo8, hi8, rfl, hxx8, h18, h28⟩ := hok d8 hdm8
      obtain ⟨a8, n8, t08, t18, t28, t38, t48, rfl, hm8⟩ := dat_letter hI8
      replace hb8 : ba8 ≤ now := hb8
      have hz8 := kv_len hk8 hlen
      have qm8 := g_right (n_tail N8) _ hm8
      have qa8 := g_apart hap8 lB'.1 lC'
      have q18 := hne8 _ (.head _)
      have q28 := Ne.symm q18
      dsimp only at q18 q28
      rcases hv9 : valueAt kvs8 y8 with _ | v9
      · have hz9 := hk8.none hv9
        rw [stepP_none hz9] at hT8
        k_with "call ref" => (k_here; (with_reducible show wpAny _ _ (call (Value.ref 175) _) _ _ _); k_dflt (refine' Mine.Cm.use (Mine.c_brought _ _ _ _ _ _ _ _ _ _ _ _ _ _ _ _ _ _ _ ho ?h2 ?h3) (hp := ?kP) (ret := ?_); (case kP => (show _ ∈ _; k_mem)); (case h2 => omega); (case h3 => omega)); intro r9 ad9 h9 tk9 ho9 hn9 F9 N9; k_dflt ((obtain ⟨P9, tp9, tq9, cp9, e9, e8⟩ := ho9); subst e9; subst e8; (replace N9 := Mine.g_one N9); (have n91 := Mine.g_ne hn9); (have n92 := Ne.symm n91)); (try dsimp only); (try k_fold))
        k_with "compareOp In str ref" => (k_here; (with_reducible show wpAny _ _ (compareOp CmpOp.In (Value.str _ _) (Value.ref _)) _ _ _); (rename News _ _ _ _ => kN9); k_dflt (refine kda_in (knd := PySem.strKind _ _) kN9 ?mm hd8 lo' (strKind_is _ _ _ _) false (by rw [hv9]; rfl) ?_; (case mm => (repeat (first | exact List.Mem.head _ | refine List.Mem.tail _ ?_)))))
        k_with "setItem ref str" => (k_here; (with_reducible show wpAny _ _ (setItem (Value.ref _) (Value.str _ _) _) _ _ _); k_dflt (refine' kda_set (knd := PySem.strKind _ _) ?F ?N ?U hd8 (strKind_is _ _ _ _) ?z ?_; (case F => k_asm); (case N => k_asm); (case U => k_updF); (case z => (rw [sizeLine_eq]; omega))); intro h' o' F' N' hd'; (try dsimp only at N'))
        k_steps
        all_goals ((rename Fr _ _ _ _ => lF8); (rename News _ _ _ _ => lN8); k_dflt (refine' Mine.g_nextE (ts := [_]) hP8 lF8 lN8 ?gI ?gD ?gT ?gA (List.Mem.tail _ hm) hne8 hap8 ?gP (by assumption) hk8 ?gV ?gE ?gR; (case gI => (repeat (first | exact List.Mem.head _ | refine List.Mem.tail _ ?_))); (case gD => (repeat (first | exact List.Mem.head _ | refine List.Mem.tail _ ?_))); (case gT => (intro p9 hp9; rw [List.mem_singleton.mp hp9]; exact List.Mem.head _)); (case gA => (intro p9 hp9; (repeat (first | exact hp9 | refine List.Mem.tail _ ?_)))); (case gP => exact hn9); (case gE => exact hT8); (case gV => exact Mine.g_dat_some rfl (List.Mem.head _)); (case gR => (intro z h3; (simp only [List.contains_cons, List.contains_nil, Bool.or_false, Bool.or_eq_false_iff, beq_eq_false_iff_ne, ne_eq] at h3); (simp [h3, kstB]; done)))))
      · obtain ⟨o9, hz9, hw9⟩ := hk8.some hv9
        rw [stepP_some hz9] at hT8
        rcases o9 with _ | ⟨a9, b9⟩
        · cases hw9
          k_with "call ref" => (k_here; (with_reducible show wpAny _ _ (call (Value.ref 175) _) _ _ _); k_dflt (refine' Mine.Cm.use (Mine.c_brought _ _ _ _ _ _ _ _ _ _ _ _ _ _ _ _ _ _ _ ho ?h2 ?h3) (hp := ?kP) (ret := ?_); (case kP => (show _ ∈ _; k_mem)); (case h2 => omega); (case h3 => omega)); intro r9 ad9 h9 tk9 ho9 hn9 F9 N9; k_dflt ((obtain ⟨P9, tp9, tq9, cp9, e9, e8⟩ := ho9); subst e9; subst e8; (replace N9 := Mine.g_one N9); (have n91 := Mine.g_ne hn9); (have n92 := Ne.symm n91)); (try dsimp only); (try k_fold))
          k_with "compareOp In str ref" => (k_here; (with_reducible show wpAny _ _ (compareOp CmpOp.In (Value.str _ _) (Value.ref _)) _ _ _); (rename News _ _ _ _ => kN9); k_dflt (refine kda_in (knd := PySem.strKind _ _) kN9 ?mm hd8 lo' (strKind_is _ _ _ _) true (by rw [hv9]; rfl) ?_; (case mm => (repeat (first | exact List.Mem.head _ | refine List.Mem.tail _ ?_)))))
          k_with "subscriptTail Name Subscript ref str" => (k_here; (with_reducible show wpAny _ _ (subscriptTail _ _ (Value.ref _) (Value.str _ _)) _ _ _); (rename News _ _ _ _ => kN9); k_dflt (refine kda_item (knd := PySem.strKind _ _) kN9 ?mm hd8 (strKind_is _ _ _ _) hv9 ?_; (case mm => (repeat (first | exact List.Mem.head _ | refine List.Mem.tail _ ?_)))))
          k_with "call ref" => (k_here; (with_reducible show wpAny _ _ (call (Value.ref 182) [Value.none, _]) _ _ _); k_dflt (refine Mine.Ct.use (Mine.c_sharedn _ _ _ _ _) (ret := ?_)); intro t9 h9 tk9 P8 F9 N9; (try dsimp only); (try k_fold))
          k_with "setItem ref str" => (k_here; (with_reducible show wpAny _ _ (setItem (Value.ref _) (Value.str _ _) _) _ _ _); k_dflt (refine' kda_set (knd := PySem.strKind _ _) ?F ?N ?U hd8 (strKind_is _ _ _ _) ?z ?_; (case F => k_asm); (case N => k_asm); (case U => k_updF); (case z => (rw [sizeLine_eq]; omega))); intro h' o' F' N' hd'; (try dsimp only at N'))
          k_steps
          all_goals ((rename Fr _ _ _ _ => lF8); (rename News _ _ _ _ => lN8); k_dflt (refine' Mine.g_nextE (ts := []) hP8 lF8 lN8 ?gI ?gD ?gT ?gA (List.Mem.tail _ hm) hne8 hap8 ?gP (by assumption) hk8 ?gV ?gE ?gR; (case gI => (repeat (first | exact List.Mem.head _ | refine List.Mem.tail _ ?_))); (case gD => (repeat (first | exact List.Mem.head _ | refine List.Mem.tail _ ?_))); (case gT => exact fun _ h => nomatch h); (case gA => (intro p9 hp9; (repeat (first | exact hp9 | refine List.Mem.tail _ ?_)))); (case gP => exact fun _ h => nomatch h); (case gE => exact hT8); (case gV => exact Mine.g_dat_none rfl); (case gR => (intro z h3; (simp only [List.contains_cons, List.contains_nil, Bool.or_false, Bool.or_eq_false_iff, beq_eq_false_iff_ne, ne_eq] at h3); (simp [h3, kstB]; done)))))
        · obtain ⟨A9, n9, ta9, tb9, rfl, hA9⟩ := dat_two hw9
          have qA9 := qn8 _ hA9
          k_with "call ref" => (k_here; (with_reducible show wpAny _ _ (call (Value.ref 175) _) _ _ _); k_dflt (refine' Mine.Cm.use (Mine.c_brought _ _ _ _ _ _ _ _ _ _ _ _ _ _ _ _ _ _ _ ho ?h2 ?h3) (hp := ?kP) (ret := ?_); (case kP => (show _ ∈ _; k_mem)); (case h2 => omega); (case h3 => omega)); intro r9 ad9 h9 tk9 ho9 hn9 F9 N9; k_dflt ((obtain ⟨P9, tp9, tq9, cp9, e9, e8⟩ := ho9); subst e9; subst e8; (replace N9 := Mine.g_one N9); (have n91 := Mine.g_ne hn9); (have n92 := Ne.symm n91)); (try dsimp only); (try k_fold))
          k_with "compareOp In str ref" => (k_here; (with_reducible show wpAny _ _ (compareOp CmpOp.In (Value.str _ _) (Value.ref _)) _ _ _); (rename News _ _ _ _ => kN9); k_dflt (refine kda_in (knd := PySem.strKind _ _) kN9 ?mm hd8 lo' (strKind_is _ _ _ _) true (by rw [hv9]; rfl) ?_; (case mm => (repeat (first | exact List.Mem.head _ | refine List.Mem.tail _ ?_)))))
          k_with "subscriptTail Name Subscript ref str" => (k_here; (with_reducible show wpAny _ _ (subscriptTail _ _ (Value.ref _) (Value.str _ _)) _ _ _); (rename News _ _ _ _ => kN9); k_dflt (refine kda_item (knd := PySem.strKind _ _) kN9 ?mm hd8 (strKind_is _ _ _ _) hv9 ?_; (case mm => (repeat (first | exact List.Mem.head _ | refine List.Mem.tail _ ?_)))))
          k_with "call ref" => (k_here; (with_reducible show wpAny _ _ (call (Value.ref 182) [Value.ref _, Value.ref _]) _ _ _); k_dflt (refine' Mine.Cm.use (Mine.c_shareds _ _ _ _ _ _ _ _ _ _ _ _ _ _ _ _) (hp := ⟨?kA, ?kB⟩) (ret := ?_); (case kA => k_mem); (case kB => exact List.Mem.head _)); intro r9 ad9 h9 tk9 ho9 hn7 F9 N9; k_dflt (rcases ho9 with ⟨eo9, er9, ea9⟩ | ⟨a7, b7, eo9, P7, tp7, tq7, cp7, er9, ea9⟩ <;> (subst er9; subst ea9)); (all_goals (first | ((replace N9 := Mine.g_one N9); (have n71 := Mine.g_ne3 hn7); (have n72 := Ne.symm n71)) | (replace N9 := Mine.g_none N9))); (try dsimp only); (try k_fold))
          k_with "setItem ref str" => (k_here; (with_reducible show wpAny _ _ (setItem (Value.ref _) (Value.str _ _) _) _ _ _); k_dflt (refine' kda_set (knd := PySem.strKind _ _) ?F ?N ?U hd8 (strKind_is _ _ _ _) ?z ?_; (case F => k_asm); (case N => k_asm); (case U => k_updF); (case z => (rw [sizeLine_eq]; omega))); intro h' o' F' N' hd'; (try dsimp only at N'))
          k_steps
          all_goals (first | ((rename Fr _ _ _ _ => lF8); (rename News _ _ _ _ => lN8); k_dflt (refine' Mine.g_nextE (ts := [_]) hP8 lF8 lN8 ?gI ?gD ?gT ?gA (List.Mem.tail _ hm) hne8 hap8 ?gP (by assumption) hk8 ?gV ?gE ?gR; (case gI => (repeat (first | exact List.Mem.head _ | refine List.Mem.tail _ ?_))); (case gD => (repeat (first | exact List.Mem.head _ | refine List.Mem.tail _ ?_))); (case gT => (intro p9 hp9; rw [List.mem_singleton.mp hp9]; exact List.Mem.head _)); (case gA => (intro p9 hp9; (repeat (first | exact hp9 | refine List.Mem.tail _ ?_)))); (case gP => exact fun p hp q hq => hn7 p hp q (List.Mem.tail _ hq)); (case gE => exact hT8); (case gV => exact Mine.g_dat_some eo9 (List.Mem.head _)); (case gR => (intro z h3; (simp only [List.contains_cons, List.contains_nil, Bool.or_false, Bool.or_eq_false_iff, beq_eq_false_iff_ne, ne_eq] at h3); (simp [h3, kstB]; done))))) | ((rename Fr _ _ _ _ => lF8); (rename News _ _ _ _ => lN8); k_dflt (refine' Mine.g_nextE (ts := []) hP8 lF8 lN8 ?gI ?gD ?gT ?gA (List.Mem.tail _ hm) hne8 hap8 ?gP (by assumption) hk8 ?gV ?gE ?gR; (case gI => (repeat (first | exact List.Mem.head _ | refine List.Mem.tail _ ?_))); (case gD => (repeat (first | exact List.Mem.head _ | refine List.Mem.tail _ ?_))); (case gT => exact fun _ h => nomatch h); (case gA => (intro p9 hp9; (repeat (first | exact hp9 | refine List.Mem.tail _ ?_)))); (case gP => exact fun _ h => nomatch h); (case gE => exact hT8); (case gV => exact Mine.g_dat_none eo9); (case gR => (intro z h3; (simp only [List.contains_cons, List.contains_nil, Bool.or_false, Bool.or_eq_false_iff, beq_eq_false_iff_ne, ne_eq] at h3); (simp [h3, kstB]; done))))))
    · obtain ⟨y8, se8, ba8, lo8, hi8, rfl, hxx8, h18, h28⟩ := hok d8 hdm8
      obtain ⟨a8, n8, t08, t18, t28, t38, t48, rfl, hm8⟩ := dat_letter hI8
      replace hb8 : ¬ ba8 ≤ now := hb8
      have qm8 := g_right (n_tail N8) _ hm8
      k_with_none
      k_with "call ref" => (k_here; (with_reducible show wpAny _ _ (call (Value.ref 161) _) _ _ _); k_dflt (refine Mine.Ct.use (Mine.c_need _ _ _ _ _ _ ?hh) (ret := ?_); (case hh => omega)); intro t9 h9 tk9 P9 F9 N9; (try dsimp only); (try k_fold))
      k_with "leaving ref" => (k_here; (with_reducible rename KtsDicts _ _ => kdX); (refine' Mine.leave_onSC ?k1 ?k2 ?k3 ?k4 ?_; (case k3 => assumption); (case k2 => assumption); (case k1 => assumption); (case k4 => assumption); k_whole; intro h' S' R' U'; (try dsimp only at S' R' U' ⊢)))
      k_with "ite" => ((with_reducible show ite ((!true) = true) _ _); refine Mine.ite_nt ?_)
      k_with "ite" => ((with_reducible show ite ((!false) = true) _ _); refine Mine.ite_nf ?_)
      k_with "ite" => ((with_reducible show ite (false = true) _ _); refine Mine.ite_f ?_)
      k_with "ite" => ((with_reducible show ite (true = true) _ _); refine Mine.ite_t ?_)
      k_with "call ref" => (k_here; (with_reducible show wpAny _ _ (call (Value.ref 243) [Value.ref _]) _ _ _); (with_reducible rename Got _ _ _ (Value.ref 61) _ => gtX); k_dflt (refine' Mine.u_kind_off gtX ?k0 ?k1 ?k2 ?k3 ?k4 ?k5 ?kK ?kd ?ku ?_; (case k0 => assumption); (case k1 => k_asm); (case k2 => k_asm); (case k3 => k_asm); (case k4 => k_asm); (case k5 => k_asm); (case kK => first | exact rfl | assumption); (case kd => first | assumption | omega | ktr_room); (case ku => first | assumption | omega | ktr_units)); intro t9 h9 tk9 F9 N9; (try dsimp only); (try k_fold))
      k_with "call ref" => (k_here; (with_reducible show wpAny _ _ (call (Value.ref 243) [Value.ref _]) _ _ _); (with_reducible rename Got _ _ _ (Value.ref 73) _ => gtX); k_dflt (refine' Mine.u_kind_early gtX ?k0 ?k1 ?k2 ?k3 ?k4 ?k5 ?kK ?kd ?ku ?_; (case k0 => assumption); (case k1 => k_asm); (case k2 => k_asm); (case k3 => k_asm); (case k4 => k_asm); (case k5 => k_asm); (case kK => first | exact rfl | assumption); (case kd => first | assumption | omega | ktr_room); (case ku => first | assumption | omega | ktr_units)); intro t9 h9 tk9 F9 N9; (try dsimp only); (try k_fold))
      k_steps
      all_goals (refine' ck_retS hret rfl ?e3 ?e4; (case e3 => k_asm); (case e4 => ((rename News h₀ L _ _ => kN9); exact fun p hp => kN9 p (by (repeat (first | exact hp | exact List.mem_append.mpr (.inr (List.Mem.tail _ hp)) | refine List.Mem.tail _ ?_))))))
  · intro c8 nw8 u8 h8 tk8 hG8 hax8 F8 N8
    exfalso
    obtain ⟨d8, hd8, hb8⟩ := hex
    have := take_all hD hG8.1 d8 hd8
    omega

end Mine
noncomputable def Mine.walk04.tw13962385044957152747 : Unit := ()
noncomputable def Mine.walk04.tw500979377034948140 : Unit := ()
set_option Elab.async true in
set_option rowWalk.seconds 0 in
theorem Mine.walk04 : ∀ d kwd, defOf Mine.vw04 PySem.Challenge.rw_uf050027_04.row.name = some (d, kwd) → WalkO Mine.vw04 [] (XL Mine.vw04 []) (Hook.says (kHook Mine.k04.heap_1 _ Mine.kas04)) PySem.Challenge.rw_uf050027_04.row.toRowW d kwd (fun f vs => PySem.call f vs) := by
  intro d kwd hdk
  cases hdk
  k_with_none
  k_with "call ref" => (k_here; (with_reducible show wpAny _ _ (call (Value.ref 208) _) _ _ _); k_dflt (refine Mine.Ct.use (Mine.c_lmix _ _ _ _ _ _ _ _) (ret := ?_)); intro t9 h9 tk9 P9 F9 N9; (try dsimp only); (try k_fold))
  k_with "call ref" => (k_here; (with_reducible show wpAny _ _ (call (Value.ref 215) _) _ _ _); k_dflt (refine Mine.Ct.use (Mine.c_lbig _ _ _ _ _ _ _ _) (ret := ?_)); intro t9 h9 tk9 P9 F9 N9; (try dsimp only); (try k_fold))
  k_with "call ref" => (k_here; (with_reducible show wpAny _ _ (call (Value.ref 222) _) _ _ _); k_dflt (refine Mine.Ct.use (Mine.c_loff _ _ _ _ _ _) (ret := ?_)); intro t9 h9 tk9 P9 F9 N9; (try dsimp only); (try k_fold))
  k_with "call ref" => (k_here; (with_reducible show wpAny _ _ (call (Value.ref 201) _) _ _ _); k_dflt (refine' Mine.Cm.use (Mine.c_cell _ _ _ _ _ _ _ ?hi ?hl ?hn _ _ ?hk) (hp := ?kP) (ret := ?_); (case kP => assumption); (case hi => assumption); (case hl => assumption); (case hn => omega); (case hk => omega)); intro r9 ad9 h9 tk9 ho9 hn9 F9 N9; k_dflt ((obtain ⟨e9, t9, e8⟩ := ho9); subst e9; subst e8; (replace N9 := Mine.g_none N9)); (try dsimp only); (try k_fold))
  k_with "call ref" => (k_here; (with_reducible show wpAny _ _ (call (Value.ref 255) _) _ _ _); k_dflt (refine' Mine.Cm.use (Mine.c_names _ _ _ _ _ _ ?kp) (hp := ?kP) (ret := ?_); (case kP => trivial); (case kp => first | trivial | ((try dsimp only); first | assumption | omega | l_fact))); intro r9 ad9 h9 tk9 ho9 hn9 F9 N9; k_dflt ((obtain ⟨D7, e9, ht9⟩ := ho9); subst e9; (obtain ⟨yn7, xn7, N8, ne9, hsn7, hnn7, hxn7⟩ := Mine.texts_one ht9 hn9 N9); clear N9 ht9 hn9 ne9); (try dsimp only); (try k_fold))
  k_with "call ref" => (k_here; (with_reducible show wpAny _ _ (call (Value.ref 267) _) _ _ _); k_dflt (refine' Mine.Cm.use (Mine.c_letters _ _ _ _ _ _ _ ?hi ?hl ?hn _) (hp := ?kP) (ret := ?_); (case kP => exact ⟨by assumption, yn7, xn7, List.Mem.head _, hsn7, hnn7, hxn7⟩); (case hi => assumption); (case hl => assumption); (case hn => omega)); intro r9 gd7 h9 tk9 ho9 hn9 F9 N9; k_dflt ((obtain ⟨C7, vs7, k7, ds7, e8, hm7, hD7, hok7, hlen7⟩ := ho9); subst e8; (replace N9 := Mine.l_keep N9); clear hn9; (have hvl7 := hD7.length)); (try dsimp only); (try k_fold))
  k_with "call ref" => (k_here; (with_reducible show wpAny _ _ (call (Value.ref 274) _) _ _ _); k_dflt (refine' Mine.Cm.use (Mine.c_now _ _ _ _ _ _ _ ?hi ?hl ?hn C7 vs7 ds7 _ hok7 hlen7) (hp := ?kP) (ret := ?_); (case kP => exact ⟨by assumption, by (show _ ∈ _; (repeat (first | exact hm7 | refine List.Mem.tail _ ?_))), hD7.mono (by (intro p9 hp9; (repeat (first | exact hp9 | refine List.Mem.tail _ ?_))))⟩); (case hi => assumption); (case hl => assumption); (case hn => omega)); intro r9 ad9 h9 tk9 ho9 hn9 F9 N9; k_dflt ((obtain ⟨e6, x7, tx7, e8, hnow7⟩ := ho9); subst e6; subst e8; (replace N9 := Mine.g_none N9); (have hnw7 := hnow7.1)); (try dsimp only); (try k_fold))
  k_with "call builtin:len" => (k_here; (with_reducible show wpAny _ _ (call (Value.builtin _) [Value.ref C7]) _ _ _); (rename News _ _ _ _ => kN9); k_dflt (refine' Mine.len_led kN9 ?lm7 hvl7 ?lz7 ?_; (case lm7 => (show _ ∈ _; (repeat (first | exact hm7 | refine List.Mem.tail _ ?_)))); (case lz7 => omega)))
  k_with "subscriptTail List cons Call ref int" => (k_here; (with_reducible show wpAny _ _ (subscriptTail _ _ (Value.ref _) (Value.int _ _)) _ _ _); (try k_fmods); k_dflt (refine' Mine.item_of (fun x => x < 0 ∨ 999 < x) ?k1 ?k2 ?k3 ?k4 ?k5 ?_; (case k1 => is_list); (case k2 => l_ints); (case k3 => (simp only [List.forall_mem_cons, List.not_mem_nil, false_implies, implies_true, and_true]; omega)); (case k4 => (simp only [List.length_cons, List.length_nil]; omega)); (case k5 => omega); k_whole); intro t8 off8 hof8)
  k_with "subscriptTail List cons BinOp ref int" => (k_here; (with_reducible show wpAny _ _ (subscriptTail _ _ (Value.ref _) (Value.int _ _)) _ _ _); (try k_fmods); k_dflt (refine' Mine.item_of (fun x => x < 0 ∨ 999 < x) ?k1 ?k2 ?k3 ?k4 ?k5 ?_; (case k1 => is_list); (case k2 => l_ints); (case k3 => (simp only [List.forall_mem_cons, List.not_mem_nil, false_implies, implies_true, and_true]; omega)); (case k4 => (simp only [List.length_cons, List.length_nil]; omega)); (case k5 => omega); k_whole); intro t8 off8 hof8)
  k_with "subscriptTail Name BinOp ref int" => (k_here; (with_reducible show wpAny _ _ (subscriptTail _ _ (Value.ref C7) (Value.int _ _)) _ _ _); (rename News _ _ _ _ => kN9); k_dflt (refine' Mine.item_letter (e := k7) kN9 ?lm7 hD7 hok7 ?lk7 ?lf7 ?_; (case lm7 => (show _ ∈ _; (repeat (first | exact hm7 | refine List.Mem.tail _ ?_)))); (case lk7 => (have hp7 := List.length_pos_iff.mpr hnil7; exact Mine.fmb _ _ (by omega))); (case lf7 => (have hp7 := List.length_pos_iff.mpr hnil7; exact Int.lt_of_lt_of_le (Mine.fmb _ (ds7.length : Int) (by omega)).2 (by omega))); k_whole); intro a8 na8 xa8 sa8 ba8 la8 ha8 ta0 ta1 ta2 ta3 ta4 hma8 hba8 hex8)
  k_with "compareOp NotEq ref ref" => (k_here; (with_reducible show wpAny _ _ (compareOp CmpOp.NotEq (Value.ref C7) (Value.ref _)) _ _ _); (rename News _ _ _ _ => kN9); k_dflt (refine' Mine.nil_split (ka := k7) kN9 (List.Mem.head _) ?ma hD7 ?sa (fun d h => Mine.letter_kqd (hok7 d h)) ?ni7 (fun hnil7 => ?_) (fun hnil7 hpos7 => ?_); (case ma => (repeat (first | exact List.Mem.head _ | exact hm7 | exact List.mem_append.mpr (.inr hm7) | refine List.Mem.tail _ ?_))); (case sa => (intro p9 hp9; (repeat (first | exact hp9 | exact List.mem_append.mpr (.inr hp9) | refine List.Mem.tail _ ?_)))); (case ni7 => first | ke_room | ktr_units)))
  k_with "compareOp NotEq ref ref" => (k_here; (with_reducible show wpAny _ _ (compareOp CmpOp.NotEq (Value.ref C7) (Value.ref _)) _ _ _); (have hnilx := Mine.nilD_f hnil7); (rename News _ _ _ _ => kN9); k_dflt (refine' Mine.nil_ne kN9 (List.Mem.head _) ?ma hD7 ?sa (fun d h => Mine.letter_kqd (hok7 d h)) ?ni7 _ hnilx ?_; (case ma => (repeat (first | exact List.Mem.head _ | exact hm7 | exact List.mem_append.mpr (.inr hm7) | refine List.Mem.tail _ ?_))); (case sa => (intro p9 hp9; (repeat (first | exact hp9 | exact List.mem_append.mpr (.inr hp9) | refine List.Mem.tail _ ?_)))); (case ni7 => first | ke_room | ktr_units)); clear hnilx)
  k_with "compareOp NotEq ref ref" => (k_here; (with_reducible show wpAny _ _ (compareOp CmpOp.NotEq (Value.ref C7) (Value.ref _)) _ _ _); (have hnilx := Mine.nilD_t hnil7); (rename News _ _ _ _ => kN9); k_dflt (refine' Mine.nil_ne kN9 (List.Mem.head _) ?ma hD7 ?sa (fun d h => Mine.letter_kqd (hok7 d h)) ?ni7 _ hnilx ?_; (case ma => (repeat (first | exact List.Mem.head _ | exact hm7 | exact List.mem_append.mpr (.inr hm7) | refine List.Mem.tail _ ?_))); (case sa => (intro p9 hp9; (repeat (first | exact hp9 | exact List.mem_append.mpr (.inr hp9) | refine List.Mem.tail _ ?_)))); (case ni7 => first | ke_room | ktr_units)); clear hnilx)
  k_with "call type:list" => (k_here; (with_reducible show wpAny _ _ (call (Value.type _) [Value.ref C7]) _ _ _); k_dflt (refine' kup_listOf (zs := vs7) ?F ?N ?M rfl ?_ ?z; (case F => k_asm); (case N => k_asm); (case M => (show _ ∈ _; (repeat (first | exact hm7 | refine List.Mem.tail _ ?_)))); (case z => (show vs7.length ≤ _; rw [hD7.length, sizeLine_eq]; omega))); intro H6 c6 h6 F6 N6 l16; k_dflt (replace N6 : News _ _ _ ((H6, _) :: gd7) := Mine.l_sub N6 (fun p hp => by rcases List.mem_cons.mp hp with rfl | hp; exact List.Mem.head _; (repeat (first | exact hp | refine List.Mem.tail _ ?_)))))
  k_with "call ref" => (k_here; (with_reducible show wpAny _ _ (call (Value.ref 291) _) _ _ _); k_dflt (refine' Mine.CzM.use (Mine.c_told_ok _ _ _ _ H6 vs7 ds7 _ hok7 hlen7 _ _ _ _ ?h1 hnow7) (hp := ?kP) (ret := ?_); (case kP => exact ⟨by (repeat (first | exact List.Mem.head _ | exact hm7 | exact List.mem_append.mpr (.inr hm7) | refine List.Mem.tail _ ?_)), hD7.mono (by (intro p9 hp9; (repeat (first | exact hp9 | exact List.mem_append.mpr (.inr hp9) | refine List.Mem.tail _ ?_))))⟩); (case h1 => first | exact Mine.off_bd _ | omega)); intro r9 ad9 h9 tk9 ho9 hn9 F9 N9; k_dflt ((obtain ⟨F8, yf8, ef8, ag8, e8, e6, hap8, hG8⟩ := ho9); subst e8; subst e6; (replace N9 := Mine.l_told N9); (have hF8 := fun p hp => hn9 _ (List.Mem.head _) p hp); clear hn9); (try dsimp only); (try k_fold))
  k_with "call ref" => (k_here; (with_reducible show wpAny _ _ (call (Value.ref 291) _) _ _ _); k_dflt (refine' Mine.Cz.use (Mine.c_told_early _ _ _ _ H6 vs7 ds7 _ hok7 hlen7 _ _ _ _ ?h1 ?h2 hex8) (hp := ?kP) (ret := ?_); (case kP => exact ⟨by (repeat (first | exact List.Mem.head _ | exact hm7 | exact List.mem_append.mpr (.inr hm7) | refine List.Mem.tail _ ?_)), hD7.mono (by (intro p9 hp9; (repeat (first | exact hp9 | exact List.mem_append.mpr (.inr hp9) | refine List.Mem.tail _ ?_))))⟩); (case h1 => first | exact Mine.off_bd _ | omega); (case h2 => omega)); intro t9 h9 tk9 F9 N9; (try dsimp only); (try k_fold))
  k_with "call ref" => (k_here; (with_reducible show wpAny _ _ (call (Value.ref 291) _) _ _ _); k_dflt (refine' Mine.Cz.use (Mine.c_told_off _ _ _ _ _ _ _ _ _ ?hh) (hp := trivial) (ret := ?_); (case hh => first | assumption | omega)); intro t9 h9 tk9 F9 N9; (try dsimp only); (try k_fold))
  k_with "compareOp NotEq ref ref" => (k_here; (with_reducible show wpAny _ _ (compareOp CmpOp.NotEq (Value.ref H6) (Value.ref C7)) _ _ _); (rename News _ _ _ _ => kN9); k_dflt (refine' Mine.ne_lists kN9 ?ma ?mb hD7 ?sa hD7 ?sb (fun d h => Mine.letter_kqd (hok7 d h)) ?ni7 ?_; (case ma => (repeat (first | exact List.Mem.head _ | exact hm7 | exact List.mem_append.mpr (.inr hm7) | refine List.Mem.tail _ ?_))); (case mb => (repeat (first | exact List.Mem.head _ | exact hm7 | exact List.mem_append.mpr (.inr hm7) | refine List.Mem.tail _ ?_))); (case sa => (intro p9 hp9; (repeat (first | exact hp9 | exact List.mem_append.mpr (.inr hp9) | refine List.Mem.tail _ ?_)))); (case sb => (intro p9 hp9; (repeat (first | exact hp9 | exact List.mem_append.mpr (.inr hp9) | refine List.Mem.tail _ ?_)))); (case ni7 => first | ke_room | ktr_units)))
  k_with "call ref" => (k_here; (with_reducible show wpAny _ _ (call (Value.ref 279) _) _ _ _); k_dflt (refine' Mine.Cm.use (Mine.c_lgathered _ _ _ _ C7 vs7 ds7 k7 hok7 hlen7 _ _ _ _ ?h1 hnow7) (hp := ?kP) (ret := ?_); (case kP => exact ⟨by (repeat (first | exact List.Mem.head _ | exact hm7 | exact List.mem_append.mpr (.inr hm7) | refine List.Mem.tail _ ?_)), hD7.mono (by (intro p9 hp9; (repeat (first | exact hp9 | exact List.mem_append.mpr (.inr hp9) | refine List.Mem.tail _ ?_))))⟩); (case h1 => first | exact Mine.off_bd _ | omega)); intro r9 au8 h9 tk9 ho9 hn9 F9 N9; k_dflt ((obtain ⟨U8, yu8, eu8, e8, hmu8, hU8⟩ := ho9); subst e8; (have hUF8 : ∀ p ∈ au8, p.1 ≠ F8 := fun p hp => Ne.symm (hn9 p hp (F8, ({ cls := .type "list", data := .seq (List.toArray yf8) ef8 } : Obj)) (by (repeat (first | exact List.Mem.head _ | refine List.Mem.tail _ ?_))))); (replace N9 : News _ _ _ ((F8, ({ cls := .type "list", data := .seq (List.toArray yf8) ef8 } : Obj)) :: (H6, _) :: (au8 ++ (ag8 ++ gd7))) := Mine.l_sub N9 (fun p hp => by (rcases List.mem_cons.mp hp with rfl | hp); (exact List.mem_append.mpr (.inr (by (repeat (first | exact List.Mem.head _ | refine List.Mem.tail _ ?_))))); (rcases List.mem_cons.mp hp with rfl | hp); (exact List.mem_append.mpr (.inr (by (repeat (first | exact List.Mem.head _ | refine List.Mem.tail _ ?_))))); (rcases List.mem_append.mp hp with hp | hp); (exact List.mem_append.mpr (.inl hp)); (refine List.mem_append.mpr (.inr ?_)); (repeat (first | exact hp | refine List.Mem.tail _ ?_)))); clear hn9); (try dsimp only); (try k_fold))
  k_with "call ref" => (k_here; (with_reducible show wpAny _ _ (call (Value.ref 284) _) _ _ _); k_dflt (refine' Mine.Cv.use (Mine.c_pairs _ _ _ _ F8 U8 yf8 yu8 _ ef8 eu8 (Mine.gath_ok hok7) (Nat.le_trans Mine.gath_le hlen7)) (hp := ?kP) (ret := ?_); (case kP => exact ⟨⟨List.Mem.head _, hG8.mono (fun p hp => List.Mem.tail _ (List.Mem.tail _ (List.mem_append.mpr (.inr (List.mem_append.mpr (.inl hp))))))⟩, List.Mem.tail _ (List.Mem.tail _ (List.mem_append.mpr (.inl hmu8))), hU8.mono (fun p hp => List.Mem.tail _ (List.Mem.tail _ (List.mem_append.mpr (.inl hp))))⟩)); intro r9 h9 tk9 ho9 F9 N9; k_dflt (subst ho9); (try dsimp only); (try k_fold))
  k_with "call builtin:list.clear" => (k_here; (with_reducible show wpAny _ _ (call (Value.builtin _) [Value.ref _]) _ _ _); (rename News _ _ _ _ => kN9); (rename Fr _ _ _ _ => kF9); k_dflt (refine' Mine.clear_drop kF9 kN9 (List.Mem.head _) _ (fun p hp => List.Mem.tail _ hp) (Mine.l_rest hF8 hUF8 hap8) ?qz ?_; (case qz => (rw [List.size_toArray, hG8.length, sizeLine_eq]; (have hq8 := Nat.le_trans (Mine.gath_le (now := x7) (o := 0) (ds := ds7)) hlen7); exact Nat.le_trans (Nat.le_trans Mine.gath_le hlen7) (by decide)))); intro h5 F5 N5; (try dsimp only); (try k_fold))
  k_with "call ref" => (k_here; (with_reducible show wpAny _ _ (call (Value.ref 187) _) _ _ _); k_dflt (refine' Mine.Cm.use (Mine.c_gathered _ _ _ _ H6 vs7 ds7 c6 hok7 hlen7 _ _ _ _ ?h1 hnow7) (hp := ?kP) (ret := ?_); (case kP => exact ⟨List.Mem.head _, hD7.mono (fun p hp => List.Mem.tail _ (List.mem_append.mpr (.inr (List.mem_append.mpr (.inr hp)))))⟩); (case h1 => first | exact Mine.off_bd _ | omega)); intro r9 ad9 h9 tk9 ho9 hn9 F9 N9; k_dflt ((obtain ⟨G8, yg8, eg8, ah8, e8, e6, hap5, hG5⟩ := ho9); subst e8; subst e6); (try dsimp only); (try k_fold))
  k_with "compareOp Eq ref ref" => (k_here; (with_reducible show wpAny _ _ (compareOp CmpOp.Eq (Value.ref G8) (Value.ref U8)) _ _ _); (rename News _ _ _ _ => kN9); k_dflt (refine' Mine.eq_lists kN9 (List.Mem.head _) (List.Mem.tail _ (List.mem_append.mpr (.inr (List.Mem.tail _ (List.mem_append.mpr (.inl hmu8)))))) hG5 (fun p hp => List.Mem.tail _ (List.mem_append.mpr (.inl hp))) hU8 (fun p hp => List.Mem.tail _ (List.mem_append.mpr (.inr (List.Mem.tail _ (List.mem_append.mpr (.inl hp)))))) (fun d h => Mine.pairok_kqd (Mine.gath_ok hok7 d h)) ?ni7 ?_; (case ni7 => first | ke_room | ktr_units)))
  k_with "call ref" => (k_here; (with_reducible show wpAny _ _ (call (Value.ref 279) _) _ _ _); k_dflt (exfalso; omega))
  k_with "compareOp Eq ref str" => (k_here; k_dflt (exfalso; omega))
  k_with "compareOp Eq str str" => (k_here; k_dflt (exfalso; omega))
  k_go0
  (all_goals try k_fold)
  k_steps
  all_goals (try k_data)
  all_goals w_report
namespace Mine
def hd04.tw9058190046657864608 : Unit := ()
def hd04.tw12069576572625567148 : Unit := ()
def hd04.tw351032978034951172 : Unit := ()
def hd04.tw3501811557038808967 : Unit := ()
def hd04.tw7085365049885079980 : Unit := ()
def hd04.tw500979377034948140 : Unit := ()
def hd04.tw4737610757840737291 : Unit := ()
def hd04.tw8549848671547778798 : Unit := ()
def hd04.tw16929434640590199295 : Unit := ()
def hd04.tw15363778438439992494 : Unit := ()
def hd04.tw12573162705752692535 : Unit := ()
def hd04.tw8126587968375539423 : Unit := ()
def hd04.tw669466179224831533 : Unit := ()
def hd04.tw17442936615229801945 : Unit := ()
def hd04.tw1814609947020696135 : Unit := ()
def hd04.tw17953465251893323984 : Unit := ()
def hd04.tw1157747034346332415 : Unit := ()
def hd04.tw12552238949715171762 : Unit := ()
def hd04.tw8494229553287653339 : Unit := ()
def hd04.tw13035993811633116194 : Unit := ()
def hd04.tw3285089631606653669 : Unit := ()
def hd04.tw1696096780902204976 : Unit := ()
def hd04.tw11259519078128574759 : Unit := ()
def hd04.tw14919087359185326302 : Unit := ()
def hd04.tw7896418489803115052 : Unit := ()
def hd04.tw13607459054878508661 : Unit := ()
def hd04.tw4948058285522879843 : Unit := ()
def hd04.tw4995893557501977864 : Unit := ()
def hd04.tw14928121792329490626 : Unit := ()
def hd04.tw7904604854239075826 : Unit := ()
def hd04.tw17543433085532316077 : Unit := ()
def hd04.tw1175463832813279856 : Unit := ()
def hd04.tw14116834233820104487 : Unit := ()
def hd04.tw912081424800571601 : Unit := ()
def hd04.tw12854423618538216633 : Unit := ()
def hd04.tw11231700401510414281 : Unit := ()
def hd04.tw6497399968186234319 : Unit := ()
def hd04.tw4462444286043315570 : Unit := ()
def hd04.tw4317964308496910938 : Unit := ()
def hd04.tw7182728330769558584 : Unit := ()
def hd04.tw16411233801466840831 : Unit := ()
def hd04.tw10144433392871110983 : Unit := ()
def hd04.tw12487057604431452924 : Unit := ()
def hd04.tw4017567902493918493 : Unit := ()
def hd04.tw17522491785090600168 : Unit := ()
def hd04.tw14459849282238455871 : Unit := ()
def hd04.tw18386976440955345718 : Unit := ()
def hd04.tw6624618999555798330 : Unit := ()
def hd04.tw6976679390153543806 : Unit := ()
def hd04.tw11206443392529200188 : Unit := ()
def hd04.tw3323281163767697951 : Unit := ()
def hd04.tw5034311334222733503 : Unit := ()
def hd04.tw17603855650297592808 : Unit := ()
def hd04.tw13643130227409827129 : Unit := ()
def hd04.tw14564692107210388416 : Unit := ()
def hd04.tw15087688770085161311 : Unit := ()
def hd04.tw17846557995002880130 : Unit := ()
def hd04.tw9258194338857256350 : Unit := ()
def hd04.tw13283673774513896501 : Unit := ()
def hd04.tw15935943804345201984 : Unit := ()
def hd04.tw10974645961992043351 : Unit := ()
def hd04.tw1600124339382405876 : Unit := ()
def hd04.tw17775659175027747370 : Unit := ()
def hd04.tw9231709997033859876 : Unit := ()
def hd04.tw7750409861379406453 : Unit := ()
def hd04.tw10189295769360452571 : Unit := ()
def hd04.tw16475772357467902346 : Unit := ()
def hd04.tw2293561499596139469 : Unit := ()
def hd04.tw10089473538523776721 : Unit := ()
def hd04.tw13072046569295877107 : Unit := ()
def hd04.tw12406116042962007144 : Unit := ()
def hd04.tw14418349048514104884 : Unit := ()
def hd04.tw14794942827431516978 : Unit := ()
def hd04.tw492847917433126542 : Unit := ()
def hd04.tw8999836038194778000 : Unit := ()
def hd04.tw13693148996647990003 : Unit := ()
def hd04.tw6279936245690333422 : Unit := ()
def hd04.tw12552674758283588747 : Unit := ()
def hd04.tw10183954562170076351 : Unit := ()
def hd04.tw15403340961695787446 : Unit := ()
def hd04.tw2693021976475893524 : Unit := ()
def hd04.tw3860134675053903565 : Unit := ()
def hd04.tw3549648840669129242 : Unit := ()
def hd04.tw6625055231751657535 : Unit := ()
def hd04.tw4342512554790603809 : Unit := ()
def hd04.tw2430355003568937115 : Unit := ()
def hd04.tw15876020740531720966 : Unit := ()
def hd04.tw14531728464514819011 : Unit := ()
def hd04.tw6415166424803277687 : Unit := ()
def hd04.tw11608403465477812870 : Unit := ()
def hd04.tw12429573137770607655 : Unit := ()
def hd04.tw10471660893741696210 : Unit := ()
def hd04.tw12292440116545389961 : Unit := ()
def hd04.tw9073429867391339342 : Unit := ()
def hd04.tw4252228084386677966 : Unit := ()
def hd04.tw1211520750217075115 : Unit := ()
def hd04.tw7008171588454402926 : Unit := ()
def hd04.tw7211630596993339029 : Unit := ()
def hd04.tw2819215578155637655 : Unit := ()
def hd04.tw8452845548040810374 : Unit := ()
def hd04.tw5029473447137073475 : Unit := ()
def hd04.tw18389765492581039811 : Unit := ()
def hd04.tw14093632846951160152 : Unit := ()
def hd04.tw8128635094146705396 : Unit := ()
def hd04.tw12152157326774110566 : Unit := ()
def hd04.tw3067787525740194456 : Unit := ()
def hd04.tw5278083954303709703 : Unit := ()
def hd04.tw6270389957141229322 : Unit := ()
def hd04.tw14540248191247182847 : Unit := ()
def hd04.tw1689013949773589251 : Unit := ()
def hd04.tw5296646021021716675 : Unit := ()
def hd04.tw592907067067125545 : Unit := ()
def hd04.tw11368314188276080515 : Unit := ()
def hd04.tw501628909392399963 : Unit := ()
def hd04.tw419862093362567561 : Unit := ()
def hd04.tw9846408542069505671 : Unit := ()
def hd04.tw8027081808237644061 : Unit := ()
def hd04.tw15684782578473290677 : Unit := ()
def hd04.tw7469776614018825061 : Unit := ()
def hd04.tw11624334308203877682 : Unit := ()
def hd04.tw12695307609262729676 : Unit := ()
def hd04.tw13602796272444477761 : Unit := ()
def hd04.tw8217092923136195714 : Unit := ()
def hd04.tw1212554994236640469 : Unit := ()
def hd04.tw15273515465601256818 : Unit := ()
def hd04.tw3401416722719925323 : Unit := ()
def hd04.tw5570942232931446248 : Unit := ()
def hd04.tw11748585427733261057 : Unit := ()
def hd04.tw7339276214841948374 : Unit := ()
def hd04.tw6316885405001596840 : Unit := ()
def hd04.tw6108789378386666086 : Unit := ()
def hd04.tw9119870148285101878 : Unit := ()
def hd04.tw15996197435797884116 : Unit := ()
def hd04.tw861621614793110967 : Unit := ()
def hd04.tw12610424451210067910 : Unit := ()
def hd04.tw14940062605713379319 : Unit := ()
def hd04.tw16703756118121803719 : Unit := ()
def hd04.tw6211854265352691587 : Unit := ()
def hd04.tw1566649251016010469 : Unit := ()
def hd04.tw16236744312716501658 : Unit := ()
def hd04.tw14439685751978227976 : Unit := ()
def hd04.tw11701091175894903263 : Unit := ()
def hd04.tw8379582992130366246 : Unit := ()
def hd04.tw912093260646548123 : Unit := ()
def hd04.tw4817713260997329467 : Unit := ()
def hd04.tw15543248176869462043 : Unit := ()
def hd04.tw13216131300234705189 : Unit := ()
def hd04.tw11996732875383369479 : Unit := ()
def hd04.tw5585101954156876865 : Unit := ()
def hd04.tw9627263704743168225 : Unit := ()
def hd04.tw14084984237950849991 : Unit := ()
def hd04.tw7000321624932317803 : Unit := ()
def hd04.tw5768985692946525344 : Unit := ()
def hd04.tw18076388345469487393 : Unit := ()
def hd04.tw183431696087039466 : Unit := ()
def hd04.tw2012605167321715528 : Unit := ()
def hd04.tw9972137621148564233 : Unit := ()
def hd04.tw15770339838076282314 : Unit := ()
def hd04.tw7138233039791127917 : Unit := ()
def hd04.tw10035567685938625904 : Unit := ()
def hd04.tw4174613593745002332 : Unit := ()
def hd04.tw2445787358961529624 : Unit := ()
def hd04.tw14420122126185709725 : Unit := ()
def hd04.tw13241921378289212059 : Unit := ()
def hd04.tw6857213787483392379 : Unit := ()
def hd04.tw15087596211609715612 : Unit := ()
def hd04.tw7177508204410041402 : Unit := ()
def hd04.tw16493159261615263746 : Unit := ()
def hd04.tw2506333020067303350 : Unit := ()
def hd04.tw6429927863525400799 : Unit := ()
def hd04.tw16203833248253501743 : Unit := ()
def hd04.tw10279419220687478866 : Unit := ()
def hd04.tw9774639971078240318 : Unit := ()
def hd04.tw7044647374367127514 : Unit := ()
def hd04.tw5219901245074446333 : Unit := ()
def hd04.tw16082898489001955914 : Unit := ()
def hd04.tw7465952222990247849 : Unit := ()
def hd04.tw4827681586499948420 : Unit := ()
def hd04.tw16157051610023265651 : Unit := ()
def hd04.tw364173456372106594 : Unit := ()
def hd04.tw4250818245312015173 : Unit := ()
def hd04.tw18014508961792037452 : Unit := ()
def hd04.tw9275315492138191973 : Unit := ()
def hd04.tw6240767597876765281 : Unit := ()
def hd04.tw13659270767549309752 : Unit := ()
def hd04.tw10843788062415983133 : Unit := ()
def hd04.tw7324376213554068298 : Unit := ()
def hd04.tw13696774097227490928 : Unit := ()
def hd04.tw10170992852161330641 : Unit := ()
def hd04.tw2225680592731747406 : Unit := ()
def hd04.tw12354026625628192691 : Unit := ()
def hd04.tw11307899613339841065 : Unit := ()
def hd04.tw1008184869559464840 : Unit := ()
def hd04.tw11938653453854045155 : Unit := ()
def hd04.tw9402122483152696657 : Unit := ()
def hd04.tw13013804681380435922 : Unit := ()
def hd04.tw4486151755726395990 : Unit := ()
def hd04.tw8449760554466959819 : Unit := ()
def hd04.tw16995944204471661905 : Unit := ()
def hd04.tw17927664405919269278 : Unit := ()
def hd04.tw13637835343536120112 : Unit := ()
def hd04.tw651135581451746141 : Unit := ()
def hd04.tw3340647244806969440 : Unit := ()
def hd04.tw400425517620288469 : Unit := ()
def hd04.tw13369954628288728053 : Unit := ()
def hd04.tw4893381217307544713 : Unit := ()
def hd04.tw13189262601652072312 : Unit := ()
def hd04.tw8395560534412325477 : Unit := ()
def hd04.tw5017655412112724058 : Unit := ()
def hd04.tw2362221052650925819 : Unit := ()
def hd04.tw1242781797731712594 : Unit := ()
def hd04.tw463407803006308616 : Unit := ()
def hd04.tw15233856049862919987 : Unit := ()
def hd04.tw9117738324479773084 : Unit := ()
def hd04.tw10011366063601079703 : Unit := ()
def hd04.tw4399788045189067933 : Unit := ()
def hd04.tw7194162759803675300 : Unit := ()
def hd04.tw7086449646999043997 : Unit := ()
def hd04.tw5537532607941209344 : Unit := ()
def hd04.tw2347605451079522209 : Unit := ()
def hd04.tw3186836097529989989 : Unit := ()
def hd04.tw4444980275447959488 : Unit := ()
def hd04.tw4380764532465736658 : Unit := ()
def hd04.tw4593402917111784819 : Unit := ()
def hd04.tw12088073751866535454 : Unit := ()
def hd04.tw14619876911076557803 : Unit := ()
def hd04.tw14992095820448917712 : Unit := ()
def hd04.tw1902129508872369158 : Unit := ()
def hd04.tw13665240480600314581 : Unit := ()
def hd04.tw18166006791164731420 : Unit := ()
def hd04.tw15281329997310071469 : Unit := ()
def hd04.tw1380636216420440970 : Unit := ()
def hd04.tw4647940149972310829 : Unit := ()
def hd04.tw6393223627869258291 : Unit := ()
def hd04.tw15864402250002212845 : Unit := ()
def hd04.tw15057985621915683595 : Unit := ()
def hd04.tw16650368775247455810 : Unit := ()
def hd04.tw6340846053473147113 : Unit := ()
def hd04.tw13267591410014288713 : Unit := ()
def hd04.tw7081267766293184176 : Unit := ()
def hd04.tw3221513332630699238 : Unit := ()
def hd04.tw9821744012516229509 : Unit := ()
def hd04.tw8409765628057822 : Unit := ()
def hd04.tw12184254800618473132 : Unit := ()
def hd04.tw6710231295241297067 : Unit := ()
def hd04.tw10261743708171593931 : Unit := ()
def hd04.tw11476236878023865828 : Unit := ()
def hd04.tw6255904601732021881 : Unit := ()
def hd04.tw13571543404529838809 : Unit := ()
def hd04.tw853575516330703887 : Unit := ()
def hd04.tw15346776690629747202 : Unit := ()
def hd04.tw1934068871917641946 : Unit := ()
def hd04.tw4695211011016820198 : Unit := ()
def hd04.tw18237379854844186377 : Unit := ()
def hd04.tw14013432273990416922 : Unit := ()
def hd04.tw11899375181089950473 : Unit := ()
def hd04.tw7844823724068638294 : Unit := ()
def hd04.tw783989686146544200 : Unit := ()
def hd04.tw6937693663588293538 : Unit := ()
def hd04.tw12155180605461161019 : Unit := ()
def hd04.tw14112450631764868560 : Unit := ()
def hd04.tw14227404231685314484 : Unit := ()
def hd04.tw16101561438211887547 : Unit := ()
def hd04.tw6607091363190482459 : Unit := ()
def hd04.tw4568364487058301865 : Unit := ()
def hd04.tw10425492451347070523 : Unit := ()
def hd04.tw224329082570391655 : Unit := ()
def hd04.tw4644722746754389944 : Unit := ()
def hd04.tw16736587774949996457 : Unit := ()
def hd04.tw15012331983655581881 : Unit := ()
def hd04.tw15680224628370831569 : Unit := ()
def hd04.tw4147193190075437090 : Unit := ()
def hd04.tw8050773796999320374 : Unit := ()
def hd04.tw2481074640520446018 : Unit := ()
def hd04.tw5784950859188995789 : Unit := ()
def hd04.tw16392577020894410204 : Unit := ()
def hd04.tw9225255142890389212 : Unit := ()
def hd04.tw17417800117603963235 : Unit := ()
def hd04.tw17512993655629796092 : Unit := ()
def hd04.tw9475861855505035573 : Unit := ()
def hd04.tw14259039184938084230 : Unit := ()
def hd04.tw15193474386499373703 : Unit := ()
def hd04.tw9523600937940264950 : Unit := ()
def hd04.tw15702083691984448135 : Unit := ()
def hd04.tw5916978865393609413 : Unit := ()
def hd04.tw17594317850665215127 : Unit := ()
def hd04.tw2294000012548045380 : Unit := ()
def hd04.tw2322322600728764204 : Unit := ()
def hd04.tw6363622700422606434 : Unit := ()
def hd04.tw9988455986018974717 : Unit := ()
def hd04.tw4444561431421377485 : Unit := ()
def hd04.tw17949738885757076391 : Unit := ()
def hd04.tw13696129302110050568 : Unit := ()
def hd04.tw1408645974196867577 : Unit := ()
def hd04.tw2926276402714504729 : Unit := ()
def hd04.tw10005534652017432294 : Unit := ()
def hd04.tw17361534574167450546 : Unit := ()
def hd04.tw691227491782932089 : Unit := ()
def hd04.tw13374823638177210542 : Unit := ()
def hd04.tw17300170100223427859 : Unit := ()
def hd04.tw2401787226276389506 : Unit := ()
def hd04.tw5090057482416709965 : Unit := ()
def hd04.tw3621386717089277496 : Unit := ()
def hd04.tw4441964995652898219 : Unit := ()
def hd04.tw18093821730005125907 : Unit := ()
def hd04.tw9947493469410730222 : Unit := ()
def hd04.tw11604837824727210112 : Unit := ()
def hd04.tw12616460131022705163 : Unit := ()
def hd04.tw12655027799572720680 : Unit := ()
def hd04.tw16605206634454493428 : Unit := ()
set_option Elab.async true in
theorem hd04 : PySem.Challenge.rw_uf050027_04.Holds := by
  w_on
  o_law
  o_head (kHook k04.heap_1 [2, 3, 15, 22, 23, 24, 25, 28, 35, 36, 37, 40, 47, 48, 49, 52, 59, 60, 61, 64, 71, 72, 73, 76, 83, 84, 85, 88, 95, 96, 97, 100, 107, 108, 109, 112, 119, 120, 121, 124, 131, 132, 133, 136, 143, 144, 145, 148, 150, 151, 153, 154, 155, 157, 158, 160, 161, 162, 164, 165, 167, 168, 169, 171, 172, 174, 175, 176, 178, 179, 181, 182, 183, 186, 187, 188, 190, 191, 193, 194, 195, 197, 198, 200, 201, 202, 204, 205, 207, 208, 209, 211, 212, 214, 215, 216, 218, 219, 221, 222, 223, 225, 226, 228, 229, 230, 232, 233, 235, 236, 237, 239, 240, 242, 243, 244, 246, 247, 249, 250, 251, 254, 255, 256, 258, 259, 261, 262, 263, 266, 267, 268, 270, 271, 273, 274, 275, 278, 279, 280, 283, 284, 285, 287, 288, 290, 291, 292, 294, 295, 297, 298] kas04)
  (case hw => w_witness2)
  exact walk04 _ _ (by rfl)
end Mine
theorem PySem.Challenge.cw_uf050027_04_holds : PySem.Challenge.rw_uf050027_04.Holds :=
  Mine.hd04
