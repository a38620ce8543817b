import PyProof.Rows.All
import Wide.All
import OpenK.AllK
import Wide.FinOn
import PySem.Challenge.RW_uf050027_06
open PySem PySem.W PyProof.Rows
set_option Elab.async false
set_option maxRecDepth 100000
set_option maxHeartbeats 0
namespace Mine
section
local macro_rules | `(tactic| o_head $_) => `(tactic| assumption)
theorem k06 : PySem.Challenge.rw_uf050027_06.row.Holds → PySem.Challenge.rw_uf050027_06.row.Holds := by
  intro h
  k_head
end
noncomputable def vw06 : Program := { PySem.Challenge.pw_uf050027_06 with main := { PySem.Challenge.pw_uf050027_06.main with body := ((PySem.Challenge.pw_uf050027_06.main.body.eraseIdx 5).eraseIdx 0) } }
theorem kas06 : ∀ P, [2, 3, 6, 15, 17, 18, 20, 21, 22, 25, 26, 27, 29, 30, 32, 33, 34, 36, 37, 39, 40, 41, 43, 44, 46, 47, 48, 50, 51, 53, 54, 55, 57, 58, 60, 61, 62, 64, 65, 67, 68, 69, 71, 72, 74, 75, 76, 79, 80, 81, 83, 84, 86, 87, 88, 90, 91, 93, 94, 95, 98, 99, 100, 103, 104, 105, 108, 109] = (k06.heap_1 P).map (·.1) := fun _ => by kernel_rfl
end Mine
namespace Mine
noncomputable def mix (c k : Int) : Int := Int.fmod (Int.fmod ((c + 7919 * k + 1) * 48271) 1000003 * Int.fmod ((c + 7919 * k + 1) * 48271) 1000003) 999983
theorem mix_bd (c k : Int) : 0 ≤ mix c k ∧ mix c k < 999983 := by
  unfold mix
  generalize Int.fmod ((c + 7919 * k + 1) * 48271) 1000003 * Int.fmod ((c + 7919 * k + 1) * 48271) 1000003 = x
  exact ⟨Int.fmod_nonneg_of_pos x (by decide), Int.fmod_lt_of_pos x (by decide)⟩
noncomputable def big (c k : Int) : Int :=
  if Int.fmod (mix c (k + 90)) 4 = 0 then Int.fmod (mix c k) 30
  else if Int.fmod (mix c (k + 90)) 4 = 1 then Int.fmod (mix c k) 3000
  else if Int.fmod (mix c (k + 90)) 4 = 2 then
    (if Int.fmod (mix c k) 4 = 0 then 0 else if Int.fmod (mix c k) 4 = 1 then 1 else if Int.fmod (mix c k) 4 = 2 then 1000000000000 else 999999999999)
  else Int.fmod (mix c k * 1000003 + mix c (k + 50)) 1000000000001
theorem big_0 {c k : Int} (h : Int.fmod (mix c (k + 90)) 4 = 0) : Int.fmod (mix c k) 30 = big c k := by unfold big; rw [if_pos h]
theorem big_1 {c k : Int} (h : Int.fmod (mix c (k + 90)) 4 = 1) : Int.fmod (mix c k) 3000 = big c k := by unfold big; rw [if_neg (by rw [h]; decide), if_pos h]
theorem four_at {x : Int} (h0 : 0 ≤ x) (h1 : x < 4) : x = 0 ∨ x = 1 ∨ x = 2 ∨ x = 3 := by omega
theorem big_2 {c k : Int} (h : Int.fmod (mix c (k + 90)) 4 = 2) : ([0, 1, 10 ^ (Int.toNat 12), 10 ^ (Int.toNat 12) - 1] : List Int).getD (Int.toNat (Int.fmod (mix c k) 4)) 0 = big c k := by
  unfold big
  rw [if_neg (by rw [h]; decide), if_neg (by rw [h]; decide), if_pos h]
  rcases four_at (Int.fmod_nonneg_of_pos (mix c k) (by decide)) (Int.fmod_lt_of_pos (mix c k) (show (0 : Int) < 4 by decide)) with e | e | e | e <;> (rw [e]; rfl)
theorem big_3 {c k : Int} (h0 : ¬ Int.fmod (mix c (k + 90)) 4 = 0) (h1 : ¬ Int.fmod (mix c (k + 90)) 4 = 1) (h2 : ¬ Int.fmod (mix c (k + 90)) 4 = 2) : Int.fmod (mix c k * 1000003 + mix c (k + 50)) 1000000000001 = big c k := by
  unfold big; rw [if_neg h0, if_neg h1, if_neg h2]
theorem big_bd (c k : Int) : 0 ≤ big c k ∧ big c k ≤ 1000000000000 := by
  unfold big
  have h1 := Int.fmod_nonneg_of_pos (mix c k) (show (0 : Int) < 30 by decide)
  have h2 := Int.fmod_lt_of_pos (mix c k) (show (0 : Int) < 30 by decide)
  have h3 := Int.fmod_nonneg_of_pos (mix c k) (show (0 : Int) < 3000 by decide)
  have h4 := Int.fmod_lt_of_pos (mix c k) (show (0 : Int) < 3000 by decide)
  have h5 := Int.fmod_nonneg_of_pos (mix c k * 1000003 + mix c (k + 50)) (show (0 : Int) < 1000000000001 by decide)
  have h6 := Int.fmod_lt_of_pos (mix c k * 1000003 + mix c (k + 50)) (show (0 : Int) < 1000000000001 by decide)
  (repeat' split) <;> omega
noncomputable def off (c : Int) : Int := [0, 0, 1, 999, Int.fmod (mix c 70) 30, Int.fmod (mix c 71) 1000].getD (Int.fmod c 6).toNat 0
noncomputable def sl (p o : Int) : Int := Int.fdiv (p * o + 999) 1000
end Mine
namespace Mine
open PySem PySem.W PyProof.Rows
noncomputable def Ct (prog : Program) (w : World) (K : Frag) (p : Program) (loose : List Str) (mean : ExcName → Option Value) (mg mb : Str → Option Value) (f : Addr) (sz : Nat) (vs : List Value) (P : Prop) (R : Tok → Value) : Prop :=
  ∀ (dp un : Nat) (gd : Option (List Code)) (cn : Str) (cs : Scope) (a : Addr) (ccd : Value) (cl : List (Str × Addr)) (outer : List Env) (A₀ : Around) (base h₀ : Heap) (L : Addr) (m : Str → Option Value) (news : List (Addr × Obj)) (s : Shared) (Q E : Value → Shared → Prop),
    Below A₀ base outer h₀ → Fr h₀ L s.heap m → K.In h₀ → News h₀ L s.heap news → Top p loose mean mg mb h₀ → cs.kind = .function → dp + sz < recursionLimit → un + 8 * sz < cLine →
    (∀ (t : Tok) (h' : Heap) (tk' : Nat), P → Fr h₀ L h' m → News h₀ L h' news → Q (R t) { s with heap := h', toks := tk' }) →
    wpAny (model prog w) (ktrTop dp un gd cn cs L a ccd cl outer) (call (.ref f) vs) Q E s
theorem Ct.use {prog : Program} {w : World} {K : Frag} {p : Program} {loose : List Str} {mean : ExcName → Option Value} {mg mb : Str → Option Value} {f : Addr} {sz : Nat} {vs : List Value} {P : Prop} {R : Tok → Value} (C : Ct prog w K p loose mean mg mb f sz vs P R)
    {dp un : Nat} {gd : Option (List Code)} {cn : Str} {cs : Scope} {a : Addr} {ccd : Value} {cl : List (Str × Addr)} {outer : List Env} {A₀ : Around} {base h₀ : Heap} {L : Addr} {m : Str → Option Value} {news : List (Addr × Obj)} {s : Shared} {Q E : Value → Shared → Prop}
    (B : Below A₀ base outer h₀ := by k_asm) (F : Fr h₀ L s.heap m := by k_asm) (X : K.In h₀ := by k_asm) (N : News h₀ L s.heap news := by k_asm) (T : Top p loose mean mg mb h₀ := by k_asm) (hk : cs.kind = .function := by first | exact rfl | assumption) (hd : dp + sz < recursionLimit := by first | assumption | omega | ktr_room) (hu : un + 8 * sz < cLine := by first | assumption | omega | ktr_units)
    (ret : ∀ (t : Tok) (h' : Heap) (tk' : Nat), P → Fr h₀ L h' m → News h₀ L h' news → Q (R t) { s with heap := h', toks := tk' }) :
    wpAny (model prog w) (ktrTop dp un gd cn cs L a ccd cl outer) (call (.ref f) vs) Q E s := C _ _ _ _ _ _ _ _ _ _ _ _ _ _ _ _ _ _ B F X N T hk hd hu ret
theorem ct_retI {h₀ h' : Heap} {L : Addr} {m : Str → Option Value} {news : List (Addr × Obj)} {s : Shared} {Q : Value → Shared → Prop} {t : Tok} {tk' : Nat} {P : Prop} {x y : Int}
    (hret : ∀ (t : Tok) (h' : Heap) (tk' : Nat), P → Fr h₀ L h' m → News h₀ L h' news → Q (.int x t) { s with heap := h', toks := tk' }) (hP : P) (e : y = x) (F : Fr h₀ L h' m) (N : News h₀ L h' news) : Q (.int y t) { s with heap := h', toks := tk' } := by
  subst e
  exact hret t h' tk' hP F N
noncomputable def CellOk (c : Int) : Prop := Builtin.Int.intBits c ≤ 1100000
theorem CellOk.bits {c : Int} {P : Prop} (h : CellOk c ∧ P) : Builtin.Int.intBits c ≤ 1100000 := h.1
theorem cellOk_of {c : Int} {n : Nat} (h : Builtin.Int.intBits c ≤ n) (hn : n ≤ 1100000) : CellOk c := Nat.le_trans h hn
end Mine
local macro_rules | `(tactic| bits_by_make) => `(tactic| exact Mine.CellOk.bits (by assumption))
local macro_rules | `(tactic| l_fact) => `(tactic| ((with_reducible refine And.intro (a := Mine.CellOk _) ?_ ?_); (focus (first | exact And.left (by assumption) | exact Mine.cellOk_of (by bits_by_make) (by decide))); (focus (first | omega | (k_fmods; omega) | (kmn_bounds; omega)))))
local macro_rules | `(tactic| walk_at $s:str) => `(tactic| k_extra $s)
namespace Mine
abbrev Con (w : World) (mean : ExcName → Option Value) (mg mb : Str → Option Value) (f : Addr) (sz : Nat) (vs : List Value) (P : Prop) (R : Tok → Value) : Prop :=
  Ct PySem.Challenge.rw_uf050027_06.row.prog w (k06.heap_1 w.params) vw06 (looseW vw06 []) mean mg mb f sz vs P R
end Mine
namespace Mine
theorem c_lmix (w : World) (mean : ExcName → Option Value) (mg mb : Str → Option Value) (x0 x1 : Int) (tx0 tx1 : Tok) (hpre : (fun c k => CellOk c ∧ 0 ≤ k ∧ k ≤ 1000) x0 x1 := by first | trivial | ((try dsimp only); first | assumption | omega | l_fact)) : Con w mean mg mb 61 1 [.int x0 tx0, .int x1 tx1] ((fun c k => 0 ≤ mix c k ∧ mix c k < 999983) x0 x1) (fun t => .int (mix x0 x1) t) := by
  unfold Con Ct
  k_fill
  w_top off
  intro dp un gd cn cs a ccd cl outer A₀ base h₀ L m news s Q E B F X N T hk hd hu hret
  refine wpAny_call ?_
  k_dflt cell_enter
  k_with_none
  k_steps
  all_goals (refine' ct_retI hret ?e1 ?e2 ?e3 ?e4; (case e3 => k_asm); (case e4 => first | k_asm | (refine' cb_drop ?cbN ?cbS; (case cbN => assumption); (case cbS => kcj_all))); (case e1 => exact mix_bd _ _); (case e2 => rfl))
end Mine
namespace Mine
theorem c_lbig (w : World) (mean : ExcName → Option Value) (mg mb : Str → Option Value) (x0 x1 : Int) (tx0 tx1 : Tok) (hpre : (fun c k => CellOk c ∧ 0 ≤ k ∧ k ≤ 500) x0 x1 := by first | trivial | ((try dsimp only); first | assumption | omega | l_fact)) : Con w mean mg mb 68 2 [.int x0 tx0, .int x1 tx1] ((fun c k => 0 ≤ big c k ∧ big c k ≤ 1000000000000) x0 x1) (fun t => .int (big x0 x1) t) := by
  unfold Con Ct
  k_fill
  w_top off
  intro dp un gd cn cs a ccd cl outer A₀ base h₀ L m news s Q E B F X N T hk hd hu hret
  refine wpAny_call ?_
  k_dflt cell_enter
  k_with_none
  k_with "call ref" => (k_here; (with_reducible show wpAny _ _ (call (Value.ref 61) _) _ _ _); k_dflt (refine Mine.Ct.use (Mine.c_lmix _ _ _ _ _ _ _ _) (ret := ?_)); intro t9 h9 tk9 P9 F9 N9; (try dsimp only); (try k_fold))
  k_steps
  all_goals (refine' ct_retI hret ?e1 ?e2 ?e3 ?e4; (case e3 => k_asm); (case e4 => first | k_asm | (refine' cb_drop ?cbN ?cbS; (case cbN => assumption); (case cbS => kcj_all))); (case e1 => exact big_bd _ _); (case e2 => (first | exact big_0 (by assumption) | exact big_1 (by assumption) | exact big_2 (by assumption) | exact big_3 (by assumption) (by assumption) (by assumption) | (unfold big; cb_eq))))
end Mine
namespace Mine
open PySem PySem.W PyProof.Rows
noncomputable def Cv (prog : Program) (w : World) (K : Frag) (p : Program) (loose : List Str) (mean : ExcName → Option Value) (mg mb : Str → Option Value) (f : Addr) (sz : Nat) (vs : List Value) (P : List (Addr × Obj) → Prop) (Out : Value → Prop) : Prop :=
  ∀ (dp un : Nat) (gd : Option (List Code)) (cn : Str) (cs : Scope) (a : Addr) (ccd : Value) (cl : List (Str × Addr)) (outer : List Env) (A₀ : Around) (base h₀ : Heap) (L : Addr) (m : Str → Option Value) (news : List (Addr × Obj)) (s : Shared) (Q E : Value → Shared → Prop),
    Below A₀ base outer h₀ → Fr h₀ L s.heap m → K.In h₀ → News h₀ L s.heap news → Top p loose mean mg mb h₀ → cs.kind = .function → dp + sz < recursionLimit → un + 8 * sz < cLine → P news →
    (∀ (r : Value) (h' : Heap) (tk' : Nat), Out r → Fr h₀ L h' m → News h₀ L h' news → Q r { s with heap := h', toks := tk' }) →
    wpAny (model prog w) (ktrTop dp un gd cn cs L a ccd cl outer) (call (.ref f) vs) Q E s
theorem Cv.use {prog : Program} {w : World} {K : Frag} {p : Program} {loose : List Str} {mean : ExcName → Option Value} {mg mb : Str → Option Value} {f : Addr} {sz : Nat} {vs : List Value} {P : List (Addr × Obj) → Prop} {Out : Value → Prop} (C : Cv prog w K p loose mean mg mb f sz vs P Out)
    {dp un : Nat} {gd : Option (List Code)} {cn : Str} {cs : Scope} {a : Addr} {ccd : Value} {cl : List (Str × Addr)} {outer : List Env} {A₀ : Around} {base h₀ : Heap} {L : Addr} {m : Str → Option Value} {news : List (Addr × Obj)} {s : Shared} {Q E : Value → Shared → Prop}
    (B : Below A₀ base outer h₀ := by k_asm) (F : Fr h₀ L s.heap m := by k_asm) (X : K.In h₀ := by k_asm) (N : News h₀ L s.heap news := by k_asm) (T : Top p loose mean mg mb h₀ := by k_asm) (hk : cs.kind = .function := by first | exact rfl | assumption) (hd : dp + sz < recursionLimit := by first | assumption | omega | ktr_room) (hu : un + 8 * sz < cLine := by first | assumption | omega | ktr_units) (hp : P news := by first | trivial | k_mem)
    (ret : ∀ (r : Value) (h' : Heap) (tk' : Nat), Out r → Fr h₀ L h' m → News h₀ L h' news → Q r { s with heap := h', toks := tk' }) :
    wpAny (model prog w) (ktrTop dp un gd cn cs L a ccd cl outer) (call (.ref f) vs) Q E s := C _ _ _ _ _ _ _ _ _ _ _ _ _ _ _ _ _ _ B F X N T hk hd hu hp ret
noncomputable def TextLe (n : Nat) (r : Value) : Prop := ∃ (x : Str) (t : Tok), r = .str x t ∧ x.length ≤ n ∧ PyData.strOk x = true
end Mine
namespace Mine
open PySem PySem.W PyProof.Rows
theorem textLe_of {n : Nat} {x : Str} {t : Tok} (h : x.length ≤ n) (ho : PyData.strOk x = true) : TextLe n (.str x t) := ⟨x, t, rfl, h, ho⟩
theorem strOk_append {x y : Str} (hx : PyData.strOk x = true) (hy : PyData.strOk y = true) : PyData.strOk (x ++ y) = true := by
  unfold PyData.strOk at *
  show (x.cps ++ y.cps).all _ = true
  rw [Array.all_append, hx, hy]; rfl
theorem strOk_mem {x : Str} (hx : PyData.strOk x = true) {c : Nat} (h : c ∈ x.cps) : c < 0x110000 := by
  unfold PyData.strOk at hx
  simpa using (Array.all_eq_true_iff_forall_mem.mp hx) c h
theorem strOk_slice {x : Str} (hx : PyData.strOk x = true) (l u : Option Int) : PyData.strOk (Txt.slice x l u) = true := by
  unfold Txt.slice
  split
  · exact hx
  · unfold PyData.strOk
    rw [Array.all_eq_true_iff_forall_mem]
    intro c hc
    obtain ⟨i, _, hi⟩ := List.mem_filterMap.mp (List.mem_toArray.mp hc)
    simpa using strOk_mem hx (Array.mem_of_getElem? hi)
theorem strOk_item {x : Str} (hx : PyData.strOk x = true) (i : Int) : PyData.strOk (Txt.item x i) = true := by
  unfold Txt.item Txt.charAt
  unfold PyData.strOk
  cases h : (seqIndex? i x.length).bind (x.cps[·]?) with
  | none => simp
  | some c =>
    have : c < 0x110000 := by
      cases hs : seqIndex? i x.length with
      | none => rw [hs] at h; cases h
      | some k => rw [hs] at h; exact strOk_mem hx (Array.mem_of_getElem? h)
    simp [this]
theorem len_item1 (x : Str) (i : Int) : (Txt.item x i).length = 1 := rfl
theorem textAll_nil {n : Nat} : ∀ v ∈ ([] : List Value), TextLe n v := fun _ h => nomatch h
theorem textAll_cons {n : Nat} {v : Value} {r : List Value} (h : TextLe n v) (hr : ∀ v ∈ r, TextLe n v) : ∀ u ∈ v :: r, TextLe n u := fun u hu => by
  rcases List.mem_cons.mp hu with rfl | hu
  · exact h
  · exact hr u hu
theorem item_texts {prog : Program} {w : World} {A : Around} {E : Value → Shared → Prop} {s : Shared} {value slice : PySem.Expr} {l : Addr} {vs : List Value} {k : Int} {u : Tok} {Q : Value → Shared → Prop} (n : Nat) (hl : s.heap.IsList l vs.toArray)
    (h0 : 0 ≤ k ∧ k < vs.length) (hfit : k < 2 ^ 63) (ht : ∀ v ∈ vs, TextLe n v) (h : ∀ x t, (x.length ≤ n ∧ PyData.strOk x = true) → Q (.str x t) s)
    (hs : subscripted slice false (.ref l) (.int k u) = operate [.ref l, .int k u] (getItem (.ref l) (.int k u)) := by with_unfolding_all rfl) :
    wpAny (model prog w) A (subscriptTail value slice (.ref l) (.int k u)) Q E s := by
  have hlt : k.toNat < vs.length := by omega
  obtain ⟨x, t, e, hx⟩ := ht _ (List.getElem_mem hlt)
  exact tail_any hl.typeIs slot_list_getitem.lookup (wpAny_getItem_list hl h0.1 hfit (x := .str x t) (by rw [List.getElem?_toArray, List.getElem?_eq_getElem hlt, e]) (h x t hx)) hs
end Mine
namespace Mine
open PySem PySem.W PyProof.Rows
end Mine
namespace Mine
theorem c_word (w : World) (mean : ExcName → Option Value) (mg mb : Str → Option Value) (c n : Int) (tc tn : Tok) (hc : CellOk c ∧ 0 ≤ n ∧ n ≤ 13 := by first | trivial | ((try dsimp only); first | assumption | omega | l_fact)) :
    Cv PySem.Challenge.rw_uf050027_06.row.prog w (k06.heap_1 w.params) vw06 (looseW vw06 []) mean mg mb 75 2 [.int c tc, .int n tn] (fun _ => True) (TextLe n.toNat) := by
  unfold Cv
  k_fill
  w_top off
  intro dp un gd cn cs a ccd cl outer A₀ base h₀ L m news s Q E B F X N T hk hd hu hP hret
  refine wpAny_call ?_
  k_dflt cell_enter
  k_with_none
  k_with "call ref" => (k_here; (with_reducible show wpAny _ _ (call (Value.ref 61) _) _ _ _); k_dflt (refine Mine.Ct.use (Mine.c_lmix _ _ _ _ _ _ _ _) (ret := ?_)); intro t9 h9 tk9 P9 F9 N9; (try dsimp only); (try k_fold))
  k_with "call ref" => (k_here; (with_reducible show wpAny _ _ (call (Value.ref 68) _) _ _ _); k_dflt (refine Mine.Ct.use (Mine.c_lbig _ _ _ _ _ _ _ _) (ret := ?_)); intro t9 h9 tk9 P9 F9 N9; (try dsimp only); (try k_fold))
  k_with "state" => (first | exact ⟨⟨rfl, by decide⟩, by decide +kernel⟩ | (refine ⟨⟨?sa, ?sc⟩, ?sb⟩; (case sa => (rw [Str.length_append, Mine.len_item1, List.length_append, List.length_cons, List.length_nil]; omega)); (case sc => (rw [List.length_append, List.length_cons, List.length_nil]; omega)); (case sb => exact Mine.strOk_append (by assumption) (Mine.strOk_item (by decide +kernel) _))))
  k_with "pyIter ref" => k_state (fun pre w => (w.length = pre.length ∧ pre.length ≤ 13) ∧ PyData.strOk w = true) "_law_word_here"
  k_steps
  k_with_none
  all_goals (refine' hret _ _ _ ⟨_, _, rfl, ?q1⟩ ?q2 ?q3; (case q2 => k_asm); (case q3 => first | k_asm | (refine' cb_drop ?cbN ?cbS; (case cbN => assumption); (case cbS => kcj_all))); (case q1 => (refine ⟨?_, by assumption⟩; simp only [rangeKs_length] at *; omega)))

end Mine
namespace Mine
open PySem PySem.W PyProof.Rows PySem.Spec PySem.Calls PyProof.Rows.LCg PyProof.Rows.LCt
section
variable {prog : Program} {w : World} {A : Around} {E : Value → Shared → Prop} {s : Shared} {h₀ : Heap} {L : Addr} {m : Str → Option Value} {env : Env}
noncomputable def CompTurn (h₀ : Heap) (L : Addr) (m : Str → Option Value) (s₁ : Shared) (I : Addr) (oI : Obj) (C : Addr) (oC : Obj) (D : Addr) (oD : Obj) (S : List (Addr × Obj) → Prop) (rest : Value → List (Addr × Obj) → Prop) (y : Value) (s₂ : Shared) : Prop :=
  LCg.CompEnd h₀ L m s₁ I oI C oC D oD S rest y s₂
theorem CompTurn.intro {I C D : Addr} {s₁ : Shared} {oI oC oD : Obj} {S : List (Addr × Obj) → Prop} {rest : Value → List (Addr × Obj) → Prop} {y : Value} {h' : Heap} {tk : Nat} {all : List (Addr × Obj)}
    (F : Fr h₀ L h' m) (N : News h₀ L h' all) (news' : List (Addr × Obj)) (sub : ∀ p ∈ (I, oI) :: (C, oC) :: (D, oD) :: news', p ∈ all) (off : Off3 I C D news') (hS : S news') (r : rest y news') :
    CompTurn h₀ L m s₁ I oI C oC D oD S rest y { s₁ with heap := h', toks := tk } := CompEnd.intro F N news' sub off hS r
theorem rest_inv {elt : Expr} {x : Str} {scope : Scope} {cl : List (Str × Addr)} {S : List (Addr × Obj) → Prop} {P : Nat → Value → Prop} {Fin : List Value → List (Addr × Obj) → Prop} {n : Nat} {news : List (Addr × Obj)}
    (Inv : Nat → List Value → List (Addr × Obj) → Prop) (h0 : Inv 0 [] news)
    (turn : ∀ i ys nw v I oI C oC D m₂ h tk (E' : Value → Shared → Prop), i < n → Inv i ys nw → P i v → NsObj oC m₂ → m₂ x = some v → Fr h₀ L h m → News h₀ L h ((I, oI) :: (C, oC) :: (D, lst ys) :: nw) → Off3 I C D nw → ((@Ne Nat I C) ∧ (@Ne Nat I D) ∧ (@Ne Nat C D)) →
      wpAny (model prog w) A (eval elt (compEnvC scope cl C env)) (CompTurn h₀ L m { s with heap := h, toks := tk } I oI C oC D (lst ys) S (fun y nw' => Inv (i + 1) (ys ++ [y]) nw')) E' { s with heap := h, toks := tk })
    (fin : ∀ ys nw, Inv n ys nw → Fin ys nw) : CompRest prog w A h₀ L m env elt x scope cl s S P Fin n 0 [] news := by
  have key : ∀ (j i : Nat) (ys : List Value) (nw : List (Addr × Obj)), i + j = n → Inv i ys nw → CompRest prog w A h₀ L m env elt x scope cl s S P Fin j i ys nw := by
    intro j
    induction j with
    | zero =>
      intro i ys nw hi hv
      have e : i = n := by omega
      subst e
      exact CompRest.zero (fin ys nw hv)
    | succ j ih =>
      intro i ys nw hi hv
      refine CompRest.succ ?_
      intro v I oI C oC D m₂ h tk E' hP hC hx F N off ne
      refine wpAny_mono (turn i ys nw v I oI C oC D m₂ h tk E' (by omega) hv hP hC hx F N off ne) (fun y s₂ hq => ?_) fun _ _ e => e
      obtain ⟨h', tk', nw', e, F', N', off', hS, r⟩ := hq
      exact ⟨h', tk', nw', e, F', N', off', hS, ih (i + 1) _ nw' (by omega) r⟩
  exact key n 0 [] news (by omega) h0
theorem restT_inv {ct elt : Expr} {x : Str} {scope : Scope} {cl : List (Str × Addr)} {S : List (Addr × Obj) → Prop} {P : Nat → Value → Prop} {Fin : List Value → List (Addr × Obj) → Prop} {n : Nat} {news : List (Addr × Obj)}
    (Inv : Nat → List Value → List (Addr × Obj) → Prop) (h0 : Inv 0 [] news)
    (turn : ∀ i ys nw v I oI C oC D m₂ h tk (E' : Value → Shared → Prop), i < n → Inv i ys nw → P i v → NsObj oC m₂ → m₂ x = some v → Fr h₀ L h m → News h₀ L h ((I, oI) :: (C, oC) :: (D, lst ys) :: nw) → Off3 I C D nw → ((@Ne Nat I C) ∧ (@Ne Nat I D) ∧ (@Ne Nat C D)) →
      wpAny (model prog w) A (isTrue ct (compEnvC scope cl C env) (eval ct (compEnvC scope cl C env))) (fun ok s' => if ok = true then
        wpAny (model prog w) A (eval elt (compEnvC scope cl C env)) (CompTurn h₀ L m { s with heap := h, toks := tk } I oI C oC D (lst ys) S (fun y nw' => Inv (i + 1) (ys ++ [y]) nw')) E' s'
        else CompTurn h₀ L m { s with heap := h, toks := tk } I oI C oC D (lst ys) S (fun _ nw' => Inv (i + 1) ys nw') Value.none s') E' { s with heap := h, toks := tk })
    (fin : ∀ ys nw, Inv n ys nw → Fin ys nw) : CompRestT prog w A h₀ L m env ct elt x scope cl s S P Fin n 0 [] news := by
  have key : ∀ (j i : Nat) (ys : List Value) (nw : List (Addr × Obj)), i + j = n → Inv i ys nw → CompRestT prog w A h₀ L m env ct elt x scope cl s S P Fin j i ys nw := by
    intro j
    induction j with
    | zero =>
      intro i ys nw hi hv
      have e : i = n := by omega
      subst e
      exact CompRestT.zero (fin ys nw hv)
    | succ j ih =>
      intro i ys nw hi hv
      refine CompRestT.succ ?_
      intro v I oI C oC D m₂ h tk E' hP hC hx F N off ne
      refine wpAny_mono (turn i ys nw v I oI C oC D m₂ h tk E' (by omega) hv hP hC hx F N off ne) (fun ok s' hq => ?_) fun _ _ e => e
      cases ok with
      | true =>
        rw [if_pos rfl] at hq ⊢
        refine wpAny_mono hq (fun y s₂ hq => ?_) fun _ _ e => e
        obtain ⟨h', tk', nw', e, F', N', off', hS, r⟩ := hq
        exact ⟨h', tk', nw', e, F', N', off', hS, ih (i + 1) _ nw' (by omega) r⟩
      | false =>
        rw [if_neg (by decide)] at hq ⊢
        obtain ⟨h', tk', nw', e, F', N', off', hS, r⟩ := hq
        exact ⟨h', tk', nw', e, F', N', off', hS, ih (i + 1) _ nw' (by omega) r⟩
  exact key n 0 [] news (by omega) h0
noncomputable def SrcS (prog : Program) (w : World) (A : Around) (h₀ : Heap) (L : Addr) (m : Str → Option Value) (R : Shared → Str → List (Addr × Obj) → Prop) (xv : Value) (s₁ : Shared) : Prop :=
  ∃ tx t news, xv = .str tx t ∧ A.handled = none ∧ Fr h₀ L s₁.heap m ∧ News h₀ L s₁.heap news ∧ tx.cps.size ≤ sizeLine ∧ ∀ s₂ : Shared, (∃ h, s₂ = { s₁ with heap := h }) → R s₂ tx news
theorem SrcS.intro {R : Shared → Str → List (Addr × Obj) → Prop} {tx : Str} {t : Tok} {s₁ : Shared} {news : List (Addr × Obj)} (hh : A.handled = none) (F : Fr h₀ L s₁.heap m) (N : News h₀ L s₁.heap news) (hsz : tx.length ≤ sizeLine) (h : ∀ g, R { s₁ with heap := g } tx news) : SrcS prog w A h₀ L m R (.str tx t) s₁ :=
  ⟨tx, t, news, rfl, hh, F, N, hsz, fun _ ⟨g, e⟩ => e ▸ h g⟩
end
end Mine
namespace Mine
open PySem PySem.W PyProof.Rows PySem.Spec PySem.Calls
section
variable {prog : Program} {w : World} {A : Around} {E : Value → Shared → Prop} {s : Shared} {env : Env} {h₀ : Heap} {target : Expr} {body : List Stmt} {Q : Flow → Shared → Prop}
noncomputable def LoopTurn (h₀ : Heap) (L : Addr) (s₁ : Shared) (I : Addr) (o : Obj) (rest : (Str → Option Value) → List (Addr × Obj) → Prop) (Q : Flow → Shared → Prop) (f : Flow) (s₂ : Shared) : Prop :=
  UnrPostW h₀ L s₁ [(I, o)] rest Q f s₂
noncomputable def Between {σ : Type} (ps : σ → List (Str × Value)) (stored : List Str) (m₀ : Str → Option Value) (ax : Addr) (lo : Obj) (I : Addr) (Inv : σ → List (Addr × Obj) → Prop) (m : Str → Option Value) (nw : List (Addr × Obj)) : Prop :=
  (ax, lo) ∈ nw ∧ (∀ p ∈ nw, p.1 ≠ I) ∧ ∃ c, (∀ p ∈ ps c, m p.1 = some p.2) ∧ (∀ z, (∀ p ∈ ps c, z ≠ p.1) → stored.contains z = false → m z = m₀ z) ∧ Inv c nw
theorem LoopTurn.ret {L I : Addr} {s₁ : Shared} {o : Obj} {rest : (Str → Option Value) → List (Addr × Obj) → Prop} {v : Value} {s₂ : Shared} (h : Q (.ret v) s₂) : LoopTurn h₀ L s₁ I o rest Q (.ret v) s₂ := h
theorem LoopTurn.next {σ : Type} {ps : σ → List (Str × Value)} {stored : List Str} {m₀ : Str → Option Value} {ax : Addr} {lo : Obj} {L I : Addr} {o : Obj} {Inv : σ → List (Addr × Obj) → Prop} {s₁ : Shared} {h' : Heap} {tk : Nat} {m' : Str → Option Value} {all : List (Addr × Obj)} (c : σ) (nw' : List (Addr × Obj))
    (F : Fr h₀ L h' m') (N : News h₀ L h' all) (hI : (I, o) ∈ all) (sub : ∀ p ∈ nw', p ∈ all) (hax : (ax, lo) ∈ nw') (off : ∀ p ∈ nw', p.1 ≠ I) (hk : ∀ p ∈ ps c, m' p.1 = some p.2) (hr : ∀ z, (∀ p ∈ ps c, z ≠ p.1) → stored.contains z = false → m' z = m₀ z) (hv : Inv c nw') :
    LoopTurn h₀ L s₁ I o (Between ps stored m₀ ax lo I Inv) Q .next { s₁ with heap := h', toks := tk } :=
  ⟨h', tk, m', nw', rfl, F, fun p hp => by
    rcases List.mem_append.mp hp with hp | hp
    · rw [List.mem_singleton.mp hp]; exact N _ hI
    · exact N p (sub p hp), fun p hp q hq => by rw [List.mem_singleton.mp hq]; exact off p hp, hax, off, c, hk, hr, hv⟩
theorem LoopTurn.cont {σ : Type} {ps : σ → List (Str × Value)} {stored : List Str} {m₀ : Str → Option Value} {ax : Addr} {lo : Obj} {L I : Addr} {o : Obj} {Inv : σ → List (Addr × Obj) → Prop} {s₁ s₂ : Shared} (h : LoopTurn h₀ L s₁ I o (Between ps stored m₀ ax lo I Inv) Q .next s₂) :
    LoopTurn h₀ L s₁ I o (Between ps stored m₀ ax lo I Inv) Q .cont s₂ := h
theorem between_fr {L : Addr} {h : Heap} {ps : List (Str × Value)} {stored : List Str} {m₀ m₁ : Str → Option Value} (h1 : ∀ p ∈ ps, m₁ p.1 = some p.2) (h2 : ∀ z, (∀ p ∈ ps, z ≠ p.1) → stored.contains z = false → m₁ z = m₀ z)
    (F : Fr h₀ L h m₁) : Fr h₀ L h (kstB (fun z => if stored.contains z then m₁ z else m₀ z) ps) := by
  have em : kstB (fun z => if stored.contains z then m₁ z else m₀ z) ps = m₁ := by
    funext y
    refine kstB_eq h1 fun hn => ?_
    by_cases hc : stored.contains y = true
    · rw [if_pos hc]
    · rw [if_neg hc]
      exact (h2 y hn (by simpa using hc)).symm
  rw [em]
  exact F
theorem loop_list {σ : Type} {ax : Addr} {lo : Obj} {vs : List Value} {n : Nat} {m₀ : Str → Option Value} {news : List (Addr × Obj)} (ps : σ → List (Str × Value)) (stored : List Str) (Inv : Nat → σ → List (Addr × Obj) → Prop) (c₀ : σ)
    (hh : A.handled = none) (F : Fr h₀ env.locals s.heap m₀) (N : News h₀ env.locals s.heap news) (hm : (ax, lo) ∈ news) (hc : lo.cls = .type "list") (hd : lo.data = .seq vs.toArray n)
    (hk : ∀ p ∈ ps c₀, m₀ p.1 = some p.2) (h0 : Inv 0 c₀ news)
    (turn : ∀ i v c nw (u : Str → Option Value) I o h tk, vs[i]? = some v → Inv i c nw → (ax, lo) ∈ nw → (∀ p ∈ nw, p.1 ≠ I) → o.cls = .type "list_iterator" → Fr h₀ env.locals h (kstB (fun z => if stored.contains z then u z else m₀ z) (ps c)) → News h₀ env.locals h ((I, o) :: nw) →
      wpAny (model prog w) A (assign target env v) (fun _ s₂ => wpAny (model prog w) A (execs body env) (LoopTurn h₀ env.locals { s with heap := h, toks := tk } I o (Between ps stored m₀ ax lo I (Inv (i + 1))) Q) E s₂) E { s with heap := h, toks := tk })
    (done : ∀ c nw (u : Str → Option Value) h tk, Inv vs.length c nw → (ax, lo) ∈ nw → Fr h₀ env.locals h (kstB (fun z => if stored.contains z then u z else m₀ z) (ps c)) → News h₀ env.locals h nw → Q .next { s with heap := h, toks := tk }) :
    wpAny (model prog w) A (pyIter (.ref ax)) (fun it s₂ => TurnsAt prog w A h₀ env target body Q E it s₂) E s := by
  refine iter_listTurns hh F N hm hc hd fun I hI => ?_
  have key : ∀ (xs : List Value) (i : Nat) (m : Str → Option Value) (nw : List (Addr × Obj)), vs.drop i = xs → i ≤ vs.length → Between ps stored m₀ ax lo I (Inv i) m nw →
      ItemsRest prog w A E h₀ env target body Q s [(I, "list_iterator")] [(ax, lo)] (xs.map .val) m nw := by
    intro xs
    induction xs with
    | nil =>
      intro i m nw hx hi hb
      obtain ⟨hax, hne, c, h1, h2, hv⟩ := hb
      have e : i = vs.length := by
        have := congrArg List.length hx
        rw [List.length_drop, List.length_nil] at this
        omega
      subst e
      exact ItemsRest.zero fun h tk F' N' => done c nw m h tk hv hax (between_fr h1 h2 F') N'
    | cons v r ih =>
      intro i m nw hx hi hb
      obtain ⟨hax, hne, c, h1, h2, hv⟩ := hb
      have hlt : i < vs.length := by
        have := congrArg List.length hx
        rw [List.length_drop, List.length_cons] at this
        omega
      have hvi : vs[i]? = some v := by
        rw [List.drop_eq_getElem_cons hlt] at hx
        rw [List.getElem?_eq_getElem hlt]
        exact congrArg some (List.cons.inj hx).1
      have hr : vs.drop (i + 1) = r := by
        rw [List.drop_eq_getElem_cons hlt] at hx
        exact (List.cons.inj hx).2
      refine ItemsRest.val fun h tk F' => AllObj.cons fun o ho => AllObj.nil fun N' => ?_
      refine wpAny_mono (turn i v c nw m I o h tk hvi hv hax hne ho (between_fr h1 h2 F') N') (fun _ s₂ q => wpAny_mono q (fun f s₃ p => ?_) fun _ _ e => e) fun _ _ e => e
      have fin : ∀ s₃, UnrEndW h₀ env.locals { s with heap := h, toks := tk } [(I, o)] (Between ps stored m₀ ax lo I (Inv (i + 1))) s₃ →
          UnrEndW h₀ env.locals { s with heap := h, toks := tk } [(I, o)] (fun m' n' => SubL [(ax, lo)] n' ∧ ItemsRest prog w A E h₀ env target body Q s [(I, "list_iterator")] [(ax, lo)] (r.map .val) m' n') s₃ := by
        rintro s₃ ⟨h', tk', m', nw', e, F₃, N₃, off, b⟩
        exact ⟨h', tk', m', nw', e, F₃, N₃, off, And.intro b.1 trivial, ih (i + 1) m' nw' hr hlt b⟩
      cases f with
      | ret v => exact p
      | brk => exact p
      | next => exact fin _ p
      | cont => exact fin _ p
  exact key vs 0 m₀ news (List.drop_zero) (Nat.zero_le _) ⟨hm, fun p hp => Nat.ne_of_lt (hI p hp), c₀, hk, fun _ _ _ => rfl, h0⟩
noncomputable def Still {σ : Type} (ps : σ → List (Str × Value)) (stored : List Str) (m₀ : Str → Option Value) (news : List (Addr × Obj)) (P : σ → Prop) (m : Str → Option Value) (nw : List (Addr × Obj)) : Prop :=
  nw = news ∧ ∃ c, (∀ p ∈ ps c, m p.1 = some p.2) ∧ (∀ z, (∀ p ∈ ps c, z ≠ p.1) → stored.contains z = false → m z = m₀ z) ∧ P c
theorem LoopTurn.still {σ : Type} {ps : σ → List (Str × Value)} {stored : List Str} {m₀ : Str → Option Value} {L I : Addr} {o : Obj} {news : List (Addr × Obj)} {P : σ → Prop} {s₁ : Shared} {h' : Heap} {tk : Nat} {m' : Str → Option Value} {all : List (Addr × Obj)} (c : σ)
    (F : Fr h₀ L h' m') (N : News h₀ L h' all) (hI : (I, o) ∈ all) (sub : ∀ p ∈ news, p ∈ all) (off : ∀ p ∈ news, p.1 ≠ I) (hk : ∀ p ∈ ps c, m' p.1 = some p.2) (hr : ∀ z, (∀ p ∈ ps c, z ≠ p.1) → stored.contains z = false → m' z = m₀ z) (hv : P c) :
    LoopTurn h₀ L s₁ I o (Still ps stored m₀ news P) Q .next { s₁ with heap := h', toks := tk } :=
  ⟨h', tk, m', news, rfl, F, fun p hp => by
    rcases List.mem_append.mp hp with hp | hp
    · rw [List.mem_singleton.mp hp]; exact N _ hI
    · exact N p (sub p hp), fun p hp q hq => by rw [List.mem_singleton.mp hq]; exact off p hp, rfl, c, hk, hr, hv⟩
theorem still_post {σ : Type} {ps : σ → List (Str × Value)} {stored : List Str} {m₀ : Str → Option Value} {L I ax : Addr} {lo : Obj} {o : Obj} {news : List (Addr × Obj)} {P : σ → Prop} {s₁ : Shared} {f : Flow} {s₂ : Shared} (hm : (ax, lo) ∈ news) (off : ∀ p ∈ news, p.1 ≠ I)
    (h : LoopTurn h₀ L s₁ I o (Still ps stored m₀ news P) Q f s₂) : LoopTurn h₀ L s₁ I o (Between ps stored m₀ ax lo I (fun c nw => nw = news ∧ P c)) Q f s₂ := by
  have key : UnrEndW h₀ L s₁ [(I, o)] (Still ps stored m₀ news P) s₂ → UnrEndW h₀ L s₁ [(I, o)] (Between ps stored m₀ ax lo I (fun c nw => nw = news ∧ P c)) s₂ := by
    rintro ⟨h', tk, m', nw', e, F, N, off', hn, c, h1, h2, h3⟩
    subst hn
    exact ⟨h', tk, m', nw', e, F, N, off', hm, off, c, h1, h2, rfl, h3⟩
  cases f with
  | ret v => exact h
  | brk => exact h
  | next => exact key h
  | cont => exact key h
theorem loop_listD {σ : Type} {ax : Addr} {lo : Obj} {vs : List Value} {ds : List Dat} {n : Nat} {m₀ : Str → Option Value} {news : List (Addr × Obj)} (ps : σ → List (Str × Value)) (stored : List Str) (P : List Dat → σ → Prop) (c₀ : σ) (hi : DatAll news vs ds)
    (hh : A.handled = none) (F : Fr h₀ env.locals s.heap m₀) (N : News h₀ env.locals s.heap news) (hm : (ax, lo) ∈ news) (hc : lo.cls = .type "list") (hd : lo.data = .seq vs.toArray n)
    (hk : ∀ p ∈ ps c₀, m₀ p.1 = some p.2) (h0 : P [] c₀)
    (turn : ∀ pre d post v c (u : Str → Option Value) I o h tk, ds = pre ++ d :: post → d ∈ ds → DatIn news v d → P pre c → (∀ p ∈ news, p.1 ≠ I) → o.cls = .type "list_iterator" → Fr h₀ env.locals h (kstB (fun z => if stored.contains z then u z else m₀ z) (ps c)) → News h₀ env.locals h ((I, o) :: news) →
      wpAny (model prog w) A (assign target env v) (fun _ s₂ => wpAny (model prog w) A (execs body env) (LoopTurn h₀ env.locals { s with heap := h, toks := tk } I o (Still ps stored m₀ news (P (pre ++ [d]))) Q) E s₂) E { s with heap := h, toks := tk })
    (done : ∀ c (u : Str → Option Value) h tk, P ds c → Fr h₀ env.locals h (kstB (fun z => if stored.contains z then u z else m₀ z) (ps c)) → News h₀ env.locals h news → Q .next { s with heap := h, toks := tk }) :
    wpAny (model prog w) A (pyIter (.ref ax)) (fun it s₂ => TurnsAt prog w A h₀ env target body Q E it s₂) E s := by
  have hl := hi.length
  refine loop_list ps stored (fun i c nw => nw = news ∧ P (ds.take i) c) c₀ hh F N hm hc hd hk ⟨rfl, by simpa using h0⟩ ?_ ?_
  · rintro i v c nw u I o h tk hv ⟨rfl, hp⟩ hax hne ho F' N'
    have hlt : i < ds.length := by
      rw [← hl]
      exact (List.getElem?_eq_some_iff.mp hv).1
    obtain ⟨v', hv', hD⟩ := hi.get hlt
    rw [hv] at hv'
    cases hv'
    have hs : ds.take (i + 1) = ds.take i ++ [ds[i]] := by rw [List.take_succ_eq_append_getElem hlt]
    have e : ds = ds.take i ++ ds[i] :: ds.drop (i + 1) := by
      have ht := List.take_append_drop (i + 1) ds
      rw [hs, List.append_assoc] at ht
      exact ht.symm
    rw [hs]
    exact wpAny_mono (turn _ ds[i] _ v c u I o h tk e (List.getElem_mem hlt) hD hp hne ho F' N') (fun _ s₂ q => wpAny_mono q (fun f s₃ p => still_post hax hne p) fun _ _ e => e) fun _ _ e => e
  · rintro c nw u h tk ⟨rfl, hp⟩ hax F' N'
    rw [hl, List.take_length] at hp
    exact done c u h tk hp F' N'
end
end Mine
namespace Mine
open PySem PySem.W PyProof.Rows PySem.Spec PySem.Calls
section
variable {prog : Program} {w : World} {A : Around} {E : Value → Shared → Prop} {s : Shared} {env : Env} {h₀ : Heap} {x : Str} {px : Pos} {body : List Stmt} {Q : Flow → Shared → Prop}
theorem iter_rangeTurns {r : Addr} {a b : Int} {t u v : Tok} {n : Nat} {m₀ : Str → Option Value} {news : List (Addr × Obj)}
    (hh : A.handled = none) (F : Fr h₀ env.locals s.heap m₀) (N : News h₀ env.locals s.heap news) (hr : IsRange s.heap r a b 1 t u v) (hsm : Builtin.Range.small a b 1 = true) (hn : Builtin.Range.rangeSize a b 1 = ((n : Nat) : Int))
    (rest₀ : ∀ I : Addr, (∀ p ∈ news, p.1 < I) → ItemsRest prog w A E h₀ env (.Name x px) body Q s [(I, "range_iterator")] [] ((rangeKs a n).map fun k => .tok fun t => .int k t) m₀ news) :
    wpAny (model prog w) A (pyIter (.ref r)) (fun it s₂ => TurnsAt prog w A h₀ env (.Name x px) body Q E it s₂) E s := by
  refine wpAny_pyIter_range hr hsm ?_
  refine ktu_core (tk0 := s.toks) (keep := []) (KTurns.ofWalks (LCg.range_walks hh a n).bound fun i v s Q E st q => wpAny_pure q) (by rw [List.length_map, rangeKs_length]) (fun i v h hp => ?_) (fun i h st => ?_) (fun b hb => ?_) (fun b hb => by simpa using hb) (fun b hb => .inl (by simpa using hb)) ?_ (fun p hp hI => ?_) ?_ (F.push _) (fun p hp => ⟨Heap.get?_push_of_some _ (N p hp).1, (N p hp).2⟩) trivial (rest₀ s.heap.objs.size fun p hp => Heap.lt_size (N p hp).1)
  · obtain ⟨hi, t', e⟩ := hp
    exact ⟨.tok fun t => .int (a + (i : Int)) t, by simp [rangeKs, hi], t', e⟩
  · exact ⟨[(s.heap.objs.size, _)], ⟨⟨rfl, rfl⟩, trivial⟩, fun p hp => by rw [List.mem_singleton.mp hp]; exact st⟩
  · have hb' : b = s.heap.objs.size := by simpa using hb
    rw [hb']
    exact ⟨List.mem_cons_self .., next_is_new F⟩
  · intro hI
    have e := List.mem_singleton.mp hI
    exact absurd F.ns.lt (e ▸ Nat.lt_irrefl _)
  · exact absurd (Heap.lt_size (N p hp).1) ((List.mem_singleton.mp hI) ▸ Nat.lt_irrefl _)
  · show IsRangeIter _ _ _ _ _
    rw [hn]
    simpa using Heap.get?_push_size _ rfl
noncomputable def BetweenR {σ : Type} (ps : σ → List (Str × Value)) (stored : List Str) (m₀ : Str → Option Value) (I : Addr) (Inv : σ → List (Addr × Obj) → Prop) (m : Str → Option Value) (nw : List (Addr × Obj)) : Prop :=
  (∀ p ∈ nw, p.1 ≠ I) ∧ ∃ c, (∀ p ∈ ps c, m p.1 = some p.2) ∧ (∀ z, (∀ p ∈ ps c, z ≠ p.1) → stored.contains z = false → m z = m₀ z) ∧ Inv c nw
theorem LoopTurn.nextR {σ : Type} {ps : σ → List (Str × Value)} {stored : List Str} {m₀ : Str → Option Value} {L I : Addr} {o : Obj} {Inv : σ → List (Addr × Obj) → Prop} {s₁ : Shared} {h' : Heap} {tk : Nat} {m' : Str → Option Value} {all : List (Addr × Obj)} (c : σ) (nw' : List (Addr × Obj))
    (F : Fr h₀ L h' m') (N : News h₀ L h' all) (hI : (I, o) ∈ all) (sub : ∀ p ∈ nw', p ∈ all) (off : ∀ p ∈ nw', p.1 ≠ I) (hk : ∀ p ∈ ps c, m' p.1 = some p.2) (hr : ∀ z, (∀ p ∈ ps c, z ≠ p.1) → stored.contains z = false → m' z = m₀ z) (hv : Inv c nw') :
    LoopTurn h₀ L s₁ I o (BetweenR ps stored m₀ I Inv) Q .next { s₁ with heap := h', toks := tk } :=
  ⟨h', tk, m', nw', rfl, F, fun p hp => by
    rcases List.mem_append.mp hp with hp | hp
    · rw [List.mem_singleton.mp hp]; exact N _ hI
    · exact N p (sub p hp), fun p hp q hq => by rw [List.mem_singleton.mp hq]; exact off p hp, off, c, hk, hr, hv⟩
theorem loop_range {σ : Type} {r : Addr} {a b : Int} {t u v : Tok} {n : Nat} {m₀ : Str → Option Value} {news : List (Addr × Obj)} (ps : σ → List (Str × Value)) (stored : List Str) (Inv : Nat → σ → List (Addr × Obj) → Prop) (c₀ : σ)
    (hh : A.handled = none) (F : Fr h₀ env.locals s.heap m₀) (N : News h₀ env.locals s.heap news) (hr : IsRange s.heap r a b 1 t u v) (hsm : Builtin.Range.small a b 1 = true) (hn : Builtin.Range.rangeSize a b 1 = ((n : Nat) : Int))
    (hk : ∀ p ∈ ps c₀, m₀ p.1 = some p.2) (h0 : Inv 0 c₀ news)
    (turn : ∀ (i : Nat) t c nw (u : Str → Option Value) I o h tk, i < n → Inv i c nw → (∀ p ∈ nw, p.1 ≠ I) → o.cls = .type "range_iterator" → Fr h₀ env.locals h (kstB (fun z => if stored.contains z then u z else m₀ z) (ps c)) → News h₀ env.locals h ((I, o) :: nw) →
      wpAny (model prog w) A (assign (.Name x px) env (.int (a + (i : Int)) t)) (fun _ s₂ => wpAny (model prog w) A (execs body env) (LoopTurn h₀ env.locals { s with heap := h, toks := tk } I o (BetweenR ps stored m₀ I (Inv (i + 1))) Q) E s₂) E { s with heap := h, toks := tk })
    (done : ∀ c nw (u : Str → Option Value) h tk, Inv n c nw → Fr h₀ env.locals h (kstB (fun z => if stored.contains z then u z else m₀ z) (ps c)) → News h₀ env.locals h nw → Q .next { s with heap := h, toks := tk }) :
    wpAny (model prog w) A (pyIter (.ref r)) (fun it s₂ => TurnsAt prog w A h₀ env (.Name x px) body Q E it s₂) E s := by
  refine iter_rangeTurns hh F N hr hsm hn fun I hI => ?_
  have key : ∀ (xs : List Int) (i : Nat) (m : Str → Option Value) (nw : List (Addr × Obj)), (rangeKs a n).drop i = xs → i ≤ n → BetweenR ps stored m₀ I (Inv i) m nw →
      ItemsRest prog w A E h₀ env (.Name x px) body Q s [(I, "range_iterator")] [] (xs.map fun k => .tok fun t => .int k t) m nw := by
    intro xs
    induction xs with
    | nil =>
      intro i m nw hx hi hb
      obtain ⟨hne, c, h1, h2, hv⟩ := hb
      have e : i = n := by
        have := congrArg List.length hx
        rw [List.length_drop, List.length_nil, rangeKs_length] at this
        omega
      subst e
      exact ItemsRest.zero fun h tk F' N' => done c nw m h tk hv (between_fr h1 h2 F') N'
    | cons k r ih =>
      intro i m nw hx hi hb
      obtain ⟨hne, c, h1, h2, hv⟩ := hb
      have hlt' : i < (rangeKs a n).length := by
        have := congrArg List.length hx
        rw [List.length_drop, List.length_cons] at this
        omega
      have hlt : i < n := by rw [rangeKs_length] at hlt'; exact hlt'
      have hki : k = a + (i : Int) := by
        rw [List.drop_eq_getElem_cons hlt'] at hx
        have := (List.cons.inj hx).1
        simpa [rangeKs] using this.symm
      have hr' : (rangeKs a n).drop (i + 1) = r := by
        rw [List.drop_eq_getElem_cons hlt'] at hx
        exact (List.cons.inj hx).2
      subst hki
      refine ItemsRest.tok fun t h tk F' => AllObj.cons fun o ho => AllObj.nil fun N' => ?_
      refine wpAny_mono (turn i t c nw m I o h tk hlt hv hne ho (between_fr h1 h2 F') N') (fun _ s₂ q => wpAny_mono q (fun f s₃ p => ?_) fun _ _ e => e) fun _ _ e => e
      have fin : ∀ s₃, UnrEndW h₀ env.locals { s with heap := h, toks := tk } [(I, o)] (BetweenR ps stored m₀ I (Inv (i + 1))) s₃ →
          UnrEndW h₀ env.locals { s with heap := h, toks := tk } [(I, o)] (fun m' n' => SubL [] n' ∧ ItemsRest prog w A E h₀ env (.Name x px) body Q s [(I, "range_iterator")] [] (r.map fun k => .tok fun t => .int k t) m' n') s₃ := by
        rintro s₃ ⟨h', tk', m', nw', e, F₃, N₃, off, b⟩
        exact ⟨h', tk', m', nw', e, F₃, N₃, off, trivial, ih (i + 1) m' nw' hr' hlt b⟩
      cases f with
      | ret v => exact p
      | brk => exact p
      | next => exact fin _ p
      | cont => exact fin _ p
  exact key (rangeKs a n) 0 m₀ news (List.drop_zero) (Nat.zero_le _) ⟨fun p hp => Nat.ne_of_lt (hI p hp), c₀, hk, fun _ _ _ => rfl, h0⟩
end
end Mine
namespace Mine
open PySem PySem.W PyProof.Rows PySem.Spec PySem.Calls PyProof.Rows.LCg PyProof.Rows.LCt
section
variable {prog : Program} {w : World} {A : Around} {E : Value → Shared → Prop} {s : Shared} {h₀ : Heap} {L : Addr} {m : Str → Option Value} {env : Env}
noncomputable def SrcU (prog : Program) (w : World) (A : Around) (h₀ : Heap) (L : Addr) (m : Str → Option Value) (env : Env) (elt : Expr) (x : Str) (scope : Scope) (cl : List (Str × Addr)) (Fin : Shared → List Value → List (Addr × Obj) → Prop) (xv : Value) (s₁ : Shared) : Prop :=
  CompSrc prog w A h₀ L m env elt x scope cl Fin xv s₁
theorem SrcU.ledger {elt : Expr} {x : Str} {scope : Scope} {cl : List (Str × Addr)} {Fin : Shared → List Value → List (Addr × Obj) → Prop} {ax : Addr} {its : Array Value} {k : Nat} {news : List (Addr × Obj)} {s₁ : Shared}
    (hh : A.handled = none) (F : Fr h₀ L s₁.heap m) (N : News h₀ L s₁.heap news) (hm : (ax, ({ cls := .type "list", data := .seq its k } : Obj)) ∈ news) (hsz : its.size ≤ sizeLine)
    (h : ∀ g, CompRest prog w A h₀ L m env elt x scope cl { s₁ with heap := g } (SrcAt h₀ ax its) (fun i v => its[i]? = some v) (Fin { s₁ with heap := g }) its.size 0 [] news) :
    SrcU prog w A h₀ L m env elt x scope cl Fin (.ref ax) s₁ := CompSrc.ledger hh F N hm hsz h
theorem SrcU.range {elt : Expr} {x : Str} {scope : Scope} {cl : List (Str × Addr)} {Fin : Shared → List Value → List (Addr × Obj) → Prop} {r : Addr} {a b : Int} {t u v : Tok} {n : Nat} {news : List (Addr × Obj)} {s₁ : Shared}
    (hh : A.handled = none) (F : Fr h₀ L s₁.heap m) (N : News h₀ L s₁.heap news) (hr : IsRange s₁.heap r a b 1 t u v) (hsm : Builtin.Range.small a b 1 = true) (hn : Builtin.Range.rangeSize a b 1 = ((n : Nat) : Int)) (hsz : n ≤ sizeLine)
    (h : ∀ g, CompRest prog w A h₀ L m env elt x scope cl { s₁ with heap := g } (fun _ => True) (fun i v => ∃ t, v = .int (a + (i : Int)) t) (Fin { s₁ with heap := g }) n 0 [] news) :
    SrcU prog w A h₀ L m env elt x scope cl Fin (.ref r) s₁ := CompSrc.range hh F N hr hsm hn hsz h
theorem ListComp_V {elt iter : Expr} {x : Str} {px : Pos} {scope : Scope} {cl : List (Str × Addr)} {pos : Pos} {Q : Value → Shared → Prop} (F₀ : Fr h₀ L s.heap m)
    (hclos : closureFor scope env = pure cl) (hcell : ∀ y ∈ scope.names, y.2 ≠ .cell) (hkind : scope.kind = .function)
    (hnames : ∀ y ∈ scope.names, y.2 = .local → scope.names.lookup y.1 = some .local) (hx : scope.names.lookup x = some .local)
    (h : wpAny (model prog w) A (eval iter env) (SrcU prog w A h₀ L m env elt x scope cl (fun s₂ => FinE h₀ L m s₂ Q)) E s)
    (hs : ∀ x, foldedSetIterable iter env x = pure x := by intro _; rfl) :
    wpAny (model prog w) A (eval (.ListComp elt [⟨.Name x px, iter, [], 0⟩] scope pos) env) Q E s := ListComp_U F₀ hclos hcell hkind hnames hx h hs
end
end Mine
namespace Mine
open PySem PySem.W PyProof.Rows PySem.Spec PySem.Calls PyProof.Rows.LCg PyProof.Rows.LCt
section
variable {prog : Program} {w : World} {A : Around} {E : Value → Shared → Prop} {s : Shared} {h₀ : Heap} {L : Addr} {m : Str → Option Value} {env : Env}
noncomputable def TupAt (ax : Addr) (its : Array Value) (nw : List (Addr × Obj)) : Prop := ∃ o, (ax, o) ∈ nw ∧ o.cls = .type "tuple" ∧ ∃ n, o.data = .seq its n
noncomputable def SrcT (prog : Program) (w : World) (A : Around) (h₀ : Heap) (L : Addr) (m : Str → Option Value) (R : Shared → Addr → Array Value → List (Addr × Obj) → Prop) (xv : Value) (s₁ : Shared) : Prop :=
  ∃ ax its news, xv = .ref ax ∧ A.handled = none ∧ Fr h₀ L s₁.heap m ∧ News h₀ L s₁.heap news ∧ TupAt ax its news ∧ its.size ≤ sizeLine ∧ ∀ s₂ : Shared, (∃ h, s₂ = { s₁ with heap := h }) → R s₂ ax its news
theorem SrcT.intro {R : Shared → Addr → Array Value → List (Addr × Obj) → Prop} {ax : Addr} {its : Array Value} {k : Nat} {s₁ : Shared} {news : List (Addr × Obj)} (hh : A.handled = none) (F : Fr h₀ L s₁.heap m) (N : News h₀ L s₁.heap news) (hm : (ax, ({ cls := .type "tuple", data := .seq its k } : Obj)) ∈ news) (hsz : its.size ≤ sizeLine) (h : ∀ g, R { s₁ with heap := g } ax its news) : SrcT prog w A h₀ L m R (.ref ax) s₁ :=
  ⟨ax, its, news, rfl, hh, F, N, ⟨_, hm, rfl, _, rfl⟩, hsz, fun _ ⟨g, e⟩ => e ▸ h g⟩
end
end Mine
namespace Mine
open PySem PySem.W PyProof.Rows
noncomputable def Cm (prog : Program) (w : World) (K : Frag) (p : Program) (loose : List Str) (mean : ExcName → Option Value) (mg mb : Str → Option Value) (f : Addr) (sz : Nat) (vs : List Value) (P : Heap → List (Addr × Obj) → Prop) (Out : Value → List (Addr × Obj) → Prop) : Prop :=
  ∀ (dp un : Nat) (gd : Option (List Code)) (cn : Str) (cs : Scope) (a : Addr) (ccd : Value) (cl : List (Str × Addr)) (outer : List Env) (A₀ : Around) (base h₀ : Heap) (L : Addr) (m : Str → Option Value) (news : List (Addr × Obj)) (s : Shared) (Q E : Value → Shared → Prop),
    Below A₀ base outer h₀ → Fr h₀ L s.heap m → K.In h₀ → News h₀ L s.heap news → Top p loose mean mg mb h₀ → cs.kind = .function → dp + sz < recursionLimit → un + 8 * sz < cLine → P h₀ news →
    (∀ (r : Value) (add : List (Addr × Obj)) (h' : Heap) (tk' : Nat), Out r add → (∀ p ∈ add, ∀ q ∈ news, q.1 ≠ p.1) → Fr h₀ L h' m → News h₀ L h' (add ++ news) → Q r { s with heap := h', toks := tk' }) →
    wpAny (model prog w) (ktrTop dp un gd cn cs L a ccd cl outer) (call (.ref f) vs) Q E s
theorem Cm.use {prog : Program} {w : World} {K : Frag} {p : Program} {loose : List Str} {mean : ExcName → Option Value} {mg mb : Str → Option Value} {f : Addr} {sz : Nat} {vs : List Value} {P : Heap → List (Addr × Obj) → Prop} {Out : Value → List (Addr × Obj) → Prop} (C : Cm prog w K p loose mean mg mb f sz vs P Out)
    {dp un : Nat} {gd : Option (List Code)} {cn : Str} {cs : Scope} {a : Addr} {ccd : Value} {cl : List (Str × Addr)} {outer : List Env} {A₀ : Around} {base h₀ : Heap} {L : Addr} {m : Str → Option Value} {news : List (Addr × Obj)} {s : Shared} {Q E : Value → Shared → Prop}
    (B : Below A₀ base outer h₀ := by k_asm) (F : Fr h₀ L s.heap m := by k_asm) (X : K.In h₀ := by k_asm) (N : News h₀ L s.heap news := by k_asm) (T : Top p loose mean mg mb h₀ := by k_asm) (hk : cs.kind = .function := by first | exact rfl | assumption) (hd : dp + sz < recursionLimit := by first | assumption | omega | ktr_room) (hu : un + 8 * sz < cLine := by first | assumption | omega | ktr_units) (hp : P h₀ news := by first | trivial | k_mem)
    (ret : ∀ (r : Value) (add : List (Addr × Obj)) (h' : Heap) (tk' : Nat), Out r add → (∀ p ∈ add, ∀ q ∈ news, q.1 ≠ p.1) → Fr h₀ L h' m → News h₀ L h' (add ++ news) → Q r { s with heap := h', toks := tk' }) :
    wpAny (model prog w) (ktrTop dp un gd cn cs L a ccd cl outer) (call (.ref f) vs) Q E s := C _ _ _ _ _ _ _ _ _ _ _ _ _ _ _ _ _ _ B F X N T hk hd hu hp ret
noncomputable def TextsAt (L : List (Addr × Obj)) (D : Addr) (n k : Nat) : Prop := ∃ ys xs, (D, LCg.lst ys) ∈ L ∧ StrsAre ys xs ∧ xs.length = k ∧ ∀ x ∈ xs, x.length ≤ n ∧ PyData.strOk x = true
theorem TextsAt.mono {L L' : List (Addr × Obj)} {D : Addr} {n k : Nat} (h : TextsAt L D n k) (hs : ∀ p ∈ L, p ∈ L') : TextsAt L' D n k := by
  obtain ⟨ys, xs, hm, r⟩ := h
  exact ⟨ys, xs, hs _ hm, r⟩
theorem dat_pair {nw : List (Addr × Obj)} {v : Value} {x : Str} {d : Dat} (h : DatIn nw v (.tuple [.str x, d])) : ∃ a n t u, v = .ref a ∧ (a, ({ cls := .type "tuple", data := .seq #[.str x t, u] n } : Obj)) ∈ nw ∧ DatIn nw u d := by
  cases h with
  | tuple hm r =>
    cases r with
    | cons h1 r =>
      cases h1
      cases r with
      | cons h2 r => cases r; exact ⟨_, _, _, _, rfl, hm, h2⟩
theorem dat_two {nw : List (Addr × Obj)} {v : Value} {a b : Int} (h : DatIn nw v (.tuple [.int a, .int b])) : ∃ ad n t u, v = .ref ad ∧ (ad, ({ cls := .type "tuple", data := .seq #[.int a t, .int b u] n } : Obj)) ∈ nw := by
  cases h with
  | tuple hm r =>
    cases r with
    | cons h1 r =>
      cases h1
      cases r with
      | cons h2 r => cases h2; cases r; exact ⟨_, _, _, _, rfl, hm⟩
theorem dat_three {nw : List (Addr × Obj)} {v : Value} {a b c : Int} (h : DatIn nw v (.tuple [.int a, .int b, .int c])) : ∃ ad n t u w, v = .ref ad ∧ (ad, ({ cls := .type "tuple", data := .seq #[.int a t, .int b u, .int c w] n } : Obj)) ∈ nw := by
  cases h with
  | tuple hm r =>
    cases r with
    | cons h1 r =>
      cases h1
      cases r with
      | cons h2 r =>
        cases h2
        cases r with
        | cons h3 r => cases h3; cases r; exact ⟨_, _, _, _, _, rfl, hm⟩
theorem dat_at {nw : List (Addr × Obj)} {vs : List Value} {ds : List Dat} (h : DatAll nw vs ds) {i : Nat} {v : Value} (hv : vs[i]? = some v) : ∃ d, ds[i]? = some d ∧ d ∈ ds ∧ DatIn nw v d := by
  have hl := h.length
  have hi : i < ds.length := by
    rw [← hl]
    exact (List.getElem?_eq_some_iff.mp hv).1
  obtain ⟨u, hu, hd⟩ := h.get hi
  rw [hv] at hu
  cases hu
  exact ⟨ds[i], List.getElem?_eq_getElem hi, List.getElem_mem hi, hd⟩
theorem off1_mem {D : Addr} : ∀ {l : List (Addr × Obj)}, LCg.Off1 D l → ∀ p ∈ l, p.1 ≠ D
  | [], _, _, h => nomatch h
  | _ :: _, x, p, h => by
    rcases List.mem_cons.mp h with rfl | h
    · exact x.1
    · exact off1_mem x.2 p h
theorem allLt_mem {d : Addr} : ∀ {l : List (Addr × Obj)}, AllLt d l → ∀ p ∈ l, p.1 < d
  | [], _, _, h => nomatch h
  | _ :: _, x, p, h => by
    rcases List.mem_cons.mp h with rfl | h
    · exact x.1
    · exact allLt_mem x.2 p h
theorem ne_above {d e : Nat} {l : List (Addr × Obj)} (h : ∀ p ∈ l, p.1 < d) (hle : d ≤ e) : ∀ p ∈ l, p.1 ≠ e := fun p hp q => by
  have := h p hp
  rw [q] at this
  exact Nat.lt_irrefl _ (Nat.lt_of_lt_of_le this hle)
end Mine
namespace Mine
open PySem PySem.W PyProof.Rows PyProof.Rows.LCg
theorem rest_each {prog : Program} {w : World} {A : Around} {s : Shared} {h₀ : Heap} {L : Addr} {m : Str → Option Value} {env : Env} {elt : Expr} {x : Str} {scope : Scope} {cl : List (Str × Addr)} {S : List (Addr × Obj) → Prop} {P : Nat → Value → Prop} {Fin : List Value → List (Addr × Obj) → Prop} {n : Nat} {news : List (Addr × Obj)}
    (V : Value → Prop) (hS : S news)
    (turn : ∀ i ys v I oI C oC D m₂ h tk (E' : Value → Shared → Prop), i < n → P i v → NsObj oC m₂ → m₂ x = some v → Fr h₀ L h m → News h₀ L h ((I, oI) :: (C, oC) :: (D, lst ys) :: news) → Off3 I C D news → ((@Ne Nat I C) ∧ (@Ne Nat I D) ∧ (@Ne Nat C D)) →
      wpAny (model prog w) A (eval elt (compEnvC scope cl C env)) (CompTurn h₀ L m { s with heap := h, toks := tk } I oI C oC D (lst ys) (fun _ => True) (fun y nw' => nw' = news ∧ V y)) E' { s with heap := h, toks := tk })
    (fin : ∀ ys, ys.length = n → (∀ v ∈ ys, V v) → Fin ys news) : CompRest prog w A h₀ L m env elt x scope cl s S P Fin n 0 [] news := by
  refine rest_inv (fun i ys nw => nw = news ∧ ys.length = i ∧ ∀ v ∈ ys, V v) ⟨rfl, rfl, fun _ h => nomatch h⟩ ?_ ?_
  · rintro i ys nw v I oI C oC D m₂ h tk E' hi ⟨rfl, hl, hb⟩ hv hC hx F N off ne
    refine wpAny_mono (turn i ys v I oI C oC D m₂ h tk E' hi hv hC hx F N off ne) (fun y s₂ hq => ?_) fun _ _ e => e
    obtain ⟨h', tk', nw', e, F', N', off', _, hn, hy⟩ := hq
    subst hn
    refine ⟨h', tk', _, e, F', N', off', hS, rfl, by rw [List.length_append, List.length_singleton, hl], fun u hu => ?_⟩
    rcases List.mem_append.mp hu with hu | hu
    · exact hb u hu
    · rw [List.mem_singleton.mp hu]; exact hy
  · rintro ys nw ⟨rfl, hl, hb⟩
    exact fin ys hl hb
theorem texts_of {n : Nat} : ∀ {ys : List Value}, (∀ v ∈ ys, TextLe n v) → ∃ xs, StrsAre ys xs ∧ xs.length = ys.length ∧ ∀ x ∈ xs, x.length ≤ n ∧ PyData.strOk x = true
  | [], _ => ⟨[], .nil, rfl, fun _ h => nomatch h⟩
  | v :: r, h => by
    obtain ⟨x, t, e, hl⟩ := h v (.head _)
    subst e
    obtain ⟨xs, hs, hn, hb⟩ := texts_of (ys := r) fun u hu => h u (.tail _ hu)
    refine ⟨x :: xs, .cons x t hs, by rw [List.length_cons, List.length_cons, hn], fun y hy => ?_⟩
    rcases List.mem_cons.mp hy with rfl | hy
    · exact hl
    · exact hb y hy
theorem fdiv_b {i : Nat} (h : i < 42) : 0 ≤ Int.fdiv (0 + (i : Int)) 26 ∧ Int.fdiv (0 + (i : Int)) 26 < 2 := by
  rw [Int.fdiv_eq_ediv_of_nonneg _ (by decide)]; omega
theorem fmod11 (c : Int) : 0 ≤ c.fmod 11 ∧ c.fmod 11 < 11 := ⟨Int.fmod_nonneg_of_pos c (by decide), Int.fmod_lt_of_pos c (by decide)⟩
theorem name_ok {x y z : Str} {c : Int} {l u : Option Int} {l' u' : Option Int} {i : Int} {t : Tok} (hx : x.length ≤ (c.fmod 11).toNat) (ox : PyData.strOk x = true) (oy : PyData.strOk y = true) (hz : z.length ≤ 1 ∧ PyData.strOk z = true) :
    TextLe 24 (.str (Txt.slice x l u ++ Txt.item y i ++ z ++ Txt.slice x l' u') t) := by
  have hc := fmod11 c
  have h1 := Txt.slice_le x l u
  have h2 := Txt.slice_le x l' u'
  refine textLe_of ?_ (strOk_append (strOk_append (strOk_append (strOk_slice ox _ _) (strOk_item oy _)) hz.2) (strOk_slice ox _ _))
  rw [Str.length_append, Str.length_append, Str.length_append, len_item1]
  omega
theorem item_name {prog : Program} {w : World} {A : Around} {E : Value → Shared → Prop} {s : Shared} {value slice : PySem.Expr} {h₀ : Heap} {L l : Addr} {news : List (Addr × Obj)} {ys : List Value} {xs : List Str} {k : Int} {u : Tok} {Q : Value → Shared → Prop} (N : News h₀ L s.heap news) (hm : (l, LCg.lst ys) ∈ news) (hs : StrsAre ys xs)
    (h0 : 0 ≤ k ∧ k < (xs.length : Int)) (hfit : k < 2 ^ 63) (h : ∀ x t, x ∈ xs → Q (.str x t) s)
    (hq : subscripted slice false (.ref l) (.int k u) = operate [.ref l, .int k u] (getItem (.ref l) (.int k u)) := by with_unfolding_all rfl) :
    wpAny (model prog w) A (subscriptTail value slice (.ref l) (.int k u)) Q E s :=
  KTb.item_list (News.isList N hm) hs h0.1 h0.2 hfit (fun t hlt => h _ t (by rw [List.getD_eq_getElem?_getD, List.getElem?_eq_getElem hlt, Option.getD_some]; exact List.getElem_mem hlt)) hq
theorem item_bd {prog : Program} {w : World} {A : Around} {E : Value → Shared → Prop} {s : Shared} {value slice : PySem.Expr} {l : Addr} {vs : List Value} {ns : List Int} {k : Int} {u : Tok} {Q : Value → Shared → Prop} (lo hi : Int) (hl : s.heap.IsList l vs.toArray) (hi' : IntsAre vs ns) (hb : ∀ n ∈ ns, lo ≤ n ∧ n ≤ hi)
    (h0 : 0 ≤ k ∧ k < (ns.length : Int)) (hfit : k < 2 ^ 63) (h : ∀ t x, (lo ≤ x ∧ x ≤ hi) → Q (.int x t) s)
    (hs : subscripted slice false (.ref l) (.int k u) = operate [.ref l, .int k u] (getItem (.ref l) (.int k u)) := by with_unfolding_all rfl) :
    wpAny (model prog w) A (subscriptTail value slice (.ref l) (.int k u)) Q E s := by
  have hlt : k.toNat < ns.length := by omega
  obtain ⟨t, hx⟩ := hi'.get k.toNat ns[k.toNat] (List.getElem?_eq_getElem hlt)
  exact tail_any hl.typeIs slot_list_getitem.lookup (wpAny_getItem_list hl h0.1 hfit (by simpa using hx) (h t _ (hb _ (List.getElem_mem hlt)))) hs
theorem fmb (a b : Int) (h : 0 < b) : 0 ≤ a.fmod b ∧ a.fmod b < b := ⟨Int.fmod_nonneg_of_pos a h, Int.fmod_lt_of_pos a h⟩
end Mine
local macro_rules | `(tactic| k_all) => `(tactic| first | assumption | exact Mine.ne_above (by assumption) (by omega))
local macro_rules | `(tactic| k_mem) => `(tactic| ((repeat (first | assumption | refine List.Mem.tail _ ?_)); done))
namespace Mine
theorem c_names (w : World) (mean : ExcName → Option Value) (mg mb : Str → Option Value) (c : Int) (tc : Tok) (hc : CellOk c ∧ (0 : Int) ≤ 0) :
    Cm PySem.Challenge.rw_uf050027_06.row.prog w (k06.heap_1 w.params) vw06 (looseW vw06 []) mean mg mb 80 3 [.int c tc] (fun _ _ => True) (fun r L => ∃ D, r = .ref D ∧ TextsAt L D 24 42) := by
  unfold Cm
  k_fill
  w_top off
  intro dp un gd cn cs a ccd cl outer A₀ base h₀ L m news s Q E B F X N T hk hd hu hP hret
  refine wpAny_call ?_
  k_dflt (refine' code_defC ?k1 ?k2 ?k3 ?k4 ?k5 ?kA ?kF ?kK ?k6 ?k7 ?k8 ?k9 ?kB ?kD ?_ ?c2 ?c3 ?c4; (case kA => exact rfl); (case kF => exact rfl); (case kK => assumption); (case k1 => k_asm); (case k2 => k_asm); (case k3 => k_asm); (case k4 => k_asm); (case k5 => k_asm); (case k6 => k_is); (case k7 => k_is); (case k8 => ktr_room); (case k9 => exact BindsTo.of_eq rfl); (case kB => exact rfl); (case kD => decide +kernel); (case c2 => exact rfl); (case c3 => exact rfl); (case c4 => exact rfl); k_whole; intro g' L' h' tk' cells' FG' F' N' Y' B' X' T' l1; (try k_lt l1); k_cells Y'; (try simp only [List.cons_append, List.nil_append] at N'); (try dsimp only); (try k_lift B'); (try k_fold))
  k_with_none
  k_with "call ref" => (k_here; (with_reducible show wpAny _ _ (call (Value.ref 61) _) _ _ _); k_dflt (refine Mine.Ct.use (Mine.c_lmix _ _ _ _ _ _ _ _) (ret := ?_)); intro t9 h9 tk9 P9 F9 N9; (try dsimp only); (try k_fold))
  k_with "call ref" => (k_here; (with_reducible show wpAny _ _ (call (Value.ref 68) _) _ _ _); k_dflt (refine Mine.Ct.use (Mine.c_lbig _ _ _ _ _ _ _ _) (ret := ?_)); intro t9 h9 tk9 P9 F9 N9; (try dsimp only); (try k_fold))
  k_with "call ref" => (k_here; (with_reducible show wpAny _ _ (call (Value.ref 75) _) _ _ _); k_dflt (refine Mine.Cv.use (Mine.c_word _ _ _ _ _ _ _ _) (ret := ?_)); intro r9 h9 tk9 ho9 F9 N9; k_dflt ((obtain ⟨x9, v9, e9, hl9, hs9⟩ := ho9); subst e9); (try dsimp only); (try k_fold))
  k_with "eval ListComp" => (k_here; k_dflt (refine Mine.ListComp_V (by k_asm) (by with_unfolding_all rfl) (by decide) (by rfl) (by decide) (by rfl) ?_))
  k_steps
  refine SrcU.range (n := 42) (by rfl) (by k_asm) (by k_asm) (by assumption) (by decide) (by rfl) (by decide) ?_
  intro g9
  refine rest_each (TextLe 24) trivial ?_ ?_
  · intro i ys v I oI C oC D m₂ h tk E' hi hv hC hx F' N' off ne
    obtain ⟨t9, rfl⟩ := hv
    k_with "subscriptTail List cons BinOp ref int" => (k_here; (with_reducible show wpAny _ _ (subscriptTail _ _ (Value.ref _) (Value.int _ _)) _ _ _); k_dflt (refine' Mine.item_texts 1 ?k1 ?k2 ?k3 ?k4 ?_; (case k1 => is_list); (case k2 => exact ⟨(Mine.fdiv_b hi).1, by simpa using (Mine.fdiv_b hi).2⟩); (case k3 => (have hb9 := (Mine.fdiv_b hi).2; omega)); (case k4 => exact Mine.textAll_cons (Mine.textLe_of (by decide) (by decide +kernel)) (Mine.textAll_cons (Mine.textLe_of (by decide) (by decide +kernel)) Mine.textAll_nil)); k_whole); intro z9 tz9 hz9)
    k_steps
    all_goals first | (refine CompTurn.intro (by k_asm) (by k_asm) _ ?cS ?cO trivial ⟨rfl, name_ok (by assumption) (by assumption) (by decide +kernel) (by assumption)⟩; (case cS => first | exact fun _ h => h | kst_inAny); (case cO => assumption))
  · intro ys hl hb
    obtain ⟨xs, hs, hn, hx⟩ := texts_of hb
    intro D h tk F' N' o1
    k_steps
    refine hret (.ref D) [(D, LCg.lst ys)] h tk ⟨D, rfl, ys, xs, .head _, hs, by rw [hn, hl], hx⟩ (fun p hp q hq => by rw [List.mem_singleton.mp hp]; exact off1_mem o1 q (.tail _ (.tail _ (.tail _ hq)))) (by k_asm) ?_
    rename News h₀ L _ _ => kN9
    intro p hp
    refine kN9 p ?_
    rcases List.mem_append.mp hp with hp | hp
    · rw [List.mem_singleton.mp hp]; exact .head _
    · exact .tail _ (.tail _ (.tail _ (.tail _ hp)))

end Mine
namespace Mine
abbrev St := Int × Int
noncomputable def has (s : St) (p : Int) : Bool := decide (s.1 ≤ p) && decide (p ≤ s.2)
noncomputable def cnt : List St → Int → Int
  | [], _ => 0
  | s :: r, p => (if s.1 ≤ p ∧ p ≤ s.2 then 1 else 0) + cnt r p
noncomputable def chg : List St → Int → Int
  | [], _ => 0
  | s :: r, p => (if s.1 = p then 1 else 0) - (if s.2 + 1 = p then 1 else 0) + chg r p
noncomputable def edges : List St → List Int
  | [] => []
  | s :: r => s.1 :: (s.2 + 1) :: edges r
theorem cnt_append (a b : List St) (p : Int) : cnt (a ++ b) p = cnt a p + cnt b p := by
  induction a with
  | nil => simp [cnt]
  | cons s r ih => simp only [List.cons_append, cnt, ih]; omega
theorem chg_append (a b : List St) (p : Int) : chg (a ++ b) p = chg a p + chg b p := by
  induction a with
  | nil => simp [chg]
  | cons s r ih => simp only [List.cons_append, chg, ih]; omega
theorem edges_append (a b : List St) : edges (a ++ b) = edges a ++ edges b := by
  induction a with
  | nil => rfl
  | cons s r ih => simp only [List.cons_append, edges, ih]
theorem cnt_nonneg (S : List St) (p : Int) : 0 ≤ cnt S p := by
  induction S with
  | nil => exact Int.le_refl _
  | cons s r ih => simp only [cnt]; split <;> omega
noncomputable def Rising : List Int → Prop
  | [] => True
  | [_] => True
  | a :: b :: r => a < b ∧ Rising (b :: r)
theorem Rising.tail {a : Int} {r : List Int} (h : Rising (a :: r)) : Rising r := by
  cases r with
  | nil => trivial
  | cons b r => exact h.2
theorem Rising.lt {a : Int} {r : List Int} (h : Rising (a :: r)) : ∀ b ∈ r, a < b := by
  induction r generalizing a with
  | nil => intro b hb; cases hb
  | cons c r ih =>
    intro b hb
    rcases List.mem_cons.mp hb with rfl | hb
    · exact h.1
    · have := ih h.2 b hb
      have := h.1
      omega
noncomputable def upTo (f : Int → Int) (p : Int) : List Int → Int
  | [] => 0
  | q :: r => (if q ≤ p then f q else 0) + upTo f p r
theorem upTo_zero (p : Int) (l : List Int) : upTo (fun _ => 0) p l = 0 := by
  induction l with
  | nil => rfl
  | cons q r ih => simp only [upTo, ih]; split <;> rfl
theorem upTo_add (f g : Int → Int) (p : Int) (l : List Int) : upTo (fun q => f q + g q) p l = upTo f p l + upTo g p l := by
  induction l with
  | nil => rfl
  | cons q r ih => simp only [upTo, ih]; split <;> omega
theorem upTo_neg (f : Int → Int) (p : Int) (l : List Int) : upTo (fun q => - f q) p l = - upTo f p l := by
  induction l with
  | nil => rfl
  | cons q r ih => simp only [upTo, ih]; split <;> omega
theorem upTo_none (a p : Int) (l : List Int) (h : a ∉ l) : upTo (fun q => if a = q then 1 else 0) p l = 0 := by
  induction l with
  | nil => rfl
  | cons q r ih =>
    have h1 : a ≠ q := fun e => h (e ▸ List.mem_cons_self)
    have h2 : a ∉ r := fun e => h (List.mem_cons_of_mem _ e)
    simp only [upTo, ih h2, h1, if_false]; split <;> rfl
theorem upTo_one (a p : Int) (l : List Int) (hr : Rising l) (h : a ∈ l) : upTo (fun q => if a = q then 1 else 0) p l = if a ≤ p then 1 else 0 := by
  induction l with
  | nil => cases h
  | cons q r ih =>
    by_cases e : a = q
    · subst e
      have hn : a ∉ r := fun hm => by have := hr.lt a hm; omega
      simp only [upTo, upTo_none a p r hn, if_true]; split <;> rfl
    · have hm : a ∈ r := (List.mem_cons.mp h).resolve_left e
      simp only [upTo, ih hr.tail hm, e, if_false]; split <;> omega
theorem upTo_congr {f g : Int → Int} (h : ∀ q, f q = g q) (p : Int) (l : List Int) : upTo f p l = upTo g p l := by rw [funext h]
theorem upTo_chg (S : List St) (hS : ∀ s ∈ S, s.1 ≤ s.2) (p : Int) (l : List Int) (hr : Rising l) (h : ∀ e ∈ edges S, e ∈ l) : upTo (chg S) p l = cnt S p := by
  induction S with
  | nil => exact upTo_zero p l
  | cons s r ih =>
    have h1 := ih (fun s hs => hS s (List.mem_cons_of_mem _ hs)) (fun e he => h e (by simp [edges, he]))
    have h2 := upTo_one s.1 p l hr (h _ (by simp [edges]))
    have h3 := upTo_one (s.2 + 1) p l hr (h _ (by simp [edges]))
    have h4 : upTo (chg (s :: r)) p l = upTo (fun q => ((if s.1 = q then 1 else 0) + (- (if s.2 + 1 = q then 1 else 0))) + chg r q) p l := upTo_congr (fun q => by simp only [chg]; omega) p l
    rw [h4, upTo_add, upTo_add, upTo_neg, h1, h2, h3]
    have := hS s List.mem_cons_self
    simp only [cnt]
    (repeat' split) <;> omega
noncomputable def runsOf (S : List St) : List Int → List (Int × Int × Int)
  | [] => []
  | [_] => []
  | p :: q :: r => (p, q - 1, cnt S p) :: runsOf S (q :: r)
theorem upTo_split (f : Int → Int) (a : List Int) (p : Int) (b : List Int) (h : Rising (a ++ p :: b)) : upTo f p (a ++ p :: b) = (a.map f).sum + f p := by
  induction a with
  | nil =>
    have hb : upTo f p b = 0 := by
      have hl := Rising.lt (r := b) (a := p) h
      clear h
      induction b with
      | nil => rfl
      | cons c b ih =>
        have hc := hl c List.mem_cons_self
        simp only [upTo, show ¬ c ≤ p by omega, if_false, ih fun x hx => hl x (List.mem_cons_of_mem _ hx)]; rfl
    simp [upTo, hb]
  | cons c a ih =>
    have h1 := ih (Rising.tail h)
    have h2 := Rising.lt (r := a ++ p :: b) (a := c) h p (by simp)
    simp only [List.cons_append, upTo, show c ≤ p by omega, if_true, h1, List.map_cons, List.sum_cons]
    omega
noncomputable def fewStep (a : Int × Option Int) (r : Int × Int × Int) : Int × Option Int := if a.1 < r.2.2 then (r.2.2, some r.1) else a
noncomputable def lows (S : List St) : List Int := S.map (·.1)
theorem edges_low {S : List St} {s : St} (h : s ∈ S) : s.1 ∈ edges S ∧ s.2 + 1 ∈ edges S := by
  induction S with
  | nil => cases h
  | cons t r ih =>
    rcases List.mem_cons.mp h with rfl | h
    · simp [edges]
    · have := ih h
      simp [edges, this]
theorem cnt_mono (S : List St) (p q : Int) (h : ∀ t ∈ S, t.1 ≤ p → p ≤ t.2 → t.1 ≤ q ∧ q ≤ t.2) : cnt S p ≤ cnt S q := by
  induction S with
  | nil => exact Int.le_refl _
  | cons s r ih =>
    have h1 := ih fun t ht => h t (List.mem_cons_of_mem _ ht)
    have h2 := h s List.mem_cons_self
    simp only [cnt]
    by_cases hp : s.1 ≤ p ∧ p ≤ s.2
    · have h3 := h2 hp.1 hp.2
      rw [if_pos hp, if_pos h3]
      omega
    · rw [if_neg hp]
      split <;> omega
theorem cnt_pos_max (S : List St) (p : Int) (h : 0 < cnt S p) : ∃ s ∈ S, s.1 ≤ p ∧ p ≤ s.2 ∧ ∀ t ∈ S, t.1 ≤ p → p ≤ t.2 → t.1 ≤ s.1 := by
  induction S with
  | nil => simp [cnt] at h
  | cons s r ih =>
    by_cases hr : 0 < cnt r p
    · obtain ⟨t, ht, h1, h2, h3⟩ := ih hr
      by_cases hs : s.1 ≤ p ∧ p ≤ s.2 ∧ t.1 < s.1
      · refine ⟨s, List.mem_cons_self, hs.1, hs.2.1, ?_⟩
        intro u hu hu1 hu2
        rcases List.mem_cons.mp hu with rfl | hu
        · exact Int.le_refl _
        · have := h3 u hu hu1 hu2
          omega
      · refine ⟨t, List.mem_cons_of_mem _ ht, h1, h2, ?_⟩
        intro u hu hu1 hu2
        rcases List.mem_cons.mp hu with rfl | hu
        · omega
        · exact h3 u hu hu1 hu2
    · have hz : cnt r p = 0 := by have := cnt_nonneg r p; omega
      simp only [cnt, hz] at h
      have hs : s.1 ≤ p ∧ p ≤ s.2 := by
        by_cases hs : s.1 ≤ p ∧ p ≤ s.2
        · exact hs
        · rw [if_neg hs] at h; omega
      refine ⟨s, List.mem_cons_self, hs.1, hs.2, ?_⟩
      intro u hu hu1 hu2
      rcases List.mem_cons.mp hu with rfl | hu
      · exact Int.le_refl _
      · exfalso
        have hge : 1 ≤ cnt r p := by
          clear ih hr hz h hs
          induction r with
          | nil => cases hu
          | cons v r ih =>
            simp only [cnt]
            rcases List.mem_cons.mp hu with rfl | hu
            · rw [if_pos ⟨hu1, hu2⟩]
              have := cnt_nonneg r p
              omega
            · have := ih (List.mem_cons_of_mem _ (by assumption)) hu
              split <;> omega
        omega
structure FewInv (S : List St) (done : List Int) (a : Int × Option Int) : Prop where
  nn : 0 ≤ a.1
  top : ∀ q ∈ done, cnt S q ≤ a.1
  pt : (a.1 = 0 ∧ a.2 = none) ∨ ∃ p ∈ done, a.2 = some p ∧ cnt S p = a.1 ∧ 0 < a.1 ∧ ∀ q ∈ done, q < p → cnt S q < a.1
theorem few_run (S : List St) : ∀ (pts done : List Int) (a : Int × Option Int), FewInv S done a → (∀ q ∈ done, ∀ p ∈ pts, q < p) → Rising pts → FewInv S (done ++ pts.dropLast) ((runsOf S pts).foldl fewStep a)
  | [], done, a, h, _, _ => by simpa [runsOf] using h
  | [p], done, a, h, _, _ => by simpa [runsOf] using h
  | p :: q :: r, done, a, h, hlt, hr => by
    have step : FewInv S (done ++ [p]) (fewStep a (p, q - 1, cnt S p)) := by
      unfold fewStep
      dsimp only
      split
      · rename_i hgt
        refine ⟨by have := h.nn; dsimp only; omega, ?_, .inr ⟨p, by simp, rfl, rfl, by have := h.nn; dsimp only; omega, ?_⟩⟩
        · intro x hx
          rcases List.mem_append.mp hx with hx | hx
          · have := h.top x hx; dsimp only; omega
          · rw [List.mem_singleton.mp hx]; exact Int.le_refl _
        · intro x hx hxp
          rcases List.mem_append.mp hx with hx | hx
          · have := h.top x hx; dsimp only; omega
          · rw [List.mem_singleton.mp hx] at hxp; omega
      · rename_i hle
        refine ⟨h.nn, ?_, ?_⟩
        · intro x hx
          rcases List.mem_append.mp hx with hx | hx
          · exact h.top x hx
          · rw [List.mem_singleton.mp hx]; omega
        · rcases h.pt with h0 | ⟨x, hx, e, hc, h0, hs⟩
          · exact .inl h0
          · refine .inr ⟨x, List.mem_append.mpr (.inl hx), e, hc, h0, ?_⟩
            intro y hy hyx
            rcases List.mem_append.mp hy with hy | hy
            · exact hs y hy hyx
            · rw [List.mem_singleton.mp hy] at hyx
              have := hlt x hx p List.mem_cons_self
              omega
    have := few_run S (q :: r) (done ++ [p]) _ step (by
      intro x hx y hy
      rcases List.mem_append.mp hx with hx | hx
      · exact hlt x hx y (List.mem_cons_of_mem _ hy)
      · rw [List.mem_singleton.mp hx]; exact hr.lt y hy) hr.tail
    simpa [runsOf, List.dropLast] using this
theorem rising_last {l : List Int} (h : Rising l) {x y : Int} (hx : x ∈ l) (hy : y ∈ l) (hxy : x < y) : x ∈ l.dropLast := by
  induction l with
  | nil => cases hx
  | cons a r ih =>
    cases r with
    | nil =>
      rw [List.mem_singleton.mp hx, List.mem_singleton.mp hy] at hxy; omega
    | cons b r =>
      rw [List.dropLast_cons_cons]
      rcases List.mem_cons.mp hx with h1 | h1
      · rw [h1]; exact List.mem_cons_self
      · rcases List.mem_cons.mp hy with h2 | h2
        · have := h.lt x h1; omega
        · exact List.mem_cons_of_mem _ (ih h.tail h1 h2)
theorem few_spec (S : List St) (hS : ∀ s ∈ S, s.1 ≤ s.2) (pts : List Int) (hr : Rising pts) (hm : ∀ x, x ∈ pts ↔ x ∈ edges S) :
    let a := (runsOf S pts).foldl fewStep (0, none)
    0 ≤ a.1 ∧ (∀ l ∈ lows S, cnt S l ≤ a.1) ∧ ((a.1 = 0 ∧ a.2 = none) ∨ ∃ p ∈ lows S, a.2 = some p ∧ cnt S p = a.1 ∧ 0 < a.1 ∧ ∀ l ∈ lows S, cnt S l = a.1 → p ≤ l) := by
  intro a
  have h : FewInv S ([] ++ pts.dropLast) a := few_run S pts [] (0, none) ⟨Int.le_refl _, fun _ h => (nomatch h), .inl ⟨rfl, rfl⟩⟩ (fun _ h => (nomatch h)) hr
  rw [List.nil_append] at h
  have lowIn : ∀ l ∈ lows S, l ∈ pts.dropLast := by
    intro l hl
    obtain ⟨s, hs, rfl⟩ := List.mem_map.mp hl
    have e := edges_low hs
    have := hS s hs
    exact rising_last hr ((hm _).mpr e.1) ((hm _).mpr e.2) (by omega)
  refine ⟨h.nn, fun l hl => h.top l (lowIn l hl), ?_⟩
  rcases h.pt with h0 | ⟨p, hp, e, hc, h0, hs⟩
  · exact .inl h0
  · have hp' : 0 < cnt S p := by omega
    obtain ⟨s, hsS, h1, h2, h3⟩ := cnt_pos_max S p hp'
    have hge : cnt S p ≤ cnt S s.1 := cnt_mono S p s.1 fun t ht t1 t2 => ⟨h3 t ht t1 t2, by omega⟩
    have hl : s.1 ∈ lows S := List.mem_map.mpr ⟨s, hsS, rfl⟩
    have hle := h.top s.1 (lowIn _ hl)
    have hps : s.1 = p := by
      by_cases hlt : s.1 < p
      · have := hs s.1 (lowIn _ hl) hlt
        omega
      · omega
    refine .inr ⟨p, hps ▸ hl, e, hc, h0, ?_⟩
    intro l hl' hcl
    by_cases hlp : l < p
    · have := hs l (lowIn _ hl') hlp
      omega
    · omega
noncomputable def Held (P : List St) (x : Int) : Prop := ∃ s ∈ P, s.1 ≤ x ∧ x ≤ s.2
noncomputable def Apart : List St → Prop
  | [] => True
  | s :: r => s.1 ≤ s.2 ∧ (∀ t ∈ r, s.2 + 1 < t.1) ∧ Apart r
theorem apart_cases {P : List St} (h : Apart P) : ∀ s ∈ P, ∀ t ∈ P, s = t ∨ s.2 + 1 < t.1 ∨ t.2 + 1 < s.1 := by
  induction P with
  | nil => intro s hs; cases hs
  | cons u r ih =>
    intro s hs t ht
    rcases List.mem_cons.mp hs with rfl | hs
    · rcases List.mem_cons.mp ht with rfl | ht
      · exact .inl rfl
      · exact .inr (.inl (h.2.1 t ht))
    · rename_i hs'
      rcases List.mem_cons.mp ht with h2 | h2
      · rw [h2]; exact .inr (.inr (h.2.1 s hs))
      · exact ih h.2.2 s hs t h2
theorem apart_le {P : List St} (h : Apart P) : ∀ s ∈ P, s.1 ≤ s.2 := by
  induction P with
  | nil => intro s hs; cases hs
  | cons u r ih =>
    intro s hs
    rcases List.mem_cons.mp hs with rfl | hs
    · exact h.1
    · exact ih h.2.2 s hs
theorem part_ends {S : List St} {need : Int} {P : List St} (hA : Apart P) (hH : ∀ x, Held P x ↔ need ≤ cnt S x) {s : St} (hs : s ∈ P) : cnt S (s.1 - 1) < need ∧ cnt S (s.2 + 1) < need := by
  have hle := apart_le hA s hs
  refine ⟨?_, ?_⟩
  · by_cases h : need ≤ cnt S (s.1 - 1)
    · obtain ⟨t, ht, h1, h2⟩ := (hH _).mpr h
      have := apart_le hA t ht
      rcases apart_cases hA s hs t ht with rfl | h | h <;> omega
    · omega
  · by_cases h : need ≤ cnt S (s.2 + 1)
    · obtain ⟨t, ht, h1, h2⟩ := (hH _).mpr h
      have := apart_le hA t ht
      rcases apart_cases hA s hs t ht with rfl | h | h <;> omega
    · omega
end Mine
namespace Mine
open PySem.W
theorem has_iff {c : List (Int × Int)} {k : Int} : kdfHas c k = true ↔ k ∈ c.map (·.1) := by
  unfold kdfHas
  rw [List.any_eq_true, List.mem_map]
  exact ⟨fun ⟨p, h, e⟩ => ⟨p, h, of_decide_eq_true e⟩, fun ⟨p, h, e⟩ => ⟨p, h, decide_eq_true e⟩⟩
theorem put_eq (c : List (Int × Int)) (k v : Int) : kdfPut c k v = if kdfHas c k = true then c.map (fun p => if decide (p.1 = k) = true then (p.1, v) else p) else c ++ [(k, v)] := rfl
theorem put_keys (c : List (Int × Int)) (k v : Int) : (kdfPut c k v).map (·.1) = if k ∈ c.map (·.1) then c.map (·.1) else c.map (·.1) ++ [k] := by
  rw [put_eq]
  by_cases h : k ∈ c.map (·.1)
  · rw [if_pos h, if_pos (has_iff.mpr h), List.map_map]
    refine List.map_congr_left fun p _ => ?_
    show (if decide (p.1 = k) = true then (p.1, v) else p).1 = p.1
    by_cases e : p.1 = k
    · rw [if_pos (decide_eq_true e)]
    · rw [if_neg (by simpa using e)]
  · rw [if_neg h, if_neg (fun q => h (has_iff.mp q)), List.map_append]
    rfl
theorem look_nil (k d : Int) : kdfLook [] k d = d := rfl
theorem look_cons (p : Int × Int) (c : List (Int × Int)) (k d : Int) : kdfLook (p :: c) k d = if p.1 = k then p.2 else kdfLook c k d := by
  unfold kdfLook
  rw [List.find?_cons]
  by_cases e : p.1 = k
  · simp [e]
  · simp [e]
theorem look_put (c : List (Int × Int)) (k v j d : Int) : kdfLook (kdfPut c k v) j d = if j = k then v else kdfLook c j d := by
  have hm : ∀ c : List (Int × Int), kdfLook (c.map fun p => if decide (p.1 = k) = true then (p.1, v) else p) j d = if j = k then (if k ∈ c.map (·.1) then v else d) else kdfLook c j d := by
    intro c
    induction c with
    | nil => simp [look_nil]
    | cons p c ih =>
      rw [List.map_cons, look_cons, ih, look_cons]
      by_cases e : p.1 = k
      · by_cases f : j = k
        · subst f; simp [e]
        · have g : ¬ k = j := fun h => f h.symm
          simp [e, f, g]
      · by_cases f : j = k
        · subst f
          have g : ¬ j = p.1 := fun h => e h.symm
          have m1 : (j ∈ List.map (·.1) (p :: c)) ↔ j ∈ List.map (·.1) c := by rw [List.map_cons, List.mem_cons]; exact ⟨fun h => h.resolve_left g, .inr⟩
          simp only [decide_eq_true_eq, if_neg e, if_true, m1]
        · simp [e, f]
  rw [put_eq]
  by_cases h : k ∈ c.map (·.1)
  · rw [if_pos (has_iff.mpr h), hm, if_pos h]
  · rw [if_neg (fun q => h (has_iff.mp q))]
    induction c with
    | nil => 
              rw [List.nil_append, look_cons, look_nil]
              by_cases f : j = k
              · rw [if_pos f.symm, if_pos f]
              · rw [if_neg (fun h => f h.symm), if_neg f]
    | cons p c ih =>
      rw [List.cons_append, look_cons, ih (fun q => h (by simp [q])), look_cons]
      by_cases f : j = k
      · subst f
        rw [if_neg (fun e => h (by simp [e])), if_pos rfl, if_pos rfl]
      · rw [if_neg f, if_neg f]
theorem put_nodup {c : List (Int × Int)} (h : (c.map (·.1)).Nodup) (k v : Int) : ((kdfPut c k v).map (·.1)).Nodup := by
  rw [put_keys]
  by_cases q : k ∈ c.map (·.1)
  · rw [if_pos q]; exact h
  · rw [if_neg q]
    refine List.nodup_append.mpr ⟨h, by simp, fun a ha b hb e => ?_⟩
    rw [List.mem_singleton] at hb
    exact q (by rw [← hb, ← e]; exact ha)
theorem put_mem {c : List (Int × Int)} {k v x : Int} : x ∈ (kdfPut c k v).map (·.1) ↔ x = k ∨ x ∈ c.map (·.1) := by
  rw [put_keys]
  by_cases q : k ∈ c.map (·.1)
  · rw [if_pos q]
    exact ⟨.inr, fun h => h.elim (fun e => by rw [e]; exact q) id⟩
  · rw [if_neg q, List.mem_append, List.mem_singleton, or_comm]
structure Tab (S : List St) (c : List (Int × Int)) : Prop where
  nodup : (c.map (·.1)).Nodup
  keys : ∀ x, x ∈ c.map (·.1) ↔ x ∈ edges S
  look : ∀ k, kdfLook c k 0 = chg S k
  len : c.length ≤ 2 * S.length
theorem tab_nil : Tab [] [] := ⟨List.nodup_nil, fun x => by simp [edges], fun k => rfl, Nat.le_refl _⟩
theorem put_len (c : List (Int × Int)) (k v : Int) : (kdfPut c k v).length ≤ c.length + 1 := by
  have := congrArg List.length (put_keys c k v)
  rw [List.length_map] at this
  rw [this]
  by_cases q : k ∈ c.map (·.1)
  · rw [if_pos q, List.length_map]; omega
  · rw [if_neg q, List.length_append, List.length_map]; simp
theorem tab_add {S : List St} {c : List (Int × Int)} (T : Tab S c) (lo hi : Int) :
    Tab (S ++ [(lo, hi)]) (kdfPut (kdfPut c lo (kdfLook c lo 0 + 1)) (hi + 1) (kdfLook (kdfPut c lo (kdfLook c lo 0 + 1)) (hi + 1) 0 - 1)) where
  nodup := put_nodup (put_nodup T.nodup _ _) _ _
  keys x := by
    rw [put_mem, put_mem, T.keys, edges_append, List.mem_append]
    simp [edges]
    constructor
    · rintro (h | h | h)
      · exact .inr (.inr h)
      · exact .inr (.inl h)
      · exact .inl h
    · rintro (h | h | h)
      · exact .inr (.inr h)
      · exact .inr (.inl h)
      · exact .inl h
  look k := by
    rw [look_put, look_put, look_put, chg_append]
    simp only [T.look, chg]
    by_cases e : k = hi + 1
    · by_cases f : k = lo
      · simp only [if_pos e, if_pos f, ← e, ← f, if_true]; omega
      · have f' : ¬ lo = k := fun h => f h.symm
        have f'' : ¬ hi + 1 = lo := by omega
        simp only [if_pos e, if_neg f', if_neg f'', ← e, if_true]
        rw [if_neg (by omega)]; omega
    · have e' : ¬ hi + 1 = k := fun h => e h.symm
      by_cases f : k = lo
      · simp only [if_neg e, if_pos f, ← f, if_true, if_neg e']; omega
      · have f' : ¬ lo = k := fun h => f h.symm
        simp only [if_neg e, if_neg f, if_neg e', if_neg f']; omega
  len := by
    have h1 := put_len c lo (kdfLook c lo 0 + 1)
    have h2 := put_len (kdfPut c lo (kdfLook c lo 0 + 1)) (hi + 1) (kdfLook (kdfPut c lo (kdfLook c lo 0 + 1)) (hi + 1) 0 - 1)
    have := T.len
    rw [List.length_append, List.length_singleton]
    omega
theorem rising_of {l : List Int} (h : l.Pairwise (· ≤ ·)) (n : l.Nodup) : Rising l := by
  induction l with
  | nil => trivial
  | cons a r ih =>
    cases r with
    | nil => trivial
    | cons b r =>
      have h' := List.pairwise_cons.mp h
      have n' := List.nodup_cons.mp n
      refine ⟨?_, ih h'.2 n'.2⟩
      have h1 := h'.1 b (by simp)
      have h2 : a ≠ b := fun e => n'.1 (by rw [e]; simp)
      omega
structure Pts (S : List St) (pts : List Int) : Prop where
  rising : Rising pts
  mem : ∀ x, x ∈ pts ↔ x ∈ edges S
theorem Tab.pts {S : List St} {c : List (Int × Int)} (T : Tab S c) {pts : List Int} (p : pts.Perm (c.map (·.1))) (o : pts.Pairwise (· ≤ ·)) : Pts S pts :=
  ⟨rising_of o (p.nodup_iff.mpr T.nodup), fun x => (p.mem_iff).trans (T.keys x)⟩
noncomputable def swept (S : List St) (pts : List Int) (k : Nat) : Int := ((pts.take k).map (chg S)).sum
theorem swept_next {S : List St} {pts : List Int} {k : Nat} (h : k < pts.length) : swept S pts (k + 1) = swept S pts k + chg S pts[k] := by
  unfold swept
  rw [List.take_succ_eq_append_getElem h, List.map_append, List.sum_append_int]
  simp
theorem swept_cnt {S : List St} (hS : ∀ s ∈ S, s.1 ≤ s.2) {pts : List Int} (P : Pts S pts) {k : Nat} (h : k < pts.length) : swept S pts (k + 1) = cnt S pts[k] := by
  have hw : pts = pts.take k ++ pts[k] :: pts.drop (k + 1) := by rw [← List.drop_eq_getElem_cons h, List.take_append_drop]
  have := upTo_chg S hS pts[k] pts P.rising (fun e he => (P.mem e).mpr he)
  rw [← this, swept_next h]
  have e2 := upTo_split (chg S) (pts.take k) pts[k] (pts.drop (k + 1)) (by rw [← hw]; exact P.rising)
  rw [← hw] at e2
  rw [e2]
  rfl
theorem runs_len (S : List St) : ∀ pts : List Int, (runsOf S pts).length = pts.length - 1
  | [] => rfl
  | [_] => rfl
  | p :: q :: r => by
    have := runs_len S (q :: r)
    simp only [runsOf, List.length_cons] at this ⊢
    omega
theorem runs_at (S : List St) : ∀ (pts : List Int) (k : Nat) (h : k + 1 < pts.length), (runsOf S pts)[k]? = some (pts[k], pts[k + 1] - 1, cnt S pts[k])
  | [], k, h => by simp at h
  | [_], k, h => by simp at h
  | p :: q :: r, 0, h => by simp [runsOf]
  | p :: q :: r, k + 1, h => by
    have := runs_at S (q :: r) k (by simpa using h)
    simp only [runsOf, List.getElem?_cons_succ, this]
    rfl
theorem runs_take {S : List St} {pts : List Int} {k : Nat} (h : k + 1 < pts.length) : (runsOf S pts).take (k + 1) = (runsOf S pts).take k ++ [(pts[k], pts[k + 1] - 1, cnt S pts[k])] := by
  rw [List.take_add_one, runs_at S pts k h]
  rfl
theorem getD_at {pts : List Int} {k : Nat} (h : k < pts.length) : pts.getD k 0 = pts[k] := by simp [h]
theorem swept_more {S : List St} {c : List (Int × Int)} (T : Tab S c) {pts : List Int} {k : Nat} (h : k < pts.length) {x : Int} (hx : x = swept S pts k) : x + kdfLook c (pts.getD k 0) 0 = swept S pts (k + 1) := by
  rw [T.look, getD_at h, swept_next h, hx]
theorem has_point {S : List St} {c : List (Int × Int)} (T : Tab S c) {pts : List Int} (P : Pts S pts) {k : Nat} (h : k < pts.length) : kdfHas c (pts.getD k 0) = true := by
  rw [has_iff, T.keys, ← P.mem, getD_at h]
  exact List.getElem_mem h
theorem runs_more {S : List St} (hS : ∀ s ∈ S, s.1 ≤ s.2) {pts : List Int} (P : Pts S pts) {k : Nat} (h : k + 1 < pts.length) {x : Int} (hx : x = swept S pts (k + 1)) :
    (runsOf S pts).take (k + 1) = (runsOf S pts).take k ++ [(pts.getD k 0, pts.getD (k + 1) 0 - 1, x)] := by
  rw [runs_take h, getD_at h, getD_at (by omega), hx, swept_cnt hS P (by omega)]
theorem runs_all {S : List St} {pts : List Int} : (runsOf S pts).take (pts.length - 1) = runsOf S pts := by
  rw [← runs_len S pts]; exact List.take_length
end Mine
namespace Mine
structure PartOk (S : List St) (need : Int) (P : List St) : Prop where
  apart : Apart P
  held : ∀ x, Held P x ↔ need ≤ cnt S x
theorem PartOk.ends {S : List St} {need : Int} {P : List St} (h : PartOk S need P) {s : St} (hs : s ∈ P) : cnt S (s.1 - 1) < need ∧ cnt S (s.2 + 1) < need := part_ends h.apart h.held hs
theorem apart_mid {P Q : List St} {s t : St} (h : Apart (P ++ s :: Q)) (ht : t ∈ Q) : s.2 + 1 < t.1 := by
  induction P with
  | nil => exact h.2.1 t ht
  | cons p P ih => exact ih h.2.2
theorem PartOk.next {S : List St} {need : Int} {P A B : List St} {s t : St} (h : PartOk S need P) (e : P = A ++ [s] ++ t :: B) : s.2 + 1 < t.1 := by
  have := h.apart
  rw [e, List.append_assoc] at this
  exact apart_mid this (by simp)
end Mine
namespace Mine
open PySem PySem.W PyProof.Rows PyProof.Rows.LCg
theorem texts_one {h₀ h : Heap} {L D : Addr} {n k : Nat} {ad cells : List (Addr × Obj)} (ht : TextsAt ad D n k) (hn : ∀ p ∈ ad, ∀ q ∈ cells, q.1 ≠ p.1) (N : News h₀ L h (ad ++ cells)) :
    ∃ ys xs, News h₀ L h ((D, lst ys) :: cells) ∧ (∀ q ∈ cells, @Ne Nat q.1 D) ∧ StrsAre ys xs ∧ xs.length = k ∧ ∀ x ∈ xs, x.length ≤ n ∧ PyData.strOk x = true := by
  obtain ⟨ys, xs, hm, hs, hl, hx⟩ := ht
  refine ⟨ys, xs, fun p hp => ?_, fun q hq => hn _ hm q hq, hs, hl, hx⟩
  rcases List.mem_cons.mp hp with rfl | hp
  · exact N _ (List.mem_append.mpr (.inl hm))
  · exact N p (List.mem_append.mpr (.inr hp))
end Mine
namespace Mine
open PySem PySem.W PyProof.Rows PyProof.Rows.LCg
end Mine
namespace Mine
open PySem PySem.W PyProof.Rows PySem.Spec PySem.Calls
section
variable {prog : Program} {w : World} {A : Around} {E : Value → Shared → Prop} {s : Shared} {env : Env} {h₀ : Heap} {target : Expr} {body : List Stmt} {Q : Flow → Shared → Prop}
noncomputable def StillH {σ : Type} (ps : σ → List (Str × Value)) (stored : List Str) (m₀ : Str → Option Value) (d : Addr) (news : List (Addr × Obj)) (P : σ → Obj → Prop) (m : Str → Option Value) (nw : List (Addr × Obj)) : Prop :=
  ∃ o, nw = (d, o) :: news ∧ ∃ c, (∀ p ∈ ps c, m p.1 = some p.2) ∧ (∀ z, (∀ p ∈ ps c, z ≠ p.1) → stored.contains z = false → m z = m₀ z) ∧ P c o
theorem LoopTurn.stillH {σ : Type} {ps : σ → List (Str × Value)} {stored : List Str} {m₀ : Str → Option Value} {L I d : Addr} {o od : Obj} {news : List (Addr × Obj)} {P : σ → Obj → Prop} {s₁ : Shared} {h' : Heap} {tk : Nat} {m' : Str → Option Value} {all : List (Addr × Obj)} (c : σ)
    (F : Fr h₀ L h' m') (N : News h₀ L h' all) (hI : (I, o) ∈ all) (hd : (d, od) ∈ all) (sub : ∀ p ∈ news, p ∈ all) (off : ∀ p ∈ (d, od) :: news, p.1 ≠ I) (hk : ∀ p ∈ ps c, m' p.1 = some p.2) (hr : ∀ z, (∀ p ∈ ps c, z ≠ p.1) → stored.contains z = false → m' z = m₀ z) (hv : P c od) :
    LoopTurn h₀ L s₁ I o (StillH ps stored m₀ d news P) Q .next { s₁ with heap := h', toks := tk } :=
  ⟨h', tk, m', (d, od) :: news, rfl, F, fun p hp => by
    rcases List.mem_append.mp hp with hp | hp
    · rw [List.mem_singleton.mp hp]; exact N _ hI
    · rcases List.mem_cons.mp hp with rfl | hp
      · exact N _ hd
      · exact N p (sub p hp), fun p hp q hq => by rw [List.mem_singleton.mp hq]; exact off p hp, od, rfl, c, hk, hr, hv⟩
theorem loop_listH {σ : Type} {ax d : Addr} {lo o₀ : Obj} {vs : List Value} {ds : List Dat} {n : Nat} {m₀ : Str → Option Value} {news : List (Addr × Obj)} (ps : σ → List (Str × Value)) (stored : List Str) (P : List Dat → σ → Obj → Prop) (c₀ : σ) (hi : DatAll news vs ds)
    (hh : A.handled = none) (F : Fr h₀ env.locals s.heap m₀) (N : News h₀ env.locals s.heap ((d, o₀) :: news)) (hm : (ax, lo) ∈ news) (hc : lo.cls = .type "list") (hd : lo.data = .seq vs.toArray n)
    (hk : ∀ p ∈ ps c₀, m₀ p.1 = some p.2) (h0 : P [] c₀ o₀)
    (turn : ∀ pre dd post v c od (u : Str → Option Value) I o h tk, ds = pre ++ dd :: post → dd ∈ ds → DatIn news v dd → P pre c od → (∀ p ∈ (d, od) :: news, p.1 ≠ I) → o.cls = .type "list_iterator" → Fr h₀ env.locals h (kstB (fun z => if stored.contains z then u z else m₀ z) (ps c)) → News h₀ env.locals h ((I, o) :: (d, od) :: news) →
      wpAny (model prog w) A (assign target env v) (fun _ s₂ => wpAny (model prog w) A (execs body env) (LoopTurn h₀ env.locals { s with heap := h, toks := tk } I o (StillH ps stored m₀ d news (P (pre ++ [dd]))) Q) E s₂) E { s with heap := h, toks := tk })
    (done : ∀ c od (u : Str → Option Value) h tk, P ds c od → Fr h₀ env.locals h (kstB (fun z => if stored.contains z then u z else m₀ z) (ps c)) → News h₀ env.locals h ((d, od) :: news) → Q .next { s with heap := h, toks := tk }) :
    wpAny (model prog w) A (pyIter (.ref ax)) (fun it s₂ => TurnsAt prog w A h₀ env target body Q E it s₂) E s := by
  have hl := hi.length
  refine loop_list ps stored (fun i c nw => ∃ od, nw = (d, od) :: news ∧ P (ds.take i) c od) c₀ hh F N (.tail _ hm) hc hd hk ⟨o₀, rfl, by simpa using h0⟩ ?_ ?_
  · rintro i v c nw u I o h tk hv ⟨od, rfl, hp⟩ hax hne ho F' N'
    have hlt : i < ds.length := by
      rw [← hl]
      exact (List.getElem?_eq_some_iff.mp hv).1
    obtain ⟨v', hv', hD⟩ := hi.get hlt
    rw [hv] at hv'
    cases hv'
    have hs : ds.take (i + 1) = ds.take i ++ [ds[i]] := by rw [List.take_succ_eq_append_getElem hlt]
    have e : ds = ds.take i ++ ds[i] :: ds.drop (i + 1) := by
      have ht := List.take_append_drop (i + 1) ds
      rw [hs, List.append_assoc] at ht
      exact ht.symm
    rw [hs]
    refine wpAny_mono (turn _ ds[i] _ v c od u I o h tk e (List.getElem_mem hlt) hD hp hne ho F' N') (fun _ s₂ q => wpAny_mono q (fun f s₃ p => ?_) fun _ _ e => e) fun _ _ e => e
    have go : ∀ s₃, UnrEndW h₀ env.locals { s with heap := h, toks := tk } [(I, o)] (StillH ps stored m₀ d news (P (ds.take i ++ [ds[i]]))) s₃ →
        UnrEndW h₀ env.locals { s with heap := h, toks := tk } [(I, o)] (Between ps stored m₀ ax lo I (fun c nw => ∃ od, nw = (d, od) :: news ∧ P (ds.take i ++ [ds[i]]) c od)) s₃ := by
      rintro s₃ ⟨h', tk', m', nw', e, F₃, N₃, off, od', rfl, c', h1, h2, hv'⟩
      exact ⟨h', tk', m', _, e, F₃, N₃, off, .tail _ hm, fun p hp => off p hp _ (.head _), c', h1, h2, od', rfl, hv'⟩
    cases f with
    | ret v => exact p
    | brk => exact p
    | next => exact go _ p
    | cont => exact go _ p
  · rintro c nw u h tk ⟨od, rfl, hp⟩ hax F' N'
    rw [hl, List.take_length] at hp
    exact done c od u h tk hp F' N'
noncomputable def Grow {σ : Type} (D : Addr) (news : List (Addr × Obj)) (R : Nat → σ → List Dat → Prop) (i : Nat) (c : σ) (nw : List (Addr × Obj)) : Prop :=
  ∃ ys e add ds, nw = (D, ({ cls := .type "list", data := .seq (List.toArray ys) e } : Obj)) :: (add ++ news) ∧ DatAll add ys ds ∧ (∀ p ∈ add ++ news, p.1 ≠ D) ∧ (∀ p ∈ add, ∀ q ∈ news, q.1 ≠ p.1) ∧ R i c ds
theorem grow_nil {σ : Type} {D : Addr} {news : List (Addr × Obj)} {R : Nat → σ → List Dat → Prop} {c : σ} {e : Nat} (hn : ∀ p ∈ news, p.1 ≠ D) (h : R 0 c []) : Grow D news R 0 c ((D, ({ cls := .type "list", data := .seq #[] e } : Obj)) :: news) :=
  ⟨[], e, [], [], rfl, .nil, hn, (fun _ h => nomatch h), h⟩
theorem grow_next {σ : Type} {ps : σ → List (Str × Value)} {stored : List Str} {m₀ : Str → Option Value} {L I D : Addr} {o : Obj} {news add new all : List (Addr × Obj)} {R : Nat → σ → List Dat → Prop} {i : Nat} {s₁ : Shared} {h' : Heap} {tk : Nat} {m' : Str → Option Value} {ys : List Value} {e : Nat} {ds : List Dat} {y : Value} {dd : Dat} (c : σ)
    (F : Fr h₀ L h' m') (N : News h₀ L h' all) (hM : (D, ({ cls := .type "list", data := .seq (ys.toArray.push y) e } : Obj)) ∈ all) (hI : (I, o) ∈ all) (hA : DatAll add ys ds) (hd : DatIn new y dd) (sub : ∀ p ∈ new ++ (add ++ news), p ∈ all)
    (o1 : ∀ p ∈ add ++ news, p.1 ≠ D) (o2 : ∀ p ∈ new, p.1 ≠ D) (o3 : ∀ p ∈ add, ∀ q ∈ news, q.1 ≠ p.1) (o4 : ∀ p ∈ new, ∀ q ∈ news, q.1 ≠ p.1) (o5 : ∀ p ∈ new ++ (add ++ news), p.1 ≠ I) (o6 : D ≠ I)
    (hk : ∀ p ∈ ps c, m' p.1 = some p.2) (hr : ∀ z, (∀ p ∈ ps c, z ≠ p.1) → stored.contains z = false → m' z = m₀ z) (hv : R (i + 1) c (ds ++ [dd])) :
    LoopTurn h₀ L s₁ I o (BetweenR ps stored m₀ I (Grow D news R (i + 1))) Q .next { s₁ with heap := h', toks := tk } := by
  refine LoopTurn.nextR c ((D, ({ cls := .type "list", data := .seq (List.toArray (ys ++ [y])) e } : Obj)) :: ((new ++ add) ++ news)) F N hI (fun p hp => ?_) (fun p hp => ?_) hk hr ⟨ys ++ [y], e, new ++ add, ds ++ [dd], rfl, ?_, fun p hp => ?_, fun p hp q hq => ?_, hv⟩
  · rcases List.mem_cons.mp hp with rfl | hp
    · rw [← List.push_toArray]; exact hM
    · exact sub p (by rw [← List.append_assoc]; exact hp)
  · rcases List.mem_cons.mp hp with rfl | hp
    · exact o6
    · exact o5 p (by rw [← List.append_assoc]; exact hp)
  · exact (hA.mono fun p hp => List.mem_append.mpr (.inr hp)).append (.cons (hd.mono fun p hp => List.mem_append.mpr (.inl hp)) .nil)
  · rw [List.append_assoc] at hp
    rcases List.mem_append.mp hp with hp | hp
    · exact o2 p hp
    · exact o1 p hp
  · rcases List.mem_append.mp hp with hp | hp
    · exact o4 p hp q hq
    · exact o3 p hp q hq
end
noncomputable def stOf : Dat → Option St
  | .tuple [_, .tuple [.int lo, .int hi]] => some (lo, hi)
  | _ => none
noncomputable def sts (ds : List Dat) : List St := ds.filterMap stOf
theorem sts_append (a b : List Dat) : sts (a ++ b) = sts a ++ sts b := List.filterMap_append
noncomputable def ClockOk (d : Dat) : Prop := ∃ x s, d = .tuple [.str x, s] ∧ (x.length ≤ 24 ∧ PyData.strOk x = true) ∧ (s = .none ∨ ∃ lo hi, s = .tuple [.int lo, .int hi] ∧ lo ≤ hi ∧ -10000000000000 ≤ lo ∧ hi ≤ 10000000000000)
theorem clock_kqd {d : Dat} (h : ClockOk d) : kqdOk 8 d = true := by
  obtain ⟨x, s, rfl, hx, (rfl | ⟨lo, hi, rfl, _⟩)⟩ := h <;> simp [kqdOk, hx.2]
theorem dat_none {nw : List (Addr × Obj)} {v : Value} (h : DatIn nw v .none) : v = .none := by cases h; rfl
theorem clock_at {nw : List (Addr × Obj)} {v : Value} {d : Dat} (hd : DatIn nw v d) (h : ClockOk d) :
    (∃ a n x t, v = .ref a ∧ (a, ({ cls := .type "tuple", data := .seq #[.str x t, .none] n } : Obj)) ∈ nw ∧ stOf d = none ∧ d = .tuple [.str x, .none]) ∨
    ∃ a n x t b k lo hi t₁ t₂, v = .ref a ∧ (a, ({ cls := .type "tuple", data := .seq #[.str x t, .ref b] n } : Obj)) ∈ nw ∧ (b, ({ cls := .type "tuple", data := .seq #[.int lo t₁, .int hi t₂] k } : Obj)) ∈ nw ∧ stOf d = some (lo, hi) ∧ (lo ≤ hi ∧ -10000000000000 ≤ lo ∧ hi ≤ 10000000000000) ∧ d = .tuple [.str x, .tuple [.int lo, .int hi]] := by
  obtain ⟨x, s, rfl, hx, (rfl | ⟨lo, hi, rfl, hb⟩)⟩ := h
  · obtain ⟨a, n, t, u, rfl, hm, hu⟩ := dat_pair hd
    rw [dat_none hu] at hm
    exact .inl ⟨a, n, x, t, rfl, hm, rfl, rfl⟩
  · obtain ⟨a, n, t, u, rfl, hm, hu⟩ := dat_pair hd
    obtain ⟨b, k, t₁, t₂, rfl, hb'⟩ := dat_two hu
    exact .inr ⟨a, n, x, t, b, k, lo, hi, t₁, t₂, rfl, hm, hb', rfl, hb, rfl⟩
theorem sts_le {ds : List Dat} (h : ∀ d ∈ ds, ClockOk d) : ∀ s ∈ sts ds, s.1 ≤ s.2 := by
  intro s hs
  obtain ⟨d, hd, e⟩ := List.mem_filterMap.mp hs
  obtain ⟨x, s', rfl, hx, (rfl | ⟨lo, hi, rfl, hb⟩)⟩ := h d hd
  · cases e
  · cases e; exact hb.1
end Mine
namespace Mine
open PySem PySem.W PyProof.Rows
theorem still_int {y : Str} {stored : List Str} {m₀ : Str → Option Value} {h₀ : Heap} {L I : Addr} {o : Obj} {news : List (Addr × Obj)} {P : Int × Tok → Prop} {s₁ : Shared} {h' : Heap} {tk : Nat} {m' : Str → Option Value} {all : List (Addr × Obj)} {Q : Flow → Shared → Prop} {x : Int} {t : Tok}
    (F : Fr h₀ L h' m') (N : News h₀ L h' all) (hk : m' y = some (.int x t)) (hI : (I, o) ∈ all) (sub : ∀ p ∈ news, p ∈ all) (off : ∀ p ∈ news, p.1 ≠ I) (hr : ∀ z, z ≠ y → stored.contains z = false → m' z = m₀ z) (hv : P (x, t)) :
    LoopTurn h₀ L s₁ I o (Still (fun c : Int × Tok => [(y, Value.int c.1 c.2)]) stored m₀ news P) Q .next { s₁ with heap := h', toks := tk } :=
  LoopTurn.still (x, t) F N hI sub off (List.forall_mem_cons.mpr ⟨hk, List.forall_mem_nil _⟩) (fun z hz hc => hr z (hz _ (.head _)) hc) hv
theorem cnt_none {pre : List Dat} {d : Dat} (h : stOf d = none) (p : Int) : cnt (sts (pre ++ [d])) p = cnt (sts pre) p := by
  rw [sts_append, cnt_append]
  simp [sts, h, cnt]
theorem cnt_some {pre : List Dat} {d : Dat} {lo hi : Int} (h : stOf d = some (lo, hi)) (p : Int) : cnt (sts (pre ++ [d])) p = cnt (sts pre) p + (if lo ≤ p ∧ p ≤ hi then 1 else 0) := by
  rw [sts_append, cnt_append]
  simp [sts, h, cnt]
theorem cnt_in {pre : List Dat} {d : Dat} {lo hi p x : Int} (h : stOf d = some (lo, hi)) (h1 : lo ≤ p) (h2 : p ≤ hi) (hx : x = cnt (sts pre) p) : x + 1 = cnt (sts (pre ++ [d])) p := by rw [cnt_some h, if_pos ⟨h1, h2⟩, hx]
theorem cnt_out {pre : List Dat} {d : Dat} {lo hi p x : Int} (h : stOf d = some (lo, hi)) (h1 : ¬ (lo ≤ p ∧ p ≤ hi)) (hx : x = cnt (sts pre) p) : x = cnt (sts (pre ++ [d])) p := by rw [cnt_some h, if_neg h1, hx, Int.add_zero]
theorem cnt_not {pre : List Dat} {d : Dat} {p x : Int} (h : stOf d = none) (hx : x = cnt (sts pre) p) : x = cnt (sts (pre ++ [d])) p := by rw [cnt_none h, hx]
end Mine
namespace Mine
open PySem PySem.W PyProof.Rows
theorem range_size {b : Int} (n : Nat) (h : b = n ∨ (b ≤ 0 ∧ n = 0)) : Builtin.Range.rangeSize 0 b 1 = (n : Int) := by
  unfold Builtin.Range.rangeSize
  rw [if_pos (by decide)]
  rcases h with rfl | ⟨h, rfl⟩
  · by_cases h0 : (0 : Int) < n
    · rw [if_pos h0, Int.ediv_one]; omega
    · rw [if_neg h0]; omega
  · rw [if_neg (by omega)]; rfl
noncomputable def runD (r : Int × Int × Int) : Dat := .tuple [.int r.1, .int r.2.1, .int r.2.2]
end Mine
namespace Mine
open PySem PySem.W PyProof.Rows
theorem sts_len (ds : List Dat) : (sts ds).length ≤ ds.length := List.length_filterMap_le ..
theorem tab_len {ds pre post : List Dat} {d : Dat} {c : List (Int × Int)} (T : Tab (sts pre) c) (e : ds = pre ++ d :: post) (h : ds.length ≤ 40) : c.length ≤ 80 := by
  have h1 := T.len
  have h2 := sts_len pre
  have h3 := congrArg List.length e
  rw [List.length_append, List.length_cons] at h3
  omega
theorem tab_len_all {ds : List Dat} {c : List (Int × Int)} (T : Tab (sts ds) c) (h : ds.length ≤ 40) : c.length ≤ 80 := by
  have h1 := T.len
  have h2 := sts_len ds
  omega
theorem tab_more {pre : List Dat} {d : Dat} {lo hi : Int} {c : List (Int × Int)} (T : Tab (sts pre) c) (h : stOf d = some (lo, hi)) :
    Tab (sts (pre ++ [d])) (kdfPut (kdfPut c lo (kdfLook c lo 0 + 1)) (hi + 1) (kdfLook (kdfPut c lo (kdfLook c lo 0 + 1)) (hi + 1) 0 - 1)) := by
  have e : sts (pre ++ [d]) = sts pre ++ [(lo, hi)] := by rw [sts_append]; simp [sts, h]
  rw [e]
  exact tab_add T lo hi
theorem tab_same {pre : List Dat} {d : Dat} {c : List (Int × Int)} (T : Tab (sts pre) c) (h : stOf d = none) : Tab (sts (pre ++ [d])) c := by
  have e : sts (pre ++ [d]) = sts pre := by rw [sts_append]; simp [sts, h]
  rw [e]
  exact T
end Mine
namespace Mine
open PySem PySem.W PyProof.Rows PySem.Spec PySem.Calls
section
variable {prog : Program} {w : World} {A : Around} {E : Value → Shared → Prop} {s : Shared} {env : Env} {h₀ : Heap} {x : Str} {px : Pos} {body : List Stmt} {Q : Flow → Shared → Prop}
theorem loop_rangeG {σ : Type} {r D : Addr} {a b : Int} {t u v : Tok} {n e₀ : Nat} {m₀ : Str → Option Value} {news : List (Addr × Obj)} (ps : σ → List (Str × Value)) (stored : List Str) (R : Nat → σ → List Dat → Prop) (c₀ : σ)
    (hh : A.handled = none) (F : Fr h₀ env.locals s.heap m₀) (N : News h₀ env.locals s.heap ((D, ({ cls := .type "list", data := .seq #[] e₀ } : Obj)) :: news)) (hr : IsRange s.heap r a b 1 t u v) (hsm : Builtin.Range.small a b 1 = true) (hn : Builtin.Range.rangeSize a b 1 = ((n : Nat) : Int))
    (hk : ∀ p ∈ ps c₀, m₀ p.1 = some p.2) (hne : ∀ p ∈ news, p.1 ≠ D) (h0 : R 0 c₀ [])
    (turn : ∀ (i : Nat) t c ys e add ds (u : Str → Option Value) I o h tk, i < n → R i c ds → DatAll add ys ds → (∀ p ∈ add ++ news, p.1 ≠ D) → (∀ p ∈ add, ∀ q ∈ news, q.1 ≠ p.1) → (∀ p ∈ (D, ({ cls := .type "list", data := .seq (List.toArray ys) e } : Obj)) :: (add ++ news), p.1 ≠ I) → o.cls = .type "range_iterator" →
      Fr h₀ env.locals h (kstB (fun z => if stored.contains z then u z else m₀ z) (ps c)) → News h₀ env.locals h ((I, o) :: (D, ({ cls := .type "list", data := .seq (List.toArray ys) e } : Obj)) :: (add ++ news)) →
      wpAny (model prog w) A (assign (.Name x px) env (.int (a + (i : Int)) t)) (fun _ s₂ => wpAny (model prog w) A (execs body env) (LoopTurn h₀ env.locals { s with heap := h, toks := tk } I o (BetweenR ps stored m₀ I (Grow D news R (i + 1))) Q) E s₂) E { s with heap := h, toks := tk })
    (done : ∀ c ys e add ds (u : Str → Option Value) h tk, R n c ds → DatAll add ys ds → (∀ p ∈ add ++ news, p.1 ≠ D) → (∀ p ∈ add, ∀ q ∈ news, q.1 ≠ p.1) → Fr h₀ env.locals h (kstB (fun z => if stored.contains z then u z else m₀ z) (ps c)) → News h₀ env.locals h ((D, ({ cls := .type "list", data := .seq (List.toArray ys) e } : Obj)) :: (add ++ news)) → Q .next { s with heap := h, toks := tk }) :
    wpAny (model prog w) A (pyIter (.ref r)) (fun it s₂ => TurnsAt prog w A h₀ env (.Name x px) body Q E it s₂) E s := by
  refine loop_range ps stored (Grow D news R) c₀ hh F N hr hsm hn hk (grow_nil hne h0) ?_ ?_
  · rintro i t c nw u I o h tk hi ⟨ys, e, add, ds, rfl, a1, a2, a3, a4⟩ hI ho F' N'
    exact turn i t c ys e add ds u I o h tk hi a4 a1 a2 a3 hI ho F' N'
  · rintro c nw u h tk ⟨ys, e, add, ds, rfl, a1, a2, a3, a4⟩ F' N'
    exact done c ys e add ds u h tk a4 a1 a2 a3 F' N'
theorem grow_int {y : Str} {stored : List Str} {m₀ : Str → Option Value} {L I D T : Addr} {o oT : Obj} {news add : List (Addr × Obj)} {R : Nat → Int × Tok → List Dat → Prop} {i : Nat} {s₁ : Shared} {h' : Heap} {tk : Nat} {m' : Str → Option Value} {ys : List Value} {e : Nat} {ds : List Dat} {dd : Dat} {z : Int} {tz : Tok}
    (F : Fr h₀ L h' m') (N : News h₀ L h' ((T, oT) :: (I, o) :: (D, ({ cls := .type "list", data := .seq (ys.toArray.push (.ref T)) e } : Obj)) :: (add ++ news))) (hk : m' y = some (.int z tz)) (hd : DatIn [(T, oT)] (.ref T) dd) (hA : DatAll add ys ds)
    (o1 : ∀ p ∈ add ++ news, p.1 ≠ D) (o3 : ∀ p ∈ add, ∀ q ∈ news, q.1 ≠ p.1) (o5 : ∀ p ∈ (D, ({ cls := .type "list", data := .seq (List.toArray ys) 0 } : Obj)) :: (add ++ news), p.1 ≠ I) (oT : AllLt T ((I, o) :: (D, o) :: (add ++ news)))
    (hr : ∀ z, z ≠ y → stored.contains z = false → m' z = m₀ z) (hv : R (i + 1) (z, tz) (ds ++ [dd])) :
    LoopTurn h₀ L s₁ I o (BetweenR (fun c : Int × Tok => [(y, Value.int c.1 c.2)]) stored m₀ I (Grow D news R (i + 1))) Q .next { s₁ with heap := h', toks := tk } := by
  have lt := allLt_mem oT
  refine grow_next (z, tz) F N (.tail _ (.tail _ (.head _))) (.tail _ (.head _)) hA hd (fun p hp => ?_) o1 (fun p hp => ?_) o3 (fun p hp q hq => ?_) (fun p hp => ?_) (o5 _ (.head _)) (List.forall_mem_cons.mpr ⟨hk, List.forall_mem_nil _⟩) (fun z hz hc => hr z (hz _ (.head _)) hc) hv
  · rcases List.mem_append.mp hp with hp | hp
    · rw [List.mem_singleton.mp hp]; exact .head _
    · exact .tail _ (.tail _ (.tail _ hp))
  · rw [List.mem_singleton.mp hp]; exact Ne.symm (Nat.ne_of_lt (lt _ (.tail _ (.head _))))
  · rw [List.mem_singleton.mp hp]; exact Nat.ne_of_lt (lt q (.tail _ (.tail _ (List.mem_append.mpr (.inr hq)))))
  · rcases List.mem_append.mp hp with hp | hp
    · rw [List.mem_singleton.mp hp]; exact Ne.symm (Nat.ne_of_lt (lt _ (.head _)))
    · exact o5 p (.tail _ hp)
end
section
variable {prog : Program} {w : World} {A : Around} {E : Value → Shared → Prop} {s : Shared} {h₀ : Heap}
theorem item_ints {value slice : PySem.Expr} {L l : Addr} {news : List (Addr × Obj)} {ys : List Value} {ns : List Int} {e : Nat} {k : Int} {u : Tok} {Q : Value → Shared → Prop} (j : Nat) (N : News h₀ L s.heap news) (hm : (l, ({ cls := .type "list", data := .seq ys.toArray e } : Obj)) ∈ news) (hs : IntsAre ys ns)
    (hk : k = (j : Int)) (hj : j < ns.length) (hfit : (j : Int) < 2 ^ 63) (h : ∀ t, Q (.int (ns.getD j 0) t) s)
    (hs' : subscripted slice false (.ref l) (.int k u) = operate [.ref l, .int k u] (getItem (.ref l) (.int k u)) := by with_unfolding_all rfl) :
    wpAny (model prog w) A (subscriptTail value slice (.ref l) (.int k u)) Q E s := by
  have hl : s.heap.IsList l ys.toArray := ⟨_, (N _ hm).1, rfl, e, rfl⟩
  subst hk
  obtain ⟨t, hx⟩ := hs.get j ns[j] (List.getElem?_eq_getElem hj)
  refine tail_any hl.typeIs slot_list_getitem.lookup (wpAny_getItem_list hl (by omega) hfit (by simpa using hx) ?_) hs'
  have := h t
  rw [getD_at hj] at this
  exact this
end
end Mine
namespace Mine
open PySem PySem.W PyProof.Rows
theorem led_mid {h₀ h : Heap} {L : Addr} {x y p q : Addr × Obj} {add news : List (Addr × Obj)} (_ : News h₀ L h (x :: y :: (add ++ p :: q :: news))) : p ∈ add ++ p :: q :: news ∧ q ∈ add ++ p :: q :: news :=
  ⟨List.mem_append.mpr (.inr (.head _)), List.mem_append.mpr (.inr (.tail _ (.head _)))⟩
end Mine
namespace Mine
open PySem PySem.W PyProof.Rows
theorem ret_sub2 {α : Type} {x a b : α} {add news : List α} : ∀ p ∈ (x :: add) ++ news, p ∈ x :: (add ++ a :: b :: news) := fun p hp => by
  rcases List.mem_cons.mp hp with rfl | hp
  · exact .head _
  · rcases List.mem_append.mp hp with hp | hp
    · exact .tail _ (List.mem_append.mpr (.inl hp))
    · exact .tail _ (List.mem_append.mpr (.inr (.tail _ (.tail _ hp))))
end Mine
namespace Mine
open PySem PySem.W PyProof.Rows
theorem list_up {h₀ g : Heap} {L S : Addr} {m : Str → Option Value} {xs : Array Value} (F : Fr h₀ L g m) (h : h₀.IsList S xs) : g.IsList S xs := by
  obtain ⟨o, e, c, n, d⟩ := h
  exact ⟨o, F.keep _ _ e, c, n, d⟩
end Mine
namespace Mine
open PySem PySem.W PyProof.Rows
theorem getD_out {ns : List Int} {k : Nat} (h : ns.length ≤ k) : ns.getD k 0 = 0 := by simp [List.getD, List.getElem?_eq_none h]
theorem int_out {ns : List Int} {k : Nat} {t : Tok} (h : ns.length ≤ k) : ∃ u, Value.int 0 t = Value.int (ns.getD k 0) u := ⟨t, by rw [getD_out h]⟩
end Mine
namespace Mine
open PySem PySem.W PyProof.Rows
section
variable {h₀ : Heap} {Q : Flow → Shared → Prop} {stored : List Str} {m₀ : Str → Option Value} {L I D T U : Addr} {o oT oU : Obj} {news add rest : List (Addr × Obj)} {R : Nat → Unit → List Dat → Prop} {i : Nat} {s₁ : Shared} {h' : Heap} {tk : Nat} {m' : Str → Option Value} {ys : List Value} {e : Nat} {ds : List Dat} {dd : Dat}
theorem grow_u1 (F : Fr h₀ L h' m') (N : News h₀ L h' ((T, oT) :: rest)) (hM : (D, ({ cls := .type "list", data := .seq (ys.toArray.push (.ref T)) e } : Obj)) ∈ rest) (hI : (I, o) ∈ rest) (hd : DatIn [(T, oT)] (.ref T) dd) (hA : DatAll add ys ds) (sub : ∀ p ∈ add ++ news, p ∈ rest)
    (o1 : ∀ p ∈ add ++ news, p.1 ≠ D) (o3 : ∀ p ∈ add, ∀ q ∈ news, q.1 ≠ p.1) (o5 : ∀ p ∈ (D, ({ cls := .type "list", data := .seq (List.toArray ys) 0 } : Obj)) :: (add ++ news), p.1 ≠ I) (lt : AllLt T rest)
    (hr : ∀ z, stored.contains z = false → m' z = m₀ z) (hv : R (i + 1) () (ds ++ [dd])) :
    LoopTurn h₀ L s₁ I o (BetweenR (fun _ : Unit => []) stored m₀ I (Grow D news R (i + 1))) Q .next { s₁ with heap := h', toks := tk } := by
  have lt := allLt_mem lt
  refine grow_next (new := [(T, oT)]) () F N (.tail _ hM) (.tail _ hI) hA hd (fun p hp => ?_) o1 (fun p hp => ?_) o3 (fun p hp q hq => ?_) (fun p hp => ?_) (o5 _ (.head _)) (List.forall_mem_nil _) (fun z _ hc => hr z hc) hv
  · rcases List.mem_append.mp hp with hp | hp
    · rw [List.mem_singleton.mp hp]; exact .head _
    · exact .tail _ (sub p hp)
  · rw [List.mem_singleton.mp hp]; exact Ne.symm (Nat.ne_of_lt (lt _ hM))
  · rw [List.mem_singleton.mp hp]; exact Nat.ne_of_lt (lt q (sub q (List.mem_append.mpr (.inr hq))))
  · rcases List.mem_append.mp hp with hp | hp
    · rw [List.mem_singleton.mp hp]; exact Ne.symm (Nat.ne_of_lt (lt _ hI))
    · exact o5 p (.tail _ hp)
theorem grow_u2 (F : Fr h₀ L h' m') (N : News h₀ L h' ((T, oT) :: (U, oU) :: rest)) (hM : (D, ({ cls := .type "list", data := .seq (ys.toArray.push (.ref T)) e } : Obj)) ∈ rest) (hI : (I, o) ∈ rest) (hd : DatIn [(T, oT), (U, oU)] (.ref T) dd) (hA : DatAll add ys ds) (sub : ∀ p ∈ add ++ news, p ∈ rest)
    (o1 : ∀ p ∈ add ++ news, p.1 ≠ D) (o3 : ∀ p ∈ add, ∀ q ∈ news, q.1 ≠ p.1) (o5 : ∀ p ∈ (D, ({ cls := .type "list", data := .seq (List.toArray ys) 0 } : Obj)) :: (add ++ news), p.1 ≠ I) (lt : AllLt T ((U, oU) :: rest)) (lu : AllLt U rest)
    (hr : ∀ z, stored.contains z = false → m' z = m₀ z) (hv : R (i + 1) () (ds ++ [dd])) :
    LoopTurn h₀ L s₁ I o (BetweenR (fun _ : Unit => []) stored m₀ I (Grow D news R (i + 1))) Q .next { s₁ with heap := h', toks := tk } := by
  have lt := allLt_mem lt
  have lu := allLt_mem lu
  have two : ∀ p ∈ [(T, oT), (U, oU)], ∀ q ∈ rest, q.1 ≠ p.1 := fun p hp q hq => by
    rcases List.mem_cons.mp hp with rfl | hp
    · exact Nat.ne_of_lt (lt q (.tail _ hq))
    · rw [List.mem_singleton.mp hp]; exact Nat.ne_of_lt (lu q hq)
  refine grow_next (new := [(T, oT), (U, oU)]) () F N (.tail _ (.tail _ hM)) (.tail _ (.tail _ hI)) hA hd (fun p hp => ?_) o1 (fun p hp => ?_) o3 (fun p hp q hq => ?_) (fun p hp => ?_) (o5 _ (.head _)) (List.forall_mem_nil _) (fun z _ hc => hr z hc) hv
  · rcases List.mem_append.mp hp with hp | hp
    · rcases List.mem_cons.mp hp with rfl | hp
      · exact .head _
      · rw [List.mem_singleton.mp hp]; exact .tail _ (.head _)
    · exact .tail _ (.tail _ (sub p hp))
  · exact Ne.symm (two p hp _ hM)
  · exact two p hp q (sub q (List.mem_append.mpr (.inr hq)))
  · rcases List.mem_append.mp hp with hp | hp
    · exact Ne.symm (two p hp _ hI)
    · exact o5 p (.tail _ hp)
end
section
variable {prog : Program} {w : World} {A : Around} {E : Value → Shared → Prop} {s : Shared}
theorem item_base {value slice : PySem.Expr} {g : Heap} {L l : Addr} {m : Str → Option Value} {ys : List Value} {ns : List Int} {k : Int} {u : Tok} {Q : Value → Shared → Prop} (j : Nat) (F : Fr g L s.heap m) (hl : g.IsList l ys.toArray) (hs : IntsAre ys ns)
    (hk : k = (j : Int)) (hj : j < ns.length) (hfit : (j : Int) < 2 ^ 63) (h : ∀ t, Q (.int (ns.getD j 0) t) s)
    (hs' : subscripted slice false (.ref l) (.int k u) = operate [.ref l, .int k u] (getItem (.ref l) (.int k u)) := by with_unfolding_all rfl) :
    wpAny (model prog w) A (subscriptTail value slice (.ref l) (.int k u)) Q E s := by
  have hl := list_up F hl
  subst hk
  obtain ⟨t, hx⟩ := hs.get j ns[j] (List.getElem?_eq_getElem hj)
  refine tail_any hl.typeIs slot_list_getitem.lookup (wpAny_getItem_list hl (by omega) hfit (by simpa using hx) ?_) hs'
  have := h t
  rw [getD_at hj] at this
  exact this
end
end Mine
namespace Mine
open PySem PySem.W PyProof.Rows
theorem item_of {prog : Program} {w : World} {A : Around} {E : Value → Shared → Prop} {s : Shared} {value slice : PySem.Expr} {l : Addr} {vs : List Value} {ns : List Int} {k : Int} {u : Tok} {Q : Value → Shared → Prop} (P : Int → Prop) (hl : s.heap.IsList l vs.toArray) (hi' : IntsAre vs ns) (hb : ∀ n ∈ ns, P n)
    (h0 : 0 ≤ k ∧ k < (ns.length : Int)) (hfit : k < 2 ^ 63) (h : ∀ t x, P x → Q (.int x t) s)
    (hs : subscripted slice false (.ref l) (.int k u) = operate [.ref l, .int k u] (getItem (.ref l) (.int k u)) := by with_unfolding_all rfl) :
    wpAny (model prog w) A (subscriptTail value slice (.ref l) (.int k u)) Q E s := by
  have hlt : k.toNat < ns.length := by omega
  obtain ⟨t, hx⟩ := hi'.get k.toNat ns[k.toNat] (List.getElem?_eq_getElem hlt)
  exact tail_any hl.typeIs slot_list_getitem.lookup (wpAny_getItem_list hl h0.1 hfit (by simpa using hx) (h t _ (hb _ (List.getElem_mem hlt)))) hs
theorem clock_none {x : Str} {T : Addr} {n : Nat} {t : Tok} : DatIn [(T, ({ cls := .type "tuple", data := .seq #[.str x t, .none] n } : Obj))] (.ref T) (.tuple [.str x, .none]) :=
  .tuple (vs := [.str x t, .none]) (.head _) (.cons (.str _ _) (.cons .none .nil))
theorem clock_some {x : Str} {T U : Addr} {n k : Nat} {t t₁ t₂ : Tok} {lo hi : Int} : DatIn [(T, ({ cls := .type "tuple", data := .seq #[.str x t, .ref U] n } : Obj)), (U, ({ cls := .type "tuple", data := .seq #[.int lo t₁, .int hi t₂] k } : Obj))] (.ref T) (.tuple [.str x, .tuple [.int lo, .int hi]]) :=
  .tuple (vs := [.str x t, .ref U]) (.head _) (.cons (.str _ _) (.cons (.tuple (vs := [.int lo t₁, .int hi t₂]) (.tail _ (.head _)) (.cons (.int _ _) (.cons (.int _ _) .nil))) .nil))
theorem all_snoc {α : Type} {P : α → Prop} {l : List α} {x : α} (h : ∀ d ∈ l, P d) (hx : P x) : ∀ d ∈ l ++ [x], P d := fun d hd => by
  rcases List.mem_append.mp hd with hd | hd
  · exact h d hd
  · rw [List.mem_singleton.mp hd]; exact hx
end Mine
namespace Mine
theorem clk_n (L : Nat) : (if (if (L : Int) - 3 > 0 then (L : Int) - 3 else 0) < 40 then (if (L : Int) - 3 > 0 then (L : Int) - 3 else 0) else 40) = ((min 40 (L - 3) : Nat) : Int) := by
  by_cases h : (L : Int) - 3 > 0
  · rw [if_pos h]
    by_cases h2 : (L : Int) - 3 < 40
    · rw [if_pos h2]; omega
    · rw [if_neg h2]; omega
  · rw [if_neg h, if_pos (by decide)]; omega
end Mine
namespace Mine
theorem pm_bd {x r w : Int} (h : x = 1 ∨ x = -1) (h0 : 0 ≤ r) (h1 : r < w) : -w < r * x ∧ r * x < w := by
  rcases h with rfl | rfl
  · omega
  · omega
end Mine
namespace Mine
open PySem PySem.W PyProof.Rows PySem.Spec PySem.Calls
section
variable {prog : Program} {w : World} {A : Around} {E : Value → Shared → Prop} {s : Shared} {env : Env} {h₀ : Heap} {target : Expr} {body : List Stmt} {Q : Flow → Shared → Prop}
end
section
variable {h₀ : Heap} {Q : Flow → Shared → Prop} {stored : List Str} {m₀ : Str → Option Value} {L I D T ax : Addr} {o oT lo : Obj} {news add rest all : List (Addr × Obj)} {R : Nat → Unit → List Dat → Prop} {i : Nat} {s₁ : Shared} {h' : Heap} {tk : Nat} {m' : Str → Option Value} {ys : List Value} {e : Nat} {ds : List Dat} {dd : Dat}
end
end Mine
namespace Mine
open PySem PySem.W PyProof.Rows
noncomputable def pairD (s : St) : Dat := .tuple [.int s.1, .int s.2]
theorem pair_kqd (s : St) : kqdOk 8 (pairD s) = true := by simp [pairD, kqdOk]
theorem pairs_kqd {P : List St} : ∀ d ∈ P.map pairD, kqdOk 8 d = true := fun d hd => by
  obtain ⟨s, _, rfl⟩ := List.mem_map.mp hd
  exact pair_kqd s
end Mine
namespace Mine
open PySem PySem.W PyProof.Rows
theorem runD_inj {a b : Int × Int × Int} (h : runD a = runD b) : a = b := by
  obtain ⟨a1, a2, a3⟩ := a
  obtain ⟨b1, b2, b3⟩ := b
  simp [runD] at h
  simp [h]
theorem runs_inj : ∀ {a b : List (Int × Int × Int)}, a.map runD = b.map runD → a = b
  | [], [], _ => rfl
  | [], _ :: _, h => by simp at h
  | _ :: _, [], h => by simp at h
  | x :: a, y :: b, h => by
    rw [List.map_cons, List.map_cons] at h
    have h' := List.cons.inj h
    rw [runD_inj h'.1, runs_inj h'.2]
end Mine
namespace Mine
open PySem PySem.W PyProof.Rows
end Mine
namespace Mine
open PySem PySem.W PyProof.Rows
theorem cell_ok {ns : List Int} (hl : PyData.layable0 (.list (ns.map .int)) = true) (k : Nat) : CellOk (ns.getD k 0) := by
  by_cases h : k < ns.length
  · rw [getD_at h]
    exact cellOk_of (intBits_le_of_item (List.getElem_mem h) hl) (by decide)
  · rw [getD_out (by omega)]
    exact cellOk_of (n := 0) (by decide) (by decide)
end Mine
namespace Mine
theorem cell_ok2 {ns : List Int} (hl : PyData.layable0 (.list (ns.map .int)) = true) (k : Nat) : CellOk (ns.getD k 0) ∧ True := ⟨cell_ok hl k, trivial⟩
end Mine
namespace Mine
open PySem PySem.W PyProof.Rows PySem.Spec PySem.Calls
section
variable {prog : Program} {w : World} {A : Around} {E : Value → Shared → Prop} {s : Shared} {env : Env} {h₀ : Heap} {target : Expr} {body : List Stmt} {Q : Flow → Shared → Prop}
end
end Mine
namespace Mine
open PySem PySem.W PyProof.Rows
end Mine
namespace Mine
open PySem PySem.W PyProof.Rows PyProof.Rows.LCg
theorem ints_snoc {y : Int} {t : Tok} : ∀ {vs : List Value} {ys : List Int}, IntsAre vs ys → IntsAre (vs ++ [.int y t]) (ys ++ [y])
  | _, _, .nil => .cons y t .nil
  | _, _, .cons z u r => .cons z u (ints_snoc r)
end Mine
namespace Mine
open PySem PySem.W PyProof.Rows
end Mine
namespace Mine
end Mine
namespace Mine
open PySem PySem.W PyProof.Rows
end Mine
namespace Mine
open PySem PySem.W PyProof.Rows PySem.Spec PySem.Calls
section
variable {prog : Program} {w : World} {A : Around} {E : Value → Shared → Prop} {s : Shared} {env : Env} {h₀ : Heap} {target : Expr} {body : List Stmt} {Q : Flow → Shared → Prop}
end
end Mine
namespace Mine
open PySem PySem.W PyProof.Rows PySem.Spec PySem.Calls PyProof.Rows.LCg PyProof.Rows.LCt
section
variable {prog : Program} {w : World} {A : Around} {E : Value → Shared → Prop} {s : Shared} {h₀ : Heap} {L : Addr} {m : Str → Option Value} {env : Env}
noncomputable def SrcUT (prog : Program) (w : World) (A : Around) (h₀ : Heap) (L : Addr) (m : Str → Option Value) (env : Env) (ct elt : Expr) (x : Str) (scope : Scope) (cl : List (Str × Addr)) (Fin : Shared → List Value → List (Addr × Obj) → Prop) (xv : Value) (s₁ : Shared) : Prop :=
  CompSrcT prog w A h₀ L m env ct elt x scope cl Fin xv s₁
theorem SrcUT.ledger {ct elt : Expr} {x : Str} {scope : Scope} {cl : List (Str × Addr)} {Fin : Shared → List Value → List (Addr × Obj) → Prop} {ax : Addr} {its : Array Value} {k : Nat} {news : List (Addr × Obj)} {s₁ : Shared}
    (hh : A.handled = none) (F : Fr h₀ L s₁.heap m) (N : News h₀ L s₁.heap news) (hm : (ax, ({ cls := .type "list", data := .seq its k } : Obj)) ∈ news) (hsz : its.size ≤ sizeLine)
    (h : ∀ g, CompRestT prog w A h₀ L m env ct elt x scope cl { s₁ with heap := g } (SrcAt h₀ ax its) (fun i v => its[i]? = some v) (Fin { s₁ with heap := g }) its.size 0 [] news) :
    SrcUT prog w A h₀ L m env ct elt x scope cl Fin (.ref ax) s₁ := CompSrcT.ledger hh F N hm hsz h
theorem ListComp_VT {ct elt iter : Expr} {x : Str} {px : Pos} {scope : Scope} {cl : List (Str × Addr)} {pos : Pos} {Q : Value → Shared → Prop} (F₀ : Fr h₀ L s.heap m)
    (hclos : closureFor scope env = pure cl) (hcell : ∀ y ∈ scope.names, y.2 ≠ .cell) (hkind : scope.kind = .function)
    (hnames : ∀ y ∈ scope.names, y.2 = .local → scope.names.lookup y.1 = some .local) (hx : scope.names.lookup x = some .local)
    (h : wpAny (model prog w) A (eval iter env) (SrcUT prog w A h₀ L m env ct elt x scope cl (fun s₂ => FinE h₀ L m s₂ Q)) E s)
    (hs : ∀ x, foldedSetIterable iter env x = pure x := by intro _; rfl) :
    wpAny (model prog w) A (eval (.ListComp elt [⟨.Name x px, iter, [ct], 0⟩] scope pos) env) Q E s := LCt.ListComp_T F₀ hclos hcell hkind hnames hx h hs
end
end Mine
namespace Mine
open PySem PySem.W PyProof.Rows
end Mine
namespace Mine
open PySem PySem.W PyProof.Rows
end Mine
namespace Mine
open PySem PySem.W PyProof.Rows
end Mine
namespace Mine
open PySem PySem.W PyProof.Rows
theorem len_led {prog : Program} {w : World} {A : Around} {E : Value → Shared → Prop} {s : Shared} {h₀ : Heap} {L l : Addr} {news : List (Addr × Obj)} {vs : List Value} {e k : Nat} {Q : Value → Shared → Prop} (N : News h₀ L s.heap news) (hm : (l, ({ cls := .type "list", data := .seq vs.toArray e } : Obj)) ∈ news) (hl : vs.length = k) (hk : k ≤ 1000)
    (h : Q (.int (k : Int) (s.toks + 1)) { s with toks := s.toks + 1 + 1 }) : wpAny (model prog w) A (call (.builtin "len") [.ref l]) Q E s := by
  have hI : s.heap.IsList l vs.toArray := ⟨_, (N _ hm).1, rfl, e, rfl⟩
  have ez : (List.toArray vs).size = k := by rw [List.size_toArray]; exact hl
  exact Calls.call_len_list hI (by rw [ez]; omega) (by rw [ez]; exact h)
end Mine
namespace Mine
open PySem PySem.W PyProof.Rows PySem.Calls
theorem fr_same {h₀ h : Heap} {L : Addr} {m : Str → Option Value} {x : Str} {v : Value} (F : Fr h₀ L h m) (hx : m x = some v) : Fr h₀ L h (fun z => if z = x then some v else m z) := by
  have e : (fun z => if z = x then some v else m z) = m := funext fun z => by
    by_cases q : z = x
    · rw [if_pos q, q, hx]
    · rw [if_neg q]
  rw [e]; exact F
theorem fr_same2 {h₀ h : Heap} {L : Addr} {m : Str → Option Value} {x y : Str} {v u : Value} (F : Fr h₀ L h m) (hy : m y = some u) (hx : m x = some v) : Fr h₀ L h (fun z => if z = y then some u else if z = x then some v else m z) := by
  have e : (fun z => if z = y then some u else if z = x then some v else m z) = m := funext fun z => by
    by_cases q : z = y
    · rw [if_pos q, q, hy]
    · rw [if_neg q]
      by_cases q : z = x
      · rw [if_pos q, q, hx]
      · rw [if_neg q]
  rw [e]; exact F
noncomputable def IfEnd (h₀ : Heap) (L : Addr) (x : Str) (m : Str → Option Value) (news : List (Addr × Obj)) (P : Int → Prop) (s₁ : Shared) (fl : Flow) (s₂ : Shared) : Prop :=
  fl = .next ∧ ∃ h' tk' v t, s₂ = { s₁ with heap := h', toks := tk' } ∧ Fr h₀ L h' (fun z => if z = x then some (.int v t) else m z) ∧ News h₀ L h' news ∧ P v
noncomputable def IfEnd2 (h₀ : Heap) (L : Addr) (x y : Str) (m : Str → Option Value) (news : List (Addr × Obj)) (P : Int → Int → Prop) (s₁ : Shared) (fl : Flow) (s₂ : Shared) : Prop :=
  fl = .next ∧ ∃ h' tk' v t u r, s₂ = { s₁ with heap := h', toks := tk' } ∧ Fr h₀ L h' (fun z => if z = y then some (.int u r) else if z = x then some (.int v t) else m z) ∧ News h₀ L h' news ∧ P v u
theorem If_cut2 {prog : Program} {w : World} {A : Around} {E : Value → Shared → Prop} {s : Shared} {env : Env} {st : Stmt} {Q : Flow → Shared → Prop} {h₀ : Heap} {L : Addr} {m : Str → Option Value} {news : List (Addr × Obj)} (x y : Str) (P : Int → Int → Prop) (_F : Fr h₀ L s.heap m) (_N : News h₀ L s.heap news)
    (h1 : wpAny (model prog w) A (exec st env) (IfEnd2 h₀ L x y m news P s) E s) (h2 : ∀ h' tk' v t u r, Fr h₀ L h' (fun z => if z = y then some (.int u r) else if z = x then some (.int v t) else m z) → News h₀ L h' news → P v u → Q .next { s with heap := h', toks := tk' }) :
    wpAny (model prog w) A (exec st env) Q E s :=
  wpAny_mono h1 (fun fl s' q => by
    obtain ⟨rfl, h', tk', v, t, u, r, rfl, F', N', p⟩ := q
    exact h2 h' tk' v t u r F' N' p) fun _ _ e => e
theorem IfEnd2.set {h₀ h' : Heap} {L : Addr} {x y : Str} {m : Str → Option Value} {news all : List (Addr × Obj)} {P : Int → Int → Prop} {s₁ : Shared} {tk' : Nat} {v u : Int} {t r : Tok} (F : Fr h₀ L h' (fun z => if z = y then some (.int u r) else if z = x then some (.int v t) else m z)) (N : News h₀ L h' all) (sub : ∀ p ∈ news, p ∈ all) (p : P v u) :
    IfEnd2 h₀ L x y m news P s₁ .next { s₁ with heap := h', toks := tk' } := ⟨rfl, h', tk', v, t, u, r, rfl, F, fun q hq => N q (sub q hq), p⟩
theorem IfEnd2.same {h₀ h' : Heap} {L : Addr} {x y : Str} {m : Str → Option Value} {news all : List (Addr × Obj)} {P : Int → Int → Prop} {s₁ : Shared} {tk' : Nat} {v u : Int} {t r : Tok} (F : Fr h₀ L h' m) (N : News h₀ L h' all) (sub : ∀ p ∈ news, p ∈ all) (hy : m y = some (.int u r)) (hx : m x = some (.int v t)) (p : P v u) :
    IfEnd2 h₀ L x y m news P s₁ .next { s₁ with heap := h', toks := tk' } := ⟨rfl, h', tk', v, t, u, r, rfl, fr_same2 F hy hx, fun q hq => N q (sub q hq), p⟩
theorem IfEnd.set {h₀ h' : Heap} {L : Addr} {x : Str} {m : Str → Option Value} {news all : List (Addr × Obj)} {P : Int → Prop} {s₁ : Shared} {tk' : Nat} {v : Int} {t : Tok} (F : Fr h₀ L h' (fun z => if z = x then some (.int v t) else m z)) (N : News h₀ L h' all) (sub : ∀ p ∈ news, p ∈ all) (p : P v) :
    IfEnd h₀ L x m news P s₁ .next { s₁ with heap := h', toks := tk' } := ⟨rfl, h', tk', v, t, rfl, F, fun q hq => N q (sub q hq), p⟩
theorem IfEnd.same {h₀ h' : Heap} {L : Addr} {x : Str} {m : Str → Option Value} {news all : List (Addr × Obj)} {P : Int → Prop} {s₁ : Shared} {tk' : Nat} {v : Int} {t : Tok} (F : Fr h₀ L h' m) (N : News h₀ L h' all) (sub : ∀ p ∈ news, p ∈ all) (hx : m x = some (.int v t)) (p : P v) :
    IfEnd h₀ L x m news P s₁ .next { s₁ with heap := h', toks := tk' } := ⟨rfl, h', tk', v, t, rfl, fr_same F hx, fun q hq => N q (sub q hq), p⟩
end Mine
namespace Mine
open PySem PyProof.Rows
noncomputable def SortedIn (xs : Array Keyed) (lo hi : Nat) : Prop := ∀ i j, lo ≤ i → i ≤ j → j < hi → K xs i ≤ K xs j
noncomputable def FallIn (xs : Array Keyed) (lo hi : Nat) : Prop := ∀ i j, lo ≤ i → i ≤ j → j < hi → K xs j ≤ K xs i
noncomputable def SameTo (xs ys : Array Keyed) (lo : Nat) : Prop := ∀ i, i < lo → K xs i = K ys i
structure SB (a₀ : Array Keyed) (p : Array (Nat × Nat × Nat)) (st : SortSt) : Prop where
  perm : (arrOf st).Perm a₀
  kind : kindOf st = oneType'
  failed : failedOf st = none
  pend : pendingOf st = p
theorem SB.size {a₀ : Array Keyed} {p : Array (Nat × Nat × Nat)} {st : SortSt} (h : SB a₀ p st) : (arrOf st).size = a₀.size := h.perm.size_eq
theorem SB.setArr {a₀ : Array Keyed} {p : Array (Nat × Nat × Nat)} {st : SortSt} (h : SB a₀ p st) {xs : Array Keyed} (hp : xs.Perm (arrOf st)) : SB a₀ p (setArr st xs) :=
  ⟨hp.trans h.perm, h.kind, h.failed, h.pend⟩
theorem key_at {a₀ xs : Array Keyed} (hp : xs.Perm a₀) (h0 : IntKeys a₀) {i : Nat} (hi : i < a₀.size) : ∃ t q, xs[i]? = some (.int (K xs i) t, q) := by
  have hi' : i < xs.size := by rw [hp.size_eq]; exact hi
  have hm : xs[i] ∈ a₀.toList := (Array.perm_iff_toList_perm.mp hp).mem_iff.mp (by simp)
  obtain ⟨n, t, hn⟩ := h0 _ hm
  refine ⟨t, xs[i].2, ?_⟩
  have e : xs[i]? = some xs[i] := getElem?_pos _ i hi'
  have e2 : xs[i] = (.int n t, xs[i].2) := Prod.ext hn rfl
  unfold K
  rw [e, e2]
  rfl
section
variable {prog : Program} {w : World} {A : Around} {E : Value → Shared → Prop} {s : Shared} {a₀ : Array Keyed} {p : Array (Nat × Nat × Nat)}
theorem wpS_lt2 {st : SortSt} {i j : Nat} {Q : Option Bool → SortSt → Prop} (hB : SB a₀ p st) (h0 : IntKeys a₀) (hi : i < a₀.size) (hj : j < a₀.size)
    (h : Q (some (decide (K (arrOf st) i < K (arrOf st) j))) st) : wpS (model prog w) A E s (ltAt' i j) Q st := by
  obtain ⟨t, p, e1⟩ := key_at hB.perm h0 hi
  obtain ⟨u, q, e2⟩ := key_at hB.perm h0 hj
  exact wpS_ltAt hB.kind e1 e2 h
theorem mid_bd {l r : Nat} (h : l < r) : l ≤ (l + r) / 2 ∧ (l + r) / 2 < r := by omega
theorem wpS_binary2 {st : SortSt} {lo n ok : Nat} {Q : Bool → SortSt → Prop} (h0 : IntKeys a₀) (hn : lo + n ≤ a₀.size) (hok : ok ≤ n) (hB : SB a₀ p st) (hs : SortedIn (arrOf st) lo (lo + ok))
    (h : ∀ st', SB a₀ p st' → SortedIn (arrOf st') lo (lo + n) → SameTo (arrOf st') (arrOf st) lo → Q true st') : wpS (model prog w) A E s (binarySort' lo n ok) Q st := by
  rw [binarySort'_eq]
  refine wpS_bind (wpS_mono (wpS_forRange (I := fun k c st' => c = (none, ()) ∧ SB a₀ p st' ∧ SortedIn (arrOf st') lo (lo + min k n) ∧ SameTo (arrOf st') (arrOf st) lo)
    (Q := fun c st' => c = (none, ()) ∧ SB a₀ p st' ∧ SortedIn (arrOf st') lo (lo + n) ∧ SameTo (arrOf st') (arrOf st) lo) ?step ?fin ?init) ?post)
  case post =>
    rintro c st' ⟨rfl, hB', hs', hf⟩
    exact wpS_pure (h st' hB' hs' hf)
  case init =>
    refine ⟨rfl, hB, fun i j hi hij hj => ?_, fun _ _ => rfl⟩
    by_cases h1 : ok = 0
    · have : i = j := by omega
      subst this; exact Int.le_refl _
    · exact hs i j hi hij (by omega)
  case fin =>
    rintro c st' ⟨hc, hB', hs', hf⟩
    refine ⟨hc, hB', ?_, hf⟩
    rwa [show min (max (max ok 1) n) n = n by omega] at hs'
  case step =>
    rintro k c st' hak hkn ⟨rfl, hB', hs', hf⟩
    rw [show min k n = k by omega] at hs'
    have hk : lo + k < a₀.size := by omega
    refine wpS_bind (wpS_mono (wpS_forRange (I := fun x c st'' => st'' = st' ∧ ∃ l r, c = (none, l, r) ∧ l ≤ r ∧ r ≤ k ∧ r - l ≤ k - x ∧
        (∀ i, i < l → K (arrOf st') (lo + i) ≤ K (arrOf st') (lo + k)) ∧ (∀ i, r ≤ i → i < k → K (arrOf st') (lo + k) < K (arrOf st') (lo + i)))
      (Q := fun c st'' => st'' = st' ∧ ∃ l r, c = (none, l, r) ∧ l ≤ k ∧
        (∀ i, i < l → K (arrOf st') (lo + i) ≤ K (arrOf st') (lo + k)) ∧ (∀ i, l ≤ i → i < k → K (arrOf st') (lo + k) < K (arrOf st') (lo + i))) ?istep ?ifin ?iinit) ?ipost)
    case iinit => exact ⟨rfl, 0, k, rfl, by omega, by omega, by omega, fun i hi => by omega, fun i h1 h2 => by omega⟩
    case ifin =>
      rintro c st'' ⟨rfl, l, r, rfl, hlr, hrk, hm, hlo, hhi⟩
      have : l = r := by omega
      subst this
      exact ⟨rfl, l, l, rfl, hrk, hlo, hhi⟩
    case istep =>
      rintro x c st'' _ hxk ⟨rfl, l, r, rfl, hlr, hrk, hm, hlo, hhi⟩
      dsimp only
      by_cases hge : l ≥ r
      · rw [if_pos hge]
        have : l = r := by omega
        subst this
        exact wpS_pure ⟨rfl, l, l, rfl, hrk, hlo, hhi⟩
      · rw [if_neg hge]
        obtain ⟨hm1, hm2⟩ := mid_bd (Nat.lt_of_not_le hge)
        generalize (l + r) / 2 = md at hm1 hm2 ⊢
        refine wpS_bind (wpS_lt2 hB' h0 hk (by omega) ?_)
        by_cases hless : K (arrOf st'') (lo + k) < K (arrOf st'') (lo + md)
        · simp only [hless, decide_true, if_true]
          refine wpS_pure ⟨rfl, l, md, rfl, hm1, by omega, by omega, hlo, fun i h1 h2 => ?_⟩
          exact Int.lt_of_lt_of_le hless (hs' _ _ (by omega) (by omega) (by omega))
        · simp only [hless, decide_false, Bool.false_eq_true, if_false]
          refine wpS_pure ⟨rfl, md + 1, r, rfl, hm2, hrk, by omega, fun i h1 => ?_, hhi⟩
          exact Int.le_trans (hs' (lo + i) (lo + md) (by omega) (by omega) (by omega)) (Int.not_lt.mp hless)
    case ipost =>
      rintro c st'' ⟨rfl, l, r, rfl, hlk, hlo, hhi⟩
      show wpS _ _ _ _ (do moveDown' (lo + k) (lo + l); pure (ForInStep.yield (none, ()))) _ _
      rw [moveDown'_eq]
      have hks : lo + k < (arrOf st'').size := by rw [hB'.size]; exact hk
      have hlo' : ∀ i, lo ≤ i → i < lo + l → K (arrOf st'') i ≤ K (arrOf st'') (lo + k) := fun i h1 h2 => by
        have := hlo (i - lo) (by omega)
        rwa [show lo + (i - lo) = i by omega] at this
      have hhi' : ∀ i, lo + l ≤ i → i < lo + k → K (arrOf st'') (lo + k) < K (arrOf st'') i := fun i h1 h2 => by
        have := hhi (i - lo) (by omega) (by omega)
        rwa [show lo + (i - lo) = i by omega] at this
      refine wpS_bind (wpS_modify (wpS_pure ⟨rfl, hB'.setArr (bubble_perm _ _ _), ?_, ?_⟩))
      · rw [show min (k + 1) n = k + 1 by omega]
        intro i j hi hij hj
        show K (bubble (arrOf st'') (lo + k) (lo + k - (lo + l))) i ≤ K (bubble (arrOf st'') (lo + k) (lo + k - (lo + l))) j
        rw [K_bubble hks (by omega), K_bubble hks (by omega), show lo + k - (lo + k - (lo + l)) = lo + l by omega]
        repeat' split
        all_goals first
          | (exfalso; omega)
          | exact Int.le_refl _
          | exact hlo' _ (by omega) (by omega)
          | exact Int.le_of_lt (hhi' _ (by omega) (by omega))
          | exact hs' _ _ (by omega) (by omega) (by omega)
      · intro i hi
        show K (bubble (arrOf st'') (lo + k) (lo + k - (lo + l))) i = _
        rw [K_bubble hks (by omega), if_neg (by omega), if_neg (by omega)]
        exact hf i hi
abbrev AscS := Option (Option Nat) × Nat
abbrev DescS := Option (Option Nat) × Nat × Nat
noncomputable def asc2 (lo a nrem : Nat) : StateT SortSt Sem AscS :=
  forIn [a:nrem] ((none, a) : AscS) fun _ c => do
    let x ← ltAt' (lo + c.snd) (lo + c.snd - 1)
    match x with
    | some smaller => if smaller = true then pure (ForInStep.done (none, c.snd)) else pure (ForInStep.yield (none, c.snd + 1))
    | _ => pure (ForInStep.done (some none, c.snd))
noncomputable def last2 (lo n nrem : Nat) : StateT SortSt Sem (Option Nat) := do
  reverseSlice' lo (lo + n)
  let c ← asc2 lo n nrem
  match c.fst with
  | some r => pure r
  | none => pure (some c.snd)
noncomputable def desc2 (lo n nrem : Nat) : StateT SortSt Sem DescS :=
  forIn [n:nrem] ((none, n, 0) : DescS) fun _ c => do
    let x ← ltAt' (lo + c.snd.fst) (lo + c.snd.fst - 1)
    match x with
    | some smaller =>
      if smaller = true then
        if c.snd.snd > 0 then do
          reverseSlice' (lo + c.snd.fst - (c.snd.snd + 1)) (lo + c.snd.fst)
          pure (ForInStep.yield (none, c.snd.fst + 1, 0))
        else pure (ForInStep.yield (none, c.snd.fst + 1, 0))
      else do
        let x ← ltAt' (lo + c.snd.fst - 1) (lo + c.snd.fst)
        match x with
        | some larger =>
          if larger = true then pure (ForInStep.done (none, c.snd.fst, c.snd.snd))
          else pure (ForInStep.yield (none, c.snd.fst + 1, c.snd.snd + 1))
        | _ => pure (ForInStep.done (some none, c.snd.fst, c.snd.snd))
    | _ => pure (ForInStep.done (some none, c.snd.fst, c.snd.snd))
noncomputable def fall2 (lo n nrem : Nat) : StateT SortSt Sem (Option Nat) := do
  liftM (rule "list.sort.descending-run")
  let c ← desc2 lo (n + 1) nrem
  match c.fst with
  | some r => pure r
  | none =>
    if c.snd.snd > 0 then do
      reverseSlice' (lo + c.snd.fst - (c.snd.snd + 1)) (lo + c.snd.fst)
      last2 lo c.snd.fst nrem
    else last2 lo c.snd.fst nrem
theorem count2_eq (lo nrem : Nat) : countRun' lo nrem = (do
    let c ← asc2 lo 1 nrem
    match c.fst with
    | some r => pure r
    | none =>
      if (c.snd == nrem) = true then pure (some c.snd)
      else if c.snd > 1 then do
        let x ← ltAt' lo (lo + c.snd - 1)
        match x with
        | some rose => if rose = true then pure (some c.snd) else do
            reverseSlice' lo (lo + c.snd)
            fall2 lo c.snd nrem
        | _ => pure none
      else fall2 lo c.snd nrem) := by
  rw [countRun'_eq]
  unfold fall2 last2 desc2 asc2
  dsimp only
  congr 1
  funext c
  obtain ⟨r, n⟩ := c
  cases r with
  | some r => rfl
  | none =>
    dsimp only
    split
    · rfl
    · split
      · congr 1
        funext x
        cases x with
        | none => rfl
        | some rose =>
          dsimp only
          split
          · rfl
          · congr 1
            funext _r
            congr 1; funext _u; congr 1; congr 1; funext s2; obtain ⟨r2, n2, q2⟩ := s2
            cases r2 with
            | some r2 => rfl
            | none =>
              dsimp only
              split
              · congr 1; funext _v; congr 1; funext _w; congr 1; funext s3; obtain ⟨r3, n3⟩ := s3; cases r3 <;> rfl
              · congr 1; funext _w; congr 1; funext s3; obtain ⟨r3, n3⟩ := s3; cases r3 <;> rfl
      · congr 1; funext _u; congr 1; congr 1; funext s2; obtain ⟨r2, n2, q2⟩ := s2
        cases r2 with
        | some r2 => rfl
        | none =>
          dsimp only
          split
          · congr 1; funext _v; congr 1; funext _w; congr 1; funext s3; obtain ⟨r3, n3⟩ := s3; cases r3 <;> rfl
          · congr 1; funext _w; congr 1; funext s3; obtain ⟨r3, n3⟩ := s3; cases r3 <;> rfl
theorem wpS_asc2 {st : SortSt} {lo a nrem : Nat} {Q : AscS → SortSt → Prop} (h0 : IntKeys a₀) (hn : lo + nrem ≤ a₀.size) (ha : 1 ≤ a) (han : a ≤ nrem) (hB : SB a₀ p st)
    (hs : SortedIn (arrOf st) lo (lo + a))
    (h : ∀ n, a ≤ n → n ≤ nrem → SortedIn (arrOf st) lo (lo + n) → (n = nrem ∨ K (arrOf st) (lo + n) < K (arrOf st) (lo + n - 1)) → Q (none, n) st) :
    wpS (model prog w) A E s (asc2 lo a nrem) Q st := by
  unfold asc2
  refine wpS_forRange (I := fun x c st' => st' = st ∧ c = (none, x) ∧ SortedIn (arrOf st) lo (lo + x)) ?step ?fin ⟨rfl, rfl, hs⟩
  case fin =>
    rintro c st' ⟨rfl, rfl, hs'⟩
    rw [show max a nrem = nrem by omega] at hs' ⊢
    exact h nrem han (Nat.le_refl _) hs' (.inl rfl)
  case step =>
    rintro x c st' hax hxn ⟨rfl, rfl, hs'⟩
    dsimp only
    refine wpS_bind (wpS_lt2 hB h0 (by omega) (by omega) ?_)
    by_cases hless : K (arrOf st') (lo + x) < K (arrOf st') (lo + x - 1)
    · simp only [hless, decide_true, if_true]
      exact wpS_pure (h x hax (by omega) hs' (.inr hless))
    · simp only [hless, decide_false, Bool.false_eq_true, if_false]
      refine wpS_pure ⟨rfl, rfl, fun i j hi hij hj => ?_⟩
      by_cases hjx : j < lo + x
      · exact hs' i j hi hij hjx
      · have hj' : j = lo + x := by omega
        subst hj'
        by_cases hi' : i = lo + x
        · subst hi'; exact Int.le_refl _
        · exact Int.le_trans (hs' i (lo + x - 1) hi (by omega) (by omega)) (Int.not_lt.mp hless)
theorem wpS_last2 {st : SortSt} {lo n nrem : Nat} {Q : Option Nat → SortSt → Prop} (h0 : IntKeys a₀) (hn : lo + nrem ≤ a₀.size) (h1 : 1 ≤ n) (hnn : n ≤ nrem) (hB : SB a₀ p st)
    (hs : FallIn (arrOf st) lo (lo + n)) (h : ∀ m st', SB a₀ p st' → 1 ≤ m → m ≤ nrem → SortedIn (arrOf st') lo (lo + m) → SameTo (arrOf st') (arrOf st) lo → Q (some m) st') :
    wpS (model prog w) A E s (last2 lo n nrem) Q st := by
  unfold last2
  have hsz : lo + n ≤ (arrOf st).size := by rw [hB.size]; omega
  refine wpS_bind (wpS_reverse ?_)
  have hB' : SB a₀ p (setArr st (mirror (arrOf st) lo (lo + n) ((lo + n - lo) / 2))) := hB.setArr (mirror_perm _ _ _ _)
  refine wpS_bind (wpS_asc2 h0 hn h1 hnn hB' ?_ fun m hm1 hm2 hsm _ => wpS_pure (h m _ hB' (by omega) hm2 hsm ?_))
  · intro i j hi hij hj
    show K (mirror (arrOf st) lo (lo + n) ((lo + n - lo) / 2)) i ≤ K (mirror (arrOf st) lo (lo + n) ((lo + n - lo) / 2)) j
    rw [K_mirror hsz, K_mirror hsz, if_pos (by omega), if_pos (by omega)]
    exact hs _ _ (by omega) (by omega) (by omega)
  · intro i hi
    show K (mirror (arrOf st) lo (lo + n) ((lo + n - lo) / 2)) i = _
    rw [K_mirror hsz, if_neg (by omega)]
theorem same_mirror {xs : Array Keyed} {lo i j : Nat} (hj : j ≤ xs.size) (hi : lo ≤ i) : SameTo (mirror xs i j ((j - i) / 2)) xs lo := fun k hk => by
  rw [K_mirror hj, if_neg (by omega)]
theorem SameTo.trans {xs ys zs : Array Keyed} {lo : Nat} (h : SameTo xs ys lo) (k : SameTo ys zs lo) : SameTo xs zs lo := fun i hi => (h i hi).trans (k i hi)
theorem wpS_desc2 {st : SortSt} {lo n nrem : Nat} {Q : DescS → SortSt → Prop} (h0 : IntKeys a₀) (hn : lo + nrem ≤ a₀.size) (h1 : 1 ≤ n) (hnn : n ≤ nrem) (hB : SB a₀ p st)
    (hs : FallIn (arrOf st) lo (lo + n))
    (h : ∀ m neq st', SB a₀ p st' → n ≤ m → m ≤ nrem → FallIn (arrOf st') lo (lo + m) → neq + 1 ≤ m → (∀ i, lo + m - (neq + 1) ≤ i → i < lo + m → K (arrOf st') i = K (arrOf st') (lo + m - 1)) → SameTo (arrOf st') (arrOf st) lo → Q (none, m, neq) st') :
    wpS (model prog w) A E s (desc2 lo n nrem) Q st := by
  unfold desc2
  refine wpS_forRange (I := fun x c st' => ∃ neq, c = (none, x, neq) ∧ SB a₀ p st' ∧ FallIn (arrOf st') lo (lo + x) ∧ neq + 1 ≤ x ∧
      (∀ i, lo + x - (neq + 1) ≤ i → i < lo + x → K (arrOf st') i = K (arrOf st') (lo + x - 1)) ∧ SameTo (arrOf st') (arrOf st) lo) ?step ?fin ⟨0, rfl, hB, hs, by omega, fun i h1 h2 => by congr 1; omega, fun _ _ => rfl⟩
  case fin =>
    rintro c st' ⟨neq, rfl, hB', hs', hq, he, hf⟩
    rw [show max n nrem = nrem by omega] at hs' hq he ⊢
    exact h nrem neq st' hB' hnn (Nat.le_refl _) hs' hq he hf
  case step =>
    rintro x c st' hax hxn ⟨neq, rfl, hB', hs', hq, he, hf⟩
    dsimp only
    have hsz : lo + x ≤ (arrOf st').size := by rw [hB'.size]; omega
    refine wpS_bind (wpS_lt2 hB' h0 (by omega) (by omega) ?_)
    by_cases hless : K (arrOf st') (lo + x) < K (arrOf st') (lo + x - 1)
    · simp only [hless, decide_true, if_true]
      have step1 : ∀ xs : Array Keyed, (∀ k, K xs k = K (arrOf st') k) → FallIn xs lo (lo + (x + 1)) := by
        intro xs hk i j hi hij hj
        rw [hk, hk]
        by_cases hjx : j < lo + x
        · exact hs' i j hi hij hjx
        · have hj' : j = lo + x := by omega
          subst hj'
          by_cases hi' : i = lo + x
          · subst hi'; exact Int.le_refl _
          · exact Int.le_trans (Int.le_of_lt hless) (hs' i (lo + x - 1) hi (by omega) (by omega))
      by_cases hneq : neq > 0
      · rw [if_pos hneq]
        exact wpS_bind (wpS_reverse (wpS_pure ⟨0, rfl, hB'.setArr (mirror_perm _ _ _ _), step1 _ (K_mirror_equal hsz he), by omega, fun i h1 h2 => by congr 1; omega, (same_mirror hsz (by omega)).trans hf⟩))
      · rw [if_neg hneq]
        exact wpS_pure ⟨0, rfl, hB', step1 _ (fun _ => rfl), by omega, fun i h1 h2 => by congr 1; omega, hf⟩
    · simp only [hless, decide_false, Bool.false_eq_true, if_false]
      refine wpS_bind (wpS_lt2 hB' h0 (by omega) (by omega) ?_)
      by_cases hlarger : K (arrOf st') (lo + x - 1) < K (arrOf st') (lo + x)
      · simp only [hlarger, decide_true, if_true]
        exact wpS_pure (h x neq st' hB' hax (by omega) hs' hq he hf)
      · simp only [hlarger, decide_false, Bool.false_eq_true, if_false]
        have heqx : K (arrOf st') (lo + x) = K (arrOf st') (lo + x - 1) := by omega
        refine wpS_pure ⟨neq + 1, rfl, hB', fun i j hi hij hj => ?_, by omega, fun i h1 h2 => ?_, hf⟩
        · by_cases hjx : j < lo + x
          · exact hs' i j hi hij hjx
          · have hj' : j = lo + x := by omega
            subst hj'
            by_cases hi' : i = lo + x
            · subst hi'; exact Int.le_refl _
            · rw [heqx]; exact hs' i (lo + x - 1) hi (by omega) (by omega)
        · rw [show lo + (x + 1) - 1 = lo + x by omega]
          by_cases hix : i = lo + x
          · subst hix; rfl
          · rw [heqx]; exact he i (by omega) (by omega)
theorem wpS_fall2 {st : SortSt} {lo n nrem : Nat} {Q : Option Nat → SortSt → Prop} (h0 : IntKeys a₀) (hn : lo + nrem ≤ a₀.size) (hnn : n + 1 ≤ nrem) (hB : SB a₀ p st)
    (hs : FallIn (arrOf st) lo (lo + (n + 1))) (h : ∀ m st', SB a₀ p st' → 1 ≤ m → m ≤ nrem → SortedIn (arrOf st') lo (lo + m) → SameTo (arrOf st') (arrOf st) lo → Q (some m) st') :
    wpS (model prog w) A E s (fall2 lo n nrem) Q st := by
  unfold fall2
  refine wpS_bind (wpS_lift (wpAny_rule ⟨rfl, ?_⟩))
  refine wpS_bind (wpS_desc2 h0 hn (by omega) hnn hB hs fun m neq st' hB' hm1 hm2 hs' hq he hf => ?_)
  dsimp only
  have hsz : lo + m ≤ (arrOf st').size := by rw [hB'.size]; omega
  by_cases hneq : neq > 0
  · rw [if_pos hneq]
    refine wpS_bind (wpS_reverse (wpS_last2 h0 hn (by omega) hm2 (hB'.setArr (mirror_perm _ _ _ _)) ?_ fun m' st2 b1 b2 b3 b4 b5 => h m' st2 b1 b2 b3 b4 (b5.trans ((same_mirror hsz (by omega)).trans hf))))
    intro i j hi hij hj
    show K (mirror (arrOf st') _ _ _) j ≤ K (mirror (arrOf st') _ _ _) i
    rw [K_mirror_equal hsz he, K_mirror_equal hsz he]
    exact hs' i j hi hij hj
  · rw [if_neg hneq]
    exact wpS_last2 h0 hn (by omega) hm2 hB' hs' fun m' st2 b1 b2 b3 b4 b5 => h m' st2 b1 b2 b3 b4 (b5.trans hf)
theorem wpS_count2 {st : SortSt} {lo nrem : Nat} {Q : Option Nat → SortSt → Prop} (h0 : IntKeys a₀) (hn : lo + nrem ≤ a₀.size) (h1 : 1 ≤ nrem) (hB : SB a₀ p st)
    (h : ∀ m st', SB a₀ p st' → 1 ≤ m → m ≤ nrem → SortedIn (arrOf st') lo (lo + m) → SameTo (arrOf st') (arrOf st) lo → Q (some m) st') :
    wpS (model prog w) A E s (countRun' lo nrem) Q st := by
  rw [count2_eq]
  refine wpS_bind (wpS_asc2 h0 hn (Nat.le_refl 1) h1 hB (fun i j hi hij hj => by have : i = j := by omega
                                                                                 subst this; exact Int.le_refl _) fun n hn1 hn2 hsn hor => ?_)
  dsimp only
  by_cases hnn : n = nrem
  · rw [if_pos (by simpa using hnn)]
    exact wpS_pure (h n st hB hn1 hn2 hsn fun _ _ => rfl)
  · rw [if_neg (by simpa using hnn)]
    have hlt : K (arrOf st) (lo + n) < K (arrOf st) (lo + n - 1) := hor.resolve_left hnn
    by_cases hgt : n > 1
    · rw [if_pos hgt]
      refine wpS_bind (wpS_lt2 hB h0 (by omega) (by omega) ?_)
      by_cases hrose : K (arrOf st) lo < K (arrOf st) (lo + n - 1)
      · simp only [hrose, decide_true, if_true]
        exact wpS_pure (h n st hB hn1 hn2 hsn fun _ _ => rfl)
      · simp only [hrose, decide_false, Bool.false_eq_true, if_false]
        have hsz : lo + n ≤ (arrOf st).size := by rw [hB.size]; omega
        have hall : ∀ k, lo ≤ k → k < lo + n → K (arrOf st) k = K (arrOf st) (lo + n - 1) := by
          intro k hk0 hk
          have a1 := hsn lo k (by omega) hk0 hk
          have a2 := hsn k (lo + n - 1) hk0 (by omega) (by omega)
          omega
        refine wpS_bind (wpS_reverse (wpS_fall2 h0 hn (by omega) (hB.setArr (mirror_perm _ _ _ _)) ?_ fun m' st2 b1 b2 b3 b4 b5 => h m' st2 b1 b2 b3 b4 (b5.trans (same_mirror hsz (Nat.le_refl _)))))
        intro i j hi hij hj
        show K (mirror (arrOf st) _ _ _) j ≤ K (mirror (arrOf st) _ _ _) i
        rw [K_mirror_equal hsz hall, K_mirror_equal hsz hall]
        by_cases hjn : j < lo + n
        · rw [hall i hi (by omega), hall j (by omega) hjn]; exact Int.le_refl _
        · have hj' : j = lo + n := by omega
          subst hj'
          by_cases hi' : i = lo + n
          · subst hi'; exact Int.le_refl _
          · rw [hall i hi (by omega)]; exact Int.le_of_lt hlt
    · rw [if_neg hgt]
      have hn1' : n = 1 := by omega
      subst hn1'
      refine wpS_fall2 h0 hn (by omega) hB ?_ h
      intro i j hi hij hj
      by_cases hi' : i = j
      · subst hi'; exact Int.le_refl _
      · have hi0 : i = lo := by omega
        have hj1 : j = lo + 1 := by omega
        rw [hi0, hj1]
        rw [show lo + 1 - 1 = lo by omega] at hlt
        exact Int.le_of_lt hlt
end
end Mine
namespace Mine
open PySem PyProof.Rows
noncomputable def kx (p : Keyed) : Int := numOf p.1
noncomputable def IsK (p : Keyed) : Prop := ∃ n t, p.1 = .int n t
abbrev gal (st : SortSt) (g : Nat) : SortSt := SortSt.mk' (kindOf st) (arrOf st) (pendingOf st) g (failedOf st)
section
variable {prog : Program} {w : World} {A : Around} {E : Value → Shared → Prop} {s : Shared}
theorem wpS_elem {st : SortSt} {arr : Array Keyed} {i : Nat} (hi : i < arr.size) {Q : Keyed → SortSt → Prop} (h : Q arr[i] st) : wpS (model prog w) A E s (elem' arr i) Q st := by
  rw [elem'_eq, getElem?_pos arr i hi]
  exact wpS_pure h
theorem wpS_ltX {st : SortSt} {x y : Keyed} {Q : Option Bool → SortSt → Prop} (hk : kindOf st = oneType') (hx : IsK x) (hy : IsK y) (h : Q (some (decide (kx x < kx y))) st) : wpS (model prog w) A E s (lt' x y) Q st := by
  obtain ⟨x1, x2⟩ := x
  obtain ⟨y1, y2⟩ := y
  obtain ⟨a, t, e1⟩ := hx
  obtain ⟨b, u, e2⟩ := hy
  dsimp only at e1 e2
  subst e1 e2
  rw [lt'_eq]
  refine wpS_bind (wpS_get ?_)
  rw [hk, keyLt'_oneType]
  refine wpS_bind (wpS_lift (wpAny_attempt (oneLt_int ⟨rfl, ?_⟩)))
  exact wpS_pure h
noncomputable def gallop' : Bool → Keyed → Array Keyed → Nat → Nat → Nat → StateT SortSt Sem (Option Nat) := sortPriv% PySem.Builtin.gallop
noncomputable def beyond' (left : Bool) (key : Keyed) (arr : Array Keyed) (base i : Nat) : StateT SortSt Sem (Option Bool) := do
    let x ← elem' arr (base + i)
    if left then lt' x key else return (← lt' key x).map (!·)
theorem gallop'_eq (left : Bool) (key : Keyed) (arr : Array Keyed) (base n hint : Nat) : gallop' left key arr base n hint = (do
  let mut lastofs := 0
  let mut ofs := 1
  let mut lo := 0
  let mut hi := 0
  let some right ← beyond' left key arr base hint | return none
  if right then
    let maxofs := n - hint
    for _ in [0:n] do
      if ofs ≥ maxofs then break
      let some more ← beyond' left key arr base (hint + ofs) | return none
      if !more then break
      lastofs := ofs
      ofs := 2 * ofs + 1
    lo := hint + lastofs + 1
    hi := hint + min ofs maxofs
  else
    let maxofs := hint + 1
    for _ in [0:n] do
      if ofs ≥ maxofs then break
      let some found ← beyond' left key arr base (hint - ofs) | return none
      if found then break
      lastofs := ofs
      ofs := 2 * ofs + 1
    lo := hint + 1 - min ofs maxofs
    hi := hint - lastofs
  for _ in [0:n] do
    if lo ≥ hi then break
    let m := lo + (hi - lo) / 2
    let some more ← beyond' left key arr base m | return none
    if more then lo := m + 1 else hi := m
  return some hi) := rfl
noncomputable def bey (left : Bool) (key : Keyed) (arr : Array Keyed) (base i : Nat) : Bool := match arr[base + i]? with
  | some x => if left then decide (kx x < kx key) else !decide (kx key < kx x)
  | none => false
theorem wpS_bey {st : SortSt} {left : Bool} {key : Keyed} {arr : Array Keyed} {base i : Nat} {Q : Option Bool → SortSt → Prop} (hk : kindOf st = oneType') (hK : IsK key) (hA : ∀ x ∈ arr.toList, IsK x) (hi : base + i < arr.size)
    (h : Q (some (bey left key arr base i)) st) : wpS (model prog w) A E s (beyond' left key arr base i) Q st := by
  unfold beyond'
  have hx : IsK arr[base + i] := hA _ (by simp)
  refine wpS_bind (wpS_elem hi ?_)
  unfold bey at h
  rw [getElem?_pos arr (base + i) hi] at h
  dsimp only at h
  cases left with
  | true =>
    simp only [if_true] at h ⊢
    exact wpS_ltX hk hx hK h
  | false =>
    simp only [Bool.false_eq_true, if_false] at h ⊢
    exact wpS_bind (wpS_ltX hk hK hx (wpS_pure h))
theorem mid_bd2 {l r : Nat} (h : l < r) : l ≤ l + (r - l) / 2 ∧ l + (r - l) / 2 < r := by omega
theorem mid_r {lo hi md n x : Nat} (h1 : lo ≤ md) (hx : x < n) (a : hi - lo ≤ n - x) (h2 : md < hi) : hi - (md + 1) ≤ n - (x + 1) := by omega
theorem mid_l {lo hi md n x : Nat} (h1 : lo ≤ md) (hx : x < n) (a : hi - lo ≤ n - x) (h2 : md < hi) : md - lo ≤ n - (x + 1) := by omega
theorem wpS_gallop {st : SortSt} {left : Bool} {key : Keyed} {arr : Array Keyed} {base n hint : Nat} {Q : Option Nat → SortSt → Prop} (hk : kindOf st = oneType') (hK : IsK key) (hA : ∀ x ∈ arr.toList, IsK x) (hn : base + n ≤ arr.size) (hh : hint < n)
    (hm : ∀ i j, i ≤ j → j < n → bey left key arr base j = true → bey left key arr base i = true)
    (h : ∀ k, k ≤ n → (∀ i, i < k → bey left key arr base i = true) → (∀ i, k ≤ i → i < n → bey left key arr base i = false) → Q (some k) st) :
    wpS (model prog w) A E s (gallop' left key arr base n hint) Q st := by
  have hmf : ∀ i j, i ≤ j → j < n → bey left key arr base i = false → bey left key arr base j = false := fun i j hij hj hf => by
    cases hc : bey left key arr base j with
    | false => rfl
    | true => rw [hm i j hij hj hc] at hf; cases hf
  rw [gallop'_eq]
  dsimp only
  refine wpS_bind (wpS_bey hk hK hA (by omega) ?_)
  cases hb : bey left key arr base hint with
  | true =>
    dsimp only
    rw [if_pos rfl]
    refine wpS_bind (wpS_mono (wpS_forRange (I := fun x c st' => st' = st ∧ ∃ l o, c = (none, l, o) ∧ l < o ∧ hint + l < n ∧ x + 1 ≤ o ∧ bey left key arr base (hint + l) = true)
      (Q := fun c st' => st' = st ∧ ∃ l o, c = (none, l, o) ∧ l < o ∧ hint + l < n ∧ bey left key arr base (hint + l) = true ∧ (n - hint ≤ o ∨ bey left key arr base (hint + o) = false)) ?step ?fin ⟨rfl, 0, 1, rfl, by omega, by omega, by omega, hb⟩) ?post)
    case fin =>
      rintro c st' ⟨rfl, l, o, rfl, a1, a2, a3, a4⟩
      exact ⟨rfl, l, o, rfl, a1, a2, a4, .inl (by omega)⟩
    case step =>
      rintro x c st' _ hx ⟨rfl, l, o, rfl, a1, a2, a3, a4⟩
      dsimp only
      by_cases hge : o ≥ n - hint
      · rw [if_pos hge]
        exact wpS_pure ⟨rfl, l, o, rfl, a1, a2, a4, .inl hge⟩
      · rw [if_neg hge]
        refine wpS_bind (wpS_bey hk hK hA (by omega) ?_)
        cases hc : bey left key arr base (hint + o) with
        | false =>
          simp only [Bool.not_false, if_true]
          exact wpS_pure ⟨rfl, l, o, rfl, a1, a2, a4, .inr hc⟩
        | true =>
          simp only [Bool.not_true, Bool.false_eq_true, if_false]
          exact wpS_pure ⟨rfl, o, 2 * o + 1, rfl, by omega, by omega, by omega, hc⟩
    case post =>
      rintro c st0 ⟨e0, l, o, rfl, a1, a2, a4, a5⟩
      subst e0
      dsimp only
      refine wpS_bind (wpS_mono (wpS_forRange (I := fun x c st' => st' = st0 ∧ ∃ lo hi, c = (none, lo, hi) ∧ lo ≤ hi ∧ hi ≤ n ∧ hi - lo ≤ n - x ∧ (∀ i, i < lo → bey left key arr base i = true) ∧ (∀ i, hi ≤ i → i < n → bey left key arr base i = false))
        (Q := fun c st' => st' = st0 ∧ ∃ k, c = (none, k, k) ∧ k ≤ n ∧ (∀ i, i < k → bey left key arr base i = true) ∧ (∀ i, k ≤ i → i < n → bey left key arr base i = false)) ?step2 ?fin2 ⟨rfl, _, _, rfl, by omega, by omega, by omega, ?ini1, ?ini2⟩) ?post2)
      case ini1 => exact fun i hi => hm i _ (by omega) a2 a4
      case ini2 => 
        intro i h1 h2
        rcases a5 with h3 | h3
        · omega
        · by_cases h4 : n - hint ≤ o
          · omega
          · exact hmf _ i (by omega) h2 h3
      case fin2 =>
        rintro c st' ⟨rfl, lo, hi, rfl, a1, a2, a3, a4, a5⟩
        have : lo = hi := by omega
        subst this
        exact ⟨rfl, lo, rfl, a2, a4, a5⟩
      case step2 =>
        rintro x c st' _ hx ⟨rfl, lo, hi, rfl, a1, a2, a3, a4, a5⟩
        dsimp only
        by_cases hge : lo ≥ hi
        · rw [if_pos hge]
          have : lo = hi := by omega
          subst this
          exact wpS_pure ⟨rfl, lo, rfl, a2, a4, a5⟩
        · rw [if_neg hge]
          obtain ⟨hm1, hm2⟩ := mid_bd2 (Nat.lt_of_not_le hge)
          generalize lo + (hi - lo) / 2 = md at hm1 hm2 ⊢
          have hm3 := Nat.lt_of_lt_of_le hm2 a2
          refine wpS_bind (wpS_bey hk hK hA (Nat.lt_of_lt_of_le (Nat.add_lt_add_left hm3 base) hn) ?_)
          cases hb : bey left key arr base md with
          | true =>
            simp only [if_true]
            exact wpS_pure ⟨rfl, _, hi, rfl, hm2, a2, mid_r hm1 hx a3 hm2, fun i hi' => hm i _ (Nat.le_of_lt_succ hi') hm3 hb, a5⟩
          | false =>
            simp only [Bool.false_eq_true, if_false]
            exact wpS_pure ⟨rfl, lo, _, rfl, hm1, Nat.le_of_lt hm3, mid_l hm1 hx a3 hm2, a4, fun i h3 h4 => hmf _ i h3 h4 hb⟩
      case post2 =>
        rintro c st' ⟨e1, k, rfl, b1, b2, b3⟩
        subst e1
        exact wpS_pure (h k b1 b2 b3)
  | false =>
    dsimp only
    rw [if_neg (by decide)]
    refine wpS_bind (wpS_mono (wpS_forRange (I := fun x c st' => st' = st ∧ ∃ l o, c = (none, l, o) ∧ l < o ∧ l ≤ hint ∧ x + 1 ≤ o ∧ bey left key arr base (hint - l) = false)
      (Q := fun c st' => st' = st ∧ ∃ l o, c = (none, l, o) ∧ l < o ∧ l ≤ hint ∧ bey left key arr base (hint - l) = false ∧ (hint + 1 ≤ o ∨ bey left key arr base (hint - o) = true)) ?step ?fin ⟨rfl, 0, 1, rfl, by omega, by omega, by omega, hb⟩) ?post)
    case fin =>
      rintro c st' ⟨rfl, l, o, rfl, a1, a2, a3, a4⟩
      exact ⟨rfl, l, o, rfl, a1, a2, a4, .inl (by omega)⟩
    case step =>
      rintro x c st' _ hx ⟨rfl, l, o, rfl, a1, a2, a3, a4⟩
      dsimp only
      by_cases hge : o ≥ hint + 1
      · rw [if_pos hge]
        exact wpS_pure ⟨rfl, l, o, rfl, a1, a2, a4, .inl hge⟩
      · rw [if_neg hge]
        refine wpS_bind (wpS_bey hk hK hA (by omega) ?_)
        cases hc : bey left key arr base (hint - o) with
        | true =>
          simp only [if_true]
          exact wpS_pure ⟨rfl, l, o, rfl, a1, a2, a4, .inr hc⟩
        | false =>
          simp only [Bool.false_eq_true, if_false]
          exact wpS_pure ⟨rfl, o, 2 * o + 1, rfl, by omega, by omega, by omega, hc⟩
    case post =>
      rintro c st0 ⟨e0, l, o, rfl, a1, a2, a4, a5⟩
      subst e0
      dsimp only
      refine wpS_bind (wpS_mono (wpS_forRange (I := fun x c st' => st' = st0 ∧ ∃ lo hi, c = (none, lo, hi) ∧ lo ≤ hi ∧ hi ≤ n ∧ hi - lo ≤ n - x ∧ (∀ i, i < lo → bey left key arr base i = true) ∧ (∀ i, hi ≤ i → i < n → bey left key arr base i = false))
        (Q := fun c st' => st' = st0 ∧ ∃ k, c = (none, k, k) ∧ k ≤ n ∧ (∀ i, i < k → bey left key arr base i = true) ∧ (∀ i, k ≤ i → i < n → bey left key arr base i = false)) ?step2 ?fin2 ⟨rfl, _, _, rfl, by omega, by omega, by omega, ?ini1, ?ini2⟩) ?post2)
      case ini1 => 
        intro i hi
        rcases a5 with h3 | h3
        · omega
        · by_cases h4 : hint + 1 ≤ o
          · omega
          · exact hm i _ (by omega) (by omega) h3
      case ini2 => exact fun i h1 h2 => hmf _ i h1 h2 a4
      case fin2 =>
        rintro c st' ⟨rfl, lo, hi, rfl, a1, a2, a3, a4, a5⟩
        have : lo = hi := by omega
        subst this
        exact ⟨rfl, lo, rfl, a2, a4, a5⟩
      case step2 =>
        rintro x c st' _ hx ⟨rfl, lo, hi, rfl, a1, a2, a3, a4, a5⟩
        dsimp only
        by_cases hge : lo ≥ hi
        · rw [if_pos hge]
          have : lo = hi := by omega
          subst this
          exact wpS_pure ⟨rfl, lo, rfl, a2, a4, a5⟩
        · rw [if_neg hge]
          obtain ⟨hm1, hm2⟩ := mid_bd2 (Nat.lt_of_not_le hge)
          generalize lo + (hi - lo) / 2 = md at hm1 hm2 ⊢
          have hm3 := Nat.lt_of_lt_of_le hm2 a2
          refine wpS_bind (wpS_bey hk hK hA (Nat.lt_of_lt_of_le (Nat.add_lt_add_left hm3 base) hn) ?_)
          cases hb : bey left key arr base md with
          | true =>
            simp only [if_true]
            exact wpS_pure ⟨rfl, _, hi, rfl, hm2, a2, mid_r hm1 hx a3 hm2, fun i hi' => hm i _ (Nat.le_of_lt_succ hi') hm3 hb, a5⟩
          | false =>
            simp only [Bool.false_eq_true, if_false]
            exact wpS_pure ⟨rfl, lo, _, rfl, hm1, Nat.le_of_lt hm3, mid_l hm1 hx a3 hm2, a4, fun i h3 h4 => hmf _ i h3 h4 hb⟩
      case post2 =>
        rintro c st' ⟨e1, k, rfl, b1, b2, b3⟩
        subst e1
        exact wpS_pure (h k b1 b2 b3)
end
end Mine
namespace Mine
open PySem PyProof.Rows
noncomputable def setMinGallop' : Nat → StateT SortSt Sem Unit := sortPriv% PySem.Builtin.setMinGallop
theorem setMinGallop'_eq (g : Nat) : setMinGallop' g = modify (fun st => gal st g) := rfl
section
variable {σ α : Type} {M : Model} {A : Around} {E : Value → Shared → Prop} {s : Shared} {Q : α → σ → Prop} {st : σ}
theorem wpS_if {c : Prop} {i : Decidable c} {t e : StateT σ Sem α} (h1 : c → wpS M A E s t Q st) (h2 : ¬ c → wpS M A E s e Q st) : wpS M A E s (if c then t else e) Q st := by
  by_cases h : c
  · rw [if_pos h]; exact h1 h
  · rw [if_neg h]; exact h2 h
theorem wpS_let {β : Type} {v : β} {f : β → StateT σ Sem α} (h : wpS M A E s (f v) Q st) : wpS M A E s (have x := v; f x) Q st := h
theorem wpS_ifG {F t : Nat → StateT σ Sem α} {c : Nat → Prop} {i : ∀ g, Decidable (c g)} (f : Nat → Nat) (k : ∀ g, wpS M A E s (F g) Q st) (ht : ∀ g, t g = F (f g)) : ∀ g, wpS M A E s (if c g then t g else F g) Q st := fun g => by
  by_cases h : c g
  · rw [if_pos h, ht]; exact k _
  · rw [if_neg h]; exact k g
theorem wpS_ifJ {β γ : Type} {F t : β → γ → StateT σ Sem α} {c : Prop} {i : Decidable c} (R R' : β → γ → Prop) (k : ∀ x y, R' x y → wpS M A E s (F x y) Q st) (hx : ∀ x y, R x y → ¬ c → R' x y)
    (ht : ∀ x y, R x y → c → (∀ x y, R' x y → wpS M A E s (F x y) Q st) → wpS M A E s (t x y) Q st) : ∀ x y, R x y → wpS M A E s (if c then t x y else F x y) Q st := fun x y r => by
  by_cases h : c
  · rw [if_pos h]; exact ht x y r h k
  · rw [if_neg h]; exact k x y (hx x y r h)
end
theorem wpS_setMin {M : Model} {A : Around} {E : Value → Shared → Prop} {s : Shared} {g : Nat} {Q : PUnit → SortSt → Prop} {st : SortSt} (h : Q ⟨⟩ (gal st g)) : wpS M A E s (setMinGallop' g) Q st := by
  rw [setMinGallop'_eq]
  exact wpS_modify h
theorem pred_lt {n m : Nat} (h : 0 < n) (k : n ≤ m) : n - 1 < m := by omega
theorem ne_of_beq {n m : Nat} (h : ¬ (n == m) = true) : n ≠ m := fun e => h (by simp [e])
theorem lt_pred2 {n : Nat} (h : 1 < n) (k : n - 1 ≠ 1) : 1 < n - 1 := by omega
theorem lt_two {n : Nat} (h : n ≠ 1) (k : n ≠ 0) : 1 < n := by omega
theorem eq_of_sub {k n : Nat} (h : k ≤ n) (z : ¬ n - k > 0) : k = n := by omega
end Mine
namespace Mine
open PySem PyProof.Rows
noncomputable def leK (p q : Keyed) : Prop := kx p ≤ kx q
noncomputable def SL (l : List Keyed) : Prop := l.Pairwise leK
structure MI (A B O : List Keyed) (ia ib : Nat) : Prop where
  la : ia ≤ A.length
  lb : ib ≤ B.length
  perm : O.Perm (A.take ia ++ B.take ib)
  sl : SL O
  oa : ∀ p ∈ O, ∀ q ∈ A.drop ia, leK p q
  ob : ∀ p ∈ O, ∀ q ∈ B.drop ib, leK p q
theorem drop_split {α : Type} (l : List α) (i k : Nat) : l.drop i = (l.drop i).take k ++ l.drop (i + k) := by
  rw [← List.drop_drop]; exact (List.take_append_drop k _).symm
theorem SL.split {l : List Keyed} (h : SL l) (i k : Nat) : SL ((l.drop i).take k) ∧ ∀ p ∈ (l.drop i).take k, ∀ q ∈ l.drop (i + k), leK p q := by
  have h1 : SL (l.drop i) := h.sublist (List.drop_sublist i l)
  rw [drop_split l i k] at h1
  have := List.pairwise_append.mp h1
  exact ⟨this.1, this.2.2⟩
theorem MI.a {A B O : List Keyed} {ia ib : Nat} (h : MI A B O ia ib) (hA : SL A) (k : Nat) (hk : ia + k ≤ A.length) (hc : ∀ p ∈ (A.drop ia).take k, ∀ q ∈ B.drop ib, leK p q) : MI A B (O ++ (A.drop ia).take k) (ia + k) ib where
  la := hk
  lb := h.lb
  perm := by
    rw [List.take_add]
    refine (h.perm.append_right _).trans ?_
    rw [List.append_assoc, List.append_assoc]
    exact List.Perm.append_left _ List.perm_append_comm
  sl := List.pairwise_append.mpr ⟨h.sl, (hA.split ia k).1, fun p hp q hq => h.oa p hp q (List.mem_of_mem_take hq)⟩
  oa := fun p hp q hq => by
    rcases List.mem_append.mp hp with hp | hp
    · exact h.oa p hp q (by rw [drop_split A ia k]; exact List.mem_append_right _ hq)
    · exact (hA.split ia k).2 p hp q hq
  ob := fun p hp q hq => by
    rcases List.mem_append.mp hp with hp | hp
    · exact h.ob p hp q hq
    · exact hc p hp q hq
theorem MI.b {A B O : List Keyed} {ia ib : Nat} (h : MI A B O ia ib) (hB : SL B) (k : Nat) (hk : ib + k ≤ B.length) (hc : ∀ p ∈ (B.drop ib).take k, ∀ q ∈ A.drop ia, leK p q) : MI A B (O ++ (B.drop ib).take k) ia (ib + k) where
  la := h.la
  lb := hk
  perm := by
    rw [List.take_add, ← List.append_assoc]
    exact h.perm.append_right _
  sl := List.pairwise_append.mpr ⟨h.sl, (hB.split ib k).1, fun p hp q hq => h.ob p hp q (List.mem_of_mem_take hq)⟩
  oa := fun p hp q hq => by
    rcases List.mem_append.mp hp with hp | hp
    · exact h.oa p hp q hq
    · exact hc p hp q hq
  ob := fun p hp q hq => by
    rcases List.mem_append.mp hp with hp | hp
    · exact h.ob p hp q (by rw [drop_split B ib k]; exact List.mem_append_right _ hq)
    · exact (hB.split ib k).2 p hp q hq
noncomputable def Merged (A B O : List Keyed) : Prop := O.Perm (A ++ B) ∧ SL O
theorem MI.full {A B O : List Keyed} (h : MI A B O A.length B.length) : Merged A B O := ⟨by have := h.perm; rwa [List.take_length, List.take_length] at this, h.sl⟩
theorem MI.endA {A B O : List Keyed} {ia : Nat} (h : MI A B O ia B.length) (hA : SL A) : Merged A B (O ++ A.drop ia) := by
  have h' := h.a hA (A.length - ia) (by have := h.la; omega) (fun p hp q hq => by rw [List.drop_length] at hq; cases hq)
  rw [show ia + (A.length - ia) = A.length by have := h.la; omega, List.take_of_length_le (by rw [List.length_drop]; omega)] at h'
  exact h'.full
theorem MI.endB {A B O : List Keyed} {ib : Nat} (h : MI A B O A.length ib) (hB : SL B) : Merged A B (O ++ B.drop ib) := by
  have h' := h.b hB (B.length - ib) (by have := h.lb; omega) (fun p hp q hq => by rw [List.drop_length] at hq; cases hq)
  rw [show ib + (B.length - ib) = B.length by have := h.lb; omega, List.take_of_length_le (by rw [List.length_drop]; omega)] at h'
  exact h'.full
theorem MI.endBA {A B O : List Keyed} {ia ib : Nat} (h : MI A B O ia ib) (hA : SL A) (hB : SL B) (hc : ∀ p ∈ B, ∀ q ∈ A.drop ia, leK p q) : Merged A B (O ++ B.drop ib ++ A.drop ia) := by
  have h' := h.b hB (B.length - ib) (by have := h.lb; omega) (fun p hp q hq => hc p (List.mem_of_mem_drop (List.mem_of_mem_take hp)) q hq)
  rw [show ib + (B.length - ib) = B.length by have := h.lb; omega, List.take_of_length_le (by rw [List.length_drop]; omega)] at h'
  exact h'.endA hA
theorem take_one {α : Type} (l : List α) (i : Nat) (h : i < l.length) : (l.drop i).take 1 = [l[i]] := by
  rw [List.drop_eq_getElem_cons h, List.take_succ_cons, List.take_zero]
theorem SL.rest {l : List Keyed} (h : SL l) {i : Nat} (hi : i < l.length) : ∀ q ∈ l.drop i, leK l[i] q := by
  intro q hq
  have h1 : SL (l.drop i) := h.sublist (List.drop_sublist i l)
  rw [List.drop_eq_getElem_cons hi] at h1 hq
  rcases List.mem_cons.mp hq with rfl | hq
  · exact Int.le_refl _
  · exact (List.pairwise_cons.mp h1).1 q hq
theorem SL.ahead {l : List Keyed} (h : SL l) {i : Nat} (hi : i < l.length) : ∀ q ∈ l.take (i + 1), leK q l[i] := by
  intro q hq
  have h1 : SL (l.take (i + 1)) := h.sublist (List.take_sublist _ l)
  rw [List.take_succ_eq_append_getElem hi] at h1 hq
  rcases List.mem_append.mp hq with hq | hq
  · exact (List.pairwise_append.mp h1).2.2 q hq _ (List.mem_singleton.mpr rfl)
  · rw [List.mem_singleton.mp hq]; exact Int.le_refl _
section
variable {prog : Program} {w : World} {A : Around} {E : Value → Shared → Prop} {s : Shared}
noncomputable def mergeLo' : Array Keyed → Array Keyed → StateT SortSt Sem (Array Keyed) := sortPriv% PySem.Builtin.mergeLo
theorem mergeLo'_eq (a b : Array Keyed) : mergeLo' a b = (do
  rule "list.sort.merge-lo"
  let total := a.size + b.size
  let done (out : Array Keyed) (ia ib : Nat) := out ++ a.extract ia a.size ++ b.extract ib b.size
  let lastOfA (out : Array Keyed) (ia ib : Nat) := out ++ b.extract ib b.size ++ a.extract ia a.size
  let mut out : Array Keyed := #[← elem' b 0]
  let mut ia := 0
  let mut ib := 1
  if ib == b.size then return done out ia ib
  if ia + 1 == a.size then return lastOfA out ia ib
  let mut minGallop := gallopOf (← get)
  for _ in [0:total] do
    let mut acount := 0
    let mut bcount := 0
    for _ in [0:total] do
      let some bWins ← lt' (← elem' b ib) (← elem' a ia) | return done out ia ib
      if bWins then
        out := out.push (← elem' b ib); ib := ib + 1; bcount := bcount + 1; acount := 0
        if ib == b.size then return done out ia ib
        if bcount ≥ minGallop then break
      else
        out := out.push (← elem' a ia); ia := ia + 1; acount := acount + 1; bcount := 0
        if ia + 1 == a.size then return lastOfA out ia ib
        if acount ≥ minGallop then break
    rule "list.sort.gallop"
    minGallop := minGallop + 1
    for _ in [0:total] do
      if minGallop > 1 then minGallop := minGallop - 1
      setMinGallop' minGallop
      let some k ← gallop' false (← elem' b ib) a ia (a.size - ia) 0 | return done out ia ib
      acount := k
      if k > 0 then
        out := out ++ a.extract ia (ia + k); ia := ia + k
        if ia + 1 == a.size then return lastOfA out ia ib
        if ia == a.size then return done out ia ib
      out := out.push (← elem' b ib); ib := ib + 1
      if ib == b.size then return done out ia ib
      let some k ← gallop' true (← elem' a ia) b ib (b.size - ib) 0 | return done out ia ib
      bcount := k
      if k > 0 then
        out := out ++ b.extract ib (ib + k); ib := ib + k
        if ib == b.size then return done out ia ib
      out := out.push (← elem' a ia); ia := ia + 1
      if ia + 1 == a.size then return lastOfA out ia ib
      if acount < 7 && bcount < 7 then break
    minGallop := minGallop + 1
    setMinGallop' minGallop
  unsupported "internal:list.sort.merge-bound") := rfl
theorem mem_drop {α : Type} {l : List α} {i : Nat} {p : α} (h : p ∈ l.drop i) : ∃ j, ∃ (hj : i + j < l.length), p = l[i + j] := by
  obtain ⟨j, hj, e⟩ := List.getElem_of_mem h
  rw [List.getElem_drop] at e
  rw [List.length_drop] at hj
  exact ⟨j, by omega, e.symm⟩
theorem mem_dropTake {α : Type} {l : List α} {i k : Nat} {p : α} (h : p ∈ (l.drop i).take k) : ∃ j, j < k ∧ ∃ (hj : i + j < l.length), p = l[i + j] := by
  obtain ⟨j, hj, e⟩ := List.getElem_of_mem h
  rw [List.getElem_take, List.getElem_drop] at e
  rw [List.length_take, List.length_drop] at hj
  exact ⟨j, by omega, by omega, e.symm⟩
theorem bey_f {key : Keyed} {arr : Array Keyed} {base i : Nat} (h : base + i < arr.toList.length) : bey false key arr base i = !decide (kx key < kx arr.toList[base + i]) := by
  unfold bey
  rw [getElem?_pos arr (base + i) (by simpa using h)]
  simp
theorem bey_t {key : Keyed} {arr : Array Keyed} {base i : Nat} (h : base + i < arr.toList.length) : bey true key arr base i = decide (kx arr.toList[base + i] < kx key) := by
  unfold bey
  rw [getElem?_pos arr (base + i) (by simpa using h)]
  simp
theorem SL.at {l : List Keyed} (h : SL l) {i j : Nat} (hij : i ≤ j) (hj : j < l.length) : leK l[i] l[j] := by
  by_cases e : i = j
  · subst e; exact Int.le_refl _
  · exact List.pairwise_iff_getElem.mp h i j (by omega) hj (by omega)
theorem mono_f {key : Keyed} {arr : Array Keyed} (hs : SL arr.toList) {base n : Nat} (hn : base + n ≤ arr.toList.length) : ∀ i j, i ≤ j → j < n → bey false key arr base j = true → bey false key arr base i = true := by
  intro i j hij hj h
  rw [bey_f (by omega)] at h ⊢
  have := hs.at (i := base + i) (j := base + j) (by omega) (by omega)
  simp only [leK, Bool.not_eq_true', decide_eq_false_iff_not] at *
  omega
theorem mono_t {key : Keyed} {arr : Array Keyed} (hs : SL arr.toList) {base n : Nat} (hn : base + n ≤ arr.toList.length) : ∀ i j, i ≤ j → j < n → bey true key arr base j = true → bey true key arr base i = true := by
  intro i j hij hj h
  rw [bey_t (by omega)] at h ⊢
  have := hs.at (i := base + i) (j := base + j) (by omega) (by omega)
  simp only [leK, decide_eq_true_eq] at *
  omega
theorem found_f {key : Keyed} {arr : Array Keyed} {base n k : Nat} (hn : base + n = arr.toList.length) (hk : k ≤ n) (h1 : ∀ i, i < k → bey false key arr base i = true) (h2 : ∀ i, k ≤ i → i < n → bey false key arr base i = false) :
    (∀ p ∈ (arr.toList.drop base).take k, kx p ≤ kx key) ∧ ∀ q ∈ arr.toList.drop (base + k), kx key < kx q := by
  refine ⟨fun p hp => ?_, fun q hq => ?_⟩
  · obtain ⟨j, hj, hl, rfl⟩ := mem_dropTake hp
    have := h1 j hj
    rw [bey_f hl] at this
    simpa using this
  · obtain ⟨j, hl, rfl⟩ := mem_drop hq
    have := h2 (k + j) (by omega) (by omega)
    rw [bey_f (by omega)] at this
    have e : base + (k + j) = base + k + j := by omega
    simp only [e] at this
    simpa using this
theorem found_t {key : Keyed} {arr : Array Keyed} {base n k : Nat} (hn : base + n = arr.toList.length) (hk : k ≤ n) (h1 : ∀ i, i < k → bey true key arr base i = true) (h2 : ∀ i, k ≤ i → i < n → bey true key arr base i = false) :
    (∀ p ∈ (arr.toList.drop base).take k, kx p < kx key) ∧ ∀ q ∈ arr.toList.drop (base + k), kx key ≤ kx q := by
  refine ⟨fun p hp => ?_, fun q hq => ?_⟩
  · obtain ⟨j, hj, hl, rfl⟩ := mem_dropTake hp
    have := h1 j hj
    rw [bey_t hl] at this
    simpa using this
  · obtain ⟨j, hl, rfl⟩ := mem_drop hq
    have := h2 (k + j) (by omega) (by omega)
    rw [bey_t (by omega)] at this
    have e : base + (k + j) = base + k + j := by omega
    simp only [e] at this
    simpa using this
theorem cut_list (a : Array Keyed) (i k : Nat) : (a.extract i (i + k)).toList = (a.toList.drop i).take k := by
  rw [Array.toList_extract, List.extract_eq_take_drop]; congr 1; omega
theorem cut_rest (a : Array Keyed) (i : Nat) : (a.extract i a.size).toList = a.toList.drop i := by
  rw [Array.toList_extract, List.extract_eq_take_drop, List.take_of_length_le]
  rw [List.length_drop, Array.length_toList]; omega
structure Half (a b out : Array Keyed) (ia ib : Nat) : Prop where
  mi : MI a.toList b.toList out.toList ia ib
  ra : ia + 1 < a.size
  rb : ib < b.size
abbrev Whole (a b r : Array Keyed) : Prop := Merged a.toList b.toList r.toList
theorem whole_b {a b out : Array Keyed} {ia ib : Nat} (sA : SL a.toList) (m : MI a.toList b.toList out.toList ia ib) (e : ib = b.size) : Whole a b (out ++ a.extract ia a.size ++ b.extract ib b.size) := by
  subst e
  show Merged _ _ _
  rw [Array.toList_append, Array.toList_append, cut_rest, cut_rest, show b.toList.drop b.size = [] by rw [← Array.length_toList]; exact List.drop_length, List.append_nil]
  exact (show MI a.toList b.toList out.toList ia b.toList.length by rw [Array.length_toList]; exact m).endA sA
theorem whole_a {a b out : Array Keyed} {ia ib : Nat} (sB : SL b.toList) (m : MI a.toList b.toList out.toList ia ib) (e : ia = a.size) : Whole a b (out ++ a.extract ia a.size ++ b.extract ib b.size) := by
  subst e
  show Merged _ _ _
  rw [Array.toList_append, Array.toList_append, cut_rest, cut_rest, show a.toList.drop a.size = [] by rw [← Array.length_toList]; exact List.drop_length, List.append_nil]
  exact (show MI a.toList b.toList out.toList a.toList.length ib by rw [Array.length_toList]; exact m).endB sB
theorem whole_l {a b out : Array Keyed} {ia ib : Nat} (sA : SL a.toList) (sB : SL b.toList) (m : MI a.toList b.toList out.toList ia ib) (e : ia + 1 = a.size) (hl : ∀ p ∈ b.toList, ∀ q ∈ a.toList.drop (a.size - 1), leK p q) : Whole a b (out ++ b.extract ib b.size ++ a.extract ia a.size) := by
  show Merged _ _ _
  rw [Array.toList_append, Array.toList_append, cut_rest, cut_rest]
  refine m.endBA sA sB fun p hp q hq => hl p hp q ?_
  rwa [show a.size - 1 = ia by omega]
theorem push_b {a b out : Array Keyed} {ia ib : Nat} (sA : SL a.toList) (sB : SL b.toList) (m : MI a.toList b.toList out.toList ia ib) (hb : ib < b.size) (hc : ∀ q ∈ a.toList.drop ia, leK b[ib] q) : MI a.toList b.toList (out.push b[ib]).toList ia (ib + 1) := by
  have hb' : ib < b.toList.length := by rwa [Array.length_toList]
  have := m.b sB 1 (by rw [Array.length_toList]; exact hb) (by rw [take_one _ _ hb']; intro p hp q hq; rw [List.mem_singleton.mp hp]; simpa using hc q hq)
  rw [take_one _ _ hb'] at this
  rw [Array.toList_push]
  simpa using this
theorem push_a {a b out : Array Keyed} {ia ib : Nat} (sA : SL a.toList) (sB : SL b.toList) (m : MI a.toList b.toList out.toList ia ib) (ha : ia < a.size) (hc : ∀ q ∈ b.toList.drop ib, leK a[ia] q) : MI a.toList b.toList (out.push a[ia]).toList (ia + 1) ib := by
  have ha' : ia < a.toList.length := by rwa [Array.length_toList]
  have := m.a sA 1 (by rw [Array.length_toList]; exact ha) (by rw [take_one _ _ ha']; intro p hp q hq; rw [List.mem_singleton.mp hp]; simpa using hc q hq)
  rw [take_one _ _ ha'] at this
  rw [Array.toList_push]
  simpa using this
theorem chunk_a {a b out : Array Keyed} {ia ib k : Nat} (sA : SL a.toList) (m : MI a.toList b.toList out.toList ia ib) (hk : ia + k ≤ a.size) (hc : ∀ p ∈ (a.toList.drop ia).take k, ∀ q ∈ b.toList.drop ib, leK p q) : MI a.toList b.toList (out ++ a.extract ia (ia + k)).toList (ia + k) ib := by
  rw [Array.toList_append, cut_list]
  exact m.a sA k (by rw [Array.length_toList]; exact hk) hc
theorem chunk_b {a b out : Array Keyed} {ia ib k : Nat} (sB : SL b.toList) (m : MI a.toList b.toList out.toList ia ib) (hk : ib + k ≤ b.size) (hc : ∀ p ∈ (b.toList.drop ib).take k, ∀ q ∈ a.toList.drop ia, leK p q) : MI a.toList b.toList (out ++ b.extract ib (ib + k)).toList ia (ib + k) := by
  rw [Array.toList_append, cut_list]
  exact m.b sB k (by rw [Array.length_toList]; exact hk) hc
theorem rest_le {a : Array Keyed} (s : SL a.toList) {i : Nat} (h : i < a.size) : ∀ q ∈ a.toList.drop i, leK a[i] q := fun q hq => by
  have := s.rest (i := i) (by rwa [Array.length_toList]) q hq
  simpa using this
theorem lo_add {ia k n : Nat} (h : ia + 1 < n) (hk : k ≤ n - ia) : ia + k ≤ n := by omega
theorem lo_two {ia n : Nat} (h : ia ≤ n) (h1 : ia + 1 ≠ n) (h2 : ia ≠ n) : ia + 1 < n := by omega
theorem lo_one {i n : Nat} (h : i < n) (h1 : i + 1 ≠ n) : i + 1 < n := by omega
theorem lo_lt {i n : Nat} (h : i ≤ n) (h1 : i ≠ n) : i < n := by omega
theorem lo_fit {i n : Nat} (h : i < n) : i + (n - i) ≤ n := by omega
theorem lo_fit' {i n : Nat} (h : i < n) : i + (n - i) = n := by omega
theorem lo_hint {i n : Nat} (h : i < n) : 0 < n - i := by omega
theorem lo_zero {k : Nat} (h : ¬ k > 0) : k = 0 := by omega
theorem lo_m1 {x m k : Nat} (h : x + 1 ≤ m) : x + 1 ≤ m + k := by omega
theorem lo_m2 {x y ia ib k k2 : Nat} (h : x + 1 + y ≤ ia + ib) : x + 1 + (y + 1) ≤ ia + k + 1 + (ib + 1 + k2) := by omega
theorem lo_m2' {x y ia ib k : Nat} (h : x + 1 + y ≤ ia + ib) : x + 1 + (y + 1) ≤ ia + k + 1 + (ib + 1) := by omega
theorem lo_m2'' {x y ia ib k2 : Nat} (h : x + 1 + y ≤ ia + ib) : x + 1 + (y + 1) ≤ ia + 1 + (ib + 1 + k2) := by omega
theorem lo_m2o {x y ia ib : Nat} (h : x + 1 + y ≤ ia + ib) : x + 1 + (y + 1) ≤ ia + 1 + (ib + 1) := by omega
theorem lo_drop {x y m : Nat} (h : x + 1 + (y + 1) ≤ m) : x + 1 + 1 ≤ m := by omega
theorem lo_i1 {x ia ib : Nat} (h : x + 1 ≤ ia + ib) : x + 1 ≤ ia + 1 + ib := by omega
noncomputable def LoI (st : SortSt) (a b : Array Keyed) (x y : Nat) (c : Option (Array Keyed) × Array Keyed × Nat × Nat × Nat × Nat × Nat) (st' : SortSt) : Prop := (∃ g', st' = gal st g') ∧ ∃ out ia ib g ac bc, c = (none, out, ia, ib, g, ac, bc) ∧ Half a b out ia ib ∧ x + 1 + y ≤ ia + ib
noncomputable def LoQ (st : SortSt) (a b : Array Keyed) (x : Nat) (c : Option (Array Keyed) × Array Keyed × Nat × Nat × Nat × Nat × Nat) (st' : SortSt) : Prop := (∃ g', st' = gal st g') ∧ ((∃ r rest, c = (some r, rest) ∧ Whole a b r) ∨ ∃ out ia ib g ac bc, c = (none, out, ia, ib, g, ac, bc) ∧ Half a b out ia ib ∧ x + 1 + 1 ≤ ia + ib)
noncomputable def LoI1 (st : SortSt) (a b : Array Keyed) (x : Nat) (c : Option (Array Keyed) × Array Keyed × Nat × Nat × Nat × Nat) (st' : SortSt) : Prop := (∃ g', st' = gal st g') ∧ ∃ out ia ib ac bc, c = (none, out, ia, ib, ac, bc) ∧ Half a b out ia ib ∧ x + 1 ≤ ia + ib
noncomputable def LoQ1 (st : SortSt) (a b : Array Keyed) (x : Nat) (c : Option (Array Keyed) × Array Keyed × Nat × Nat × Nat × Nat) (st' : SortSt) : Prop := (∃ g', st' = gal st g') ∧ ((∃ r rest, c = (some r, rest) ∧ Whole a b r) ∨ ∃ out ia ib ac bc, c = (none, out, ia, ib, ac, bc) ∧ Half a b out ia ib ∧ x + 1 ≤ ia + ib)
noncomputable def LoI0 (st : SortSt) (a b : Array Keyed) (x : Nat) (c : Option (Array Keyed) × Array Keyed × Nat × Nat × Nat) (st' : SortSt) : Prop := (∃ g', st' = gal st g') ∧ ∃ out ia ib g, c = (none, out, ia, ib, g) ∧ Half a b out ia ib ∧ x + 1 ≤ ia + ib
noncomputable def LoQ0 (st : SortSt) (a b : Array Keyed) (c : Option (Array Keyed) × Array Keyed × Nat × Nat × Nat) (st' : SortSt) : Prop := (∃ g', st' = gal st g') ∧ ∃ r rest, c = (some r, rest) ∧ Whole a b r
theorem LoI0.all {st : SortSt} {a b : Array Keyed} {lo hi : Nat} {W : Nat → (Option (Array Keyed) × Array Keyed × Nat × Nat × Nat) → SortSt → Prop} (k : ∀ x g0 out ia ib g, Half a b out ia ib → x + 1 ≤ ia + ib → W x (none, out, ia, ib, g) (gal st g0)) : ∀ x c st', lo ≤ x → x < hi → LoI0 st a b x c st' → W x c st' := by
  rintro x c st' _ _ ⟨⟨g0, rfl⟩, out, ia, ib, g, rfl, hH, hxx⟩
  exact k x g0 out ia ib g hH hxx
theorem LoI1.all {st : SortSt} {a b : Array Keyed} {lo hi x : Nat} {W : Nat → (Option (Array Keyed) × Array Keyed × Nat × Nat × Nat × Nat) → SortSt → Prop} (k : ∀ y g0 out ia ib ac bc, Half a b out ia ib → x + 1 ≤ ia + ib → W y (none, out, ia, ib, ac, bc) (gal st g0)) : ∀ y c st', lo ≤ y → y < hi → LoI1 st a b x c st' → W y c st' := by
  rintro y c st' _ _ ⟨⟨g0, rfl⟩, out, ia, ib, ac, bc, rfl, hH, hxx⟩
  exact k y g0 out ia ib ac bc hH hxx
theorem LoI.all {st : SortSt} {a b : Array Keyed} {lo hi x : Nat} {W : Nat → (Option (Array Keyed) × Array Keyed × Nat × Nat × Nat × Nat × Nat) → SortSt → Prop} (k : ∀ y g0 out ia ib g ac bc, Half a b out ia ib → x + 1 + y ≤ ia + ib → W y (none, out, ia, ib, g, ac, bc) (gal st g0)) : ∀ y c st', lo ≤ y → y < hi → LoI st a b x y c st' → W y c st' := by
  rintro y c st' _ _ ⟨⟨g0, rfl⟩, out, ia, ib, g, ac, bc, rfl, hH, hxx⟩
  exact k y g0 out ia ib g ac bc hH hxx
theorem LoQ1.all {st : SortSt} {a b : Array Keyed} {x : Nat} {W : (Option (Array Keyed) × Array Keyed × Nat × Nat × Nat × Nat) → SortSt → Prop} (k1 : ∀ g1 r rest, Whole a b r → W (some r, rest) (gal st g1)) (k : ∀ g0 out ia ib ac bc, Half a b out ia ib → x + 1 ≤ ia + ib → W (none, out, ia, ib, ac, bc) (gal st g0)) : ∀ c st', LoQ1 st a b x c st' → W c st' := by
  rintro c st' ⟨⟨g1, rfl⟩, ⟨r, rest, rfl, hw⟩ | ⟨out, ia, ib, ac, bc, rfl, H, hxx⟩⟩
  · exact k1 g1 r rest hw
  · exact k g1 out ia ib ac bc H hxx
theorem LoQ.all {st : SortSt} {a b : Array Keyed} {x : Nat} {W : (Option (Array Keyed) × Array Keyed × Nat × Nat × Nat × Nat × Nat) → SortSt → Prop} (k1 : ∀ g1 r rest, Whole a b r → W (some r, rest) (gal st g1)) (k : ∀ g0 out ia ib g ac bc, Half a b out ia ib → x + 1 + 1 ≤ ia + ib → W (none, out, ia, ib, g, ac, bc) (gal st g0)) : ∀ c st', LoQ st a b x c st' → W c st' := by
  rintro c st' ⟨⟨g1, rfl⟩, ⟨r, rest, rfl, hw⟩ | ⟨out, ia, ib, g, ac, bc, rfl, H, hxx⟩⟩
  · exact k1 g1 r rest hw
  · exact k g1 out ia ib g ac bc H hxx
theorem wpS_mergeLo {st : SortSt} {a b : Array Keyed} {Q : Array Keyed → SortSt → Prop} (hk : kindOf st = oneType') (hA : ∀ x ∈ a.toList, IsK x) (hB : ∀ x ∈ b.toList, IsK x) (sA : SL a.toList) (sB : SL b.toList) (ha : 0 < a.size) (hb : 0 < b.size)
    (hf : ∀ q ∈ a.toList, leK b[0] q) (hl : ∀ p ∈ b.toList, ∀ q ∈ a.toList.drop (a.size - 1), leK p q)
    (h : ∀ out g, Whole a b out → Q out (gal st g)) : wpS (model prog w) A E s (mergeLo' a b) Q st := by
  rw [mergeLo'_eq]
  refine wpS_bind (wpS_lift (wpAny_rule ⟨rfl, ?_⟩))
  refine wpS_let ?_
  refine wpS_bind (wpS_elem hb ?_)
  have m0 : MI a.toList b.toList (#[] : Array Keyed).toList 0 0 := ⟨Nat.zero_le _, Nat.zero_le _, by simp, by simp [SL], fun p hp => by simp at hp, fun p hp => by simp at hp⟩
  have m1 := push_b sA sB m0 hb (by simpa using hf)
  have e0 : (#[] : Array Keyed).push b[0] = #[b[0]] := rfl
  rw [e0, Nat.zero_add] at m1
  refine wpS_let ?_
  refine wpS_if (fun e => wpS_pure (h _ (gallopOf st) (whole_b sA m1 (by simpa using e)))) fun e1 => wpS_if (fun e => wpS_pure (h _ (gallopOf st) (whole_l sA sB m1 (by simpa using e) hl))) fun e2 => ?_
  have e1' := ne_of_beq e1
  have e2' := ne_of_beq e2
  clear e1 e2
  refine wpS_bind (wpS_get ?_)
  refine wpS_let ?_
  refine wpS_bind (wpS_mono (wpS_forRange (LoI0 st a b) (Q := LoQ0 st a b) ?step ?fin ⟨⟨gallopOf st, rfl⟩, _, _, _, _, rfl, ⟨m1, by omega, by omega⟩, by omega⟩) ?post)
  case fin =>
    rintro c st' ⟨hg, out, ia, ib, g, rfl, hH, hx⟩
    have h1 := hH.ra
    have h2 := hH.rb
    clear e1' e2'
    omega
  case post =>
    rintro c st' ⟨⟨g', rfl⟩, r, rest, rfl, hw⟩
    exact wpS_pure (h r g' hw)
  case step =>
    clear m0 m1 e0 e1' e2' h
    refine LoI0.all ?_
    intro x g0 out ia ib g hH hxx
    refine wpS_let ?_
    refine wpS_bind (wpS_mono (wpS_forRange (fun _ => LoI1 st a b x) (Q := LoQ1 st a b x) ?step1 ?fin1 ⟨⟨g0, rfl⟩, out, ia, ib, 0, 0, rfl, hH, hxx⟩) ?post1)
    case fin1 =>
      rintro c st' ⟨h1, h2⟩
      exact ⟨h1, .inr h2⟩
    case step1 =>
      clear hH hxx
      refine LoI1.all ?_
      intro y g1 out ia ib ac bc H hxx
      refine wpS_let ?_
      dsimp (zeta := false) only
      have hra := H.ra
      have hrb := H.rb
      have hia := Nat.lt_of_succ_lt hra
      refine wpS_bind (wpS_elem hrb ?_)
      refine wpS_bind (wpS_elem hia ?_)
      refine wpS_bind (wpS_ltX hk (hB _ (by simp)) (hA _ (by simp)) ?_)
      refine wpS_if (fun hw => ?_) (fun hw => ?_)
      · refine wpS_bind (wpS_elem hrb ?_)
        have hw' := of_decide_eq_true hw
        have m2 := push_b sA sB H.mi hrb (fun q hq => Int.le_trans (Int.le_of_lt hw') (rest_le sA hia q hq))
        refine wpS_if (fun e => wpS_pure ⟨⟨g1, rfl⟩, .inl ⟨_, _, rfl, whole_b sA m2 (by simpa using e)⟩⟩) fun e => ?_
        have hh : Half a b _ ia (ib + 1) := ⟨m2, hra, lo_one hrb (ne_of_beq e)⟩
        have hm := lo_m1 (k := 1) hxx
        exact wpS_if (fun _ => wpS_pure ⟨⟨g1, rfl⟩, .inr ⟨_, _, _, _, _, rfl, hh, hm⟩⟩) (fun _ => wpS_pure ⟨⟨g1, rfl⟩, _, _, _, _, _, rfl, hh, hm⟩)
      · refine wpS_bind (wpS_elem hia ?_)
        have hw' : ¬ kx b[ib] < kx a[ia] := fun z => hw (decide_eq_true z)
        have m2 := push_a sA sB H.mi hia (fun q hq => Int.le_trans (Int.not_lt.mp hw') (rest_le sB hrb q hq))
        refine wpS_if (fun e => wpS_pure ⟨⟨g1, rfl⟩, .inl ⟨_, _, rfl, whole_l sA sB m2 (by simpa using e) hl⟩⟩) fun e => ?_
        have hh : Half a b _ (ia + 1) ib := ⟨m2, lo_one hra (ne_of_beq e), hrb⟩
        have hm := lo_i1 hxx
        exact wpS_if (fun _ => wpS_pure ⟨⟨g1, rfl⟩, .inr ⟨_, _, _, _, _, rfl, hh, hm⟩⟩) (fun _ => wpS_pure ⟨⟨g1, rfl⟩, _, _, _, _, _, rfl, hh, hm⟩)
    case post1 =>
      clear hH hxx
      refine LoQ1.all (fun g1 r rest hw => wpS_pure ⟨⟨g1, rfl⟩, r, _, rfl, hw⟩) ?_
      · intro g1 out ia ib ac bc H hxx
        refine wpS_let ?_
        refine wpS_bind (wpS_lift (wpAny_rule ⟨rfl, ?_⟩))
        refine wpS_let ?_
        have hT : 0 < a.size + b.size := Nat.add_pos_left ha _
        refine wpS_bind (wpS_mono (wpS_forRange (LoI st a b x) (Q := LoQ st a b x) ?step2 ?fin2 ⟨⟨g1, rfl⟩, out, ia, ib, g + 1, ac, bc, rfl, H, hxx⟩) ?post2)
        case fin2 =>
          rintro c st' ⟨hg, out, ia, ib, g, ac, bc, rfl, hH, hxx⟩
          exact ⟨hg, .inr ⟨out, ia, ib, g, ac, bc, rfl, hH, by rw [Nat.zero_max] at hxx; omega⟩⟩
        case post2 =>
          clear H hxx hT
          refine LoQ.all (fun g2 r rest hw => wpS_pure ⟨⟨g2, rfl⟩, r, _, rfl, hw⟩) ?_
          · intro g2 out ia ib g ac bc hH hxx
            refine wpS_let ?_
            exact wpS_bind (wpS_setMin (wpS_pure ⟨⟨_, rfl⟩, out, ia, ib, _, rfl, hH, hxx⟩))
        case step2 =>
          clear H hxx hT
          refine LoI.all ?_
          intro y g1 out ia ib g ac bc H hxx
          refine wpS_let ?_
          dsimp (zeta := false) only
          have hra := H.ra
          have hrb := H.rb
          have hia := Nat.lt_of_succ_lt hra
          revert g
          refine wpS_ifG (fun g => g - 1) ?kk fun _ => rfl
          intro g
          refine wpS_bind (wpS_setMin ?_)
          refine wpS_bind (wpS_elem hrb ?_)
          refine wpS_bind (wpS_gallop hk (hB _ (by simp)) hA (lo_fit hia) (lo_hint hia) (mono_f sA (by rw [Array.length_toList]; exact lo_fit hia)) fun k hk1 b1 b2 => ?_)
          have hf := found_f (by rw [Array.length_toList]; exact lo_fit' hia) hk1 b1 b2
          clear b1 b2
          refine wpS_if (fun z => ?_) fun z => ?_
          · have hle := lo_add hra hk1
            have m1 := chunk_a sA H.mi (k := k) hle (fun p hp q hq => Int.le_trans (hf.1 p hp) (rest_le sB hrb q hq))
            refine wpS_if (fun e => wpS_pure ⟨⟨_, rfl⟩, .inl ⟨_, _, rfl, whole_l sA sB m1 (by simpa using e) hl⟩⟩) fun e0 => wpS_if (fun e => wpS_pure ⟨⟨_, rfl⟩, .inl ⟨_, _, rfl, whole_a sB m1 (by simpa using e)⟩⟩) fun e1 => ?_
            have hra' := lo_two hle (ne_of_beq e0) (ne_of_beq e1)
            clear e0 e1 z
            have h_ia : (ia + k) < a.size := Nat.lt_of_succ_lt hra'
            refine wpS_bind (wpS_elem hrb ?_)
            have m2 := push_b sA sB m1 hrb (fun q hq => Int.le_of_lt (hf.2 q hq))
            refine wpS_if (fun e => wpS_pure ⟨⟨_, rfl⟩, .inl ⟨_, _, rfl, whole_b sA m2 (by simpa using e)⟩⟩) fun e => ?_
            have hrb' := lo_one hrb (ne_of_beq e)
            clear e
            refine wpS_bind (wpS_elem h_ia ?_)
            refine wpS_bind (wpS_gallop hk (hA _ (by simp)) hB (lo_fit hrb') (lo_hint hrb') (mono_t sB (by rw [Array.length_toList]; exact lo_fit hrb')) fun k2 hk2 b1 b2 => ?_)
            have hf2 := found_t (by rw [Array.length_toList]; exact lo_fit' hrb') hk2 b1 b2
            refine wpS_if (fun z => ?_) fun z => ?_
            · have hle : ib + 1 + k2 ≤ b.size := Nat.le_trans (Nat.add_le_add_left hk2 _) (lo_fit hrb')
              have m3 := chunk_b sB m2 (k := k2) hle (fun p hp q hq => Int.le_trans (Int.le_of_lt (hf2.1 p hp)) (rest_le sA h_ia q hq))
              refine wpS_if (fun e => wpS_pure ⟨⟨_, rfl⟩, .inl ⟨_, _, rfl, whole_b sA m3 (by simpa using e)⟩⟩) fun e3 => ?_
              refine wpS_bind (wpS_elem h_ia ?_)
              have m4 := push_a sA sB m3 h_ia hf2.2
              refine wpS_if (fun e => wpS_pure ⟨⟨_, rfl⟩, .inl ⟨_, _, rfl, whole_l sA sB m4 (by simpa using e) hl⟩⟩) fun e => ?_
              have hh : Half a b _ ((ia + k) + 1) (ib + 1 + k2) := ⟨m4, lo_one hra' (ne_of_beq e), lo_lt hle (ne_of_beq e3)⟩
              have hm' := lo_m2 (k := k) (k2 := k2) hxx
              exact wpS_if (fun _ => wpS_pure ⟨⟨_, rfl⟩, .inr ⟨_, _, _, _, _, _, rfl, hh, lo_drop hm'⟩⟩) (fun _ => wpS_pure ⟨⟨_, rfl⟩, _, _, _, _, _, _, rfl, hh, hm'⟩)
            · have z' : k2 = 0 := lo_zero z
              subst z'
              refine wpS_bind (wpS_elem h_ia ?_)
              have m4 := push_a sA sB m2 h_ia hf2.2
              refine wpS_if (fun e => wpS_pure ⟨⟨_, rfl⟩, .inl ⟨_, _, rfl, whole_l sA sB m4 (by simpa using e) hl⟩⟩) fun e => ?_
              have hh : Half a b _ ((ia + k) + 1) (ib + 1) := ⟨m4, lo_one hra' (ne_of_beq e), hrb'⟩
              have hm' := lo_m2' (k := k) hxx
              exact wpS_if (fun _ => wpS_pure ⟨⟨_, rfl⟩, .inr ⟨_, _, _, _, _, _, rfl, hh, lo_drop hm'⟩⟩) (fun _ => wpS_pure ⟨⟨_, rfl⟩, _, _, _, _, _, _, rfl, hh, hm'⟩)
          · have z' : k = 0 := lo_zero z
            subst z'
            have hra' := hra
            have h_ia : ia < a.size := Nat.lt_of_succ_lt hra'
            refine wpS_bind (wpS_elem hrb ?_)
            have m2 := push_b sA sB H.mi hrb (fun q hq => Int.le_of_lt (hf.2 q hq))
            refine wpS_if (fun e => wpS_pure ⟨⟨_, rfl⟩, .inl ⟨_, _, rfl, whole_b sA m2 (by simpa using e)⟩⟩) fun e => ?_
            have hrb' := lo_one hrb (ne_of_beq e)
            clear e
            refine wpS_bind (wpS_elem h_ia ?_)
            refine wpS_bind (wpS_gallop hk (hA _ (by simp)) hB (lo_fit hrb') (lo_hint hrb') (mono_t sB (by rw [Array.length_toList]; exact lo_fit hrb')) fun k2 hk2 b1 b2 => ?_)
            have hf2 := found_t (by rw [Array.length_toList]; exact lo_fit' hrb') hk2 b1 b2
            refine wpS_if (fun z => ?_) fun z => ?_
            · have hle : ib + 1 + k2 ≤ b.size := Nat.le_trans (Nat.add_le_add_left hk2 _) (lo_fit hrb')
              have m3 := chunk_b sB m2 (k := k2) hle (fun p hp q hq => Int.le_trans (Int.le_of_lt (hf2.1 p hp)) (rest_le sA h_ia q hq))
              refine wpS_if (fun e => wpS_pure ⟨⟨_, rfl⟩, .inl ⟨_, _, rfl, whole_b sA m3 (by simpa using e)⟩⟩) fun e3 => ?_
              refine wpS_bind (wpS_elem h_ia ?_)
              have m4 := push_a sA sB m3 h_ia hf2.2
              refine wpS_if (fun e => wpS_pure ⟨⟨_, rfl⟩, .inl ⟨_, _, rfl, whole_l sA sB m4 (by simpa using e) hl⟩⟩) fun e => ?_
              have hh : Half a b _ (ia + 1) (ib + 1 + k2) := ⟨m4, lo_one hra' (ne_of_beq e), lo_lt hle (ne_of_beq e3)⟩
              have hm' := lo_m2'' (k2 := k2) hxx
              exact wpS_if (fun _ => wpS_pure ⟨⟨_, rfl⟩, .inr ⟨_, _, _, _, _, _, rfl, hh, lo_drop hm'⟩⟩) (fun _ => wpS_pure ⟨⟨_, rfl⟩, _, _, _, _, _, _, rfl, hh, hm'⟩)
            · have z' : k2 = 0 := lo_zero z
              subst z'
              refine wpS_bind (wpS_elem h_ia ?_)
              have m4 := push_a sA sB m2 h_ia hf2.2
              refine wpS_if (fun e => wpS_pure ⟨⟨_, rfl⟩, .inl ⟨_, _, rfl, whole_l sA sB m4 (by simpa using e) hl⟩⟩) fun e => ?_
              have hh : Half a b _ (ia + 1) (ib + 1) := ⟨m4, lo_one hra' (ne_of_beq e), hrb'⟩
              have hm' := lo_m2o hxx
              exact wpS_if (fun _ => wpS_pure ⟨⟨_, rfl⟩, .inr ⟨_, _, _, _, _, _, rfl, hh, lo_drop hm'⟩⟩) (fun _ => wpS_pure ⟨⟨_, rfl⟩, _, _, _, _, _, _, rfl, hh, hm'⟩)
end
end Mine
namespace Mine
open PySem PyProof.Rows
structure MH (A B R : List Keyed) (na nb : Nat) : Prop where
  la : na ≤ A.length
  lb : nb ≤ B.length
  perm : R.Perm (A.drop na ++ B.drop nb)
  sl : SL R
  oa : ∀ q ∈ A.take na, ∀ p ∈ R, leK q p
  ob : ∀ q ∈ B.take nb, ∀ p ∈ R, leK q p
theorem take_cut {α : Type} (l : List α) (i n : Nat) (h : i ≤ n) : l.take n = l.take i ++ (l.drop i).take (n - i) := by
  have e : n = i + (n - i) := by omega
  rw [e, List.take_add, ← e]
theorem drop_cut {α : Type} (l : List α) (i n : Nat) (h : i ≤ n) : l.drop i = (l.drop i).take (n - i) ++ l.drop n := by
  have := drop_split l i (n - i)
  rwa [show i + (n - i) = n by omega] at this
theorem SL.cut {l : List Keyed} (h : SL l) {i n : Nat} (hin : i ≤ n) : ∀ q ∈ l.take i, ∀ p ∈ (l.drop i).take (n - i), leK q p := by
  have h1 : SL (l.take n) := h.sublist (List.take_sublist n l)
  rw [take_cut l i n hin] at h1
  exact (List.pairwise_append.mp h1).2.2
theorem MH.a {A B R : List Keyed} {na nb : Nat} (h : MH A B R na nb) (hA : SL A) (i : Nat) (hi : i ≤ na) (hc : ∀ q ∈ B.take nb, ∀ p ∈ (A.drop i).take (na - i), leK q p) : MH A B ((A.drop i).take (na - i) ++ R) i nb where
  la := by have := h.la; omega
  lb := h.lb
  perm := by
    refine (List.Perm.append_left _ h.perm).trans (List.Perm.of_eq ?_)
    rw [← List.append_assoc, ← drop_cut A i na hi]
  sl := List.pairwise_append.mpr ⟨(hA.split i (na - i)).1, h.sl, fun p hp q hq => h.oa p (by rw [take_cut A i na hi]; exact List.mem_append_right _ hp) q hq⟩
  oa := fun q hq p hp => by
    rcases List.mem_append.mp hp with hp | hp
    · exact hA.cut hi q hq p hp
    · exact h.oa q (by rw [take_cut A i na hi]; exact List.mem_append_left _ hq) p hp
  ob := fun q hq p hp => by
    rcases List.mem_append.mp hp with hp | hp
    · exact hc q hq p hp
    · exact h.ob q hq p hp
theorem MH.b {A B R : List Keyed} {na nb : Nat} (h : MH A B R na nb) (hB : SL B) (i : Nat) (hi : i ≤ nb) (hc : ∀ q ∈ A.take na, ∀ p ∈ (B.drop i).take (nb - i), leK q p) : MH A B ((B.drop i).take (nb - i) ++ R) na i where
  la := h.la
  lb := by have := h.lb; omega
  perm := by
    refine (List.Perm.append_left _ h.perm).trans ((List.perm_append_comm_assoc _ _ _).trans (List.Perm.of_eq ?_))
    rw [← drop_cut B i nb hi]
  sl := List.pairwise_append.mpr ⟨(hB.split i (nb - i)).1, h.sl, fun p hp q hq => h.ob p (by rw [take_cut B i nb hi]; exact List.mem_append_right _ hp) q hq⟩
  oa := fun q hq p hp => by
    rcases List.mem_append.mp hp with hp | hp
    · exact hc q hq p hp
    · exact h.oa q hq p hp
  ob := fun q hq p hp => by
    rcases List.mem_append.mp hp with hp | hp
    · exact hB.cut hi q hq p hp
    · exact h.ob q (by rw [take_cut B i nb hi]; exact List.mem_append_left _ hq) p hp
theorem MH.full {A B R : List Keyed} (h : MH A B R 0 0) : Merged A B R := ⟨by have := h.perm; rwa [List.drop_zero, List.drop_zero] at this, h.sl⟩
theorem MH.endA {A B R : List Keyed} {na : Nat} (h : MH A B R na 0) (hA : SL A) : Merged A B (A.take na ++ R) := by
  have h' := h.a hA 0 (Nat.zero_le _) (fun q hq => by simp at hq)
  rw [List.drop_zero, Nat.sub_zero] at h'
  exact h'.full
theorem MH.endB {A B R : List Keyed} {nb : Nat} (h : MH A B R 0 nb) (hB : SL B) : Merged A B (B.take nb ++ R) := by
  have h' := h.b hB 0 (Nat.zero_le _) (fun q hq => by simp at hq)
  rw [List.drop_zero, Nat.sub_zero] at h'
  exact h'.full
theorem MH.endBA {A B R : List Keyed} {na nb : Nat} (h : MH A B R na nb) (hA : SL A) (hB : SL B) (hc : ∀ q ∈ B.take nb, ∀ p ∈ A, leK q p) : Merged A B (B.take nb ++ (A.take na ++ R)) := by
  have h' := h.a hA 0 (Nat.zero_le _) (fun q hq p hp => hc q hq p (List.mem_of_mem_drop (List.mem_of_mem_take hp)))
  rw [List.drop_zero, Nat.sub_zero] at h'
  exact h'.endB hB
structure HalfH (a b out : Array Keyed) (na nb : Nat) : Prop where
  mh : MH a.toList b.toList out.toList.reverse na nb
  ra : 0 < na
  rb : 1 < nb
theorem front_list (a : Array Keyed) (n : Nat) : (a.extract 0 n).toList = a.toList.take n := by
  rw [Array.toList_extract, List.extract_eq_take_drop, List.drop_zero, Nat.sub_zero]
theorem wholeH_a {a b out : Array Keyed} {na nb : Nat} (sB : SL b.toList) (m : MH a.toList b.toList out.toList.reverse na nb) (e : na = 0) : Whole a b (a.extract 0 na ++ b.extract 0 nb ++ out.reverse) := by
  subst e
  show Merged _ _ _
  rw [Array.toList_append, Array.toList_append, front_list, front_list, Array.toList_reverse, List.take_zero, List.nil_append]
  exact m.endB sB
theorem wholeH_b {a b out : Array Keyed} {na nb : Nat} (sA : SL a.toList) (m : MH a.toList b.toList out.toList.reverse na nb) (e : nb = 0) : Whole a b (a.extract 0 na ++ b.extract 0 nb ++ out.reverse) := by
  subst e
  show Merged _ _ _
  rw [Array.toList_append, Array.toList_append, front_list, front_list, Array.toList_reverse, List.take_zero, List.append_nil]
  exact m.endA sA
theorem wholeH_l {a b out : Array Keyed} {na nb : Nat} (sA : SL a.toList) (sB : SL b.toList) (m : MH a.toList b.toList out.toList.reverse na nb) (e : nb = 1) (hl : ∀ q ∈ b.toList.take 1, ∀ p ∈ a.toList, leK q p) : Whole a b (b.extract 0 nb ++ a.extract 0 na ++ out.reverse) := by
  subst e
  show Merged _ _ _
  rw [Array.toList_append, Array.toList_append, front_list, front_list, Array.toList_reverse, List.append_assoc]
  exact m.endBA sA sB hl
theorem pushH_b {a b out : Array Keyed} {na nb : Nat} (sB : SL b.toList) (m : MH a.toList b.toList out.toList.reverse na nb) (hb : nb - 1 < b.size) (h0 : 0 < nb) (hc : ∀ q ∈ a.toList.take na, leK q b[nb - 1]) : MH a.toList b.toList (out.push b[nb - 1]).toList.reverse na (nb - 1) := by
  have hb' : nb - 1 < b.toList.length := by rwa [Array.length_toList]
  have e : nb - (nb - 1) = 1 := by omega
  have := m.b sB (nb - 1) (by omega) (by rw [e, take_one _ _ hb']; intro q hq p hp; rw [List.mem_singleton.mp hp]; simpa using hc q hq)
  rw [e, take_one _ _ hb'] at this
  rw [Array.toList_push, List.reverse_append]
  simpa using this
theorem pushH_a {a b out : Array Keyed} {na nb : Nat} (sA : SL a.toList) (m : MH a.toList b.toList out.toList.reverse na nb) (ha : na - 1 < a.size) (h0 : 0 < na) (hc : ∀ q ∈ b.toList.take nb, leK q a[na - 1]) : MH a.toList b.toList (out.push a[na - 1]).toList.reverse (na - 1) nb := by
  have ha' : na - 1 < a.toList.length := by rwa [Array.length_toList]
  have e : na - (na - 1) = 1 := by omega
  have := m.a sA (na - 1) (by omega) (by rw [e, take_one _ _ ha']; intro q hq p hp; rw [List.mem_singleton.mp hp]; simpa using hc q hq)
  rw [e, take_one _ _ ha'] at this
  rw [Array.toList_push, List.reverse_append]
  simpa using this
theorem cut_list2 (a : Array Keyed) (i n : Nat) : (a.extract i n).toList = (a.toList.drop i).take (n - i) := by
  rw [Array.toList_extract, List.extract_eq_take_drop]
theorem chunkH_a {a b out : Array Keyed} {na nb i : Nat} (sA : SL a.toList) (m : MH a.toList b.toList out.toList.reverse na nb) (hi : i ≤ na) (hc : ∀ q ∈ b.toList.take nb, ∀ p ∈ (a.toList.drop i).take (na - i), leK q p) : MH a.toList b.toList (out ++ (a.extract i na).reverse).toList.reverse i nb := by
  rw [Array.toList_append, Array.toList_reverse, List.reverse_append, List.reverse_reverse, cut_list2]
  exact m.a sA i hi hc
theorem chunkH_b {a b out : Array Keyed} {na nb i : Nat} (sB : SL b.toList) (m : MH a.toList b.toList out.toList.reverse na nb) (hi : i ≤ nb) (hc : ∀ q ∈ a.toList.take na, ∀ p ∈ (b.toList.drop i).take (nb - i), leK q p) : MH a.toList b.toList (out ++ (b.extract i nb).reverse).toList.reverse na i := by
  rw [Array.toList_append, Array.toList_reverse, List.reverse_append, List.reverse_reverse, cut_list2]
  exact m.b sB i hi hc
theorem front_le {a : Array Keyed} (s : SL a.toList) {i : Nat} (h : i - 1 < a.size) (h0 : 0 < i) : ∀ q ∈ a.toList.take i, leK q a[i - 1] := fun q hq => by
  have := s.ahead (i := i - 1) (by rwa [Array.length_toList]) q (by rwa [show i - 1 + 1 = i by omega])
  simpa using this
theorem mem_take {α : Type} {l : List α} {k : Nat} {p : α} (h : p ∈ l.take k) : ∃ j, j < k ∧ ∃ (hj : j < l.length), p = l[j] := by
  obtain ⟨j, hj, e⟩ := List.getElem_of_mem h
  rw [List.getElem_take] at e
  rw [List.length_take] at hj
  exact ⟨j, by omega, by omega, e.symm⟩
theorem found_f0 {key : Keyed} {arr : Array Keyed} {n k : Nat} (hn : n ≤ arr.toList.length) (h1 : ∀ i, i < k → bey false key arr 0 i = true) (h2 : ∀ i, k ≤ i → i < n → bey false key arr 0 i = false) :
    (∀ p ∈ arr.toList.take k, kx p ≤ kx key) ∧ ∀ q ∈ (arr.toList.drop k).take (n - k), kx key < kx q := by
  refine ⟨fun p hp => ?_, fun q hq => ?_⟩
  · obtain ⟨j, hj, hl, rfl⟩ := mem_take hp
    have := h1 j hj
    rw [bey_f (by rwa [Nat.zero_add])] at this
    simpa using this
  · obtain ⟨j, hj, hl, rfl⟩ := mem_dropTake hq
    have := h2 (k + j) (by omega) (by omega)
    rw [bey_f (by rwa [Nat.zero_add])] at this
    simpa using this
theorem found_t0 {key : Keyed} {arr : Array Keyed} {n k : Nat} (hn : n ≤ arr.toList.length) (h1 : ∀ i, i < k → bey true key arr 0 i = true) (h2 : ∀ i, k ≤ i → i < n → bey true key arr 0 i = false) :
    (∀ p ∈ arr.toList.take k, kx p < kx key) ∧ ∀ q ∈ (arr.toList.drop k).take (n - k), kx key ≤ kx q := by
  refine ⟨fun p hp => ?_, fun q hq => ?_⟩
  · obtain ⟨j, hj, hl, rfl⟩ := mem_take hp
    have := h1 j hj
    rw [bey_t (by rwa [Nat.zero_add])] at this
    simpa using this
  · obtain ⟨j, hj, hl, rfl⟩ := mem_dropTake hq
    have := h2 (k + j) (by omega) (by omega)
    rw [bey_t (by rwa [Nat.zero_add])] at this
    simpa using this
section
variable {prog : Program} {w : World} {A : Around} {E : Value → Shared → Prop} {s : Shared}
noncomputable def mergeHi' : Array Keyed → Array Keyed → StateT SortSt Sem (Array Keyed) := sortPriv% PySem.Builtin.mergeHi
theorem mergeHi'_eq (a b : Array Keyed) : mergeHi' a b = (do
  rule "list.sort.merge-hi"
  let total := a.size + b.size
  let done (out : Array Keyed) (na nb : Nat) := a.extract 0 na ++ b.extract 0 nb ++ out.reverse
  let firstOfB (out : Array Keyed) (na nb : Nat) := b.extract 0 nb ++ a.extract 0 na ++ out.reverse
  let mut na := a.size - 1
  let mut nb := b.size
  let mut out : Array Keyed := #[← elem' a na]
  if na == 0 then return done out na nb
  if nb == 1 then return firstOfB out na nb
  let mut minGallop := gallopOf (← get)
  for _ in [0:total] do
    let mut acount := 0
    let mut bcount := 0
    for _ in [0:total] do
      let some aWins ← lt' (← elem' b (nb - 1)) (← elem' a (na - 1)) | return done out na nb
      if aWins then
        na := na - 1; out := out.push (← elem' a na); acount := acount + 1; bcount := 0
        if na == 0 then return done out na nb
        if acount ≥ minGallop then break
      else
        nb := nb - 1; out := out.push (← elem' b nb); bcount := bcount + 1; acount := 0
        if nb == 1 then return firstOfB out na nb
        if bcount ≥ minGallop then break
    rule "list.sort.gallop"
    minGallop := minGallop + 1
    for _ in [0:total] do
      if minGallop > 1 then minGallop := minGallop - 1
      setMinGallop' minGallop
      let some at_ ← gallop' false (← elem' b (nb - 1)) a 0 na (na - 1) | return done out na nb
      let k := na - at_
      acount := k
      if k > 0 then
        out := out ++ (a.extract at_ na).reverse; na := at_
        if na == 0 then return done out na nb
      nb := nb - 1; out := out.push (← elem' b nb)
      if nb == 1 then return firstOfB out na nb
      let some at_ ← gallop' true (← elem' a (na - 1)) b 0 nb (nb - 1) | return done out na nb
      let k := nb - at_
      bcount := k
      if k > 0 then
        out := out ++ (b.extract at_ nb).reverse; nb := at_
        if nb == 1 then return firstOfB out na nb
        if nb == 0 then return done out na nb
      na := na - 1; out := out.push (← elem' a na)
      if na == 0 then return done out na nb
      if acount < 7 && bcount < 7 then break
    minGallop := minGallop + 1
    setMinGallop' minGallop
  unsupported "internal:list.sort.merge-bound") := rfl
theorem HalfH.na {a b out : Array Keyed} {na nb : Nat} (H : HalfH a b out na nb) : na ≤ a.size := by have := H.mh.la; rwa [Array.length_toList] at this
theorem HalfH.nb {a b out : Array Keyed} {na nb : Nat} (H : HalfH a b out na nb) : nb ≤ b.size := by have := H.mh.lb; rwa [Array.length_toList] at this
theorem le_less {na nb x k t : Nat} (h : na + nb + x + 1 ≤ t) : na - k + nb + x + 1 ≤ t := by omega
theorem le_less' {na nb x k t : Nat} (h : na + nb + x + 1 ≤ t) : na + (nb - k) + x + 1 ≤ t := by omega
theorem le_two {na nb nb' x y t : Nat} (h : na + nb + x + 1 + y ≤ t) (h0 : 0 < na) (h1 : 0 < nb) (h2 : nb' ≤ nb - 1) : na - 1 + nb' + x + 1 + (y + 1) ≤ t := by omega
theorem le_sub {na nb x y t k : Nat} (h : na + nb + x + 1 + y ≤ t) (hk : k ≤ na) : k + nb + x + 1 + y ≤ t := by omega
theorem le_drop {m x y t : Nat} (h : m + x + 1 + (y + 1) ≤ t) : m + (x + 1) + 1 ≤ t := by omega
noncomputable def HiI (st : SortSt) (a b : Array Keyed) (x y : Nat) (c : Option (Array Keyed) × Nat × Nat × Array Keyed × Nat × Nat × Nat) (st' : SortSt) : Prop := (∃ g', st' = gal st g') ∧ ∃ out na nb g ac bc, c = (none, na, nb, out, g, ac, bc) ∧ HalfH a b out na nb ∧ na + nb + x + 1 + y ≤ a.size + b.size
noncomputable def HiQ (st : SortSt) (a b : Array Keyed) (x : Nat) (c : Option (Array Keyed) × Nat × Nat × Array Keyed × Nat × Nat × Nat) (st' : SortSt) : Prop := (∃ g', st' = gal st g') ∧ ((∃ r rest, c = (some r, rest) ∧ Whole a b r) ∨ ∃ out na nb g ac bc, c = (none, na, nb, out, g, ac, bc) ∧ HalfH a b out na nb ∧ na + nb + (x + 1) + 1 ≤ a.size + b.size)
noncomputable def HiI1 (st : SortSt) (a b : Array Keyed) (x : Nat) (c : Option (Array Keyed) × Nat × Nat × Array Keyed × Nat × Nat) (st' : SortSt) : Prop := (∃ g', st' = gal st g') ∧ ∃ out na nb ac bc, c = (none, na, nb, out, ac, bc) ∧ HalfH a b out na nb ∧ na + nb + x + 1 ≤ a.size + b.size
noncomputable def HiQ1 (st : SortSt) (a b : Array Keyed) (x : Nat) (c : Option (Array Keyed) × Nat × Nat × Array Keyed × Nat × Nat) (st' : SortSt) : Prop := (∃ g', st' = gal st g') ∧ ((∃ r rest, c = (some r, rest) ∧ Whole a b r) ∨ ∃ out na nb ac bc, c = (none, na, nb, out, ac, bc) ∧ HalfH a b out na nb ∧ na + nb + x + 1 ≤ a.size + b.size)
noncomputable def HiI0 (st : SortSt) (a b : Array Keyed) (x : Nat) (c : Option (Array Keyed) × Nat × Nat × Array Keyed × Nat) (st' : SortSt) : Prop := (∃ g', st' = gal st g') ∧ ∃ out na nb g, c = (none, na, nb, out, g) ∧ HalfH a b out na nb ∧ na + nb + x + 1 ≤ a.size + b.size
noncomputable def HiQ0 (st : SortSt) (a b : Array Keyed) (c : Option (Array Keyed) × Nat × Nat × Array Keyed × Nat) (st' : SortSt) : Prop := (∃ g', st' = gal st g') ∧ ∃ r rest, c = (some r, rest) ∧ Whole a b r
theorem HiI0.all {st : SortSt} {a b : Array Keyed} {lo hi : Nat} {W : Nat → (Option (Array Keyed) × Nat × Nat × Array Keyed × Nat) → SortSt → Prop} (k : ∀ x g0 out na nb g, HalfH a b out na nb → na + nb + x + 1 ≤ a.size + b.size → W x (none, na, nb, out, g) (gal st g0)) : ∀ x c st', lo ≤ x → x < hi → HiI0 st a b x c st' → W x c st' := by
  rintro x c st' _ _ ⟨⟨g0, rfl⟩, out, na, nb, g, rfl, hH, hxx⟩
  exact k x g0 out na nb g hH hxx
theorem HiI1.all {st : SortSt} {a b : Array Keyed} {lo hi x : Nat} {W : Nat → (Option (Array Keyed) × Nat × Nat × Array Keyed × Nat × Nat) → SortSt → Prop} (k : ∀ y g0 out na nb ac bc, HalfH a b out na nb → na + nb + x + 1 ≤ a.size + b.size → W y (none, na, nb, out, ac, bc) (gal st g0)) : ∀ y c st', lo ≤ y → y < hi → HiI1 st a b x c st' → W y c st' := by
  rintro y c st' _ _ ⟨⟨g0, rfl⟩, out, na, nb, ac, bc, rfl, hH, hxx⟩
  exact k y g0 out na nb ac bc hH hxx
theorem HiI.all {st : SortSt} {a b : Array Keyed} {lo hi x : Nat} {W : Nat → (Option (Array Keyed) × Nat × Nat × Array Keyed × Nat × Nat × Nat) → SortSt → Prop} (k : ∀ y g0 out na nb g ac bc, HalfH a b out na nb → na + nb + x + 1 + y ≤ a.size + b.size → W y (none, na, nb, out, g, ac, bc) (gal st g0)) : ∀ y c st', lo ≤ y → y < hi → HiI st a b x y c st' → W y c st' := by
  rintro y c st' _ _ ⟨⟨g0, rfl⟩, out, na, nb, g, ac, bc, rfl, hH, hxx⟩
  exact k y g0 out na nb g ac bc hH hxx
theorem HiQ1.all {st : SortSt} {a b : Array Keyed} {x : Nat} {W : (Option (Array Keyed) × Nat × Nat × Array Keyed × Nat × Nat) → SortSt → Prop} (k1 : ∀ g1 r rest, Whole a b r → W (some r, rest) (gal st g1)) (k : ∀ g0 out na nb ac bc, HalfH a b out na nb → na + nb + x + 1 ≤ a.size + b.size → W (none, na, nb, out, ac, bc) (gal st g0)) : ∀ c st', HiQ1 st a b x c st' → W c st' := by
  rintro c st' ⟨⟨g1, rfl⟩, ⟨r, rest, rfl, hw⟩ | ⟨out, na, nb, ac, bc, rfl, H, hxx⟩⟩
  · exact k1 g1 r rest hw
  · exact k g1 out na nb ac bc H hxx
theorem HiQ.all {st : SortSt} {a b : Array Keyed} {x : Nat} {W : (Option (Array Keyed) × Nat × Nat × Array Keyed × Nat × Nat × Nat) → SortSt → Prop} (k1 : ∀ g1 r rest, Whole a b r → W (some r, rest) (gal st g1)) (k : ∀ g0 out na nb g ac bc, HalfH a b out na nb → na + nb + (x + 1) + 1 ≤ a.size + b.size → W (none, na, nb, out, g, ac, bc) (gal st g0)) : ∀ c st', HiQ st a b x c st' → W c st' := by
  rintro c st' ⟨⟨g1, rfl⟩, ⟨r, rest, rfl, hw⟩ | ⟨out, na, nb, g, ac, bc, rfl, H, hxx⟩⟩
  · exact k1 g1 r rest hw
  · exact k g1 out na nb g ac bc H hxx
theorem wpS_mergeHi {st : SortSt} {a b : Array Keyed} {Q : Array Keyed → SortSt → Prop} (hk : kindOf st = oneType') (hA : ∀ x ∈ a.toList, IsK x) (hB : ∀ x ∈ b.toList, IsK x) (sA : SL a.toList) (sB : SL b.toList) (ha : 0 < a.size) (hb : 0 < b.size)
    (hl : ∀ q ∈ b.toList.take 1, ∀ p ∈ a.toList, leK q p) (hf : ∀ q ∈ b.toList, leK q a[a.size - 1])
    (h : ∀ out g, Whole a b out → Q out (gal st g)) : wpS (model prog w) A E s (mergeHi' a b) Q st := by
  rw [mergeHi'_eq]
  refine wpS_bind (wpS_lift (wpAny_rule ⟨rfl, ?_⟩))
  iterate 5 refine wpS_let ?_
  have ha1 : a.size - 1 < a.size := pred_lt ha (Nat.le_refl _)
  refine wpS_bind (wpS_elem ha1 ?_)
  refine wpS_let ?_
  have m0 : MH a.toList b.toList (#[] : Array Keyed).toList.reverse a.size b.size := ⟨by rw [Array.length_toList]; exact Nat.le_refl _, by rw [Array.length_toList]; exact Nat.le_refl _, by
    rw [List.drop_eq_nil_of_le (by rw [Array.length_toList]; exact Nat.le_refl _), List.drop_eq_nil_of_le (by rw [Array.length_toList]; exact Nat.le_refl _)]; simp, by simp [SL], fun q hq p hp => by simp at hp, fun q hq p hp => by simp at hp⟩
  have m1 := pushH_a sA m0 ha1 ha (fun q hq => hf q (List.mem_of_mem_take hq))
  have e0 : (#[] : Array Keyed).push a[a.size - 1] = #[a[a.size - 1]] := rfl
  rw [e0] at m1
  refine wpS_if (fun e => wpS_pure (h _ (gallopOf st) (wholeH_a sB m1 (by simpa using e)))) fun e1 => wpS_if (fun e => wpS_pure (h _ (gallopOf st) (wholeH_l sA sB m1 (by simpa using e) hl))) fun e2 => ?_
  have e1' := ne_of_beq e1
  have e2' := ne_of_beq e2
  clear e1 e2
  refine wpS_bind (wpS_get ?_)
  refine wpS_let ?_
  refine wpS_bind (wpS_mono (wpS_forRange (HiI0 st a b) (Q := HiQ0 st a b) ?step ?fin ⟨⟨gallopOf st, rfl⟩, _, _, _, _, rfl, ⟨m1, by omega, by omega⟩, by omega⟩) ?post)
  case fin =>
    rintro c st' ⟨hg, out, na, nb, g, rfl, hH, hx⟩
    have h1 := hH.ra
    have h2 := hH.rb
    clear e1' e2'
    omega
  case post =>
    rintro c st' ⟨⟨g', rfl⟩, r, rest, rfl, hw⟩
    exact wpS_pure (h r g' hw)
  case step =>
    clear m0 m1 e0 e1' e2' ha1 h
    refine HiI0.all ?_
    intro x g0 out na nb g hH hxx
    refine wpS_let ?_
    refine wpS_bind (wpS_mono (wpS_forRange (fun _ => HiI1 st a b x) (Q := HiQ1 st a b x) ?step1 ?fin1 ⟨⟨g0, rfl⟩, out, na, nb, 0, 0, rfl, hH, hxx⟩) ?post1)
    case fin1 =>
      rintro c st' ⟨h1, h2⟩
      exact ⟨h1, .inr h2⟩
    case step1 =>
      clear hH hxx
      refine HiI1.all ?_
      intro y g1 out na nb ac bc H hxx
      refine wpS_let ?_
      dsimp (zeta := false) only
      have h0 := H.ra
      have rb := H.rb
      have rb0 := Nat.lt_trans Nat.zero_lt_one rb
      have ha := pred_lt h0 H.na
      have hb := pred_lt rb0 H.nb
      refine wpS_bind (wpS_elem hb ?_)
      refine wpS_bind (wpS_elem ha ?_)
      refine wpS_bind (wpS_ltX hk (hB _ (by simp)) (hA _ (by simp)) ?_)
      refine wpS_if (fun hw => wpS_let ?_) (fun hw => wpS_let ?_)
      · refine wpS_bind (wpS_elem ha ?_)
        have hw' := of_decide_eq_true hw
        have m2 := pushH_a sA H.mh ha h0 (fun q hq => Int.le_trans (front_le sB hb rb0 q hq) (Int.le_of_lt hw'))
        refine wpS_let (wpS_let (wpS_let ?_))
        refine wpS_if (fun e => wpS_pure ⟨⟨g1, rfl⟩, .inl ⟨_, _, rfl, wholeH_a sB m2 (by simpa using e)⟩⟩) fun e => ?_
        have hh : HalfH a b _ (na - 1) nb := ⟨m2, Nat.pos_of_ne_zero (ne_of_beq e), rb⟩
        have hm := le_less (k := 1) hxx
        exact wpS_if (fun _ => wpS_pure ⟨⟨g1, rfl⟩, .inr ⟨_, _, _, _, _, rfl, hh, hm⟩⟩) (fun _ => wpS_pure ⟨⟨g1, rfl⟩, _, _, _, _, _, rfl, hh, hm⟩)
      · refine wpS_bind (wpS_elem hb ?_)
        have hw' : ¬ kx b[nb - 1] < kx a[na - 1] := fun z => hw (decide_eq_true z)
        have m2 := pushH_b sB H.mh hb rb0 (fun q hq => Int.le_trans (front_le sA ha h0 q hq) (Int.not_lt.mp hw'))
        refine wpS_let (wpS_let (wpS_let ?_))
        refine wpS_if (fun e => wpS_pure ⟨⟨g1, rfl⟩, .inl ⟨_, _, rfl, wholeH_l sA sB m2 (by simpa using e) hl⟩⟩) fun e => ?_
        have hh : HalfH a b _ na (nb - 1) := ⟨m2, h0, lt_pred2 rb (ne_of_beq e)⟩
        have hm := le_less' (k := 1) hxx
        exact wpS_if (fun _ => wpS_pure ⟨⟨g1, rfl⟩, .inr ⟨_, _, _, _, _, rfl, hh, hm⟩⟩) (fun _ => wpS_pure ⟨⟨g1, rfl⟩, _, _, _, _, _, rfl, hh, hm⟩)
    case post1 =>
      clear hH hxx
      refine HiQ1.all (fun g1 r rest hw => wpS_pure ⟨⟨g1, rfl⟩, r, _, rfl, hw⟩) ?_
      · intro g1 out na nb ac bc H hxx
        refine wpS_let ?_
        refine wpS_bind (wpS_lift (wpAny_rule ⟨rfl, ?_⟩))
        refine wpS_let ?_
        have hT : 1 < a.size + b.size := by
          have h1 := H.na
          have h2 := H.nb
          have h3 := H.rb
          clear hxx
          omega
        refine wpS_bind (wpS_mono (wpS_forRange (HiI st a b x) (Q := HiQ st a b x) ?step2 ?fin2 ⟨⟨g1, rfl⟩, out, na, nb, g + 1, ac, bc, rfl, H, hxx⟩) ?post2)
        case fin2 =>
          rintro c st' ⟨hg, out, na, nb, g, ac, bc, rfl, hH, hxx⟩
          exact ⟨hg, .inr ⟨out, na, nb, g, ac, bc, rfl, hH, by rw [Nat.zero_max] at hxx; omega⟩⟩
        case post2 =>
          clear H hxx hT
          refine HiQ.all (fun g2 r rest hw => wpS_pure ⟨⟨g2, rfl⟩, r, _, rfl, hw⟩) ?_
          · intro g2 out na nb g ac bc hH hxx
            refine wpS_let ?_
            exact wpS_bind (wpS_setMin (wpS_pure ⟨⟨_, rfl⟩, out, na, nb, _, rfl, hH, hxx⟩))
        case step2 =>
          clear H hxx hT
          refine HiI.all ?_
          intro y g1 out na nb g ac bc H hxx
          refine wpS_let ?_
          dsimp (zeta := false) only
          have h0 := H.ra
          have rb := H.rb
          have rb0 := Nat.lt_trans Nat.zero_lt_one rb
          have hal := H.na
          have hb := pred_lt rb0 H.nb
          revert g
          refine wpS_ifG (fun g => g - 1) ?kk fun _ => rfl
          intro g
          refine wpS_bind (wpS_setMin ?_)
          refine wpS_bind (wpS_elem hb ?_)
          refine wpS_bind (wpS_gallop hk (hB _ (by simp)) hA (by rw [Nat.zero_add]; exact hal) (pred_lt h0 (Nat.le_refl _)) (mono_f sA (by rw [Array.length_toList, Nat.zero_add]; exact hal)) fun k hk1 b1 b2 => ?_)
          have hf := found_f0 (by rw [Array.length_toList]; exact hal) b1 b2
          clear b1 b2
          refine wpS_let ?_
          dsimp (zeta := false) only
          generalize hac : na - k = ac2
          generalize hnx : na = nax
          generalize hox : out = outx
          have hR : nax = na ∧ outx = out := ⟨hnx.symm, hox.symm⟩
          clear hnx hox
          revert nax outx
          refine wpS_ifJ (fun x y => x = na ∧ y = out) (fun x y => HalfH a b y x nb ∧ x ≤ na ∧ ∀ q ∈ a.toList.take x, leK q b[nb - 1]) ?kz ?hz ?tz
          case hz =>
            rintro _ _ ⟨rfl, rfl⟩ z
            have z' := eq_of_sub hk1 (by rw [hac]; exact z)
            exact ⟨H, Nat.le_refl _, by rw [← z']; exact hf.1⟩
          case tz =>
            rintro _ _ ⟨rfl, rfl⟩ z hF
            have m1 := chunkH_a sA H.mh (i := k) hk1 (fun q hq p hp => Int.le_trans (front_le sB hb rb0 q hq) (Int.le_of_lt (hf.2 p hp)))
            refine wpS_if (fun e => wpS_pure ⟨⟨_, rfl⟩, .inl ⟨_, _, rfl, wholeH_a sB m1 (by simpa using e)⟩⟩) fun e => ?_
            exact hF _ _ ⟨⟨m1, Nat.pos_of_ne_zero (ne_of_beq e), rb⟩, hk1, hf.1⟩
          case kz =>
            rintro na' out' ⟨H', hle, c1⟩
            have hm := le_sub hxx hle
            have h0' := H'.ra
            have ha := pred_lt h0' H'.na
            clear hf hk1 hac hle hxx H h0 hal
            refine wpS_bind (wpS_elem hb ?_)
            have m2 := pushH_b sB H'.mh hb rb0 c1
            refine wpS_if (fun e => wpS_pure ⟨⟨_, rfl⟩, .inl ⟨_, _, rfl, wholeH_l sA sB m2 (by simpa using e) hl⟩⟩) fun e => ?_
            have rb' := lt_pred2 rb (ne_of_beq e)
            clear e
            refine wpS_bind (wpS_elem ha ?_)
            refine wpS_bind (wpS_gallop hk (hA _ (by simp)) hB (by rw [Nat.zero_add]; exact Nat.le_of_lt hb) (pred_lt (Nat.lt_trans Nat.zero_lt_one rb') (Nat.le_refl _)) (mono_t sB (by rw [Array.length_toList, Nat.zero_add]; exact Nat.le_of_lt hb)) fun k2 hk2 b1 b2 => ?_)
            have hf2 := found_t0 (by rw [Array.length_toList]; exact Nat.le_of_lt hb) b1 b2
            clear b1 b2
            have c3 : ∀ q ∈ b.toList.take k2, leK q a[na' - 1] := fun q hq => Int.le_of_lt (hf2.1 q hq)
            refine wpS_let ?_
            dsimp (zeta := false) only
            generalize hbc : nb - 1 - k2 = bc2
            generalize hox : out'.push b[nb - 1] = outx
            generalize hnx : nb - 1 = nbx
            have hR : nbx = nb - 1 ∧ outx = out'.push b[nb - 1] := ⟨hnx.symm, hox.symm⟩
            clear hnx hox
            revert nbx outx
            refine wpS_ifJ (fun y x => x = nb - 1 ∧ y = out'.push b[nb - 1]) (fun y x => MH a.toList b.toList y.toList.reverse na' x ∧ 1 < x ∧ x ≤ nb - 1 ∧ ∀ q ∈ b.toList.take x, leK q a[na' - 1]) ?kw ?hw ?tw
            case hw =>
              rintro _ _ ⟨rfl, rfl⟩ z
              have z' := eq_of_sub hk2 (by rw [hbc]; exact z)
              exact ⟨m2, rb', Nat.le_refl _, by rw [← z']; exact c3⟩
            case tw =>
              rintro _ _ ⟨rfl, rfl⟩ z hF
              have m3 := chunkH_b sB m2 (i := k2) hk2 (fun q hq p hp => Int.le_trans (front_le sA ha h0' q hq) (hf2.2 p hp))
              refine wpS_if (fun e => wpS_pure ⟨⟨_, rfl⟩, .inl ⟨_, _, rfl, wholeH_l sA sB m3 (by simpa using e) hl⟩⟩) fun e3 => wpS_if (fun e => wpS_pure ⟨⟨_, rfl⟩, .inl ⟨_, _, rfl, wholeH_b sA m3 (by simpa using e)⟩⟩) fun e5 => ?_
              exact hF _ _ ⟨m3, lt_two (ne_of_beq e3) (ne_of_beq e5), hk2, c3⟩
            case kw =>
              rintro o' nb' ⟨m3, rb3, hle, c3⟩
              refine wpS_bind (wpS_elem ha ?_)
              have m4 := pushH_a sA m3 ha h0' c3
              refine wpS_if (fun e => wpS_pure ⟨⟨_, rfl⟩, .inl ⟨_, _, rfl, wholeH_a sB m4 (by simpa using e)⟩⟩) fun e => ?_
              have hh : HalfH a b _ (na' - 1) nb' := ⟨m4, Nat.pos_of_ne_zero (ne_of_beq e), rb3⟩
              have hm' := le_two hm h0' rb0 hle
              exact wpS_if (fun _ => wpS_pure ⟨⟨_, rfl⟩, .inr ⟨_, _, _, _, _, _, rfl, hh, le_drop hm'⟩⟩) (fun _ => wpS_pure ⟨⟨_, rfl⟩, _, _, _, _, _, _, rfl, hh, hm'⟩)
end
end Mine
namespace Mine
theorem K_at {xs : Array Keyed} {i : Nat} (h : i < xs.size) : K xs i = kx xs[i] := by
  unfold K; rw [getElem?_pos xs i h]; rfl
theorem cut_get {xs : Array Keyed} {i j k : Nat} (hj : j ≤ xs.size) (h : k < (xs.extract i j).toList.length) : kx (xs.extract i j).toList[k] = K xs (i + k) ∧ i + k < j := by
  rw [Array.length_toList, Array.size_extract] at h
  have hlt : i + k < j := by omega
  refine ⟨?_, hlt⟩
  rw [K_at (by omega), Array.getElem_toList, Array.getElem_extract]
theorem sl_cut {xs : Array Keyed} {lo hi i j : Nat} (h : SortedIn xs lo hi) (hi' : lo ≤ i) (hj : j ≤ hi) (hs : hi ≤ xs.size) : SL (xs.extract i j).toList := by
  refine List.pairwise_iff_getElem.mpr fun a b ha hb hab => ?_
  have e1 := cut_get (by omega) ha
  have e2 := cut_get (by omega) hb
  show kx _ ≤ kx _
  rw [e1.1, e2.1]
  exact h _ _ (by omega) (by omega) (by omega)
theorem mem_cut {xs : Array Keyed} {i j : Nat} (hj : j ≤ xs.size) {p : Keyed} (h : p ∈ (xs.extract i j).toList) : ∃ k, i ≤ k ∧ k < j ∧ kx p = K xs k := by
  obtain ⟨k, hk, e⟩ := List.getElem_of_mem h
  have e1 := cut_get hj hk
  exact ⟨i + k, by omega, e1.2, by rw [← e, e1.1]⟩
theorem write_at (M : List Keyed) : ∀ (a : Array Keyed) (b o : Nat), b + o + M.length ≤ a.size →
    ((M.zipIdx o).foldl (fun a x => a.setIfInBounds (b + x.2) x.1) a).toList = a.toList.take (b + o) ++ M ++ a.toList.drop (b + o + M.length) := by
  induction M with
  | nil => intro a b o h; simp
  | cons p M ih =>
    intro a b o h
    rw [List.length_cons] at h
    rw [List.zipIdx_cons, List.foldl_cons, ih _ _ _ (by rw [Array.size_setIfInBounds]; omega), Array.toList_setIfInBounds]
    have hlt : b + o < a.toList.length := by rw [Array.length_toList]; omega
    have e1 : (a.toList.set (b + o) p).take (b + (o + 1)) = a.toList.take (b + o) ++ [p] := by
      rw [show b + (o + 1) = b + o + 1 by omega, List.take_succ_eq_append_getElem (by rw [List.length_set]; exact hlt), List.getElem_set_self, List.take_set_of_le (Nat.le_refl _)]
    have e2 : (a.toList.set (b + o) p).drop (b + (o + 1) + M.length) = a.toList.drop (b + o + (M.length + 1)) := by
      rw [show b + (o + 1) + M.length = b + o + (M.length + 1) by omega, List.drop_set_of_lt (by omega)]
    rw [e1, e2, List.length_cons, List.append_assoc, List.append_assoc, List.append_assoc]
    rfl
theorem sorted_of_sl {xs : Array Keyed} (h : SL xs.toList) : SortedIn xs 0 xs.size := by
  intro i j _ hij hj
  rw [K_at hj, K_at (by omega)]
  by_cases e : i = j
  · subst e; exact Int.le_refl _
  · have := List.pairwise_iff_getElem.mp h i j (by rw [Array.length_toList]; omega) (by rw [Array.length_toList]; omega) (by omega)
    rw [Array.getElem_toList, Array.getElem_toList] at this
    exact this
theorem merged_sl {xs : Array Keyed} {n k e : Nat} {M : List Keyed} (hk : k ≤ n) (hne : n ≤ e) (he : e ≤ xs.size) (h1 : SortedIn xs 0 n) (h2 : SortedIn xs n xs.size)
    (ha : ∀ i, i < k → K xs i ≤ K xs n) (hn : n < xs.size) (hb : ∀ i, e ≤ i → i < xs.size → K xs (n - 1) ≤ K xs i) (hn0 : 0 < n)
    (hM : Merged (xs.extract k n).toList (xs.extract n e).toList M) :
    SL (xs.toList.take k ++ M ++ xs.toList.drop e) ∧ (xs.toList.take k ++ M ++ xs.toList.drop e).Perm xs.toList := by
  obtain ⟨hp, hs⟩ := hM
  have hx : xs.toList.take k = (xs.extract 0 k).toList := by simp [Array.toList_extract, List.extract_eq_take_drop]
  have hz : xs.toList.drop e = (xs.extract e xs.size).toList := by
    rw [Array.toList_extract, List.extract_eq_take_drop, List.take_of_length_le]
    rw [List.length_drop, Array.length_toList]; omega
  refine ⟨?_, ?_⟩
  · have m1 : ∀ p ∈ M, p ∈ (xs.extract k n).toList ∨ p ∈ (xs.extract n e).toList := fun p h => List.mem_append.mp (hp.mem_iff.mp h)
    rw [hx, hz]
    refine List.pairwise_append.mpr ⟨List.pairwise_append.mpr ⟨sl_cut h1 (Nat.le_refl 0) hk (by omega), hs, ?_⟩, sl_cut h2 hne (Nat.le_refl _) (Nat.le_refl _), ?_⟩
    · intro p hp q hq
      obtain ⟨i, _, i2, i3⟩ := mem_cut (by omega) hp
      show kx p ≤ kx q
      rcases m1 q hq with hq | hq
      · obtain ⟨j, j1, j2, j3⟩ := mem_cut (by omega) hq
        rw [i3, j3]; exact h1 i j (Nat.zero_le _) (by omega) j2
      · obtain ⟨j, j1, j2, j3⟩ := mem_cut (by omega) hq
        rw [i3, j3]; exact Int.le_trans (ha i i2) (h2 n j (Nat.le_refl _) j1 (by omega))
    · intro p hp q hq
      obtain ⟨j, j1, j2, j3⟩ := mem_cut (Nat.le_refl _) hq
      show kx p ≤ kx q
      rcases List.mem_append.mp hp with hp | hp
      · obtain ⟨i, _, i2, i3⟩ := mem_cut (by omega) hp
        rw [i3, j3]; exact Int.le_trans (ha i i2) (h2 n j (Nat.le_refl _) (by omega) j2)
      · rcases m1 p hp with hp | hp
        · obtain ⟨i, i1, i2, i3⟩ := mem_cut (by omega) hp
          rw [i3, j3]; exact Int.le_trans (h1 i (n - 1) (Nat.zero_le _) (by omega) (by omega)) (hb j j1 j2)
        · obtain ⟨i, i1, i2, i3⟩ := mem_cut (by omega) hp
          rw [i3, j3]; exact h2 i j i1 (by omega) j2
  · have hw : xs.toList = xs.toList.take k ++ ((xs.extract k n).toList ++ (xs.extract n e).toList) ++ xs.toList.drop e := by
      rw [Array.toList_extract, Array.toList_extract, List.extract_eq_take_drop, List.extract_eq_take_drop]
      have a1 : xs.toList = xs.toList.take k ++ xs.toList.drop k := (List.take_append_drop k _).symm
      have a2 : xs.toList.drop k = (xs.toList.drop k).take (n - k) ++ xs.toList.drop n := by
        have := (List.take_append_drop (n - k) (xs.toList.drop k)).symm
        rwa [List.drop_drop, show k + (n - k) = n by omega] at this
      have a3 : xs.toList.drop n = (xs.toList.drop n).take (e - n) ++ xs.toList.drop e := by
        have := (List.take_append_drop (e - n) (xs.toList.drop n)).symm
        rwa [List.drop_drop, show n + (e - n) = e by omega] at this
      rw [List.append_assoc, List.append_assoc, ← a3, ← a2, ← a1]
    refine List.Perm.trans ?_ (List.Perm.of_eq hw.symm)
    exact (hp.append_left _).append_right _
end Mine
namespace Mine
open PySem PyProof.Rows
section
variable {prog : Program} {w : World} {A : Around} {E : Value → Shared → Prop} {s : Shared} {a₀ : Array Keyed} {p : Array (Nat × Nat × Nat)}
theorem mergeAt'_eq (i : Nat) : mergeAt' i = (do
  let s ← get
  let (some (sa, na, power), some (sb, nb, _)) := ((pendingOf s)[i]?, (pendingOf s)[i + 1]?) | unsupported "internal:list.sort.pending"
  set (setPending s (((pendingOf s).setIfInBounds i (sa, na + nb, power)).eraseIdxIfInBounds (i + 1)))
  let some k ← gallop' false (← elem' (arrOf s) sb) (arrOf s) sa na 0 | return false
  let (sa, na) := (sa + k, na - k)
  if na == 0 then return true
  let some nb ← gallop' true (← elem' (arrOf s) (sa + na - 1)) (arrOf s) sb nb (nb - 1) | return false
  if nb == 0 then return true
  let x := (arrOf s).extract sa sb
  let y := (arrOf s).extract sb (sb + nb)
  let merged ← if na ≤ nb then mergeLo' x y else mergeHi' x y
  modify fun s => setArr s (merged.toList.zipIdx.foldl (fun a (p, j) => a.setIfInBounds (sa + j) p) (arrOf s))
  return (failedOf (← get)).isNone) := rfl
theorem wpS_set {σ : Type} {M : Model} {st st' : σ} {Q : PUnit → σ → Prop} (h : Q ⟨⟩ st') : wpS M A E s (set st' : StateT σ Sem PUnit) Q st := by
  unfold wpS; rw [StateT.run_set]; exact wpAny_pure ⟨rfl, h⟩
theorem bey_fK {key : Keyed} {arr : Array Keyed} {base i : Nat} (h : base + i < arr.size) : bey false key arr base i = true ↔ K arr (base + i) ≤ kx key := by
  rw [bey_f (by rw [Array.length_toList]; exact h), K_at h, Array.getElem_toList]
  simp
theorem bey_tK {key : Keyed} {arr : Array Keyed} {base i : Nat} (h : base + i < arr.size) : bey true key arr base i = true ↔ K arr (base + i) < kx key := by
  rw [bey_t (by rw [Array.length_toList]; exact h), K_at h, Array.getElem_toList]
  simp
theorem isK_of {xs : Array Keyed} (hp : xs.Perm a₀) (h0 : IntKeys a₀) : ∀ x ∈ xs.toList, IsK x := fun x hx => h0 x ((Array.perm_iff_toList_perm.mp hp).mem_iff.mp hx)
theorem isK_cut {xs : Array Keyed} (h : ∀ x ∈ xs.toList, IsK x) {i j : Nat} : ∀ x ∈ (xs.extract i j).toList, IsK x := fun x hx => by
  rw [cut_list2] at hx
  exact h x (List.mem_of_mem_drop (List.mem_of_mem_take hx))
theorem size_cut {xs : Array Keyed} {i j : Nat} (hj : j ≤ xs.size) : (xs.extract i j).size = j - i := by rw [Array.size_extract, Nat.min_eq_left hj]
theorem cut_last {k n : Nat} (h : k < n) : k + (n - k - 1) = n - 1 := by omega
theorem wpS_mergeAt {st : SortSt} {n m pw q : Nat} {Q : Bool → SortSt → Prop} (h0 : IntKeys a₀) (hB : SB a₀ #[(0, n, pw), (n, m, q)] st) (hn : 0 < n) (hm : 0 < m) (hs : n + m = a₀.size) (h1 : SortedIn (arrOf st) 0 n) (h2 : SortedIn (arrOf st) n a₀.size)
    (h : ∀ st', SB a₀ #[(0, n + m, pw)] st' → SortedIn (arrOf st') 0 a₀.size → Q true st') : wpS (model prog w) A E s (mergeAt' 0) Q st := by
  rw [mergeAt'_eq]
  have hsz := hB.size
  have hK := isK_of hB.perm h0
  have hS : (arrOf st).size = n + m := hsz.trans hs.symm
  have hn1 : n < (arrOf st).size := by rw [hS]; exact Nat.lt_add_of_pos_right hm
  have hn0 := Nat.le_of_lt hn1
  have hB2 : SB a₀ #[(0, n + m, pw)] (setPending st (((pendingOf st).setIfInBounds 0 (0, n + m, pw)).eraseIdxIfInBounds (0 + 1))) :=
    ⟨hB.perm, hB.kind, hB.failed, by show ((pendingOf st).setIfInBounds 0 (0, n + m, pw)).eraseIdxIfInBounds (0 + 1) = _; rw [hB.pend]; simp [Array.eraseIdxIfInBounds]⟩
  refine wpS_bind (wpS_get ?_)
  have e0 : (pendingOf st)[0]? = some (0, n, pw) := by rw [hB.pend]; rfl
  have e1 : (pendingOf st)[0 + 1]? = some (n, m, q) := by rw [hB.pend]; rfl
  rw [e0, e1]
  dsimp only
  refine wpS_bind (wpS_set ?_)
  refine wpS_bind (wpS_elem hn1 ?_)
  have hKn : IsK (arrOf st)[n] := hK _ (by simp)
  have hmono1 : ∀ i j, i ≤ j → j < n → bey false (arrOf st)[n] (arrOf st) 0 j = true → bey false (arrOf st)[n] (arrOf st) 0 i = true := fun i j hij hj hb => by
    rw [bey_fK (by omega)] at hb ⊢
    exact Int.le_trans (h1 _ _ (Nat.zero_le _) (by omega) (by omega)) hb
  refine wpS_bind (wpS_gallop hB2.kind hKn hK (by omega) hn hmono1 fun k hk hk1 hk2 => ?_)
  have ha : ∀ i, i < k → K (arrOf st) i ≤ K (arrOf st) n := fun i hi => by
    have := (bey_fK (by omega)).mp (hk1 i hi)
    rwa [Nat.zero_add, ← K_at hn1] at this
  have hc : ∀ i, k ≤ i → i < n → K (arrOf st) n < K (arrOf st) i := fun i h3 h4 => by
    have := hk2 i h3 h4
    rw [← Bool.not_eq_true, bey_fK (by omega), ← K_at hn1, Nat.zero_add] at this
    omega
  dsimp only
  by_cases hz : n - k = 0
  · rw [if_pos (by simpa using hz)]
    refine wpS_pure (h _ hB2 ?_)
    intro i j _ hij hj
    show K (arrOf st) i ≤ K (arrOf st) j
    by_cases hj1 : j < n
    · exact h1 i j (Nat.zero_le _) hij hj1
    · by_cases hi1 : i < n
      · exact Int.le_trans (ha i (by omega)) (h2 n j (Nat.le_refl _) (by omega) hj)
      · exact h2 i j (by omega) hij hj
  rw [if_neg (by simpa using hz)]
  have hl0 : 0 + k + (n - k) - 1 = n - 1 := by rw [Nat.zero_add, Nat.add_sub_cancel' hk]
  have hnp : n - 1 < (arrOf st).size := Nat.lt_of_le_of_lt (Nat.sub_le _ _) hn1
  have hl1 : 0 + k + (n - k) - 1 < (arrOf st).size := by rw [hl0]; exact hnp
  refine wpS_bind (wpS_elem hl1 ?_)
  have hKl : kx (arrOf st)[0 + k + (n - k) - 1] = K (arrOf st) (n - 1) := by
    rw [← K_at hl1, hl0]
  have hKl2 : IsK (arrOf st)[0 + k + (n - k) - 1] := hK _ (by simp)
  generalize (arrOf st)[0 + k + (n - k) - 1] = ky at hKl hKl2 ⊢
  have hmono2 : ∀ i j, i ≤ j → j < m → bey true ky (arrOf st) n j = true → bey true ky (arrOf st) n i = true := fun i j hij hj hb => by
    rw [bey_tK (by omega)] at hb ⊢
    exact Int.lt_of_le_of_lt (h2 _ _ (by omega) (by omega) (by omega)) hb
  refine wpS_bind (wpS_gallop hB2.kind hKl2 hK (by omega) (by omega) hmono2 fun f hf hf1 hf2 => ?_)
  have hd : ∀ i, i < f → K (arrOf st) (n + i) < K (arrOf st) (n - 1) := fun i hi => by
    have := (bey_tK (by omega)).mp (hf1 i hi)
    rwa [hKl] at this
  have hb : ∀ i, n + f ≤ i → i < (arrOf st).size → K (arrOf st) (n - 1) ≤ K (arrOf st) i := fun i h3 h4 => by
    have := hf2 (i - n) (by omega) (by omega)
    rw [← Bool.not_eq_true, bey_tK (by omega), hKl, show n + (i - n) = i by omega] at this
    omega
  dsimp only
  by_cases hz2 : f = 0
  · rw [if_pos (by simpa using hz2)]
    refine wpS_pure (h _ hB2 ?_)
    intro i j _ hij hj
    show K (arrOf st) i ≤ K (arrOf st) j
    by_cases hj1 : j < n
    · exact h1 i j (Nat.zero_le _) hij hj1
    · by_cases hi1 : i < n
      · exact Int.le_trans (h1 i (n - 1) (Nat.zero_le _) (by omega) (by omega)) (hb j (by omega) (by omega))
      · exact h2 i j (by omega) hij hj
  rw [if_neg (by simpa using hz2)]
  simp only [Nat.zero_add]
  have hf0 : n + f ≤ (arrOf st).size := by rw [hS]; exact Nat.add_le_add_left hf n
  have sX : SL ((arrOf st).extract k n).toList := sl_cut h1 (Nat.zero_le _) (Nat.le_refl _) hn0
  have sY : SL ((arrOf st).extract n (n + f)).toList := sl_cut h2 (Nat.le_refl _) (by omega) (by omega)
  have zX : 0 < ((arrOf st).extract k n).size := by rw [size_cut hn0]; exact Nat.pos_of_ne_zero hz
  have zY : 0 < ((arrOf st).extract n (n + f)).size := by rw [size_cut hf0, Nat.add_sub_cancel_left]; exact Nat.pos_of_ne_zero hz2
  have cXY : ∀ q ∈ ((arrOf st).extract k n).toList, leK (((arrOf st).extract n (n + f))[0]) q := fun q hq => by
    obtain ⟨i, i1, i2, i3⟩ := mem_cut (by omega) hq
    show kx _ ≤ kx q
    rw [i3, Array.getElem_extract, ← K_at (by omega)]
    exact Int.le_of_lt (hc i i1 i2)
  have cYX : ∀ q ∈ ((arrOf st).extract n (n + f)).toList, kx q ≤ K (arrOf st) (n - 1) := fun q hq => by
    obtain ⟨i, i1, i2, i3⟩ := mem_cut (by omega) hq
    rw [i3]
    have := hd (i - n) (by omega)
    rw [show n + (i - n) = i by omega] at this
    exact Int.le_of_lt this
  have lX : kx (((arrOf st).extract k n)[((arrOf st).extract k n).size - 1]'(Nat.sub_lt zX Nat.one_pos)) = K (arrOf st) (n - 1) := by
    have q : k + (((arrOf st).extract k n).size - 1) = n - 1 := by rw [size_cut hn0]; exact cut_last (Nat.lt_of_sub_ne_zero hz)
    rw [Array.getElem_extract, ← K_at (by rw [q]; exact hnp), q]
  have fin : ∀ out g, Whole ((arrOf st).extract k n) ((arrOf st).extract n (n + f)) out →
      wpS (model prog w) A E s (do
        modify fun s => setArr s (out.toList.zipIdx.foldl (fun a (p, j) => a.setIfInBounds (k + j) p) (arrOf s))
        return (failedOf (← get)).isNone) Q (gal (setPending st (((pendingOf st).setIfInBounds 0 (0, n + m, pw)).eraseIdxIfInBounds (0 + 1))) g) := fun out g hw => by
    refine wpS_bind (wpS_modify (wpS_bind (wpS_get (wpS_pure ?_))))
    have hlen : out.toList.length = n - k + f := by
      rw [hw.1.length_eq, List.length_append, Array.length_toList, Array.length_toList, size_cut hn0, size_cut hf0, Nat.add_sub_cancel_left]
    have e5 := write_at out.toList (arrOf st) k 0 (by omega)
    rw [Nat.add_zero, show k + out.toList.length = n + f by omega] at e5
    obtain ⟨r1, r2⟩ := merged_sl (xs := arrOf st) hk (Nat.le_add_right n f) (by omega) h1 (by rw [hsz]; exact h2) ha hn1 hb hn hw
    rw [← e5] at r1 r2
    have r3 : (out.toList.zipIdx.foldl (fun a (x : Keyed × Nat) => a.setIfInBounds (k + x.2) x.1) (arrOf st)).Perm (arrOf st) := Array.perm_iff_toList_perm.mpr r2
    have r4 := sorted_of_sl r1
    rw [r3.size_eq, hsz] at r4
    show Q (failedOf st).isNone _
    rw [hB.failed]
    exact h _ ⟨r3.trans hB.perm, hB.kind, hB.failed, hB2.pend⟩ r4
  by_cases hle : n - k ≤ f
  · rw [if_pos hle]
    refine wpS_bind (wpS_mergeLo hB2.kind (isK_cut hK) (isK_cut hK) sX sY zX zY cXY ?_ fin)
    intro p hp q hq
    rw [← cut_rest] at hq
    obtain ⟨i, i1, i2, i3⟩ := mem_cut (Nat.le_refl _) hq
    show kx p ≤ kx q
    rw [i3, K_at i2]
    have : i = ((arrOf st).extract k n).size - 1 := by omega
    subst this
    rw [lX]
    exact cYX p hp
  · rw [if_neg hle]
    refine wpS_bind (wpS_mergeHi hB2.kind (isK_cut hK) (isK_cut hK) sX sY zX zY ?_ (fun q hq => by show kx q ≤ kx _; rw [lX]; exact cYX q hq) fin)
    intro q hq p hp
    have : q = ((arrOf st).extract n (n + f))[0] := by
      obtain ⟨j, j1, j2, e⟩ := mem_take hq
      have : j = 0 := by omega
      subst this
      rw [e, Array.getElem_toList]
    rw [this]; exact cXY p hp
theorem minRun_two {n : Nat} (h1 : 64 ≤ n) (h2 : n < 128) : minRun' n n 0 = n / 2 + n % 2 := by
  obtain ⟨f, rfl⟩ : ∃ f, n = f + 2 := ⟨n - 2, by omega⟩
  rw [minRun'_succ, if_neg (by omega), minRun'_succ, if_pos (by omega), Nat.max_eq_right (Nat.zero_le _)]
noncomputable def One (a₀ : Array Keyed) (st : SortSt) : Prop := (∃ q, SB a₀ #[(0, a₀.size, q)] st) ∧ SortedIn (arrOf st) 0 a₀.size
noncomputable def Two (a₀ : Array Keyed) (st : SortSt) : Prop := ∃ n m pw, 0 < n ∧ 0 < m ∧ n + m = a₀.size ∧ SB a₀ #[(0, n, pw), (n, m, 0)] st ∧ SortedIn (arrOf st) 0 n ∧ SortedIn (arrOf st) n a₀.size
theorem SB.push {st : SortSt} (hB : SB a₀ p st) (x : Nat × Nat × Nat) : SB a₀ (p.push x) (setPending st ((pendingOf st).push x)) :=
  ⟨hB.perm, hB.kind, hB.failed, by show (pendingOf st).push _ = _; rw [hB.pend]⟩
theorem modify_one (n q pw : Nat) {p : Array (Nat × Nat × Nat)} (h : p = #[(0, n, q)]) : (p.modify (p.size - 1) fun (a, len, _) => (a, len, pw)) = #[(0, n, pw)] := by
  subst h
  apply Array.ext'
  simp
theorem SB.power {st : SortSt} {n q pw : Nat} (hB : SB a₀ #[(0, n, q)] st) : SB a₀ #[(0, n, pw)] (setPending st ((pendingOf st).modify ((pendingOf st).size - 1) fun (st, len, _) => (st, len, pw))) :=
  ⟨hB.perm, hB.kind, hB.failed, modify_one n q pw hB.pend⟩
theorem SortedIn.same {xs ys : Array Keyed} {n : Nat} (h : SortedIn xs 0 n) (k : SameTo ys xs n) : SortedIn ys 0 n := fun i j a b c => by
  rw [k i (by omega), k j c]; exact h i j a b c
theorem wpS_sortTwo {st : SortSt} {Q : Unit → SortSt → Prop} (h0 : IntKeys a₀) (hB : SB a₀ #[] st) (h64 : 64 ≤ a₀.size) (h128 : a₀.size < 128)
    (h : ∀ st', (arrOf st').Perm a₀ → failedOf st' = none → SortedIn (arrOf st') 0 a₀.size → Q () st') : wpS (model prog w) A E s sortRuns' Q st := by
  rw [sortRuns'_eq]
  refine wpS_bind (wpS_get ?_)
  dsimp only
  simp only [hB.size, minRun_two h64 h128]
  obtain ⟨mr, hmr⟩ : ∃ mr, mr = a₀.size / 2 + a₀.size % 2 := ⟨_, rfl⟩
  rw [← hmr]
  have hm2 : a₀.size ≤ 2 * mr := by omega
  have hm3 : 0 < mr ∧ mr < a₀.size := by omega
  refine wpS_bind (wpS_mono (wpS_forRange
    (I := fun x c st' => (x = 0 ∧ c = (none, 0) ∧ SB a₀ #[] st') ∨ (x = 1 ∧ ∃ n, c = (none, n) ∧ mr ≤ n ∧ n ≤ a₀.size ∧ SB a₀ #[(0, n, 0)] st' ∧ SortedIn (arrOf st') 0 n) ∨ (2 ≤ x ∧ c = (none, a₀.size) ∧ Two a₀ st'))
    (Q := fun c st' => c = (none, a₀.size) ∧ (One a₀ st' ∨ Two a₀ st')) ?step ?fin (.inl ⟨rfl, rfl, hB⟩)) ?post)
  case fin =>
    rintro c st' (⟨hx, _, _⟩ | ⟨hx, _⟩ | ⟨_, hc, hD⟩)
    · omega
    · omega
    · exact ⟨hc, .inr hD⟩
  case step =>
    rintro x c st' _ hx (⟨rfl, rfl, hB'⟩ | ⟨rfl, n, rfl, hn1, hn2, hB', hs'⟩ | ⟨hx1, rfl, hD⟩)
    · dsimp only
      rw [if_neg (by omega)]
      simp only [Nat.sub_zero, Nat.zero_add]
      refine wpS_bind (wpS_count2 h0 (by omega) (by omega) hB' fun m st2 hB2 c1 c2 hs2 _ => ?_)
      dsimp only
      rw [Nat.zero_add] at hs2
      by_cases hlt : m < mr
      · rw [if_pos hlt]
        refine wpS_bind (wpS_lift (wpAny_rule ⟨rfl, ?_⟩))
        have em : min a₀.size mr = mr := Nat.min_eq_right (by omega)
        simp only [em]
        refine wpS_bind (wpS_binary2 h0 (by omega) (by omega) hB2 (by rw [Nat.zero_add]; exact hs2) fun st3 hB3 hs3 _ => ?_)
        rw [Nat.zero_add] at hs3
        simp only [Bool.not_true, Bool.false_eq_true, if_false]
        refine wpS_bind (wpS_get ?_)
        have hb : (pendingOf st3).back? = none := by rw [hB3.pend]; rfl
        rw [hb]
        dsimp only
        exact wpS_bind (wpS_modify (wpS_pure (.inr (.inl ⟨trivial, _, rfl, Nat.le_refl _, Nat.le_of_lt hm3.2, hB3.push (0, mr, 0), hs3⟩))))
      · rw [if_neg hlt]
        refine wpS_bind (wpS_get ?_)
        have hb : (pendingOf st2).back? = none := by rw [hB2.pend]; rfl
        rw [hb]
        dsimp only
        have c3 : mr ≤ m := by omega
        exact wpS_bind (wpS_modify (wpS_pure (.inr (.inl ⟨trivial, _, rfl, c3, c2, hB2.push (0, m, 0), hs2⟩))))
    · dsimp only
      by_cases hge : n ≥ a₀.size
      · rw [if_pos hge]
        have : n = a₀.size := by omega
        subst this
        exact wpS_pure ⟨rfl, .inl ⟨⟨0, hB'⟩, hs'⟩⟩
      rw [if_neg hge]
      refine wpS_bind (wpS_count2 h0 (by omega) (by omega) hB' fun m st2 hB2 c1 c2 hs2 hf2 => ?_)
      dsimp only
      have two : ∀ st3, SB a₀ #[(0, n, 0)] st3 → SortedIn (arrOf st3) n a₀.size → SameTo (arrOf st3) (arrOf st') n →
          ∀ pw : Nat, Two a₀ (setPending (setPending st3 ((pendingOf st3).modify ((pendingOf st3).size - 1) fun (st, len, _) => (st, len, pw))) ((pendingOf (setPending st3 ((pendingOf st3).modify ((pendingOf st3).size - 1) fun (st, len, _) => (st, len, pw)))).push (n, a₀.size - n, 0))) := fun st3 b1 b2 b3 pw =>
        ⟨n, a₀.size - n, pw, by omega, by omega, by omega, b1.power.push (n, a₀.size - n, 0), hs'.same b3, b2⟩
      by_cases hlt : m < mr
      · rw [if_pos hlt]
        refine wpS_bind (wpS_lift (wpAny_rule ⟨rfl, ?_⟩))
        have em : min (a₀.size - n) mr = a₀.size - n := Nat.min_eq_left (by omega)
        simp only [em]
        refine wpS_bind (wpS_binary2 h0 (by omega) (by omega) hB2 hs2 fun st3 hB3 hs3 hf3 => ?_)
        rw [show n + (a₀.size - n) = a₀.size by omega] at hs3
        simp only [Bool.not_true, Bool.false_eq_true, if_false]
        refine wpS_bind (wpS_get ?_)
        have hb : (pendingOf st3).back? = some (0, n, 0) := by rw [hB3.pend]; rfl
        rw [hb]
        dsimp only
        refine wpS_bind (wpS_mono (wpS_forRange (I := fun _ c st'' => st'' = st3 ∧ c = (none, ())) (Q := fun c st'' => st'' = st3 ∧ c = (none, ())) ?_ (fun _ _ hh => hh) ⟨rfl, rfl⟩) ?_)
        · rintro x c st'' _ _ ⟨rfl, rfl⟩
          refine wpS_bind (wpS_get ?_)
          have hz : (pendingOf st'').size = 1 := by rw [hB3.pend]; rfl
          rw [if_neg (by omega)]
          exact wpS_pure ⟨rfl, rfl⟩
        · rintro c st'' ⟨rfl, rfl⟩
          dsimp only
          refine wpS_bind (wpS_modify (wpS_bind (wpS_modify (wpS_pure (.inr (.inr ⟨by omega, ?_, two _ hB3 hs3 (hf3.trans hf2) _⟩))))))
          rw [show n + (a₀.size - n) = a₀.size by omega]
      · rw [if_neg hlt]
        have hmm : m = a₀.size - n := by omega
        subst hmm
        rw [show n + (a₀.size - n) = a₀.size by omega] at hs2
        refine wpS_bind (wpS_get ?_)
        have hb : (pendingOf st2).back? = some (0, n, 0) := by rw [hB2.pend]; rfl
        rw [hb]
        dsimp only
        refine wpS_bind (wpS_mono (wpS_forRange (I := fun _ c st'' => st'' = st2 ∧ c = (none, ())) (Q := fun c st'' => st'' = st2 ∧ c = (none, ())) ?_ (fun _ _ hh => hh) ⟨rfl, rfl⟩) ?_)
        · rintro x c st'' _ _ ⟨rfl, rfl⟩
          refine wpS_bind (wpS_get ?_)
          have hz : (pendingOf st'').size = 1 := by rw [hB2.pend]; rfl
          rw [if_neg (by omega)]
          exact wpS_pure ⟨rfl, rfl⟩
        · rintro c st'' ⟨rfl, rfl⟩
          dsimp only
          refine wpS_bind (wpS_modify (wpS_bind (wpS_modify (wpS_pure (.inr (.inr ⟨by omega, ?_, two _ hB2 hs2 hf2 _⟩))))))
          rw [show n + (a₀.size - n) = a₀.size by omega]
    · dsimp only
      rw [if_pos (Nat.le_refl _)]
      exact wpS_pure ⟨rfl, .inr hD⟩
  case post =>
    rintro c st' ⟨rfl, hD⟩
    dsimp only
    refine wpS_bind (wpS_mono (wpS_forRange (I := fun x c st'' => c = (none, ()) ∧ (One a₀ st'' ∨ (x = 0 ∧ Two a₀ st''))) (Q := fun c st'' => c = (none, ()) ∧ One a₀ st'') ?_ ?_ ⟨rfl, hD.imp id fun h => ⟨rfl, h⟩⟩) ?_)
    · rintro x c st'' _ _ ⟨rfl, (hO | ⟨rfl, n, m, pw, n1, m1, nm, b1, b2, b3⟩)⟩
      · refine wpS_bind (wpS_get ?_)
        obtain ⟨q, hq⟩ := hO.1
        have hz : (pendingOf st'').size = 1 := by rw [hq.pend]; rfl
        rw [if_pos (by omega)]
        exact wpS_pure ⟨rfl, hO⟩
      · refine wpS_bind (wpS_get ?_)
        have hz : (pendingOf st'').size = 2 := by rw [b1.pend]; rfl
        rw [if_neg (by omega)]
        simp only [hz, Nat.sub_self, gt_iff_lt, Nat.lt_irrefl, if_false, Option.any_none, Bool.false_eq_true]
        refine wpS_bind (wpS_mergeAt h0 b1 n1 m1 nm b2 b3 fun st3 d1 d2 => ?_)
        simp only [Bool.not_true, Bool.false_eq_true, if_false]
        rw [nm] at d1
        exact wpS_pure ⟨rfl, .inl ⟨⟨_, d1⟩, d2⟩⟩
    · rintro c st'' ⟨rfl, (hO | ⟨hx, _⟩)⟩
      · exact ⟨rfl, hO⟩
      · omega
    · rintro c st'' ⟨rfl, ⟨q, hq⟩, hs⟩
      exact wpS_pure (h _ hq.perm hq.failed hs)
end
end Mine
namespace Mine
open PySem PyProof.Rows
section
variable {prog : Program} {w : World} {A : Around} {E : Value → Shared → Prop} {s : Shared}
theorem wpS_sort {st : SortSt} {a₀ : Array Keyed} {Q : Unit → SortSt → Prop} (h0 : IntKeys a₀) (hB : SBase a₀ st) (h2 : 2 ≤ a₀.size) (h128 : a₀.size < 128)
    (h : ∀ st', (arrOf st').Perm a₀ → failedOf st' = none → SortedTo (arrOf st') a₀.size → Q () st') : wpS (model prog w) A E s sortRuns' Q st := by
  by_cases h64 : a₀.size < 64
  · exact wpS_sortRuns h0 hB h2 h64 h
  · exact wpS_sortTwo h0 ⟨hB.perm, hB.kind, hB.failed, hB.pend⟩ (by omega) h128 fun st' a b c => h st' a b fun i j hij hj => c i j (Nat.zero_le _) hij hj
theorem sort_tree {a : Addr} {vs : List Value} {ns : List Int} {n : Nat} {P : Fin → Shared → Prop} (ho : s.heap.get? a = some (seqObj "list" vs.toArray n))
    (hI : IntsAre vs ns) (h128 : vs.length < 128)
    (h : ∀ (out : Array Value) (ns' : List Int), IntsAre out.toList ns' → ns'.Perm ns → ns'.Pairwise (· ≤ ·) → P (.done (.ret .none)) { s with heap := sortedHeap s.heap a vs out }) :
    wpAny (model prog w) A (Builtin.«list.sort» ⟨[.ref a], []⟩) P E s := by
  by_cases h64 : vs.length < 64
  · exact list_sort_tree ho hI h64 h
  have ha : a < s.heap.objs.size := Heap.lt_size ho
  have hz : vs.toArray.size = vs.length := List.size_toArray
  obtain ⟨v₁, v₂, rest, rfl⟩ : ∃ v₁ v₂ rest, vs = v₁ :: v₂ :: rest := by
    cases vs with
    | nil => simp at h64
    | cons v₁ r => cases r with
      | nil => simp at h64
      | cons v₂ rest => exact ⟨v₁, v₂, rest, rfl⟩
  rw [list_sort_plain]
  refine wpAny_bind (listItems_at ho rfl (wpAny_bind (listUpdate_at ho rfl ?_)))
  obtain ⟨e1, ho1⟩ : ∃ e1, (s.heap.update a (Obj.mapSeq fun _ => #[])).get? a = some (seqObj "list" #[] e1) := ⟨_, get?_update_seq ho (fun _ => #[])⟩
  refine wpAny_bind (seqEpoch_at ho1 rfl (wpAny_bind (wpAny_newTuple (wpAny_bind (wpAny_newList (wpAny_holding ?_))))))
  have hz1 : (s.heap.update a (Obj.mapSeq fun _ => #[])).objs.size = s.heap.objs.size := Heap.size_update ..
  have ho6 : (((s.heap.update a (Obj.mapSeq fun _ => #[])).push (seqObj "tuple" (v₁ :: v₂ :: rest).toArray 0)).push (seqObj "list" #[] 0)).get? a = some (seqObj "list" #[] e1) :=
    Heap.get?_push_of_some _ (Heap.get?_push_of_some _ ho1)
  show wpAny (model prog w) A _ P E { s with heap := ((s.heap.update a (Obj.mapSeq fun _ => #[])).push (seqObj "tuple" (v₁ :: v₂ :: rest).toArray 0)).push (seqObj "list" #[] 0) }
  dsimp only
  rw [if_neg (by omega), if_neg (by omega), keyKind_ints hI]
  refine wpAny_bind (wpAny_pure ?_)
  refine wpAny_bind (wpAny_mono (wpS_sort (a₀ := pairsOf (v₁ :: v₂ :: rest)) (st := SortSt.mk' oneType' ((v₁ :: v₂ :: rest).toArray.zip (v₁ :: v₂ :: rest).toArray) #[] 7 none)
    (Q := fun _ st' => (arrOf st').Perm (pairsOf (v₁ :: v₂ :: rest)) ∧ failedOf st' = none ∧ SortedTo (arrOf st') (pairsOf (v₁ :: v₂ :: rest)).size)
    hI.intKeys ⟨Array.Perm.refl _, rfl, rfl, rfl⟩ (by rw [pairsOf_size]; omega) (by rw [pairsOf_size]; exact h128) fun st' a1 a2 a3 => ⟨a1, a2, a3⟩) ?_ fun _ _ e => e)
  rintro ⟨⟨⟩, st'⟩ s' ⟨rfl, hp, hf, hs⟩
  dsimp only
  refine wpAny_bind (seqEpoch_at ho6 rfl (wpAny_bind (listUpdate_at ho6 rfl ?_ (hsz2 := ?_))))
  · rw [hf]
    simp only [bne_self_eq_false, Bool.false_eq_true, if_false]
    obtain ⟨ns', h1, h2, h3⟩ := sorted_out hI hp hs
    exact wpAny_pure (h _ ns' h1 h2 h3)
  · refine Nat.le_trans (Nat.le_of_eq ((Array.size_map ..).trans (hp.size_eq.trans (pairsOf_size _)))) ?_
    rw [sizeLine_eq]; omega
theorem sort_led {h₀ : Heap} {L D : Addr} {m : Str → Option Value} {news : List (Addr × Obj)} {vs : List Value} {ns : List Int} {c : Nat} {Q : Value → Shared → Prop}
    (F : Fr h₀ L s.heap m) (N : News h₀ L s.heap ((D, seqObj "list" vs.toArray c) :: news)) (hn : ∀ q ∈ news, q.1 ≠ D) (hI : IntsAre vs ns) (h128 : vs.length < 128)
    (h : ∀ h' vs' ns' e, Fr h₀ L h' m → News h₀ L h' ((D, seqObj "list" vs'.toArray e) :: news) → IntsAre vs' ns' → ns'.Perm ns → ns'.Pairwise (· ≤ ·) → Q .none { s with heap := h' }) :
    wpAny (model prog w) A (call (.builtin "list.sort") [.ref D]) Q E s := by
  have hD := N _ (.head _)
  refine wpAny_call_entry slot_list_sort ⟨_, hD.1, rfl⟩ entry_list_sort (sort_tree hD.1 hI h128 fun out ns' a1 a2 a3 => ⟨_, rfl, ?_⟩) (args_list_sort _)
  obtain ⟨e, he⟩ := sortedHeap_at (out := out) hD.1
  have old : ∀ b o, b ≠ D → s.heap.get? b = some o → (sortedHeap s.heap D vs out).get? b = some o := fun b o hb ho => by
    rw [sortedHeap_old hb (Heap.lt_size ho)]; exact ho
  refine h _ out.toList ns' e ?_ ?_ a1 a2 a3
  · obtain ⟨oL, b1, b2, hL, b3⟩ := F.ns
    refine ⟨⟨oL, b1, b2, old _ _ (fun q => hD.2.1 q.symm) hL, b3⟩, fun b o hb => old _ _ (fun q => ?_) (F.keep b o hb), F.above⟩
    rw [q, hD.2.2] at hb; cases hb
  · intro p hp
    rcases List.mem_cons.mp hp with rfl | hp
    · exact ⟨he, hD.2⟩
    · exact ⟨old _ _ (hn p hp) (N p (.tail _ hp)).1, (N p (.tail _ hp)).2⟩
end
end Mine
namespace Mine
open PySem PySem.W PyProof.Rows PyProof.V
theorem flat_keys : ∀ {kvs : List (Int × Value)} {c : List (Int × Int)}, FlatPairs PyData.int kvs (kdfD c) → kvs.map (·.1) = c.map (·.1)
  | [], [], _ => rfl
  | [], _ :: _, h => by cases h
  | _ :: _, [], h => by cases h
  | (k, v) :: kvs, (i, x) :: c, h => by
    cases h with
    | cons _ r => rw [List.map_cons, List.map_cons, flat_keys r]
theorem ints_keys : ∀ {vs : List Value} {kvs : List (Int × Value)}, vs.length = kvs.length → (∀ (j : Nat) (v : Value), vs[j]? = some v → ∃ k x, kvs[j]? = some (k, x) ∧ v.isInt k = true) → IntsAre vs (kvs.map (·.1))
  | [], [], _, _ => .nil
  | [], _ :: _, h, _ => by simp at h
  | _ :: _, [], h, _ => by simp at h
  | v :: vs, (k, x) :: kvs, h, hv => by
    obtain ⟨k', x', e, hk⟩ := hv 0 v rfl
    cases e
    obtain ⟨t, rfl⟩ := Value.isInt_shape hk
    exact .cons k t (ints_keys (by simpa using h) fun j u hu => hv (j + 1) u hu)
section
variable {prog : Program} {w : World} {A : Around} {E : Value → Shared → Prop} {s : Shared}
theorem sorted_tab {h₀ : Heap} {L d : Addr} {m : Str → Option Value} {news : List (Addr × Obj)} {o : Obj} {kvs : List (Int × Value)} {c : List (Int × Int)} {Q : Value → Shared → Prop}
    (hh : A.handled = none) (F : Fr h₀ L s.heap m) (N : News h₀ L s.heap news) (hm : (d, o) ∈ news) (hd : o.IsDictOf (intKind prog w) kvs) (hf : FlatPairs PyData.int kvs (kdfD c)) (lo : (d == sysModules) = false) (hc : c.length < 128)
    (h : ∀ D h' tk vs' ns' e, Fr h₀ L h' m → News h₀ L h' ((D, seqObj "list" vs'.toArray e) :: news) → (∀ q ∈ news, q.1 < D) → IntsAre vs' ns' → ns'.Perm (c.map (·.1)) → ns'.Pairwise (· ≤ ·) → Q (.ref D) { s with heap := h', toks := tk }) :
    wpAny (model prog w) A (call (.builtin "sorted") [.ref d]) Q E s := by
  obtain ⟨ep, hat⟩ := (kda_dict N hm hd).dictAt
  have hk := flat_keys hf
  have hl : kvs.length = c.length := by have := congrArg List.length hk; rwa [List.length_map, List.length_map] at this
  refine kdu_sorted (kdl_dict (knd := intKind prog w) (kvs := kvs) (ep := ep) lo) hh F N hat (by rw [hl, sizeLine_eq]; omega) fun D h' tk vs F' N' l1 hn hv => ?_
  refine sort_led F' N' (fun q hq => Nat.ne_of_lt (l1 q hq)) (ints_keys hn hv) (by omega) fun h2 vs' ns' e F2 N2 a1 a2 a3 => ?_
  exact h D h2 tk vs' ns' e F2 N2 l1 a1 (by rw [← hk]; exact a2) a3
end
end Mine
namespace Mine
theorem c_many (w : World) (mean : ExcName → Option Value) (mg mb : Str → Option Value) (C : Addr) (vs : List Value) (ds : List Dat) (k : Nat) (hok : ∀ d ∈ ds, ClockOk d) (hlen : ds.length ≤ 40) (p : Int) (tp : Tok) :
    Cv PySem.Challenge.rw_uf050027_06.row.prog w (k06.heap_1 w.params) vw06 (looseW vw06 []) mean mg mb 94 2 [.ref C, .int p tp] (fun news => (C, ({ cls := .type "list", data := .seq vs.toArray k } : Obj)) ∈ news ∧ DatAll news vs ds) (fun r => ∃ t, r = .int (cnt (sts ds) p) t) := by
  unfold Cv
  k_fill
  w_top off
  intro dp un gd cn cs a ccd cl outer A₀ base h₀ L m news s Q E B F X N T hk hd hu hP hret
  obtain ⟨hm, hD⟩ := hP
  refine wpAny_call ?_
  k_dflt cell_enter
  k_with_none
  k_with "exec For Tuple Name cons nil" => (k_here; (rename Fr _ _ _ _ => lF'); (with_unfolding_all refine' For_turns lF' ?_; k_whole))
  k_steps
  (rename Fr _ _ _ _ => lF')
  (rename News _ _ _ _ => lN')
  k_dflt (refine' Mine.loop_listD (σ := Int × Tok) (fun c => [(Str.ofString "_law_found", Value.int c.1 c.2)]) [Str.ofString "_law_name", Str.ofString "_law_stretch"] (fun pre c => c.1 = cnt (sts pre) p) (0, _) hD (by rfl) lF' lN' hm rfl rfl (List.forall_mem_cons.mpr ⟨rfl, List.forall_mem_nil _⟩) rfl ?_ ?_)
  (all_goals (clear lF' lN'))
  · intro pre8 d8 post8 v8 c8 u8 I8 o8 h8 tk8 e8 hd8 hI8 hP8 hne8 ho8 F8 N8
    obtain ⟨x8, tx8⟩ := c8
    dsimp only at hP8 F8
    rcases clock_at hI8 (hok d8 hd8) with ⟨a8, n8, y8, ty8, rfl, hm8, hs8, _⟩ | ⟨a8, n8, y8, ty8, b8, k8, lo8, hi8, t18, t28, rfl, hm8, hb8, hs8, hbd8, _⟩
    · k_steps
      all_goals ((rename Fr _ _ _ _ => lF8); (rename News _ _ _ _ => lN8); k_dflt (refine' Mine.still_int lF8 lN8 ?lK (List.Mem.head _) (fun p hp => List.Mem.tail _ hp) ?lO ?lR ?lP; (case lK => first | exact if_pos rfl | exact rfl); (case lO => assumption); (case lP => first | exact cnt_not hs8 hP8 | exact cnt_in hs8 (by omega) (by omega) hP8 | exact cnt_out hs8 (by omega) hP8); (case lR => (intro z h4 h3; (simp only [List.contains_cons, List.contains_nil, Bool.or_false, Bool.or_eq_false_iff, beq_eq_false_iff_ne, ne_eq] at h3 h4); (simp [h3, h4, kstB]; done)))))
    · k_steps
      all_goals ((rename Fr _ _ _ _ => lF8); (rename News _ _ _ _ => lN8); k_dflt (refine' Mine.still_int lF8 lN8 ?lK (List.Mem.head _) (fun p hp => List.Mem.tail _ hp) ?lO ?lR ?lP; (case lK => first | exact if_pos rfl | exact rfl); (case lO => assumption); (case lP => first | exact cnt_not hs8 hP8 | exact cnt_in hs8 (by omega) (by omega) hP8 | exact cnt_out hs8 (by omega) hP8); (case lR => (intro z h4 h3; (simp only [List.contains_cons, List.contains_nil, Bool.or_false, Bool.or_eq_false_iff, beq_eq_false_iff_ne, ne_eq] at h3 h4); (simp [h3, h4, kstB]; done)))))
  · intro c8 u8 h8 tk8 hP8 F8 N8
    obtain ⟨x8, tx8⟩ := c8
    dsimp only at hP8 F8
    subst hP8
    k_steps
    all_goals first | (refine' hret _ _ _ ⟨_, rfl⟩ ?q2 ?q3; (case q2 => k_asm); (case q3 => k_asm))
end Mine
namespace Mine
theorem c_runs (w : World) (mean : ExcName → Option Value) (mg mb : Str → Option Value) (C : Addr) (vs : List Value) (ds : List Dat) (k : Nat) (hok : ∀ d ∈ ds, ClockOk d) (hlen : ds.length ≤ 40) :
    Cm PySem.Challenge.rw_uf050027_06.row.prog w (k06.heap_1 w.params) vw06 (looseW vw06 []) mean mg mb 33 2 [.ref C] (fun _ news => (C, ({ cls := .type "list", data := .seq vs.toArray k } : Obj)) ∈ news ∧ DatAll news vs ds) (fun r add => ∃ D ys e pts, r = .ref D ∧ (D, ({ cls := .type "list", data := .seq (List.toArray ys) e } : Obj)) ∈ add ∧ Pts (sts ds) pts ∧ pts.length ≤ 80 ∧ DatAll add ys ((runsOf (sts ds) pts).map runD)) := by
  unfold Cm
  k_fill
  w_top off
  intro dp un gd cn cs a ccd cl outer A₀ base h₀ L m news s Q E B F X N T hk hd hu hP hret
  obtain ⟨hm, hD⟩ := hP
  refine wpAny_call ?_
  k_dflt cell_enter
  k_with_none
  k_with "exec For Tuple Name cons nil" => (k_here; (rename Fr _ _ _ _ => lF'); (with_unfolding_all refine' For_turns lF' ?_; k_whole))
  k_with "exec For Name Call cons nil" => (k_here; (rename Fr _ _ _ _ => lF'); (with_unfolding_all refine' For_turns lF' ?_; k_whole))
  k_with "setItem ref int" => (k_here; (with_reducible show wpAny _ _ (setItem (Value.ref _) (Value.int _ _) (Value.int _ _)) _ _ _); k_dflt (refine' kdf_setItem ?F ?N ?U ?d ?f ?z ?_; (case F => k_asm); (case N => k_asm); (case U => k_updF); (case d => k_asm); (case f => k_asm); (case z => first | omega | (refine Nat.le_trans (put_len _ _ _) ?_; omega))); intro h' o' kvs' F' N' hd' hf'; (try dsimp only at N'))
  k_steps
  (rename Obj.IsDictOf (intKind _ _) _ _ => hi')
  (rename PyProof.V.FlatPairs PyData.int _ _ => fi')
  (rename Fr _ _ _ _ => lF')
  (rename News _ _ _ _ => lN')
  (rename ∀ p ∈ news, p.1 < _ => lA')
  k_dflt (refine' Mine.loop_listH (σ := Unit) (fun _ => []) [Str.ofString "name", Str.ofString "stretch"] (fun pre _ o => ∃ kvs c, o.IsDictOf (intKind PySem.Challenge.rw_uf050027_06.row.prog w) kvs ∧ PyProof.V.FlatPairs PyData.int kvs (kdfD c) ∧ Tab (sts pre) c) () hD (by rfl) lF' lN' hm rfl rfl (List.forall_mem_nil _) ⟨[], [], hi', fi', tab_nil⟩ ?_ ?_)
  (all_goals (clear lF' lN' hi' fi'))
  · intro pre8 d8 post8 v8 c8 od8 u8 I8 o8 h8 tk8 e8 hd8 hI8 hP8 hne8 ho8 F8 N8
    obtain ⟨kvs8, tb8, hi8', hf8', T8⟩ := hP8
    have hl8 : tb8.length ≤ 80 := tab_len T8 e8 hlen
    have q18 := hne8 _ (.head _)
    have q28 := Ne.symm q18
    dsimp only at q18 q28
    rcases clock_at hI8 (hok d8 hd8) with ⟨a8, n8, y8, ty8, rfl, hm8, hs8, _⟩ | ⟨a8, n8, y8, ty8, b8, k8, lo8, hi8, t18, t28, rfl, hm8, hb8, hs8, hbd8, _⟩
    · k_steps
      all_goals ((rename Fr _ _ _ _ => lF8); (rename News _ _ _ _ => lN8); k_dflt (refine' Mine.LoopTurn.stillH () lF8 lN8 (List.Mem.head _) (List.Mem.tail _ (List.Mem.head _)) (fun p hp => List.Mem.tail _ (List.Mem.tail _ hp)) ?lO (List.forall_mem_nil _) ?lR ?lP; (case lO => exact List.forall_mem_cons.mpr ⟨q18, fun p hp => hne8 p (.tail _ hp)⟩); (case lP => exact ⟨_, _, hi8', hf8', tab_same T8 hs8⟩); (case lR => (intro z _ h3; (simp only [List.contains_cons, List.contains_nil, Bool.or_false, Bool.or_eq_false_iff, beq_eq_false_iff_ne, ne_eq] at h3); (simp [h3, kstB]; done)))))
    · k_steps
      all_goals ((rename Fr _ _ _ _ => lF8); (rename News _ _ _ _ => lN8); k_dflt (refine' Mine.LoopTurn.stillH () lF8 lN8 (List.Mem.head _) (List.Mem.tail _ (List.Mem.head _)) (fun p hp => List.Mem.tail _ (List.Mem.tail _ hp)) ?lO (List.forall_mem_nil _) ?lR ?lP; (case lO => exact List.forall_mem_cons.mpr ⟨q18, fun p hp => hne8 p (.tail _ hp)⟩); (case lP => exact ⟨_, _, by assumption, by assumption, tab_more T8 hs8⟩); (case lR => (intro z _ h3; (simp only [List.contains_cons, List.contains_nil, Bool.or_false, Bool.or_eq_false_iff, beq_eq_false_iff_ne, ne_eq] at h3); (simp [h3, kstB]; done)))))
  · intro c8 od8 u8 h8 tk8 hP8 F8 N8
    obtain ⟨kvs8, tb8, hi8', hf8', T8⟩ := hP8
    have hl8 : tb8.length ≤ 80 := tab_len_all T8 hlen
    k_with "call builtin:sorted" => (k_here; (with_reducible show wpAny _ _ (call (Value.builtin _) [Value.ref _]) _ _ _); k_dflt (refine' Mine.sorted_tab ?hh ?F ?N ?m hi8' hf8' ?lo ?c ?_; (case hh => rfl); (case F => k_asm); (case N => k_asm); (case m => k_mem); (case lo => assumption); (case c => omega)); intro D9 h9 tk9 vs9 ns9 e9 F9 N9 l9 i9 p9 s9; (have P9 := Tab.pts T8 p9 s9); (have n9 : ns9.length ≤ 80 := (by rw [p9.length_eq, List.length_map]; exact hl8)); (have m9 := i9.length); clear N8; (try k_lt l9))
    k_steps
    (rename Fr _ _ _ _ => lF')
    (rename News _ _ _ _ => lN')
    (rename IsRange _ _ _ _ _ _ _ _ => lR')
    (rename (_ < _ ∧ _ < _ ∧ AllLt _ news) => lB')
    have lC' := allLt_mem lB'.2.2
    k_dflt (refine' Mine.loop_rangeG (n := ns9.length - 1) (σ := Int × Tok) (fun c => [(Str.ofString "many", Value.int c.1 c.2)]) [Str.ofString "k"] (fun i c ds' => c.1 = swept (sts ds) ns9 i ∧ ds' = ((runsOf (sts ds) ns9).take i).map runD) (0, _) (by rfl) lF' lN' lR' (small_one (by decide) (by decide) (by omega) (by omega)) (range_size _ (by omega)) (List.forall_mem_cons.mpr ⟨rfl, List.forall_mem_nil _⟩) ?gn ⟨rfl, rfl⟩ ?_ ?_)
    (case gn => exact List.forall_mem_cons.mpr ⟨Nat.ne_of_lt lB'.1, List.forall_mem_cons.mpr ⟨Nat.ne_of_lt lB'.2.1, fun p hp => Nat.ne_of_lt (lC' p hp)⟩⟩)
    (all_goals (clear lF' lN'))
    · intro i7 t7 c7 ys7 e7 add7 ds7 u7 I7 o7 h7 tk7 hi7 hR7 hA7 n17 n27 n37 ho7 F7 N7
      obtain ⟨x7, tx7⟩ := c7
      obtain ⟨hx7, rfl⟩ := hR7
      dsimp only at hx7 F7
      have hh7 := has_point T8 P9 (k := i7) (by omega)
      obtain ⟨mp7, mq7⟩ := led_mid N7
      have q17 := n37 _ (.head _)
      have q27 := Ne.symm q17
      dsimp only at q17 q27
      k_with "subscriptTail Name Name ref int" => (k_here; (with_reducible show wpAny _ _ (subscriptTail _ _ (Value.ref D9) (Value.int _ _)) _ _ _); (rename News _ _ _ _ => kN9); k_dflt (refine' Mine.item_ints i7 kN9 ?m i9 ?k ?j ?f ?_; (case m => k_mem); (case k => omega); (case j => omega); (case f => omega); k_whole); intro _)
      k_with "subscriptTail Name BinOp ref int" => (k_here; (with_reducible show wpAny _ _ (subscriptTail _ _ (Value.ref D9) (Value.int _ _)) _ _ _); (rename News _ _ _ _ => kN9); k_dflt (refine' Mine.item_ints (i7 + 1) kN9 ?m i9 ?k ?j ?f ?_; (case m => k_mem); (case k => omega); (case j => omega); (case f => omega); k_whole); intro _)
      have hz7 : ys7.length ≤ 1000 := by rw [hA7.length, List.length_map, List.length_take]; omega
      k_with "call builtin:list.append" => (k_here; (with_reducible show wpAny _ _ (call (Value.builtin _) [Value.ref _, _]) _ _ _); k_dflt (refine' append_K ?k1 ?k2 ?k3 ?_ ?z; (case k1 => k_asm); (case k2 => k_asm); (case k3 => k_upd); (case z => (rw [List.size_toArray, sizeLine_eq]; omega)); k_whole); intro h' F' N')
      k_steps
      all_goals ((rename Fr _ _ _ _ => lF8); (rename News _ _ _ _ => lN8); k_dflt (refine' Mine.grow_int lF8 lN8 ?lK (.tuple (List.Mem.head _) ?lD) hA7 n17 n27 ?lO ?lT ?lR ?lP; (case lK => first | exact if_pos rfl | exact rfl); (case lD => exact .cons (.int _ _) (.cons (.int _ _) (.cons (.int _ _) .nil))); (case lO => exact List.forall_mem_cons.mpr ⟨q17, fun p hp => n37 p (.tail _ hp)⟩); (case lT => first | assumption | tbn_find | exact allLt_of (by assumption)); (case lP => exact ⟨swept_more T8 (by omega) hx7, by rw [runs_more (sts_le hok) P9 (by omega) (swept_more T8 (by omega) hx7), List.map_append]; rfl⟩); (case lR => (intro z h4 h3; (simp only [List.contains_cons, List.contains_nil, Bool.or_false, Bool.or_eq_false_iff, beq_eq_false_iff_ne, ne_eq] at h3 h4); (simp [h3, h4, kstB]; done)))))
    · intro c7 ys7 e7 add7 ds7 u7 h7 tk7 hR7 hA7 n17 n27 F7 N7
      obtain ⟨x7, tx7⟩ := c7
      obtain ⟨hx7, rfl⟩ := hR7
      dsimp only at hx7 F7
      k_steps
      all_goals ((rename Fr _ _ _ _ => lF8); (rename News _ _ _ _ => lN8); refine' hret _ ((_, ({ cls := .type "list", data := .seq (List.toArray ys7) e7 } : Obj)) :: add7) _ _ ⟨_, ys7, e7, ns9, rfl, List.Mem.head _, P9, n9, ?r1⟩ ?r2 lF8 ?r3; (case r1 => (rw [runs_all] at hA7; exact hA7.mono fun p hp => .tail _ hp)); (case r2 => exact List.forall_mem_cons.mpr ⟨fun q hq => Nat.ne_of_lt (lC' q hq), fun p hp q hq => n27 p hp q (.tail _ (.tail _ hq))⟩); (case r3 => exact fun p hp => lN8 p (ret_sub2 p hp)))
end Mine
namespace Mine
theorem c_cell (w : World) (mean : ExcName → Option Value) (mg mb : Str → Option Value) (S : Addr) (vs : List Value) (ns : List Int) (hi : IntsAre vs ns) (hlay : PyData.layable0 (.list (ns.map .int)) = true) (hln : ns.length ≤ 63) (k : Int) (tk : Tok) (hkk : 0 ≤ k ∧ k ≤ 5) :
    Cm PySem.Challenge.rw_uf050027_06.row.prog w (k06.heap_1 w.params) vw06 (looseW vw06 []) mean mg mb 54 2 [.ref S, .int k tk] (fun h₀ _ => h₀.IsList S vs.toArray) (fun r add => add = [] ∧ ∃ t, r = .int (ns.getD k.toNat 0) t) := by
  unfold Cm
  k_fill
  w_top off
  intro dp un gd cn cs a ccd cl outer A₀ base h₀ L m news s Q E B F X N T hk hd hu hP hret
  have hl9 := hi.length
  replace hP : h₀.IsList S vs.toArray := hP
  refine wpAny_call ?_
  k_dflt cell_enter
  (rename Fr h₀ L _ m => FG9)
  have hP9 := list_up FG9 hP
  k_with_none
  k_steps
  all_goals (refine' hret _ [] _ _ ⟨rfl, ?q1⟩ (fun _ h => nomatch h) ?q2 ?q3; (case q2 => k_asm); (case q3 => k_asm); (case q1 => first | exact ⟨_, rfl⟩ | exact int_out (by omega)))
end Mine
namespace Mine
open PySem PySem.W PyProof.Rows
theorem two_of {v : List Value} {n : List Int} {a b : Int} (hi : IntsAre v n) (hp : n.Perm [a, b]) (hb : (n.getD (Int.toNat 0) 0 = a ∨ n.getD (Int.toNat 0) 0 = b) ∧ n.getD (Int.toNat 0) 0 ≤ a ∧ n.getD (Int.toNat 0) 0 ≤ b) :
    ∃ x y t u, v = [.int x t, .int y u] ∧ n = [x, y] ∧ (x = a ∧ y = b ∨ x = b ∧ y = a) ∧ x ≤ y := by
  have hl := hp.length_eq
  cases hi with
  | nil => simp at hl
  | cons x t r =>
    cases r with
    | nil => simp at hl
    | cons y u r =>
      cases r with
      | cons z _ _ => simp at hl
      | nil =>
        have hb' : (x = a ∨ x = b) ∧ x ≤ a ∧ x ≤ b := hb
        have hm : (x = a ∧ y = b) ∨ (x = b ∧ y = a) := by
          rcases hb'.1 with e | e
          · subst e
            exact .inl ⟨rfl, by simpa using (List.perm_cons x).mp hp⟩
          · subst e
            have := (List.perm_cons x).mp (hp.trans (List.Perm.swap x a []))
            exact .inr ⟨rfl, by simpa using this⟩
        refine ⟨x, y, t, u, rfl, rfl, hm, ?_⟩
        rcases hm with ⟨_, e⟩ | ⟨_, e⟩ <;> rw [e]
        · exact hb'.2.2
        · exact hb'.2.1
end Mine
namespace Mine
open PySem PySem.W PyProof.Rows
theorem item_four {prog : Program} {w : World} {A : Around} {E : Value → Shared → Prop} {s : Shared} {value slice : PySem.Expr} {l : Addr} {vs : List Value} {a b c d : Int} {k : Int} {u : Tok} {Q : Value → Shared → Prop} (hl : s.heap.IsList l vs.toArray) (hi : IntsAre vs [a, b, c, d])
    (h0 : 0 ≤ k ∧ k < 4) (h : ∀ t x, (x = a ∨ x = b ∨ x = c ∨ x = d) → Q (.int x t) s)
    (hs : subscripted slice false (.ref l) (.int k u) = operate [.ref l, .int k u] (getItem (.ref l) (.int k u)) := by with_unfolding_all rfl) :
    wpAny (model prog w) A (subscriptTail value slice (.ref l) (.int k u)) Q E s := by
  obtain ⟨t, hx⟩ := hi.get k.toNat _ (ints_getD h0.1 (by simpa using h0.2))
  refine tail_any hl.typeIs slot_list_getitem.lookup (wpAny_getItem_list hl h0.1 (by omega) (by simpa using hx) (h t _ ?_)) hs
  rcases (show k = 0 ∨ k = 1 ∨ k = 2 ∨ k = 3 by omega) with e | e | e | e <;> subst e <;> simp
end Mine
namespace Mine
theorem c_clocks (w : World) (mean : ExcName → Option Value) (mg mb : Str → Option Value) (S : Addr) (vs : List Value) (ns : List Int) (hi : IntsAre vs ns) (hlay : PyData.layable0 (.list (ns.map .int)) = true) (hln : ns.length ≤ 63) :
    Cm PySem.Challenge.rw_uf050027_06.row.prog w (k06.heap_1 w.params) vw06 (looseW vw06 []) mean mg mb 87 5 [.ref S] (fun h₀ _ => h₀.IsList S vs.toArray) (fun r add => ∃ D ys e ds, r = .ref D ∧ (D, ({ cls := .type "list", data := .seq (List.toArray ys) e } : Obj)) ∈ add ∧ DatAll add ys ds ∧ (∀ d ∈ ds, ClockOk d) ∧ ds.length ≤ 40) := by
  unfold Cm
  k_fill
  w_top off
  intro dp un gd cn cs a ccd cl outer A₀ base h₀ L m news s Q E B F X N T hk hd hu hP hret
  have hl9 := hi.length
  replace hP : h₀.IsList S vs.toArray := hP
  refine wpAny_call ?_
  k_dflt cell_enter
  (rename Fr h₀ L _ m => FG9)
  have hP9 := list_up FG9 hP
  have ck0 := cell_ok2 hlay (Int.toNat 0)
  have ck1 := cell_ok2 hlay (Int.toNat 1)
  k_with_none
  k_with "call ref" => (k_here; (with_reducible show wpAny _ _ (call (Value.ref 61) _) _ _ _); k_dflt (refine Mine.Ct.use (Mine.c_lmix _ _ _ _ _ _ _ _) (ret := ?_)); intro t9 h9 tk9 P9 F9 N9; (try dsimp only); (try k_fold))
  k_with "call ref" => (k_here; (with_reducible show wpAny _ _ (call (Value.ref 68) _) _ _ _); k_dflt (refine Mine.Ct.use (Mine.c_lbig _ _ _ _ _ _ _ _) (ret := ?_)); intro t9 h9 tk9 P9 F9 N9; (try dsimp only); (try k_fold))
  k_with "assign Tuple cons ref" => (k_here; (with_reducible rename List.Perm _ [_, _] => pmX); (obtain ⟨x9, y9, t9, u9, ev9, en9, hc9, hl9⟩ := Mine.two_of (by assumption) pmX (by assumption)); subst ev9; subst en9)
  k_with "subscriptTail List cons BinOp ref int" => (k_here; (with_reducible show wpAny _ _ (subscriptTail _ _ (Value.ref _) (Value.int _ _)) _ _ _); (try k_fmods); k_dflt (refine' Mine.item_four ?k1 ?k2 ?k3 ?_; (case k1 => is_list); (case k2 => l_ints); (case k3 => omega); k_whole); intro _ _ hFour)
  k_with "exec For Name Call cons nil" => (k_here; (rename Fr _ _ _ _ => lF'); (with_unfolding_all refine' For_turns lF' ?_; k_whole))
  k_with "call ref" => (k_here; (with_reducible show wpAny _ _ (call (Value.ref 54) _) _ _ _); k_dflt (refine' Mine.Cm.use (Mine.c_cell _ _ _ _ S vs ns hi hlay hln _ _ ?kp8) (hp := ?kP) (ret := ?_); (case kP => first | exact hP9 | exact hP); (case kp8 => omega)); intro r9 ad9 h9 tk9 ho9 hn9 F9 N9; k_dflt ((obtain ⟨e9, t9, e8⟩ := ho9); subst e9; subst e8; (replace N9 : News _ _ _ _ := N9); (simp only [List.nil_append] at N9)); (try dsimp only); (try k_fold))
  k_with "call ref" => (k_here; (with_reducible show wpAny _ _ (call (Value.ref 80) _) _ _ _); k_dflt (refine' Mine.Cm.use (Mine.c_names _ _ _ _ _ _ ?kp2) (hp := ?kP) (ret := ?_); (case kP => trivial); (case kp2 => first | trivial | ((try dsimp only); first | assumption | omega | l_fact))); intro r9 ad9 h9 tk9 ho9 hn9 F9 N9; k_dflt ((obtain ⟨D9, e9, ht9⟩ := ho9); subst e9; (obtain ⟨ys9, xs9, N8, ne9, hs9, hn8, hx9⟩ := Mine.texts_one ht9 hn9 N9); clear N9 ht9 hn9); (try dsimp only); (try k_fold))
  k_with "subscriptTail List cons BinOp ref int" => (k_here; (with_reducible show wpAny _ _ (subscriptTail _ _ (Value.ref _) (Value.int _ _)) _ _ _); (try k_fmods); k_dflt (refine' Mine.item_bd 9 1000000000000 ?k1 ?k2 ?k3 ?k4 ?k5 ?_; (case k1 => is_list); (case k2 => l_ints); (case k3 => decide); (case k4 => (simp only [List.length_cons, List.length_nil]; omega)); (case k5 => omega); k_whole); intro t8 wd9 hw9)
  k_steps
  (rename Fr _ _ _ _ => lF')
  (rename News _ _ _ _ => lN')
  (rename IsRange _ _ _ _ _ _ _ _ => lR')
  (rename (_ < _ ∧ _ < _ ∧ AllLt _ news) => lB')
  have lC' := allLt_mem lB'.2.2
  rw [clk_n] at lR'
  k_dflt (refine' Mine.loop_rangeG (n := min 40 (ns.length - 3)) (σ := Unit) (fun _ => []) [Str.ofString "_law_k", Str.ofString "_law_cell", Str.ofString "_law_low", Str.ofString "_law_high"] (fun i _ ds' => (∀ d ∈ ds', ClockOk d) ∧ ds'.length = i) () (by rfl) lF' lN' lR' (small_one (by decide) (by decide) (by omega) (by omega)) (range_size _ (.inl rfl)) (List.forall_mem_nil _) ?gn ⟨(fun _ h => nomatch h), rfl⟩ ?_ ?_)
  (case gn => exact List.forall_mem_cons.mpr ⟨Nat.ne_of_lt lB'.1, List.forall_mem_cons.mpr ⟨Nat.ne_of_lt lB'.2.1, fun p hp => Nat.ne_of_lt (lC' p hp)⟩⟩)
  (all_goals (clear lF' lN'))
  · intro i7 t7 c7 ys7 e7 add7 ds7 u7 I7 o7 h7 tk7 hi7 hR7 hA7 n17 n27 n37 ho7 F7 N7
    obtain ⟨hk7, hl7⟩ := hR7
    obtain ⟨mp7, mq7⟩ := led_mid N7
    have q17 := n37 _ (.head _)
    have q27 := Ne.symm q17
    dsimp only at q17 q27 F7
    have hz7 : ys7.length ≤ 1000 := by rw [hA7.length, hl7]; omega
    have ck7 := cell_ok2 hlay (3 + i7)
    k_with "subscriptTail Name BinOp ref int" => (k_here; (with_reducible show wpAny _ _ (subscriptTail _ _ (Value.ref S) (Value.int _ _)) _ _ _); (rename Fr _ _ _ _ => kF9); k_dflt (refine' Mine.item_base (3 + i7) kF9 hP9 hi ?k ?j ?f ?_; (case k => omega); (case j => omega); (case f => omega); k_whole); intro _)
    k_with "subscriptTail Name Name ref int" => (k_here; (with_reducible show wpAny _ _ (subscriptTail _ _ (Value.ref D9) (Value.int _ _)) _ _ _); k_dflt (refine' Mine.item_name ?k1 ?k2 hs9 ?k3 ?k4 ?_; (case k1 => k_asm); (case k2 => k_mem); (case k3 => omega); (case k4 => omega); k_whole); intro x9 tx9 hm9)
    k_with "subscriptTail List cons BinOp ref int" => (k_here; (with_reducible show wpAny _ _ (subscriptTail _ _ (Value.ref _) (Value.int _ _)) _ _ _); (try k_fmods); k_dflt (first | (refine' Mine.item_of (fun x => x = 1 ∨ x = -1) ?k1 ?k2 ?k3 ?k4 ?k5 ?_; (case k1 => is_list); (case k2 => l_ints); (case k3 => decide); (case k4 => (simp only [List.length_cons, List.length_nil]; omega)); (case k5 => omega); k_whole) | (refine' Mine.item_bd 0 1000000000000 ?k1 ?k2 ?k3 ?k4 ?k5 ?_; (case k1 => is_list); (case k2 => l_ints); (case k3 => (simp only [List.forall_mem_cons, List.not_mem_nil, false_implies, implies_true, and_true]; (have f1 := fmb (mix (ns.getD (3 + i7) 0) 2) 10 (by decide)); (have f2 := fmb (mix (ns.getD (3 + i7) 0) 3) wd9 (by omega)); omega)); (case k4 => (simp only [List.length_cons, List.length_nil]; omega)); (case k5 => omega); k_whole)); intro t8 d9 hd9)
    k_with "exec If Compare cons nil" => (k_here; (rename Fr _ _ _ _ => iF7); (rename News _ _ _ _ => iN7); k_dflt (refine' Mine.If_cut2 (Str.ofString "_law_low") (Str.ofString "_law_high") (fun v u => v ≤ u ∧ -10000000000000 ≤ v ∧ u ≤ 10000000000000) iF7 iN7 ?i1 ?i2); (case' i2 => (intro h7 tk7 lo9 tl9 hi9 th9 F7 N7 hq9)); (try (clear iF7 iN7)))
    k_with "call builtin:list.append" => (k_here; (with_reducible show wpAny _ _ (call (Value.builtin _) [Value.ref _, _]) _ _ _); k_dflt (refine' append_K ?k1 ?k2 ?k3 ?_ ?z; (case k1 => k_asm); (case k2 => k_asm); (case k3 => k_upd); (case z => (rw [List.size_toArray, sizeLine_eq]; omega)); k_whole); intro h' F' N')
    k_steps
    all_goals (first | (k_dflt ((with_reducible show Mine.IfEnd2 _ _ _ _ _ _ _ _ _ _); (rename Fr _ _ _ _ => lF8); (rename News _ _ _ _ => lN8); first | (refine' Mine.IfEnd2.set lF8 lN8 ?eS ?eP; (case eS => (intro p9 hp9; (repeat (first | exact hp9 | refine List.Mem.tail _ ?_)))); (case eP => (have f0 := fmb (mix (ns.getD (3 + i7) 0) 0) wd9 (by omega); (rename _ = (1 : Int) ∨ _ = (-1 : Int) => hs8); have pb := pm_bd hs8 f0.1 f0.2; have b6 := big_bd (ns.getD (3 + i7) 0) 6; have b7 := big_bd (ns.getD (3 + i7) 0) 7; omega))) | (refine' Mine.IfEnd2.same lF8 lN8 ?eS ?eY ?eX ?eP; (case eS => (intro p9 hp9; (repeat (first | exact hp9 | refine List.Mem.tail _ ?_)))); (case eY => first | exact rfl | exact if_pos rfl); (case eX => first | exact rfl | exact if_pos rfl); (case eP => (have f0 := fmb (mix (ns.getD (3 + i7) 0) 0) wd9 (by omega); (rename _ = (1 : Int) ∨ _ = (-1 : Int) => hs8); have pb := pm_bd hs8 f0.1 f0.2; have b6 := big_bd (ns.getD (3 + i7) 0) 6; have b7 := big_bd (ns.getD (3 + i7) 0) 7; omega))))) | ((rename Fr _ _ _ _ => lF8); (rename News _ _ _ _ => lN8); k_dflt (first | (refine' Mine.grow_u2 lF8 lN8 ?lM ?lI clock_some hA7 ?lS n17 n27 ?lO ?lT ?lU ?lR ?lP; (case lM => (repeat (first | exact List.Mem.head _ | refine List.Mem.tail _ ?_))); (case lI => (repeat (first | exact List.Mem.head _ | refine List.Mem.tail _ ?_))); (case lS => (intro p9 hp9; (repeat (first | exact hp9 | refine List.Mem.tail _ ?_)))); (case lO => exact List.forall_mem_cons.mpr ⟨q17, fun p hp => n37 p (.tail _ hp)⟩); (case lT => (first | assumption | tbn_find | exact allLt_of (by assumption))); (case lU => (first | assumption | tbn_find | exact allLt_of (by assumption))); (case lR => (intro z h3; (simp only [List.contains_cons, List.contains_nil, Bool.or_false, Bool.or_eq_false_iff, beq_eq_false_iff_ne, ne_eq] at h3); (simp [h3, kstB]; done))); (case lP => (refine ⟨all_snoc hk7 ⟨_, _, rfl, hx9 _ hm9, .inr ⟨_, _, rfl, ?lB⟩⟩, by rw [List.length_append, hl7]; rfl⟩; (case lB => exact hq9)))) | (refine' Mine.grow_u1 lF8 lN8 ?lM ?lI clock_none hA7 ?lS n17 n27 ?lO ?lT ?lR ?lP; (case lM => (repeat (first | exact List.Mem.head _ | refine List.Mem.tail _ ?_))); (case lI => (repeat (first | exact List.Mem.head _ | refine List.Mem.tail _ ?_))); (case lS => (intro p9 hp9; (repeat (first | exact hp9 | refine List.Mem.tail _ ?_)))); (case lO => exact List.forall_mem_cons.mpr ⟨q17, fun p hp => n37 p (.tail _ hp)⟩); (case lT => (first | assumption | tbn_find | exact allLt_of (by assumption))); (case lR => (intro z h3; (simp only [List.contains_cons, List.contains_nil, Bool.or_false, Bool.or_eq_false_iff, beq_eq_false_iff_ne, ne_eq] at h3); (simp [h3, kstB]; done))); (case lP => exact ⟨all_snoc hk7 ⟨_, _, rfl, hx9 _ hm9, .inl rfl⟩, by rw [List.length_append, hl7]; rfl⟩)))))
  · intro c7 ys7 e7 add7 ds7 u7 h7 tk7 hR7 hA7 n17 n27 F7 N7
    obtain ⟨hk7, hl7⟩ := hR7
    k_steps
    all_goals ((rename Fr _ _ _ _ => lF8); (rename News _ _ _ _ => lN8); refine' hret _ ((_, ({ cls := .type "list", data := .seq (List.toArray ys7) e7 } : Obj)) :: add7) _ _ ⟨_, ys7, e7, ds7, rfl, List.Mem.head _, hA7.mono fun p hp => .tail _ hp, hk7, by omega⟩ ?r2 lF8 ?r3; (case r2 => exact List.forall_mem_cons.mpr ⟨fun q hq => Nat.ne_of_lt (lC' q hq), fun p hp q hq => n27 p hp q (.tail _ (.tail _ hq))⟩); (case r3 => exact fun p hp => lN8 p (ret_sub2 p hp)))
end Mine
namespace Mine
theorem c_whole (w : World) (mean : ExcName → Option Value) (mg mb : Str → Option Value) (x : Int) (tx : Tok) : Con w mean mg mb 47 1 [.int x tx] True (fun _ => .bool (true)) := by
  unfold Con Ct
  k_fill
  w_top off
  intro dp un gd cn cs a ccd cl outer A₀ base h₀ L m news s Q E B F X N T hk hd hu hret
  refine wpAny_call ?_
  k_dflt cell_enter
  k_with_none
  k_steps
  all_goals (refine' hret (0 : Nat) _ _ trivial ?e3 ?e4; (case e3 => k_asm); (case e4 => k_asm))
end Mine
namespace Mine
open PySem PySem.W PyProof.Rows PySem.Spec PySem.Calls PyProof.Rows.LCg
section
variable {prog : Program} {w : World} {A : Around} {E : Value → Shared → Prop} {s : Shared} {h₀ : Heap} {L : Addr} {m : Str → Option Value} {env : Env}
noncomputable def PairTurns (prog : Program) (w : World) (A : Around) (h₀ : Heap) (L : Addr) (m : Str → Option Value) (env : Env) (ct elt : Expr) (x x₂ : Str) (scope : Scope) (cl : List (Str × Addr)) (vs : List Value) (news : List (Addr × Obj)) (s : Shared) (Fin : List Value → List (Addr × Obj) → Prop) : Prop :=
  ∃ Inv : Nat → List Value → Prop, Inv 0 [] ∧ (∀ i v ys, vs[i]? = some v → Inv i ys → ∃ (t : Addr) (ot : Obj) (v₁ v₂ : Value) (nt : Nat), v = .ref t ∧ (t, ot) ∈ news ∧ ot.cls = .type "tuple" ∧ ot.data = .seq #[v₁, v₂] nt ∧
      ∀ I oI C oC D m₂ h tk (E' : Value → Shared → Prop), NsObj oC m₂ → m₂ x = some v₁ → m₂ x₂ = some v₂ → Fr h₀ L h m → News h₀ L h ((I, oI) :: (C, oC) :: (D, lst ys) :: news) → Off3 I C D news → ((@Ne Nat I C) ∧ (@Ne Nat I D) ∧ (@Ne Nat C D)) →
        wpAny (model prog w) A (isTrue ct (compEnvC scope cl C env) (eval ct (compEnvC scope cl C env))) (fun ok s' => if ok = true then
          wpAny (model prog w) A (eval elt (compEnvC scope cl C env)) (CompTurn h₀ L m { s with heap := h, toks := tk } I oI C oC D (lst ys) (fun _ => True) (fun y nw' => nw' = news ∧ Inv (i + 1) (ys ++ [y]))) E' s'
          else CompTurn h₀ L m { s with heap := h, toks := tk } I oI C oC D (lst ys) (fun _ => True) (fun _ nw' => nw' = news ∧ Inv (i + 1) ys) Value.none s') E' { s with heap := h, toks := tk }) ∧
    ∀ ys, Inv vs.length ys → Fin ys news
noncomputable def PairI (h₀ : Heap) (L : Addr) (m : Str → Option Value) (s₂ : Shared) (I ax C D : Addr) (vs : List Value) (news : List (Addr × Obj)) (Inv : Nat → List Value → Prop) (k : Nat) (s' : Shared) : Prop :=
  ∃ h' tk i ys m', s' = { s₂ with heap := h', toks := tk } ∧ i ≤ vs.length ∧ k = vs.length + 1 - i ∧ ys.length ≤ i ∧ h'.IsListIter I ax i ∧ Fr h₀ L h' m ∧ h'.Ns C m' ∧ News h₀ L h' ((D, lst ys) :: news) ∧ Inv i ys
theorem pairs_block {ct elt iter : Expr} {x x₂ : Str} {px px₂ tp : Pos} {kk : Nat} {scope : Scope} {cl : List (Str × Addr)} {pos : Pos} {s₂ : Shared} {I ax : Addr} {ol : Obj} {nl : Nat} {vs : List Value} {news : List (Addr × Obj)} {Fin : List Value → List (Addr × Obj) → Prop} {RR : Value → Addr → Result → Shared → Prop}
    (hh : A.handled = none) (hsz : vs.length ≤ sizeLine) (hm : (ax, ol) ∈ news) (hc : ol.cls = .type "list") (hd : ol.data = .seq vs.toArray nl)
    (hcell : ∀ y ∈ scope.names, y.2 ≠ .cell) (hkind : scope.kind = .function) (hx : scope.names.lookup x = some .local) (hx₂ : scope.names.lookup x₂ = some .local) (hxx : x ≠ x₂) (hit : s₂.heap.IsListIter I ax 0)
    (F : Fr h₀ L s₂.heap m) (N : News h₀ L s₂.heap news) (hIL : L ≠ I) (hI₀ : h₀.get? I = none) (off : ∀ p ∈ news, p.1 ≠ I)
    (R : PairTurns prog w A h₀ L m env ct elt x x₂ scope cl vs news s₂ Fin)
    (hRR : ∀ D C h tk m' ys, Fr h₀ L h m → News h₀ L h ((D, lst ys) :: news) → Off1 D news → h.Ns C m' → h₀.get? C = none → h₀.get? D = none → C ≠ L → D ≠ L → C ≠ D → (∀ p ∈ news, p.1 ≠ C) → Fin ys news → RR (.ref D) C (.ok .next) { s₂ with heap := h, toks := tk }) :
    wpAny (model prog w) A (newList []) (fun acc s₃ => wpAny (model prog w) A (newFunctionEnv scope env.globals cl [] env.qual none .none (some env)) (fun cenv s₄ =>
      codeAny (model prog w) A (.compStart (.ListComp elt [⟨.Tuple [.Name x px, .Name x₂ px₂] kk tp, iter, [ct], 0⟩] scope pos) 0 (.ref I) acc { cenv with scope := relabel scope env }) (RR acc cenv.locals) s₄) E s₃) E s₂ := by
  obtain ⟨Inv, h0, turn, fin⟩ := R
  refine wpAny_newObj_type (wpAny_newFunctionEnv hcell (by intro y hy; simp at hy) (fun h₁ hns₁ hsb₁ => ?_) hkind)
  dsimp only at hns₁ hsb₁ ⊢
  generalize hH : s₂.heap.push { cls := .type "list", dict := none, data := .seq ([] : List Value).toArray } = H at hns₁ hsb₁ ⊢
  generalize hDe : s₂.heap.objs.size = D at hns₁ hsb₁ ⊢
  have hCe : H.objs.size = D + 1 := by rw [← hH, Heap.size_push, hDe]
  generalize H.objs.size = C at hCe hns₁ hsb₁ ⊢
  -- what stood before stands, below D
  have lt : ∀ {b : Nat} {o : Obj}, s₂.heap.get? b = some o → b < D := fun e => hDe ▸ Heap.lt_size e
  have hDC : @Ne Nat D C := by omega
  have hIlt : @LT.lt Nat _ I D := by obtain ⟨_, e, _⟩ := hit; exact lt e
  have hLlt : @LT.lt Nat _ L D := hDe ▸ F.ns.lt
  have old : ∀ b o, s₂.heap.get? b = some o → h₁.get? b = some o := fun b o e => hsb₁.extBut b o (by have q : @LT.lt Nat _ b D := lt e; show @Ne Nat b C; omega) (Heap.get?_push_of_some _ (hH ▸ Heap.get?_push_of_some _ e))
  have hacc : h₁.get? D = some (lst []) := hsb₁.extBut _ _ hDC (Heap.get?_push_of_some _ (hH ▸ hDe ▸ Heap.get?_push_size _ rfl))
  have none₀ : ∀ a : Nat, D ≤ a → h₀.get? a = none := fun a ha => by
    cases e : h₀.get? a with
    | none => rfl
    | some o' => exact absurd (lt (F.keep a o' e)) (Nat.not_lt.mpr ha)
  have hD₀ := none₀ D (Nat.le_refl _)
  have hC₀ := none₀ C (by omega)
  have nlt : ∀ p ∈ news, @LT.lt Nat _ p.1 D := fun p hp => lt (N p hp).1
  have off3 : ∀ p ∈ news, p.1 ≠ I ∧ p.1 ≠ C ∧ p.1 ≠ D := fun p hp => by
    have := nlt p hp
    exact ⟨off p hp, by show @Ne Nat _ _; omega, by show @Ne Nat _ _; omega⟩
  have hDL : @Ne Nat D L := by omega
  have hCL : @Ne Nat C L := by omega
  have hIC : @Ne Nat I C := by omega
  have hID : @Ne Nat I D := by omega
  have W := Walks.list (prog := prog) (w := w) (A := A) hh I ax (off _ hm) vs.toArray
  have hl₁ : h₁.IsList ax vs.toArray := ⟨ol, old _ _ (N _ hm).1, hc, nl, hd⟩
  have hit₁ : h₁.IsListIter I ax 0 := by obtain ⟨o, e, r⟩ := hit; exact ⟨o, old _ _ e, r⟩
  have loop : ∀ s₃ : Shared, s₃ = { s₂ with heap := h₁, toks := s₂.toks + ([] : List (Str × Value)).length } →
      codeAny (model prog w) A (.compLoop (.ListComp elt [⟨.Tuple [.Name x px, .Name x₂ px₂] kk tp, iter, [ct], 0⟩] scope pos) 0 (.ref I) (.ref D) (compEnvC scope cl C env)) (RR (.ref D) C) s₃ := by
    rintro s₃ rfl
    refine kct_loop (PairI h₀ L m s₂ I ax C D vs news Inv) ?_ (vs.length + 1)
      ⟨h₁, _, 0, [], _, rfl, Nat.zero_le _, rfl, Nat.le_refl _, hit₁, F.keeps old, hns₁, fun p hp => ?_, h0⟩
    · rintro k s' ⟨h', tk, i, ys, m', rfl, hi, rfl, hyl, hit', F', hn', N', hI⟩
      have hl' : h'.IsList ax vs.toArray := ⟨ol, (N' _ (List.mem_cons_of_mem _ hm)).1, hc, nl, hd⟩
      have offN : ∀ p ∈ (D, lst ys) :: news, p.1 ≠ I := fun p hp => by
        rcases List.mem_cons.mp hp with rfl | hp
        · exact Ne.symm hID
        · exact off p hp
      by_cases hlt : i < vs.length
      · refine W.item i _ _ _ (by rw [List.size_toArray]; exact hlt) ⟨hit', hl'⟩ fun v h₂ tk₂ hPv hst₂ hk₂ => ?_
        obtain ⟨t, ot, v₁, v₂, nt, rfl, hmt, hct, hdt, go⟩ := turn i v ys (by simpa using hPv) hI
        have N₂ : News h₀ L h₂ ((D, lst ys) :: news) := news_but N' hk₂ offN
        have ht : h₂.IsTuple t #[v₁, v₂] := ⟨ot, (N₂ _ (List.mem_cons_of_mem _ hmt)).1, hct, nt, hdt⟩
        refine wpAny_letOwnedTupleGo_listiter hst₂.1 ?_
        refine kcp_assign (env := compEnvC scope cl C env) hh ht (lookup_relabel_local hx) (lookup_relabel_local hx₂) (by simp [compEnvC, relabel, hkind]) (hn'.at' fun o e => hk₂ _ o (by simpa using Ne.symm hIC) e) fun h₃ tk₃ hn₃ hs₃ => ?_
        have hs₃' : ∀ b o, b ≠ C → h₂.get? b = some o → h₃.get? b = some o := hs₃
        obtain ⟨oI, heI, rI⟩ : ∃ oI : Obj, h₂.get? I = some oI ∧ ∀ h : Heap, h.get? I = some oI → h.IsListIter I ax (i + 1) := by
          obtain ⟨o, e, r⟩ := hst₂.1
          exact ⟨o, e, fun h q => ⟨o, q, r⟩⟩
        have heI₃ := hs₃' I oI hIC heI
        obtain ⟨oC, heC, hoC⟩ := ns_obj hn₃
        have F₂ : Fr h₀ L h₂ m := fr_but F' hk₂ hIL hI₀
        have F₃ : Fr h₀ L h₃ m := ⟨F₂.ns.at' fun o e => hs₃' _ o (Ne.symm hCL) e, fun b o e => hs₃' b o (fun q => by rw [q, hC₀] at e; cases e) (F₂.keep b o e), F₂.above⟩
        have N₃ : News h₀ L h₃ ((I, oI) :: (C, oC) :: (D, lst ys) :: news) := fun p hp => by
          rcases List.mem_cons.mp hp with rfl | hp
          · exact ⟨heI₃, Ne.symm hIL, hI₀⟩
          · rcases List.mem_cons.mp hp with rfl | hp
            · exact ⟨heC, hCL, hC₀⟩
            · have z := N₂ p hp
              refine ⟨hs₃' _ _ ?_ z.1, z.2⟩
              rcases List.mem_cons.mp hp with rfl | hp
              · exact hDC
              · exact (off3 p hp).2.1
        -- what is left of a turn
        have next : ∀ (ys' : List Value) (h₅ : Heap) (tk₅ : Nat), ys'.length ≤ i + 1 → Fr h₀ L h₅ m → News h₀ L h₅ ((I, oI) :: (C, oC) :: (D, lst ys') :: news) → Inv (i + 1) ys' →
            ∃ q, q < vs.length + 1 - i ∧ PairI h₀ L m s₂ I ax C D vs news Inv q { s₂ with heap := h₅, toks := tk₅ } :=
          fun ys' h₅ tk₅ hl F₅ N₅ hI₅ => ⟨vs.length + 1 - (i + 1), by omega, h₅, tk₅, i + 1, ys', _, rfl, hlt, rfl, hl, rI h₅ (N₅ _ (.head _)).1, F₅, hoC.ns (N₅ _ (.tail _ (.head _))).1, fun p hp => N₅ p (.tail _ (.tail _ hp)), hI₅⟩
        refine wpAny_mono (go I oI C oC D _ h₃ _ _ hoC (by simp [hxx]) (by simp) F₃ N₃ (Off3.of off3) ⟨hIC, hID, Ne.symm hDC⟩) (fun ok s₄ h₄ => ?_) fun _ _ e => e
        cases ok with
        | false =>
          simp only [Bool.false_eq_true, if_false] at h₄ ⊢
          obtain ⟨h₅, tk₅, nw₅, rfl, F₅, N₅, _, _, hn₅, hI₅⟩ := h₄
          subst hn₅
          exact next ys h₅ tk₅ (Nat.le_succ_of_le hyl) F₅ N₅ hI₅
        | true =>
          simp only [if_true] at h₄ ⊢
          refine wpAny_mono h₄ (fun y s₅ h₅ => ?_) fun _ _ e => e
          obtain ⟨h₅, tk₅, nw₅, rfl, F₅, N₅, _, _, hn₅, hI₅⟩ := h₅
          subst hn₅
          have zD := (N₅ (D, lst ys) (.tail _ (.tail _ (.head _)))).1
          refine append_at (hsz := by show ys.toArray.size ≤ sizeLine; rw [List.size_toArray]; exact Nat.le_trans hyl (Nat.le_trans hi hsz)) zD fun h₆ hs₆ hD₆ => ?_
          refine next (ys ++ [y]) h₆ _ (by rw [List.length_append, List.length_singleton]; omega) (F₅.change hs₆ hDL hD₀) (fun p hp => ?_) hI₅
          rcases List.mem_cons.mp hp with rfl | hp
          · exact ⟨hs₆.extBut I oI hID (N₅ _ (.head _)).1, Ne.symm hIL, hI₀⟩
          · rcases List.mem_cons.mp hp with rfl | hp
            · exact ⟨hs₆.extBut C oC (Ne.symm hDC) (N₅ _ (.tail _ (.head _))).1, hCL, hC₀⟩
            · rcases List.mem_cons.mp hp with rfl | hp
              · exact ⟨hD₆.trans (congrArg some (lst_snoc ys y)), hDL, hD₀⟩
              · have z := N₅ p (.tail _ (.tail _ (.tail _ hp)))
                exact ⟨hs₆.extBut _ _ (off3 p hp).2.2 z.1, z.2⟩
      · obtain rfl : i = vs.length := Nat.le_antisymm hi (Nat.not_lt.mp hlt)
        refine W.done _ _ _ ⟨by rw [List.size_toArray]; exact hit', hl'⟩ fun h₂ tk₂ hk₂ => ?_
        exact hRR D C h₂ tk₂ _ ys (fr_but F' hk₂ hIL hI₀) (news_but N' hk₂ offN) (Off3.of off3).one (hn'.at' fun o e => hk₂ _ o (by simpa using Ne.symm hIC) e) hC₀ hD₀ hCL hDL (Ne.symm hDC) (fun p hp => (off3 p hp).2.1) (fin ys hI)
    · rcases List.mem_cons.mp hp with rfl | hp
      · exact ⟨hacc, hDL, hD₀⟩
      · exact ⟨old _ _ (N p hp).1, (N p hp).2⟩
  exact codeAny_compStart_list (loop _ rfl) (W.self 0 _ _ _ ⟨hit₁, hl₁⟩ (loop _ rfl))
noncomputable def SrcPT (prog : Program) (w : World) (A : Around) (h₀ : Heap) (L : Addr) (m : Str → Option Value) (env : Env) (ct elt : Expr) (x x₂ : Str) (scope : Scope) (cl : List (Str × Addr)) (Fin : Shared → List Value → List (Addr × Obj) → Prop) (xv : Value) (s₁ : Shared) : Prop :=
  ∃ (ax : Addr) (k : Nat) (vs : List Value) (news : List (Addr × Obj)), xv = .ref ax ∧ A.handled = none ∧ Fr h₀ L s₁.heap m ∧ News h₀ L s₁.heap news ∧ (ax, ({ cls := .type "list", data := .seq vs.toArray k } : Obj)) ∈ news ∧ vs.length ≤ sizeLine ∧
    ∀ g : Heap, PairTurns prog w A h₀ L m env ct elt x x₂ scope cl vs news { s₁ with heap := g } (Fin { s₁ with heap := g })
theorem SrcPT.ledger {ct elt : Expr} {x x₂ : Str} {scope : Scope} {cl : List (Str × Addr)} {Fin : Shared → List Value → List (Addr × Obj) → Prop} {ax : Addr} {vs : List Value} {k : Nat} {news : List (Addr × Obj)} {s₁ : Shared}
    (hh : A.handled = none) (F : Fr h₀ L s₁.heap m) (N : News h₀ L s₁.heap news) (hm : (ax, ({ cls := .type "list", data := .seq vs.toArray k } : Obj)) ∈ news) (hsz : vs.length ≤ sizeLine)
    (h : ∀ g : Heap, PairTurns prog w A h₀ L m env ct elt x x₂ scope cl vs news { s₁ with heap := g } (Fin { s₁ with heap := g })) : SrcPT prog w A h₀ L m env ct elt x x₂ scope cl Fin (.ref ax) s₁ :=
  ⟨ax, k, vs, news, rfl, hh, F, N, hm, hsz, h⟩
theorem ListComp_PT {ct elt iter : Expr} {x x₂ : Str} {px px₂ tp : Pos} {kk : Nat} {scope : Scope} {cl : List (Str × Addr)} {pos : Pos} {Q : Value → Shared → Prop} (_F₀ : Fr h₀ L s.heap m)
    (hclos : closureFor scope env = pure cl) (hcell : ∀ y ∈ scope.names, y.2 ≠ .cell) (hkind : scope.kind = .function)
    (hnames : ∀ y ∈ scope.names, y.2 = .local → scope.names.lookup y.1 = some .local) (hx : scope.names.lookup x = some .local) (hx₂ : scope.names.lookup x₂ = some .local) (hxx : x ≠ x₂)
    (h : wpAny (model prog w) A (eval iter env) (SrcPT prog w A h₀ L m env ct elt x x₂ scope cl (fun s₂ => FinE h₀ L m s₂ Q)) E s)
    (hs : ∀ x, foldedSetIterable iter env x = pure x := by intro _; rfl) :
    wpAny (model prog w) A (eval (.ListComp elt [⟨.Tuple [.Name x px, .Name x₂ px₂] kk tp, iter, [ct], 0⟩] scope pos) env) Q E s := by
  rw [eval_ListComp]
  refine wpAny_comprehension_free (use := none) rfl hs hclos hkind hnames (wpAny_mono h (fun xv s₁ h₁ => ?_) fun _ _ e => e)
  obtain ⟨ax, k, vs, news, rfl, hh, F, N, hm, hsz, R⟩ := h₁
  refine wpAny_pyIter_list ⟨_, (N _ hm).1, rfl, k, rfl⟩ ?_
  have up : ∀ b o, s₁.heap.get? b = some o → (s₁.heap.push { cls := .type "list_iterator", data := .fields #[.ref ax, .int 0 0] }).get? b = some o := fun b o e => Heap.get?_push_of_some _ e
  refine pairs_block hh hsz hm rfl rfl hcell hkind hx hx₂ hxx ⟨_, Heap.get?_push_size _ rfl, rfl, rfl⟩ (F.keeps up) (N.grown up) (Nat.ne_of_lt F.ns.lt) (next_is_new F) (fun p hp => Nat.ne_of_lt (Heap.lt_size (N p hp).1)) (R _) ?_
  intro D C h tk m' ys F' N' o1 hn hC₀ hD₀ hCL hDL hCD offC fin
  refine ⟨m', hn, fun h'' hs'' => fin D h'' tk (F'.change hs'' hCL hC₀) (fun p hp => ?_) o1⟩
  refine ⟨hs''.extBut _ _ ?_ (N' p hp).1, (N' p hp).2⟩
  rcases List.mem_cons.mp hp with rfl | hp
  · exact Ne.symm hCD
  · exact offC p hp
theorem Assign_ListComp_PT {ct elt iter : Expr} {x x₂ y : Str} {px px₂ tp py : Pos} {kk : Nat} {scope : Scope} {cl : List (Str × Addr)} {pos spos : Pos} {Q : Flow → Shared → Prop} (_F₀ : Fr h₀ L s.heap m) (hLe : env.locals = L)
    (hsw : swapsWith (.ListComp elt [⟨.Tuple [.Name x px, .Name x₂ px₂] kk tp, iter, [ct], 0⟩] scope pos) (some (.Name y py)) spos.line env = pure true)
    (hclos : closureFor scope env = pure cl) (hcell : ∀ z ∈ scope.names, z.2 ≠ .cell) (hkind : scope.kind = .function)
    (hnames : ∀ z ∈ scope.names, z.2 = .local → scope.names.lookup z.1 = some .local) (hx : scope.names.lookup x = some .local) (hx₂ : scope.names.lookup x₂ = some .local) (hxx : x ≠ x₂)
    (hy : env.kindOf y = some .local) (hp : (env.scope.kind == .class || (env.scope.kind == .module && env.locals != env.globals)) = false)
    (h : wpAny (model prog w) A (eval iter env) (SrcPT prog w A h₀ L m env ct elt x x₂ scope cl (fun s₂ => FinA h₀ L m s₂ y Q)) E s)
    (hs : ∀ x, foldedSetIterable iter env x = pure x := by intro _; rfl) :
    wpAny (model prog w) A (exec (.Assign [.Name y py] (.ListComp elt [⟨.Tuple [.Name x px, .Name x₂ px₂] kk tp, iter, [ct], 0⟩] scope pos) spos) env) Q E s := by
  subst hLe
  rw [exec_Assign_Name_used _ _ _ _ hsw]
  refine wpAny_bind (wpAny_standAt (wpAny_bind ?_))
  show wpAny _ A (do let _ ← comprehension (.ListComp elt [⟨.Tuple [.Name x px, .Name x₂ px₂] kk tp, iter, [ct], 0⟩] scope pos) scope env _ (newList []) false (eval iter env) (some (assign (.Name y py) env))) _ _ s
  refine wpAny_bind (wpAny_mono (wpAny_comprehension_free (use := some (assign (.Name y py) env)) (Q := fun _ s' => Q .next s') rfl hs hclos hkind hnames
    (wpAny_mono h (fun xv s₁ h₁ => ?_) fun _ _ e => e)) (fun _ s' hq => wpAny_pure (wpAny_pure hq)) fun _ _ e => e)
  obtain ⟨ax, k, vs, news, rfl, hh, F, N, hm, hsz, R⟩ := h₁
  refine wpAny_pyIter_list ⟨_, (N _ hm).1, rfl, k, rfl⟩ ?_
  have up : ∀ b o, s₁.heap.get? b = some o → (s₁.heap.push { cls := .type "list_iterator", data := .fields #[.ref ax, .int 0 0] }).get? b = some o := fun b o e => Heap.get?_push_of_some _ e
  refine pairs_block hh hsz hm rfl rfl hcell hkind hx hx₂ hxx ⟨_, Heap.get?_push_size _ rfl, rfl, rfl⟩ (F.keeps up) (N.grown up) (Nat.ne_of_lt F.ns.lt) (next_is_new F) (fun p hp => Nat.ne_of_lt (Heap.lt_size (N p hp).1)) (R _) ?_
  intro D C h' tk m' ys F' N' o1 hn hC₀ hD₀ hCL hDL hCD offC fin
  show wpAny _ A (assign (.Name y py) env (.ref D)) _ _ _
  refine wpAny_assign_Name (wpAny_storeName_local hy F'.ns (fun h₂ hn₂ hs₂ => ?_) hp)
  have hL₀ : h₀.get? env.locals = none := Heap.get?_none_of_le F'.above
  have F₂ : Fr h₀ env.locals h₂ (fun z => if z = y then some (.ref D) else m z) := ⟨hn₂, fun b o e => hs₂.extBut b o (fun q => by rw [q, hL₀] at e; cases e) (F'.keep b o e), F'.above⟩
  refine ⟨m', hn.sameBut hs₂ hCL, fun h'' hs'' => fin D h'' _ (F₂.change hs'' hCL hC₀) (fun p hp => ?_) o1⟩
  have z : h₂.get? p.1 = some p.2 := hs₂.extBut _ _ (N' p hp).2.1 (N' p hp).1
  refine ⟨hs''.extBut _ _ ?_ z, (N' p hp).2⟩
  rcases List.mem_cons.mp hp with rfl | hp
  · exact Ne.symm hCD
  · exact offC p hp
noncomputable def ClockAt (news : List (Addr × Obj)) (d : Dat) (v₁ v₂ : Value) : Prop :=
  (∃ x t, v₁ = .str x t ∧ v₂ = .none ∧ stOf d = none ∧ d = .tuple [.str x, .none]) ∨
    ∃ x t b k lo hi t₁ t₂, v₁ = .str x t ∧ v₂ = .ref b ∧ (b, ({ cls := .type "tuple", data := .seq #[.int lo t₁, .int hi t₂] k } : Obj)) ∈ news ∧ stOf d = some (lo, hi) ∧ (lo ≤ hi ∧ -10000000000000 ≤ lo ∧ hi ≤ 10000000000000) ∧ d = .tuple [.str x, .tuple [.int lo, .int hi]]
theorem turns_map {ct elt : Expr} {x x₂ : Str} {scope : Scope} {cl : List (Str × Addr)} {Fin : List Value → List (Addr × Obj) → Prop} {vs : List Value} {ds : List Dat} {news n₁ n₂ : List (Addr × Obj)}
    (f : Dat → Option Dat) (hD : DatAll n₁ vs ds) (sub : ∀ p ∈ n₁, p ∈ news) (hok : ∀ d ∈ ds, ClockOk d)
    (turn : ∀ d v₁ v₂ ys I oI C oC D m₂ h tk (E' : Value → Shared → Prop), d ∈ ds → ClockAt n₁ d v₁ v₂ → NsObj oC m₂ → m₂ x = some v₁ → m₂ x₂ = some v₂ → Fr h₀ L h m → News h₀ L h ((I, oI) :: (C, oC) :: (D, lst ys) :: news) → Off3 I C D news → ((@Ne Nat I C) ∧ (@Ne Nat I D) ∧ (@Ne Nat C D)) →
      wpAny (model prog w) A (isTrue ct (compEnvC scope cl C env) (eval ct (compEnvC scope cl C env))) (fun ok s' => if ok = true then
        wpAny (model prog w) A (eval elt (compEnvC scope cl C env)) (CompTurn h₀ L m { s with heap := h, toks := tk } I oI C oC D (lst ys) (fun _ => True) (fun y nw' => nw' = news ∧ ∃ e, f d = some e ∧ DatIn n₂ y e)) E' s'
        else CompTurn h₀ L m { s with heap := h, toks := tk } I oI C oC D (lst ys) (fun _ => True) (fun _ nw' => nw' = news ∧ f d = none) Value.none s') E' { s with heap := h, toks := tk })
    (fin : ∀ ys, DatAll n₂ ys (ds.filterMap f) → Fin ys news) : PairTurns prog w A h₀ L m env ct elt x x₂ scope cl vs news s Fin := by
  have hl := hD.length
  refine ⟨fun i ys => DatAll n₂ ys ((ds.take i).filterMap f), .nil, ?_, fun ys hy => ?_⟩
  · intro i v ys hv hI
    obtain ⟨d, hd, hm, hI'⟩ := dat_at hD (i := i) hv
    have ht : ds.take (i + 1) = ds.take i ++ [d] := by simp [List.take_add_one, hd]
    have key : ∀ (t : Addr) (ot : Obj) (v₁ v₂ : Value) (nt : Nat), v = .ref t → (t, ot) ∈ n₁ → ot.cls = .type "tuple" → ot.data = .seq #[v₁, v₂] nt → ClockAt n₁ d v₁ v₂ →
        ∃ (t : Addr) (ot : Obj) (v₁ v₂ : Value) (nt : Nat), v = .ref t ∧ (t, ot) ∈ news ∧ ot.cls = .type "tuple" ∧ ot.data = .seq #[v₁, v₂] nt ∧
      ∀ I oI C oC D m₂ h tk (E' : Value → Shared → Prop), NsObj oC m₂ → m₂ x = some v₁ → m₂ x₂ = some v₂ → Fr h₀ L h m → News h₀ L h ((I, oI) :: (C, oC) :: (D, lst ys) :: news) → Off3 I C D news → ((@Ne Nat I C) ∧ (@Ne Nat I D) ∧ (@Ne Nat C D)) →
        wpAny (model prog w) A (isTrue ct (compEnvC scope cl C env) (eval ct (compEnvC scope cl C env))) (fun ok s' => if ok = true then
          wpAny (model prog w) A (eval elt (compEnvC scope cl C env)) (CompTurn h₀ L m { s with heap := h, toks := tk } I oI C oC D (lst ys) (fun _ => True) (fun y nw' => nw' = news ∧ DatAll n₂ (ys ++ [y]) ((ds.take (i + 1)).filterMap f))) E' s'
          else CompTurn h₀ L m { s with heap := h, toks := tk } I oI C oC D (lst ys) (fun _ => True) (fun _ nw' => nw' = news ∧ DatAll n₂ ys ((ds.take (i + 1)).filterMap f)) Value.none s') E' { s with heap := h, toks := tk } := by
      intro t ot v₁ v₂ nt e1 e2 e3 e4 hC
      refine ⟨t, ot, v₁, v₂, nt, e1, sub _ e2, e3, e4, ?_⟩
      intro I oI C oC D m₂ h tk E' hN h1 h2 F N off ne
      refine wpAny_mono (turn d v₁ v₂ ys I oI C oC D m₂ h tk E' hm hC hN h1 h2 F N off ne) (fun ok s' hq => ?_) fun _ _ e => e
      cases ok with
      | true =>
        simp only [if_true] at hq ⊢
        refine wpAny_mono hq (fun y s₃ hq => ?_) fun _ _ e => e
        obtain ⟨h', tk', nw', e, F', N', off', _, hn, d', hf, hy⟩ := hq
        refine ⟨h', tk', nw', e, F', N', off', trivial, hn, ?_⟩
        rw [ht, List.filterMap_append]
        simp only [List.filterMap_cons, hf, List.filterMap_nil]
        exact hI.append (.cons hy .nil)
      | false =>
        simp only [Bool.false_eq_true, if_false] at hq ⊢
        obtain ⟨h', tk', nw', e, F', N', off', _, hn, hf⟩ := hq
        refine ⟨h', tk', nw', e, F', N', off', trivial, hn, ?_⟩
        rw [ht, List.filterMap_append]
        simp only [List.filterMap_cons, hf, List.filterMap_nil, List.append_nil]
        exact hI
    rcases clock_at hI' (hok d hm) with ⟨a, n, z, tz, e, hm', hs, hd'⟩ | ⟨a, n, z, tz, b, k, lo, hi, t₁, t₂, e, hm', hb, hs, hbd, hd'⟩
    · exact key a _ _ _ n e hm' rfl rfl (.inl ⟨z, tz, rfl, rfl, hs, hd'⟩)
    · exact key a _ _ _ n e hm' rfl rfl (.inr ⟨z, tz, b, k, lo, hi, t₁, t₂, rfl, rfl, hb, hs, hbd, hd'⟩)
  · rw [hl, List.take_length] at hy
    exact fin ys hy
end
end Mine
namespace Mine
open PySem PySem.W PyProof.Rows
theorem bor_a {lo hi p : Int} (h : lo ≤ p) : (Value.bool (decide (p ≤ hi)) = .bool true ∧ lo ≤ p ∧ p ≤ hi) ∨ (Value.bool (decide (p ≤ hi)) = .bool false ∧ ¬ (lo ≤ p ∧ p ≤ hi)) := by
  by_cases q : p ≤ hi
  · exact .inl ⟨by rw [decide_eq_true q], h, q⟩
  · exact .inr ⟨by rw [decide_eq_false q], fun z => q z.2⟩
theorem bor_d {lo hi p : Int} (h : ¬ lo ≤ p) : (Value.bool (decide (lo ≤ p)) = .bool true ∧ lo ≤ p ∧ p ≤ hi) ∨ (Value.bool (decide (lo ≤ p)) = .bool false ∧ ¬ (lo ≤ p ∧ p ≤ hi)) :=
  .inr ⟨by rw [decide_eq_false h], fun z => h z.1⟩
noncomputable def bName (p : Int) : Dat → Option Dat
  | .tuple [.str x, .tuple [.int lo, .int hi]] => if lo ≤ p ∧ p ≤ hi then some (.str x) else none
  | _ => none
theorem bName_t {p lo hi : Int} {x : Str} (h : lo ≤ p ∧ p ≤ hi) : bName p (.tuple [.str x, .tuple [.int lo, .int hi]]) = some (.str x) := by
  show (if lo ≤ p ∧ p ≤ hi then some (Dat.str x) else none) = _
  rw [if_pos h]
theorem bName_f {p lo hi : Int} {x : Str} (h : ¬ (lo ≤ p ∧ p ≤ hi)) : bName p (.tuple [.str x, .tuple [.int lo, .int hi]]) = none := by
  show (if lo ≤ p ∧ p ≤ hi then some (Dat.str x) else none) = _
  rw [if_neg h]
theorem bName_n {p : Int} {x : Str} : bName p (.tuple [.str x, .none]) = none := rfl
theorem bName_kqd {p : Int} {ds : List Dat} (hok : ∀ d ∈ ds, ClockOk d) : ∀ d ∈ ds.filterMap (bName p), kqdOk 8 d = true := fun e he => by
  obtain ⟨d, hd, h⟩ := List.mem_filterMap.mp he
  obtain ⟨x, s, rfl, hx, (rfl | ⟨lo, hi, rfl, _⟩)⟩ := hok d hd
  · cases h
  · by_cases q : lo ≤ p ∧ p ≤ hi
    · rw [bName_t q] at h; cases h; simp [kqdOk, hx.2]
    · rw [bName_f q] at h; cases h
theorem bName_len {p : Int} (ds : List Dat) : (ds.filterMap (bName p)).length ≤ ds.length := List.length_filterMap_le ..
noncomputable def lowF (d : Dat) : Option Dat := (stOf d).map fun s => .int s.1
theorem lowF_eq (ds : List Dat) : ds.filterMap lowF = (lows (sts ds)).map .int := by
  show ds.filterMap (fun d => (stOf d).map fun s => Dat.int s.1) = ((ds.filterMap stOf).map (·.1)).map .int
  rw [List.map_map, List.map_filterMap]
  rfl
theorem ints_dat {nw : List (Addr × Obj)} : ∀ {ns : List Int} {ys : List Value}, DatAll nw ys (ns.map .int) → IntsAre ys ns
  | [], _, h => by cases h; exact .nil
  | n :: ns, _, h => by
    cases h with
    | cons a r => cases a; exact .cons _ _ (ints_dat r)
theorem lows_len (ds : List Dat) : (lows (sts ds)).length ≤ ds.length := by
  unfold lows
  rw [List.length_map]
  exact sts_len ds
noncomputable def pairF (d : Dat) : Option Dat := (stOf d).map pairD
theorem pairF_eq (ds : List Dat) : ds.filterMap pairF = (sts ds).map pairD := by
  show ds.filterMap (fun d => (stOf d).map pairD) = (ds.filterMap stOf).map pairD
  rw [List.map_filterMap]
theorem pair_dat {nw : List (Addr × Obj)} {b : Addr} {k : Nat} {lo hi : Int} {t₁ t₂ : Tok} (h : (b, ({ cls := .type "tuple", data := .seq #[.int lo t₁, .int hi t₂] k } : Obj)) ∈ nw) : DatIn nw (.ref b) (pairD (lo, hi)) :=
  .tuple (vs := [.int lo t₁, .int hi t₂]) h (.cons (.int _ _) (.cons (.int _ _) .nil))
theorem nil_t : decide ((([] : List St).map pairD) = []) = true := by decide
theorem nil_f (s : St) (S : List St) : decide (((s :: S).map pairD) = []) = false := decide_eq_false (by simp)
theorem item_pair {prog : Program} {w : World} {A : Around} {E : Value → Shared → Prop} {s : Shared} {value slice : PySem.Expr} {h₀ : Heap} {L l : Addr} {news n₁ : List (Addr × Obj)} {vs : List Value} {P : List St} {e : Nat} {k : Int} {u : Tok} {Q : Value → Shared → Prop} (N : News h₀ L s.heap news) (hm : (l, ({ cls := .type "list", data := .seq vs.toArray e } : Obj)) ∈ news) (hD : DatAll n₁ vs (P.map pairD))
    (h0 : 0 ≤ k ∧ k < (P.length : Int)) (hfit : k < 2 ^ 63) (h : ∀ b j lo hi t₁ t₂, (b, ({ cls := .type "tuple", data := .seq #[.int lo t₁, .int hi t₂] j } : Obj)) ∈ n₁ → (lo, hi) ∈ P → Q (.ref b) s)
    (hs : subscripted slice false (.ref l) (.int k u) = operate [.ref l, .int k u] (getItem (.ref l) (.int k u)) := by with_unfolding_all rfl) :
    wpAny (model prog w) A (subscriptTail value slice (.ref l) (.int k u)) Q E s := by
  have hl : s.heap.IsList l vs.toArray := ⟨_, (N _ hm).1, rfl, e, rfl⟩
  have hlt : k.toNat < (P.map pairD).length := by rw [List.length_map]; omega
  obtain ⟨v, hv, hd⟩ := hD.get hlt
  rw [List.getElem_map] at hd
  obtain ⟨b, j, t₁, t₂, rfl, hb⟩ := dat_two (show DatIn n₁ v (.tuple [.int _, .int _]) from hd)
  exact tail_any hl.typeIs slot_list_getitem.lookup (wpAny_getItem_list hl h0.1 hfit (by simpa using hv) (h b j _ _ t₁ t₂ hb (List.getElem_mem _))) hs
noncomputable def FewV (a : Option Int) (v : Value) : Prop := (a = none ∧ v = .none) ∨ ∃ p t, a = some p ∧ v = .int p t
noncomputable def FewC (pre : List Dat) (c : (Int × Tok) × Value) : Prop := ∃ rs : List (Int × Int × Int), pre = rs.map runD ∧ c.1.1 = (rs.foldl fewStep (0, none)).1 ∧ FewV (rs.foldl fewStep (0, none)).2 c.2
theorem few_nil {t : Tok} : FewC [] ((0, t), .none) := ⟨[], rfl, rfl, .inl ⟨rfl, rfl⟩⟩
theorem fewStep_t {a : Int × Option Int} {r : Int × Int × Int} (h : a.1 < r.2.2) : fewStep a r = (r.2.2, some r.1) := if_pos h
theorem fewStep_f {a : Int × Option Int} {r : Int × Int × Int} (h : ¬ a.1 < r.2.2) : fewStep a r = a := if_neg h
theorem few_up {pre : List Dat} {c : (Int × Tok) × Value} {lo hi mn : Int} {t t' : Tok} (h : FewC pre c) (hm : c.1.1 < mn) : FewC (pre ++ [runD (lo, hi, mn)]) ((mn, t), .int lo t') := by
  obtain ⟨rs, rfl, h1, h2⟩ := h
  have e : (rs ++ [(lo, hi, mn)]).foldl fewStep (0, none) = (mn, some lo) := by
    rw [List.foldl_append]
    exact fewStep_t (r := (lo, hi, mn)) (by rw [← h1]; exact hm)
  exact ⟨rs ++ [(lo, hi, mn)], by rw [List.map_append]; rfl, by rw [e], by rw [e]; exact .inr ⟨lo, t', rfl, rfl⟩⟩
theorem few_stay {pre : List Dat} {c : (Int × Tok) × Value} {lo hi mn : Int} (h : FewC pre c) (hm : ¬ c.1.1 < mn) : FewC (pre ++ [runD (lo, hi, mn)]) c := by
  obtain ⟨rs, rfl, h1, h2⟩ := h
  have e : (rs ++ [(lo, hi, mn)]).foldl fewStep (0, none) = rs.foldl fewStep (0, none) := by
    rw [List.foldl_append]
    exact fewStep_f (r := (lo, hi, mn)) (by rw [← h1]; exact hm)
  exact ⟨rs ++ [(lo, hi, mn)], by rw [List.map_append]; rfl, by rw [e]; exact h1, by rw [e]; exact h2⟩
theorem still_two {y z : Str} {stored : List Str} {m₀ : Str → Option Value} {h₀ : Heap} {L I : Addr} {o : Obj} {news : List (Addr × Obj)} {P : (Int × Tok) × Value → Prop} {s₁ : Shared} {h' : Heap} {tk : Nat} {m' : Str → Option Value} {all : List (Addr × Obj)} {Q : Flow → Shared → Prop} {x : Int} {t : Tok} {v : Value}
    (F : Fr h₀ L h' m') (N : News h₀ L h' all) (hk : m' y = some (.int x t)) (hk2 : m' z = some v) (hI : (I, o) ∈ all) (sub : ∀ p ∈ news, p ∈ all) (off : ∀ p ∈ news, p.1 ≠ I) (hr : ∀ a, a ≠ y → a ≠ z → stored.contains a = false → m' a = m₀ a) (hv : P ((x, t), v)) :
    LoopTurn h₀ L s₁ I o (Still (fun c : (Int × Tok) × Value => [(y, Value.int c.1.1 c.1.2), (z, c.2)]) stored m₀ news P) Q .next { s₁ with heap := h', toks := tk } :=
  LoopTurn.still ((x, t), v) F N hI sub off (List.forall_mem_cons.mpr ⟨hk, List.forall_mem_cons.mpr ⟨hk2, List.forall_mem_nil _⟩⟩) (fun a ha hc => hr a (ha _ (.head _)) (ha _ (.tail _ (.head _))) hc) hv
noncomputable def FewOut (S : List St) (n : Nat) (r : Value) (add : List (Addr × Obj)) : Prop :=
  ∃ (D : Addr) (k : Nat) (x : Int) (t : Tok) (v : Value), r = .ref D ∧ add = [(D, ({ cls := .type "tuple", data := .seq #[.int ((n : Int) - x) t, v] k } : Obj))] ∧ 0 ≤ x ∧ (∀ l ∈ lows S, cnt S l ≤ x) ∧
    ((x = 0 ∧ v = .none) ∨ ∃ p t', v = .int p t' ∧ p ∈ lows S ∧ cnt S p = x ∧ 0 < x ∧ ∀ l ∈ lows S, cnt S l = x → p ≤ l)
theorem few_out {S : List St} (hS : ∀ s ∈ S, s.1 ≤ s.2) {pts : List Int} (P : Pts S pts) {n : Nat} {D : Addr} {k : Nat} {c : (Int × Tok) × Value} {t : Tok} (h : FewC ((runsOf S pts).map runD) c) :
    FewOut S n (.ref D) [(D, ({ cls := .type "tuple", data := .seq #[.int ((n : Int) - c.1.1) t, c.2] k } : Obj))] := by
  obtain ⟨rs, hr, h1, h2⟩ := h
  have e := runs_inj hr
  subst e
  obtain ⟨a1, a2, a3⟩ := few_spec S hS pts P.rising P.mem
  refine ⟨D, k, c.1.1, t, c.2, rfl, rfl, by rw [h1]; exact a1, fun l hl => by rw [h1]; exact a2 l hl, ?_⟩
  rcases a3 with ⟨b1, b2⟩ | ⟨p, b1, b2, b3, b4, b5⟩
  · rcases h2 with ⟨c1, c2⟩ | ⟨q, t', c1, c2⟩
    · exact .inl ⟨by rw [h1]; exact b1, c2⟩
    · rw [b2] at c1; cases c1
  · rcases h2 with ⟨c1, c2⟩ | ⟨q, t', c1, c2⟩
    · rw [b2] at c1; cases c1
    · rw [b2] at c1
      cases c1
      exact .inr ⟨p, t', c2, b1, by rw [h1]; exact b3, by rw [h1]; exact b4, fun l hl hc => b5 l hl (by rw [← h1]; exact hc)⟩
theorem most_eq {S : List St} {x M : Int} (h0 : 0 ≤ x) (h1 : ∀ l ∈ lows S, cnt S l ≤ x) (h2 : x = 0 ∨ ∃ p ∈ lows S, cnt S p = x) (hM : M ∈ (0 : Int) :: (lows S).map (cnt S)) (hA : ∀ a, a ∈ (0 : Int) :: (lows S).map (cnt S) → a ≤ M) : M = x := by
  have hle : M ≤ x := by
    rcases List.mem_cons.mp hM with rfl | h
    · exact h0
    · obtain ⟨l, hl, rfl⟩ := List.mem_map.mp h
      exact h1 l hl
  have hge : x ≤ M := by
    rcases h2 with rfl | ⟨p, hp, rfl⟩
    · exact hA 0 (.head _)
    · exact hA _ (.tail _ (List.mem_map.mpr ⟨p, hp, rfl⟩))
  omega
theorem best_eq {S : List St} {x p M : Int} (hp : p ∈ lows S) (hc : cnt S p = x) (hl : ∀ l ∈ lows S, cnt S l = x → p ≤ l) (hM : M ∈ (lows S).filter fun l => decide (cnt S l = x)) (hA : ∀ a, a ∈ ((lows S).filter fun l => decide (cnt S l = x)) → M ≤ a) : M = p := by
  have h1 := List.mem_filter.mp hM
  have h2 := hl M h1.1 (of_decide_eq_true h1.2)
  have h3 := hA p (List.mem_filter.mpr ⟨hp, decide_eq_true hc⟩)
  omega
end Mine
namespace Mine
open PySem PySem.W PyProof.Rows PyProof.Rows.LCg PyProof.Rows.LCt
theorem rest_intsI {prog : Program} {w : World} {A : Around} {s : Shared} {h₀ : Heap} {L : Addr} {m : Str → Option Value} {env : Env} {elt : Expr} {x : Str} {scope : Scope} {cl : List (Str × Addr)} {S : List (Addr × Obj) → Prop} {Fin : List Value → List (Addr × Obj) → Prop} {vs : List Value} {ns : List Int} {news : List (Addr × Obj)}
    (f : Int → Int) (hi : IntsAre vs ns) (hS : S news)
    (turn : ∀ j t ys I oI C oC D m₂ h tk (E' : Value → Shared → Prop), j ∈ ns → NsObj oC m₂ → m₂ x = some (.int j t) → Fr h₀ L h m → News h₀ L h ((I, oI) :: (C, oC) :: (D, lst ys) :: news) → Off3 I C D news → ((@Ne Nat I C) ∧ (@Ne Nat I D) ∧ (@Ne Nat C D)) →
      wpAny (model prog w) A (eval elt (compEnvC scope cl C env)) (CompTurn h₀ L m { s with heap := h, toks := tk } I oI C oC D (lst ys) (fun _ => True) (fun y nw' => nw' = news ∧ ∃ t, y = .int (f j) t)) E' { s with heap := h, toks := tk })
    (fin : ∀ ys, IntsAre ys (ns.map f) → Fin ys news) : CompRest prog w A h₀ L m env elt x scope cl s S (fun i v => vs.toArray[i]? = some v) Fin vs.toArray.size 0 [] news := by
  have hl := hi.length
  refine rest_inv (fun i ys nw => nw = news ∧ IntsAre ys ((ns.take i).map f)) ⟨rfl, .nil⟩ ?_ ?_
  · rintro i ys nw v I oI C oC D m₂ h tk E' hlt ⟨rfl, hb⟩ hv hC hx F N off ne
    rw [List.size_toArray, hl] at hlt
    obtain ⟨t, ht⟩ := hi.get i ns[i] (List.getElem?_eq_getElem hlt)
    have hv' : vs[i]? = some v := by simpa using hv
    rw [hv'] at ht
    cases ht
    refine wpAny_mono (turn ns[i] t ys I oI C oC D m₂ h tk E' (List.getElem_mem hlt) hC hx F N off ne) (fun y s₂ hq => ?_) fun _ _ e => e
    obtain ⟨h', tk', nw', e, F', N', off', _, hn, t, hy⟩ := hq
    subst hn hy
    refine ⟨h', tk', _, e, F', N', off', hS, rfl, ?_⟩
    rw [List.take_succ_eq_append_getElem hlt, List.map_append]
    exact ints_snoc hb
  · rintro ys nw ⟨rfl, hb⟩
    rw [List.size_toArray, hl, List.take_length] at hb
    exact fin ys hb
theorem rest_filterI {prog : Program} {w : World} {A : Around} {s : Shared} {h₀ : Heap} {L : Addr} {m : Str → Option Value} {env : Env} {ct elt : Expr} {x : Str} {scope : Scope} {cl : List (Str × Addr)} {S : List (Addr × Obj) → Prop} {Fin : List Value → List (Addr × Obj) → Prop} {vs : List Value} {ns : List Int} {news : List (Addr × Obj)}
    (f : Int → Bool) (hi : IntsAre vs ns) (hS : S news)
    (turn : ∀ j t ys I oI C oC D m₂ h tk (E' : Value → Shared → Prop), j ∈ ns → NsObj oC m₂ → m₂ x = some (.int j t) → Fr h₀ L h m → News h₀ L h ((I, oI) :: (C, oC) :: (D, lst ys) :: news) → Off3 I C D news → ((@Ne Nat I C) ∧ (@Ne Nat I D) ∧ (@Ne Nat C D)) →
      wpAny (model prog w) A (isTrue ct (compEnvC scope cl C env) (eval ct (compEnvC scope cl C env))) (fun ok s' => if ok = true then
        wpAny (model prog w) A (eval elt (compEnvC scope cl C env)) (CompTurn h₀ L m { s with heap := h, toks := tk } I oI C oC D (lst ys) (fun _ => True) (fun y nw' => nw' = news ∧ (∃ t, y = .int j t) ∧ f j = true)) E' s'
        else CompTurn h₀ L m { s with heap := h, toks := tk } I oI C oC D (lst ys) (fun _ => True) (fun _ nw' => nw' = news ∧ f j = false) Value.none s') E' { s with heap := h, toks := tk })
    (fin : ∀ ys, IntsAre ys (ns.filter f) → Fin ys news) : CompRestT prog w A h₀ L m env ct elt x scope cl s S (fun i v => vs.toArray[i]? = some v) Fin vs.toArray.size 0 [] news := by
  have hl := hi.length
  refine restT_inv (fun i ys nw => nw = news ∧ IntsAre ys ((ns.take i).filter f)) ⟨rfl, .nil⟩ ?_ ?_
  · rintro i ys nw v I oI C oC D m₂ h tk E' hlt ⟨rfl, hb⟩ hv hC hx F N off ne
    rw [List.size_toArray, hl] at hlt
    obtain ⟨t, ht⟩ := hi.get i ns[i] (List.getElem?_eq_getElem hlt)
    have hv' : vs[i]? = some v := by simpa using hv
    rw [hv'] at ht
    cases ht
    refine wpAny_mono (turn ns[i] t ys I oI C oC D m₂ h tk E' (List.getElem_mem hlt) hC hx F N off ne) (fun ok s₂ hq => ?_) fun _ _ e => e
    cases ok with
    | true =>
      simp only [if_true] at hq ⊢
      refine wpAny_mono hq (fun y s₃ hq => ?_) fun _ _ e => e
      obtain ⟨h', tk', nw', e, F', N', off', _, hn, ⟨t', hy⟩, hf⟩ := hq
      subst hn hy
      refine ⟨h', tk', _, e, F', N', off', hS, rfl, ?_⟩
      rw [List.take_succ_eq_append_getElem hlt, List.filter_append]
      simp only [List.filter_cons, hf, if_true, List.filter_nil]
      exact ints_snoc hb
    | false =>
      simp only [Bool.false_eq_true, if_false] at hq ⊢
      obtain ⟨h', tk', nw', e, F', N', off', _, hn, hf⟩ := hq
      subst hn
      refine ⟨h', tk', _, e, F', N', off', hS, rfl, ?_⟩
      rw [List.take_succ_eq_append_getElem hlt, List.filter_append]
      simp only [List.filter_cons, hf, Bool.false_eq_true, if_false, List.filter_nil, List.append_nil]
      exact hb
  · rintro ys nw ⟨rfl, hb⟩
    rw [List.size_toArray, hl, List.take_length] at hb
    exact fin ys hb
theorem news_comm {h₀ h : Heap} {L : Addr} {a b : List (Addr × Obj)} (N : News h₀ L h (a ++ b)) : News h₀ L h (b ++ a) := fun p hp => N p ((List.mem_append.mp hp).elim (fun q => List.mem_append.mpr (.inr q)) (fun q => List.mem_append.mpr (.inl q)))
end Mine
namespace Mine
theorem some_bd {ds : List PySem.W.Dat} (hok : ∀ d ∈ ds, ClockOk d) {S : List St} (hS : sts ds = S) {lo hi : Int} (h : (lo, hi) ∈ S) : lo ≤ hi ∧ -10000000000000 ≤ lo ∧ hi ≤ 10000000000000 := by
  subst hS
  obtain ⟨d, hd, e⟩ := List.mem_filterMap.mp h
  obtain ⟨x, s', rfl, hx, (rfl | ⟨a, b, rfl, hb⟩)⟩ := hok d hd
  · cases e
  · cases e; exact hb
end Mine
namespace Mine
open PySem PySem.W PyProof.Rows
noncomputable def DueR (p : Int) (pre : List Dat) (_ : Unit) (o : Obj) : Prop := ∃ ys e, o = ({ cls := .type "list", data := .seq (List.toArray ys) e } : Obj) ∧ DatAll [] ys (pre.filterMap (bName p))
theorem due_nil {p : Int} {e : Nat} : DueR p [] () ({ cls := .type "list", data := .seq #[] e } : Obj) := ⟨[], e, rfl, .nil⟩
theorem due_same {p : Int} {pre : List Dat} {d : Dat} {ys : List Value} {e : Nat} (h : bName p d = none) (hy : DatAll [] ys (pre.filterMap (bName p))) : DueR p (pre ++ [d]) () ({ cls := .type "list", data := .seq (List.toArray ys) e } : Obj) := by
  refine ⟨ys, e, rfl, ?_⟩
  rw [List.filterMap_append]
  simp only [List.filterMap_cons, h, List.filterMap_nil, List.append_nil]
  exact hy
theorem due_app {p : Int} {pre : List Dat} {d : Dat} {ys : List Value} {e : Nat} {x : Str} {t : Tok} (h : bName p d = some (.str x)) (hy : DatAll [] ys (pre.filterMap (bName p))) : DueR p (pre ++ [d]) () ({ cls := .type "list", data := .seq ((List.toArray ys).push (.str x t)) e } : Obj) := by
  refine ⟨ys ++ [.str x t], e, by rw [List.push_toArray], ?_⟩
  rw [List.filterMap_append]
  simp only [List.filterMap_cons, h, List.filterMap_nil]
  exact hy.append (.cons (.str _ _) .nil)
theorem due_len {p : Int} {ds pre post : List Dat} {d : Dat} {ys : List Value} (e : ds = pre ++ d :: post) (hy : DatAll [] ys (pre.filterMap (bName p))) (h : ds.length ≤ 40) : ys.length ≤ 1000 := by
  have h1 := hy.length
  have h2 := bName_len (p := p) pre
  have h3 := congrArg List.length e
  rw [List.length_append, List.length_cons] at h3
  omega
theorem few_two {S : List St} {x : Int} {v : Value} (h : (x = 0 ∧ v = .none) ∨ ∃ p t', v = .int p t' ∧ p ∈ lows S ∧ cnt S p = x ∧ 0 < x ∧ ∀ l ∈ lows S, cnt S l = x → p ≤ l) : x = 0 ∨ ∃ p ∈ lows S, cnt S p = x := by
  rcases h with h | ⟨p, _, _, h1, h2, _⟩
  · exact .inl h.1
  · exact .inr ⟨p, h1, h2⟩
end Mine
namespace Mine
theorem ite_tf {c : Prop} {i : Decidable c} (h : (if c then true else false) = true) : c := by
  by_cases q : c
  · exact q
  · rw [if_neg q] at h; cases h
theorem ite_ff {c : Prop} {i : Decidable c} (h : (if c then true else false) = false) : ¬ c := fun q => by
  rw [if_pos q] at h; cases h
end Mine
namespace Mine
open PySem PySem.W PyProof.Rows
theorem news_one {h₀ h : Heap} {L : Addr} {x : Addr × Obj} {l : List (Addr × Obj)} (N : News h₀ L h ([x] ++ l)) : News h₀ L h (x :: l) := N
theorem news_none {h₀ h : Heap} {L : Addr} {l : List (Addr × Obj)} (N : News h₀ L h ([] ++ l)) : News h₀ L h l := N
theorem news_two {h₀ h : Heap} {L : Addr} {x y : Addr × Obj} {l : List (Addr × Obj)} (N : News h₀ L h (l ++ [x, y])) : News h₀ L h (x :: y :: l) := news_comm N
theorem ne_same {prog : Program} {w : World} {A : Around} {E : Value → Shared → Prop} {s : Shared} {h₀ : Heap} {L a b : Addr} {oa ob : Obj} {xs ys : List Value} {ka kb : Nat} {news n₁ n₂ : List (Addr × Obj)} {ds : List Dat} {Q : Value → Shared → Prop} (N : News h₀ L s.heap news) (ma : (a, oa) ∈ news) (ca : oa.cls = .type "list") (da : oa.data = .seq xs.toArray ka) (Da : DatAll n₁ xs ds) (sa : ∀ p ∈ n₁, p ∈ news)
    (mb : (b, ob) ∈ news) (cb : ob.cls = .type "list") (db : ob.data = .seq ys.toArray kb) (Db : DatAll n₂ ys ds) (sb : ∀ p ∈ n₂, p ∈ news) (ha : ∀ d ∈ ds, kqdOk 8 d = true) (hu : A.units + 64 < cLine) (h : Q (.bool false) s) : wpAny (model prog w) A (compareOp .NotEq (.ref a) (.ref b)) Q E s :=
  kqd_ne N ma ca da Da sa mb cb db Db sb ha ha hu (by simpa using h)
theorem eq_same {prog : Program} {w : World} {A : Around} {E : Value → Shared → Prop} {s : Shared} {h₀ : Heap} {L a b : Addr} {oa ob : Obj} {xs ys : List Value} {ka kb : Nat} {news n₁ n₂ : List (Addr × Obj)} {ds : List Dat} {Q : Value → Shared → Prop} (N : News h₀ L s.heap news) (ma : (a, oa) ∈ news) (ca : oa.cls = .type "list") (da : oa.data = .seq xs.toArray ka) (Da : DatAll n₁ xs ds) (sa : ∀ p ∈ n₁, p ∈ news)
    (mb : (b, ob) ∈ news) (cb : ob.cls = .type "list") (db : ob.data = .seq ys.toArray kb) (Db : DatAll n₂ ys ds) (sb : ∀ p ∈ n₂, p ∈ news) (ha : ∀ d ∈ ds, kqdOk 8 d = true) (hu : A.units + 64 < cLine) (h : Q (.bool true) s) : wpAny (model prog w) A (compareOp .Eq (.ref a) (.ref b)) Q E s :=
  kqd_eq N ma ca da Da sa mb cb db Db sb ha ha hu (by simpa using h)
end Mine
namespace Mine
theorem c_borneS (w : World) (mean : ExcName → Option Value) (mg mb : Str → Option Value) (b : Addr) (k : Nat) (lo hi p : Int) (t1 t2 tp : Tok) :
    Cv PySem.Challenge.rw_uf050027_06.row.prog w (k06.heap_1 w.params) vw06 (looseW vw06 []) mean mg mb 21 1 [.ref b, .int p tp] (fun news => (b, ({ cls := .type "tuple", data := .seq #[.int lo t1, .int hi t2] k } : Obj)) ∈ news) (fun r => (r = .bool true ∧ lo ≤ p ∧ p ≤ hi) ∨ (r = .bool false ∧ ¬ (lo ≤ p ∧ p ≤ hi))) := by
  unfold Cv
  k_fill
  w_top off
  intro dp un gd cn cs a ccd cl outer A₀ base h₀ L m news s Q E B F X N T hk hd hu hP hret
  refine wpAny_call ?_
  k_dflt cell_enter
  k_with_none
  k_steps
  k_with_none
  all_goals (refine' hret _ _ _ ?q1 ?q2 ?q3; (case q2 => k_asm); (case q3 => k_asm); (case q1 => first | exact .inl ⟨rfl, by omega, by omega⟩ | exact .inr ⟨rfl, by omega⟩ | exact bor_a (by omega) | exact bor_d (by omega)))

end Mine
namespace Mine
theorem c_borneN (w : World) (mean : ExcName → Option Value) (mg mb : Str → Option Value) (p : Int) (tp : Tok) : Con w mean mg mb 21 1 [.none, .int p tp] True (fun _ => .bool (false)) := by
  unfold Con Ct
  k_fill
  w_top off
  intro dp un gd cn cs a ccd cl outer A₀ base h₀ L m news s Q E B F X N T hk hd hu hret
  refine wpAny_call ?_
  k_dflt cell_enter
  k_with_none
  k_steps
  all_goals (refine' hret (0 : Nat) _ _ trivial ?e3 ?e4; (case e3 => k_asm); (case e4 => k_asm))
end Mine
namespace Mine
theorem c_bearers (w : World) (mean : ExcName → Option Value) (mg mb : Str → Option Value) (C : Addr) (vs : List Value) (ds : List Dat) (k : Nat) (hok : ∀ d ∈ ds, ClockOk d) (hlen : ds.length ≤ 40) (p : Int) (tp : Tok) :
    Cm PySem.Challenge.rw_uf050027_06.row.prog w (k06.heap_1 w.params) vw06 (looseW vw06 []) mean mg mb 26 3 [.ref C, .int p tp] (fun _ news => (C, ({ cls := .type "list", data := .seq vs.toArray k } : Obj)) ∈ news ∧ DatAll news vs ds) (fun r add => ∃ D ys, r = .ref D ∧ add = [(D, LCg.lst ys)] ∧ DatAll [] ys (ds.filterMap (bName p))) := by
  unfold Cm
  k_fill
  w_top off
  intro dp un gd cn cs a ccd cl outer A₀ base h₀ L m news s Q E B F X N T hk hd hu hP hret
  obtain ⟨hm, hD⟩ := hP
  refine wpAny_call ?_
  k_dflt (refine' code_defC ?k1 ?k2 ?k3 ?k4 ?k5 ?kA ?kF ?kK ?k6 ?k7 ?k8 ?k9 ?kB ?kD ?_ ?c2 ?c3 ?c4; (case kA => exact rfl); (case kF => exact rfl); (case kK => assumption); (case k1 => k_asm); (case k2 => k_asm); (case k3 => k_asm); (case k4 => k_asm); (case k5 => k_asm); (case k6 => k_is); (case k7 => k_is); (case k8 => ktr_room); (case k9 => exact BindsTo.of_eq rfl); (case kB => exact rfl); (case kD => decide +kernel); (case c2 => exact rfl); (case c3 => exact rfl); (case c4 => exact rfl); k_whole; intro g' L' h' tk' cells' FG' F' N' Y' B' X' T' l1; (try k_lt l1); k_cells Y'; (try simp only [List.cons_append, List.nil_append] at N'); (try dsimp only); (try k_lift B'); (try k_fold))
  k_with_none
  k_with "eval ListComp" => (k_here; k_dflt (refine Mine.ListComp_PT (by k_asm) (by with_unfolding_all rfl) (by decide) (by rfl) (by decide) (by rfl) (by rfl) (by decide) ?_))
  k_with "call ref" => (k_here; (with_reducible show wpAny _ _ (call (Value.ref 21) [Value.none, _]) _ _ _); k_dflt (refine Mine.Ct.use (Mine.c_borneN _ _ _ _ _ _) (ret := ?_)); intro t9 h9 tk9 P9 F9 N9; (try dsimp only); (try k_fold))
  k_with "call ref" => (k_here; (with_reducible show wpAny _ _ (call (Value.ref 21) [Value.ref _, _]) _ _ _); k_dflt (refine' Mine.Cv.use (Mine.c_borneS _ _ _ _ b7 k7 lo7 hi7 _ t17 t27 _) (hp := ?kP) (ret := ?_); (case kP => (show _ ∈ _; (repeat (first | exact hb7 | refine List.Mem.tail _ ?_))))); intro r9 h9 tk9 ho9 F9 N9; k_dflt (rcases ho9 with ⟨e9, hb9⟩ | ⟨e9, hb9⟩ <;> subst e9); (all_goals (try dsimp only)); (all_goals (try k_fold)))
  k_steps
  (rename Fr _ _ _ _ => lF')
  (rename News _ _ _ _ => lN')
  k_dflt (refine Mine.SrcPT.ledger (by rfl) lF' lN' (.tail _ hm) (by rw [hD.length, sizeLine_eq]; omega) ?_)
  intro g9
  refine Mine.turns_map (n₂ := []) (bName p) hD (fun _ h => .tail _ h) hok ?_ ?_
  · intro d7 v17 v27 ys7 I7 oI7 C7 oC7 D7 m7 h7 tk7 E7 hd7 hc7 hN7 hx7 hy7 F7 N7 off7 ne7
    rcases hc7 with ⟨x7, t7, rfl, rfl, hs7, rfl⟩ | ⟨x7, t7, b7, k7, lo7, hi7, t17, t27, rfl, rfl, hb7, hs7, hbd7, rfl⟩
    all_goals clear lN'
    · k_steps
      all_goals first | (refine CompTurn.intro (by k_asm) (by k_asm) _ ?cS ?cO trivial ⟨rfl, bName_n⟩; (case cS => first | exact fun _ h => h | kst_inAny); (case cO => assumption))

    · k_steps
      all_goals first | (refine CompTurn.intro (by k_asm) (by k_asm) _ ?cS ?cO trivial ⟨rfl, _, bName_t hb9, .str _ _⟩; (case cS => first | exact fun _ h => h | kst_inAny); (case cO => assumption)) | (refine CompTurn.intro (by k_asm) (by k_asm) _ ?cS ?cO trivial ⟨rfl, bName_f hb9⟩; (case cS => first | exact fun _ h => h | kst_inAny); (case cO => assumption)) | (refine CompTurn.intro (by k_asm) (by k_asm) _ ?cS ?cO trivial ⟨rfl, _, bName_t (ite_tf (by assumption)), .str _ _⟩; (case cS => first | exact fun _ h => h | kst_inAny); (case cO => assumption)) | (refine CompTurn.intro (by k_asm) (by k_asm) _ ?cS ?cO trivial ⟨rfl, bName_f (ite_ff (by assumption))⟩; (case cS => first | exact fun _ h => h | kst_inAny); (case cO => assumption))

  · intro ys7 hy7
    intro D7 h7 tk7 F7 N7 o7
    clear lN'
    k_steps
    all_goals (refine' hret (.ref D7) [(D7, LCg.lst ys7)] _ _ ⟨D7, ys7, rfl, rfl, hy7⟩ ?q1 ?q2 ?q3; (case q1 => exact fun p hp q hq => by rw [List.mem_singleton.mp hp]; exact off1_mem o7 q (.tail _ hq)); (case q2 => k_asm); (case q3 => (rename News h₀ L _ _ => kN9; exact fun p hp => kN9 p (by rcases List.mem_cons.mp hp with rfl | hp; exact .head _; exact .tail _ (.tail _ hp)))))
end Mine
namespace Mine
theorem c_lows (w : World) (mean : ExcName → Option Value) (mg mb : Str → Option Value) (C : Addr) (vs : List Value) (ds : List Dat) (k : Nat) (hok : ∀ d ∈ ds, ClockOk d) (hlen : ds.length ≤ 40) :
    Cm PySem.Challenge.rw_uf050027_06.row.prog w (k06.heap_1 w.params) vw06 (looseW vw06 []) mean mg mb 99 2 [.ref C] (fun _ news => (C, ({ cls := .type "list", data := .seq vs.toArray k } : Obj)) ∈ news ∧ DatAll news vs ds) (fun r add => ∃ D ys, r = .ref D ∧ add = [(D, LCg.lst ys)] ∧ IntsAre ys (lows (sts ds))) := by
  unfold Cm
  k_fill
  w_top off
  intro dp un gd cn cs a ccd cl outer A₀ base h₀ L m news s Q E B F X N T hk hd hu hP hret
  obtain ⟨hm, hD⟩ := hP
  refine wpAny_call ?_
  k_dflt cell_enter
  k_with_none
  k_with "eval ListComp" => (k_here; k_dflt (refine Mine.ListComp_PT (by k_asm) (by with_unfolding_all rfl) (by decide) (by rfl) (by decide) (by rfl) (by rfl) (by decide) ?_))
  k_steps
  (rename Fr _ _ _ _ => lF')
  (rename News _ _ _ _ => lN')
  k_dflt (refine Mine.SrcPT.ledger (by rfl) lF' lN' hm (by rw [hD.length, sizeLine_eq]; omega) ?_)
  intro g9
  refine Mine.turns_map (n₂ := []) lowF hD (fun _ h => h) hok ?_ ?_
  · intro d7 v17 v27 ys7 I7 oI7 C7 oC7 D7 m7 h7 tk7 E7 hd7 hc7 hN7 hx7 hy7 F7 N7 off7 ne7
    rcases hc7 with ⟨x7, t7, rfl, rfl, hs7, rfl⟩ | ⟨x7, t7, b7, k7, lo7, hi7, t17, t27, rfl, rfl, hb7, hs7, hbd7, rfl⟩
    all_goals clear lN'
    · k_steps
      all_goals first | (refine CompTurn.intro (by k_asm) (by k_asm) _ ?cS ?cO trivial ⟨rfl, rfl⟩; (case cS => first | exact fun _ h => h | kst_inAny); (case cO => assumption))

    · k_steps
      all_goals first | (refine CompTurn.intro (by k_asm) (by k_asm) _ ?cS ?cO trivial ⟨rfl, _, rfl, .int _ _⟩; (case cS => first | exact fun _ h => h | kst_inAny); (case cO => assumption))

  · intro ys7 hy7
    intro D7 h7 tk7 F7 N7 o7
    clear lN'
    rw [lowF_eq] at hy7
    k_steps
    all_goals (refine' hret (.ref D7) [(D7, LCg.lst ys7)] _ _ ⟨D7, ys7, rfl, rfl, ints_dat hy7⟩ ?q1 ?q2 ?q3; (case q1 => exact fun p hp q hq => by rw [List.mem_singleton.mp hp]; exact off1_mem o7 q hq); (case q2 => k_asm); (case q3 => k_asm))
end Mine
namespace Mine
theorem c_point (w : World) (mean : ExcName → Option Value) (mg mb : Str → Option Value) (S : Addr) (vsS : List Value) (ns : List Int) (hi : IntsAre vsS ns) (hlay : PyData.layable0 (.list (ns.map .int)) = true) (hln : ns.length ≤ 63) (C : Addr) (vs : List Value) (ds : List Dat) (k : Nat) (hok : ∀ d ∈ ds, ClockOk d) (hlen : ds.length ≤ 40) :
    Cm PySem.Challenge.rw_uf050027_06.row.prog w (k06.heap_1 w.params) vw06 (looseW vw06 []) mean mg mb 104 12 [.ref S, .ref C] (fun h₀ news => h₀.IsList S vsS.toArray ∧ (C, ({ cls := .type "list", data := .seq vs.toArray k } : Obj)) ∈ news ∧ DatAll news vs ds) (fun r add => add = [] ∧ ∃ p t, r = .int p t) := by
  unfold Cm
  k_fill
  w_top off
  intro dp un gd cn cs a ccd cl outer A₀ base h₀ L m news s Q E B F X N T hk hd hu hP hret
  obtain ⟨hPS, hm, hD⟩ := hP
  have hl9 := hi.length
  replace hPS : h₀.IsList S vsS.toArray := hPS
  refine wpAny_call ?_
  k_dflt cell_enter
  (rename Fr h₀ L _ m => FG9)
  have hP9 := list_up FG9 hPS
  have ck2 := cell_ok2 hlay (Int.toNat 2)
  k_with_none
  k_with "call ref" => (k_here; (with_reducible show wpAny _ _ (call (Value.ref 61) _) _ _ _); k_dflt (refine Mine.Ct.use (Mine.c_lmix _ _ _ _ _ _ _ _) (ret := ?_)); intro t9 h9 tk9 P9 F9 N9; (try dsimp only); (try k_fold))
  k_with "call ref" => (k_here; (with_reducible show wpAny _ _ (call (Value.ref 68) _) _ _ _); k_dflt (refine Mine.Ct.use (Mine.c_lbig _ _ _ _ _ _ _ _) (ret := ?_)); intro t9 h9 tk9 P9 F9 N9; (try dsimp only); (try k_fold))
  k_with "exec Assign cons ListComp" => (k_here; k_dflt (refine Mine.Assign_ListComp_PT (by k_asm) (by rfl) (by with_unfolding_all rfl) (by with_unfolding_all rfl) (by decide) (by rfl) (by decide) (by rfl) (by rfl) (by decide) (by rfl) (by rfl) ?_))
  k_with "call ref" => (k_here; (with_reducible show wpAny _ _ (call (Value.ref 54) _) _ _ _); k_dflt (refine' Mine.Cm.use (Mine.c_cell _ _ _ _ S vsS ns hi hlay hln _ _ ?kp8) (hp := ?kP) (ret := ?_); (case kP => first | exact hP9 | exact hP); (case kp8 => omega)); intro r9 ad9 h9 tk9 ho9 hn9 F9 N9; k_dflt ((obtain ⟨e9, t9, e8⟩ := ho9); subst e9; subst e8; (replace N9 : News _ _ _ _ := N9); (simp only [List.nil_append] at N9)); (try dsimp only); (try k_fold))
  k_steps
  (rename Fr _ _ _ _ => lF')
  (rename News _ _ _ _ => lN')
  k_dflt (refine Mine.SrcPT.ledger (by rfl) lF' lN' hm (by rw [hD.length, sizeLine_eq]; omega) ?_)
  intro g9
  refine Mine.turns_map (n₂ := news) pairF hD (fun _ h => h) hok ?_ ?_
  · intro d7 v17 v27 ys7 I7 oI7 C7 oC7 D7 m7 h7 tk7 E7 hd7 hc7 hN7 hx7 hy7 F7 N7 off7 ne7
    rcases hc7 with ⟨x7, t7, rfl, rfl, hs7, rfl⟩ | ⟨x7, t7, b7, k7, lo7, hi7, t17, t27, rfl, rfl, hb7, hs7, hbd7, rfl⟩
    all_goals clear lN'
    · k_steps
      all_goals first | (refine CompTurn.intro (by k_asm) (by k_asm) _ ?cS ?cO trivial ⟨rfl, rfl⟩; (case cS => first | exact fun _ h => h | kst_inAny); (case cO => assumption))

    · k_steps
      all_goals first | (refine CompTurn.intro (by k_asm) (by k_asm) _ ?cS ?cO trivial ⟨rfl, _, rfl, pair_dat hb7⟩; (case cS => first | exact fun _ h => h | kst_inAny); (case cO => assumption))

  · intro ys7 hy7
    intro D7 h7 tk7 F7 N7 o7
    clear lN'
    rw [pairF_eq] at hy7
    have hl7 := hy7.length
    rw [List.length_map] at hl7
    have hs7 := sts_len ds
    k_with "compareOp Eq ref ref" => (k_here; (with_reducible show wpAny _ _ (compareOp CmpOp.Eq (Value.ref _) (Value.ref _)) _ _ _); (rename News _ _ _ _ => kN9); k_dflt (refine' kqd_eq (n₂ := []) (ys := []) (es := []) kN9 ?a ?ca ?da hy7 ?s ?b ?cb ?db .nil (fun _ h => nomatch h) pairs_kqd (fun _ h => nomatch h) ?n ?_; (case a => (repeat (first | exact List.Mem.head _ | refine List.Mem.tail _ ?_))); (case ca => rfl); (case da => rfl); (case b => (repeat (first | exact List.Mem.head _ | refine List.Mem.tail _ ?_))); (case cb => rfl); (case db => rfl); (case s => (intro p9 hp9; (repeat (first | exact hp9 | refine List.Mem.tail _ ?_)))); (case n => first | ke_room | ktr_units)); (simp only [nil_t, nil_f]))
    k_with "call builtin:len" => (k_here; (with_reducible show wpAny _ _ (call (Value.builtin _) [Value.ref D7]) _ _ _); (rename News _ _ _ _ => kN9); k_dflt (refine' Mine.len_led kN9 ?lm7 hl7 ?lz7 ?_; (case lm7 => (repeat (first | exact List.Mem.head _ | refine List.Mem.tail _ ?_))); (case lz7 => omega)))
    k_with "subscriptTail Name BinOp ref int" => (k_here; (with_reducible show wpAny _ _ (subscriptTail _ _ (Value.ref D7) (Value.int _ _)) _ _ _); (rename News _ _ _ _ => kN9); k_dflt (refine' Mine.item_pair kN9 ?k1 hy7 ?k2 ?k3 ?_; (case k1 => (repeat (first | exact List.Mem.head _ | refine List.Mem.tail _ ?_))); (case k2 => (have f9 := fmb (mix (ns.getD (Int.toNat 2) 0) 10) ((S0.length + 1 : Nat) : Int) (by omega); (simp only [List.length_cons]); constructor <;> omega)); (case k3 => (have f9 := fmb (mix (ns.getD (Int.toNat 2) 0) 10) ((S0.length + 1 : Nat) : Int) (by omega); omega)); k_whole); intro b9 k9 lo9 hi9 t19 t29 hb9 hq9; (have hbd9 := some_bd hok hS7 hq9))
    k_with "subscriptTail List cons BinOp ref int" => (k_here; (with_reducible show wpAny _ _ (subscriptTail _ _ (Value.ref _) (Value.int _ _)) _ _ _); (try k_fmods); k_dflt (first | (refine' Mine.item_of (fun x => x = 1 ∨ x = -1) ?k1 ?k2 ?k3 ?k4 ?k5 ?_; (case k1 => is_list); (case k2 => l_ints); (case k3 => decide); (case k4 => (simp only [List.length_cons, List.length_nil]; omega)); (case k5 => omega); k_whole) | (refine' Mine.item_of (fun _ => True) ?k1 ?k2 ?k3 ?k4 ?k5 ?_; (case k1 => is_list); (case k2 => l_ints); (case k3 => exact fun _ _ => trivial); (case k4 => (simp only [List.length_cons, List.length_nil]; omega)); (case k5 => omega); k_whole)); intro t8 d9 hd9)
    cases hS7 : sts ds with
    | nil =>
      rw [hS7] at hy7 hl7 hs7
      k_steps
      all_goals (refine' hret _ [] _ _ ⟨rfl, _, _, rfl⟩ (fun _ h => nomatch h) ?q2 ?q3; (case q2 => k_asm); (case q3 => (rename News h₀ L _ _ => kN9; exact fun p hp => kN9 p (by (repeat (first | exact hp | refine List.Mem.tail _ ?_))))))
    | cons s0 S0 =>
      rw [hS7] at hy7 hl7 hs7
      replace hl7 : ys7.length = S0.length + 1 := hl7
      replace hs7 : S0.length + 1 ≤ ds.length := hs7
      k_steps
      all_goals (refine' hret _ [] _ _ ⟨rfl, _, _, rfl⟩ (fun _ h => nomatch h) ?q2 ?q3; (case q2 => k_asm); (case q3 => (rename News h₀ L _ _ => kN9; exact fun p hp => kN9 p (by (repeat (first | exact hp | refine List.Mem.tail _ ?_))))))
end Mine
namespace Mine
theorem c_fewest (w : World) (mean : ExcName → Option Value) (mg mb : Str → Option Value) (C : Addr) (vs : List Value) (ds : List Dat) (k : Nat) (hok : ∀ d ∈ ds, ClockOk d) (hlen : ds.length ≤ 40) :
    Cm PySem.Challenge.rw_uf050027_06.row.prog w (k06.heap_1 w.params) vw06 (looseW vw06 []) mean mg mb 40 4 [.ref C] (fun _ news => (C, ({ cls := .type "list", data := .seq vs.toArray k } : Obj)) ∈ news ∧ DatAll news vs ds) (fun r add => FewOut (sts ds) ds.length r add) := by
  unfold Cm
  k_fill
  w_top off
  intro dp un gd cn cs a ccd cl outer A₀ base h₀ L m news s Q E B F X N T hk hd hu hP hret
  obtain ⟨hm, hD⟩ := hP
  refine wpAny_call ?_
  k_dflt cell_enter
  k_with_none
  k_with "exec For Tuple Call cons nil" => (k_here; (rename Fr _ _ _ _ => lF'); (with_unfolding_all refine' For_turns lF' ?_; k_whole))
  k_with "call ref" => (k_here; (with_reducible show wpAny _ _ (call (Value.ref 33) _) _ _ _); k_dflt (refine' Mine.Cm.use (Mine.c_runs _ _ _ _ C vs ds k hok hlen) (hp := ?kP) (ret := ?_); (case kP => exact ⟨hm, hD⟩)); intro r9 ad9 h9 tk9 ho9 hn9 F9 N9; k_dflt ((obtain ⟨R9, ys9, e9, pts9, e8, hm9, P9, P9l, hD9⟩ := ho9); subst e8); (try dsimp only); (try k_fold))
  k_with "call builtin:len" => (k_here; (with_reducible show wpAny _ _ (call (Value.builtin _) [Value.ref C]) _ _ _); (rename News _ _ _ _ => kN9); k_dflt (refine' Mine.len_led kN9 ?lm7 hD.length ?lz7 ?_; (case lm7 => (show _ ∈ _; exact List.mem_append.mpr (.inr hm))); (case lz7 => omega)))
  k_steps
  (rename Fr _ _ _ _ => lF')
  (rename News _ _ _ _ => lN')
  k_dflt (refine' Mine.loop_listD (σ := (Int × Tok) × Value) (fun c => [(Str.ofString "most", Value.int c.1.1 c.1.2), (Str.ofString "point", c.2)]) [Str.ofString "low", Str.ofString "high", Str.ofString "many"] FewC ((0, _), .none) (hD9.mono fun p hp => List.mem_append.mpr (.inl hp)) (by rfl) lF' lN' (List.mem_append.mpr (.inl hm9)) rfl rfl (List.forall_mem_cons.mpr ⟨rfl, List.forall_mem_cons.mpr ⟨rfl, List.forall_mem_nil _⟩⟩) few_nil ?_ ?_)
  (all_goals (clear lF' lN'))
  · intro pre8 d8 post8 v8 c8 u8 I8 o8 h8 tk8 e8 hd8 hI8 hP8 hne8 ho8 F8 N8
    obtain ⟨⟨x8, tx8⟩, w8⟩ := c8
    dsimp only at F8
    obtain ⟨⟨lo7, hi7, mn7⟩, _, rfl⟩ := List.mem_map.mp hd8
    obtain ⟨a7, k7, t17, t27, t37, rfl, hm7⟩ := dat_three (show DatIn _ _ (.tuple [.int lo7, .int hi7, .int mn7]) from hI8)
    k_steps
    all_goals ((rename Fr _ _ _ _ => lF8); (rename News _ _ _ _ => lN8); k_dflt (refine' Mine.still_two lF8 lN8 ?lK ?lJ (List.Mem.head _) (fun p hp => List.Mem.tail _ hp) ?lO ?lR ?lP; (case lK => first | exact if_pos rfl | exact rfl); (case lJ => first | exact if_pos rfl | exact rfl); (case lO => assumption); (case lP => first | exact few_up hP8 (show x8 < mn7 by omega) | exact few_stay hP8 (show ¬ x8 < mn7 by omega)); (case lR => (intro z h4 h5 h3; (simp only [List.contains_cons, List.contains_nil, Bool.or_false, Bool.or_eq_false_iff, beq_eq_false_iff_ne, ne_eq] at h3 h4 h5); (simp [h3, h4, h5, kstB]; done)))))
  · intro c8 u8 h8 tk8 hP8 F8 N8
    obtain ⟨⟨x8, tx8⟩, w8⟩ := c8
    dsimp only at F8
    k_steps
    all_goals ((rename Fr _ _ _ _ => lF8); (rename News _ _ _ _ => lN8); refine' hret _ _ _ _ (few_out (sts_le hok) P9 hP8) ?r2 lF8 ?r3; (case r2 => ((rename ∀ p ∈ ad9 ++ news, p.1 < _ => lA8); exact fun p hp q hq => by rw [List.mem_singleton.mp hp]; exact Nat.ne_of_lt (lA8 q (List.mem_append.mpr (.inr hq))))); (case r3 => exact fun p hp => lN8 p (by rcases List.mem_cons.mp hp with rfl | hp; exact .head _; exact .tail _ (List.mem_append.mpr (.inr hp)))))
end Mine
set_option rowWalk.seconds 0 in
theorem Mine.walk06 : ∀ d kwd, defOf Mine.vw06 PySem.Challenge.rw_uf050027_06.row.name = some (d, kwd) → WalkO Mine.vw06 [] (XL Mine.vw06 []) (Hook.says (kHook Mine.k06.heap_1 _ Mine.kas06)) PySem.Challenge.rw_uf050027_06.row.toRowW d kwd (fun f vs => PySem.call f vs) := by
  intro d kwd hdk
  cases hdk
  k_with_none
  k_with "call builtin:len" => (k_here; (with_reducible show wpAny _ _ (call (Value.builtin _) [Value.ref C7]) _ _ _); (rename News _ _ _ _ => kN9); k_dflt (refine' Mine.len_led kN9 ?lm7 hD7.length ?lz7 ?_; (case lm7 => (show _ ∈ _; (repeat (first | exact hm7 | refine List.Mem.tail _ ?_)))); (case lz7 => omega)))
  k_with "eval ListComp" => (k_here; (with_reducible show wpAny _ _ (eval (PySem.Expr.ListComp _ [⟨_, _, [], _⟩] _ _) _) _ _ _); k_dflt (refine Mine.ListComp_V (by k_asm) (by with_unfolding_all rfl) (by decide) (by rfl) (by decide) (by rfl) ?_))
  k_with "eval ListComp" => (k_here; (with_reducible show wpAny _ _ (eval (PySem.Expr.ListComp _ [⟨_, _, _ :: _, _⟩] _ _) _) _ _ _); k_dflt (refine Mine.ListComp_VT (by k_asm) (by with_unfolding_all rfl) (by decide) (by rfl) (by decide) (by rfl) ?_))
  k_with "call ref" => (k_here; (with_reducible show wpAny _ _ (call (Value.ref 87) _) _ _ _); k_dflt (refine' Mine.Cm.use (Mine.c_clocks _ _ _ _ _ _ _ ?hi ?hl ?hn) (hp := ?kP) (ret := ?_); (case kP => assumption); (case hi => assumption); (case hl => assumption); (case hn => omega)); intro r9 ad9 h9 tk9 ho9 hn9 F9 N9; k_dflt ((obtain ⟨C7, vs7, k7, ds7, e8, hm7, hD7, hok7, hlen7⟩ := ho9); subst e8; (replace N9 := Mine.news_two N9); (have hc17 := fun p hp => Ne.symm (hn9 p hp _ (List.Mem.head _))); (have hc27 := fun p hp => Ne.symm (hn9 p hp _ (List.Mem.tail _ (List.Mem.head _))))); (try dsimp only at hc17 hc27); (try dsimp only); (try k_fold))
  k_with "call ref" => (k_here; (with_reducible show wpAny _ _ (call (Value.ref 104) _) _ _ _); k_dflt (refine' Mine.Cm.use (Mine.c_point _ _ _ _ _ _ _ ?hi ?hl ?hn C7 vs7 ds7 _ hok7 hlen7) (hp := ?kP) (ret := ?_); (case kP => exact ⟨by assumption, by (show _ ∈ _; (repeat (first | exact hm7 | refine List.Mem.tail _ ?_))), hD7.mono (by (intro p9 hp9; (repeat (first | exact hp9 | refine List.Mem.tail _ ?_))))⟩); (case hi => assumption); (case hl => assumption); (case hn => omega)); intro r9 ad9 h9 tk9 ho9 hn9 F9 N9; k_dflt ((obtain ⟨e6, p7, tp7, e8⟩ := ho9); subst e6; subst e8; (replace N9 := Mine.news_none N9)); (try dsimp only); (try k_fold))
  k_with "call type:list" => (k_here; (with_reducible show wpAny _ _ (call (Value.type _) [Value.ref C7]) _ _ _); k_dflt (refine' kup_listOf (zs := vs7) ?F ?N ?M rfl ?_ ?z; (case F => k_asm); (case N => k_asm); (case M => (show _ ∈ _; (repeat (first | exact hm7 | refine List.Mem.tail _ ?_)))); (case z => (show vs7.length ≤ _; rw [hD7.length, sizeLine_eq]; omega))); intro H6 c6 h6 F6 N6 l16; (try k_lt l16))
  k_with "call ref" => (k_here; (with_reducible show wpAny _ _ (call (Value.ref 26) _) _ _ _); k_dflt (refine' Mine.Cm.use (Mine.c_bearers _ _ _ _ H6 vs7 ds7 _ hok7 hlen7 _ _) (hp := ?kP) (ret := ?_); (case kP => exact ⟨by (repeat (first | exact List.Mem.head _ | refine List.Mem.tail _ ?_)), hD7.mono (by (intro p9 hp9; (repeat (first | exact hp9 | refine List.Mem.tail _ ?_))))⟩)); intro r9 ad9 h9 tk9 ho9 hn9 F9 N9; k_dflt ((obtain ⟨B7, yb7, e8, e6, hB7⟩ := ho9); subst e8; subst e6; (replace N9 := Mine.news_one N9); (have hb17 := hn9 _ (List.Mem.head _)); clear hn9; (try (have hb27 : @Ne Nat _ _ := hb17 _ (List.Mem.tail _ (List.Mem.head _))))); (try dsimp only at hb27); (try dsimp only); (try k_fold))
  k_with "call ref" => (k_here; (with_reducible show wpAny _ _ (call (Value.ref 40) _) _ _ _); k_dflt (refine' Mine.Cm.use (Mine.c_fewest _ _ _ _ H6 vs7 ds7 _ hok7 hlen7) (hp := ?kP) (ret := ?_); (case kP => exact ⟨by (repeat (first | exact List.Mem.head _ | refine List.Mem.tail _ ?_)), hD7.mono (by (intro p9 hp9; (repeat (first | exact hp9 | refine List.Mem.tail _ ?_))))⟩)); intro r9 ad9 h9 tk9 ho9 hn9 F9 N9; k_dflt ((obtain ⟨Dp7, kp7, x7, tx7, v7, e8, e6, hx0, hxl, hxc⟩ := ho9); subst e8; subst e6; (replace N9 := Mine.news_one N9); (have hp17 := hn9 _ (List.Mem.head _)); clear hn9; (try (have hp27 : @Ne Nat _ _ := hp17 _ (List.Mem.tail _ (List.Mem.tail _ (List.Mem.tail _ (List.Mem.head _))))))); (try dsimp only at hp27); (try dsimp only); (try k_fold))
  k_with "call ref" => (k_here; (with_reducible show wpAny _ _ (call (Value.ref 99) _) _ _ _); k_dflt (refine' Mine.Cm.use (Mine.c_lows _ _ _ _ C7 vs7 ds7 _ hok7 hlen7) (hp := ?kP) (ret := ?_); (case kP => exact ⟨by (show _ ∈ _; (repeat (first | exact hm7 | refine List.Mem.tail _ ?_))), hD7.mono (by (intro p9 hp9; (repeat (first | exact hp9 | refine List.Mem.tail _ ?_))))⟩)); intro r9 ad9 h9 tk9 ho9 hn9 F9 N9; k_dflt ((obtain ⟨Dl7, yl7, e8, e6, hL7⟩ := ho9); subst e8; subst e6; (replace N9 := Mine.news_one N9); (have hl17 := hn9 _ (List.Mem.head _)); clear hn9; (try (have hl27 : @Ne Nat _ _ := hl17 _ (List.Mem.tail _ (List.Mem.tail _ (List.Mem.tail _ (List.Mem.tail _ (List.Mem.tail _ (List.Mem.head _))))))))); (try dsimp only at hl27); (try dsimp only); (try k_fold))
  k_with "call ref" => (k_here; (with_reducible show wpAny _ _ (call (Value.ref 94) _) _ _ _); k_dflt (refine' Mine.Cv.use (Mine.c_many _ _ _ _ C7 vs7 ds7 _ hok7 hlen7 _ _) (hp := ?kP) (ret := ?_); (case kP => exact ⟨by (show _ ∈ _; (repeat (first | exact hm7 | refine List.Mem.tail _ ?_))), hD7.mono (by (intro p9 hp9; (repeat (first | exact hp9 | refine List.Mem.tail _ ?_))))⟩)); intro r9 h9 tk9 ho9 F9 N9; k_dflt ((obtain ⟨t9, e9⟩ := ho9); subst e9); (try dsimp only); (try k_fold))
  k_with "call ref" => (k_here; (with_reducible show wpAny _ _ (call (Value.ref 47) _) _ _ _); k_dflt (refine Mine.Ct.use (Mine.c_whole _ _ _ _ _ _) (ret := ?_)); intro t9 h9 tk9 P9 F9 N9; (try dsimp only); (try k_fold))
  k_with "exec For Tuple Name cons nil" => (k_here; (rename Fr _ _ _ _ => lF'); (with_unfolding_all refine' For_turns lF' ?_; k_whole))
  k_with "compareOp NotEq ref ref" => (k_here; (with_reducible show wpAny _ _ (compareOp CmpOp.NotEq (Value.ref B7) (Value.ref _)) _ _ _); (rename News _ _ _ _ => kN9); k_dflt (refine' Mine.ne_same kN9 (List.Mem.tail _ (List.Mem.head _)) rfl rfl hB7 (fun _ h => nomatch h) (List.Mem.head _) rfl rfl hy8 (fun _ h => nomatch h) (Mine.bName_kqd hok7) ?ni7 ?_; (case ni7 => first | ke_room | ktr_units)))
  k_with "compareOp NotEq ref ref" => (k_here; (with_reducible show wpAny _ _ (compareOp CmpOp.NotEq (Value.ref H6) (Value.ref C7)) _ _ _); (rename News _ _ _ _ => kN9); k_dflt (refine' Mine.ne_same kN9 (List.Mem.tail _ (List.Mem.tail _ (List.Mem.head _))) rfl rfl hD7 (fun _ h => (List.Mem.tail _ (List.Mem.tail _ (List.Mem.tail _ (List.Mem.tail _ (List.Mem.tail _ h)))))) (List.Mem.tail _ (List.Mem.tail _ (List.Mem.tail _ (List.Mem.tail _ (List.Mem.tail _ hm7))))) rfl rfl hD7 (fun _ h => (List.Mem.tail _ (List.Mem.tail _ (List.Mem.tail _ (List.Mem.tail _ (List.Mem.tail _ h)))))) (fun d h => Mine.clock_kqd (hok7 d h)) ?ni7 ?_; (case ni7 => first | ke_room | ktr_units)))
  k_with "compareOp NotEq ref ref" => (k_here; (with_reducible show wpAny _ _ (compareOp CmpOp.NotEq (Value.ref H6) (Value.ref C7)) _ _ _); (rename News _ _ _ _ => kN9); k_dflt (refine' Mine.ne_same kN9 (List.Mem.tail _ (List.Mem.tail _ (List.Mem.tail _ (List.Mem.head _)))) rfl rfl hD7 (fun _ h => (List.Mem.tail _ (List.Mem.tail _ (List.Mem.tail _ (List.Mem.tail _ (List.Mem.tail _ (List.Mem.tail _ h))))))) (List.Mem.tail _ (List.Mem.tail _ (List.Mem.tail _ (List.Mem.tail _ (List.Mem.tail _ (List.Mem.tail _ hm7)))))) rfl rfl hD7 (fun _ h => (List.Mem.tail _ (List.Mem.tail _ (List.Mem.tail _ (List.Mem.tail _ (List.Mem.tail _ (List.Mem.tail _ h))))))) (fun d h => Mine.clock_kqd (hok7 d h)) ?ni7 ?_; (case ni7 => first | ke_room | ktr_units)))
  k_with "call builtin:list.append" => (k_here; (with_reducible show wpAny _ _ (call (Value.builtin _) [Value.ref _, _]) _ _ _); k_dflt (refine' append_K ?k1 ?k2 ?k3 ?_ ?z; (case k1 => k_asm); (case k2 => k_asm); (case k3 => k_upd); (case z => (rw [List.size_toArray, sizeLine_eq]; omega)); k_whole); intro h' F' N')
  k_go0
  (all_goals try k_fold)
  k_steps
  all_goals (
    (rename Fr _ _ _ _ => lF')
    (rename News _ _ _ _ => lN')
    k_dflt (refine' Mine.loop_listH (σ := Unit) (fun _ => []) [Str.ofString "_law_name", Str.ofString "_law_stretch"] (Mine.DueR p7) () (hD7.mono (by (intro p9 hp9; (repeat (first | exact hp9 | refine List.Mem.tail _ ?_))))) (by rfl) lF' lN' (by (show _ ∈ _; (repeat (first | exact hm7 | refine List.Mem.tail _ ?_)))) rfl rfl (List.forall_mem_nil _) Mine.due_nil ?_ ?_)
    (all_goals (clear lF' lN'))
    focus
      intro pre8 d8 post8 v8 c8 od8 u8 I8 o8 h8 tk8 e8 hd8 hI8 hP8 hne8 ho8 F8 N8
      obtain ⟨ys8, e18, rfl, hy8⟩ := hP8
      have hl8 := Mine.due_len e8 hy8 hlen7
      have q18 := hne8 _ (.head _)
      have q28 := Ne.symm q18
      dsimp only at q18 q28
      rcases Mine.clock_at hI8 (hok7 d8 hd8) with ⟨a8, n8, y8, ty8, rfl, hm8, hs8, rfl⟩ | ⟨a8, n8, y8, ty8, b8, k8, lo8, hi8, t18, t28, rfl, hm8, hb8, hs8, hbd8, rfl⟩
      focus
        k_steps
        all_goals ((rename Fr _ _ _ _ => lF8); (rename News _ _ _ _ => lN8); k_dflt (refine' Mine.LoopTurn.stillH () lF8 lN8 ?lI ?lD ?lS ?lO (List.forall_mem_nil _) ?lR ?lP; (case lI => (repeat (first | exact List.Mem.head _ | refine List.Mem.tail _ ?_))); (case lD => (repeat (first | exact List.Mem.head _ | refine List.Mem.tail _ ?_))); (case lS => (intro p9 hp9; (repeat (first | exact hp9 | refine List.Mem.tail _ ?_)))); (case lO => exact List.forall_mem_cons.mpr ⟨q18, fun p hp => hne8 p (.tail _ hp)⟩); (case lP => first | exact Mine.due_same Mine.bName_n hy8 | exact Mine.due_app (Mine.bName_t ⟨by omega, by omega⟩) hy8 | exact Mine.due_same (Mine.bName_f (by omega)) hy8); (case lR => (intro z _ h3; (simp only [List.contains_cons, List.contains_nil, Bool.or_false, Bool.or_eq_false_iff, beq_eq_false_iff_ne, ne_eq] at h3); (simp [h3, kstB]; done)))))
      focus
        k_steps
        all_goals ((rename Fr _ _ _ _ => lF8); (rename News _ _ _ _ => lN8); k_dflt (refine' Mine.LoopTurn.stillH () lF8 lN8 ?lI ?lD ?lS ?lO (List.forall_mem_nil _) ?lR ?lP; (case lI => (repeat (first | exact List.Mem.head _ | refine List.Mem.tail _ ?_))); (case lD => (repeat (first | exact List.Mem.head _ | refine List.Mem.tail _ ?_))); (case lS => (intro p9 hp9; (repeat (first | exact hp9 | refine List.Mem.tail _ ?_)))); (case lO => exact List.forall_mem_cons.mpr ⟨q18, fun p hp => hne8 p (.tail _ hp)⟩); (case lP => first | exact Mine.due_same Mine.bName_n hy8 | exact Mine.due_app (Mine.bName_t ⟨by omega, by omega⟩) hy8 | exact Mine.due_same (Mine.bName_f (by omega)) hy8); (case lR => (intro z _ h3; (simp only [List.contains_cons, List.contains_nil, Bool.or_false, Bool.or_eq_false_iff, beq_eq_false_iff_ne, ne_eq] at h3); (simp [h3, kstB]; done)))))
    focus
      intro c8 od8 u8 h8 tk8 hP8 F8 N8
      obtain ⟨ys8, e18, rfl, hy8⟩ := hP8
      k_steps
      all_goals (
        (rename Fr _ _ _ _ => lF')
        (rename News _ _ _ _ => lN')
        have hl7 := Mine.lows_len ds7
        k_dflt (refine Mine.SrcU.ledger (by rfl) lF' lN' (List.Mem.head _) (by rw [List.size_toArray, hL7.length, sizeLine_eq]; omega) ?_)
        intro g9
        refine Mine.rest_intsI (Mine.cnt (Mine.sts ds7)) hL7 (.inr ⟨_, .head _, rfl, _, rfl⟩) ?_ ?_
        focus
          intro j9 t9 ys9 I9 oI9 C9 oC9 D9 m9 h9 tk9 E9 hj9 hC9 hx9 F9 N9 off9 ne9
          clear lN'
          k_steps
          all_goals (refine Mine.CompTurn.intro (by k_asm) (by k_asm) _ ?cS ?cO trivial ⟨rfl, _, rfl⟩; (case cS => first | exact fun _ h => h | kst_inAny); (case cO => assumption))
        focus
          intro ys9 ii9
          intro D9 h9 tk9 F9 N9 o9
          clear lN'
          have o97 : @Ne Nat _ _ := Mine.off1_mem o9 _ (List.Mem.tail _ (List.Mem.tail _ (List.Mem.tail _ (List.Mem.tail _ (List.Mem.tail _ (List.Mem.tail _ (List.Mem.head _)))))))
          dsimp only at o97
          k_with "binaryOp Add ref ref" => (k_here; (with_reducible show wpAny _ _ (binaryOp _ (Value.ref _) (Value.ref D9)) _ _ _); (rename News _ _ _ _ => kN9); k_dflt (refine' kmk_add_ints ?qF kN9 ?qa ?qb ?qi ii9 ?_ ?qz; (case qF => k_asm); (case qa => is_list); (case qi => l_ints); (case qb => exact News.isList kN9 (List.Mem.head _)); (case qz => (rw [sizeLine_eq, List.length_map, List.length_singleton]; omega))); intro D6 ws6 h6 F6 N6 l6 ii6; (try k_lt l6))
          k_with "call builtin:max" => (k_here; (with_reducible show wpAny _ _ (call (Value.builtin _) [Value.ref D6]) _ _ _); (rename News _ _ _ _ => kN9); k_dflt (refine' kso_max ?qF kN9 ?ql ii6 ?qn ?qh ?_; (case qF => k_asm); (case ql => exact kso_isList (its := ws6.toArray) kN9 (List.Mem.head _) rfl); (case qn => (simp only [List.length_append, List.length_cons]; omega)); (case qh => rfl)); intro h6 M7 tM7 kM7 FM7 NM7 aM7 bM7; k_dflt ((have hM7 := Mine.most_eq hx0 hxl (Mine.few_two hxc) aM7 bM7); subst hM7; (rcases hxc with ⟨hx1, hv1⟩ | ⟨p8, t8, hv1, hpl8, hpc8, hpp8, hpm8⟩ <;> subst hv1)))
          k_with "storeName int" => (k_here; (with_reducible show wpAny _ _ (storeName _ (PySem.Str.ofString "_law_most") _) _ _ _); k_dflt (refine' storeX_C ?uF ?uN ?uc ?uU ?ud ?_ ?ua ?ub; (case ua => rfl); (case ub => rfl); (case uF => k_asm); (case uN => k_asm); (case uc => rfl); (case uU => k_updF); (case ud => k_asm); k_whole); intro h' o' F' N' d'; (try dsimp only at N'))
          k_steps
          all_goals (try (exfalso; omega))
          all_goals (
            (rename Fr _ _ _ _ => lF')
            (rename News _ _ _ _ => lN')
            k_dflt (refine Mine.SrcUT.ledger (by rfl) lF' lN' (List.Mem.head _) (by rw [List.size_toArray, hL7.length, sizeLine_eq]; omega) ?_)
            intro g9
            refine Mine.rest_filterI (fun l => decide (Mine.cnt (Mine.sts ds7) l = M7)) hL7 (.inr ⟨_, .head _, rfl, _, rfl⟩) ?_ ?_
            focus
              intro j5 t5 ys5 I5 oI5 C5 oC5 D5 m5 h5 tk5 E5 hj5 hC5 hx5 F5 N5 off5 ne5
              clear lN'
              k_steps
              all_goals first | (refine Mine.CompTurn.intro (by k_asm) (by k_asm) _ ?cS ?cO trivial ⟨rfl, ⟨_, rfl⟩, ?cP⟩; (case cS => first | exact fun _ h => h | kst_inAny); (case cO => assumption); (case cP => first | exact decide_eq_true (by assumption) | (simp_all; done))) | (refine Mine.CompTurn.intro (by k_asm) (by k_asm) _ ?cS ?cO trivial ⟨rfl, ?cP⟩; (case cS => first | exact fun _ h => h | kst_inAny); (case cO => assumption); (case cP => first | exact decide_eq_false (by assumption) | (simp_all; done)))
            focus
              intro ys5 ii5
              intro D5 h5 tk5 F5 N5 o5
              clear lN'
              k_with "call builtin:min" => (k_here; (with_reducible show wpAny _ _ (call (Value.builtin _) [Value.ref D5]) _ _ _); (rename News _ _ _ _ => kN9); k_dflt (refine' kso_min ?qF kN9 ?ql ii5 ?qn ?qh ?_; (case qF => k_asm); (case ql => exact kso_isList (its := ys5.toArray) kN9 (List.Mem.head _) rfl); (case qn => exact List.length_pos_of_mem (List.mem_filter.mpr ⟨hpl8, decide_eq_true hpc8⟩)); (case qh => rfl)); intro h6 M6 tM6 kM6 FM6 NM6 aM6 bM6; k_dflt ((have hM6 := Mine.best_eq hpl8 hpc8 hpm8 aM6 bM6); subst hM6))
              k_with "compareOp Eq ref ref" => (k_here; (with_reducible show wpAny _ _ (compareOp CmpOp.Eq (Value.ref B7) (Value.ref _)) _ _ _); (rename News _ _ _ _ => kN9); k_dflt (refine' Mine.eq_same kN9 (List.Mem.head _) rfl rfl hB7 (fun _ h => nomatch h) (List.Mem.tail _ (List.Mem.tail _ (List.Mem.tail _ (List.Mem.tail _ (List.Mem.tail _ (List.Mem.tail _ (List.Mem.tail _ (List.Mem.tail _ (List.Mem.head _))))))))) rfl rfl hy8 (fun _ h => nomatch h) (Mine.bName_kqd hok7) ?ni7 ?_; (case ni7 => first | ke_room | ktr_units)))
              k_steps
              all_goals (try k_data)
              all_goals w_report)))

namespace Mine
def hd06.tw2843351174370549570 : Unit := ()
def hd06.tw8118882487297857140 : Unit := ()
def hd06.tw9609514125008247291 : Unit := ()
def hd06.tw9431502237689710233 : Unit := ()
def hd06.tw17203154465749134087 : Unit := ()
def hd06.tw17326355897193620590 : Unit := ()
def hd06.tw3531976167004225908 : Unit := ()
def hd06.tw3400507950223763907 : Unit := ()
def hd06.tw4480981148661964538 : Unit := ()
def hd06.tw16058355294901888919 : Unit := ()
def hd06.tw14622490880769320210 : Unit := ()
def hd06.tw17656909661470699772 : Unit := ()
def hd06.tw17249857498305618262 : Unit := ()
def hd06.tw13205099737017931464 : Unit := ()
def hd06.tw8460814999566562676 : Unit := ()
def hd06.tw10099460148344837127 : Unit := ()
def hd06.tw2272610941642295024 : Unit := ()
def hd06.tw3877656896410223922 : Unit := ()
def hd06.tw18247614644057362695 : Unit := ()
def hd06.tw9889627391731874193 : Unit := ()
def hd06.tw16132155255557419257 : Unit := ()
def hd06.tw3392452349455470917 : Unit := ()
def hd06.tw12577407225006673736 : Unit := ()
def hd06.tw2933717399834251488 : Unit := ()
def hd06.tw10667923290287999665 : Unit := ()
def hd06.tw3093001960158725337 : Unit := ()
def hd06.tw13223472090488008360 : Unit := ()
def hd06.tw2736027492994166873 : Unit := ()
def hd06.tw1123377011244236111 : Unit := ()
def hd06.tw8249088509983353673 : Unit := ()
def hd06.tw15080750580890416598 : Unit := ()
def hd06.tw12330439214691942982 : Unit := ()
def hd06.tw14926000053426830967 : Unit := ()
def hd06.tw1185281204123924766 : Unit := ()
def hd06.tw13211698644342510180 : Unit := ()
def hd06.tw15448498067366286937 : Unit := ()
def hd06.tw15739738376758907811 : Unit := ()
def hd06.tw4109320429908769147 : Unit := ()
def hd06.tw14494303643088777518 : Unit := ()
def hd06.tw17710489255865479569 : Unit := ()
def hd06.tw11844171763850304242 : Unit := ()
def hd06.tw3710019941237714919 : Unit := ()
def hd06.tw14106959421309756128 : Unit := ()
def hd06.tw1211679516965804914 : Unit := ()
def hd06.tw16765785249933118614 : Unit := ()
def hd06.tw5689437161887017754 : Unit := ()
def hd06.tw9533609588366130807 : Unit := ()
def hd06.tw9228153676304493539 : Unit := ()
def hd06.tw6433906271431205467 : Unit := ()
def hd06.tw3485275232757564828 : Unit := ()
def hd06.tw14703958916691153540 : Unit := ()
def hd06.tw445703456199892767 : Unit := ()
def hd06.tw3858335117923614174 : Unit := ()
def hd06.tw11105217331235077715 : Unit := ()
def hd06.tw5798386062884092917 : Unit := ()
def hd06.tw15555565906526426215 : Unit := ()
def hd06.tw17551120470446192639 : Unit := ()
def hd06.tw7007355055368353656 : Unit := ()
def hd06.tw3069685619880326081 : Unit := ()
def hd06.tw2953389834801965361 : Unit := ()
def hd06.tw11105999832356742585 : Unit := ()
def hd06.tw3998587487395573073 : Unit := ()
def hd06.tw13040379783431816475 : Unit := ()
def hd06.tw2501667615136095097 : Unit := ()
def hd06.tw566712455973946849 : Unit := ()
def hd06.tw17583087258067680442 : Unit := ()
def hd06.tw973534281749783017 : Unit := ()
def hd06.tw9984494939692123077 : Unit := ()
def hd06.tw453101326788813274 : Unit := ()
def hd06.tw7772844587930335094 : Unit := ()
def hd06.tw6885424673957361822 : Unit := ()
def hd06.tw8829659689634543776 : Unit := ()
def hd06.tw14762017504335595021 : Unit := ()
def hd06.tw2006092517582573069 : Unit := ()
def hd06.tw13069396597988189012 : Unit := ()
def hd06.tw11064781278528958709 : Unit := ()
def hd06.tw12300890098468332397 : Unit := ()
def hd06.tw4653432817322800186 : Unit := ()
def hd06.tw16609149618669697046 : Unit := ()
def hd06.tw18259506548766628480 : Unit := ()
def hd06.tw7401337950496898084 : Unit := ()
def hd06.tw8525130828909663366 : Unit := ()
def hd06.tw11359828023363047158 : Unit := ()
def hd06.tw14290119355941114799 : Unit := ()
def hd06.tw12207596537402563120 : Unit := ()
def hd06.tw1752551675092021479 : Unit := ()
def hd06.tw9785539366195497911 : Unit := ()
def hd06.tw4666977975160320221 : Unit := ()
def hd06.tw12544085809865121880 : Unit := ()
def hd06.tw7364988661182231800 : Unit := ()
def hd06.tw4567921072997904152 : Unit := ()
def hd06.tw11034004627552874334 : Unit := ()
def hd06.tw17568346802958747039 : Unit := ()
def hd06.tw11171666570414380403 : Unit := ()
def hd06.tw3042899565127713759 : Unit := ()
def hd06.tw9407628831839556368 : Unit := ()
def hd06.tw6738138623111350385 : Unit := ()
set_option Elab.async true in
theorem hd06 : PySem.Challenge.rw_uf050027_06.Holds := by
  w_on
  o_law
  o_head (kHook k06.heap_1 [2, 3, 6, 15, 17, 18, 20, 21, 22, 25, 26, 27, 29, 30, 32, 33, 34, 36, 37, 39, 40, 41, 43, 44, 46, 47, 48, 50, 51, 53, 54, 55, 57, 58, 60, 61, 62, 64, 65, 67, 68, 69, 71, 72, 74, 75, 76, 79, 80, 81, 83, 84, 86, 87, 88, 90, 91, 93, 94, 95, 98, 99, 100, 103, 104, 105, 108, 109] kas06)
  (case hw => w_witness2)
  exact walk06 _ _ (by rfl)
end Mine
theorem PySem.Challenge.cw_uf050027_06_holds : PySem.Challenge.rw_uf050027_06.Holds :=
  Mine.hd06
