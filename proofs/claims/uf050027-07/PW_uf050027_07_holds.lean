import PyProof.Rows.All
import Wide.All
import OpenK.AllK
import Wide.FinOn
import PySem.Challenge.RW_uf050027_07
open PySem PySem.W PyProof.Rows
set_option Elab.async false
set_option maxRecDepth 100000
set_option maxHeartbeats 0
namespace Mine
open_top hd07 for PySem.Challenge.rw_uf050027_07
end Mine
namespace Mine
noncomputable def mix (c k : Int) : Int := Int.fmod (Int.fmod ((c + 7919 * k + 1) * 48271) 1000003 * Int.fmod ((c + 7919 * k + 1) * 48271) 1000003) 999983
theorem mix_bd (c k : Int) : 0 ≤ mix c k ∧ mix c k < 999983 := by
  unfold mix
  generalize Int.fmod ((c + 7919 * k + 1) * 48271) 1000003 * Int.fmod ((c + 7919 * k + 1) * 48271) 1000003 = x
  exact ⟨Int.fmod_nonneg_of_pos x (by decide), Int.fmod_lt_of_pos x (by decide)⟩
noncomputable def big (c k : Int) : Int :=
  if Int.fmod (mix c (k + 90)) 4 = 0 then Int.fmod (mix c k) 30
  else if Int.fmod (mix c (k + 90)) 4 = 1 then Int.fmod (mix c k) 3000
  else if Int.fmod (mix c (k + 90)) 4 = 2 then
    (if Int.fmod (mix c k) 4 = 0 then 0 else if Int.fmod (mix c k) 4 = 1 then 1 else if Int.fmod (mix c k) 4 = 2 then 1000000000000 else 999999999999)
  else Int.fmod (mix c k * 1000003 + mix c (k + 50)) 1000000000001
theorem big_0 {c k : Int} (h : Int.fmod (mix c (k + 90)) 4 = 0) : Int.fmod (mix c k) 30 = big c k := by unfold big; rw [if_pos h]
theorem big_1 {c k : Int} (h : Int.fmod (mix c (k + 90)) 4 = 1) : Int.fmod (mix c k) 3000 = big c k := by unfold big; rw [if_neg (by rw [h]; decide), if_pos h]
theorem four_at {x : Int} (h0 : 0 ≤ x) (h1 : x < 4) : x = 0 ∨ x = 1 ∨ x = 2 ∨ x = 3 := by omega
theorem big_2 {c k : Int} (h : Int.fmod (mix c (k + 90)) 4 = 2) : ([0, 1, 10 ^ (Int.toNat 12), 10 ^ (Int.toNat 12) - 1] : List Int).getD (Int.toNat (Int.fmod (mix c k) 4)) 0 = big c k := by
  unfold big
  rw [if_neg (by rw [h]; decide), if_neg (by rw [h]; decide), if_pos h]
  rcases four_at (Int.fmod_nonneg_of_pos (mix c k) (by decide)) (Int.fmod_lt_of_pos (mix c k) (show (0 : Int) < 4 by decide)) with e | e | e | e <;> (rw [e]; rfl)
theorem big_3 {c k : Int} (h0 : ¬ Int.fmod (mix c (k + 90)) 4 = 0) (h1 : ¬ Int.fmod (mix c (k + 90)) 4 = 1) (h2 : ¬ Int.fmod (mix c (k + 90)) 4 = 2) : Int.fmod (mix c k * 1000003 + mix c (k + 50)) 1000000000001 = big c k := by
  unfold big; rw [if_neg h0, if_neg h1, if_neg h2]
theorem big_bd (c k : Int) : 0 ≤ big c k ∧ big c k ≤ 1000000000000 := by
  unfold big
  have h1 := Int.fmod_nonneg_of_pos (mix c k) (show (0 : Int) < 30 by decide)
  have h2 := Int.fmod_lt_of_pos (mix c k) (show (0 : Int) < 30 by decide)
  have h3 := Int.fmod_nonneg_of_pos (mix c k) (show (0 : Int) < 3000 by decide)
  have h4 := Int.fmod_lt_of_pos (mix c k) (show (0 : Int) < 3000 by decide)
  have h5 := Int.fmod_nonneg_of_pos (mix c k * 1000003 + mix c (k + 50)) (show (0 : Int) < 1000000000001 by decide)
  have h6 := Int.fmod_lt_of_pos (mix c k * 1000003 + mix c (k + 50)) (show (0 : Int) < 1000000000001 by decide)
  (repeat' split) <;> omega
noncomputable def off (c : Int) : Int := [0, 0, 1, 999, Int.fmod (mix c 70) 30, Int.fmod (mix c 71) 1000].getD (Int.fmod c 6).toNat 0
noncomputable def sl (p o : Int) : Int := Int.fdiv (p * o + 999) 1000
end Mine
namespace Mine
open PySem PySem.W PyProof.Rows
noncomputable def Ct (prog : Program) (w : World) (K : Frag) (p : Program) (loose : List Str) (mean : ExcName → Option Value) (mg mb : Str → Option Value) (f : Addr) (sz : Nat) (vs : List Value) (P : Prop) (R : Tok → Value) : Prop :=
  ∀ (dp un : Nat) (gd : Option (List Code)) (cn : Str) (cs : Scope) (a : Addr) (ccd : Value) (cl : List (Str × Addr)) (outer : List Env) (A₀ : Around) (base h₀ : Heap) (L : Addr) (m : Str → Option Value) (news : List (Addr × Obj)) (s : Shared) (Q E : Value → Shared → Prop),
    Below A₀ base outer h₀ → Fr h₀ L s.heap m → K.In h₀ → News h₀ L s.heap news → Top p loose mean mg mb h₀ → cs.kind = .function → dp + sz < recursionLimit → un + 8 * sz < cLine →
    (∀ (t : Tok) (h' : Heap) (tk' : Nat), P → Fr h₀ L h' m → News h₀ L h' news → Q (R t) { s with heap := h', toks := tk' }) →
    wpAny (model prog w) (ktrTop dp un gd cn cs L a ccd cl outer) (call (.ref f) vs) Q E s
theorem Ct.use {prog : Program} {w : World} {K : Frag} {p : Program} {loose : List Str} {mean : ExcName → Option Value} {mg mb : Str → Option Value} {f : Addr} {sz : Nat} {vs : List Value} {P : Prop} {R : Tok → Value} (C : Ct prog w K p loose mean mg mb f sz vs P R)
    {dp un : Nat} {gd : Option (List Code)} {cn : Str} {cs : Scope} {a : Addr} {ccd : Value} {cl : List (Str × Addr)} {outer : List Env} {A₀ : Around} {base h₀ : Heap} {L : Addr} {m : Str → Option Value} {news : List (Addr × Obj)} {s : Shared} {Q E : Value → Shared → Prop}
    (B : Below A₀ base outer h₀ := by k_asm) (F : Fr h₀ L s.heap m := by k_asm) (X : K.In h₀ := by k_asm) (N : News h₀ L s.heap news := by k_asm) (T : Top p loose mean mg mb h₀ := by k_asm) (hk : cs.kind = .function := by first | exact rfl | assumption) (hd : dp + sz < recursionLimit := by first | assumption | omega | ktr_room) (hu : un + 8 * sz < cLine := by first | assumption | omega | ktr_units)
    (ret : ∀ (t : Tok) (h' : Heap) (tk' : Nat), P → Fr h₀ L h' m → News h₀ L h' news → Q (R t) { s with heap := h', toks := tk' }) :
    wpAny (model prog w) (ktrTop dp un gd cn cs L a ccd cl outer) (call (.ref f) vs) Q E s := C _ _ _ _ _ _ _ _ _ _ _ _ _ _ _ _ _ _ B F X N T hk hd hu ret
theorem ct_retI {h₀ h' : Heap} {L : Addr} {m : Str → Option Value} {news : List (Addr × Obj)} {s : Shared} {Q : Value → Shared → Prop} {t : Tok} {tk' : Nat} {P : Prop} {x y : Int}
    (hret : ∀ (t : Tok) (h' : Heap) (tk' : Nat), P → Fr h₀ L h' m → News h₀ L h' news → Q (.int x t) { s with heap := h', toks := tk' }) (hP : P) (e : y = x) (F : Fr h₀ L h' m) (N : News h₀ L h' news) : Q (.int y t) { s with heap := h', toks := tk' } := by
  subst e
  exact hret t h' tk' hP F N
noncomputable def CellOk (c : Int) : Prop := Builtin.Int.intBits c ≤ 1100000
theorem CellOk.bits {c : Int} {P : Prop} (h : CellOk c ∧ P) : Builtin.Int.intBits c ≤ 1100000 := h.1
theorem cellOk_of {c : Int} {n : Nat} (h : Builtin.Int.intBits c ≤ n) (hn : n ≤ 1100000) : CellOk c := Nat.le_trans h hn
end Mine
local macro_rules | `(tactic| bits_by_make) => `(tactic| exact Mine.CellOk.bits (by assumption))
local macro_rules | `(tactic| l_fact) => `(tactic| ((with_reducible refine And.intro (a := Mine.CellOk _) ?_ ?_); (focus (first | exact And.left (by assumption) | exact Mine.cellOk_of (by bits_by_make) (by decide))); (focus (first | omega | (k_fmods; omega) | (kmn_bounds; omega)))))
local macro_rules | `(tactic| walk_at $s:str) => `(tactic| k_extra $s)
namespace Mine
abbrev Con (w : World) (mean : ExcName → Option Value) (mg mb : Str → Option Value) (f : Addr) (sz : Nat) (vs : List Value) (P : Prop) (R : Tok → Value) : Prop :=
  Ct PySem.Challenge.rw_uf050027_07.row.prog w (hd07.heap_39 w.params) hd07.view_39 (looseW hd07.view_39 []) mean mg mb f sz vs P R
end Mine
namespace Mine
theorem c_lmix (w : World) (mean : ExcName → Option Value) (mg mb : Str → Option Value) (x0 x1 : Int) (tx0 tx1 : Tok) (hpre : (fun c k => CellOk c ∧ 0 ≤ k ∧ k ≤ 1000) x0 x1 := by first | trivial | ((try dsimp only); first | assumption | omega | l_fact)) : Con w mean mg mb 49 1 [.int x0 tx0, .int x1 tx1] ((fun c k => 0 ≤ mix c k ∧ mix c k < 999983) x0 x1) (fun t => .int (mix x0 x1) t) := by
  unfold Con Ct
  k_fill
  w_top off
  intro dp un gd cn cs a ccd cl outer A₀ base h₀ L m news s Q E B F X N T hk hd hu hret
  refine wpAny_call ?_
  k_dflt cell_enter
  k_with_none
  k_steps
  all_goals (refine' ct_retI hret ?e1 ?e2 ?e3 ?e4; (case e3 => k_asm); (case e4 => first | k_asm | (refine' cb_drop ?cbN ?cbS; (case cbN => assumption); (case cbS => kcj_all))); (case e1 => exact mix_bd _ _); (case e2 => rfl))
end Mine
namespace Mine
theorem c_lbig (w : World) (mean : ExcName → Option Value) (mg mb : Str → Option Value) (x0 x1 : Int) (tx0 tx1 : Tok) (hpre : (fun c k => CellOk c ∧ 0 ≤ k ∧ k ≤ 500) x0 x1 := by first | trivial | ((try dsimp only); first | assumption | omega | l_fact)) : Con w mean mg mb 56 2 [.int x0 tx0, .int x1 tx1] ((fun c k => 0 ≤ big c k ∧ big c k ≤ 1000000000000) x0 x1) (fun t => .int (big x0 x1) t) := by
  unfold Con Ct
  k_fill
  w_top off
  intro dp un gd cn cs a ccd cl outer A₀ base h₀ L m news s Q E B F X N T hk hd hu hret
  refine wpAny_call ?_
  k_dflt cell_enter
  k_with_none
  k_with "call ref" => (k_here; (with_reducible show wpAny _ _ (call (Value.ref 49) _) _ _ _); k_dflt (refine Mine.Ct.use (Mine.c_lmix _ _ _ _ _ _ _ _) (ret := ?_)); intro t9 h9 tk9 P9 F9 N9; (try dsimp only); (try k_fold))
  k_steps
  all_goals (refine' ct_retI hret ?e1 ?e2 ?e3 ?e4; (case e3 => k_asm); (case e4 => first | k_asm | (refine' cb_drop ?cbN ?cbS; (case cbN => assumption); (case cbS => kcj_all))); (case e1 => exact big_bd _ _); (case e2 => (first | exact big_0 (by assumption) | exact big_1 (by assumption) | exact big_2 (by assumption) | exact big_3 (by assumption) (by assumption) (by assumption) | (unfold big; cb_eq))))
end Mine
namespace Mine
open PySem PySem.W PyProof.Rows
noncomputable def Cv (prog : Program) (w : World) (K : Frag) (p : Program) (loose : List Str) (mean : ExcName → Option Value) (mg mb : Str → Option Value) (f : Addr) (sz : Nat) (vs : List Value) (P : List (Addr × Obj) → Prop) (Out : Value → Prop) : Prop :=
  ∀ (dp un : Nat) (gd : Option (List Code)) (cn : Str) (cs : Scope) (a : Addr) (ccd : Value) (cl : List (Str × Addr)) (outer : List Env) (A₀ : Around) (base h₀ : Heap) (L : Addr) (m : Str → Option Value) (news : List (Addr × Obj)) (s : Shared) (Q E : Value → Shared → Prop),
    Below A₀ base outer h₀ → Fr h₀ L s.heap m → K.In h₀ → News h₀ L s.heap news → Top p loose mean mg mb h₀ → cs.kind = .function → dp + sz < recursionLimit → un + 8 * sz < cLine → P news →
    (∀ (r : Value) (h' : Heap) (tk' : Nat), Out r → Fr h₀ L h' m → News h₀ L h' news → Q r { s with heap := h', toks := tk' }) →
    wpAny (model prog w) (ktrTop dp un gd cn cs L a ccd cl outer) (call (.ref f) vs) Q E s
theorem Cv.use {prog : Program} {w : World} {K : Frag} {p : Program} {loose : List Str} {mean : ExcName → Option Value} {mg mb : Str → Option Value} {f : Addr} {sz : Nat} {vs : List Value} {P : List (Addr × Obj) → Prop} {Out : Value → Prop} (C : Cv prog w K p loose mean mg mb f sz vs P Out)
    {dp un : Nat} {gd : Option (List Code)} {cn : Str} {cs : Scope} {a : Addr} {ccd : Value} {cl : List (Str × Addr)} {outer : List Env} {A₀ : Around} {base h₀ : Heap} {L : Addr} {m : Str → Option Value} {news : List (Addr × Obj)} {s : Shared} {Q E : Value → Shared → Prop}
    (B : Below A₀ base outer h₀ := by k_asm) (F : Fr h₀ L s.heap m := by k_asm) (X : K.In h₀ := by k_asm) (N : News h₀ L s.heap news := by k_asm) (T : Top p loose mean mg mb h₀ := by k_asm) (hk : cs.kind = .function := by first | exact rfl | assumption) (hd : dp + sz < recursionLimit := by first | assumption | omega | ktr_room) (hu : un + 8 * sz < cLine := by first | assumption | omega | ktr_units) (hp : P news := by first | trivial | k_mem)
    (ret : ∀ (r : Value) (h' : Heap) (tk' : Nat), Out r → Fr h₀ L h' m → News h₀ L h' news → Q r { s with heap := h', toks := tk' }) :
    wpAny (model prog w) (ktrTop dp un gd cn cs L a ccd cl outer) (call (.ref f) vs) Q E s := C _ _ _ _ _ _ _ _ _ _ _ _ _ _ _ _ _ _ B F X N T hk hd hu hp ret
noncomputable def TextLe (n : Nat) (r : Value) : Prop := ∃ (x : Str) (t : Tok), r = .str x t ∧ x.length ≤ n ∧ PyData.strOk x = true
end Mine
namespace Mine
open PySem PySem.W PyProof.Rows
theorem textLe_of {n : Nat} {x : Str} {t : Tok} (h : x.length ≤ n) (ho : PyData.strOk x = true) : TextLe n (.str x t) := ⟨x, t, rfl, h, ho⟩
theorem strOk_append {x y : Str} (hx : PyData.strOk x = true) (hy : PyData.strOk y = true) : PyData.strOk (x ++ y) = true := by
  unfold PyData.strOk at *
  show (x.cps ++ y.cps).all _ = true
  rw [Array.all_append, hx, hy]; rfl
theorem strOk_mem {x : Str} (hx : PyData.strOk x = true) {c : Nat} (h : c ∈ x.cps) : c < 0x110000 := by
  unfold PyData.strOk at hx
  simpa using (Array.all_eq_true_iff_forall_mem.mp hx) c h
theorem strOk_slice {x : Str} (hx : PyData.strOk x = true) (l u : Option Int) : PyData.strOk (Txt.slice x l u) = true := by
  unfold Txt.slice
  split
  · exact hx
  · unfold PyData.strOk
    rw [Array.all_eq_true_iff_forall_mem]
    intro c hc
    obtain ⟨i, _, hi⟩ := List.mem_filterMap.mp (List.mem_toArray.mp hc)
    simpa using strOk_mem hx (Array.mem_of_getElem? hi)
theorem strOk_item {x : Str} (hx : PyData.strOk x = true) (i : Int) : PyData.strOk (Txt.item x i) = true := by
  unfold Txt.item Txt.charAt
  unfold PyData.strOk
  cases h : (seqIndex? i x.length).bind (x.cps[·]?) with
  | none => simp
  | some c =>
    have : c < 0x110000 := by
      cases hs : seqIndex? i x.length with
      | none => rw [hs] at h; cases h
      | some k => rw [hs] at h; exact strOk_mem hx (Array.mem_of_getElem? h)
    simp [this]
theorem len_item1 (x : Str) (i : Int) : (Txt.item x i).length = 1 := rfl
theorem textAll_nil {n : Nat} : ∀ v ∈ ([] : List Value), TextLe n v := fun _ h => nomatch h
theorem textAll_cons {n : Nat} {v : Value} {r : List Value} (h : TextLe n v) (hr : ∀ v ∈ r, TextLe n v) : ∀ u ∈ v :: r, TextLe n u := fun u hu => by
  rcases List.mem_cons.mp hu with rfl | hu
  · exact h
  · exact hr u hu
theorem item_texts {prog : Program} {w : World} {A : Around} {E : Value → Shared → Prop} {s : Shared} {value slice : PySem.Expr} {l : Addr} {vs : List Value} {k : Int} {u : Tok} {Q : Value → Shared → Prop} (n : Nat) (hl : s.heap.IsList l vs.toArray)
    (h0 : 0 ≤ k ∧ k < vs.length) (hfit : k < 2 ^ 63) (ht : ∀ v ∈ vs, TextLe n v) (h : ∀ x t, (x.length ≤ n ∧ PyData.strOk x = true) → Q (.str x t) s)
    (hs : subscripted slice false (.ref l) (.int k u) = operate [.ref l, .int k u] (getItem (.ref l) (.int k u)) := by with_unfolding_all rfl) :
    wpAny (model prog w) A (subscriptTail value slice (.ref l) (.int k u)) Q E s := by
  have hlt : k.toNat < vs.length := by (clear hs; omega)
  obtain ⟨x, t, e, hx⟩ := ht _ (List.getElem_mem hlt)
  exact tail_any hl.typeIs slot_list_getitem.lookup (wpAny_getItem_list hl h0.1 hfit (x := .str x t) (by rw [List.getElem?_toArray, List.getElem?_eq_getElem hlt, e]) (h x t hx)) hs
end Mine
namespace Mine
open PySem PySem.W PyProof.Rows
end Mine
namespace Mine
theorem c_word (w : World) (mean : ExcName → Option Value) (mg mb : Str → Option Value) (c n : Int) (tc tn : Tok) (hc : CellOk c ∧ 0 ≤ n ∧ n ≤ 13 := by first | trivial | ((try dsimp only); first | assumption | omega | l_fact)) :
    Cv PySem.Challenge.rw_uf050027_07.row.prog w (hd07.heap_39 w.params) hd07.view_39 (looseW hd07.view_39 []) mean mg mb 63 2 [.int c tc, .int n tn] (fun _ => True) (TextLe n.toNat) := by
  unfold Cv
  k_fill
  w_top off
  intro dp un gd cn cs a ccd cl outer A₀ base h₀ L m news s Q E B F X N T hk hd hu hP hret
  refine wpAny_call ?_
  k_dflt cell_enter
  k_with_none
  k_with "call ref" => (k_here; (with_reducible show wpAny _ _ (call (Value.ref 49) _) _ _ _); k_dflt (refine Mine.Ct.use (Mine.c_lmix _ _ _ _ _ _ _ _) (ret := ?_)); intro t9 h9 tk9 P9 F9 N9; (try dsimp only); (try k_fold))
  k_with "call ref" => (k_here; (with_reducible show wpAny _ _ (call (Value.ref 56) _) _ _ _); k_dflt (refine Mine.Ct.use (Mine.c_lbig _ _ _ _ _ _ _ _) (ret := ?_)); intro t9 h9 tk9 P9 F9 N9; (try dsimp only); (try k_fold))
  k_with "state" => (first | exact ⟨⟨rfl, by decide⟩, by decide +kernel⟩ | (refine ⟨⟨?sa, ?sc⟩, ?sb⟩; (case sa => (rw [Str.length_append, Mine.len_item1, List.length_append, List.length_cons, List.length_nil]; omega)); (case sc => (rw [List.length_append, List.length_cons, List.length_nil]; omega)); (case sb => exact Mine.strOk_append (by assumption) (Mine.strOk_item (by decide +kernel) _))))
  k_with "pyIter ref" => k_state (fun pre w => (w.length = pre.length ∧ pre.length ≤ 13) ∧ PyData.strOk w = true) "_law_word_here"
  k_steps
  k_with_none
  all_goals (refine' hret _ _ _ ⟨_, _, rfl, ?q1⟩ ?q2 ?q3; (case q2 => k_asm); (case q3 => first | k_asm | (refine' cb_drop ?cbN ?cbS; (case cbN => assumption); (case cbS => kcj_all))); (case q1 => (refine ⟨?_, by assumption⟩; simp only [rangeKs_length] at *; omega)))

end Mine
namespace Mine
open PySem PySem.W PyProof.Rows PySem.Spec PySem.Calls PyProof.Rows.LCg PyProof.Rows.LCt
section
variable {prog : Program} {w : World} {A : Around} {E : Value → Shared → Prop} {s : Shared} {h₀ : Heap} {L : Addr} {m : Str → Option Value} {env : Env}
noncomputable def CompTurn (h₀ : Heap) (L : Addr) (m : Str → Option Value) (s₁ : Shared) (I : Addr) (oI : Obj) (C : Addr) (oC : Obj) (D : Addr) (oD : Obj) (S : List (Addr × Obj) → Prop) (rest : Value → List (Addr × Obj) → Prop) (y : Value) (s₂ : Shared) : Prop :=
  LCg.CompEnd h₀ L m s₁ I oI C oC D oD S rest y s₂
theorem CompTurn.intro {I C D : Addr} {s₁ : Shared} {oI oC oD : Obj} {S : List (Addr × Obj) → Prop} {rest : Value → List (Addr × Obj) → Prop} {y : Value} {h' : Heap} {tk : Nat} {all : List (Addr × Obj)}
    (F : Fr h₀ L h' m) (N : News h₀ L h' all) (news' : List (Addr × Obj)) (sub : ∀ p ∈ (I, oI) :: (C, oC) :: (D, oD) :: news', p ∈ all) (off : Off3 I C D news') (hS : S news') (r : rest y news') :
    CompTurn h₀ L m s₁ I oI C oC D oD S rest y { s₁ with heap := h', toks := tk } := CompEnd.intro F N news' sub off hS r
theorem rest_inv {elt : Expr} {x : Str} {scope : Scope} {cl : List (Str × Addr)} {S : List (Addr × Obj) → Prop} {P : Nat → Value → Prop} {Fin : List Value → List (Addr × Obj) → Prop} {n : Nat} {news : List (Addr × Obj)}
    (Inv : Nat → List Value → List (Addr × Obj) → Prop) (h0 : Inv 0 [] news)
    (turn : ∀ i ys nw v I oI C oC D m₂ h tk (E' : Value → Shared → Prop), i < n → Inv i ys nw → P i v → NsObj oC m₂ → m₂ x = some v → Fr h₀ L h m → News h₀ L h ((I, oI) :: (C, oC) :: (D, lst ys) :: nw) → Off3 I C D nw → ((@Ne Nat I C) ∧ (@Ne Nat I D) ∧ (@Ne Nat C D)) →
      wpAny (model prog w) A (eval elt (compEnvC scope cl C env)) (CompTurn h₀ L m { s with heap := h, toks := tk } I oI C oC D (lst ys) S (fun y nw' => Inv (i + 1) (ys ++ [y]) nw')) E' { s with heap := h, toks := tk })
    (fin : ∀ ys nw, Inv n ys nw → Fin ys nw) : CompRest prog w A h₀ L m env elt x scope cl s S P Fin n 0 [] news := by
  have key : ∀ (j i : Nat) (ys : List Value) (nw : List (Addr × Obj)), i + j = n → Inv i ys nw → CompRest prog w A h₀ L m env elt x scope cl s S P Fin j i ys nw := by
    intro j
    induction j with
    | zero =>
      intro i ys nw hi hv
      have e : i = n := by omega
      subst e
      exact CompRest.zero (fin ys nw hv)
    | succ j ih =>
      intro i ys nw hi hv
      refine CompRest.succ ?_
      intro v I oI C oC D m₂ h tk E' hP hC hx F N off ne
      refine wpAny_mono (turn i ys nw v I oI C oC D m₂ h tk E' (by (clear hx ne; omega)) hv hP hC hx F N off ne) (fun y s₂ hq => ?_) fun _ _ e => e
      obtain ⟨h', tk', nw', e, F', N', off', hS, r⟩ := hq
      exact ⟨h', tk', nw', e, F', N', off', hS, ih (i + 1) _ nw' (by (clear e hx ne; omega)) r⟩
  exact key n 0 [] news (by omega) h0
theorem restT_inv {ct elt : Expr} {x : Str} {scope : Scope} {cl : List (Str × Addr)} {S : List (Addr × Obj) → Prop} {P : Nat → Value → Prop} {Fin : List Value → List (Addr × Obj) → Prop} {n : Nat} {news : List (Addr × Obj)}
    (Inv : Nat → List Value → List (Addr × Obj) → Prop) (h0 : Inv 0 [] news)
    (turn : ∀ i ys nw v I oI C oC D m₂ h tk (E' : Value → Shared → Prop), i < n → Inv i ys nw → P i v → NsObj oC m₂ → m₂ x = some v → Fr h₀ L h m → News h₀ L h ((I, oI) :: (C, oC) :: (D, lst ys) :: nw) → Off3 I C D nw → ((@Ne Nat I C) ∧ (@Ne Nat I D) ∧ (@Ne Nat C D)) →
      wpAny (model prog w) A (isTrue ct (compEnvC scope cl C env) (eval ct (compEnvC scope cl C env))) (fun ok s' => if ok = true then
        wpAny (model prog w) A (eval elt (compEnvC scope cl C env)) (CompTurn h₀ L m { s with heap := h, toks := tk } I oI C oC D (lst ys) S (fun y nw' => Inv (i + 1) (ys ++ [y]) nw')) E' s'
        else CompTurn h₀ L m { s with heap := h, toks := tk } I oI C oC D (lst ys) S (fun _ nw' => Inv (i + 1) ys nw') Value.none s') E' { s with heap := h, toks := tk })
    (fin : ∀ ys nw, Inv n ys nw → Fin ys nw) : CompRestT prog w A h₀ L m env ct elt x scope cl s S P Fin n 0 [] news := by
  have key : ∀ (j i : Nat) (ys : List Value) (nw : List (Addr × Obj)), i + j = n → Inv i ys nw → CompRestT prog w A h₀ L m env ct elt x scope cl s S P Fin j i ys nw := by
    intro j
    induction j with
    | zero =>
      intro i ys nw hi hv
      have e : i = n := by omega
      subst e
      exact CompRestT.zero (fin ys nw hv)
    | succ j ih =>
      intro i ys nw hi hv
      refine CompRestT.succ ?_
      intro v I oI C oC D m₂ h tk E' hP hC hx F N off ne
      refine wpAny_mono (turn i ys nw v I oI C oC D m₂ h tk E' (by (clear hx ne; omega)) hv hP hC hx F N off ne) (fun ok s' hq => ?_) fun _ _ e => e
      cases ok with
      | true =>
        rw [if_pos rfl] at hq ⊢
        refine wpAny_mono hq (fun y s₂ hq => ?_) fun _ _ e => e
        obtain ⟨h', tk', nw', e, F', N', off', hS, r⟩ := hq
        exact ⟨h', tk', nw', e, F', N', off', hS, ih (i + 1) _ nw' (by (clear e hx ne; omega)) r⟩
      | false =>
        rw [if_neg (by decide)] at hq ⊢
        obtain ⟨h', tk', nw', e, F', N', off', hS, r⟩ := hq
        exact ⟨h', tk', nw', e, F', N', off', hS, ih (i + 1) _ nw' (by (clear e hx ne; omega)) r⟩
  exact key n 0 [] news (by omega) h0
noncomputable def SrcS (prog : Program) (w : World) (A : Around) (h₀ : Heap) (L : Addr) (m : Str → Option Value) (R : Shared → Str → List (Addr × Obj) → Prop) (xv : Value) (s₁ : Shared) : Prop :=
  ∃ tx t news, xv = .str tx t ∧ A.handled = none ∧ Fr h₀ L s₁.heap m ∧ News h₀ L s₁.heap news ∧ tx.cps.size ≤ sizeLine ∧ ∀ s₂ : Shared, (∃ h, s₂ = { s₁ with heap := h }) → R s₂ tx news
theorem SrcS.intro {R : Shared → Str → List (Addr × Obj) → Prop} {tx : Str} {t : Tok} {s₁ : Shared} {news : List (Addr × Obj)} (hh : A.handled = none) (F : Fr h₀ L s₁.heap m) (N : News h₀ L s₁.heap news) (hsz : tx.length ≤ sizeLine) (h : ∀ g, R { s₁ with heap := g } tx news) : SrcS prog w A h₀ L m R (.str tx t) s₁ :=
  ⟨tx, t, news, rfl, hh, F, N, hsz, fun _ ⟨g, e⟩ => e ▸ h g⟩
end
end Mine
namespace Mine
open PySem PySem.W PyProof.Rows PySem.Spec PySem.Calls
section
variable {prog : Program} {w : World} {A : Around} {E : Value → Shared → Prop} {s : Shared} {env : Env} {h₀ : Heap} {target : Expr} {body : List Stmt} {Q : Flow → Shared → Prop}
noncomputable def LoopTurn (h₀ : Heap) (L : Addr) (s₁ : Shared) (I : Addr) (o : Obj) (rest : (Str → Option Value) → List (Addr × Obj) → Prop) (Q : Flow → Shared → Prop) (f : Flow) (s₂ : Shared) : Prop :=
  UnrPostW h₀ L s₁ [(I, o)] rest Q f s₂
noncomputable def Between {σ : Type} (ps : σ → List (Str × Value)) (stored : List Str) (m₀ : Str → Option Value) (ax : Addr) (lo : Obj) (I : Addr) (Inv : σ → List (Addr × Obj) → Prop) (m : Str → Option Value) (nw : List (Addr × Obj)) : Prop :=
  (ax, lo) ∈ nw ∧ (∀ p ∈ nw, p.1 ≠ I) ∧ ∃ c, (∀ p ∈ ps c, m p.1 = some p.2) ∧ (∀ z, (∀ p ∈ ps c, z ≠ p.1) → stored.contains z = false → m z = m₀ z) ∧ Inv c nw
theorem LoopTurn.ret {L I : Addr} {s₁ : Shared} {o : Obj} {rest : (Str → Option Value) → List (Addr × Obj) → Prop} {v : Value} {s₂ : Shared} (h : Q (.ret v) s₂) : LoopTurn h₀ L s₁ I o rest Q (.ret v) s₂ := h
theorem LoopTurn.next {σ : Type} {ps : σ → List (Str × Value)} {stored : List Str} {m₀ : Str → Option Value} {ax : Addr} {lo : Obj} {L I : Addr} {o : Obj} {Inv : σ → List (Addr × Obj) → Prop} {s₁ : Shared} {h' : Heap} {tk : Nat} {m' : Str → Option Value} {all : List (Addr × Obj)} (c : σ) (nw' : List (Addr × Obj))
    (F : Fr h₀ L h' m') (N : News h₀ L h' all) (hI : (I, o) ∈ all) (sub : ∀ p ∈ nw', p ∈ all) (hax : (ax, lo) ∈ nw') (off : ∀ p ∈ nw', p.1 ≠ I) (hk : ∀ p ∈ ps c, m' p.1 = some p.2) (hr : ∀ z, (∀ p ∈ ps c, z ≠ p.1) → stored.contains z = false → m' z = m₀ z) (hv : Inv c nw') :
    LoopTurn h₀ L s₁ I o (Between ps stored m₀ ax lo I Inv) Q .next { s₁ with heap := h', toks := tk } :=
  ⟨h', tk, m', nw', rfl, F, fun p hp => by
    rcases List.mem_append.mp hp with hp | hp
    · rw [List.mem_singleton.mp hp]; exact N _ hI
    · exact N p (sub p hp), fun p hp q hq => by rw [List.mem_singleton.mp hq]; exact off p hp, hax, off, c, hk, hr, hv⟩
theorem LoopTurn.cont {σ : Type} {ps : σ → List (Str × Value)} {stored : List Str} {m₀ : Str → Option Value} {ax : Addr} {lo : Obj} {L I : Addr} {o : Obj} {Inv : σ → List (Addr × Obj) → Prop} {s₁ s₂ : Shared} (h : LoopTurn h₀ L s₁ I o (Between ps stored m₀ ax lo I Inv) Q .next s₂) :
    LoopTurn h₀ L s₁ I o (Between ps stored m₀ ax lo I Inv) Q .cont s₂ := h
theorem between_fr {L : Addr} {h : Heap} {ps : List (Str × Value)} {stored : List Str} {m₀ m₁ : Str → Option Value} (h1 : ∀ p ∈ ps, m₁ p.1 = some p.2) (h2 : ∀ z, (∀ p ∈ ps, z ≠ p.1) → stored.contains z = false → m₁ z = m₀ z)
    (F : Fr h₀ L h m₁) : Fr h₀ L h (kstB (fun z => if stored.contains z then m₁ z else m₀ z) ps) := by
  have em : kstB (fun z => if stored.contains z then m₁ z else m₀ z) ps = m₁ := by
    funext y
    refine kstB_eq h1 fun hn => ?_
    by_cases hc : stored.contains y = true
    · rw [if_pos hc]
    · rw [if_neg hc]
      exact (h2 y hn (by simpa using hc)).symm
  rw [em]
  exact F
theorem loop_list {σ : Type} {ax : Addr} {lo : Obj} {vs : List Value} {n : Nat} {m₀ : Str → Option Value} {news : List (Addr × Obj)} (ps : σ → List (Str × Value)) (stored : List Str) (Inv : Nat → σ → List (Addr × Obj) → Prop) (c₀ : σ)
    (hh : A.handled = none) (F : Fr h₀ env.locals s.heap m₀) (N : News h₀ env.locals s.heap news) (hm : (ax, lo) ∈ news) (hc : lo.cls = .type "list") (hd : lo.data = .seq vs.toArray n)
    (hk : ∀ p ∈ ps c₀, m₀ p.1 = some p.2) (h0 : Inv 0 c₀ news)
    (turn : ∀ i v c nw (u : Str → Option Value) I o h tk, vs[i]? = some v → Inv i c nw → (ax, lo) ∈ nw → (∀ p ∈ nw, p.1 ≠ I) → o.cls = .type "list_iterator" → Fr h₀ env.locals h (kstB (fun z => if stored.contains z then u z else m₀ z) (ps c)) → News h₀ env.locals h ((I, o) :: nw) →
      wpAny (model prog w) A (assign target env v) (fun _ s₂ => wpAny (model prog w) A (execs body env) (LoopTurn h₀ env.locals { s with heap := h, toks := tk } I o (Between ps stored m₀ ax lo I (Inv (i + 1))) Q) E s₂) E { s with heap := h, toks := tk })
    (done : ∀ c nw (u : Str → Option Value) h tk, Inv vs.length c nw → (ax, lo) ∈ nw → Fr h₀ env.locals h (kstB (fun z => if stored.contains z then u z else m₀ z) (ps c)) → News h₀ env.locals h nw → Q .next { s with heap := h, toks := tk }) :
    wpAny (model prog w) A (pyIter (.ref ax)) (fun it s₂ => TurnsAt prog w A h₀ env target body Q E it s₂) E s := by
  refine iter_listTurns hh F N hm hc hd fun I hI => ?_
  have key : ∀ (xs : List Value) (i : Nat) (m : Str → Option Value) (nw : List (Addr × Obj)), vs.drop i = xs → i ≤ vs.length → Between ps stored m₀ ax lo I (Inv i) m nw →
      ItemsRest prog w A E h₀ env target body Q s [(I, "list_iterator")] [(ax, lo)] (xs.map .val) m nw := by
    intro xs
    induction xs with
    | nil =>
      intro i m nw hx hi hb
      obtain ⟨hax, hne, c, h1, h2, hv⟩ := hb
      have e : i = vs.length := by
        have := congrArg List.length hx
        rw [List.length_drop, List.length_nil] at this
        (clear hc hd hh hx; omega)
      subst e
      exact ItemsRest.zero fun h tk F' N' => done c nw m h tk hv hax (between_fr h1 h2 F') N'
    | cons v r ih =>
      intro i m nw hx hi hb
      obtain ⟨hax, hne, c, h1, h2, hv⟩ := hb
      have hlt : i < vs.length := by
        have := congrArg List.length hx
        rw [List.length_drop, List.length_cons] at this
        (clear hc hd hh hx; omega)
      have hvi : vs[i]? = some v := by
        rw [List.drop_eq_getElem_cons hlt] at hx
        rw [List.getElem?_eq_getElem hlt]
        exact congrArg some (List.cons.inj hx).1
      have hr : vs.drop (i + 1) = r := by
        rw [List.drop_eq_getElem_cons hlt] at hx
        exact (List.cons.inj hx).2
      refine ItemsRest.val fun h tk F' => AllObj.cons fun o ho => AllObj.nil fun N' => ?_
      refine wpAny_mono (turn i v c nw m I o h tk hvi hv hax hne ho (between_fr h1 h2 F') N') (fun _ s₂ q => wpAny_mono q (fun f s₃ p => ?_) fun _ _ e => e) fun _ _ e => e
      have fin : ∀ s₃, UnrEndW h₀ env.locals { s with heap := h, toks := tk } [(I, o)] (Between ps stored m₀ ax lo I (Inv (i + 1))) s₃ →
          UnrEndW h₀ env.locals { s with heap := h, toks := tk } [(I, o)] (fun m' n' => SubL [(ax, lo)] n' ∧ ItemsRest prog w A E h₀ env target body Q s [(I, "list_iterator")] [(ax, lo)] (r.map .val) m' n') s₃ := by
        rintro s₃ ⟨h', tk', m', nw', e, F₃, N₃, off, b⟩
        exact ⟨h', tk', m', nw', e, F₃, N₃, off, And.intro b.1 trivial, ih (i + 1) m' nw' hr hlt b⟩
      cases f with
      | ret v => exact p
      | brk => exact p
      | next => exact fin _ p
      | cont => exact fin _ p
  exact key vs 0 m₀ news (List.drop_zero) (Nat.zero_le _) ⟨hm, fun p hp => Nat.ne_of_lt (hI p hp), c₀, hk, fun _ _ _ => rfl, h0⟩
noncomputable def Still {σ : Type} (ps : σ → List (Str × Value)) (stored : List Str) (m₀ : Str → Option Value) (news : List (Addr × Obj)) (P : σ → Prop) (m : Str → Option Value) (nw : List (Addr × Obj)) : Prop :=
  nw = news ∧ ∃ c, (∀ p ∈ ps c, m p.1 = some p.2) ∧ (∀ z, (∀ p ∈ ps c, z ≠ p.1) → stored.contains z = false → m z = m₀ z) ∧ P c
theorem LoopTurn.still {σ : Type} {ps : σ → List (Str × Value)} {stored : List Str} {m₀ : Str → Option Value} {L I : Addr} {o : Obj} {news : List (Addr × Obj)} {P : σ → Prop} {s₁ : Shared} {h' : Heap} {tk : Nat} {m' : Str → Option Value} {all : List (Addr × Obj)} (c : σ)
    (F : Fr h₀ L h' m') (N : News h₀ L h' all) (hI : (I, o) ∈ all) (sub : ∀ p ∈ news, p ∈ all) (off : ∀ p ∈ news, p.1 ≠ I) (hk : ∀ p ∈ ps c, m' p.1 = some p.2) (hr : ∀ z, (∀ p ∈ ps c, z ≠ p.1) → stored.contains z = false → m' z = m₀ z) (hv : P c) :
    LoopTurn h₀ L s₁ I o (Still ps stored m₀ news P) Q .next { s₁ with heap := h', toks := tk } :=
  ⟨h', tk, m', news, rfl, F, fun p hp => by
    rcases List.mem_append.mp hp with hp | hp
    · rw [List.mem_singleton.mp hp]; exact N _ hI
    · exact N p (sub p hp), fun p hp q hq => by rw [List.mem_singleton.mp hq]; exact off p hp, rfl, c, hk, hr, hv⟩
theorem still_post {σ : Type} {ps : σ → List (Str × Value)} {stored : List Str} {m₀ : Str → Option Value} {L I ax : Addr} {lo : Obj} {o : Obj} {news : List (Addr × Obj)} {P : σ → Prop} {s₁ : Shared} {f : Flow} {s₂ : Shared} (hm : (ax, lo) ∈ news) (off : ∀ p ∈ news, p.1 ≠ I)
    (h : LoopTurn h₀ L s₁ I o (Still ps stored m₀ news P) Q f s₂) : LoopTurn h₀ L s₁ I o (Between ps stored m₀ ax lo I (fun c nw => nw = news ∧ P c)) Q f s₂ := by
  have key : UnrEndW h₀ L s₁ [(I, o)] (Still ps stored m₀ news P) s₂ → UnrEndW h₀ L s₁ [(I, o)] (Between ps stored m₀ ax lo I (fun c nw => nw = news ∧ P c)) s₂ := by
    rintro ⟨h', tk, m', nw', e, F, N, off', hn, c, h1, h2, h3⟩
    subst hn
    exact ⟨h', tk, m', nw', e, F, N, off', hm, off, c, h1, h2, rfl, h3⟩
  cases f with
  | ret v => exact h
  | brk => exact h
  | next => exact key h
  | cont => exact key h
theorem loop_listD {σ : Type} {ax : Addr} {lo : Obj} {vs : List Value} {ds : List Dat} {n : Nat} {m₀ : Str → Option Value} {news : List (Addr × Obj)} (ps : σ → List (Str × Value)) (stored : List Str) (P : List Dat → σ → Prop) (c₀ : σ) (hi : DatAll news vs ds)
    (hh : A.handled = none) (F : Fr h₀ env.locals s.heap m₀) (N : News h₀ env.locals s.heap news) (hm : (ax, lo) ∈ news) (hc : lo.cls = .type "list") (hd : lo.data = .seq vs.toArray n)
    (hk : ∀ p ∈ ps c₀, m₀ p.1 = some p.2) (h0 : P [] c₀)
    (turn : ∀ pre d post v c (u : Str → Option Value) I o h tk, ds = pre ++ d :: post → d ∈ ds → DatIn news v d → P pre c → (∀ p ∈ news, p.1 ≠ I) → o.cls = .type "list_iterator" → Fr h₀ env.locals h (kstB (fun z => if stored.contains z then u z else m₀ z) (ps c)) → News h₀ env.locals h ((I, o) :: news) →
      wpAny (model prog w) A (assign target env v) (fun _ s₂ => wpAny (model prog w) A (execs body env) (LoopTurn h₀ env.locals { s with heap := h, toks := tk } I o (Still ps stored m₀ news (P (pre ++ [d]))) Q) E s₂) E { s with heap := h, toks := tk })
    (done : ∀ c (u : Str → Option Value) h tk, P ds c → Fr h₀ env.locals h (kstB (fun z => if stored.contains z then u z else m₀ z) (ps c)) → News h₀ env.locals h news → Q .next { s with heap := h, toks := tk }) :
    wpAny (model prog w) A (pyIter (.ref ax)) (fun it s₂ => TurnsAt prog w A h₀ env target body Q E it s₂) E s := by
  have hl := hi.length
  refine loop_list ps stored (fun i c nw => nw = news ∧ P (ds.take i) c) c₀ hh F N hm hc hd hk ⟨rfl, by simpa using h0⟩ ?_ ?_
  · rintro i v c nw u I o h tk hv ⟨rfl, hp⟩ hax hne ho F' N'
    have hlt : i < ds.length := by
      rw [← hl]
      exact (List.getElem?_eq_some_iff.mp hv).1
    obtain ⟨v', hv', hD⟩ := hi.get hlt
    rw [hv] at hv'
    cases hv'
    have hs : ds.take (i + 1) = ds.take i ++ [ds[i]] := by rw [List.take_succ_eq_append_getElem hlt]
    have e : ds = ds.take i ++ ds[i] :: ds.drop (i + 1) := by
      have ht := List.take_append_drop (i + 1) ds
      rw [hs, List.append_assoc] at ht
      exact ht.symm
    rw [hs]
    exact wpAny_mono (turn _ ds[i] _ v c u I o h tk e (List.getElem_mem hlt) hD hp hne ho F' N') (fun _ s₂ q => wpAny_mono q (fun f s₃ p => still_post hax hne p) fun _ _ e => e) fun _ _ e => e
  · rintro c nw u h tk ⟨rfl, hp⟩ hax F' N'
    rw [hl, List.take_length] at hp
    exact done c u h tk hp F' N'
end
end Mine
namespace Mine
open PySem PySem.W PyProof.Rows PySem.Spec PySem.Calls
section
variable {prog : Program} {w : World} {A : Around} {E : Value → Shared → Prop} {s : Shared} {env : Env} {h₀ : Heap} {x : Str} {px : Pos} {body : List Stmt} {Q : Flow → Shared → Prop}
theorem iter_rangeTurns {r : Addr} {a b : Int} {t u v : Tok} {n : Nat} {m₀ : Str → Option Value} {news : List (Addr × Obj)}
    (hh : A.handled = none) (F : Fr h₀ env.locals s.heap m₀) (N : News h₀ env.locals s.heap news) (hr : IsRange s.heap r a b 1 t u v) (hsm : Builtin.Range.small a b 1 = true) (hn : Builtin.Range.rangeSize a b 1 = ((n : Nat) : Int))
    (rest₀ : ∀ I : Addr, (∀ p ∈ news, p.1 < I) → ItemsRest prog w A E h₀ env (.Name x px) body Q s [(I, "range_iterator")] [] ((rangeKs a n).map fun k => .tok fun t => .int k t) m₀ news) :
    wpAny (model prog w) A (pyIter (.ref r)) (fun it s₂ => TurnsAt prog w A h₀ env (.Name x px) body Q E it s₂) E s := by
  refine wpAny_pyIter_range hr hsm ?_
  refine ktu_core (tk0 := s.toks) (keep := []) (KTurns.ofWalks (LCg.range_walks hh a n).bound fun i v s Q E st q => wpAny_pure q) (by rw [List.length_map, rangeKs_length]) (fun i v h hp => ?_) (fun i h st => ?_) (fun b hb => ?_) (fun b hb => by simpa using hb) (fun b hb => .inl (by simpa using hb)) ?_ (fun p hp hI => ?_) ?_ (F.push _) (fun p hp => ⟨Heap.get?_push_of_some _ (N p hp).1, (N p hp).2⟩) trivial (rest₀ s.heap.objs.size fun p hp => Heap.lt_size (N p hp).1)
  · obtain ⟨hi, t', e⟩ := hp
    exact ⟨.tok fun t => .int (a + (i : Int)) t, by simp [rangeKs, hi], t', e⟩
  · exact ⟨[(s.heap.objs.size, _)], ⟨⟨rfl, rfl⟩, trivial⟩, fun p hp => by rw [List.mem_singleton.mp hp]; exact st⟩
  · have hb' : b = s.heap.objs.size := by simpa using hb
    rw [hb']
    exact ⟨List.mem_cons_self .., next_is_new F⟩
  · intro hI
    have e := List.mem_singleton.mp hI
    exact absurd F.ns.lt (e ▸ Nat.lt_irrefl _)
  · exact absurd (Heap.lt_size (N p hp).1) ((List.mem_singleton.mp hI) ▸ Nat.lt_irrefl _)
  · show IsRangeIter _ _ _ _ _
    rw [hn]
    simpa using Heap.get?_push_size _ rfl
noncomputable def BetweenR {σ : Type} (ps : σ → List (Str × Value)) (stored : List Str) (m₀ : Str → Option Value) (I : Addr) (Inv : σ → List (Addr × Obj) → Prop) (m : Str → Option Value) (nw : List (Addr × Obj)) : Prop :=
  (∀ p ∈ nw, p.1 ≠ I) ∧ ∃ c, (∀ p ∈ ps c, m p.1 = some p.2) ∧ (∀ z, (∀ p ∈ ps c, z ≠ p.1) → stored.contains z = false → m z = m₀ z) ∧ Inv c nw
theorem LoopTurn.nextR {σ : Type} {ps : σ → List (Str × Value)} {stored : List Str} {m₀ : Str → Option Value} {L I : Addr} {o : Obj} {Inv : σ → List (Addr × Obj) → Prop} {s₁ : Shared} {h' : Heap} {tk : Nat} {m' : Str → Option Value} {all : List (Addr × Obj)} (c : σ) (nw' : List (Addr × Obj))
    (F : Fr h₀ L h' m') (N : News h₀ L h' all) (hI : (I, o) ∈ all) (sub : ∀ p ∈ nw', p ∈ all) (off : ∀ p ∈ nw', p.1 ≠ I) (hk : ∀ p ∈ ps c, m' p.1 = some p.2) (hr : ∀ z, (∀ p ∈ ps c, z ≠ p.1) → stored.contains z = false → m' z = m₀ z) (hv : Inv c nw') :
    LoopTurn h₀ L s₁ I o (BetweenR ps stored m₀ I Inv) Q .next { s₁ with heap := h', toks := tk } :=
  ⟨h', tk, m', nw', rfl, F, fun p hp => by
    rcases List.mem_append.mp hp with hp | hp
    · rw [List.mem_singleton.mp hp]; exact N _ hI
    · exact N p (sub p hp), fun p hp q hq => by rw [List.mem_singleton.mp hq]; exact off p hp, off, c, hk, hr, hv⟩
theorem loop_range {σ : Type} {r : Addr} {a b : Int} {t u v : Tok} {n : Nat} {m₀ : Str → Option Value} {news : List (Addr × Obj)} (ps : σ → List (Str × Value)) (stored : List Str) (Inv : Nat → σ → List (Addr × Obj) → Prop) (c₀ : σ)
    (hh : A.handled = none) (F : Fr h₀ env.locals s.heap m₀) (N : News h₀ env.locals s.heap news) (hr : IsRange s.heap r a b 1 t u v) (hsm : Builtin.Range.small a b 1 = true) (hn : Builtin.Range.rangeSize a b 1 = ((n : Nat) : Int))
    (hk : ∀ p ∈ ps c₀, m₀ p.1 = some p.2) (h0 : Inv 0 c₀ news)
    (turn : ∀ (i : Nat) t c nw (u : Str → Option Value) I o h tk, i < n → Inv i c nw → (∀ p ∈ nw, p.1 ≠ I) → o.cls = .type "range_iterator" → Fr h₀ env.locals h (kstB (fun z => if stored.contains z then u z else m₀ z) (ps c)) → News h₀ env.locals h ((I, o) :: nw) →
      wpAny (model prog w) A (assign (.Name x px) env (.int (a + (i : Int)) t)) (fun _ s₂ => wpAny (model prog w) A (execs body env) (LoopTurn h₀ env.locals { s with heap := h, toks := tk } I o (BetweenR ps stored m₀ I (Inv (i + 1))) Q) E s₂) E { s with heap := h, toks := tk })
    (done : ∀ c nw (u : Str → Option Value) h tk, Inv n c nw → Fr h₀ env.locals h (kstB (fun z => if stored.contains z then u z else m₀ z) (ps c)) → News h₀ env.locals h nw → Q .next { s with heap := h, toks := tk }) :
    wpAny (model prog w) A (pyIter (.ref r)) (fun it s₂ => TurnsAt prog w A h₀ env (.Name x px) body Q E it s₂) E s := by
  refine iter_rangeTurns hh F N hr hsm hn fun I hI => ?_
  have key : ∀ (xs : List Int) (i : Nat) (m : Str → Option Value) (nw : List (Addr × Obj)), (rangeKs a n).drop i = xs → i ≤ n → BetweenR ps stored m₀ I (Inv i) m nw →
      ItemsRest prog w A E h₀ env (.Name x px) body Q s [(I, "range_iterator")] [] (xs.map fun k => .tok fun t => .int k t) m nw := by
    intro xs
    induction xs with
    | nil =>
      intro i m nw hx hi hb
      obtain ⟨hne, c, h1, h2, hv⟩ := hb
      have e : i = n := by
        have := congrArg List.length hx
        rw [List.length_drop, List.length_nil, rangeKs_length] at this
        (clear hh hn hsm hx; omega)
      subst e
      exact ItemsRest.zero fun h tk F' N' => done c nw m h tk hv (between_fr h1 h2 F') N'
    | cons k r ih =>
      intro i m nw hx hi hb
      obtain ⟨hne, c, h1, h2, hv⟩ := hb
      have hlt' : i < (rangeKs a n).length := by
        have := congrArg List.length hx
        rw [List.length_drop, List.length_cons] at this
        (clear hh hi hn hsm hx; omega)
      have hlt : i < n := by rw [rangeKs_length] at hlt'; exact hlt'
      have hki : k = a + (i : Int) := by
        rw [List.drop_eq_getElem_cons hlt'] at hx
        have := (List.cons.inj hx).1
        simpa [rangeKs] using this.symm
      have hr' : (rangeKs a n).drop (i + 1) = r := by
        rw [List.drop_eq_getElem_cons hlt'] at hx
        exact (List.cons.inj hx).2
      subst hki
      refine ItemsRest.tok fun t h tk F' => AllObj.cons fun o ho => AllObj.nil fun N' => ?_
      refine wpAny_mono (turn i t c nw m I o h tk hlt hv hne ho (between_fr h1 h2 F') N') (fun _ s₂ q => wpAny_mono q (fun f s₃ p => ?_) fun _ _ e => e) fun _ _ e => e
      have fin : ∀ s₃, UnrEndW h₀ env.locals { s with heap := h, toks := tk } [(I, o)] (BetweenR ps stored m₀ I (Inv (i + 1))) s₃ →
          UnrEndW h₀ env.locals { s with heap := h, toks := tk } [(I, o)] (fun m' n' => SubL [] n' ∧ ItemsRest prog w A E h₀ env (.Name x px) body Q s [(I, "range_iterator")] [] (r.map fun k => .tok fun t => .int k t) m' n') s₃ := by
        rintro s₃ ⟨h', tk', m', nw', e, F₃, N₃, off, b⟩
        exact ⟨h', tk', m', nw', e, F₃, N₃, off, trivial, ih (i + 1) m' nw' hr' hlt b⟩
      cases f with
      | ret v => exact p
      | brk => exact p
      | next => exact fin _ p
      | cont => exact fin _ p
  exact key (rangeKs a n) 0 m₀ news (List.drop_zero) (Nat.zero_le _) ⟨fun p hp => Nat.ne_of_lt (hI p hp), c₀, hk, fun _ _ _ => rfl, h0⟩
end
end Mine
namespace Mine
open PySem PySem.W PyProof.Rows PySem.Spec PySem.Calls PyProof.Rows.LCg PyProof.Rows.LCt
section
variable {prog : Program} {w : World} {A : Around} {E : Value → Shared → Prop} {s : Shared} {h₀ : Heap} {L : Addr} {m : Str → Option Value} {env : Env}
noncomputable def SrcU (prog : Program) (w : World) (A : Around) (h₀ : Heap) (L : Addr) (m : Str → Option Value) (env : Env) (elt : Expr) (x : Str) (scope : Scope) (cl : List (Str × Addr)) (Fin : Shared → List Value → List (Addr × Obj) → Prop) (xv : Value) (s₁ : Shared) : Prop :=
  CompSrc prog w A h₀ L m env elt x scope cl Fin xv s₁
theorem SrcU.ledger {elt : Expr} {x : Str} {scope : Scope} {cl : List (Str × Addr)} {Fin : Shared → List Value → List (Addr × Obj) → Prop} {ax : Addr} {its : Array Value} {k : Nat} {news : List (Addr × Obj)} {s₁ : Shared}
    (hh : A.handled = none) (F : Fr h₀ L s₁.heap m) (N : News h₀ L s₁.heap news) (hm : (ax, ({ cls := .type "list", data := .seq its k } : Obj)) ∈ news) (hsz : its.size ≤ sizeLine)
    (h : ∀ g, CompRest prog w A h₀ L m env elt x scope cl { s₁ with heap := g } (SrcAt h₀ ax its) (fun i v => its[i]? = some v) (Fin { s₁ with heap := g }) its.size 0 [] news) :
    SrcU prog w A h₀ L m env elt x scope cl Fin (.ref ax) s₁ := CompSrc.ledger hh F N hm hsz h
theorem SrcU.range {elt : Expr} {x : Str} {scope : Scope} {cl : List (Str × Addr)} {Fin : Shared → List Value → List (Addr × Obj) → Prop} {r : Addr} {a b : Int} {t u v : Tok} {n : Nat} {news : List (Addr × Obj)} {s₁ : Shared}
    (hh : A.handled = none) (F : Fr h₀ L s₁.heap m) (N : News h₀ L s₁.heap news) (hr : IsRange s₁.heap r a b 1 t u v) (hsm : Builtin.Range.small a b 1 = true) (hn : Builtin.Range.rangeSize a b 1 = ((n : Nat) : Int)) (hsz : n ≤ sizeLine)
    (h : ∀ g, CompRest prog w A h₀ L m env elt x scope cl { s₁ with heap := g } (fun _ => True) (fun i v => ∃ t, v = .int (a + (i : Int)) t) (Fin { s₁ with heap := g }) n 0 [] news) :
    SrcU prog w A h₀ L m env elt x scope cl Fin (.ref r) s₁ := CompSrc.range hh F N hr hsm hn hsz h
theorem ListComp_V {elt iter : Expr} {x : Str} {px : Pos} {scope : Scope} {cl : List (Str × Addr)} {pos : Pos} {Q : Value → Shared → Prop} (F₀ : Fr h₀ L s.heap m)
    (hclos : closureFor scope env = pure cl) (hcell : ∀ y ∈ scope.names, y.2 ≠ .cell) (hkind : scope.kind = .function)
    (hnames : ∀ y ∈ scope.names, y.2 = .local → scope.names.lookup y.1 = some .local) (hx : scope.names.lookup x = some .local)
    (h : wpAny (model prog w) A (eval iter env) (SrcU prog w A h₀ L m env elt x scope cl (fun s₂ => FinE h₀ L m s₂ Q)) E s)
    (hs : ∀ x, foldedSetIterable iter env x = pure x := by intro _; rfl) :
    wpAny (model prog w) A (eval (.ListComp elt [⟨.Name x px, iter, [], 0⟩] scope pos) env) Q E s := ListComp_U F₀ hclos hcell hkind hnames hx h hs
end
end Mine
namespace Mine
open PySem PySem.W PyProof.Rows PySem.Spec PySem.Calls PyProof.Rows.LCg PyProof.Rows.LCt
section
variable {prog : Program} {w : World} {A : Around} {E : Value → Shared → Prop} {s : Shared} {h₀ : Heap} {L : Addr} {m : Str → Option Value} {env : Env}
noncomputable def TupAt (ax : Addr) (its : Array Value) (nw : List (Addr × Obj)) : Prop := ∃ o, (ax, o) ∈ nw ∧ o.cls = .type "tuple" ∧ ∃ n, o.data = .seq its n
noncomputable def SrcT (prog : Program) (w : World) (A : Around) (h₀ : Heap) (L : Addr) (m : Str → Option Value) (R : Shared → Addr → Array Value → List (Addr × Obj) → Prop) (xv : Value) (s₁ : Shared) : Prop :=
  ∃ ax its news, xv = .ref ax ∧ A.handled = none ∧ Fr h₀ L s₁.heap m ∧ News h₀ L s₁.heap news ∧ TupAt ax its news ∧ its.size ≤ sizeLine ∧ ∀ s₂ : Shared, (∃ h, s₂ = { s₁ with heap := h }) → R s₂ ax its news
theorem SrcT.intro {R : Shared → Addr → Array Value → List (Addr × Obj) → Prop} {ax : Addr} {its : Array Value} {k : Nat} {s₁ : Shared} {news : List (Addr × Obj)} (hh : A.handled = none) (F : Fr h₀ L s₁.heap m) (N : News h₀ L s₁.heap news) (hm : (ax, ({ cls := .type "tuple", data := .seq its k } : Obj)) ∈ news) (hsz : its.size ≤ sizeLine) (h : ∀ g, R { s₁ with heap := g } ax its news) : SrcT prog w A h₀ L m R (.ref ax) s₁ :=
  ⟨ax, its, news, rfl, hh, F, N, ⟨_, hm, rfl, _, rfl⟩, hsz, fun _ ⟨g, e⟩ => e ▸ h g⟩
end
end Mine
namespace Mine
open PySem PySem.W PyProof.Rows
noncomputable def Cm (prog : Program) (w : World) (K : Frag) (p : Program) (loose : List Str) (mean : ExcName → Option Value) (mg mb : Str → Option Value) (f : Addr) (sz : Nat) (vs : List Value) (P : Heap → List (Addr × Obj) → Prop) (Out : Value → List (Addr × Obj) → Prop) : Prop :=
  ∀ (dp un : Nat) (gd : Option (List Code)) (cn : Str) (cs : Scope) (a : Addr) (ccd : Value) (cl : List (Str × Addr)) (outer : List Env) (A₀ : Around) (base h₀ : Heap) (L : Addr) (m : Str → Option Value) (news : List (Addr × Obj)) (s : Shared) (Q E : Value → Shared → Prop),
    Below A₀ base outer h₀ → Fr h₀ L s.heap m → K.In h₀ → News h₀ L s.heap news → Top p loose mean mg mb h₀ → cs.kind = .function → dp + sz < recursionLimit → un + 8 * sz < cLine → P h₀ news →
    (∀ (r : Value) (add : List (Addr × Obj)) (h' : Heap) (tk' : Nat), Out r add → (∀ p ∈ add, ∀ q ∈ news, q.1 ≠ p.1) → Fr h₀ L h' m → News h₀ L h' (add ++ news) → Q r { s with heap := h', toks := tk' }) →
    wpAny (model prog w) (ktrTop dp un gd cn cs L a ccd cl outer) (call (.ref f) vs) Q E s
theorem Cm.use {prog : Program} {w : World} {K : Frag} {p : Program} {loose : List Str} {mean : ExcName → Option Value} {mg mb : Str → Option Value} {f : Addr} {sz : Nat} {vs : List Value} {P : Heap → List (Addr × Obj) → Prop} {Out : Value → List (Addr × Obj) → Prop} (C : Cm prog w K p loose mean mg mb f sz vs P Out)
    {dp un : Nat} {gd : Option (List Code)} {cn : Str} {cs : Scope} {a : Addr} {ccd : Value} {cl : List (Str × Addr)} {outer : List Env} {A₀ : Around} {base h₀ : Heap} {L : Addr} {m : Str → Option Value} {news : List (Addr × Obj)} {s : Shared} {Q E : Value → Shared → Prop}
    (B : Below A₀ base outer h₀ := by k_asm) (F : Fr h₀ L s.heap m := by k_asm) (X : K.In h₀ := by k_asm) (N : News h₀ L s.heap news := by k_asm) (T : Top p loose mean mg mb h₀ := by k_asm) (hk : cs.kind = .function := by first | exact rfl | assumption) (hd : dp + sz < recursionLimit := by first | assumption | omega | ktr_room) (hu : un + 8 * sz < cLine := by first | assumption | omega | ktr_units) (hp : P h₀ news := by first | trivial | k_mem)
    (ret : ∀ (r : Value) (add : List (Addr × Obj)) (h' : Heap) (tk' : Nat), Out r add → (∀ p ∈ add, ∀ q ∈ news, q.1 ≠ p.1) → Fr h₀ L h' m → News h₀ L h' (add ++ news) → Q r { s with heap := h', toks := tk' }) :
    wpAny (model prog w) (ktrTop dp un gd cn cs L a ccd cl outer) (call (.ref f) vs) Q E s := C _ _ _ _ _ _ _ _ _ _ _ _ _ _ _ _ _ _ B F X N T hk hd hu hp ret
noncomputable def TextsAt (L : List (Addr × Obj)) (D : Addr) (n k : Nat) : Prop := ∃ ys xs, (D, LCg.lst ys) ∈ L ∧ StrsAre ys xs ∧ xs.length = k ∧ ∀ x ∈ xs, x.length ≤ n ∧ PyData.strOk x = true
theorem TextsAt.mono {L L' : List (Addr × Obj)} {D : Addr} {n k : Nat} (h : TextsAt L D n k) (hs : ∀ p ∈ L, p ∈ L') : TextsAt L' D n k := by
  obtain ⟨ys, xs, hm, r⟩ := h
  exact ⟨ys, xs, hs _ hm, r⟩
theorem dat_pair {nw : List (Addr × Obj)} {v : Value} {x : Str} {d : Dat} (h : DatIn nw v (.tuple [.str x, d])) : ∃ a n t u, v = .ref a ∧ (a, ({ cls := .type "tuple", data := .seq #[.str x t, u] n } : Obj)) ∈ nw ∧ DatIn nw u d := by
  cases h with
  | tuple hm r =>
    cases r with
    | cons h1 r =>
      cases h1
      cases r with
      | cons h2 r => cases r; exact ⟨_, _, _, _, rfl, hm, h2⟩
theorem dat_two {nw : List (Addr × Obj)} {v : Value} {a b : Int} (h : DatIn nw v (.tuple [.int a, .int b])) : ∃ ad n t u, v = .ref ad ∧ (ad, ({ cls := .type "tuple", data := .seq #[.int a t, .int b u] n } : Obj)) ∈ nw := by
  cases h with
  | tuple hm r =>
    cases r with
    | cons h1 r =>
      cases h1
      cases r with
      | cons h2 r => cases h2; cases r; exact ⟨_, _, _, _, rfl, hm⟩
theorem dat_three {nw : List (Addr × Obj)} {v : Value} {a b c : Int} (h : DatIn nw v (.tuple [.int a, .int b, .int c])) : ∃ ad n t u w, v = .ref ad ∧ (ad, ({ cls := .type "tuple", data := .seq #[.int a t, .int b u, .int c w] n } : Obj)) ∈ nw := by
  cases h with
  | tuple hm r =>
    cases r with
    | cons h1 r =>
      cases h1
      cases r with
      | cons h2 r =>
        cases h2
        cases r with
        | cons h3 r => cases h3; cases r; exact ⟨_, _, _, _, _, rfl, hm⟩
theorem dat_at {nw : List (Addr × Obj)} {vs : List Value} {ds : List Dat} (h : DatAll nw vs ds) {i : Nat} {v : Value} (hv : vs[i]? = some v) : ∃ d, ds[i]? = some d ∧ d ∈ ds ∧ DatIn nw v d := by
  have hl := h.length
  have hi : i < ds.length := by
    rw [← hl]
    exact (List.getElem?_eq_some_iff.mp hv).1
  obtain ⟨u, hu, hd⟩ := h.get hi
  rw [hv] at hu
  cases hu
  exact ⟨ds[i], List.getElem?_eq_getElem hi, List.getElem_mem hi, hd⟩
theorem off1_mem {D : Addr} : ∀ {l : List (Addr × Obj)}, LCg.Off1 D l → ∀ p ∈ l, p.1 ≠ D
  | [], _, _, h => nomatch h
  | _ :: _, x, p, h => by
    rcases List.mem_cons.mp h with rfl | h
    · exact x.1
    · exact off1_mem x.2 p h
theorem allLt_mem {d : Addr} : ∀ {l : List (Addr × Obj)}, AllLt d l → ∀ p ∈ l, p.1 < d
  | [], _, _, h => nomatch h
  | _ :: _, x, p, h => by
    rcases List.mem_cons.mp h with rfl | h
    · exact x.1
    · exact allLt_mem x.2 p h
theorem ne_above {d e : Nat} {l : List (Addr × Obj)} (h : ∀ p ∈ l, p.1 < d) (hle : d ≤ e) : ∀ p ∈ l, p.1 ≠ e := fun p hp q => by
  have := h p hp
  rw [q] at this
  exact Nat.lt_irrefl _ (Nat.lt_of_lt_of_le this hle)
end Mine
namespace Mine
open PySem PySem.W PyProof.Rows PyProof.Rows.LCg
theorem rest_each {prog : Program} {w : World} {A : Around} {s : Shared} {h₀ : Heap} {L : Addr} {m : Str → Option Value} {env : Env} {elt : Expr} {x : Str} {scope : Scope} {cl : List (Str × Addr)} {S : List (Addr × Obj) → Prop} {P : Nat → Value → Prop} {Fin : List Value → List (Addr × Obj) → Prop} {n : Nat} {news : List (Addr × Obj)}
    (V : Value → Prop) (hS : S news)
    (turn : ∀ i ys v I oI C oC D m₂ h tk (E' : Value → Shared → Prop), i < n → P i v → NsObj oC m₂ → m₂ x = some v → Fr h₀ L h m → News h₀ L h ((I, oI) :: (C, oC) :: (D, lst ys) :: news) → Off3 I C D news → ((@Ne Nat I C) ∧ (@Ne Nat I D) ∧ (@Ne Nat C D)) →
      wpAny (model prog w) A (eval elt (compEnvC scope cl C env)) (CompTurn h₀ L m { s with heap := h, toks := tk } I oI C oC D (lst ys) (fun _ => True) (fun y nw' => nw' = news ∧ V y)) E' { s with heap := h, toks := tk })
    (fin : ∀ ys, ys.length = n → (∀ v ∈ ys, V v) → Fin ys news) : CompRest prog w A h₀ L m env elt x scope cl s S P Fin n 0 [] news := by
  refine rest_inv (fun i ys nw => nw = news ∧ ys.length = i ∧ ∀ v ∈ ys, V v) ⟨rfl, rfl, fun _ h => nomatch h⟩ ?_ ?_
  · rintro i ys nw v I oI C oC D m₂ h tk E' hi ⟨rfl, hl, hb⟩ hv hC hx F N off ne
    refine wpAny_mono (turn i ys v I oI C oC D m₂ h tk E' hi hv hC hx F N off ne) (fun y s₂ hq => ?_) fun _ _ e => e
    obtain ⟨h', tk', nw', e, F', N', off', _, hn, hy⟩ := hq
    subst hn
    refine ⟨h', tk', _, e, F', N', off', hS, rfl, by rw [List.length_append, List.length_singleton, hl], fun u hu => ?_⟩
    rcases List.mem_append.mp hu with hu | hu
    · exact hb u hu
    · rw [List.mem_singleton.mp hu]; exact hy
  · rintro ys nw ⟨rfl, hl, hb⟩
    exact fin ys hl hb
theorem texts_of {n : Nat} : ∀ {ys : List Value}, (∀ v ∈ ys, TextLe n v) → ∃ xs, StrsAre ys xs ∧ xs.length = ys.length ∧ ∀ x ∈ xs, x.length ≤ n ∧ PyData.strOk x = true
  | [], _ => ⟨[], .nil, rfl, fun _ h => nomatch h⟩
  | v :: r, h => by
    obtain ⟨x, t, e, hl⟩ := h v (.head _)
    subst e
    obtain ⟨xs, hs, hn, hb⟩ := texts_of (ys := r) fun u hu => h u (.tail _ hu)
    refine ⟨x :: xs, .cons x t hs, by rw [List.length_cons, List.length_cons, hn], fun y hy => ?_⟩
    rcases List.mem_cons.mp hy with rfl | hy
    · exact hl
    · exact hb y hy
theorem fdiv_b {i : Nat} (h : i < 42) : 0 ≤ Int.fdiv (0 + (i : Int)) 26 ∧ Int.fdiv (0 + (i : Int)) 26 < 2 := by
  rw [Int.fdiv_eq_ediv_of_nonneg _ (by decide)]; omega
theorem fmod11 (c : Int) : 0 ≤ c.fmod 11 ∧ c.fmod 11 < 11 := ⟨Int.fmod_nonneg_of_pos c (by decide), Int.fmod_lt_of_pos c (by decide)⟩
theorem name_ok {x y z : Str} {c : Int} {l u : Option Int} {l' u' : Option Int} {i : Int} {t : Tok} (hx : x.length ≤ (c.fmod 11).toNat) (ox : PyData.strOk x = true) (oy : PyData.strOk y = true) (hz : z.length ≤ 1 ∧ PyData.strOk z = true) :
    TextLe 24 (.str (Txt.slice x l u ++ Txt.item y i ++ z ++ Txt.slice x l' u') t) := by
  have hc := fmod11 c
  have h1 := Txt.slice_le x l u
  have h2 := Txt.slice_le x l' u'
  refine textLe_of ?_ (strOk_append (strOk_append (strOk_append (strOk_slice ox _ _) (strOk_item oy _)) hz.2) (strOk_slice ox _ _))
  rw [Str.length_append, Str.length_append, Str.length_append, len_item1]
  (clear ox oy; omega)
theorem item_name {prog : Program} {w : World} {A : Around} {E : Value → Shared → Prop} {s : Shared} {value slice : PySem.Expr} {h₀ : Heap} {L l : Addr} {news : List (Addr × Obj)} {ys : List Value} {xs : List Str} {k : Int} {u : Tok} {Q : Value → Shared → Prop} (N : News h₀ L s.heap news) (hm : (l, LCg.lst ys) ∈ news) (hs : StrsAre ys xs)
    (h0 : 0 ≤ k ∧ k < (xs.length : Int)) (hfit : k < 2 ^ 63) (h : ∀ x t, x ∈ xs → Q (.str x t) s)
    (hq : subscripted slice false (.ref l) (.int k u) = operate [.ref l, .int k u] (getItem (.ref l) (.int k u)) := by with_unfolding_all rfl) :
    wpAny (model prog w) A (subscriptTail value slice (.ref l) (.int k u)) Q E s :=
  KTb.item_list (News.isList N hm) hs h0.1 h0.2 hfit (fun t hlt => h _ t (by rw [List.getD_eq_getElem?_getD, List.getElem?_eq_getElem hlt, Option.getD_some]; exact List.getElem_mem hlt)) hq
theorem item_bd {prog : Program} {w : World} {A : Around} {E : Value → Shared → Prop} {s : Shared} {value slice : PySem.Expr} {l : Addr} {vs : List Value} {ns : List Int} {k : Int} {u : Tok} {Q : Value → Shared → Prop} (lo hi : Int) (hl : s.heap.IsList l vs.toArray) (hi' : IntsAre vs ns) (hb : ∀ n ∈ ns, lo ≤ n ∧ n ≤ hi)
    (h0 : 0 ≤ k ∧ k < (ns.length : Int)) (hfit : k < 2 ^ 63) (h : ∀ t x, (lo ≤ x ∧ x ≤ hi) → Q (.int x t) s)
    (hs : subscripted slice false (.ref l) (.int k u) = operate [.ref l, .int k u] (getItem (.ref l) (.int k u)) := by with_unfolding_all rfl) :
    wpAny (model prog w) A (subscriptTail value slice (.ref l) (.int k u)) Q E s := by
  have hlt : k.toNat < ns.length := by (clear hs; omega)
  obtain ⟨t, hx⟩ := hi'.get k.toNat ns[k.toNat] (List.getElem?_eq_getElem hlt)
  exact tail_any hl.typeIs slot_list_getitem.lookup (wpAny_getItem_list hl h0.1 hfit (by simpa using hx) (h t _ (hb _ (List.getElem_mem hlt)))) hs
theorem fmb (a b : Int) (h : 0 < b) : 0 ≤ a.fmod b ∧ a.fmod b < b := ⟨Int.fmod_nonneg_of_pos a h, Int.fmod_lt_of_pos a h⟩
end Mine
local macro_rules | `(tactic| k_all) => `(tactic| first | assumption | exact Mine.ne_above (by assumption) (by omega))
local macro_rules | `(tactic| k_mem) => `(tactic| ((repeat (first | assumption | refine List.Mem.tail _ ?_)); done))
namespace Mine
theorem c_names (w : World) (mean : ExcName → Option Value) (mg mb : Str → Option Value) (c : Int) (tc : Tok) (hc : CellOk c ∧ (0 : Int) ≤ 0) :
    Cm PySem.Challenge.rw_uf050027_07.row.prog w (hd07.heap_39 w.params) hd07.view_39 (looseW hd07.view_39 []) mean mg mb 68 3 [.int c tc] (fun _ _ => True) (fun r L => ∃ D, r = .ref D ∧ TextsAt L D 24 42) := by
  unfold Cm
  k_fill
  w_top off
  intro dp un gd cn cs a ccd cl outer A₀ base h₀ L m news s Q E B F X N T hk hd hu hP hret
  refine wpAny_call ?_
  k_dflt (refine' code_defC ?k1 ?k2 ?k3 ?k4 ?k5 ?kA ?kF ?kK ?k6 ?k7 ?k8 ?k9 ?kB ?kD ?_ ?c2 ?c3 ?c4; (case kA => exact rfl); (case kF => exact rfl); (case kK => assumption); (case k1 => k_asm); (case k2 => k_asm); (case k3 => k_asm); (case k4 => k_asm); (case k5 => k_asm); (case k6 => k_is); (case k7 => k_is); (case k8 => ktr_room); (case k9 => exact BindsTo.of_eq rfl); (case kB => exact rfl); (case kD => decide +kernel); (case c2 => exact rfl); (case c3 => exact rfl); (case c4 => exact rfl); k_whole; intro g' L' h' tk' cells' FG' F' N' Y' B' X' T' l1; (try k_lt l1); k_cells Y'; (try simp only [List.cons_append, List.nil_append] at N'); (try dsimp only); (try k_lift B'); (try k_fold))
  k_with_none
  k_with "call ref" => (k_here; (with_reducible show wpAny _ _ (call (Value.ref 49) _) _ _ _); k_dflt (refine Mine.Ct.use (Mine.c_lmix _ _ _ _ _ _ _ _) (ret := ?_)); intro t9 h9 tk9 P9 F9 N9; (try dsimp only); (try k_fold))
  k_with "call ref" => (k_here; (with_reducible show wpAny _ _ (call (Value.ref 56) _) _ _ _); k_dflt (refine Mine.Ct.use (Mine.c_lbig _ _ _ _ _ _ _ _) (ret := ?_)); intro t9 h9 tk9 P9 F9 N9; (try dsimp only); (try k_fold))
  k_with "call ref" => (k_here; (with_reducible show wpAny _ _ (call (Value.ref 63) _) _ _ _); k_dflt (refine Mine.Cv.use (Mine.c_word _ _ _ _ _ _ _ _) (ret := ?_)); intro r9 h9 tk9 ho9 F9 N9; k_dflt ((obtain ⟨x9, v9, e9, hl9, hs9⟩ := ho9); subst e9); (try dsimp only); (try k_fold))
  k_with "eval ListComp" => (k_here; k_dflt (refine Mine.ListComp_V (by k_asm) (by with_unfolding_all rfl) (by decide) (by rfl) (by decide) (by rfl) ?_))
  k_steps
  refine SrcU.range (n := 42) (by rfl) (by k_asm) (by k_asm) (by assumption) (by decide) (by rfl) (by decide) ?_
  intro g9
  refine rest_each (TextLe 24) trivial ?_ ?_
  · intro i ys v I oI C oC D m₂ h tk E' hi hv hC hx F' N' off ne
    obtain ⟨t9, rfl⟩ := hv
    k_with "subscriptTail List cons BinOp ref int" => (k_here; (with_reducible show wpAny _ _ (subscriptTail _ _ (Value.ref _) (Value.int _ _)) _ _ _); k_dflt (refine' Mine.item_texts 1 ?k1 ?k2 ?k3 ?k4 ?_; (case k1 => is_list); (case k2 => exact ⟨(Mine.fdiv_b hi).1, by simpa using (Mine.fdiv_b hi).2⟩); (case k3 => (have hb9 := (Mine.fdiv_b hi).2; omega)); (case k4 => exact Mine.textAll_cons (Mine.textLe_of (by decide) (by decide +kernel)) (Mine.textAll_cons (Mine.textLe_of (by decide) (by decide +kernel)) Mine.textAll_nil)); k_whole); intro z9 tz9 hz9)
    k_steps
    all_goals first | (refine CompTurn.intro (by k_asm) (by k_asm) _ ?cS ?cO trivial ⟨rfl, name_ok (by assumption) (by assumption) (by decide +kernel) (by assumption)⟩; (case cS => first | exact fun _ h => h | kst_inAny); (case cO => assumption))
  · intro ys hl hb
    obtain ⟨xs, hs, hn, hx⟩ := texts_of hb
    intro D h tk F' N' o1
    k_steps
    refine hret (.ref D) [(D, LCg.lst ys)] h tk ⟨D, rfl, ys, xs, .head _, hs, by rw [hn, hl], hx⟩ (fun p hp q hq => by rw [List.mem_singleton.mp hp]; exact off1_mem o1 q (.tail _ (.tail _ (.tail _ hq)))) (by k_asm) ?_
    rename News h₀ L _ _ => kN9
    intro p hp
    refine kN9 p ?_
    rcases List.mem_append.mp hp with hp | hp
    · rw [List.mem_singleton.mp hp]; exact .head _
    · exact .tail _ (.tail _ (.tail _ (.tail _ hp)))

end Mine
namespace Mine
abbrev St := Int × Int
noncomputable def has (s : St) (p : Int) : Bool := decide (s.1 ≤ p) && decide (p ≤ s.2)
noncomputable def cnt : List St → Int → Int
  | [], _ => 0
  | s :: r, p => (if s.1 ≤ p ∧ p ≤ s.2 then 1 else 0) + cnt r p
noncomputable def chg : List St → Int → Int
  | [], _ => 0
  | s :: r, p => (if s.1 = p then 1 else 0) - (if s.2 + 1 = p then 1 else 0) + chg r p
noncomputable def edges : List St → List Int
  | [] => []
  | s :: r => s.1 :: (s.2 + 1) :: edges r
theorem cnt_append (a b : List St) (p : Int) : cnt (a ++ b) p = cnt a p + cnt b p := by
  induction a with
  | nil => simp [cnt]
  | cons s r ih => simp only [List.cons_append, cnt, ih]; (clear ih; omega)
theorem chg_append (a b : List St) (p : Int) : chg (a ++ b) p = chg a p + chg b p := by
  induction a with
  | nil => simp [chg]
  | cons s r ih => simp only [List.cons_append, chg, ih]; (clear ih; omega)
theorem edges_append (a b : List St) : edges (a ++ b) = edges a ++ edges b := by
  induction a with
  | nil => rfl
  | cons s r ih => simp only [List.cons_append, edges, ih]
noncomputable def Rising : List Int → Prop
  | [] => True
  | [_] => True
  | a :: b :: r => a < b ∧ Rising (b :: r)
theorem Rising.tail {a : Int} {r : List Int} (h : Rising (a :: r)) : Rising r := by
  cases r with
  | nil => trivial
  | cons b r => exact h.2
theorem Rising.lt {a : Int} {r : List Int} (h : Rising (a :: r)) : ∀ b ∈ r, a < b := by
  induction r generalizing a with
  | nil => intro b hb; cases hb
  | cons c r ih =>
    intro b hb
    rcases List.mem_cons.mp hb with rfl | hb
    · exact h.1
    · have := ih h.2 b hb
      have := h.1
      omega
noncomputable def upTo (f : Int → Int) (p : Int) : List Int → Int
  | [] => 0
  | q :: r => (if q ≤ p then f q else 0) + upTo f p r
theorem upTo_zero (p : Int) (l : List Int) : upTo (fun _ => 0) p l = 0 := by
  induction l with
  | nil => rfl
  | cons q r ih => simp only [upTo, ih]; split <;> rfl
theorem upTo_add (f g : Int → Int) (p : Int) (l : List Int) : upTo (fun q => f q + g q) p l = upTo f p l + upTo g p l := by
  induction l with
  | nil => rfl
  | cons q r ih => simp only [upTo, ih]; split <;> (clear ih; omega)
theorem upTo_neg (f : Int → Int) (p : Int) (l : List Int) : upTo (fun q => - f q) p l = - upTo f p l := by
  induction l with
  | nil => rfl
  | cons q r ih => simp only [upTo, ih]; split <;> (clear ih; omega)
theorem upTo_none (a p : Int) (l : List Int) (h : a ∉ l) : upTo (fun q => if a = q then 1 else 0) p l = 0 := by
  induction l with
  | nil => rfl
  | cons q r ih =>
    have h1 : a ≠ q := fun e => h (e ▸ List.mem_cons_self)
    have h2 : a ∉ r := fun e => h (List.mem_cons_of_mem _ e)
    simp only [upTo, ih h2, h1, if_false]; split <;> rfl
theorem upTo_one (a p : Int) (l : List Int) (hr : Rising l) (h : a ∈ l) : upTo (fun q => if a = q then 1 else 0) p l = if a ≤ p then 1 else 0 := by
  induction l with
  | nil => cases h
  | cons q r ih =>
    by_cases e : a = q
    · subst e
      have hn : a ∉ r := fun hm => by have := hr.lt a hm; omega
      simp only [upTo, upTo_none a p r hn, if_true]; split <;> rfl
    · have hm : a ∈ r := (List.mem_cons.mp h).resolve_left e
      simp only [upTo, ih hr.tail hm, e, if_false]; split <;> (clear e; omega)
theorem upTo_congr {f g : Int → Int} (h : ∀ q, f q = g q) (p : Int) (l : List Int) : upTo f p l = upTo g p l := by rw [funext h]
theorem upTo_chg (S : List St) (hS : ∀ s ∈ S, s.1 ≤ s.2) (p : Int) (l : List Int) (hr : Rising l) (h : ∀ e ∈ edges S, e ∈ l) : upTo (chg S) p l = cnt S p := by
  induction S with
  | nil => exact upTo_zero p l
  | cons s r ih =>
    have h1 := ih (fun s hs => hS s (List.mem_cons_of_mem _ hs)) (fun e he => h e (by simp [edges, he]))
    have h2 := upTo_one s.1 p l hr (h _ (by simp [edges]))
    have h3 := upTo_one (s.2 + 1) p l hr (h _ (by simp [edges]))
    have h4 : upTo (chg (s :: r)) p l = upTo (fun q => ((if s.1 = q then 1 else 0) + (- (if s.2 + 1 = q then 1 else 0))) + chg r q) p l := upTo_congr (fun q => by simp only [chg]; (clear h1 h2 h3; omega)) p l
    rw [h4, upTo_add, upTo_add, upTo_neg, h1, h2, h3]
    have := hS s List.mem_cons_self
    simp only [cnt]
    (repeat' split) <;> (clear h1 h2 h3 h4; omega)
noncomputable def runsOf (S : List St) : List Int → List (Int × Int × Int)
  | [] => []
  | [_] => []
  | p :: q :: r => (p, q - 1, cnt S p) :: runsOf S (q :: r)
theorem upTo_split (f : Int → Int) (a : List Int) (p : Int) (b : List Int) (h : Rising (a ++ p :: b)) : upTo f p (a ++ p :: b) = (a.map f).sum + f p := by
  induction a with
  | nil =>
    have hb : upTo f p b = 0 := by
      have hl := Rising.lt (r := b) (a := p) h
      clear h
      induction b with
      | nil => rfl
      | cons c b ih =>
        have hc := hl c List.mem_cons_self
        simp only [upTo, show ¬ c ≤ p by omega, if_false, ih fun x hx => hl x (List.mem_cons_of_mem _ hx)]; rfl
    simp [upTo, hb]
  | cons c a ih =>
    have h1 := ih (Rising.tail h)
    have h2 := Rising.lt (r := a ++ p :: b) (a := c) h p (by simp)
    simp only [List.cons_append, upTo, show c ≤ p by (clear h1; omega), if_true, h1, List.map_cons, List.sum_cons]
    (clear h1 h2; omega)
theorem cnt_const (S : List St) (p x : Int) (hpx : p ≤ x) (h : ∀ e ∈ edges S, ¬ (p < e ∧ e ≤ x)) : cnt S x = cnt S p := by
  induction S with
  | nil => rfl
  | cons s r ih =>
    have h1 := ih fun e he => h e (by simp [edges, he])
    have h2 := h s.1 (by simp [edges])
    have h3 := h (s.2 + 1) (by simp [edges])
    simp only [cnt, h1]
    (repeat' split) <;> (clear h1; omega)
theorem cnt_zero_low (S : List St) (x : Int) (h : ∀ e ∈ edges S, x < e) : cnt S x = 0 := by
  induction S with
  | nil => rfl
  | cons s r ih =>
    have h1 := ih fun e he => h e (by simp [edges, he])
    have h2 := h s.1 (by simp [edges])
    simp only [cnt, h1]
    split <;> (clear h1; omega)
theorem cnt_zero_high (S : List St) (x : Int) (h : ∀ e ∈ edges S, e ≤ x) : cnt S x = 0 := by
  induction S with
  | nil => rfl
  | cons s r ih =>
    have h1 := ih fun e he => h e (by simp [edges, he])
    have h2 := h (s.2 + 1) (by simp [edges])
    simp only [cnt, h1]
    split <;> (clear h1; omega)
structure FewInv (S : List St) (done : List Int) (a : Int × Option Int) : Prop where
  nn : 0 ≤ a.1
  top : ∀ q ∈ done, cnt S q ≤ a.1
  pt : (a.1 = 0 ∧ a.2 = none) ∨ ∃ p ∈ done, a.2 = some p ∧ cnt S p = a.1 ∧ 0 < a.1 ∧ ∀ q ∈ done, q < p → cnt S q < a.1
noncomputable def partStep (need : Int) (P : List St) (r : Int × Int × Int) : List St :=
  if need ≤ r.2.2 then (match P.getLast? with
    | some l => if l.2 + 1 = r.1 then P.dropLast ++ [(l.1, r.2.1)] else P ++ [(r.1, r.2.1)]
    | none => [(r.1, r.2.1)]) else P
noncomputable def Held (P : List St) (x : Int) : Prop := ∃ s ∈ P, s.1 ≤ x ∧ x ≤ s.2
theorem held_append {P R : List St} {x : Int} : Held (P ++ R) x ↔ Held P x ∨ Held R x := by
  constructor
  · rintro ⟨s, hs, h⟩
    rcases List.mem_append.mp hs with hs | hs
    · exact .inl ⟨s, hs, h⟩
    · exact .inr ⟨s, hs, h⟩
  · rintro (⟨s, hs, h⟩ | ⟨s, hs, h⟩)
    · exact ⟨s, List.mem_append.mpr (.inl hs), h⟩
    · exact ⟨s, List.mem_append.mpr (.inr hs), h⟩
theorem held_one {a b x : Int} : Held [(a, b)] x ↔ a ≤ x ∧ x ≤ b := by
  constructor
  · rintro ⟨s, hs, h⟩
    rw [List.mem_singleton.mp hs] at h; exact h
  · intro h; exact ⟨(a, b), by simp, h⟩
noncomputable def Apart : List St → Prop
  | [] => True
  | s :: r => s.1 ≤ s.2 ∧ (∀ t ∈ r, s.2 + 1 < t.1) ∧ Apart r
theorem apart_append {P : List St} {t : St} : Apart (P ++ [t]) ↔ Apart P ∧ t.1 ≤ t.2 ∧ ∀ s ∈ P, s.2 + 1 < t.1 := by
  induction P with
  | nil => simp [Apart]
  | cons s r ih =>
    simp only [List.cons_append, Apart, ih]
    constructor
    · rintro ⟨h1, h2, h3, h4, h5⟩
      refine ⟨⟨h1, fun u hu => h2 u (List.mem_append.mpr (.inl hu)), h3⟩, h4, ?_⟩
      intro u hu
      rcases List.mem_cons.mp hu with rfl | hu
      · exact h2 t (by simp)
      · exact h5 u hu
    · rintro ⟨⟨h1, h2, h3⟩, h4, h5⟩
      refine ⟨h1, ?_, h3, h4, fun u hu => h5 u (List.mem_cons_of_mem _ hu)⟩
      intro u hu
      rcases List.mem_append.mp hu with hu | hu
      · exact h2 u hu
      · rw [List.mem_singleton.mp hu]; exact h5 s List.mem_cons_self
theorem part_step {S : List St} {need a b q : Int} {P : List St} (hab : b ≤ q) (hA : Apart P) (hB : ∀ s ∈ P, s.2 < b) (hH : ∀ x, Held P x ↔ a ≤ x ∧ x < b ∧ need ≤ cnt S x) (hab' : a ≤ b) (hbq : b < q) (hc : ∀ x, b ≤ x → x < q → cnt S x = cnt S b) :
    let P' := partStep need P (b, q - 1, cnt S b)
    Apart P' ∧ (∀ s ∈ P', s.2 < q) ∧ ∀ x, Held P' x ↔ a ≤ x ∧ x < q ∧ need ≤ cnt S x := by
  intro P'
  have new : ∀ x, (b ≤ x ∧ x ≤ q - 1) → (need ≤ cnt S x ↔ need ≤ cnt S b) := fun x hx => by rw [hc x hx.1 (by (clear hab hab' hbq; omega))]
  by_cases hn : need ≤ cnt S b
  · have hP' : P' = (match P.getLast? with
      | some l => if l.2 + 1 = b then P.dropLast ++ [(l.1, q - 1)] else P ++ [(b, q - 1)]
      | none => [(b, q - 1)]) := by show partStep need P (b, q - 1, cnt S b) = _; unfold partStep; rw [if_pos hn]
    -- adding a run of its own
    have add : ∀ P₀ : List St, P₀ = P → (∀ s ∈ P, s.2 + 1 < b) → (Apart (P₀ ++ [(b, q - 1)]) ∧ (∀ s ∈ P₀ ++ [(b, q - 1)], s.2 < q) ∧ ∀ x, Held (P₀ ++ [(b, q - 1)]) x ↔ a ≤ x ∧ x < q ∧ need ≤ cnt S x) := by
      rintro P₀ rfl hlt
      refine ⟨apart_append.mpr ⟨hA, by dsimp only; (clear hP' hab hab' hn; omega), hlt⟩, ?_, ?_⟩
      · intro s hs
        rcases List.mem_append.mp hs with hs | hs
        · have := hB s hs; (clear hP' hab hab' hn; omega)
        · rw [List.mem_singleton.mp hs]; dsimp only; (clear hP' hab hab' hbq hn; omega)
      · intro x
        rw [held_append, held_one, hH x]
        constructor
        · rintro (h | h)
          · exact ⟨h.1, by (clear hP' hab hab' hn; omega), h.2.2⟩
          · exact ⟨by (clear hP' hab hbq hn; omega), by (clear hP' hab hab' hbq hn; omega), (new x h).mpr hn⟩
        · rintro ⟨h1, h2, h3⟩
          by_cases hxb : x < b
          · exact .inl ⟨h1, hxb, h3⟩
          · exact .inr ⟨by (clear h1 h2 h3 hP' hab hab' hbq hn; omega), by (clear h1 h3 hP' hab hab' hbq hn hxb; omega)⟩
    rcases List.eq_nil_or_concat P with rfl | ⟨P₀, l, rfl⟩
    · have e : P' = [] ++ [(b, q - 1)] := by rw [hP']; rfl
      rw [e]
      exact add [] rfl fun s hs => (nomatch hs)
    · rw [List.concat_eq_append] at hP' hA hB hH add
      have hAp := apart_append.mp hA
      have hl := hB l (by simp)
      have hg : (P₀ ++ [l]).getLast? = some l := by simp
      rw [hg, List.dropLast_concat] at hP'
      dsimp only at hP'
      by_cases he : l.2 + 1 = b
      · rw [if_pos he] at hP'
        rw [hP']
        refine ⟨apart_append.mpr ⟨hAp.1, by have := hAp.2.1; dsimp only; (clear hP' hab hab' hg hl hn this; omega), hAp.2.2⟩, ?_, ?_⟩
        · intro s hs
          rcases List.mem_append.mp hs with hs | hs
          · have := hB s (List.mem_append.mpr (.inl hs)); (clear hAp hP' hab hab' hg hl hn; omega)
          · rw [List.mem_singleton.mp hs]; dsimp only; (clear hAp hP' hab hab' hbq he hg hl hn; omega)
        · intro x
          have hx := hH x
          rw [held_append] at hx
          rw [held_append, held_one]
          have ho : Held [l] x ↔ l.1 ≤ x ∧ x ≤ l.2 := held_one (a := l.1) (b := l.2)
          rw [ho] at hx
          have := hAp.2.1
          constructor
          · rintro (h | h)
            · have := hx.mp (.inl h)
              exact ⟨this.1, by (clear hAp hP' hab hab' hg hl hn ho hx; omega), this.2.2⟩
            · by_cases hxl : x ≤ l.2
              · have := hx.mp (.inr ⟨h.1, hxl⟩)
                exact ⟨this.1, by (clear hAp hP' hab hab' hbq he hg hl hn ho hx hxl; omega), this.2.2⟩
              · exact ⟨by (clear h hAp hP' hab hbq hg hl hn ho hx this; omega), by (clear hAp hP' hab hab' hbq he hg hl hn ho hx hxl this; omega), (new x ⟨by (clear h hAp hP' hab hab' hbq hg hl hn ho hx this; omega), by (clear hAp hP' hab hab' hbq he hg hl hn ho hx hxl this; omega)⟩).mpr hn⟩
          · rintro ⟨h1, h2, h3⟩
            by_cases hxb : x < b
            · rcases hx.mpr ⟨h1, hxb, h3⟩ with h | h
              · exact .inl h
              · exact .inr ⟨h.1, by (clear h h1 h3 hAp hP' hab hab' hbq he hg hl hn ho hx hxb this; omega)⟩
            · exact .inr ⟨by (clear h1 h2 h3 hP' hab hab' hbq hg hl hn ho hx this; omega), by (clear h1 h3 hAp hP' hab hab' hbq he hg hl hn ho hx hxb this; omega)⟩
      · rw [if_neg he] at hP'
        rw [hP']
        refine add _ rfl ?_
        intro s hs
        have h1 := hB s hs
        rcases List.mem_append.mp hs with hs | hs
        · have := hAp.2.2 s hs
          have := hAp.2.1
          (clear hP' hab hab' hbq he hg hn; omega)
        · rw [List.mem_singleton.mp hs] at h1 ⊢; (clear h1 hAp hP' hab hab' hbq hg hn; omega)
  · have hP' : P' = P := by show partStep need P (b, q - 1, cnt S b) = _; unfold partStep; rw [if_neg hn]
    rw [hP']
    refine ⟨hA, fun s hs => by have := hB s hs; (clear hP' hab hab' hn; omega), ?_⟩
    intro x
    rw [hH x]
    constructor
    · rintro ⟨h1, h2, h3⟩; exact ⟨h1, by (clear h1 h3 hP' hab hab' hn; omega), h3⟩
    · rintro ⟨h1, h2, h3⟩
      refine ⟨h1, ?_, h3⟩
      by_cases hxb : x < b
      · exact hxb
      · exact absurd ((new x ⟨by (clear h1 h2 h3 hP' hab hab' hbq hn; omega), by (clear h1 h3 hP' hab hab' hbq hn hxb; omega)⟩).mp h3) hn
theorem part_run {S : List St} {need a : Int} : ∀ (pts : List Int) (b : Int) (P : List St), Rising (b :: pts) → (∀ e ∈ edges S, e ≤ b ∨ e ∈ pts) → a ≤ b → Apart P → (∀ s ∈ P, s.2 < b) → (∀ x, Held P x ↔ a ≤ x ∧ x < b ∧ need ≤ cnt S x) →
    let P' := (runsOf S (b :: pts)).foldl (partStep need) P
    Apart P' ∧ ∀ x, Held P' x ↔ a ≤ x ∧ x < (b :: pts).getLast (by simp) ∧ need ≤ cnt S x
  | [], b, P, _, _, _, hA, hB, hH => ⟨hA, hH⟩
  | q :: r, b, P, hr, he, hab, hA, hB, hH => by
    have hbq := hr.lt q List.mem_cons_self
    obtain ⟨h1, h2, h3⟩ := part_step (S := S) (need := need) (a := a) (b := b) (q := q) (P := P) (by (clear hab; omega)) hA hB hH hab hbq (by
      intro x hx1 hx2
      refine cnt_const S b x hx1 fun e hee hlt => ?_
      rcases he e hee with h | h
      · (clear hab hbq hx1 hx2; omega)
      · rcases List.mem_cons.mp h with rfl | h
        · (clear hab hbq hx1; omega)
        · have := hr.tail.lt e h; (clear hab hbq hx1; omega))
    have := part_run r q _ hr.tail (fun e hee => by
      rcases he e hee with h | h
      · exact .inl (by (clear hab; omega))
      · rcases List.mem_cons.mp h with rfl | h
        · exact .inl (Int.le_refl _)
        · exact .inr h) (by omega) h1 h2 h3
    rw [List.getLast_cons (by simp)]
    exact this
theorem part_spec (S : List St) (need : Int) (hn : 1 ≤ need) (pts : List Int) (hr : Rising pts) (hm : ∀ x, x ∈ pts ↔ x ∈ edges S) :
    let P := (runsOf S pts).foldl (partStep need) []
    Apart P ∧ ∀ x, Held P x ↔ need ≤ cnt S x := by
  intro P
  cases pts with
  | nil =>
    have hz : ∀ x, cnt S x = 0 := fun x => cnt_zero_low S x fun e he => absurd ((hm e).mpr he) (by simp)
    refine ⟨trivial, fun x => ?_⟩
    rw [hz x]
    constructor
    · rintro ⟨s, hs, _⟩; exact absurd hs (by show ¬ s ∈ ([] : List St); simp)
    · intro h; omega
  | cons b pts =>
    obtain ⟨h1, h2⟩ := part_run (S := S) (need := need) (a := b) pts b [] hr (fun e he => by
      rcases List.mem_cons.mp ((hm e).mpr he) with rfl | h
      · exact .inl (Int.le_refl _)
      · exact .inr h) (Int.le_refl _) trivial (fun _ h => (nomatch h)) (fun x => by
        constructor
        · rintro ⟨s, hs, _⟩; cases hs
        · rintro ⟨h1, h2, _⟩; (clear hn; omega))
    refine ⟨h1, fun x => ?_⟩
    rw [h2 x]
    constructor
    · exact fun h => h.2.2
    · intro h
      have hpos : 0 < cnt S x := by omega
      refine ⟨?_, ?_, h⟩
      · by_cases hx : b ≤ x
        · exact hx
        · have := cnt_zero_low S x fun e he => by
            rcases List.mem_cons.mp ((hm e).mpr he) with rfl | h
            · (clear h hn hpos; omega)
            · have := hr.lt e h; (clear hn hpos; omega)
          (clear h hn hx; omega)
      · by_cases hx : x < (b :: pts).getLast (by simp)
        · exact hx
        · have := cnt_zero_high S x fun e he => by
            have hmem := (hm e).mpr he
            have : e ≤ (b :: pts).getLast (by simp) := by
              clear h1 h2 hx hpos h P
              have key : ∀ (l : List Int) (hl : l ≠ []), Rising l → ∀ e ∈ l, e ≤ l.getLast hl := by
                intro l
                induction l with
                | nil => intro hl; exact absurd rfl hl
                | cons c l ih =>
                  intro hl hr e he
                  cases l with
                  | nil => rw [List.mem_singleton.mp he]; exact Int.le_refl _
                  | cons d l =>
                    rw [List.getLast_cons (by simp)]
                    rcases List.mem_cons.mp he with rfl | he
                    · have h1 := ih (by simp) hr.tail d List.mem_cons_self
                      have h2 := hr.1
                      (clear hl hn; omega)
                    · exact ih (by simp) hr.tail e he
              exact key _ _ hr e hmem
            (clear h hn hpos; omega)
          (clear h hn hx; omega)
theorem apart_cases {P : List St} (h : Apart P) : ∀ s ∈ P, ∀ t ∈ P, s = t ∨ s.2 + 1 < t.1 ∨ t.2 + 1 < s.1 := by
  induction P with
  | nil => intro s hs; cases hs
  | cons u r ih =>
    intro s hs t ht
    rcases List.mem_cons.mp hs with rfl | hs
    · rcases List.mem_cons.mp ht with rfl | ht
      · exact .inl rfl
      · exact .inr (.inl (h.2.1 t ht))
    · rename_i hs'
      rcases List.mem_cons.mp ht with h2 | h2
      · rw [h2]; exact .inr (.inr (h.2.1 s hs))
      · exact ih h.2.2 s hs t h2
theorem apart_le {P : List St} (h : Apart P) : ∀ s ∈ P, s.1 ≤ s.2 := by
  induction P with
  | nil => intro s hs; cases hs
  | cons u r ih =>
    intro s hs
    rcases List.mem_cons.mp hs with rfl | hs
    · exact h.1
    · exact ih h.2.2 s hs
theorem part_ends {S : List St} {need : Int} {P : List St} (hA : Apart P) (hH : ∀ x, Held P x ↔ need ≤ cnt S x) {s : St} (hs : s ∈ P) : cnt S (s.1 - 1) < need ∧ cnt S (s.2 + 1) < need := by
  have hle := apart_le hA s hs
  refine ⟨?_, ?_⟩
  · by_cases h : need ≤ cnt S (s.1 - 1)
    · obtain ⟨t, ht, h1, h2⟩ := (hH _).mpr h
      have := apart_le hA t ht
      rcases apart_cases hA s hs t ht with rfl | h | h <;> (clear this; omega)
    · (clear hle; omega)
  · by_cases h : need ≤ cnt S (s.2 + 1)
    · obtain ⟨t, ht, h1, h2⟩ := (hH _).mpr h
      have := apart_le hA t ht
      rcases apart_cases hA s hs t ht with rfl | h | h <;> (clear this; omega)
    · (clear hle; omega)
end Mine
namespace Mine
open PySem.W
theorem has_iff {c : List (Int × Int)} {k : Int} : kdfHas c k = true ↔ k ∈ c.map (·.1) := by
  unfold kdfHas
  rw [List.any_eq_true, List.mem_map]
  exact ⟨fun ⟨p, h, e⟩ => ⟨p, h, of_decide_eq_true e⟩, fun ⟨p, h, e⟩ => ⟨p, h, decide_eq_true e⟩⟩
theorem put_eq (c : List (Int × Int)) (k v : Int) : kdfPut c k v = if kdfHas c k = true then c.map (fun p => if decide (p.1 = k) = true then (p.1, v) else p) else c ++ [(k, v)] := rfl
theorem put_keys (c : List (Int × Int)) (k v : Int) : (kdfPut c k v).map (·.1) = if k ∈ c.map (·.1) then c.map (·.1) else c.map (·.1) ++ [k] := by
  rw [put_eq]
  by_cases h : k ∈ c.map (·.1)
  · rw [if_pos h, if_pos (has_iff.mpr h), List.map_map]
    refine List.map_congr_left fun p _ => ?_
    show (if decide (p.1 = k) = true then (p.1, v) else p).1 = p.1
    by_cases e : p.1 = k
    · rw [if_pos (decide_eq_true e)]
    · rw [if_neg (by simpa using e)]
  · rw [if_neg h, if_neg (fun q => h (has_iff.mp q)), List.map_append]
    rfl
theorem look_nil (k d : Int) : kdfLook [] k d = d := rfl
theorem look_cons (p : Int × Int) (c : List (Int × Int)) (k d : Int) : kdfLook (p :: c) k d = if p.1 = k then p.2 else kdfLook c k d := by
  unfold kdfLook
  rw [List.find?_cons]
  by_cases e : p.1 = k
  · simp [e]
  · simp [e]
theorem look_put (c : List (Int × Int)) (k v j d : Int) : kdfLook (kdfPut c k v) j d = if j = k then v else kdfLook c j d := by
  have hm : ∀ c : List (Int × Int), kdfLook (c.map fun p => if decide (p.1 = k) = true then (p.1, v) else p) j d = if j = k then (if k ∈ c.map (·.1) then v else d) else kdfLook c j d := by
    intro c
    induction c with
    | nil => simp [look_nil]
    | cons p c ih =>
      rw [List.map_cons, look_cons, ih, look_cons]
      by_cases e : p.1 = k
      · by_cases f : j = k
        · subst f; simp [e]
        · have g : ¬ k = j := fun h => f h.symm
          simp [e, f, g]
      · by_cases f : j = k
        · subst f
          have g : ¬ j = p.1 := fun h => e h.symm
          have m1 : (j ∈ List.map (·.1) (p :: c)) ↔ j ∈ List.map (·.1) c := by rw [List.map_cons, List.mem_cons]; exact ⟨fun h => h.resolve_left g, .inr⟩
          simp only [decide_eq_true_eq, if_neg e, if_true, m1]
        · simp [e, f]
  rw [put_eq]
  by_cases h : k ∈ c.map (·.1)
  · rw [if_pos (has_iff.mpr h), hm, if_pos h]
  · rw [if_neg (fun q => h (has_iff.mp q))]
    induction c with
    | nil => 
              rw [List.nil_append, look_cons, look_nil]
              by_cases f : j = k
              · rw [if_pos f.symm, if_pos f]
              · rw [if_neg (fun h => f h.symm), if_neg f]
    | cons p c ih =>
      rw [List.cons_append, look_cons, ih (fun q => h (by simp [q])), look_cons]
      by_cases f : j = k
      · subst f
        rw [if_neg (fun e => h (by simp [e])), if_pos rfl, if_pos rfl]
      · rw [if_neg f, if_neg f]
theorem put_nodup {c : List (Int × Int)} (h : (c.map (·.1)).Nodup) (k v : Int) : ((kdfPut c k v).map (·.1)).Nodup := by
  rw [put_keys]
  by_cases q : k ∈ c.map (·.1)
  · rw [if_pos q]; exact h
  · rw [if_neg q]
    refine List.nodup_append.mpr ⟨h, by simp, fun a ha b hb e => ?_⟩
    rw [List.mem_singleton] at hb
    exact q (by rw [← hb, ← e]; exact ha)
theorem put_mem {c : List (Int × Int)} {k v x : Int} : x ∈ (kdfPut c k v).map (·.1) ↔ x = k ∨ x ∈ c.map (·.1) := by
  rw [put_keys]
  by_cases q : k ∈ c.map (·.1)
  · rw [if_pos q]
    exact ⟨.inr, fun h => h.elim (fun e => by rw [e]; exact q) id⟩
  · rw [if_neg q, List.mem_append, List.mem_singleton, or_comm]
structure Tab (S : List St) (c : List (Int × Int)) : Prop where
  nodup : (c.map (·.1)).Nodup
  keys : ∀ x, x ∈ c.map (·.1) ↔ x ∈ edges S
  look : ∀ k, kdfLook c k 0 = chg S k
  len : c.length ≤ 2 * S.length
theorem tab_nil : Tab [] [] := ⟨List.nodup_nil, fun x => by simp [edges], fun k => rfl, Nat.le_refl _⟩
theorem put_len (c : List (Int × Int)) (k v : Int) : (kdfPut c k v).length ≤ c.length + 1 := by
  have := congrArg List.length (put_keys c k v)
  rw [List.length_map] at this
  rw [this]
  by_cases q : k ∈ c.map (·.1)
  · rw [if_pos q, List.length_map]; (clear this; omega)
  · rw [if_neg q, List.length_append, List.length_map]; simp
theorem tab_add {S : List St} {c : List (Int × Int)} (T : Tab S c) (lo hi : Int) :
    Tab (S ++ [(lo, hi)]) (kdfPut (kdfPut c lo (kdfLook c lo 0 + 1)) (hi + 1) (kdfLook (kdfPut c lo (kdfLook c lo 0 + 1)) (hi + 1) 0 - 1)) where
  nodup := put_nodup (put_nodup T.nodup _ _) _ _
  keys x := by
    rw [put_mem, put_mem, T.keys, edges_append, List.mem_append]
    simp [edges]
    constructor
    · rintro (h | h | h)
      · exact .inr (.inr h)
      · exact .inr (.inl h)
      · exact .inl h
    · rintro (h | h | h)
      · exact .inr (.inr h)
      · exact .inr (.inl h)
      · exact .inl h
  look k := by
    rw [look_put, look_put, look_put, chg_append]
    simp only [T.look, chg]
    by_cases e : k = hi + 1
    · by_cases f : k = lo
      · simp only [if_pos e, if_pos f, ← e, ← f, if_true]; (clear e f; omega)
      · have f' : ¬ lo = k := fun h => f h.symm
        have f'' : ¬ hi + 1 = lo := by (clear f; omega)
        simp only [if_pos e, if_neg f', if_neg f'', ← e, if_true]
        rw [if_neg (by (clear f f'; omega))]; (clear e f f' f''; omega)
    · have e' : ¬ hi + 1 = k := fun h => e h.symm
      by_cases f : k = lo
      · simp only [if_neg e, if_pos f, ← f, if_true, if_neg e']; (clear e e' f; omega)
      · have f' : ¬ lo = k := fun h => f h.symm
        simp only [if_neg e, if_neg f, if_neg e', if_neg f']; (clear e e' f f'; omega)
  len := by
    have h1 := put_len c lo (kdfLook c lo 0 + 1)
    have h2 := put_len (kdfPut c lo (kdfLook c lo 0 + 1)) (hi + 1) (kdfLook (kdfPut c lo (kdfLook c lo 0 + 1)) (hi + 1) 0 - 1)
    have := T.len
    rw [List.length_append, List.length_singleton]
    omega
theorem rising_of {l : List Int} (h : l.Pairwise (· ≤ ·)) (n : l.Nodup) : Rising l := by
  induction l with
  | nil => trivial
  | cons a r ih =>
    cases r with
    | nil => trivial
    | cons b r =>
      have h' := List.pairwise_cons.mp h
      have n' := List.nodup_cons.mp n
      refine ⟨?_, ih h'.2 n'.2⟩
      have h1 := h'.1 b (by simp)
      have h2 : a ≠ b := fun e => n'.1 (by rw [e]; simp)
      (clear h' n'; omega)
structure Pts (S : List St) (pts : List Int) : Prop where
  rising : Rising pts
  mem : ∀ x, x ∈ pts ↔ x ∈ edges S
theorem Tab.pts {S : List St} {c : List (Int × Int)} (T : Tab S c) {pts : List Int} (p : pts.Perm (c.map (·.1))) (o : pts.Pairwise (· ≤ ·)) : Pts S pts :=
  ⟨rising_of o (p.nodup_iff.mpr T.nodup), fun x => (p.mem_iff).trans (T.keys x)⟩
noncomputable def swept (S : List St) (pts : List Int) (k : Nat) : Int := ((pts.take k).map (chg S)).sum
theorem swept_next {S : List St} {pts : List Int} {k : Nat} (h : k < pts.length) : swept S pts (k + 1) = swept S pts k + chg S pts[k] := by
  unfold swept
  rw [List.take_succ_eq_append_getElem h, List.map_append, List.sum_append_int]
  simp
theorem swept_cnt {S : List St} (hS : ∀ s ∈ S, s.1 ≤ s.2) {pts : List Int} (P : Pts S pts) {k : Nat} (h : k < pts.length) : swept S pts (k + 1) = cnt S pts[k] := by
  have hw : pts = pts.take k ++ pts[k] :: pts.drop (k + 1) := by rw [← List.drop_eq_getElem_cons h, List.take_append_drop]
  have := upTo_chg S hS pts[k] pts P.rising (fun e he => (P.mem e).mpr he)
  rw [← this, swept_next h]
  have e2 := upTo_split (chg S) (pts.take k) pts[k] (pts.drop (k + 1)) (by rw [← hw]; exact P.rising)
  rw [← hw] at e2
  rw [e2]
  rfl
theorem runs_len (S : List St) : ∀ pts : List Int, (runsOf S pts).length = pts.length - 1
  | [] => rfl
  | [_] => rfl
  | p :: q :: r => by
    have := runs_len S (q :: r)
    simp only [runsOf, List.length_cons] at this ⊢
    omega
theorem runs_at (S : List St) : ∀ (pts : List Int) (k : Nat) (h : k + 1 < pts.length), (runsOf S pts)[k]? = some (pts[k], pts[k + 1] - 1, cnt S pts[k])
  | [], k, h => by simp at h
  | [_], k, h => by simp at h
  | p :: q :: r, 0, h => by simp [runsOf]
  | p :: q :: r, k + 1, h => by
    have := runs_at S (q :: r) k (by simpa using h)
    simp only [runsOf, List.getElem?_cons_succ, this]
    rfl
theorem runs_take {S : List St} {pts : List Int} {k : Nat} (h : k + 1 < pts.length) : (runsOf S pts).take (k + 1) = (runsOf S pts).take k ++ [(pts[k], pts[k + 1] - 1, cnt S pts[k])] := by
  rw [List.take_add_one, runs_at S pts k h]
  rfl
theorem getD_at {pts : List Int} {k : Nat} (h : k < pts.length) : pts.getD k 0 = pts[k] := by simp [h]
theorem swept_more {S : List St} {c : List (Int × Int)} (T : Tab S c) {pts : List Int} {k : Nat} (h : k < pts.length) {x : Int} (hx : x = swept S pts k) : x + kdfLook c (pts.getD k 0) 0 = swept S pts (k + 1) := by
  rw [T.look, getD_at h, swept_next h, hx]
theorem has_point {S : List St} {c : List (Int × Int)} (T : Tab S c) {pts : List Int} (P : Pts S pts) {k : Nat} (h : k < pts.length) : kdfHas c (pts.getD k 0) = true := by
  rw [has_iff, T.keys, ← P.mem, getD_at h]
  exact List.getElem_mem h
theorem runs_more {S : List St} (hS : ∀ s ∈ S, s.1 ≤ s.2) {pts : List Int} (P : Pts S pts) {k : Nat} (h : k + 1 < pts.length) {x : Int} (hx : x = swept S pts (k + 1)) :
    (runsOf S pts).take (k + 1) = (runsOf S pts).take k ++ [(pts.getD k 0, pts.getD (k + 1) 0 - 1, x)] := by
  rw [runs_take h, getD_at h, getD_at (by (clear hx; omega)), hx, swept_cnt hS P (by (clear hx; omega))]
theorem runs_all {S : List St} {pts : List Int} : (runsOf S pts).take (pts.length - 1) = runsOf S pts := by
  rw [← runs_len S pts]; exact List.take_length
end Mine
namespace Mine
theorem rising_ext : ∀ {a b : List Int}, Rising a → Rising b → (∀ x, x ∈ a ↔ x ∈ b) → a = b
  | [], [], _, _, _ => rfl
  | [], y :: b, _, _, h => absurd ((h y).mpr List.mem_cons_self) (by simp)
  | x :: a, [], _, _, h => absurd ((h x).mp List.mem_cons_self) (by simp)
  | x :: a, y :: b, ha, hb, h => by
    have la := Rising.lt ha
    have lb := Rising.lt hb
    have hxy : x = y := by
      have h1 := (h x).mp List.mem_cons_self
      have h2 := (h y).mpr List.mem_cons_self
      rcases List.mem_cons.mp h1 with e | e
      · exact e
      · rcases List.mem_cons.mp h2 with f | f
        · exact f.symm
        · have := la y f; have := lb x e; omega
    subst hxy
    have ht : ∀ z, z ∈ a ↔ z ∈ b := fun z => by
      constructor
      · intro hz
        have := (h z).mp (List.mem_cons_of_mem _ hz)
        rcases List.mem_cons.mp this with e | e
        · have := la z hz; omega
        · exact e
      · intro hz
        have := (h z).mpr (List.mem_cons_of_mem _ hz)
        rcases List.mem_cons.mp this with e | e
        · have := lb z hz; omega
        · exact e
    rw [rising_ext (Rising.tail ha) (Rising.tail hb) ht]
theorem Pts.unique {S : List St} {p q : List Int} (hp : Pts S p) (hq : Pts S q) : p = q := rising_ext hp.rising hq.rising fun x => (hp.mem x).trans (hq.mem x).symm
structure PartOk (S : List St) (need : Int) (P : List St) : Prop where
  apart : Apart P
  held : ∀ x, Held P x ↔ need ≤ cnt S x
theorem partOk_of {S : List St} {need : Int} (hn : 1 ≤ need) {pts : List Int} (h : Pts S pts) : PartOk S need ((runsOf S pts).foldl (partStep need) []) :=
  let r := part_spec S need hn pts h.rising h.mem
  ⟨r.1, r.2⟩
theorem PartOk.le {S : List St} {need : Int} {P : List St} (h : PartOk S need P) {s : St} (hs : s ∈ P) : s.1 ≤ s.2 := apart_le h.apart s hs
theorem PartOk.ends {S : List St} {need : Int} {P : List St} (h : PartOk S need P) {s : St} (hs : s ∈ P) : cnt S (s.1 - 1) < need ∧ cnt S (s.2 + 1) < need := part_ends h.apart h.held hs
theorem apart_mid {P Q : List St} {s t : St} (h : Apart (P ++ s :: Q)) (ht : t ∈ Q) : s.2 + 1 < t.1 := by
  induction P with
  | nil => exact h.2.1 t ht
  | cons p P ih => exact ih h.2.2
theorem PartOk.next {S : List St} {need : Int} {P A B : List St} {s t : St} (h : PartOk S need P) (e : P = A ++ [s] ++ t :: B) : s.2 + 1 < t.1 := by
  have := h.apart
  rw [e, List.append_assoc] at this
  exact apart_mid this (by simp)
end Mine
namespace Mine
open PySem PySem.W PyProof.Rows PyProof.Rows.LCg
theorem texts_one {h₀ h : Heap} {L D : Addr} {n k : Nat} {ad cells : List (Addr × Obj)} (ht : TextsAt ad D n k) (hn : ∀ p ∈ ad, ∀ q ∈ cells, q.1 ≠ p.1) (N : News h₀ L h (ad ++ cells)) :
    ∃ ys xs, News h₀ L h ((D, lst ys) :: cells) ∧ (∀ q ∈ cells, @Ne Nat q.1 D) ∧ StrsAre ys xs ∧ xs.length = k ∧ ∀ x ∈ xs, x.length ≤ n ∧ PyData.strOk x = true := by
  obtain ⟨ys, xs, hm, hs, hl, hx⟩ := ht
  refine ⟨ys, xs, fun p hp => ?_, fun q hq => hn _ hm q hq, hs, hl, hx⟩
  rcases List.mem_cons.mp hp with rfl | hp
  · exact N _ (List.mem_append.mpr (.inl hm))
  · exact N p (List.mem_append.mpr (.inr hp))
end Mine
namespace Mine
open PySem PySem.W PyProof.Rows PyProof.Rows.LCg
end Mine
namespace Mine
open PySem PySem.W PyProof.Rows PySem.Spec PySem.Calls
section
variable {prog : Program} {w : World} {A : Around} {E : Value → Shared → Prop} {s : Shared} {env : Env} {h₀ : Heap} {target : Expr} {body : List Stmt} {Q : Flow → Shared → Prop}
noncomputable def StillH {σ : Type} (ps : σ → List (Str × Value)) (stored : List Str) (m₀ : Str → Option Value) (d : Addr) (news : List (Addr × Obj)) (P : σ → Obj → Prop) (m : Str → Option Value) (nw : List (Addr × Obj)) : Prop :=
  ∃ o, nw = (d, o) :: news ∧ ∃ c, (∀ p ∈ ps c, m p.1 = some p.2) ∧ (∀ z, (∀ p ∈ ps c, z ≠ p.1) → stored.contains z = false → m z = m₀ z) ∧ P c o
theorem LoopTurn.stillH {σ : Type} {ps : σ → List (Str × Value)} {stored : List Str} {m₀ : Str → Option Value} {L I d : Addr} {o od : Obj} {news : List (Addr × Obj)} {P : σ → Obj → Prop} {s₁ : Shared} {h' : Heap} {tk : Nat} {m' : Str → Option Value} {all : List (Addr × Obj)} (c : σ)
    (F : Fr h₀ L h' m') (N : News h₀ L h' all) (hI : (I, o) ∈ all) (hd : (d, od) ∈ all) (sub : ∀ p ∈ news, p ∈ all) (off : ∀ p ∈ (d, od) :: news, p.1 ≠ I) (hk : ∀ p ∈ ps c, m' p.1 = some p.2) (hr : ∀ z, (∀ p ∈ ps c, z ≠ p.1) → stored.contains z = false → m' z = m₀ z) (hv : P c od) :
    LoopTurn h₀ L s₁ I o (StillH ps stored m₀ d news P) Q .next { s₁ with heap := h', toks := tk } :=
  ⟨h', tk, m', (d, od) :: news, rfl, F, fun p hp => by
    rcases List.mem_append.mp hp with hp | hp
    · rw [List.mem_singleton.mp hp]; exact N _ hI
    · rcases List.mem_cons.mp hp with rfl | hp
      · exact N _ hd
      · exact N p (sub p hp), fun p hp q hq => by rw [List.mem_singleton.mp hq]; exact off p hp, od, rfl, c, hk, hr, hv⟩
theorem loop_listH {σ : Type} {ax d : Addr} {lo o₀ : Obj} {vs : List Value} {ds : List Dat} {n : Nat} {m₀ : Str → Option Value} {news : List (Addr × Obj)} (ps : σ → List (Str × Value)) (stored : List Str) (P : List Dat → σ → Obj → Prop) (c₀ : σ) (hi : DatAll news vs ds)
    (hh : A.handled = none) (F : Fr h₀ env.locals s.heap m₀) (N : News h₀ env.locals s.heap ((d, o₀) :: news)) (hm : (ax, lo) ∈ news) (hc : lo.cls = .type "list") (hd : lo.data = .seq vs.toArray n)
    (hk : ∀ p ∈ ps c₀, m₀ p.1 = some p.2) (h0 : P [] c₀ o₀)
    (turn : ∀ pre dd post v c od (u : Str → Option Value) I o h tk, ds = pre ++ dd :: post → dd ∈ ds → DatIn news v dd → P pre c od → (∀ p ∈ (d, od) :: news, p.1 ≠ I) → o.cls = .type "list_iterator" → Fr h₀ env.locals h (kstB (fun z => if stored.contains z then u z else m₀ z) (ps c)) → News h₀ env.locals h ((I, o) :: (d, od) :: news) →
      wpAny (model prog w) A (assign target env v) (fun _ s₂ => wpAny (model prog w) A (execs body env) (LoopTurn h₀ env.locals { s with heap := h, toks := tk } I o (StillH ps stored m₀ d news (P (pre ++ [dd]))) Q) E s₂) E { s with heap := h, toks := tk })
    (done : ∀ c od (u : Str → Option Value) h tk, P ds c od → Fr h₀ env.locals h (kstB (fun z => if stored.contains z then u z else m₀ z) (ps c)) → News h₀ env.locals h ((d, od) :: news) → Q .next { s with heap := h, toks := tk }) :
    wpAny (model prog w) A (pyIter (.ref ax)) (fun it s₂ => TurnsAt prog w A h₀ env target body Q E it s₂) E s := by
  have hl := hi.length
  refine loop_list ps stored (fun i c nw => ∃ od, nw = (d, od) :: news ∧ P (ds.take i) c od) c₀ hh F N (.tail _ hm) hc hd hk ⟨o₀, rfl, by simpa using h0⟩ ?_ ?_
  · rintro i v c nw u I o h tk hv ⟨od, rfl, hp⟩ hax hne ho F' N'
    have hlt : i < ds.length := by
      rw [← hl]
      exact (List.getElem?_eq_some_iff.mp hv).1
    obtain ⟨v', hv', hD⟩ := hi.get hlt
    rw [hv] at hv'
    cases hv'
    have hs : ds.take (i + 1) = ds.take i ++ [ds[i]] := by rw [List.take_succ_eq_append_getElem hlt]
    have e : ds = ds.take i ++ ds[i] :: ds.drop (i + 1) := by
      have ht := List.take_append_drop (i + 1) ds
      rw [hs, List.append_assoc] at ht
      exact ht.symm
    rw [hs]
    refine wpAny_mono (turn _ ds[i] _ v c od u I o h tk e (List.getElem_mem hlt) hD hp hne ho F' N') (fun _ s₂ q => wpAny_mono q (fun f s₃ p => ?_) fun _ _ e => e) fun _ _ e => e
    have go : ∀ s₃, UnrEndW h₀ env.locals { s with heap := h, toks := tk } [(I, o)] (StillH ps stored m₀ d news (P (ds.take i ++ [ds[i]]))) s₃ →
        UnrEndW h₀ env.locals { s with heap := h, toks := tk } [(I, o)] (Between ps stored m₀ ax lo I (fun c nw => ∃ od, nw = (d, od) :: news ∧ P (ds.take i ++ [ds[i]]) c od)) s₃ := by
      rintro s₃ ⟨h', tk', m', nw', e, F₃, N₃, off, od', rfl, c', h1, h2, hv'⟩
      exact ⟨h', tk', m', _, e, F₃, N₃, off, .tail _ hm, fun p hp => off p hp _ (.head _), c', h1, h2, od', rfl, hv'⟩
    cases f with
    | ret v => exact p
    | brk => exact p
    | next => exact go _ p
    | cont => exact go _ p
  · rintro c nw u h tk ⟨od, rfl, hp⟩ hax F' N'
    rw [hl, List.take_length] at hp
    exact done c od u h tk hp F' N'
noncomputable def Grow {σ : Type} (D : Addr) (news : List (Addr × Obj)) (R : Nat → σ → List Dat → Prop) (i : Nat) (c : σ) (nw : List (Addr × Obj)) : Prop :=
  ∃ ys e add ds, nw = (D, ({ cls := .type "list", data := .seq (List.toArray ys) e } : Obj)) :: (add ++ news) ∧ DatAll add ys ds ∧ (∀ p ∈ add ++ news, p.1 ≠ D) ∧ (∀ p ∈ add, ∀ q ∈ news, q.1 ≠ p.1) ∧ R i c ds
theorem grow_nil {σ : Type} {D : Addr} {news : List (Addr × Obj)} {R : Nat → σ → List Dat → Prop} {c : σ} {e : Nat} (hn : ∀ p ∈ news, p.1 ≠ D) (h : R 0 c []) : Grow D news R 0 c ((D, ({ cls := .type "list", data := .seq #[] e } : Obj)) :: news) :=
  ⟨[], e, [], [], rfl, .nil, hn, (fun _ h => nomatch h), h⟩
theorem grow_next {σ : Type} {ps : σ → List (Str × Value)} {stored : List Str} {m₀ : Str → Option Value} {L I D : Addr} {o : Obj} {news add new all : List (Addr × Obj)} {R : Nat → σ → List Dat → Prop} {i : Nat} {s₁ : Shared} {h' : Heap} {tk : Nat} {m' : Str → Option Value} {ys : List Value} {e : Nat} {ds : List Dat} {y : Value} {dd : Dat} (c : σ)
    (F : Fr h₀ L h' m') (N : News h₀ L h' all) (hM : (D, ({ cls := .type "list", data := .seq (ys.toArray.push y) e } : Obj)) ∈ all) (hI : (I, o) ∈ all) (hA : DatAll add ys ds) (hd : DatIn new y dd) (sub : ∀ p ∈ new ++ (add ++ news), p ∈ all)
    (o1 : ∀ p ∈ add ++ news, p.1 ≠ D) (o2 : ∀ p ∈ new, p.1 ≠ D) (o3 : ∀ p ∈ add, ∀ q ∈ news, q.1 ≠ p.1) (o4 : ∀ p ∈ new, ∀ q ∈ news, q.1 ≠ p.1) (o5 : ∀ p ∈ new ++ (add ++ news), p.1 ≠ I) (o6 : D ≠ I)
    (hk : ∀ p ∈ ps c, m' p.1 = some p.2) (hr : ∀ z, (∀ p ∈ ps c, z ≠ p.1) → stored.contains z = false → m' z = m₀ z) (hv : R (i + 1) c (ds ++ [dd])) :
    LoopTurn h₀ L s₁ I o (BetweenR ps stored m₀ I (Grow D news R (i + 1))) Q .next { s₁ with heap := h', toks := tk } := by
  refine LoopTurn.nextR c ((D, ({ cls := .type "list", data := .seq (List.toArray (ys ++ [y])) e } : Obj)) :: ((new ++ add) ++ news)) F N hI (fun p hp => ?_) (fun p hp => ?_) hk hr ⟨ys ++ [y], e, new ++ add, ds ++ [dd], rfl, ?_, fun p hp => ?_, fun p hp q hq => ?_, hv⟩
  · rcases List.mem_cons.mp hp with rfl | hp
    · rw [← List.push_toArray]; exact hM
    · exact sub p (by rw [← List.append_assoc]; exact hp)
  · rcases List.mem_cons.mp hp with rfl | hp
    · exact o6
    · exact o5 p (by rw [← List.append_assoc]; exact hp)
  · exact (hA.mono fun p hp => List.mem_append.mpr (.inr hp)).append (.cons (hd.mono fun p hp => List.mem_append.mpr (.inl hp)) .nil)
  · rw [List.append_assoc] at hp
    rcases List.mem_append.mp hp with hp | hp
    · exact o2 p hp
    · exact o1 p hp
  · rcases List.mem_append.mp hp with hp | hp
    · exact o4 p hp q hq
    · exact o3 p hp q hq
end
noncomputable def stOf : Dat → Option St
  | .tuple [_, .tuple [.int lo, .int hi]] => some (lo, hi)
  | _ => none
noncomputable def sts (ds : List Dat) : List St := ds.filterMap stOf
theorem sts_append (a b : List Dat) : sts (a ++ b) = sts a ++ sts b := List.filterMap_append
noncomputable def ClockOk (d : Dat) : Prop := ∃ x s, d = .tuple [.str x, s] ∧ (x.length ≤ 24 ∧ PyData.strOk x = true) ∧ (s = .none ∨ ∃ lo hi, s = .tuple [.int lo, .int hi] ∧ lo ≤ hi ∧ -10000000000000 ≤ lo ∧ hi ≤ 10000000000000)
theorem clock_kqd {d : Dat} (h : ClockOk d) : kqdOk 8 d = true := by
  obtain ⟨x, s, rfl, hx, (rfl | ⟨lo, hi, rfl, _⟩)⟩ := h <;> simp [kqdOk, hx.2]
theorem dat_none {nw : List (Addr × Obj)} {v : Value} (h : DatIn nw v .none) : v = .none := by cases h; rfl
theorem clock_at {nw : List (Addr × Obj)} {v : Value} {d : Dat} (hd : DatIn nw v d) (h : ClockOk d) :
    (∃ a n x t, v = .ref a ∧ (a, ({ cls := .type "tuple", data := .seq #[.str x t, .none] n } : Obj)) ∈ nw ∧ stOf d = none ∧ d = .tuple [.str x, .none]) ∨
    ∃ a n x t b k lo hi t₁ t₂, v = .ref a ∧ (a, ({ cls := .type "tuple", data := .seq #[.str x t, .ref b] n } : Obj)) ∈ nw ∧ (b, ({ cls := .type "tuple", data := .seq #[.int lo t₁, .int hi t₂] k } : Obj)) ∈ nw ∧ stOf d = some (lo, hi) ∧ (lo ≤ hi ∧ -10000000000000 ≤ lo ∧ hi ≤ 10000000000000) ∧ d = .tuple [.str x, .tuple [.int lo, .int hi]] := by
  obtain ⟨x, s, rfl, hx, (rfl | ⟨lo, hi, rfl, hb⟩)⟩ := h
  · obtain ⟨a, n, t, u, rfl, hm, hu⟩ := dat_pair hd
    rw [dat_none hu] at hm
    exact .inl ⟨a, n, x, t, rfl, hm, rfl, rfl⟩
  · obtain ⟨a, n, t, u, rfl, hm, hu⟩ := dat_pair hd
    obtain ⟨b, k, t₁, t₂, rfl, hb'⟩ := dat_two hu
    exact .inr ⟨a, n, x, t, b, k, lo, hi, t₁, t₂, rfl, hm, hb', rfl, hb, rfl⟩
theorem sts_le {ds : List Dat} (h : ∀ d ∈ ds, ClockOk d) : ∀ s ∈ sts ds, s.1 ≤ s.2 := by
  intro s hs
  obtain ⟨d, hd, e⟩ := List.mem_filterMap.mp hs
  obtain ⟨x, s', rfl, hx, (rfl | ⟨lo, hi, rfl, hb⟩)⟩ := h d hd
  · cases e
  · cases e; exact hb.1
end Mine
namespace Mine
open PySem PySem.W PyProof.Rows
theorem still_int {y : Str} {stored : List Str} {m₀ : Str → Option Value} {h₀ : Heap} {L I : Addr} {o : Obj} {news : List (Addr × Obj)} {P : Int × Tok → Prop} {s₁ : Shared} {h' : Heap} {tk : Nat} {m' : Str → Option Value} {all : List (Addr × Obj)} {Q : Flow → Shared → Prop} {x : Int} {t : Tok}
    (F : Fr h₀ L h' m') (N : News h₀ L h' all) (hk : m' y = some (.int x t)) (hI : (I, o) ∈ all) (sub : ∀ p ∈ news, p ∈ all) (off : ∀ p ∈ news, p.1 ≠ I) (hr : ∀ z, z ≠ y → stored.contains z = false → m' z = m₀ z) (hv : P (x, t)) :
    LoopTurn h₀ L s₁ I o (Still (fun c : Int × Tok => [(y, Value.int c.1 c.2)]) stored m₀ news P) Q .next { s₁ with heap := h', toks := tk } :=
  LoopTurn.still (x, t) F N hI sub off (List.forall_mem_cons.mpr ⟨hk, List.forall_mem_nil _⟩) (fun z hz hc => hr z (hz _ (.head _)) hc) hv
theorem cnt_none {pre : List Dat} {d : Dat} (h : stOf d = none) (p : Int) : cnt (sts (pre ++ [d])) p = cnt (sts pre) p := by
  rw [sts_append, cnt_append]
  simp [sts, h, cnt]
theorem cnt_some {pre : List Dat} {d : Dat} {lo hi : Int} (h : stOf d = some (lo, hi)) (p : Int) : cnt (sts (pre ++ [d])) p = cnt (sts pre) p + (if lo ≤ p ∧ p ≤ hi then 1 else 0) := by
  rw [sts_append, cnt_append]
  simp [sts, h, cnt]
theorem cnt_in {pre : List Dat} {d : Dat} {lo hi p x : Int} (h : stOf d = some (lo, hi)) (h1 : lo ≤ p) (h2 : p ≤ hi) (hx : x = cnt (sts pre) p) : x + 1 = cnt (sts (pre ++ [d])) p := by rw [cnt_some h, if_pos ⟨h1, h2⟩, hx]
theorem cnt_out {pre : List Dat} {d : Dat} {lo hi p x : Int} (h : stOf d = some (lo, hi)) (h1 : ¬ (lo ≤ p ∧ p ≤ hi)) (hx : x = cnt (sts pre) p) : x = cnt (sts (pre ++ [d])) p := by rw [cnt_some h, if_neg h1, hx, Int.add_zero]
theorem cnt_not {pre : List Dat} {d : Dat} {p x : Int} (h : stOf d = none) (hx : x = cnt (sts pre) p) : x = cnt (sts (pre ++ [d])) p := by rw [cnt_none h, hx]
end Mine
namespace Mine
open PySem PySem.W PyProof.Rows
theorem range_size {b : Int} (n : Nat) (h : b = n ∨ (b ≤ 0 ∧ n = 0)) : Builtin.Range.rangeSize 0 b 1 = (n : Int) := by
  unfold Builtin.Range.rangeSize
  rw [if_pos (by decide)]
  rcases h with rfl | ⟨h, rfl⟩
  · by_cases h0 : (0 : Int) < n
    · rw [if_pos h0, Int.ediv_one]; (clear h0; omega)
    · rw [if_neg h0]; omega
  · rw [if_neg (by omega)]; rfl
noncomputable def runD (r : Int × Int × Int) : Dat := .tuple [.int r.1, .int r.2.1, .int r.2.2]
end Mine
namespace Mine
open PySem PySem.W PyProof.Rows
theorem sts_len (ds : List Dat) : (sts ds).length ≤ ds.length := List.length_filterMap_le ..
theorem tab_len {ds pre post : List Dat} {d : Dat} {c : List (Int × Int)} (T : Tab (sts pre) c) (e : ds = pre ++ d :: post) (h : ds.length ≤ 40) : c.length ≤ 80 := by
  have h1 := T.len
  have h2 := sts_len pre
  have h3 := congrArg List.length e
  rw [List.length_append, List.length_cons] at h3
  (clear e; omega)
theorem tab_len_all {ds : List Dat} {c : List (Int × Int)} (T : Tab (sts ds) c) (h : ds.length ≤ 40) : c.length ≤ 80 := by
  have h1 := T.len
  have h2 := sts_len ds
  omega
theorem tab_more {pre : List Dat} {d : Dat} {lo hi : Int} {c : List (Int × Int)} (T : Tab (sts pre) c) (h : stOf d = some (lo, hi)) :
    Tab (sts (pre ++ [d])) (kdfPut (kdfPut c lo (kdfLook c lo 0 + 1)) (hi + 1) (kdfLook (kdfPut c lo (kdfLook c lo 0 + 1)) (hi + 1) 0 - 1)) := by
  have e : sts (pre ++ [d]) = sts pre ++ [(lo, hi)] := by rw [sts_append]; simp [sts, h]
  rw [e]
  exact tab_add T lo hi
theorem tab_same {pre : List Dat} {d : Dat} {c : List (Int × Int)} (T : Tab (sts pre) c) (h : stOf d = none) : Tab (sts (pre ++ [d])) c := by
  have e : sts (pre ++ [d]) = sts pre := by rw [sts_append]; simp [sts, h]
  rw [e]
  exact T
end Mine
namespace Mine
open PySem PySem.W PyProof.Rows PySem.Spec PySem.Calls
section
variable {prog : Program} {w : World} {A : Around} {E : Value → Shared → Prop} {s : Shared} {env : Env} {h₀ : Heap} {x : Str} {px : Pos} {body : List Stmt} {Q : Flow → Shared → Prop}
theorem loop_rangeG {σ : Type} {r D : Addr} {a b : Int} {t u v : Tok} {n e₀ : Nat} {m₀ : Str → Option Value} {news : List (Addr × Obj)} (ps : σ → List (Str × Value)) (stored : List Str) (R : Nat → σ → List Dat → Prop) (c₀ : σ)
    (hh : A.handled = none) (F : Fr h₀ env.locals s.heap m₀) (N : News h₀ env.locals s.heap ((D, ({ cls := .type "list", data := .seq #[] e₀ } : Obj)) :: news)) (hr : IsRange s.heap r a b 1 t u v) (hsm : Builtin.Range.small a b 1 = true) (hn : Builtin.Range.rangeSize a b 1 = ((n : Nat) : Int))
    (hk : ∀ p ∈ ps c₀, m₀ p.1 = some p.2) (hne : ∀ p ∈ news, p.1 ≠ D) (h0 : R 0 c₀ [])
    (turn : ∀ (i : Nat) t c ys e add ds (u : Str → Option Value) I o h tk, i < n → R i c ds → DatAll add ys ds → (∀ p ∈ add ++ news, p.1 ≠ D) → (∀ p ∈ add, ∀ q ∈ news, q.1 ≠ p.1) → (∀ p ∈ (D, ({ cls := .type "list", data := .seq (List.toArray ys) e } : Obj)) :: (add ++ news), p.1 ≠ I) → o.cls = .type "range_iterator" →
      Fr h₀ env.locals h (kstB (fun z => if stored.contains z then u z else m₀ z) (ps c)) → News h₀ env.locals h ((I, o) :: (D, ({ cls := .type "list", data := .seq (List.toArray ys) e } : Obj)) :: (add ++ news)) →
      wpAny (model prog w) A (assign (.Name x px) env (.int (a + (i : Int)) t)) (fun _ s₂ => wpAny (model prog w) A (execs body env) (LoopTurn h₀ env.locals { s with heap := h, toks := tk } I o (BetweenR ps stored m₀ I (Grow D news R (i + 1))) Q) E s₂) E { s with heap := h, toks := tk })
    (done : ∀ c ys e add ds (u : Str → Option Value) h tk, R n c ds → DatAll add ys ds → (∀ p ∈ add ++ news, p.1 ≠ D) → (∀ p ∈ add, ∀ q ∈ news, q.1 ≠ p.1) → Fr h₀ env.locals h (kstB (fun z => if stored.contains z then u z else m₀ z) (ps c)) → News h₀ env.locals h ((D, ({ cls := .type "list", data := .seq (List.toArray ys) e } : Obj)) :: (add ++ news)) → Q .next { s with heap := h, toks := tk }) :
    wpAny (model prog w) A (pyIter (.ref r)) (fun it s₂ => TurnsAt prog w A h₀ env (.Name x px) body Q E it s₂) E s := by
  refine loop_range ps stored (Grow D news R) c₀ hh F N hr hsm hn hk (grow_nil hne h0) ?_ ?_
  · rintro i t c nw u I o h tk hi ⟨ys, e, add, ds, rfl, a1, a2, a3, a4⟩ hI ho F' N'
    exact turn i t c ys e add ds u I o h tk hi a4 a1 a2 a3 hI ho F' N'
  · rintro c nw u h tk ⟨ys, e, add, ds, rfl, a1, a2, a3, a4⟩ F' N'
    exact done c ys e add ds u h tk a4 a1 a2 a3 F' N'
theorem grow_int {y : Str} {stored : List Str} {m₀ : Str → Option Value} {L I D T : Addr} {o oT : Obj} {news add : List (Addr × Obj)} {R : Nat → Int × Tok → List Dat → Prop} {i : Nat} {s₁ : Shared} {h' : Heap} {tk : Nat} {m' : Str → Option Value} {ys : List Value} {e : Nat} {ds : List Dat} {dd : Dat} {z : Int} {tz : Tok}
    (F : Fr h₀ L h' m') (N : News h₀ L h' ((T, oT) :: (I, o) :: (D, ({ cls := .type "list", data := .seq (ys.toArray.push (.ref T)) e } : Obj)) :: (add ++ news))) (hk : m' y = some (.int z tz)) (hd : DatIn [(T, oT)] (.ref T) dd) (hA : DatAll add ys ds)
    (o1 : ∀ p ∈ add ++ news, p.1 ≠ D) (o3 : ∀ p ∈ add, ∀ q ∈ news, q.1 ≠ p.1) (o5 : ∀ p ∈ (D, ({ cls := .type "list", data := .seq (List.toArray ys) 0 } : Obj)) :: (add ++ news), p.1 ≠ I) (oT : AllLt T ((I, o) :: (D, o) :: (add ++ news)))
    (hr : ∀ z, z ≠ y → stored.contains z = false → m' z = m₀ z) (hv : R (i + 1) (z, tz) (ds ++ [dd])) :
    LoopTurn h₀ L s₁ I o (BetweenR (fun c : Int × Tok => [(y, Value.int c.1 c.2)]) stored m₀ I (Grow D news R (i + 1))) Q .next { s₁ with heap := h', toks := tk } := by
  have lt := allLt_mem oT
  refine grow_next (z, tz) F N (.tail _ (.tail _ (.head _))) (.tail _ (.head _)) hA hd (fun p hp => ?_) o1 (fun p hp => ?_) o3 (fun p hp q hq => ?_) (fun p hp => ?_) (o5 _ (.head _)) (List.forall_mem_cons.mpr ⟨hk, List.forall_mem_nil _⟩) (fun z hz hc => hr z (hz _ (.head _)) hc) hv
  · rcases List.mem_append.mp hp with hp | hp
    · rw [List.mem_singleton.mp hp]; exact .head _
    · exact .tail _ (.tail _ (.tail _ hp))
  · rw [List.mem_singleton.mp hp]; exact Ne.symm (Nat.ne_of_lt (lt _ (.tail _ (.head _))))
  · rw [List.mem_singleton.mp hp]; exact Nat.ne_of_lt (lt q (.tail _ (.tail _ (List.mem_append.mpr (.inr hq)))))
  · rcases List.mem_append.mp hp with hp | hp
    · rw [List.mem_singleton.mp hp]; exact Ne.symm (Nat.ne_of_lt (lt _ (.head _)))
    · exact o5 p (.tail _ hp)
end
section
variable {prog : Program} {w : World} {A : Around} {E : Value → Shared → Prop} {s : Shared} {h₀ : Heap}
theorem item_ints {value slice : PySem.Expr} {L l : Addr} {news : List (Addr × Obj)} {ys : List Value} {ns : List Int} {e : Nat} {k : Int} {u : Tok} {Q : Value → Shared → Prop} (j : Nat) (N : News h₀ L s.heap news) (hm : (l, ({ cls := .type "list", data := .seq ys.toArray e } : Obj)) ∈ news) (hs : IntsAre ys ns)
    (hk : k = (j : Int)) (hj : j < ns.length) (hfit : (j : Int) < 2 ^ 63) (h : ∀ t, Q (.int (ns.getD j 0) t) s)
    (hs' : subscripted slice false (.ref l) (.int k u) = operate [.ref l, .int k u] (getItem (.ref l) (.int k u)) := by with_unfolding_all rfl) :
    wpAny (model prog w) A (subscriptTail value slice (.ref l) (.int k u)) Q E s := by
  have hl : s.heap.IsList l ys.toArray := ⟨_, (N _ hm).1, rfl, e, rfl⟩
  subst hk
  obtain ⟨t, hx⟩ := hs.get j ns[j] (List.getElem?_eq_getElem hj)
  refine tail_any hl.typeIs slot_list_getitem.lookup (wpAny_getItem_list hl (by (clear hs' hx; omega)) hfit (by simpa using hx) ?_) hs'
  have := h t
  rw [getD_at hj] at this
  exact this
end
end Mine
namespace Mine
open PySem PySem.W PyProof.Rows
theorem led_mid {h₀ h : Heap} {L : Addr} {x y p q : Addr × Obj} {add news : List (Addr × Obj)} (_ : News h₀ L h (x :: y :: (add ++ p :: q :: news))) : p ∈ add ++ p :: q :: news ∧ q ∈ add ++ p :: q :: news :=
  ⟨List.mem_append.mpr (.inr (.head _)), List.mem_append.mpr (.inr (.tail _ (.head _)))⟩
end Mine
namespace Mine
open PySem PySem.W PyProof.Rows
theorem ret_sub2 {α : Type} {x a b : α} {add news : List α} : ∀ p ∈ (x :: add) ++ news, p ∈ x :: (add ++ a :: b :: news) := fun p hp => by
  rcases List.mem_cons.mp hp with rfl | hp
  · exact .head _
  · rcases List.mem_append.mp hp with hp | hp
    · exact .tail _ (List.mem_append.mpr (.inl hp))
    · exact .tail _ (List.mem_append.mpr (.inr (.tail _ (.tail _ hp))))
end Mine
namespace Mine
open PySem PySem.W PyProof.Rows
theorem list_up {h₀ g : Heap} {L S : Addr} {m : Str → Option Value} {xs : Array Value} (F : Fr h₀ L g m) (h : h₀.IsList S xs) : g.IsList S xs := by
  obtain ⟨o, e, c, n, d⟩ := h
  exact ⟨o, F.keep _ _ e, c, n, d⟩
end Mine
namespace Mine
open PySem PySem.W PyProof.Rows
theorem getD_out {ns : List Int} {k : Nat} (h : ns.length ≤ k) : ns.getD k 0 = 0 := by simp [List.getD, List.getElem?_eq_none h]
theorem int_out {ns : List Int} {k : Nat} {t : Tok} (h : ns.length ≤ k) : ∃ u, Value.int 0 t = Value.int (ns.getD k 0) u := ⟨t, by rw [getD_out h]⟩
end Mine
namespace Mine
open PySem PySem.W PyProof.Rows
section
variable {h₀ : Heap} {Q : Flow → Shared → Prop} {stored : List Str} {m₀ : Str → Option Value} {L I D T U : Addr} {o oT oU : Obj} {news add rest : List (Addr × Obj)} {R : Nat → Unit → List Dat → Prop} {i : Nat} {s₁ : Shared} {h' : Heap} {tk : Nat} {m' : Str → Option Value} {ys : List Value} {e : Nat} {ds : List Dat} {dd : Dat}
theorem grow_u1 (F : Fr h₀ L h' m') (N : News h₀ L h' ((T, oT) :: rest)) (hM : (D, ({ cls := .type "list", data := .seq (ys.toArray.push (.ref T)) e } : Obj)) ∈ rest) (hI : (I, o) ∈ rest) (hd : DatIn [(T, oT)] (.ref T) dd) (hA : DatAll add ys ds) (sub : ∀ p ∈ add ++ news, p ∈ rest)
    (o1 : ∀ p ∈ add ++ news, p.1 ≠ D) (o3 : ∀ p ∈ add, ∀ q ∈ news, q.1 ≠ p.1) (o5 : ∀ p ∈ (D, ({ cls := .type "list", data := .seq (List.toArray ys) 0 } : Obj)) :: (add ++ news), p.1 ≠ I) (lt : AllLt T rest)
    (hr : ∀ z, stored.contains z = false → m' z = m₀ z) (hv : R (i + 1) () (ds ++ [dd])) :
    LoopTurn h₀ L s₁ I o (BetweenR (fun _ : Unit => []) stored m₀ I (Grow D news R (i + 1))) Q .next { s₁ with heap := h', toks := tk } := by
  have lt := allLt_mem lt
  refine grow_next (new := [(T, oT)]) () F N (.tail _ hM) (.tail _ hI) hA hd (fun p hp => ?_) o1 (fun p hp => ?_) o3 (fun p hp q hq => ?_) (fun p hp => ?_) (o5 _ (.head _)) (List.forall_mem_nil _) (fun z _ hc => hr z hc) hv
  · rcases List.mem_append.mp hp with hp | hp
    · rw [List.mem_singleton.mp hp]; exact .head _
    · exact .tail _ (sub p hp)
  · rw [List.mem_singleton.mp hp]; exact Ne.symm (Nat.ne_of_lt (lt _ hM))
  · rw [List.mem_singleton.mp hp]; exact Nat.ne_of_lt (lt q (sub q (List.mem_append.mpr (.inr hq))))
  · rcases List.mem_append.mp hp with hp | hp
    · rw [List.mem_singleton.mp hp]; exact Ne.symm (Nat.ne_of_lt (lt _ hI))
    · exact o5 p (.tail _ hp)
theorem grow_u2 (F : Fr h₀ L h' m') (N : News h₀ L h' ((T, oT) :: (U, oU) :: rest)) (hM : (D, ({ cls := .type "list", data := .seq (ys.toArray.push (.ref T)) e } : Obj)) ∈ rest) (hI : (I, o) ∈ rest) (hd : DatIn [(T, oT), (U, oU)] (.ref T) dd) (hA : DatAll add ys ds) (sub : ∀ p ∈ add ++ news, p ∈ rest)
    (o1 : ∀ p ∈ add ++ news, p.1 ≠ D) (o3 : ∀ p ∈ add, ∀ q ∈ news, q.1 ≠ p.1) (o5 : ∀ p ∈ (D, ({ cls := .type "list", data := .seq (List.toArray ys) 0 } : Obj)) :: (add ++ news), p.1 ≠ I) (lt : AllLt T ((U, oU) :: rest)) (lu : AllLt U rest)
    (hr : ∀ z, stored.contains z = false → m' z = m₀ z) (hv : R (i + 1) () (ds ++ [dd])) :
    LoopTurn h₀ L s₁ I o (BetweenR (fun _ : Unit => []) stored m₀ I (Grow D news R (i + 1))) Q .next { s₁ with heap := h', toks := tk } := by
  have lt := allLt_mem lt
  have lu := allLt_mem lu
  have two : ∀ p ∈ [(T, oT), (U, oU)], ∀ q ∈ rest, q.1 ≠ p.1 := fun p hp q hq => by
    rcases List.mem_cons.mp hp with rfl | hp
    · exact Nat.ne_of_lt (lt q (.tail _ hq))
    · rw [List.mem_singleton.mp hp]; exact Nat.ne_of_lt (lu q hq)
  refine grow_next (new := [(T, oT), (U, oU)]) () F N (.tail _ (.tail _ hM)) (.tail _ (.tail _ hI)) hA hd (fun p hp => ?_) o1 (fun p hp => ?_) o3 (fun p hp q hq => ?_) (fun p hp => ?_) (o5 _ (.head _)) (List.forall_mem_nil _) (fun z _ hc => hr z hc) hv
  · rcases List.mem_append.mp hp with hp | hp
    · rcases List.mem_cons.mp hp with rfl | hp
      · exact .head _
      · rw [List.mem_singleton.mp hp]; exact .tail _ (.head _)
    · exact .tail _ (.tail _ (sub p hp))
  · exact Ne.symm (two p hp _ hM)
  · exact two p hp q (sub q (List.mem_append.mpr (.inr hq)))
  · rcases List.mem_append.mp hp with hp | hp
    · exact Ne.symm (two p hp _ hI)
    · exact o5 p (.tail _ hp)
end
section
variable {prog : Program} {w : World} {A : Around} {E : Value → Shared → Prop} {s : Shared}
theorem item_base {value slice : PySem.Expr} {g : Heap} {L l : Addr} {m : Str → Option Value} {ys : List Value} {ns : List Int} {k : Int} {u : Tok} {Q : Value → Shared → Prop} (j : Nat) (F : Fr g L s.heap m) (hl : g.IsList l ys.toArray) (hs : IntsAre ys ns)
    (hk : k = (j : Int)) (hj : j < ns.length) (hfit : (j : Int) < 2 ^ 63) (h : ∀ t, Q (.int (ns.getD j 0) t) s)
    (hs' : subscripted slice false (.ref l) (.int k u) = operate [.ref l, .int k u] (getItem (.ref l) (.int k u)) := by with_unfolding_all rfl) :
    wpAny (model prog w) A (subscriptTail value slice (.ref l) (.int k u)) Q E s := by
  have hl := list_up F hl
  subst hk
  obtain ⟨t, hx⟩ := hs.get j ns[j] (List.getElem?_eq_getElem hj)
  refine tail_any hl.typeIs slot_list_getitem.lookup (wpAny_getItem_list hl (by (clear hs' hx; omega)) hfit (by simpa using hx) ?_) hs'
  have := h t
  rw [getD_at hj] at this
  exact this
end
end Mine
namespace Mine
open PySem PySem.W PyProof.Rows
theorem item_of {prog : Program} {w : World} {A : Around} {E : Value → Shared → Prop} {s : Shared} {value slice : PySem.Expr} {l : Addr} {vs : List Value} {ns : List Int} {k : Int} {u : Tok} {Q : Value → Shared → Prop} (P : Int → Prop) (hl : s.heap.IsList l vs.toArray) (hi' : IntsAre vs ns) (hb : ∀ n ∈ ns, P n)
    (h0 : 0 ≤ k ∧ k < (ns.length : Int)) (hfit : k < 2 ^ 63) (h : ∀ t x, P x → Q (.int x t) s)
    (hs : subscripted slice false (.ref l) (.int k u) = operate [.ref l, .int k u] (getItem (.ref l) (.int k u)) := by with_unfolding_all rfl) :
    wpAny (model prog w) A (subscriptTail value slice (.ref l) (.int k u)) Q E s := by
  have hlt : k.toNat < ns.length := by (clear hs; omega)
  obtain ⟨t, hx⟩ := hi'.get k.toNat ns[k.toNat] (List.getElem?_eq_getElem hlt)
  exact tail_any hl.typeIs slot_list_getitem.lookup (wpAny_getItem_list hl h0.1 hfit (by simpa using hx) (h t _ (hb _ (List.getElem_mem hlt)))) hs
theorem clock_none {x : Str} {T : Addr} {n : Nat} {t : Tok} : DatIn [(T, ({ cls := .type "tuple", data := .seq #[.str x t, .none] n } : Obj))] (.ref T) (.tuple [.str x, .none]) :=
  .tuple (vs := [.str x t, .none]) (.head _) (.cons (.str _ _) (.cons .none .nil))
theorem clock_some {x : Str} {T U : Addr} {n k : Nat} {t t₁ t₂ : Tok} {lo hi : Int} : DatIn [(T, ({ cls := .type "tuple", data := .seq #[.str x t, .ref U] n } : Obj)), (U, ({ cls := .type "tuple", data := .seq #[.int lo t₁, .int hi t₂] k } : Obj))] (.ref T) (.tuple [.str x, .tuple [.int lo, .int hi]]) :=
  .tuple (vs := [.str x t, .ref U]) (.head _) (.cons (.str _ _) (.cons (.tuple (vs := [.int lo t₁, .int hi t₂]) (.tail _ (.head _)) (.cons (.int _ _) (.cons (.int _ _) .nil))) .nil))
theorem all_snoc {α : Type} {P : α → Prop} {l : List α} {x : α} (h : ∀ d ∈ l, P d) (hx : P x) : ∀ d ∈ l ++ [x], P d := fun d hd => by
  rcases List.mem_append.mp hd with hd | hd
  · exact h d hd
  · rw [List.mem_singleton.mp hd]; exact hx
end Mine
namespace Mine
theorem clk_n (L : Nat) : (if (if (L : Int) - 3 > 0 then (L : Int) - 3 else 0) < 40 then (if (L : Int) - 3 > 0 then (L : Int) - 3 else 0) else 40) = ((min 40 (L - 3) : Nat) : Int) := by
  by_cases h : (L : Int) - 3 > 0
  · rw [if_pos h]
    by_cases h2 : (L : Int) - 3 < 40
    · rw [if_pos h2]; omega
    · rw [if_neg h2]; (clear h; omega)
  · rw [if_neg h, if_pos (by decide)]; omega
end Mine
namespace Mine
theorem pm_bd {x r w : Int} (h : x = 1 ∨ x = -1) (h0 : 0 ≤ r) (h1 : r < w) : -w < r * x ∧ r * x < w := by
  rcases h with rfl | rfl
  · omega
  · omega
end Mine
namespace Mine
open PySem PySem.W PyProof.Rows PySem.Spec PySem.Calls
section
variable {prog : Program} {w : World} {A : Around} {E : Value → Shared → Prop} {s : Shared} {env : Env} {h₀ : Heap} {target : Expr} {body : List Stmt} {Q : Flow → Shared → Prop}
theorem loop_listG {σ : Type} {ax D : Addr} {lo : Obj} {vs : List Value} {src : List Dat} {n e₀ : Nat} {m₀ : Str → Option Value} {news : List (Addr × Obj)} (ps : σ → List (Str × Value)) (stored : List Str) (R : List Dat → σ → List Dat → Prop) (c₀ : σ) (hi : DatAll news vs src)
    (hh : A.handled = none) (F : Fr h₀ env.locals s.heap m₀) (N : News h₀ env.locals s.heap ((D, ({ cls := .type "list", data := .seq #[] e₀ } : Obj)) :: news)) (hm : (ax, lo) ∈ news) (hc : lo.cls = .type "list") (hd : lo.data = .seq vs.toArray n)
    (hk : ∀ p ∈ ps c₀, m₀ p.1 = some p.2) (hne : ∀ p ∈ news, p.1 ≠ D) (h0 : R [] c₀ [])
    (turn : ∀ (i : Nat) pre dd post v c ys e add ds (u : Str → Option Value) I o h tk, src = pre ++ dd :: post → dd ∈ src → src.take (i + 1) = pre ++ [dd] → DatIn news v dd → R pre c ds → DatAll add ys ds → (∀ p ∈ add ++ news, p.1 ≠ D) → (∀ p ∈ add, ∀ q ∈ news, q.1 ≠ p.1) → (∀ p ∈ (D, ({ cls := .type "list", data := .seq (List.toArray ys) e } : Obj)) :: (add ++ news), p.1 ≠ I) → o.cls = .type "list_iterator" →
      Fr h₀ env.locals h (kstB (fun z => if stored.contains z then u z else m₀ z) (ps c)) → News h₀ env.locals h ((I, o) :: (D, ({ cls := .type "list", data := .seq (List.toArray ys) e } : Obj)) :: (add ++ news)) →
      wpAny (model prog w) A (assign target env v) (fun _ s₂ => wpAny (model prog w) A (execs body env) (LoopTurn h₀ env.locals { s with heap := h, toks := tk } I o (Between ps stored m₀ ax lo I (Grow D news (fun i => R (src.take i)) (i + 1))) Q) E s₂) E { s with heap := h, toks := tk })
    (done : ∀ c ys e add ds (u : Str → Option Value) h tk, R src c ds → DatAll add ys ds → (∀ p ∈ add ++ news, p.1 ≠ D) → (∀ p ∈ add, ∀ q ∈ news, q.1 ≠ p.1) → Fr h₀ env.locals h (kstB (fun z => if stored.contains z then u z else m₀ z) (ps c)) → News h₀ env.locals h ((D, ({ cls := .type "list", data := .seq (List.toArray ys) e } : Obj)) :: (add ++ news)) → Q .next { s with heap := h, toks := tk }) :
    wpAny (model prog w) A (pyIter (.ref ax)) (fun it s₂ => TurnsAt prog w A h₀ env target body Q E it s₂) E s := by
  have hl := hi.length
  refine loop_list ps stored (fun i c nw => Grow D news (fun i => R (src.take i)) i c nw) c₀ hh F N (.tail _ hm) hc hd hk (grow_nil hne (by simpa using h0)) ?_ ?_
  · rintro i v c nw u I o h tk hv ⟨ys, e, add, ds, rfl, a1, a2, a3, a4⟩ hax hne' ho F' N'
    have hlt : i < src.length := by
      rw [← hl]
      exact (List.getElem?_eq_some_iff.mp hv).1
    obtain ⟨v', hv', hD⟩ := hi.get hlt
    rw [hv] at hv'
    cases hv'
    have hs : src.take (i + 1) = src.take i ++ [src[i]] := by rw [List.take_succ_eq_append_getElem hlt]
    have e' : src = src.take i ++ src[i] :: src.drop (i + 1) := by
      have ht := List.take_append_drop (i + 1) src
      rw [hs, List.append_assoc] at ht
      exact ht.symm
    exact turn i (src.take i) src[i] _ v c ys e add ds u I o h tk e' (List.getElem_mem hlt) hs hD a4 a1 a2 a3 hne' ho F' N'
  · rintro c nw u h tk ⟨ys, e, add, ds, rfl, a1, a2, a3, a4⟩ hax F' N'
    rw [hl, List.take_length] at a4
    exact done c ys e add ds u h tk a4 a1 a2 a3 F' N'
end
section
variable {h₀ : Heap} {Q : Flow → Shared → Prop} {stored : List Str} {m₀ : Str → Option Value} {L I D T ax : Addr} {o oT lo : Obj} {news add rest all : List (Addr × Obj)} {R : Nat → Unit → List Dat → Prop} {i : Nat} {s₁ : Shared} {h' : Heap} {tk : Nat} {m' : Str → Option Value} {ys : List Value} {e : Nat} {ds : List Dat} {dd : Dat}
theorem growL_u1 (F : Fr h₀ L h' m') (N : News h₀ L h' ((T, oT) :: rest)) (hM : (D, ({ cls := .type "list", data := .seq (ys.toArray.push (.ref T)) e } : Obj)) ∈ rest) (hI : (I, o) ∈ rest) (hd : DatIn [(T, oT)] (.ref T) dd) (hA : DatAll add ys ds) (sub : ∀ p ∈ add ++ news, p ∈ rest)
    (o1 : ∀ p ∈ add ++ news, p.1 ≠ D) (o3 : ∀ p ∈ add, ∀ q ∈ news, q.1 ≠ p.1) (o5 : ∀ p ∈ (D, ({ cls := .type "list", data := .seq (List.toArray ys) 0 } : Obj)) :: (add ++ news), p.1 ≠ I) (lt : AllLt T rest) (hax : (ax, lo) ∈ news)
    (hr : ∀ z, stored.contains z = false → m' z = m₀ z) (hv : R (i + 1) () (ds ++ [dd])) :
    LoopTurn h₀ L s₁ I o (Between (fun _ : Unit => []) stored m₀ ax lo I (Grow D news R (i + 1))) Q .next { s₁ with heap := h', toks := tk } := by
  have lt := allLt_mem lt
  refine LoopTurn.next () ((D, ({ cls := .type "list", data := .seq (List.toArray (ys ++ [.ref T])) e } : Obj)) :: (((T, oT) :: add) ++ news)) F N (.tail _ hI) (fun p hp => ?_) (.tail _ (.tail _ (List.mem_append.mpr (.inr hax)))) (fun p hp => ?_) (List.forall_mem_nil _) (fun z _ hc => hr z hc) ⟨ys ++ [.ref T], e, (T, oT) :: add, ds ++ [dd], rfl, ?_, fun p hp => ?_, fun p hp q hq => ?_, hv⟩
  · rcases List.mem_cons.mp hp with rfl | hp
    · rw [← List.push_toArray]; exact .tail _ hM
    · rcases List.mem_cons.mp hp with rfl | hp
      · exact .head _
      · exact .tail _ (sub p hp)
  · rcases List.mem_cons.mp hp with rfl | hp
    · have := o5 _ (.head _)
      exact this
    · rcases List.mem_cons.mp hp with rfl | hp
      · exact Ne.symm (Nat.ne_of_lt (lt _ hI))
      · exact o5 p (.tail _ hp)
  · exact (hA.mono fun p hp => .tail _ hp).append (.cons (hd.mono fun p hp => by rw [List.mem_singleton.mp hp]; exact .head _) .nil)
  · rcases List.mem_cons.mp hp with rfl | hp
    · exact Ne.symm (Nat.ne_of_lt (lt _ hM))
    · exact o1 p hp
  · rcases List.mem_cons.mp hp with rfl | hp
    · exact Nat.ne_of_lt (lt q (sub q (List.mem_append.mpr (.inr hq))))
    · exact o3 p hp q hq
theorem growL_same (F : Fr h₀ L h' m') (N : News h₀ L h' all) (hM : (D, ({ cls := .type "list", data := .seq (List.toArray ys) e } : Obj)) ∈ all) (hI : (I, o) ∈ all) (hA : DatAll add ys ds) (sub : ∀ p ∈ add ++ news, p ∈ all)
    (o1 : ∀ p ∈ add ++ news, p.1 ≠ D) (o3 : ∀ p ∈ add, ∀ q ∈ news, q.1 ≠ p.1) (o5 : ∀ p ∈ (D, ({ cls := .type "list", data := .seq (List.toArray ys) 0 } : Obj)) :: (add ++ news), p.1 ≠ I) (hax : (ax, lo) ∈ news)
    (hr : ∀ z, stored.contains z = false → m' z = m₀ z) (hv : R (i + 1) () ds) :
    LoopTurn h₀ L s₁ I o (Between (fun _ : Unit => []) stored m₀ ax lo I (Grow D news R (i + 1))) Q .next { s₁ with heap := h', toks := tk } := by
  refine LoopTurn.next () ((D, ({ cls := .type "list", data := .seq (List.toArray ys) e } : Obj)) :: (add ++ news)) F N hI (fun p hp => ?_) (.tail _ (List.mem_append.mpr (.inr hax))) (fun p hp => ?_) (List.forall_mem_nil _) (fun z _ hc => hr z hc) ⟨ys, e, add, ds, rfl, hA, o1, o3, hv⟩
  · rcases List.mem_cons.mp hp with rfl | hp
    · exact hM
    · exact sub p hp
  · rcases List.mem_cons.mp hp with rfl | hp
    · have := o5 _ (.head _)
      exact this
    · exact o5 p (.tail _ hp)
end
end Mine
namespace Mine
open PySem PySem.W PyProof.Rows
theorem kl_last_snoc (v : Value) : ∀ zs : List Value, kl_last (zs ++ [v]) = some (zs, v)
  | [] => rfl
  | z :: zs => by
    show (match kl_last (zs ++ [v]) with
      | some (p, y) => some (z :: p, y)
      | none => some ([], z)) = _
    rw [kl_last_snoc v zs]
noncomputable def pairD (s : St) : Dat := .tuple [.int s.1, .int s.2]
theorem pair_kqd (s : St) : kqdOk 8 (pairD s) = true := by simp [pairD, kqdOk]
theorem pairs_kqd {P : List St} : ∀ d ∈ P.map pairD, kqdOk 8 d = true := fun d hd => by
  obtain ⟨s, _, rfl⟩ := List.mem_map.mp hd
  exact pair_kqd s
theorem dat_snoc {nw : List (Addr × Obj)} {v : Value} {d : Dat} : ∀ {zs : List Value} {ds : List Dat}, DatAll nw (zs ++ [v]) (ds ++ [d]) → DatAll nw zs ds ∧ DatIn nw v d
  | [], [], h => by cases h with | cons a r => exact ⟨.nil, a⟩
  | [], _ :: _, h => by
    have := h.length
    simp at this
  | _ :: _, [], h => by
    have := h.length
    simp at this
  | z :: zs, e :: ds, h => by
    cases h with
    | cons a r =>
      obtain ⟨r1, r2⟩ := dat_snoc r
      exact ⟨.cons a r1, r2⟩
theorem pairs_last {nw : List (Addr × Obj)} {ys : List Value} {P : List St} (h : DatAll nw ys (P.map pairD)) :
    (ys = [] ∧ P = []) ∨ ∃ zs T n a b t u P', ys = zs ++ [.ref T] ∧ P = P' ++ [(a, b)] ∧ (T, ({ cls := .type "tuple", data := .seq #[.int a t, .int b u] n } : Obj)) ∈ nw ∧ DatAll nw zs (P'.map pairD) := by
  rcases List.eq_nil_or_concat P with rfl | ⟨P', s, rfl⟩
  · cases h; exact .inl ⟨rfl, rfl⟩
  · rw [List.concat_eq_append, List.map_append] at h
    have hl := h.length
    obtain ⟨zs, v, rfl⟩ : ∃ zs v, ys = zs ++ [v] := by
      rcases List.eq_nil_or_concat ys with rfl | ⟨zs, v, rfl⟩
      · simp at hl
      · exact ⟨zs, v, by rw [List.concat_eq_append]⟩
    obtain ⟨h1, h2⟩ := dat_snoc h
    obtain ⟨T, n, t, u, rfl, hm⟩ := dat_two h2
    exact .inr ⟨zs, T, n, s.1, s.2, t, u, P', rfl, by rw [List.concat_eq_append], hm, h1⟩
end Mine
namespace Mine
open PySem PySem.W PyProof.Rows
theorem ne_c1 : (!decide (([] : List St).map pairD = [])) = false := by decide
theorem ne_c2 (P : List St) (x : St) : (!decide ((P ++ [x]).map pairD = [])) = true := by
  have : ¬ (P ++ [x]).map pairD = [] := by simp
  simp [this]
theorem part_low {need lo hi mn : Int} {P : List St} (h : ¬ need ≤ mn) : partStep need P (lo, hi, mn) = P := by simp [partStep, h]
theorem part_first {need lo hi mn : Int} (h : need ≤ mn) : partStep need [] (lo, hi, mn) = [(lo, hi)] := by simp [partStep, h]
theorem part_join {need lo hi mn a b : Int} {P : List St} (h : need ≤ mn) (e : b + 1 = lo) : partStep need (P ++ [(a, b)]) (lo, hi, mn) = P ++ [(a, hi)] := by simp [partStep, h, e]
theorem part_apart {need lo hi mn a b : Int} {P : List St} (h : need ≤ mn) (e : ¬ b + 1 = lo) : partStep need (P ++ [(a, b)]) (lo, hi, mn) = P ++ [(a, b)] ++ [(lo, hi)] := by simp [partStep, h, e]
theorem part_len (need : Int) : ∀ (rs : List (Int × Int × Int)) (P : List St), (rs.foldl (partStep need) P).length ≤ P.length + rs.length
  | [], P => Nat.le_refl _
  | r :: rs, P => by
    have h1 := part_len need rs (partStep need P r)
    have h2 : (partStep need P r).length ≤ P.length + 1 := by
      unfold partStep
      split
      · split
        · rename_i l hl
          split
          · simp only [List.length_append, List.length_dropLast, List.length_singleton]; (clear h1 hl; omega)
          · simp only [List.length_append, List.length_singleton]; (clear h1 hl; omega)
        · simp only [List.length_append, List.length_singleton]; (clear h1; omega)
      · (clear h1; omega)
    rw [List.foldl_cons, List.length_cons]
    omega
theorem runD_inj {a b : Int × Int × Int} (h : runD a = runD b) : a = b := by
  obtain ⟨a1, a2, a3⟩ := a
  obtain ⟨b1, b2, b3⟩ := b
  simp [runD] at h
  simp [h]
theorem runs_inj : ∀ {a b : List (Int × Int × Int)}, a.map runD = b.map runD → a = b
  | [], [], _ => rfl
  | [], _ :: _, h => by simp at h
  | _ :: _, [], h => by simp at h
  | x :: a, y :: b, h => by
    rw [List.map_cons, List.map_cons] at h
    have h' := List.cons.inj h
    rw [runD_inj h'.1, runs_inj h'.2]
noncomputable def PartR (need : Int) (pre : List Dat) (_ : Unit) (ds : List Dat) : Prop := ∃ (P : List St) (rs : List (Int × Int × Int)), ds = P.map pairD ∧ pre = rs.map runD ∧ P = rs.foldl (partStep need) []
theorem part_R {need lo hi mn : Int} {P P' : List St} {rs : List (Int × Int × Int)} {src : List Dat} {i : Nat} {ds : List Dat} (ht : src.take (i + 1) = rs.map runD ++ [runD (lo, hi, mn)]) (hP : P = rs.foldl (partStep need) []) (h : partStep need P (lo, hi, mn) = P') (e : ds = P'.map pairD) :
    PartR need (src.take (i + 1)) () ds := by
  refine ⟨P', rs ++ [(lo, hi, mn)], e, by rw [ht, List.map_append]; rfl, ?_⟩
  rw [List.foldl_append, ← hP]
  exact h.symm
theorem item_last {prog : Program} {w : World} {A : Around} {E : Value → Shared → Prop} {s : Shared} {value slice : PySem.Expr} {h₀ : Heap} {L l : Addr} {news : List (Addr × Obj)} {zs : List Value} {v : Value} {e : Nat} {u : Tok} {Q : Value → Shared → Prop} (N : News h₀ L s.heap news) (hm : (l, ({ cls := .type "list", data := .seq (List.toArray (zs ++ [v])) e } : Obj)) ∈ news) (h : Q v s)
    (hs' : subscripted slice false (.ref l) (.int (-1) u) = operate [.ref l, .int (-1) u] (getItem (.ref l) (.int (-1) u)) := by with_unfolding_all rfl) :
    wpAny (model prog w) A (subscriptTail value slice (.ref l) (.int (-1) u)) Q E s := by
  have hl : s.heap.IsList l (List.toArray (zs ++ [v])) := ⟨_, (N _ hm).1, rfl, e, rfl⟩
  have hz : (List.toArray (zs ++ [v])).size = zs.length + 1 := by simp
  refine tail_any hl.typeIs slot_list_getitem.lookup (wpAny_getItem_list_neg hl (by decide) (by rw [hz]; (clear hs' hz; omega)) (by decide) ?_ h) hs'
  have : (-1 + ((List.toArray (zs ++ [v])).size : Int)).toNat = zs.length := by rw [hz]; (clear hs' hz; omega)
  rw [this]
  simp
theorem news_mid {h₀ h : Heap} {L : Addr} {x : Addr × Obj} {a b : List (Addr × Obj)} (N : News h₀ L h (a ++ x :: b)) : News h₀ L h (x :: (a ++ b)) := fun p hp => by
  refine N p ?_
  rcases List.mem_cons.mp hp with rfl | hp
  · exact List.mem_append.mpr (.inr (.head _))
  · rcases List.mem_append.mp hp with hp | hp
    · exact List.mem_append.mpr (.inl hp)
    · exact List.mem_append.mpr (.inr (.tail _ hp))
theorem ret_sub3 {α : Type} {x : α} {add mid news : List α} : ∀ p ∈ (x :: add) ++ news, p ∈ x :: (add ++ (mid ++ news)) := fun p hp => by
  rcases List.mem_cons.mp hp with rfl | hp
  · exact .head _
  · rcases List.mem_append.mp hp with hp | hp
    · exact .tail _ (List.mem_append.mpr (.inl hp))
    · exact .tail _ (List.mem_append.mpr (.inr (List.mem_append.mpr (.inr hp))))
end Mine
namespace Mine
open PySem PySem.W PyProof.Rows
theorem part_pre {S : List St} {pts : List Int} {rs : List (Int × Int × Int)} {dd : Dat} {post : List Dat} {need : Int} {P : List St} (e : (runsOf S pts).map runD = rs.map runD ++ dd :: post) (hl : pts.length ≤ 80) (hP : P = rs.foldl (partStep need) []) : P.length ≤ 80 := by
  have h1 := congrArg List.length e
  rw [List.length_map, runs_len, List.length_append, List.length_map, List.length_cons] at h1
  have h2 := part_len need rs []
  rw [← hP, List.length_nil] at h2
  (clear e hP; omega)
theorem part_all {S : List St} {pts : List Int} {need : Int} (hl : pts.length ≤ 80) : ((runsOf S pts).foldl (partStep need) []).length ≤ 80 := by
  have h2 := part_len need (runsOf S pts) []
  rw [List.length_nil, runs_len] at h2
  omega
end Mine
namespace Mine
open PySem PySem.W PyProof.Rows
theorem cell_ok {ns : List Int} (hl : PyData.layable0 (.list (ns.map .int)) = true) (k : Nat) : CellOk (ns.getD k 0) := by
  by_cases h : k < ns.length
  · rw [getD_at h]
    exact cellOk_of (intBits_le_of_item (List.getElem_mem h) hl) (by decide)
  · rw [getD_out (by (clear hl; omega))]
    exact cellOk_of (n := 0) (by decide) (by decide)
end Mine
namespace Mine
theorem cell_ok2 {ns : List Int} (hl : PyData.layable0 (.list (ns.map .int)) = true) (k : Nat) : CellOk (ns.getD k 0) ∧ True := ⟨cell_ok hl k, trivial⟩
end Mine
namespace Mine
open PySem PySem.W PyProof.Rows PySem.Spec PySem.Calls
section
variable {prog : Program} {w : World} {A : Around} {E : Value → Shared → Prop} {s : Shared} {env : Env} {h₀ : Heap} {target : Expr} {body : List Stmt} {Q : Flow → Shared → Prop}
noncomputable def Reb (y : Str) (stored : List Str) (m₀ : Str → Option Value) (news : List (Addr × Obj)) (ns : List Int) (m : Str → Option Value) (nw : List (Addr × Obj)) : Prop :=
  ∃ c ys e, nw = (c, ({ cls := .type "list", data := .seq (List.toArray ys) e } : Obj)) :: news ∧ m y = some (.ref c) ∧ (∀ z, z ≠ y → stored.contains z = false → m z = m₀ z) ∧ IntsAre ys ns ∧ ∀ q ∈ news, q.1 ≠ c
theorem reb_next {y : Str} {stored : List Str} {m₀ : Str → Option Value} {L I c : Addr} {o : Obj} {news all : List (Addr × Obj)} {ns : List Int} {s₁ : Shared} {h' : Heap} {tk : Nat} {m' : Str → Option Value} {ys : List Value} {e : Nat}
    (F : Fr h₀ L h' m') (N : News h₀ L h' all) (hk : m' y = some (.ref c)) (hM : (c, ({ cls := .type "list", data := .seq (List.toArray ys) e } : Obj)) ∈ all) (hI : (I, o) ∈ all) (sub : ∀ p ∈ news, p ∈ all) (off : ∀ p ∈ news, p.1 ≠ I) (hcI : c ≠ I) (hr : ∀ z, z ≠ y → stored.contains z = false → m' z = m₀ z) (hi : IntsAre ys ns) (hc : ∀ q ∈ news, q.1 ≠ c) :
    LoopTurn h₀ L s₁ I o (Reb y stored m₀ news ns) Q .next { s₁ with heap := h', toks := tk } :=
  ⟨h', tk, m', (c, ({ cls := .type "list", data := .seq (List.toArray ys) e } : Obj)) :: news, rfl, F, fun p hp => by
    rcases List.mem_append.mp hp with hp | hp
    · rw [List.mem_singleton.mp hp]; exact N _ hI
    · rcases List.mem_cons.mp hp with rfl | hp
      · exact N _ hM
      · exact N p (sub p hp), fun p hp q hq => by
      rw [List.mem_singleton.mp hq]
      rcases List.mem_cons.mp hp with rfl | hp
      · exact hcI
      · exact off p hp, c, ys, e, rfl, hk, hr, hi, hc⟩
theorem loop_listR {ax c₀ : Addr} {lo : Obj} {vs : List Value} {src : List Dat} {n e₀ : Nat} {m₀ : Str → Option Value} {news : List (Addr × Obj)} (y : Str) (stored : List Str) (f : List Dat → List Int) (hi : DatAll news vs src)
    (hh : A.handled = none) (F : Fr h₀ env.locals s.heap m₀) (N : News h₀ env.locals s.heap ((c₀, ({ cls := .type "list", data := .seq #[] e₀ } : Obj)) :: news)) (hm : (ax, lo) ∈ news) (hc : lo.cls = .type "list") (hd : lo.data = .seq vs.toArray n)
    (hk : m₀ y = some (.ref c₀)) (h0 : f [] = []) (hn : ∀ q ∈ news, q.1 ≠ c₀)
    (turn : ∀ pre dd post v c ys e (u : Str → Option Value) I o h tk, src = pre ++ dd :: post → dd ∈ src → DatIn news v dd → IntsAre ys (f pre) → (∀ q ∈ news, q.1 ≠ c) → (∀ p ∈ (c, ({ cls := .type "list", data := .seq (List.toArray ys) e } : Obj)) :: news, p.1 ≠ I) → o.cls = .type "list_iterator" →
      Fr h₀ env.locals h (kstB (fun z => if stored.contains z then u z else m₀ z) [(y, .ref c)]) → News h₀ env.locals h ((I, o) :: (c, ({ cls := .type "list", data := .seq (List.toArray ys) e } : Obj)) :: news) →
      wpAny (model prog w) A (assign target env v) (fun _ s₂ => wpAny (model prog w) A (execs body env) (LoopTurn h₀ env.locals { s with heap := h, toks := tk } I o (Reb y stored m₀ news (f (pre ++ [dd]))) Q) E s₂) E { s with heap := h, toks := tk })
    (done : ∀ c ys e (u : Str → Option Value) h tk, IntsAre ys (f src) → (∀ q ∈ news, q.1 ≠ c) → Fr h₀ env.locals h (kstB (fun z => if stored.contains z then u z else m₀ z) [(y, .ref c)]) → News h₀ env.locals h ((c, ({ cls := .type "list", data := .seq (List.toArray ys) e } : Obj)) :: news) → Q .next { s with heap := h, toks := tk }) :
    wpAny (model prog w) A (pyIter (.ref ax)) (fun it s₂ => TurnsAt prog w A h₀ env target body Q E it s₂) E s := by
  have hl := hi.length
  refine loop_list (fun c : Addr => [(y, Value.ref c)]) stored (fun i c nw => ∃ ys e, nw = (c, ({ cls := .type "list", data := .seq (List.toArray ys) e } : Obj)) :: news ∧ IntsAre ys (f (src.take i)) ∧ ∀ q ∈ news, q.1 ≠ c) c₀ hh F N (.tail _ hm) hc hd (List.forall_mem_cons.mpr ⟨hk, List.forall_mem_nil _⟩) ⟨[], e₀, rfl, by rw [List.take_zero, h0]; exact .nil, hn⟩ ?_ ?_
  · rintro i v c nw u I o h tk hv ⟨ys, e, rfl, a1, a2⟩ hax hne ho F' N'
    have hlt : i < src.length := by
      rw [← hl]
      exact (List.getElem?_eq_some_iff.mp hv).1
    obtain ⟨v', hv', hD⟩ := hi.get hlt
    rw [hv] at hv'
    cases hv'
    have hs : src.take (i + 1) = src.take i ++ [src[i]] := by rw [List.take_succ_eq_append_getElem hlt]
    have e' : src = src.take i ++ src[i] :: src.drop (i + 1) := by
      have ht := List.take_append_drop (i + 1) src
      rw [hs, List.append_assoc] at ht
      exact ht.symm
    rw [hs]
    refine wpAny_mono (turn _ src[i] _ v c ys e u I o h tk e' (List.getElem_mem hlt) hD a1 a2 hne ho F' N') (fun _ s₂ q => wpAny_mono q (fun fl s₃ p => ?_) fun _ _ e => e) fun _ _ e => e
    have go : ∀ s₃, UnrEndW h₀ env.locals { s with heap := h, toks := tk } [(I, o)] (Reb y stored m₀ news (f (src.take i ++ [src[i]]))) s₃ →
        UnrEndW h₀ env.locals { s with heap := h, toks := tk } [(I, o)] (Between (fun c : Addr => [(y, Value.ref c)]) stored m₀ ax lo I (fun c nw => ∃ ys e, nw = (c, ({ cls := .type "list", data := .seq (List.toArray ys) e } : Obj)) :: news ∧ IntsAre ys (f (src.take i ++ [src[i]])) ∧ ∀ q ∈ news, q.1 ≠ c)) s₃ := by
      rintro s₃ ⟨h', tk', m', nw', e, F₃, N₃, off, c', ys', e2, rfl, h1, h2, h3, h4⟩
      exact ⟨h', tk', m', _, e, F₃, N₃, off, .tail _ hm, fun p hp => off p hp _ (.head _), c', List.forall_mem_cons.mpr ⟨h1, List.forall_mem_nil _⟩, fun z hz hcz => h2 z (hz _ (.head _)) hcz, ys', e2, rfl, h3, h4⟩
    cases fl with
    | ret v => exact p
    | brk => exact p
    | next => exact go _ p
    | cont => exact go _ p
  · rintro c nw u h tk ⟨ys, e, rfl, a1, a2⟩ hax F' N'
    rw [hl, List.take_length] at a1
    exact done c ys e u h tk a1 a2 F' N'
end
theorem edges_none {pre : List Dat} {d : Dat} (h : stOf d = none) : edges (sts (pre ++ [d])) = edges (sts pre) := by
  rw [sts_append]; simp [sts, h]
theorem edges_some {pre : List Dat} {d : Dat} {lo hi : Int} (h : stOf d = some (lo, hi)) : edges (sts (pre ++ [d])) = edges (sts pre) ++ [lo, hi + 1] := by
  have e : sts (pre ++ [d]) = sts pre ++ [(lo, hi)] := by rw [sts_append]; simp [sts, h]
  rw [e, edges_append]
  rfl
theorem edges_len : ∀ S : List St, (edges S).length = 2 * S.length
  | [] => rfl
  | s :: S => by simp only [edges, List.length_cons, edges_len S]; omega
theorem edges_pre {ds pre post : List Dat} {d : Dat} (e : ds = pre ++ d :: post) (h : ds.length ≤ 40) : (edges (sts pre)).length ≤ 80 := by
  have h2 := sts_len pre
  have h3 := congrArg List.length e
  rw [List.length_append, List.length_cons] at h3
  rw [edges_len]
  (clear e; omega)
end Mine
namespace Mine
open PySem PySem.W PyProof.Rows
theorem pairs_split {P : List St} {pre post : List Dat} {d : Dat} (e : P.map pairD = pre ++ d :: post) : ∃ A s B, P = A ++ s :: B ∧ pre = A.map pairD ∧ d = pairD s ∧ post = B.map pairD := by
  obtain ⟨A, R, rfl, h1, h2⟩ := List.map_eq_append_iff.mp e
  obtain ⟨s, B, rfl, h3, h4⟩ := List.map_eq_cons_iff.mp h2
  exact ⟨A, s, B, rfl, h1.symm, h3.symm, h4.symm⟩
theorem pairD_inj {s t : St} (h : pairD s = pairD t) : s = t := by
  obtain ⟨a, b⟩ := s
  obtain ⟨c, d⟩ := t
  simp [pairD] at h
  simp [h]
theorem pairs_inj : ∀ {A B : List St}, A.map pairD = B.map pairD → A = B
  | [], [], _ => rfl
  | [], _ :: _, h => by simp at h
  | _ :: _, [], h => by simp at h
  | x :: a, y :: b, h => by
    rw [List.map_cons, List.map_cons] at h
    have h' := List.cons.inj h
    rw [pairD_inj h'.1, pairs_inj h'.2]
noncomputable def AheadR (pre : List Dat) (c : Value) : Prop := (pre = [] ∧ c = .none) ∨ ∃ (A : List St) (a b : Int) (t : Tok), pre = (A ++ [(a, b)]).map pairD ∧ c = .int b t
theorem ahead_next {pre : List Dat} {a b : Int} {t : Tok} (A : List St) (e : pre = A.map pairD) : AheadR (pre ++ [pairD (a, b)]) (.int b t) := .inr ⟨A, a, b, t, by rw [e, List.map_append]; rfl, rfl⟩
theorem still_val {y : Str} {stored : List Str} {m₀ : Str → Option Value} {h₀ : Heap} {L I : Addr} {o : Obj} {news : List (Addr × Obj)} {P : Value → Prop} {s₁ : Shared} {h' : Heap} {tk : Nat} {m' : Str → Option Value} {all : List (Addr × Obj)} {Q : Flow → Shared → Prop} {v : Value}
    (F : Fr h₀ L h' m') (N : News h₀ L h' all) (hk : m' y = some v) (hI : (I, o) ∈ all) (sub : ∀ p ∈ news, p ∈ all) (off : ∀ p ∈ news, p.1 ≠ I) (hr : ∀ z, z ≠ y → stored.contains z = false → m' z = m₀ z) (hv : P v) :
    LoopTurn h₀ L s₁ I o (Still (fun c : Value => [(y, c)]) stored m₀ news P) Q .next { s₁ with heap := h', toks := tk } :=
  LoopTurn.still v F N hI sub off (List.forall_mem_cons.mpr ⟨hk, List.forall_mem_nil _⟩) (fun z hz hc => hr z (hz _ (.head _)) hc) hv
end Mine
namespace Mine
open PySem PySem.W PyProof.Rows PyProof.Rows.LCg
theorem ints_snoc {y : Int} {t : Tok} : ∀ {vs : List Value} {ys : List Int}, IntsAre vs ys → IntsAre (vs ++ [.int y t]) (ys ++ [y])
  | _, _, .nil => .cons y t .nil
  | _, _, .cons z u r => .cons z u (ints_snoc r)
theorem rest_ints {prog : Program} {w : World} {A : Around} {s : Shared} {h₀ : Heap} {L : Addr} {m : Str → Option Value} {env : Env} {elt : Expr} {x : Str} {scope : Scope} {cl : List (Str × Addr)} {S : List (Addr × Obj) → Prop} {Fin : List Value → List (Addr × Obj) → Prop} {vs : List Value} {ds : List Dat} {news n₁ : List (Addr × Obj)}
    (f : Dat → Int) (hD : DatAll n₁ vs ds) (hS : S news)
    (turn : ∀ d v ys I oI C oC D m₂ h tk (E' : Value → Shared → Prop), d ∈ ds → DatIn n₁ v d → NsObj oC m₂ → m₂ x = some v → Fr h₀ L h m → News h₀ L h ((I, oI) :: (C, oC) :: (D, lst ys) :: news) → Off3 I C D news → ((@Ne Nat I C) ∧ (@Ne Nat I D) ∧ (@Ne Nat C D)) →
      wpAny (model prog w) A (eval elt (compEnvC scope cl C env)) (CompTurn h₀ L m { s with heap := h, toks := tk } I oI C oC D (lst ys) (fun _ => True) (fun y nw' => nw' = news ∧ ∃ t, y = .int (f d) t)) E' { s with heap := h, toks := tk })
    (fin : ∀ ys, IntsAre ys (ds.map f) → Fin ys news) : CompRest prog w A h₀ L m env elt x scope cl s S (fun i v => vs.toArray[i]? = some v) Fin vs.toArray.size 0 [] news := by
  have hl := hD.length
  refine rest_inv (fun i ys nw => nw = news ∧ IntsAre ys ((ds.take i).map f)) ⟨rfl, .nil⟩ ?_ ?_
  · rintro i ys nw v I oI C oC D m₂ h tk E' hlt ⟨rfl, hb⟩ hv hC hx F N off ne
    obtain ⟨d, hd, hm, hI⟩ := dat_at hD (i := i) (by simpa using hv)
    refine wpAny_mono (turn d v ys I oI C oC D m₂ h tk E' hm hI hC hx F N off ne) (fun y s₂ hq => ?_) fun _ _ e => e
    obtain ⟨h', tk', nw', e, F', N', off', _, hn, t, hy⟩ := hq
    subst hn hy
    refine ⟨h', tk', _, e, F', N', off', hS, rfl, ?_⟩
    rw [show ds.take (i + 1) = ds.take i ++ [d] by simp [List.take_add_one, hd], List.map_append]
    exact ints_snoc hb
  · rintro ys nw ⟨rfl, hb⟩
    rw [List.size_toArray, hl, List.take_length] at hb
    exact fin ys hb
noncomputable def lowD : Dat → Int
  | .tuple [.int a, _] => a
  | _ => 0
theorem lows_eq (P : List St) : (P.map pairD).map lowD = P.map (·.1) := by
  rw [List.map_map]
  rfl
end Mine
namespace Mine
open PySem PySem.W PyProof.Rows
theorem mem_deep {h₀ h : Heap} {L : Addr} {ad news : List (Addr × Obj)} {x p : Addr × Obj} (_ : News h₀ L h (ad ++ x :: news)) (hp : p ∈ news) : p ∈ ad ++ x :: news := List.mem_append.mpr (.inr (.tail _ hp))
end Mine
namespace Mine
theorem edges_all (ds : List PySem.W.Dat) (h : ds.length ≤ 40) : (edges (sts ds)).length ≤ 80 := by
  have h2 := sts_len ds
  rw [edges_len]
  omega
end Mine
namespace Mine
open PySem PySem.W PyProof.Rows
theorem mem_front {h₀ h : Heap} {L : Addr} {ad rest : List (Addr × Obj)} {p : Addr × Obj} (_ : News h₀ L h (ad ++ rest)) (hp : p ∈ ad) : p ∈ ad ++ rest := List.mem_append.mpr (.inl hp)
end Mine
namespace Mine
open PySem PySem.W PyProof.Rows PySem.Spec PySem.Calls
section
variable {prog : Program} {w : World} {A : Around} {E : Value → Shared → Prop} {s : Shared} {env : Env} {h₀ : Heap} {target : Expr} {body : List Stmt} {Q : Flow → Shared → Prop}
theorem loop_intsH {ax d : Addr} {lo o₀ : Obj} {vs : List Value} {ns : List Int} {n : Nat} {m₀ : Str → Option Value} {rest : List (Addr × Obj)} (stored : List Str) (H : Obj → Prop) (hi : IntsAre vs ns)
    (hh : A.handled = none) (F : Fr h₀ env.locals s.heap m₀) (N : News h₀ env.locals s.heap ((d, o₀) :: rest)) (hm : (ax, lo) ∈ rest) (hc : lo.cls = .type "list") (hd : lo.data = .seq vs.toArray n) (h0 : H o₀)
    (turn : ∀ j t od (u : Str → Option Value) I o h tk, j ∈ ns → H od → (∀ p ∈ (d, od) :: rest, p.1 ≠ I) → o.cls = .type "list_iterator" → Fr h₀ env.locals h (kstB (fun z => if stored.contains z then u z else m₀ z) []) → News h₀ env.locals h ((I, o) :: (d, od) :: rest) →
      wpAny (model prog w) A (assign target env (.int j t)) (fun _ s₂ => wpAny (model prog w) A (execs body env) (LoopTurn h₀ env.locals { s with heap := h, toks := tk } I o (StillH (fun _ : Unit => []) stored m₀ d rest (fun _ o => H o)) Q) E s₂) E { s with heap := h, toks := tk })
    (done : ∀ od (u : Str → Option Value) h tk, H od → Fr h₀ env.locals h (kstB (fun z => if stored.contains z then u z else m₀ z) []) → News h₀ env.locals h ((d, od) :: rest) → Q .next { s with heap := h, toks := tk }) :
    wpAny (model prog w) A (pyIter (.ref ax)) (fun it s₂ => TurnsAt prog w A h₀ env target body Q E it s₂) E s := by
  refine loop_list (fun _ : Unit => []) stored (fun _ _ nw => ∃ od, nw = (d, od) :: rest ∧ H od) () hh F N (.tail _ hm) hc hd (List.forall_mem_nil _) ⟨o₀, rfl, h0⟩ ?_ ?_
  · rintro i v c nw u I o h tk hv ⟨od, rfl, hp⟩ hax hne ho F' N'
    have hl := hi.length
    have hlt : i < ns.length := by
      rw [← hl]
      exact (List.getElem?_eq_some_iff.mp hv).1
    obtain ⟨t, ht⟩ := hi.get i ns[i] (List.getElem?_eq_getElem hlt)
    rw [hv] at ht
    cases ht
    refine wpAny_mono (turn ns[i] t od u I o h tk (List.getElem_mem hlt) hp hne ho F' N') (fun _ s₂ q => wpAny_mono q (fun f s₃ p => ?_) fun _ _ e => e) fun _ _ e => e
    have go : ∀ s₃, UnrEndW h₀ env.locals { s with heap := h, toks := tk } [(I, o)] (StillH (fun _ : Unit => []) stored m₀ d rest (fun _ o => H o)) s₃ →
        UnrEndW h₀ env.locals { s with heap := h, toks := tk } [(I, o)] (Between (fun _ : Unit => []) stored m₀ ax lo I (fun _ nw => ∃ od, nw = (d, od) :: rest ∧ H od)) s₃ := by
      rintro s₃ ⟨h', tk', m', nw', e, F₃, N₃, off, od', rfl, c', h1, h2, hv'⟩
      exact ⟨h', tk', m', _, e, F₃, N₃, off, .tail _ hm, fun p hp => off p hp _ (.head _), c', h1, h2, od', rfl, hv'⟩
    cases f with
    | ret v => exact p
    | brk => exact p
    | next => exact go _ p
    | cont => exact go _ p
  · rintro c nw u h tk ⟨od, rfl, hp⟩ hax F' N'
    exact done od u h tk hp F' N'
end
end Mine
namespace Mine
open PySem PySem.W PyProof.Rows PySem.Spec PySem.Calls PyProof.Rows.LCg PyProof.Rows.LCt
section
variable {prog : Program} {w : World} {A : Around} {E : Value → Shared → Prop} {s : Shared} {h₀ : Heap} {L : Addr} {m : Str → Option Value} {env : Env}
noncomputable def SrcUT (prog : Program) (w : World) (A : Around) (h₀ : Heap) (L : Addr) (m : Str → Option Value) (env : Env) (ct elt : Expr) (x : Str) (scope : Scope) (cl : List (Str × Addr)) (Fin : Shared → List Value → List (Addr × Obj) → Prop) (xv : Value) (s₁ : Shared) : Prop :=
  CompSrcT prog w A h₀ L m env ct elt x scope cl Fin xv s₁
theorem SrcUT.ledger {ct elt : Expr} {x : Str} {scope : Scope} {cl : List (Str × Addr)} {Fin : Shared → List Value → List (Addr × Obj) → Prop} {ax : Addr} {its : Array Value} {k : Nat} {news : List (Addr × Obj)} {s₁ : Shared}
    (hh : A.handled = none) (F : Fr h₀ L s₁.heap m) (N : News h₀ L s₁.heap news) (hm : (ax, ({ cls := .type "list", data := .seq its k } : Obj)) ∈ news) (hsz : its.size ≤ sizeLine)
    (h : ∀ g, CompRestT prog w A h₀ L m env ct elt x scope cl { s₁ with heap := g } (SrcAt h₀ ax its) (fun i v => its[i]? = some v) (Fin { s₁ with heap := g }) its.size 0 [] news) :
    SrcUT prog w A h₀ L m env ct elt x scope cl Fin (.ref ax) s₁ := CompSrcT.ledger hh F N hm hsz h
theorem ListComp_VT {ct elt iter : Expr} {x : Str} {px : Pos} {scope : Scope} {cl : List (Str × Addr)} {pos : Pos} {Q : Value → Shared → Prop} (F₀ : Fr h₀ L s.heap m)
    (hclos : closureFor scope env = pure cl) (hcell : ∀ y ∈ scope.names, y.2 ≠ .cell) (hkind : scope.kind = .function)
    (hnames : ∀ y ∈ scope.names, y.2 = .local → scope.names.lookup y.1 = some .local) (hx : scope.names.lookup x = some .local)
    (h : wpAny (model prog w) A (eval iter env) (SrcUT prog w A h₀ L m env ct elt x scope cl (fun s₂ => FinE h₀ L m s₂ Q)) E s)
    (hs : ∀ x, foldedSetIterable iter env x = pure x := by intro _; rfl) :
    wpAny (model prog w) A (eval (.ListComp elt [⟨.Name x px, iter, [ct], 0⟩] scope pos) env) Q E s := LCt.ListComp_T F₀ hclos hcell hkind hnames hx h hs
theorem rest_filter {ct elt : Expr} {x : Str} {scope : Scope} {cl : List (Str × Addr)} {S : List (Addr × Obj) → Prop} {Fin : List Value → List (Addr × Obj) → Prop} {vs : List Value} {ds : List Dat} {news n₁ : List (Addr × Obj)}
    (f : Dat → Bool) (hD : DatAll n₁ vs ds) (hS : S news)
    (turn : ∀ d v ys I oI C oC D m₂ h tk (E' : Value → Shared → Prop), d ∈ ds → DatIn n₁ v d → NsObj oC m₂ → m₂ x = some v → Fr h₀ L h m → News h₀ L h ((I, oI) :: (C, oC) :: (D, lst ys) :: news) → Off3 I C D news → ((@Ne Nat I C) ∧ (@Ne Nat I D) ∧ (@Ne Nat C D)) →
      wpAny (model prog w) A (isTrue ct (compEnvC scope cl C env) (eval ct (compEnvC scope cl C env))) (fun ok s' => if ok = true then
        wpAny (model prog w) A (eval elt (compEnvC scope cl C env)) (CompTurn h₀ L m { s with heap := h, toks := tk } I oI C oC D (lst ys) (fun _ => True) (fun y nw' => nw' = news ∧ y = v ∧ f d = true)) E' s'
        else CompTurn h₀ L m { s with heap := h, toks := tk } I oI C oC D (lst ys) (fun _ => True) (fun _ nw' => nw' = news ∧ f d = false) Value.none s') E' { s with heap := h, toks := tk })
    (fin : ∀ ys, DatAll n₁ ys (ds.filter f) → Fin ys news) : CompRestT prog w A h₀ L m env ct elt x scope cl s S (fun i v => vs.toArray[i]? = some v) Fin vs.toArray.size 0 [] news := by
  have hl := hD.length
  refine restT_inv (fun i ys nw => nw = news ∧ DatAll n₁ ys ((ds.take i).filter f)) ⟨rfl, .nil⟩ ?_ ?_
  · rintro i ys nw v I oI C oC D m₂ h tk E' hlt ⟨rfl, hb⟩ hv hC hx F N off ne
    obtain ⟨d, hd, hm, hI⟩ := dat_at hD (i := i) (by simpa using hv)
    have ht : ds.take (i + 1) = ds.take i ++ [d] := by simp [List.take_add_one, hd]
    refine wpAny_mono (turn d v ys I oI C oC D m₂ h tk E' hm hI hC hx F N off ne) (fun ok s₂ hq => ?_) fun _ _ e => e
    cases ok with
    | true =>
      simp only [if_true] at hq ⊢
      refine wpAny_mono hq (fun y s₃ hq => ?_) fun _ _ e => e
      obtain ⟨h', tk', nw', e, F', N', off', _, hn, hy, hf⟩ := hq
      subst hn hy
      refine ⟨h', tk', _, e, F', N', off', hS, rfl, ?_⟩
      rw [ht, List.filter_append]
      simp only [List.filter_cons, hf, if_true, List.filter_nil]
      exact hb.append (.cons hI .nil)
    | false =>
      simp only [Bool.false_eq_true, if_false] at hq ⊢
      obtain ⟨h', tk', nw', e, F', N', off', _, hn, hf⟩ := hq
      subst hn
      refine ⟨h', tk', _, e, F', N', off', hS, rfl, ?_⟩
      rw [ht, List.filter_append]
      simp only [List.filter_cons, hf, Bool.false_eq_true, if_false, List.filter_nil, List.append_nil]
      exact hb
  · rintro ys nw ⟨rfl, hb⟩
    rw [List.size_toArray, hl, List.take_length] at hb
    exact fin ys hb
end
end Mine
namespace Mine
open PySem PySem.W PyProof.Rows
theorem cell_front {h₀ h : Heap} {L : Addr} {x y c : Addr × Obj} {ad news : List (Addr × Obj)} (N : News h₀ L h (x :: y :: (ad ++ c :: news))) : News h₀ L h (c :: x :: news) := fun p hp => by
  refine N p ?_
  rcases List.mem_cons.mp hp with rfl | hp
  · exact .tail _ (.tail _ (List.mem_append.mpr (.inr (.head _))))
  · rcases List.mem_cons.mp hp with rfl | hp
    · exact .head _
    · exact .tail _ (.tail _ (List.mem_append.mpr (.inr (.tail _ hp))))
noncomputable def highD : Dat → Int
  | .tuple [_, .int b] => b
  | _ => 0
noncomputable def hasD (x : Int) (d : Dat) : Bool := decide (lowD d ≤ x) && decide (x ≤ highD d)
theorem held_filter {P : List St} {x : Int} : (P.map pairD).filter (hasD x) = [] ↔ ¬ Held P x := by
  rw [List.filter_eq_nil_iff]
  constructor
  · rintro h ⟨s, hs, h1, h2⟩
    have := h (pairD s) (List.mem_map.mpr ⟨s, hs, rfl⟩)
    simp [hasD, pairD, lowD, highD, h1, h2] at this
  · intro h d hd
    obtain ⟨s, hs, rfl⟩ := List.mem_map.mp hd
    intro hc
    have hc' : (decide (s.1 ≤ x) && decide (x ≤ s.2)) = true := hc
    rw [Bool.and_eq_true, decide_eq_true_eq, decide_eq_true_eq] at hc'
    exact h ⟨s, hs, hc'⟩
end Mine
namespace Mine
open PySem PySem.W PyProof.Rows
theorem cell_lt {D : Addr} {y c : Addr × Obj} {ad news : List (Addr × Obj)} (l : ∀ p ∈ y :: (ad ++ c :: news), p.1 < D) : c.1 < D := l c (.tail _ (List.mem_append.mpr (.inr (.head _))))
end Mine
namespace Mine
open PySem PySem.W PyProof.Rows
theorem hasD_t {a b j : Int} (h1 : a ≤ j) (h2 : j ≤ b) : hasD j (pairD (a, b)) = true := by
  show (decide (a ≤ j) && decide (j ≤ b)) = true
  rw [decide_eq_true h1, decide_eq_true h2]; rfl
theorem hasD_f {a b j : Int} (h : ¬ (a ≤ j ∧ j ≤ b)) : hasD j (pairD (a, b)) = false := by
  show (decide (a ≤ j) && decide (j ≤ b)) = false
  rw [← Bool.not_eq_true, Bool.and_eq_true, decide_eq_true_eq, decide_eq_true_eq]
  exact h
theorem filter_kqd {P : List St} {f : Dat → Bool} : ∀ d ∈ (P.map pairD).filter f, kqdOk 8 d = true := fun d hd => pairs_kqd d (List.mem_filter.mp hd).1
theorem held_eq {S : List St} {need : Int} {P : List St} (h : PartOk S need P) (x : Int) : (!decide ((P.map pairD).filter (hasD x) = [])) = decide (need ≤ cnt S x) := by
  by_cases hx : Held P x
  · rw [decide_eq_true ((h.held x).mp hx), decide_eq_false (fun e => (held_filter.mp e) hx)]; rfl
  · rw [decide_eq_false (fun e => hx ((h.held x).mpr e)), decide_eq_true (held_filter.mpr hx)]; rfl
end Mine
namespace Mine
open PySem PySem.W PyProof.Rows
theorem len_led {prog : Program} {w : World} {A : Around} {E : Value → Shared → Prop} {s : Shared} {h₀ : Heap} {L l : Addr} {news : List (Addr × Obj)} {vs : List Value} {e k : Nat} {Q : Value → Shared → Prop} (N : News h₀ L s.heap news) (hm : (l, ({ cls := .type "list", data := .seq vs.toArray e } : Obj)) ∈ news) (hl : vs.length = k) (hk : k ≤ 1000)
    (h : Q (.int (k : Int) (s.toks + 1)) { s with toks := s.toks + 1 + 1 }) : wpAny (model prog w) A (call (.builtin "len") [.ref l]) Q E s := by
  have hI : s.heap.IsList l vs.toArray := ⟨_, (N _ hm).1, rfl, e, rfl⟩
  have ez : (List.toArray vs).size = k := by rw [List.size_toArray]; exact hl
  exact Calls.call_len_list hI (by rw [ez]; omega) (by rw [ez]; exact h)
end Mine
namespace Mine
open PySem PySem.W PyProof.Rows PySem.Calls
theorem fr_same {h₀ h : Heap} {L : Addr} {m : Str → Option Value} {x : Str} {v : Value} (F : Fr h₀ L h m) (hx : m x = some v) : Fr h₀ L h (fun z => if z = x then some v else m z) := by
  have e : (fun z => if z = x then some v else m z) = m := funext fun z => by
    by_cases q : z = x
    · rw [if_pos q, q, hx]
    · rw [if_neg q]
  rw [e]; exact F
theorem fr_same2 {h₀ h : Heap} {L : Addr} {m : Str → Option Value} {x y : Str} {v u : Value} (F : Fr h₀ L h m) (hy : m y = some u) (hx : m x = some v) : Fr h₀ L h (fun z => if z = y then some u else if z = x then some v else m z) := by
  have e : (fun z => if z = y then some u else if z = x then some v else m z) = m := funext fun z => by
    by_cases q : z = y
    · rw [if_pos q, q, hy]
    · rw [if_neg q]
      by_cases q : z = x
      · rw [if_pos q, q, hx]
      · rw [if_neg q]
  rw [e]; exact F
noncomputable def IfEnd (h₀ : Heap) (L : Addr) (x : Str) (m : Str → Option Value) (news : List (Addr × Obj)) (P : Int → Prop) (s₁ : Shared) (fl : Flow) (s₂ : Shared) : Prop :=
  fl = .next ∧ ∃ h' tk' v t, s₂ = { s₁ with heap := h', toks := tk' } ∧ Fr h₀ L h' (fun z => if z = x then some (.int v t) else m z) ∧ News h₀ L h' news ∧ P v
theorem If_cut {prog : Program} {w : World} {A : Around} {E : Value → Shared → Prop} {s : Shared} {env : Env} {st : Stmt} {Q : Flow → Shared → Prop} {h₀ : Heap} {L : Addr} {m : Str → Option Value} {news : List (Addr × Obj)} (x : Str) (P : Int → Prop) (_F : Fr h₀ L s.heap m) (_N : News h₀ L s.heap news)
    (h1 : wpAny (model prog w) A (exec st env) (IfEnd h₀ L x m news P s) E s) (h2 : ∀ h' tk' v t, Fr h₀ L h' (fun z => if z = x then some (.int v t) else m z) → News h₀ L h' news → P v → Q .next { s with heap := h', toks := tk' }) :
    wpAny (model prog w) A (exec st env) Q E s :=
  wpAny_mono h1 (fun fl s' q => by
    obtain ⟨rfl, h', tk', v, t, rfl, F', N', p⟩ := q
    exact h2 h' tk' v t F' N' p) fun _ _ e => e
noncomputable def IfEnd2 (h₀ : Heap) (L : Addr) (x y : Str) (m : Str → Option Value) (news : List (Addr × Obj)) (P : Int → Int → Prop) (s₁ : Shared) (fl : Flow) (s₂ : Shared) : Prop :=
  fl = .next ∧ ∃ h' tk' v t u r, s₂ = { s₁ with heap := h', toks := tk' } ∧ Fr h₀ L h' (fun z => if z = y then some (.int u r) else if z = x then some (.int v t) else m z) ∧ News h₀ L h' news ∧ P v u
theorem If_cut2 {prog : Program} {w : World} {A : Around} {E : Value → Shared → Prop} {s : Shared} {env : Env} {st : Stmt} {Q : Flow → Shared → Prop} {h₀ : Heap} {L : Addr} {m : Str → Option Value} {news : List (Addr × Obj)} (x y : Str) (P : Int → Int → Prop) (_F : Fr h₀ L s.heap m) (_N : News h₀ L s.heap news)
    (h1 : wpAny (model prog w) A (exec st env) (IfEnd2 h₀ L x y m news P s) E s) (h2 : ∀ h' tk' v t u r, Fr h₀ L h' (fun z => if z = y then some (.int u r) else if z = x then some (.int v t) else m z) → News h₀ L h' news → P v u → Q .next { s with heap := h', toks := tk' }) :
    wpAny (model prog w) A (exec st env) Q E s :=
  wpAny_mono h1 (fun fl s' q => by
    obtain ⟨rfl, h', tk', v, t, u, r, rfl, F', N', p⟩ := q
    exact h2 h' tk' v t u r F' N' p) fun _ _ e => e
theorem IfEnd2.set {h₀ h' : Heap} {L : Addr} {x y : Str} {m : Str → Option Value} {news all : List (Addr × Obj)} {P : Int → Int → Prop} {s₁ : Shared} {tk' : Nat} {v u : Int} {t r : Tok} (F : Fr h₀ L h' (fun z => if z = y then some (.int u r) else if z = x then some (.int v t) else m z)) (N : News h₀ L h' all) (sub : ∀ p ∈ news, p ∈ all) (p : P v u) :
    IfEnd2 h₀ L x y m news P s₁ .next { s₁ with heap := h', toks := tk' } := ⟨rfl, h', tk', v, t, u, r, rfl, F, fun q hq => N q (sub q hq), p⟩
theorem IfEnd2.same {h₀ h' : Heap} {L : Addr} {x y : Str} {m : Str → Option Value} {news all : List (Addr × Obj)} {P : Int → Int → Prop} {s₁ : Shared} {tk' : Nat} {v u : Int} {t r : Tok} (F : Fr h₀ L h' m) (N : News h₀ L h' all) (sub : ∀ p ∈ news, p ∈ all) (hy : m y = some (.int u r)) (hx : m x = some (.int v t)) (p : P v u) :
    IfEnd2 h₀ L x y m news P s₁ .next { s₁ with heap := h', toks := tk' } := ⟨rfl, h', tk', v, t, u, r, rfl, fr_same2 F hy hx, fun q hq => N q (sub q hq), p⟩
theorem IfEnd.set {h₀ h' : Heap} {L : Addr} {x : Str} {m : Str → Option Value} {news all : List (Addr × Obj)} {P : Int → Prop} {s₁ : Shared} {tk' : Nat} {v : Int} {t : Tok} (F : Fr h₀ L h' (fun z => if z = x then some (.int v t) else m z)) (N : News h₀ L h' all) (sub : ∀ p ∈ news, p ∈ all) (p : P v) :
    IfEnd h₀ L x m news P s₁ .next { s₁ with heap := h', toks := tk' } := ⟨rfl, h', tk', v, t, rfl, F, fun q hq => N q (sub q hq), p⟩
theorem IfEnd.same {h₀ h' : Heap} {L : Addr} {x : Str} {m : Str → Option Value} {news all : List (Addr × Obj)} {P : Int → Prop} {s₁ : Shared} {tk' : Nat} {v : Int} {t : Tok} (F : Fr h₀ L h' m) (N : News h₀ L h' all) (sub : ∀ p ∈ news, p ∈ all) (hx : m x = some (.int v t)) (p : P v) :
    IfEnd h₀ L x m news P s₁ .next { s₁ with heap := h', toks := tk' } := ⟨rfl, h', tk', v, t, rfl, fr_same F hx, fun q hq => N q (sub q hq), p⟩
end Mine
namespace Mine
open PySem PyProof.Rows
noncomputable def SortedIn (xs : Array Keyed) (lo hi : Nat) : Prop := ∀ i j, lo ≤ i → i ≤ j → j < hi → K xs i ≤ K xs j
noncomputable def FallIn (xs : Array Keyed) (lo hi : Nat) : Prop := ∀ i j, lo ≤ i → i ≤ j → j < hi → K xs j ≤ K xs i
noncomputable def SameTo (xs ys : Array Keyed) (lo : Nat) : Prop := ∀ i, i < lo → K xs i = K ys i
structure SB (a₀ : Array Keyed) (p : Array (Nat × Nat × Nat)) (st : SortSt) : Prop where
  perm : (arrOf st).Perm a₀
  kind : kindOf st = oneType'
  failed : failedOf st = none
  pend : pendingOf st = p
theorem SB.size {a₀ : Array Keyed} {p : Array (Nat × Nat × Nat)} {st : SortSt} (h : SB a₀ p st) : (arrOf st).size = a₀.size := h.perm.size_eq
theorem SB.setArr {a₀ : Array Keyed} {p : Array (Nat × Nat × Nat)} {st : SortSt} (h : SB a₀ p st) {xs : Array Keyed} (hp : xs.Perm (arrOf st)) : SB a₀ p (setArr st xs) :=
  ⟨hp.trans h.perm, h.kind, h.failed, h.pend⟩
theorem key_at {a₀ xs : Array Keyed} (hp : xs.Perm a₀) (h0 : IntKeys a₀) {i : Nat} (hi : i < a₀.size) : ∃ t q, xs[i]? = some (.int (K xs i) t, q) := by
  have hi' : i < xs.size := by rw [hp.size_eq]; exact hi
  have hm : xs[i] ∈ a₀.toList := (Array.perm_iff_toList_perm.mp hp).mem_iff.mp (by simp)
  obtain ⟨n, t, hn⟩ := h0 _ hm
  refine ⟨t, xs[i].2, ?_⟩
  have e : xs[i]? = some xs[i] := getElem?_pos _ i hi'
  have e2 : xs[i] = (.int n t, xs[i].2) := Prod.ext hn rfl
  unfold K
  rw [e, e2]
  rfl
section
variable {prog : Program} {w : World} {A : Around} {E : Value → Shared → Prop} {s : Shared} {a₀ : Array Keyed} {p : Array (Nat × Nat × Nat)}
theorem wpS_lt2 {st : SortSt} {i j : Nat} {Q : Option Bool → SortSt → Prop} (hB : SB a₀ p st) (h0 : IntKeys a₀) (hi : i < a₀.size) (hj : j < a₀.size)
    (h : Q (some (decide (K (arrOf st) i < K (arrOf st) j))) st) : wpS (model prog w) A E s (ltAt' i j) Q st := by
  obtain ⟨t, p, e1⟩ := key_at hB.perm h0 hi
  obtain ⟨u, q, e2⟩ := key_at hB.perm h0 hj
  exact wpS_ltAt hB.kind e1 e2 h
theorem mid_bd {l r : Nat} (h : l < r) : l ≤ (l + r) / 2 ∧ (l + r) / 2 < r := by omega
theorem wpS_binary2 {st : SortSt} {lo n ok : Nat} {Q : Bool → SortSt → Prop} (h0 : IntKeys a₀) (hn : lo + n ≤ a₀.size) (hok : ok ≤ n) (hB : SB a₀ p st) (hs : SortedIn (arrOf st) lo (lo + ok))
    (h : ∀ st', SB a₀ p st' → SortedIn (arrOf st') lo (lo + n) → SameTo (arrOf st') (arrOf st) lo → Q true st') : wpS (model prog w) A E s (binarySort' lo n ok) Q st := by
  rw [binarySort'_eq]
  refine wpS_bind (wpS_mono (wpS_forRange (I := fun k c st' => c = (none, ()) ∧ SB a₀ p st' ∧ SortedIn (arrOf st') lo (lo + min k n) ∧ SameTo (arrOf st') (arrOf st) lo)
    (Q := fun c st' => c = (none, ()) ∧ SB a₀ p st' ∧ SortedIn (arrOf st') lo (lo + n) ∧ SameTo (arrOf st') (arrOf st) lo) ?step ?fin ?init) ?post)
  case post =>
    rintro c st' ⟨rfl, hB', hs', hf⟩
    exact wpS_pure (h st' hB' hs' hf)
  case init =>
    refine ⟨rfl, hB, fun i j hi hij hj => ?_, fun _ _ => rfl⟩
    by_cases h1 : ok = 0
    · have : i = j := by (clear hn hok; omega)
      subst this; exact Int.le_refl _
    · exact hs i j hi hij (by (clear hi hij hn; omega))
  case fin =>
    rintro c st' ⟨hc, hB', hs', hf⟩
    refine ⟨hc, hB', ?_, hf⟩
    rwa [show min (max (max ok 1) n) n = n by (clear hc hn hok; omega)] at hs'
  case step =>
    rintro k c st' hak hkn ⟨rfl, hB', hs', hf⟩
    rw [show min k n = k by (clear hak hn hok; omega)] at hs'
    have hk : lo + k < a₀.size := by (clear hak hok; omega)
    refine wpS_bind (wpS_mono (wpS_forRange (I := fun x c st'' => st'' = st' ∧ ∃ l r, c = (none, l, r) ∧ l ≤ r ∧ r ≤ k ∧ r - l ≤ k - x ∧
        (∀ i, i < l → K (arrOf st') (lo + i) ≤ K (arrOf st') (lo + k)) ∧ (∀ i, r ≤ i → i < k → K (arrOf st') (lo + k) < K (arrOf st') (lo + i)))
      (Q := fun c st'' => st'' = st' ∧ ∃ l r, c = (none, l, r) ∧ l ≤ k ∧
        (∀ i, i < l → K (arrOf st') (lo + i) ≤ K (arrOf st') (lo + k)) ∧ (∀ i, l ≤ i → i < k → K (arrOf st') (lo + k) < K (arrOf st') (lo + i))) ?istep ?ifin ?iinit) ?ipost)
    case iinit => exact ⟨rfl, 0, k, rfl, by (clear hak hk hkn hn hok; omega), by (clear hak hk hkn hn hok; omega), by (clear hak hk hkn hn hok; omega), fun i hi => by (clear hak hk hkn hn hok; omega), fun i h1 h2 => by (clear hak hk hkn hn hok; omega)⟩
    case ifin =>
      rintro c st'' ⟨rfl, l, r, rfl, hlr, hrk, hm, hlo, hhi⟩
      have : l = r := by (clear hak hk hkn hn hok hrk; omega)
      subst this
      exact ⟨rfl, l, l, rfl, hrk, hlo, hhi⟩
    case istep =>
      rintro x c st'' _ hxk ⟨rfl, l, r, rfl, hlr, hrk, hm, hlo, hhi⟩
      dsimp only
      by_cases hge : l ≥ r
      · rw [if_pos hge]
        have : l = r := by (clear hak hk hkn hm hn hok hrk hxk; omega)
        subst this
        exact wpS_pure ⟨rfl, l, l, rfl, hrk, hlo, hhi⟩
      · rw [if_neg hge]
        obtain ⟨hm1, hm2⟩ := mid_bd (Nat.lt_of_not_le hge)
        generalize (l + r) / 2 = md at hm1 hm2 ⊢
        refine wpS_bind (wpS_lt2 hB' h0 hk (by (clear hak hge hkn hlr hm hm1 hn hok hxk; omega)) ?_)
        by_cases hless : K (arrOf st'') (lo + k) < K (arrOf st'') (lo + md)
        · simp only [hless, decide_true, if_true]
          refine wpS_pure ⟨rfl, l, md, rfl, hm1, by (clear hak hge hk hkn hless hlr hm hm1 hn hok hxk; omega), by (clear hak hk hkn hless hlr hn hok hrk; omega), hlo, fun i h1 h2 => ?_⟩
          exact Int.lt_of_lt_of_le hless (hs' _ _ (by (clear h1 h2 hak hge hk hkn hless hlr hm hm1 hm2 hn hok hrk hxk; omega)) (by (clear h2 hak hge hk hkn hless hlr hm hm1 hm2 hn hok hrk hxk; omega)) (by (clear h1 hak hge hk hkn hless hlr hm hm1 hm2 hn hok hrk hxk; omega)))
        · simp only [hless, decide_false, Bool.false_eq_true, if_false]
          refine wpS_pure ⟨rfl, md + 1, r, rfl, hm2, hrk, by (clear hak hk hkn hless hlr hn hok hrk; omega), fun i h1 => ?_, hhi⟩
          exact Int.le_trans (hs' (lo + i) (lo + md) (by (clear h1 hak hge hk hkn hless hlr hm hm1 hm2 hn hok hrk hxk; omega)) (by (clear hak hge hk hkn hless hlr hm hm1 hm2 hn hok hrk hxk; omega)) (by (clear h1 hak hge hk hkn hless hlr hm hm1 hn hok hxk; omega))) (Int.not_lt.mp hless)
    case ipost =>
      rintro c st'' ⟨rfl, l, r, rfl, hlk, hlo, hhi⟩
      show wpS _ _ _ _ (do moveDown' (lo + k) (lo + l); pure (ForInStep.yield (none, ()))) _ _
      rw [moveDown'_eq]
      have hks : lo + k < (arrOf st'').size := by rw [hB'.size]; exact hk
      have hlo' : ∀ i, lo ≤ i → i < lo + l → K (arrOf st'') i ≤ K (arrOf st'') (lo + k) := fun i h1 h2 => by
        have := hlo (i - lo) (by (clear hak hk hkn hks hlk hn hok; omega))
        rwa [show lo + (i - lo) = i by (clear h2 hak hk hkn hks hlk hn hok this; omega)] at this
      have hhi' : ∀ i, lo + l ≤ i → i < lo + k → K (arrOf st'') (lo + k) < K (arrOf st'') i := fun i h1 h2 => by
        have := hhi (i - lo) (by (clear h2 hak hk hkn hks hlk hn hok; omega)) (by (clear hak hk hkn hks hlk hn hok; omega))
        rwa [show lo + (i - lo) = i by (clear h2 hak hk hkn hks hlk hn hok this; omega)] at this
      refine wpS_bind (wpS_modify (wpS_pure ⟨rfl, hB'.setArr (bubble_perm _ _ _), ?_, ?_⟩))
      · rw [show min (k + 1) n = k + 1 by (clear hak hk hks hlk hn hok; omega)]
        intro i j hi hij hj
        show K (bubble (arrOf st'') (lo + k) (lo + k - (lo + l))) i ≤ K (bubble (arrOf st'') (lo + k) (lo + k - (lo + l))) j
        rw [K_bubble hks (by (clear hak hi hij hj hk hkn hks hn hok; omega)), K_bubble hks (by (clear hak hi hij hj hk hkn hks hn hok; omega)), show lo + k - (lo + k - (lo + l)) = lo + l by (clear hak hi hij hj hk hkn hks hn hok; omega)]
        repeat' split
        all_goals first
          | (exfalso; (clear hak hi hk hkn hks hlk hn hok; omega))
          | exact Int.le_refl _
          | exact hlo' _ (by (clear hak hij hj hk hkn hks hlk hn hok; omega)) (by (clear hak hi hk hkn hks hlk hn hok; omega))
          | exact Int.le_of_lt (hhi' _ (by (clear hak hi hij hj hk hkn hks hlk hn hok; omega)) (by (clear hak hi hij hk hkn hks hlk hn hok; omega)))
          | exact hs' _ _ (by (clear hak hij hj hk hkn hks hlk hn hok; omega)) (by (clear hak hi hk hkn hks hlk hn hok; omega)) (by (clear hak hi hij hk hkn hks hn hok; omega))
      · intro i hi
        show K (bubble (arrOf st'') (lo + k) (lo + k - (lo + l))) i = _
        rw [K_bubble hks (by (clear hak hi hk hkn hks hn hok; omega)), if_neg (by (clear hak hk hkn hks hn hok; omega)), if_neg (by (clear hak hk hkn hks hn hok; omega))]
        exact hf i hi
abbrev AscS := Option (Option Nat) × Nat
abbrev DescS := Option (Option Nat) × Nat × Nat
noncomputable def asc2 (lo a nrem : Nat) : StateT SortSt Sem AscS :=
  forIn [a:nrem] ((none, a) : AscS) fun _ c => do
    let x ← ltAt' (lo + c.snd) (lo + c.snd - 1)
    match x with
    | some smaller => if smaller = true then pure (ForInStep.done (none, c.snd)) else pure (ForInStep.yield (none, c.snd + 1))
    | _ => pure (ForInStep.done (some none, c.snd))
noncomputable def last2 (lo n nrem : Nat) : StateT SortSt Sem (Option Nat) := do
  reverseSlice' lo (lo + n)
  let c ← asc2 lo n nrem
  match c.fst with
  | some r => pure r
  | none => pure (some c.snd)
noncomputable def desc2 (lo n nrem : Nat) : StateT SortSt Sem DescS :=
  forIn [n:nrem] ((none, n, 0) : DescS) fun _ c => do
    let x ← ltAt' (lo + c.snd.fst) (lo + c.snd.fst - 1)
    match x with
    | some smaller =>
      if smaller = true then
        if c.snd.snd > 0 then do
          reverseSlice' (lo + c.snd.fst - (c.snd.snd + 1)) (lo + c.snd.fst)
          pure (ForInStep.yield (none, c.snd.fst + 1, 0))
        else pure (ForInStep.yield (none, c.snd.fst + 1, 0))
      else do
        let x ← ltAt' (lo + c.snd.fst - 1) (lo + c.snd.fst)
        match x with
        | some larger =>
          if larger = true then pure (ForInStep.done (none, c.snd.fst, c.snd.snd))
          else pure (ForInStep.yield (none, c.snd.fst + 1, c.snd.snd + 1))
        | _ => pure (ForInStep.done (some none, c.snd.fst, c.snd.snd))
    | _ => pure (ForInStep.done (some none, c.snd.fst, c.snd.snd))
noncomputable def fall2 (lo n nrem : Nat) : StateT SortSt Sem (Option Nat) := do
  liftM (rule "list.sort.descending-run")
  let c ← desc2 lo (n + 1) nrem
  match c.fst with
  | some r => pure r
  | none =>
    if c.snd.snd > 0 then do
      reverseSlice' (lo + c.snd.fst - (c.snd.snd + 1)) (lo + c.snd.fst)
      last2 lo c.snd.fst nrem
    else last2 lo c.snd.fst nrem
theorem count2_eq (lo nrem : Nat) : countRun' lo nrem = (do
    let c ← asc2 lo 1 nrem
    match c.fst with
    | some r => pure r
    | none =>
      if (c.snd == nrem) = true then pure (some c.snd)
      else if c.snd > 1 then do
        let x ← ltAt' lo (lo + c.snd - 1)
        match x with
        | some rose => if rose = true then pure (some c.snd) else do
            reverseSlice' lo (lo + c.snd)
            fall2 lo c.snd nrem
        | _ => pure none
      else fall2 lo c.snd nrem) := by
  rw [countRun'_eq]
  unfold fall2 last2 desc2 asc2
  dsimp only
  congr 1
  funext c
  obtain ⟨r, n⟩ := c
  cases r with
  | some r => rfl
  | none =>
    dsimp only
    split
    · rfl
    · split
      · congr 1
        funext x
        cases x with
        | none => rfl
        | some rose =>
          dsimp only
          split
          · rfl
          · congr 1
            funext _r
            congr 1; funext _u; congr 1; congr 1; funext s2; obtain ⟨r2, n2, q2⟩ := s2
            cases r2 with
            | some r2 => rfl
            | none =>
              dsimp only
              split
              · congr 1; funext _v; congr 1; funext _w; congr 1; funext s3; obtain ⟨r3, n3⟩ := s3; cases r3 <;> rfl
              · congr 1; funext _w; congr 1; funext s3; obtain ⟨r3, n3⟩ := s3; cases r3 <;> rfl
      · congr 1; funext _u; congr 1; congr 1; funext s2; obtain ⟨r2, n2, q2⟩ := s2
        cases r2 with
        | some r2 => rfl
        | none =>
          dsimp only
          split
          · congr 1; funext _v; congr 1; funext _w; congr 1; funext s3; obtain ⟨r3, n3⟩ := s3; cases r3 <;> rfl
          · congr 1; funext _w; congr 1; funext s3; obtain ⟨r3, n3⟩ := s3; cases r3 <;> rfl
theorem wpS_asc2 {st : SortSt} {lo a nrem : Nat} {Q : AscS → SortSt → Prop} (h0 : IntKeys a₀) (hn : lo + nrem ≤ a₀.size) (ha : 1 ≤ a) (han : a ≤ nrem) (hB : SB a₀ p st)
    (hs : SortedIn (arrOf st) lo (lo + a))
    (h : ∀ n, a ≤ n → n ≤ nrem → SortedIn (arrOf st) lo (lo + n) → (n = nrem ∨ K (arrOf st) (lo + n) < K (arrOf st) (lo + n - 1)) → Q (none, n) st) :
    wpS (model prog w) A E s (asc2 lo a nrem) Q st := by
  unfold asc2
  refine wpS_forRange (I := fun x c st' => st' = st ∧ c = (none, x) ∧ SortedIn (arrOf st) lo (lo + x)) ?step ?fin ⟨rfl, rfl, hs⟩
  case fin =>
    rintro c st' ⟨rfl, rfl, hs'⟩
    rw [show max a nrem = nrem by (clear ha hn; omega)] at hs' ⊢
    exact h nrem han (Nat.le_refl _) hs' (.inl rfl)
  case step =>
    rintro x c st' hax hxn ⟨rfl, rfl, hs'⟩
    dsimp only
    refine wpS_bind (wpS_lt2 hB h0 (by (clear ha han hax; omega)) (by (clear han; omega)) ?_)
    by_cases hless : K (arrOf st') (lo + x) < K (arrOf st') (lo + x - 1)
    · simp only [hless, decide_true, if_true]
      exact wpS_pure (h x hax (by (clear ha han hax hless hn; omega)) hs' (.inr hless))
    · simp only [hless, decide_false, Bool.false_eq_true, if_false]
      refine wpS_pure ⟨rfl, rfl, fun i j hi hij hj => ?_⟩
      by_cases hjx : j < lo + x
      · exact hs' i j hi hij hjx
      · have hj' : j = lo + x := by (clear ha han hax hi hij hless hn hxn; omega)
        subst hj'
        by_cases hi' : i = lo + x
        · subst hi'; exact Int.le_refl _
        · exact Int.le_trans (hs' i (lo + x - 1) hi (by (clear ha han hax hi hj hjx hless hn hxn; omega)) (by (clear han hi hi' hij hj hjx hless hn hxn; omega))) (Int.not_lt.mp hless)
theorem wpS_last2 {st : SortSt} {lo n nrem : Nat} {Q : Option Nat → SortSt → Prop} (h0 : IntKeys a₀) (hn : lo + nrem ≤ a₀.size) (h1 : 1 ≤ n) (hnn : n ≤ nrem) (hB : SB a₀ p st)
    (hs : FallIn (arrOf st) lo (lo + n)) (h : ∀ m st', SB a₀ p st' → 1 ≤ m → m ≤ nrem → SortedIn (arrOf st') lo (lo + m) → SameTo (arrOf st') (arrOf st) lo → Q (some m) st') :
    wpS (model prog w) A E s (last2 lo n nrem) Q st := by
  unfold last2
  have hsz : lo + n ≤ (arrOf st).size := by rw [hB.size]; (clear h1; omega)
  refine wpS_bind (wpS_reverse ?_)
  have hB' : SB a₀ p (setArr st (mirror (arrOf st) lo (lo + n) ((lo + n - lo) / 2))) := hB.setArr (mirror_perm _ _ _ _)
  refine wpS_bind (wpS_asc2 h0 hn h1 hnn hB' ?_ fun m hm1 hm2 hsm _ => wpS_pure (h m _ hB' (by (clear hm2 hn hnn hsz; omega)) hm2 hsm ?_))
  · intro i j hi hij hj
    show K (mirror (arrOf st) lo (lo + n) ((lo + n - lo) / 2)) i ≤ K (mirror (arrOf st) lo (lo + n) ((lo + n - lo) / 2)) j
    rw [K_mirror hsz, K_mirror hsz, if_pos (by (clear h1 hn hnn hsz; omega)), if_pos (by (clear h1 hn hnn hsz; omega))]
    exact hs _ _ (by (clear h1 hi hij hn hnn hsz; omega)) (by (clear h1 hi hn hnn hsz; omega)) (by (clear h1 hij hn hnn hsz; omega))
  · intro i hi
    show K (mirror (arrOf st) lo (lo + n) ((lo + n - lo) / 2)) i = _
    rw [K_mirror hsz, if_neg (by (clear h1 hm1 hm2 hn hnn hsz; omega))]
theorem same_mirror {xs : Array Keyed} {lo i j : Nat} (hj : j ≤ xs.size) (hi : lo ≤ i) : SameTo (mirror xs i j ((j - i) / 2)) xs lo := fun k hk => by
  rw [K_mirror hj, if_neg (by (clear hj; omega))]
theorem SameTo.trans {xs ys zs : Array Keyed} {lo : Nat} (h : SameTo xs ys lo) (k : SameTo ys zs lo) : SameTo xs zs lo := fun i hi => (h i hi).trans (k i hi)
theorem wpS_desc2 {st : SortSt} {lo n nrem : Nat} {Q : DescS → SortSt → Prop} (h0 : IntKeys a₀) (hn : lo + nrem ≤ a₀.size) (h1 : 1 ≤ n) (hnn : n ≤ nrem) (hB : SB a₀ p st)
    (hs : FallIn (arrOf st) lo (lo + n))
    (h : ∀ m neq st', SB a₀ p st' → n ≤ m → m ≤ nrem → FallIn (arrOf st') lo (lo + m) → neq + 1 ≤ m → (∀ i, lo + m - (neq + 1) ≤ i → i < lo + m → K (arrOf st') i = K (arrOf st') (lo + m - 1)) → SameTo (arrOf st') (arrOf st) lo → Q (none, m, neq) st') :
    wpS (model prog w) A E s (desc2 lo n nrem) Q st := by
  unfold desc2
  refine wpS_forRange (I := fun x c st' => ∃ neq, c = (none, x, neq) ∧ SB a₀ p st' ∧ FallIn (arrOf st') lo (lo + x) ∧ neq + 1 ≤ x ∧
      (∀ i, lo + x - (neq + 1) ≤ i → i < lo + x → K (arrOf st') i = K (arrOf st') (lo + x - 1)) ∧ SameTo (arrOf st') (arrOf st) lo) ?step ?fin ⟨0, rfl, hB, hs, by (clear hn hnn; omega), fun i h1 h2 => by congr 1; (clear hn hnn; omega), fun _ _ => rfl⟩
  case fin =>
    rintro c st' ⟨neq, rfl, hB', hs', hq, he, hf⟩
    rw [show max n nrem = nrem by (clear h1 hn hq; omega)] at hs' hq he ⊢
    exact h nrem neq st' hB' hnn (Nat.le_refl _) hs' hq he hf
  case step =>
    rintro x c st' hax hxn ⟨neq, rfl, hB', hs', hq, he, hf⟩
    dsimp only
    have hsz : lo + x ≤ (arrOf st').size := by rw [hB'.size]; (clear h1 hax hnn hq; omega)
    refine wpS_bind (wpS_lt2 hB' h0 (by (clear h1 hax hnn hq hsz; omega)) (by (clear h1 hax hnn hsz; omega)) ?_)
    by_cases hless : K (arrOf st') (lo + x) < K (arrOf st') (lo + x - 1)
    · simp only [hless, decide_true, if_true]
      have step1 : ∀ xs : Array Keyed, (∀ k, K xs k = K (arrOf st') k) → FallIn xs lo (lo + (x + 1)) := by
        intro xs hk i j hi hij hj
        rw [hk, hk]
        by_cases hjx : j < lo + x
        · exact hs' i j hi hij hjx
        · have hj' : j = lo + x := by (clear h1 hax hi hij hless hn hnn hq hsz hxn; omega)
          subst hj'
          by_cases hi' : i = lo + x
          · subst hi'; exact Int.le_refl _
          · exact Int.le_trans (Int.le_of_lt hless) (hs' i (lo + x - 1) hi (by (clear h1 hax hi hj hjx hless hn hnn hq hsz hxn; omega)) (by (clear hi hi' hij hj hjx hless hn hnn hq hsz hxn; omega)))
      by_cases hneq : neq > 0
      · rw [if_pos hneq]
        exact wpS_bind (wpS_reverse (wpS_pure ⟨0, rfl, hB'.setArr (mirror_perm _ _ _ _), step1 _ (K_mirror_equal hsz he), by (clear h1 hax hless hn hneq hnn hq hsz hxn; omega), fun i h1 h2 => by congr 1; (clear hless hn hneq hnn hq hsz hxn; omega), (same_mirror hsz (by (clear h1 hax hless hn hneq hnn hsz hxn; omega))).trans hf⟩))
      · rw [if_neg hneq]
        exact wpS_pure ⟨0, rfl, hB', step1 _ (fun _ => rfl), by (clear h1 hax hless hn hneq hnn hq hsz hxn; omega), fun i h1 h2 => by congr 1; (clear hless hn hneq hnn hq hsz hxn; omega), hf⟩
    · simp only [hless, decide_false, Bool.false_eq_true, if_false]
      refine wpS_bind (wpS_lt2 hB' h0 (by (clear h1 hax hless hnn hsz; omega)) (by (clear h1 hax hless hnn hq hsz; omega)) ?_)
      by_cases hlarger : K (arrOf st') (lo + x - 1) < K (arrOf st') (lo + x)
      · simp only [hlarger, decide_true, if_true]
        exact wpS_pure (h x neq st' hB' hax (by (clear h1 hax hlarger hless hn hnn hq hsz; omega)) hs' hq he hf)
      · simp only [hlarger, decide_false, Bool.false_eq_true, if_false]
        have heqx : K (arrOf st') (lo + x) = K (arrOf st') (lo + x - 1) := by (clear h1 hax hn hnn hq hsz hxn; omega)
        refine wpS_pure ⟨neq + 1, rfl, hB', fun i j hi hij hj => ?_, by (clear h1 hax heqx hlarger hless hn hnn hsz hxn; omega), fun i h1 h2 => ?_, hf⟩
        · by_cases hjx : j < lo + x
          · exact hs' i j hi hij hjx
          · have hj' : j = lo + x := by (clear h1 hax heqx hi hij hlarger hless hn hnn hq hsz hxn; omega)
            subst hj'
            by_cases hi' : i = lo + x
            · subst hi'; exact Int.le_refl _
            · rw [heqx]; exact hs' i (lo + x - 1) hi (by (clear h1 hax heqx hi hj hjx hlarger hless hn hnn hq hsz hxn; omega)) (by (clear heqx hi hi' hij hj hjx hlarger hless hn hnn hq hsz hxn; omega))
        · rw [show lo + (x + 1) - 1 = lo + x by (clear h2 heqx hlarger hless hn hnn hq hsz hxn; omega)]
          by_cases hix : i = lo + x
          · subst hix; rfl
          · rw [heqx]; exact he i (by (clear hax heqx hlarger hless hn hnn hsz hxn; omega)) (by (clear hax heqx hlarger hless hn hnn hq hsz hxn; omega))
theorem wpS_fall2 {st : SortSt} {lo n nrem : Nat} {Q : Option Nat → SortSt → Prop} (h0 : IntKeys a₀) (hn : lo + nrem ≤ a₀.size) (hnn : n + 1 ≤ nrem) (hB : SB a₀ p st)
    (hs : FallIn (arrOf st) lo (lo + (n + 1))) (h : ∀ m st', SB a₀ p st' → 1 ≤ m → m ≤ nrem → SortedIn (arrOf st') lo (lo + m) → SameTo (arrOf st') (arrOf st) lo → Q (some m) st') :
    wpS (model prog w) A E s (fall2 lo n nrem) Q st := by
  unfold fall2
  refine wpS_bind (wpS_lift (wpAny_rule ⟨rfl, ?_⟩))
  refine wpS_bind (wpS_desc2 h0 hn (by (clear hn hnn; omega)) hnn hB hs fun m neq st' hB' hm1 hm2 hs' hq he hf => ?_)
  dsimp only
  have hsz : lo + m ≤ (arrOf st').size := by rw [hB'.size]; (clear hm1 hnn hq; omega)
  by_cases hneq : neq > 0
  · rw [if_pos hneq]
    refine wpS_bind (wpS_reverse (wpS_last2 h0 hn (by (clear hm1 hm2 hn hnn hsz; omega)) hm2 (hB'.setArr (mirror_perm _ _ _ _)) ?_ fun m' st2 b1 b2 b3 b4 b5 => h m' st2 b1 b2 b3 b4 (b5.trans ((same_mirror hsz (by (clear b2 b3 hm1 hm2 hn hneq hnn hsz; omega))).trans hf))))
    intro i j hi hij hj
    show K (mirror (arrOf st') _ _ _) j ≤ K (mirror (arrOf st') _ _ _) i
    rw [K_mirror_equal hsz he, K_mirror_equal hsz he]
    exact hs' i j hi hij hj
  · rw [if_neg hneq]
    exact wpS_last2 h0 hn (by (clear hm1 hm2 hn hnn hsz; omega)) hm2 hB' hs' fun m' st2 b1 b2 b3 b4 b5 => h m' st2 b1 b2 b3 b4 (b5.trans hf)
theorem wpS_count2 {st : SortSt} {lo nrem : Nat} {Q : Option Nat → SortSt → Prop} (h0 : IntKeys a₀) (hn : lo + nrem ≤ a₀.size) (h1 : 1 ≤ nrem) (hB : SB a₀ p st)
    (h : ∀ m st', SB a₀ p st' → 1 ≤ m → m ≤ nrem → SortedIn (arrOf st') lo (lo + m) → SameTo (arrOf st') (arrOf st) lo → Q (some m) st') :
    wpS (model prog w) A E s (countRun' lo nrem) Q st := by
  rw [count2_eq]
  refine wpS_bind (wpS_asc2 h0 hn (Nat.le_refl 1) h1 hB (fun i j hi hij hj => by have : i = j := by (clear h1 hn; omega)
                                                                                 subst this; exact Int.le_refl _) fun n hn1 hn2 hsn hor => ?_)
  dsimp only
  by_cases hnn : n = nrem
  · rw [if_pos (by simpa using hnn)]
    exact wpS_pure (h n st hB hn1 hn2 hsn fun _ _ => rfl)
  · rw [if_neg (by simpa using hnn)]
    have hlt : K (arrOf st) (lo + n) < K (arrOf st) (lo + n - 1) := hor.resolve_left hnn
    by_cases hgt : n > 1
    · rw [if_pos hgt]
      refine wpS_bind (wpS_lt2 hB h0 (by (clear hgt hlt hn1 hn2 hnn hor; omega)) (by (clear h1 hlt hn1 hnn hor; omega)) ?_)
      by_cases hrose : K (arrOf st) lo < K (arrOf st) (lo + n - 1)
      · simp only [hrose, decide_true, if_true]
        exact wpS_pure (h n st hB hn1 hn2 hsn fun _ _ => rfl)
      · simp only [hrose, decide_false, Bool.false_eq_true, if_false]
        have hsz : lo + n ≤ (arrOf st).size := by rw [hB.size]; (clear h1 hgt hlt hn1 hnn hor hrose; omega)
        have hall : ∀ k, lo ≤ k → k < lo + n → K (arrOf st) k = K (arrOf st) (lo + n - 1) := by
          intro k hk0 hk
          have a1 := hsn lo k (by (clear h1 hgt hk hk0 hlt hn hn1 hn2 hnn hor hrose hsz; omega)) hk0 hk
          have a2 := hsn k (lo + n - 1) hk0 (by (clear a1 h1 hgt hk0 hlt hn hn1 hn2 hnn hor hrose hsz; omega)) (by (clear a1 h1 hk hk0 hlt hn hn1 hn2 hnn hor hrose hsz; omega))
          (clear h1 hgt hk hk0 hlt hn hn1 hn2 hnn hor hsz; omega)
        refine wpS_bind (wpS_reverse (wpS_fall2 h0 hn (by (clear h1 hgt hlt hn hn1 hor hrose hsz; omega)) (hB.setArr (mirror_perm _ _ _ _)) ?_ fun m' st2 b1 b2 b3 b4 b5 => h m' st2 b1 b2 b3 b4 (b5.trans (same_mirror hsz (Nat.le_refl _)))))
        intro i j hi hij hj
        show K (mirror (arrOf st) _ _ _) j ≤ K (mirror (arrOf st) _ _ _) i
        rw [K_mirror_equal hsz hall, K_mirror_equal hsz hall]
        by_cases hjn : j < lo + n
        · rw [hall i hi (by (clear h1 hgt hi hj hlt hn hn1 hn2 hnn hor hrose hsz; omega)), hall j (by (clear h1 hgt hj hjn hlt hn hn1 hn2 hnn hor hrose hsz; omega)) hjn]; exact Int.le_refl _
        · have hj' : j = lo + n := by (clear h1 hgt hi hij hlt hn hn1 hn2 hnn hor hrose hsz; omega)
          subst hj'
          by_cases hi' : i = lo + n
          · subst hi'; exact Int.le_refl _
          · rw [hall i hi (by (clear h1 hgt hi hj hjn hlt hn hn1 hn2 hnn hor hrose hsz; omega))]; exact Int.le_of_lt hlt
    · rw [if_neg hgt]
      have hn1' : n = 1 := by (clear h1 hlt hn hn2 hnn hor; omega)
      subst hn1'
      refine wpS_fall2 h0 hn (by (clear hgt hlt hn hn1 hn2 hor; omega)) hB ?_ h
      intro i j hi hij hj
      by_cases hi' : i = j
      · subst hi'; exact Int.le_refl _
      · have hi0 : i = lo := by (clear h1 hgt hlt hn hn1 hn2 hnn hor; omega)
        have hj1 : j = lo + 1 := by (clear h1 hgt hi hlt hn hn1 hn2 hnn hor; omega)
        rw [hi0, hj1]
        rw [show lo + 1 - 1 = lo by (clear h1 hgt hi hi' hij hj hlt hn hn1 hn2 hnn hor; omega)] at hlt
        exact Int.le_of_lt hlt
end
end Mine
namespace Mine
open PySem PyProof.Rows
noncomputable def kx (p : Keyed) : Int := numOf p.1
noncomputable def IsK (p : Keyed) : Prop := ∃ n t, p.1 = .int n t
abbrev gal (st : SortSt) (g : Nat) : SortSt := SortSt.mk' (kindOf st) (arrOf st) (pendingOf st) g (failedOf st)
section
variable {prog : Program} {w : World} {A : Around} {E : Value → Shared → Prop} {s : Shared}
theorem wpS_elem {st : SortSt} {arr : Array Keyed} {i : Nat} (hi : i < arr.size) {Q : Keyed → SortSt → Prop} (h : Q arr[i] st) : wpS (model prog w) A E s (elem' arr i) Q st := by
  rw [elem'_eq, getElem?_pos arr i hi]
  exact wpS_pure h
theorem wpS_ltX {st : SortSt} {x y : Keyed} {Q : Option Bool → SortSt → Prop} (hk : kindOf st = oneType') (hx : IsK x) (hy : IsK y) (h : Q (some (decide (kx x < kx y))) st) : wpS (model prog w) A E s (lt' x y) Q st := by
  obtain ⟨x1, x2⟩ := x
  obtain ⟨y1, y2⟩ := y
  obtain ⟨a, t, e1⟩ := hx
  obtain ⟨b, u, e2⟩ := hy
  dsimp only at e1 e2
  subst e1 e2
  rw [lt'_eq]
  refine wpS_bind (wpS_get ?_)
  rw [hk, keyLt'_oneType]
  refine wpS_bind (wpS_lift (wpAny_attempt (oneLt_int ⟨rfl, ?_⟩)))
  exact wpS_pure h
noncomputable def gallop' : Bool → Keyed → Array Keyed → Nat → Nat → Nat → StateT SortSt Sem (Option Nat) := sortPriv% PySem.Builtin.gallop
noncomputable def beyond' (left : Bool) (key : Keyed) (arr : Array Keyed) (base i : Nat) : StateT SortSt Sem (Option Bool) := do
    let x ← elem' arr (base + i)
    if left then lt' x key else return (← lt' key x).map (!·)
theorem gallop'_eq (left : Bool) (key : Keyed) (arr : Array Keyed) (base n hint : Nat) : gallop' left key arr base n hint = (do
  let mut lastofs := 0
  let mut ofs := 1
  let mut lo := 0
  let mut hi := 0
  let some right ← beyond' left key arr base hint | return none
  if right then
    let maxofs := n - hint
    for _ in [0:n] do
      if ofs ≥ maxofs then break
      let some more ← beyond' left key arr base (hint + ofs) | return none
      if !more then break
      lastofs := ofs
      ofs := 2 * ofs + 1
    lo := hint + lastofs + 1
    hi := hint + min ofs maxofs
  else
    let maxofs := hint + 1
    for _ in [0:n] do
      if ofs ≥ maxofs then break
      let some found ← beyond' left key arr base (hint - ofs) | return none
      if found then break
      lastofs := ofs
      ofs := 2 * ofs + 1
    lo := hint + 1 - min ofs maxofs
    hi := hint - lastofs
  for _ in [0:n] do
    if lo ≥ hi then break
    let m := lo + (hi - lo) / 2
    let some more ← beyond' left key arr base m | return none
    if more then lo := m + 1 else hi := m
  return some hi) := rfl
noncomputable def bey (left : Bool) (key : Keyed) (arr : Array Keyed) (base i : Nat) : Bool := match arr[base + i]? with
  | some x => if left then decide (kx x < kx key) else !decide (kx key < kx x)
  | none => false
theorem wpS_bey {st : SortSt} {left : Bool} {key : Keyed} {arr : Array Keyed} {base i : Nat} {Q : Option Bool → SortSt → Prop} (hk : kindOf st = oneType') (hK : IsK key) (hA : ∀ x ∈ arr.toList, IsK x) (hi : base + i < arr.size)
    (h : Q (some (bey left key arr base i)) st) : wpS (model prog w) A E s (beyond' left key arr base i) Q st := by
  unfold beyond'
  have hx : IsK arr[base + i] := hA _ (by simp)
  refine wpS_bind (wpS_elem hi ?_)
  unfold bey at h
  rw [getElem?_pos arr (base + i) hi] at h
  dsimp only at h
  cases left with
  | true =>
    simp only [if_true] at h ⊢
    exact wpS_ltX hk hx hK h
  | false =>
    simp only [Bool.false_eq_true, if_false] at h ⊢
    exact wpS_bind (wpS_ltX hk hK hx (wpS_pure h))
theorem mid_bd2 {l r : Nat} (h : l < r) : l ≤ l + (r - l) / 2 ∧ l + (r - l) / 2 < r := by omega
theorem mid_r {lo hi md n x : Nat} (h1 : lo ≤ md) (hx : x < n) (a : hi - lo ≤ n - x) (h2 : md < hi) : hi - (md + 1) ≤ n - (x + 1) := by omega
theorem mid_l {lo hi md n x : Nat} (h1 : lo ≤ md) (hx : x < n) (a : hi - lo ≤ n - x) (h2 : md < hi) : md - lo ≤ n - (x + 1) := by omega
theorem wpS_gallop {st : SortSt} {left : Bool} {key : Keyed} {arr : Array Keyed} {base n hint : Nat} {Q : Option Nat → SortSt → Prop} (hk : kindOf st = oneType') (hK : IsK key) (hA : ∀ x ∈ arr.toList, IsK x) (hn : base + n ≤ arr.size) (hh : hint < n)
    (hm : ∀ i j, i ≤ j → j < n → bey left key arr base j = true → bey left key arr base i = true)
    (h : ∀ k, k ≤ n → (∀ i, i < k → bey left key arr base i = true) → (∀ i, k ≤ i → i < n → bey left key arr base i = false) → Q (some k) st) :
    wpS (model prog w) A E s (gallop' left key arr base n hint) Q st := by
  have hmf : ∀ i j, i ≤ j → j < n → bey left key arr base i = false → bey left key arr base j = false := fun i j hij hj hf => by
    cases hc : bey left key arr base j with
    | false => rfl
    | true => rw [hm i j hij hj hc] at hf; cases hf
  rw [gallop'_eq]
  dsimp only
  refine wpS_bind (wpS_bey hk hK hA (by (clear hk; omega)) ?_)
  cases hb : bey left key arr base hint with
  | true =>
    dsimp only
    rw [if_pos rfl]
    refine wpS_bind (wpS_mono (wpS_forRange (I := fun x c st' => st' = st ∧ ∃ l o, c = (none, l, o) ∧ l < o ∧ hint + l < n ∧ x + 1 ≤ o ∧ bey left key arr base (hint + l) = true)
      (Q := fun c st' => st' = st ∧ ∃ l o, c = (none, l, o) ∧ l < o ∧ hint + l < n ∧ bey left key arr base (hint + l) = true ∧ (n - hint ≤ o ∨ bey left key arr base (hint + o) = false)) ?step ?fin ⟨rfl, 0, 1, rfl, by (clear hb hh hk hn; omega), by (clear hb hk hn; omega), by (clear hb hh hk hn; omega), hb⟩) ?post)
    case fin =>
      rintro c st' ⟨rfl, l, o, rfl, a1, a2, a3, a4⟩
      exact ⟨rfl, l, o, rfl, a1, a2, a4, .inl (by (clear a1 a2 a4 hb hk hn; omega))⟩
    case step =>
      rintro x c st' _ hx ⟨rfl, l, o, rfl, a1, a2, a3, a4⟩
      dsimp only
      by_cases hge : o ≥ n - hint
      · rw [if_pos hge]
        exact wpS_pure ⟨rfl, l, o, rfl, a1, a2, a4, .inl hge⟩
      · rw [if_neg hge]
        refine wpS_bind (wpS_bey hk hK hA (by (clear a1 a2 a3 a4 hb hk hx; omega)) ?_)
        cases hc : bey left key arr base (hint + o) with
        | false =>
          simp only [Bool.not_false, if_true]
          exact wpS_pure ⟨rfl, l, o, rfl, a1, a2, a4, .inr hc⟩
        | true =>
          simp only [Bool.not_true, Bool.false_eq_true, if_false]
          exact wpS_pure ⟨rfl, o, 2 * o + 1, rfl, by (clear a1 a2 a3 a4 hb hc hge hh hk hn hx; omega), by (clear a1 a2 a3 a4 hb hc hk hn hx; omega), by (clear a1 a2 a4 hb hc hge hh hk hn hx; omega), hc⟩
    case post =>
      rintro c st0 ⟨e0, l, o, rfl, a1, a2, a4, a5⟩
      subst e0
      dsimp only
      refine wpS_bind (wpS_mono (wpS_forRange (I := fun x c st' => st' = st0 ∧ ∃ lo hi, c = (none, lo, hi) ∧ lo ≤ hi ∧ hi ≤ n ∧ hi - lo ≤ n - x ∧ (∀ i, i < lo → bey left key arr base i = true) ∧ (∀ i, hi ≤ i → i < n → bey left key arr base i = false))
        (Q := fun c st' => st' = st0 ∧ ∃ k, c = (none, k, k) ∧ k ≤ n ∧ (∀ i, i < k → bey left key arr base i = true) ∧ (∀ i, k ≤ i → i < n → bey left key arr base i = false)) ?step2 ?fin2 ⟨rfl, _, _, rfl, by (clear a4 a5 hb hk hn; omega), by (clear a1 a2 a4 a5 hb hk hn; omega), by (clear a1 a2 a4 a5 hb hk hn; omega), ?ini1, ?ini2⟩) ?post2)
      case ini1 => exact fun i hi => hm i _ (by (clear a1 a2 a4 a5 hb hh hk hn; omega)) a2 a4
      case ini2 => 
        intro i h1 h2
        rcases a5 with h3 | h3
        · (clear a1 a2 a4 hb hk hn; omega)
        · by_cases h4 : n - hint ≤ o
          · (clear a1 a2 a4 h3 hb hk hn; omega)
          · exact hmf _ i (by (clear a1 a2 a4 h2 h3 hb hk hn; omega)) h2 h3
      case fin2 =>
        rintro c st' ⟨rfl, lo, hi, rfl, a1, a2, a3, a4, a5⟩
        have : lo = hi := by (clear hb hh hk hn; omega)
        subst this
        exact ⟨rfl, lo, rfl, a2, a4, a5⟩
      case step2 =>
        rintro x c st' _ hx ⟨rfl, lo, hi, rfl, a1, a2, a3, a4, a5⟩
        dsimp only
        by_cases hge : lo ≥ hi
        · rw [if_pos hge]
          have : lo = hi := by (clear a3 hb hh hk hn hx; omega)
          subst this
          exact wpS_pure ⟨rfl, lo, rfl, a2, a4, a5⟩
        · rw [if_neg hge]
          obtain ⟨hm1, hm2⟩ := mid_bd2 (Nat.lt_of_not_le hge)
          generalize lo + (hi - lo) / 2 = md at hm1 hm2 ⊢
          have hm3 := Nat.lt_of_lt_of_le hm2 a2
          refine wpS_bind (wpS_bey hk hK hA (Nat.lt_of_lt_of_le (Nat.add_lt_add_left hm3 base) hn) ?_)
          cases hb : bey left key arr base md with
          | true =>
            simp only [if_true]
            exact wpS_pure ⟨rfl, _, hi, rfl, hm2, a2, mid_r hm1 hx a3 hm2, fun i hi' => hm i _ (Nat.le_of_lt_succ hi') hm3 hb, a5⟩
          | false =>
            simp only [Bool.false_eq_true, if_false]
            exact wpS_pure ⟨rfl, lo, _, rfl, hm1, Nat.le_of_lt hm3, mid_l hm1 hx a3 hm2, a4, fun i h3 h4 => hmf _ i h3 h4 hb⟩
      case post2 =>
        rintro c st' ⟨e1, k, rfl, b1, b2, b3⟩
        subst e1
        exact wpS_pure (h k b1 b2 b3)
  | false =>
    dsimp only
    rw [if_neg (by decide)]
    refine wpS_bind (wpS_mono (wpS_forRange (I := fun x c st' => st' = st ∧ ∃ l o, c = (none, l, o) ∧ l < o ∧ l ≤ hint ∧ x + 1 ≤ o ∧ bey left key arr base (hint - l) = false)
      (Q := fun c st' => st' = st ∧ ∃ l o, c = (none, l, o) ∧ l < o ∧ l ≤ hint ∧ bey left key arr base (hint - l) = false ∧ (hint + 1 ≤ o ∨ bey left key arr base (hint - o) = true)) ?step ?fin ⟨rfl, 0, 1, rfl, by (clear hb hh hk hn; omega), by (clear hb hh hk hn; omega), by (clear hb hh hk hn; omega), hb⟩) ?post)
    case fin =>
      rintro c st' ⟨rfl, l, o, rfl, a1, a2, a3, a4⟩
      exact ⟨rfl, l, o, rfl, a1, a2, a4, .inl (by (clear a1 a2 a4 hb hk hn; omega))⟩
    case step =>
      rintro x c st' _ hx ⟨rfl, l, o, rfl, a1, a2, a3, a4⟩
      dsimp only
      by_cases hge : o ≥ hint + 1
      · rw [if_pos hge]
        exact wpS_pure ⟨rfl, l, o, rfl, a1, a2, a4, .inl hge⟩
      · rw [if_neg hge]
        refine wpS_bind (wpS_bey hk hK hA (by (clear a1 a2 a4 hb hk hx; omega)) ?_)
        cases hc : bey left key arr base (hint - o) with
        | true =>
          simp only [if_true]
          exact wpS_pure ⟨rfl, l, o, rfl, a1, a2, a4, .inr hc⟩
        | false =>
          simp only [Bool.false_eq_true, if_false]
          exact wpS_pure ⟨rfl, o, 2 * o + 1, rfl, by (clear a1 a2 a3 a4 hb hc hge hh hk hn hx; omega), by (clear a1 a2 a3 a4 hb hc hh hk hn hx; omega), by (clear a1 a2 a4 hb hc hge hh hk hn hx; omega), hc⟩
    case post =>
      rintro c st0 ⟨e0, l, o, rfl, a1, a2, a4, a5⟩
      subst e0
      dsimp only
      refine wpS_bind (wpS_mono (wpS_forRange (I := fun x c st' => st' = st0 ∧ ∃ lo hi, c = (none, lo, hi) ∧ lo ≤ hi ∧ hi ≤ n ∧ hi - lo ≤ n - x ∧ (∀ i, i < lo → bey left key arr base i = true) ∧ (∀ i, hi ≤ i → i < n → bey left key arr base i = false))
        (Q := fun c st' => st' = st0 ∧ ∃ k, c = (none, k, k) ∧ k ≤ n ∧ (∀ i, i < k → bey left key arr base i = true) ∧ (∀ i, k ≤ i → i < n → bey left key arr base i = false)) ?step2 ?fin2 ⟨rfl, _, _, rfl, by (clear a4 a5 hb hh hk hn; omega), by (clear a1 a4 a5 hb hk hn; omega), by (clear a1 a2 a4 a5 hb hk hn; omega), ?ini1, ?ini2⟩) ?post2)
      case ini1 => 
        intro i hi
        rcases a5 with h3 | h3
        · (clear a1 a2 a4 hb hh hk hn; omega)
        · by_cases h4 : hint + 1 ≤ o
          · (clear a1 a2 a4 h3 hb hh hk hn; omega)
          · exact hm i _ (by (clear a1 a2 a4 h3 hb hh hk hn; omega)) (by (clear a2 a4 h3 hb hi hk hn; omega)) h3
      case ini2 => exact fun i h1 h2 => hmf _ i h1 h2 a4
      case fin2 =>
        rintro c st' ⟨rfl, lo, hi, rfl, a1, a2, a3, a4, a5⟩
        have : lo = hi := by (clear hb hh hk hn; omega)
        subst this
        exact ⟨rfl, lo, rfl, a2, a4, a5⟩
      case step2 =>
        rintro x c st' _ hx ⟨rfl, lo, hi, rfl, a1, a2, a3, a4, a5⟩
        dsimp only
        by_cases hge : lo ≥ hi
        · rw [if_pos hge]
          have : lo = hi := by (clear a3 hb hh hk hn hx; omega)
          subst this
          exact wpS_pure ⟨rfl, lo, rfl, a2, a4, a5⟩
        · rw [if_neg hge]
          obtain ⟨hm1, hm2⟩ := mid_bd2 (Nat.lt_of_not_le hge)
          generalize lo + (hi - lo) / 2 = md at hm1 hm2 ⊢
          have hm3 := Nat.lt_of_lt_of_le hm2 a2
          refine wpS_bind (wpS_bey hk hK hA (Nat.lt_of_lt_of_le (Nat.add_lt_add_left hm3 base) hn) ?_)
          cases hb : bey left key arr base md with
          | true =>
            simp only [if_true]
            exact wpS_pure ⟨rfl, _, hi, rfl, hm2, a2, mid_r hm1 hx a3 hm2, fun i hi' => hm i _ (Nat.le_of_lt_succ hi') hm3 hb, a5⟩
          | false =>
            simp only [Bool.false_eq_true, if_false]
            exact wpS_pure ⟨rfl, lo, _, rfl, hm1, Nat.le_of_lt hm3, mid_l hm1 hx a3 hm2, a4, fun i h3 h4 => hmf _ i h3 h4 hb⟩
      case post2 =>
        rintro c st' ⟨e1, k, rfl, b1, b2, b3⟩
        subst e1
        exact wpS_pure (h k b1 b2 b3)
end
end Mine
namespace Mine
open PySem PyProof.Rows
noncomputable def setMinGallop' : Nat → StateT SortSt Sem Unit := sortPriv% PySem.Builtin.setMinGallop
theorem setMinGallop'_eq (g : Nat) : setMinGallop' g = modify (fun st => gal st g) := rfl
section
variable {σ α : Type} {M : Model} {A : Around} {E : Value → Shared → Prop} {s : Shared} {Q : α → σ → Prop} {st : σ}
theorem wpS_if {c : Prop} {i : Decidable c} {t e : StateT σ Sem α} (h1 : c → wpS M A E s t Q st) (h2 : ¬ c → wpS M A E s e Q st) : wpS M A E s (if c then t else e) Q st := by
  by_cases h : c
  · rw [if_pos h]; exact h1 h
  · rw [if_neg h]; exact h2 h
theorem wpS_let {β : Type} {v : β} {f : β → StateT σ Sem α} (h : wpS M A E s (f v) Q st) : wpS M A E s (have x := v; f x) Q st := h
theorem wpS_ifG {F t : Nat → StateT σ Sem α} {c : Nat → Prop} {i : ∀ g, Decidable (c g)} (f : Nat → Nat) (k : ∀ g, wpS M A E s (F g) Q st) (ht : ∀ g, t g = F (f g)) : ∀ g, wpS M A E s (if c g then t g else F g) Q st := fun g => by
  by_cases h : c g
  · rw [if_pos h, ht]; exact k _
  · rw [if_neg h]; exact k g
end
theorem wpS_setMin {M : Model} {A : Around} {E : Value → Shared → Prop} {s : Shared} {g : Nat} {Q : PUnit → SortSt → Prop} {st : SortSt} (h : Q ⟨⟩ (gal st g)) : wpS M A E s (setMinGallop' g) Q st := by
  rw [setMinGallop'_eq]
  exact wpS_modify h
theorem pred_lt {n m : Nat} (h : 0 < n) (k : n ≤ m) : n - 1 < m := by omega
theorem ne_of_beq {n m : Nat} (h : ¬ (n == m) = true) : n ≠ m := fun e => h (by simp [e])
theorem lt_pred2 {n : Nat} (h : 1 < n) (k : n - 1 ≠ 1) : 1 < n - 1 := by omega
theorem lt_two {n : Nat} (h : n ≠ 1) (k : n ≠ 0) : 1 < n := by omega
theorem eq_of_sub {k n : Nat} (h : k ≤ n) (z : ¬ n - k > 0) : k = n := by omega
end Mine
namespace Mine
open PySem PyProof.Rows
noncomputable def leK (p q : Keyed) : Prop := kx p ≤ kx q
noncomputable def SL (l : List Keyed) : Prop := l.Pairwise leK
structure MI (A B O : List Keyed) (ia ib : Nat) : Prop where
  la : ia ≤ A.length
  lb : ib ≤ B.length
  perm : O.Perm (A.take ia ++ B.take ib)
  sl : SL O
  oa : ∀ p ∈ O, ∀ q ∈ A.drop ia, leK p q
  ob : ∀ p ∈ O, ∀ q ∈ B.drop ib, leK p q
theorem drop_split {α : Type} (l : List α) (i k : Nat) : l.drop i = (l.drop i).take k ++ l.drop (i + k) := by
  rw [← List.drop_drop]; exact (List.take_append_drop k _).symm
theorem SL.split {l : List Keyed} (h : SL l) (i k : Nat) : SL ((l.drop i).take k) ∧ ∀ p ∈ (l.drop i).take k, ∀ q ∈ l.drop (i + k), leK p q := by
  have h1 : SL (l.drop i) := h.sublist (List.drop_sublist i l)
  rw [drop_split l i k] at h1
  have := List.pairwise_append.mp h1
  exact ⟨this.1, this.2.2⟩
theorem MI.a {A B O : List Keyed} {ia ib : Nat} (h : MI A B O ia ib) (hA : SL A) (k : Nat) (hk : ia + k ≤ A.length) (hc : ∀ p ∈ (A.drop ia).take k, ∀ q ∈ B.drop ib, leK p q) : MI A B (O ++ (A.drop ia).take k) (ia + k) ib where
  la := hk
  lb := h.lb
  perm := by
    rw [List.take_add]
    refine (h.perm.append_right _).trans ?_
    rw [List.append_assoc, List.append_assoc]
    exact List.Perm.append_left _ List.perm_append_comm
  sl := List.pairwise_append.mpr ⟨h.sl, (hA.split ia k).1, fun p hp q hq => h.oa p hp q (List.mem_of_mem_take hq)⟩
  oa := fun p hp q hq => by
    rcases List.mem_append.mp hp with hp | hp
    · exact h.oa p hp q (by rw [drop_split A ia k]; exact List.mem_append_right _ hq)
    · exact (hA.split ia k).2 p hp q hq
  ob := fun p hp q hq => by
    rcases List.mem_append.mp hp with hp | hp
    · exact h.ob p hp q hq
    · exact hc p hp q hq
theorem MI.b {A B O : List Keyed} {ia ib : Nat} (h : MI A B O ia ib) (hB : SL B) (k : Nat) (hk : ib + k ≤ B.length) (hc : ∀ p ∈ (B.drop ib).take k, ∀ q ∈ A.drop ia, leK p q) : MI A B (O ++ (B.drop ib).take k) ia (ib + k) where
  la := h.la
  lb := hk
  perm := by
    rw [List.take_add, ← List.append_assoc]
    exact h.perm.append_right _
  sl := List.pairwise_append.mpr ⟨h.sl, (hB.split ib k).1, fun p hp q hq => h.ob p hp q (List.mem_of_mem_take hq)⟩
  oa := fun p hp q hq => by
    rcases List.mem_append.mp hp with hp | hp
    · exact h.oa p hp q hq
    · exact hc p hp q hq
  ob := fun p hp q hq => by
    rcases List.mem_append.mp hp with hp | hp
    · exact h.ob p hp q (by rw [drop_split B ib k]; exact List.mem_append_right _ hq)
    · exact (hB.split ib k).2 p hp q hq
noncomputable def Merged (A B O : List Keyed) : Prop := O.Perm (A ++ B) ∧ SL O
theorem MI.full {A B O : List Keyed} (h : MI A B O A.length B.length) : Merged A B O := ⟨by have := h.perm; rwa [List.take_length, List.take_length] at this, h.sl⟩
theorem MI.endA {A B O : List Keyed} {ia : Nat} (h : MI A B O ia B.length) (hA : SL A) : Merged A B (O ++ A.drop ia) := by
  have h' := h.a hA (A.length - ia) (by have := h.la; omega) (fun p hp q hq => by rw [List.drop_length] at hq; cases hq)
  rw [show ia + (A.length - ia) = A.length by have := h.la; omega, List.take_of_length_le (by rw [List.length_drop]; omega)] at h'
  exact h'.full
theorem MI.endB {A B O : List Keyed} {ib : Nat} (h : MI A B O A.length ib) (hB : SL B) : Merged A B (O ++ B.drop ib) := by
  have h' := h.b hB (B.length - ib) (by have := h.lb; omega) (fun p hp q hq => by rw [List.drop_length] at hq; cases hq)
  rw [show ib + (B.length - ib) = B.length by have := h.lb; omega, List.take_of_length_le (by rw [List.length_drop]; omega)] at h'
  exact h'.full
theorem MI.endBA {A B O : List Keyed} {ia ib : Nat} (h : MI A B O ia ib) (hA : SL A) (hB : SL B) (hc : ∀ p ∈ B, ∀ q ∈ A.drop ia, leK p q) : Merged A B (O ++ B.drop ib ++ A.drop ia) := by
  have h' := h.b hB (B.length - ib) (by have := h.lb; omega) (fun p hp q hq => hc p (List.mem_of_mem_drop (List.mem_of_mem_take hp)) q hq)
  rw [show ib + (B.length - ib) = B.length by have := h.lb; omega, List.take_of_length_le (by rw [List.length_drop]; omega)] at h'
  exact h'.endA hA
theorem take_one {α : Type} (l : List α) (i : Nat) (h : i < l.length) : (l.drop i).take 1 = [l[i]] := by
  rw [List.drop_eq_getElem_cons h, List.take_succ_cons, List.take_zero]
theorem SL.rest {l : List Keyed} (h : SL l) {i : Nat} (hi : i < l.length) : ∀ q ∈ l.drop i, leK l[i] q := by
  intro q hq
  have h1 : SL (l.drop i) := h.sublist (List.drop_sublist i l)
  rw [List.drop_eq_getElem_cons hi] at h1 hq
  rcases List.mem_cons.mp hq with rfl | hq
  · exact Int.le_refl _
  · exact (List.pairwise_cons.mp h1).1 q hq
theorem SL.ahead {l : List Keyed} (h : SL l) {i : Nat} (hi : i < l.length) : ∀ q ∈ l.take (i + 1), leK q l[i] := by
  intro q hq
  have h1 : SL (l.take (i + 1)) := h.sublist (List.take_sublist _ l)
  rw [List.take_succ_eq_append_getElem hi] at h1 hq
  rcases List.mem_append.mp hq with hq | hq
  · exact (List.pairwise_append.mp h1).2.2 q hq _ (List.mem_singleton.mpr rfl)
  · rw [List.mem_singleton.mp hq]; exact Int.le_refl _
section
variable {prog : Program} {w : World} {A : Around} {E : Value → Shared → Prop} {s : Shared}
noncomputable def mergeLo' : Array Keyed → Array Keyed → StateT SortSt Sem (Array Keyed) := sortPriv% PySem.Builtin.mergeLo
theorem mergeLo'_eq (a b : Array Keyed) : mergeLo' a b = (do
  rule "list.sort.merge-lo"
  let total := a.size + b.size
  let done (out : Array Keyed) (ia ib : Nat) := out ++ a.extract ia a.size ++ b.extract ib b.size
  let lastOfA (out : Array Keyed) (ia ib : Nat) := out ++ b.extract ib b.size ++ a.extract ia a.size
  let mut out : Array Keyed := #[← elem' b 0]
  let mut ia := 0
  let mut ib := 1
  if ib == b.size then return done out ia ib
  if ia + 1 == a.size then return lastOfA out ia ib
  let mut minGallop := gallopOf (← get)
  for _ in [0:total] do
    let mut acount := 0
    let mut bcount := 0
    for _ in [0:total] do
      let some bWins ← lt' (← elem' b ib) (← elem' a ia) | return done out ia ib
      if bWins then
        out := out.push (← elem' b ib); ib := ib + 1; bcount := bcount + 1; acount := 0
        if ib == b.size then return done out ia ib
        if bcount ≥ minGallop then break
      else
        out := out.push (← elem' a ia); ia := ia + 1; acount := acount + 1; bcount := 0
        if ia + 1 == a.size then return lastOfA out ia ib
        if acount ≥ minGallop then break
    rule "list.sort.gallop"
    minGallop := minGallop + 1
    for _ in [0:total] do
      if minGallop > 1 then minGallop := minGallop - 1
      setMinGallop' minGallop
      let some k ← gallop' false (← elem' b ib) a ia (a.size - ia) 0 | return done out ia ib
      acount := k
      if k > 0 then
        out := out ++ a.extract ia (ia + k); ia := ia + k
        if ia + 1 == a.size then return lastOfA out ia ib
        if ia == a.size then return done out ia ib
      out := out.push (← elem' b ib); ib := ib + 1
      if ib == b.size then return done out ia ib
      let some k ← gallop' true (← elem' a ia) b ib (b.size - ib) 0 | return done out ia ib
      bcount := k
      if k > 0 then
        out := out ++ b.extract ib (ib + k); ib := ib + k
        if ib == b.size then return done out ia ib
      out := out.push (← elem' a ia); ia := ia + 1
      if ia + 1 == a.size then return lastOfA out ia ib
      if acount < 7 && bcount < 7 then break
    minGallop := minGallop + 1
    setMinGallop' minGallop
  unsupported "internal:list.sort.merge-bound") := rfl
theorem mem_drop {α : Type} {l : List α} {i : Nat} {p : α} (h : p ∈ l.drop i) : ∃ j, ∃ (hj : i + j < l.length), p = l[i + j] := by
  obtain ⟨j, hj, e⟩ := List.getElem_of_mem h
  rw [List.getElem_drop] at e
  rw [List.length_drop] at hj
  exact ⟨j, by (clear e; omega), e.symm⟩
theorem mem_dropTake {α : Type} {l : List α} {i k : Nat} {p : α} (h : p ∈ (l.drop i).take k) : ∃ j, j < k ∧ ∃ (hj : i + j < l.length), p = l[i + j] := by
  obtain ⟨j, hj, e⟩ := List.getElem_of_mem h
  rw [List.getElem_take, List.getElem_drop] at e
  rw [List.length_take, List.length_drop] at hj
  exact ⟨j, by (clear e; omega), by (clear e; omega), e.symm⟩
theorem bey_f {key : Keyed} {arr : Array Keyed} {base i : Nat} (h : base + i < arr.toList.length) : bey false key arr base i = !decide (kx key < kx arr.toList[base + i]) := by
  unfold bey
  rw [getElem?_pos arr (base + i) (by simpa using h)]
  simp
theorem bey_t {key : Keyed} {arr : Array Keyed} {base i : Nat} (h : base + i < arr.toList.length) : bey true key arr base i = decide (kx arr.toList[base + i] < kx key) := by
  unfold bey
  rw [getElem?_pos arr (base + i) (by simpa using h)]
  simp
theorem SL.at {l : List Keyed} (h : SL l) {i j : Nat} (hij : i ≤ j) (hj : j < l.length) : leK l[i] l[j] := by
  by_cases e : i = j
  · subst e; exact Int.le_refl _
  · exact List.pairwise_iff_getElem.mp h i j (by (clear e; omega)) hj (by (clear hj; omega))
theorem mono_f {key : Keyed} {arr : Array Keyed} (hs : SL arr.toList) {base n : Nat} (hn : base + n ≤ arr.toList.length) : ∀ i j, i ≤ j → j < n → bey false key arr base j = true → bey false key arr base i = true := by
  intro i j hij hj h
  rw [bey_f (by (clear h; omega))] at h ⊢
  have := hs.at (i := base + i) (j := base + j) (by (clear h; omega)) (by (clear h hij; omega))
  simp only [leK, Bool.not_eq_true', decide_eq_false_iff_not] at *
  omega
theorem mono_t {key : Keyed} {arr : Array Keyed} (hs : SL arr.toList) {base n : Nat} (hn : base + n ≤ arr.toList.length) : ∀ i j, i ≤ j → j < n → bey true key arr base j = true → bey true key arr base i = true := by
  intro i j hij hj h
  rw [bey_t (by (clear h; omega))] at h ⊢
  have := hs.at (i := base + i) (j := base + j) (by (clear h; omega)) (by (clear h hij; omega))
  simp only [leK, decide_eq_true_eq] at *
  omega
theorem found_f {key : Keyed} {arr : Array Keyed} {base n k : Nat} (hn : base + n = arr.toList.length) (hk : k ≤ n) (h1 : ∀ i, i < k → bey false key arr base i = true) (h2 : ∀ i, k ≤ i → i < n → bey false key arr base i = false) :
    (∀ p ∈ (arr.toList.drop base).take k, kx p ≤ kx key) ∧ ∀ q ∈ arr.toList.drop (base + k), kx key < kx q := by
  refine ⟨fun p hp => ?_, fun q hq => ?_⟩
  · obtain ⟨j, hj, hl, rfl⟩ := mem_dropTake hp
    have := h1 j hj
    rw [bey_f hl] at this
    simpa using this
  · obtain ⟨j, hl, rfl⟩ := mem_drop hq
    have := h2 (k + j) (by (clear hk hn; omega)) (by (clear hk; omega))
    rw [bey_f (by (clear hk this; omega))] at this
    have e : base + (k + j) = base + k + j := by (clear hk this; omega)
    simp only [e] at this
    simpa using this
theorem found_t {key : Keyed} {arr : Array Keyed} {base n k : Nat} (hn : base + n = arr.toList.length) (hk : k ≤ n) (h1 : ∀ i, i < k → bey true key arr base i = true) (h2 : ∀ i, k ≤ i → i < n → bey true key arr base i = false) :
    (∀ p ∈ (arr.toList.drop base).take k, kx p < kx key) ∧ ∀ q ∈ arr.toList.drop (base + k), kx key ≤ kx q := by
  refine ⟨fun p hp => ?_, fun q hq => ?_⟩
  · obtain ⟨j, hj, hl, rfl⟩ := mem_dropTake hp
    have := h1 j hj
    rw [bey_t hl] at this
    simpa using this
  · obtain ⟨j, hl, rfl⟩ := mem_drop hq
    have := h2 (k + j) (by (clear hk hn; omega)) (by (clear hk; omega))
    rw [bey_t (by (clear hk this; omega))] at this
    have e : base + (k + j) = base + k + j := by (clear hk this; omega)
    simp only [e] at this
    simpa using this
theorem cut_list (a : Array Keyed) (i k : Nat) : (a.extract i (i + k)).toList = (a.toList.drop i).take k := by
  rw [Array.toList_extract, List.extract_eq_take_drop]; congr 1; omega
theorem cut_rest (a : Array Keyed) (i : Nat) : (a.extract i a.size).toList = a.toList.drop i := by
  rw [Array.toList_extract, List.extract_eq_take_drop, List.take_of_length_le]
  rw [List.length_drop, Array.length_toList]; omega
structure Half (a b out : Array Keyed) (ia ib : Nat) : Prop where
  mi : MI a.toList b.toList out.toList ia ib
  ra : ia + 1 < a.size
  rb : ib < b.size
abbrev Whole (a b r : Array Keyed) : Prop := Merged a.toList b.toList r.toList
theorem whole_b {a b out : Array Keyed} {ia ib : Nat} (sA : SL a.toList) (m : MI a.toList b.toList out.toList ia ib) (e : ib = b.size) : Whole a b (out ++ a.extract ia a.size ++ b.extract ib b.size) := by
  subst e
  show Merged _ _ _
  rw [Array.toList_append, Array.toList_append, cut_rest, cut_rest, show b.toList.drop b.size = [] by rw [← Array.length_toList]; exact List.drop_length, List.append_nil]
  exact (show MI a.toList b.toList out.toList ia b.toList.length by rw [Array.length_toList]; exact m).endA sA
theorem whole_a {a b out : Array Keyed} {ia ib : Nat} (sB : SL b.toList) (m : MI a.toList b.toList out.toList ia ib) (e : ia = a.size) : Whole a b (out ++ a.extract ia a.size ++ b.extract ib b.size) := by
  subst e
  show Merged _ _ _
  rw [Array.toList_append, Array.toList_append, cut_rest, cut_rest, show a.toList.drop a.size = [] by rw [← Array.length_toList]; exact List.drop_length, List.append_nil]
  exact (show MI a.toList b.toList out.toList a.toList.length ib by rw [Array.length_toList]; exact m).endB sB
theorem whole_l {a b out : Array Keyed} {ia ib : Nat} (sA : SL a.toList) (sB : SL b.toList) (m : MI a.toList b.toList out.toList ia ib) (e : ia + 1 = a.size) (hl : ∀ p ∈ b.toList, ∀ q ∈ a.toList.drop (a.size - 1), leK p q) : Whole a b (out ++ b.extract ib b.size ++ a.extract ia a.size) := by
  show Merged _ _ _
  rw [Array.toList_append, Array.toList_append, cut_rest, cut_rest]
  refine m.endBA sA sB fun p hp q hq => hl p hp q ?_
  rwa [show a.size - 1 = ia by omega]
theorem push_b {a b out : Array Keyed} {ia ib : Nat} (sA : SL a.toList) (sB : SL b.toList) (m : MI a.toList b.toList out.toList ia ib) (hb : ib < b.size) (hc : ∀ q ∈ a.toList.drop ia, leK b[ib] q) : MI a.toList b.toList (out.push b[ib]).toList ia (ib + 1) := by
  have hb' : ib < b.toList.length := by rwa [Array.length_toList]
  have := m.b sB 1 (by rw [Array.length_toList]; exact hb) (by rw [take_one _ _ hb']; intro p hp q hq; rw [List.mem_singleton.mp hp]; simpa using hc q hq)
  rw [take_one _ _ hb'] at this
  rw [Array.toList_push]
  simpa using this
theorem push_a {a b out : Array Keyed} {ia ib : Nat} (sA : SL a.toList) (sB : SL b.toList) (m : MI a.toList b.toList out.toList ia ib) (ha : ia < a.size) (hc : ∀ q ∈ b.toList.drop ib, leK a[ia] q) : MI a.toList b.toList (out.push a[ia]).toList (ia + 1) ib := by
  have ha' : ia < a.toList.length := by rwa [Array.length_toList]
  have := m.a sA 1 (by rw [Array.length_toList]; exact ha) (by rw [take_one _ _ ha']; intro p hp q hq; rw [List.mem_singleton.mp hp]; simpa using hc q hq)
  rw [take_one _ _ ha'] at this
  rw [Array.toList_push]
  simpa using this
theorem chunk_a {a b out : Array Keyed} {ia ib k : Nat} (sA : SL a.toList) (m : MI a.toList b.toList out.toList ia ib) (hk : ia + k ≤ a.size) (hc : ∀ p ∈ (a.toList.drop ia).take k, ∀ q ∈ b.toList.drop ib, leK p q) : MI a.toList b.toList (out ++ a.extract ia (ia + k)).toList (ia + k) ib := by
  rw [Array.toList_append, cut_list]
  exact m.a sA k (by rw [Array.length_toList]; exact hk) hc
theorem chunk_b {a b out : Array Keyed} {ia ib k : Nat} (sB : SL b.toList) (m : MI a.toList b.toList out.toList ia ib) (hk : ib + k ≤ b.size) (hc : ∀ p ∈ (b.toList.drop ib).take k, ∀ q ∈ a.toList.drop ia, leK p q) : MI a.toList b.toList (out ++ b.extract ib (ib + k)).toList ia (ib + k) := by
  rw [Array.toList_append, cut_list]
  exact m.b sB k (by rw [Array.length_toList]; exact hk) hc
theorem rest_le {a : Array Keyed} (s : SL a.toList) {i : Nat} (h : i < a.size) : ∀ q ∈ a.toList.drop i, leK a[i] q := fun q hq => by
  have := s.rest (i := i) (by rwa [Array.length_toList]) q hq
  simpa using this
theorem lo_add {ia k n : Nat} (h : ia + 1 < n) (hk : k ≤ n - ia) : ia + k ≤ n := by omega
theorem lo_two {ia n : Nat} (h : ia ≤ n) (h1 : ia + 1 ≠ n) (h2 : ia ≠ n) : ia + 1 < n := by omega
theorem lo_one {i n : Nat} (h : i < n) (h1 : i + 1 ≠ n) : i + 1 < n := by omega
theorem lo_lt {i n : Nat} (h : i ≤ n) (h1 : i ≠ n) : i < n := by omega
theorem lo_fit {i n : Nat} (h : i < n) : i + (n - i) ≤ n := by omega
theorem lo_fit' {i n : Nat} (h : i < n) : i + (n - i) = n := by omega
theorem lo_hint {i n : Nat} (h : i < n) : 0 < n - i := by omega
theorem lo_zero {k : Nat} (h : ¬ k > 0) : k = 0 := by omega
theorem lo_m1 {x m k : Nat} (h : x + 1 ≤ m) : x + 1 ≤ m + k := by omega
theorem lo_m2 {x y ia ib k k2 : Nat} (h : x + 1 + y ≤ ia + ib) : x + 1 + (y + 1) ≤ ia + k + 1 + (ib + 1 + k2) := by omega
theorem lo_m2' {x y ia ib k : Nat} (h : x + 1 + y ≤ ia + ib) : x + 1 + (y + 1) ≤ ia + k + 1 + (ib + 1) := by omega
theorem lo_m2'' {x y ia ib k2 : Nat} (h : x + 1 + y ≤ ia + ib) : x + 1 + (y + 1) ≤ ia + 1 + (ib + 1 + k2) := by omega
theorem lo_m2o {x y ia ib : Nat} (h : x + 1 + y ≤ ia + ib) : x + 1 + (y + 1) ≤ ia + 1 + (ib + 1) := by omega
theorem lo_drop {x y m : Nat} (h : x + 1 + (y + 1) ≤ m) : x + 1 + 1 ≤ m := by omega
theorem lo_i1 {x ia ib : Nat} (h : x + 1 ≤ ia + ib) : x + 1 ≤ ia + 1 + ib := by omega
noncomputable def LoI (st : SortSt) (a b : Array Keyed) (x y : Nat) (c : Option (Array Keyed) × Array Keyed × Nat × Nat × Nat × Nat × Nat) (st' : SortSt) : Prop := (∃ g', st' = gal st g') ∧ ∃ out ia ib g ac bc, c = (none, out, ia, ib, g, ac, bc) ∧ Half a b out ia ib ∧ x + 1 + y ≤ ia + ib
noncomputable def LoQ (st : SortSt) (a b : Array Keyed) (x : Nat) (c : Option (Array Keyed) × Array Keyed × Nat × Nat × Nat × Nat × Nat) (st' : SortSt) : Prop := (∃ g', st' = gal st g') ∧ ((∃ r rest, c = (some r, rest) ∧ Whole a b r) ∨ ∃ out ia ib g ac bc, c = (none, out, ia, ib, g, ac, bc) ∧ Half a b out ia ib ∧ x + 1 + 1 ≤ ia + ib)
noncomputable def LoI1 (st : SortSt) (a b : Array Keyed) (x : Nat) (c : Option (Array Keyed) × Array Keyed × Nat × Nat × Nat × Nat) (st' : SortSt) : Prop := (∃ g', st' = gal st g') ∧ ∃ out ia ib ac bc, c = (none, out, ia, ib, ac, bc) ∧ Half a b out ia ib ∧ x + 1 ≤ ia + ib
noncomputable def LoQ1 (st : SortSt) (a b : Array Keyed) (x : Nat) (c : Option (Array Keyed) × Array Keyed × Nat × Nat × Nat × Nat) (st' : SortSt) : Prop := (∃ g', st' = gal st g') ∧ ((∃ r rest, c = (some r, rest) ∧ Whole a b r) ∨ ∃ out ia ib ac bc, c = (none, out, ia, ib, ac, bc) ∧ Half a b out ia ib ∧ x + 1 ≤ ia + ib)
noncomputable def LoI0 (st : SortSt) (a b : Array Keyed) (x : Nat) (c : Option (Array Keyed) × Array Keyed × Nat × Nat × Nat) (st' : SortSt) : Prop := (∃ g', st' = gal st g') ∧ ∃ out ia ib g, c = (none, out, ia, ib, g) ∧ Half a b out ia ib ∧ x + 1 ≤ ia + ib
noncomputable def LoQ0 (st : SortSt) (a b : Array Keyed) (c : Option (Array Keyed) × Array Keyed × Nat × Nat × Nat) (st' : SortSt) : Prop := (∃ g', st' = gal st g') ∧ ∃ r rest, c = (some r, rest) ∧ Whole a b r
theorem wpS_mergeLo {st : SortSt} {a b : Array Keyed} {Q : Array Keyed → SortSt → Prop} (hk : kindOf st = oneType') (hA : ∀ x ∈ a.toList, IsK x) (hB : ∀ x ∈ b.toList, IsK x) (sA : SL a.toList) (sB : SL b.toList) (ha : 0 < a.size) (hb : 0 < b.size)
    (hf : ∀ q ∈ a.toList, leK b[0] q) (hl : ∀ p ∈ b.toList, ∀ q ∈ a.toList.drop (a.size - 1), leK p q)
    (h : ∀ out g, Whole a b out → Q out (gal st g)) : wpS (model prog w) A E s (mergeLo' a b) Q st := by
  rw [mergeLo'_eq]
  refine wpS_bind (wpS_lift (wpAny_rule ⟨rfl, ?_⟩))
  refine wpS_let ?_
  refine wpS_bind (wpS_elem hb ?_)
  have m0 : MI a.toList b.toList (#[] : Array Keyed).toList 0 0 := ⟨Nat.zero_le _, Nat.zero_le _, by simp, by simp [SL], fun p hp => by simp at hp, fun p hp => by simp at hp⟩
  have m1 := push_b sA sB m0 hb (by simpa using hf)
  have e0 : (#[] : Array Keyed).push b[0] = #[b[0]] := rfl
  rw [e0, Nat.zero_add] at m1
  refine wpS_let ?_
  refine wpS_if (fun e => wpS_pure (h _ (gallopOf st) (whole_b sA m1 (by simpa using e)))) fun e1 => wpS_if (fun e => wpS_pure (h _ (gallopOf st) (whole_l sA sB m1 (by simpa using e) hl))) fun e2 => ?_
  have e1' := ne_of_beq e1
  have e2' := ne_of_beq e2
  clear e1 e2
  refine wpS_bind (wpS_get ?_)
  refine wpS_let ?_
  refine wpS_bind (wpS_mono (wpS_forRange (LoI0 st a b) (Q := LoQ0 st a b) ?step ?fin ⟨⟨gallopOf st, rfl⟩, _, _, _, _, rfl, ⟨m1, by (clear e0 e1' hk; omega), by (clear e0 hk; omega)⟩, by (clear e0 e1' e2' ha hk; omega)⟩) ?post)
  case fin =>
    rintro c st' ⟨hg, out, ia, ib, g, rfl, hH, hx⟩
    have h1 := hH.ra
    have h2 := hH.rb
    clear e1' e2'
    (clear e0 hk; omega)
  case post =>
    rintro c st' ⟨⟨g', rfl⟩, r, rest, rfl, hw⟩
    exact wpS_pure (h r g' hw)
  case step =>
    clear m0 m1 e0 e1' e2' h
    rintro x c st' _ _ ⟨⟨g0, rfl⟩, out, ia, ib, g, rfl, hH, hxx⟩
    refine wpS_let ?_
    refine wpS_bind (wpS_mono (wpS_forRange (fun _ => LoI1 st a b x) (Q := LoQ1 st a b x) ?step1 ?fin1 ⟨⟨g0, rfl⟩, out, ia, ib, 0, 0, rfl, hH, hxx⟩) ?post1)
    case fin1 =>
      rintro c st' ⟨h1, h2⟩
      exact ⟨h1, .inr h2⟩
    case step1 =>
      clear hH hxx
      rintro y c st' _ _ ⟨⟨g1, rfl⟩, out, ia, ib, ac, bc, rfl, H, hxx⟩
      refine wpS_let ?_
      dsimp (zeta := false) only
      have hra := H.ra
      have hrb := H.rb
      have hia := Nat.lt_of_succ_lt hra
      refine wpS_bind (wpS_elem hrb ?_)
      refine wpS_bind (wpS_elem hia ?_)
      refine wpS_bind (wpS_ltX hk (hB _ (by simp)) (hA _ (by simp)) ?_)
      refine wpS_if (fun hw => ?_) (fun hw => ?_)
      · refine wpS_bind (wpS_elem hrb ?_)
        have hw' := of_decide_eq_true hw
        have m2 := push_b sA sB H.mi hrb (fun q hq => Int.le_trans (Int.le_of_lt hw') (rest_le sA hia q hq))
        refine wpS_if (fun e => wpS_pure ⟨⟨g1, rfl⟩, .inl ⟨_, _, rfl, whole_b sA m2 (by simpa using e)⟩⟩) fun e => ?_
        have hh : Half a b _ ia (ib + 1) := ⟨m2, hra, lo_one hrb (ne_of_beq e)⟩
        have hm := lo_m1 (k := 1) hxx
        exact wpS_if (fun _ => wpS_pure ⟨⟨g1, rfl⟩, .inr ⟨_, _, _, _, _, rfl, hh, hm⟩⟩) (fun _ => wpS_pure ⟨⟨g1, rfl⟩, _, _, _, _, _, rfl, hh, hm⟩)
      · refine wpS_bind (wpS_elem hia ?_)
        have hw' : ¬ kx b[ib] < kx a[ia] := fun z => hw (decide_eq_true z)
        have m2 := push_a sA sB H.mi hia (fun q hq => Int.le_trans (Int.not_lt.mp hw') (rest_le sB hrb q hq))
        refine wpS_if (fun e => wpS_pure ⟨⟨g1, rfl⟩, .inl ⟨_, _, rfl, whole_l sA sB m2 (by simpa using e) hl⟩⟩) fun e => ?_
        have hh : Half a b _ (ia + 1) ib := ⟨m2, lo_one hra (ne_of_beq e), hrb⟩
        have hm := lo_i1 hxx
        exact wpS_if (fun _ => wpS_pure ⟨⟨g1, rfl⟩, .inr ⟨_, _, _, _, _, rfl, hh, hm⟩⟩) (fun _ => wpS_pure ⟨⟨g1, rfl⟩, _, _, _, _, _, rfl, hh, hm⟩)
    case post1 =>
      clear hH hxx
      rintro c st' ⟨⟨g1, rfl⟩, ⟨r, rest, rfl, hw⟩ | ⟨out, ia, ib, ac, bc, rfl, H, hxx⟩⟩
      · exact wpS_pure ⟨⟨g1, rfl⟩, r, _, rfl, hw⟩
      · refine wpS_let ?_
        refine wpS_bind (wpS_lift (wpAny_rule ⟨rfl, ?_⟩))
        refine wpS_let ?_
        have hT : 0 < a.size + b.size := Nat.add_pos_left ha _
        refine wpS_bind (wpS_mono (wpS_forRange (LoI st a b x) (Q := LoQ st a b x) ?step2 ?fin2 ⟨⟨g1, rfl⟩, out, ia, ib, g + 1, ac, bc, rfl, H, hxx⟩) ?post2)
        case fin2 =>
          rintro c st' ⟨hg, out, ia, ib, g, ac, bc, rfl, hH, hxx⟩
          exact ⟨hg, .inr ⟨out, ia, ib, g, ac, bc, rfl, hH, by rw [Nat.zero_max] at hxx; (clear hT ha hk; omega)⟩⟩
        case post2 =>
          clear H hxx hT
          rintro c st' ⟨⟨g2, rfl⟩, ⟨r, rest, rfl, hw⟩ | ⟨out, ia, ib, g, ac, bc, rfl, hH, hxx⟩⟩
          · exact wpS_pure ⟨⟨g2, rfl⟩, r, _, rfl, hw⟩
          · refine wpS_let ?_
            exact wpS_bind (wpS_setMin (wpS_pure ⟨⟨_, rfl⟩, out, ia, ib, _, rfl, hH, hxx⟩))
        case step2 =>
          clear H hxx hT
          rintro y c st' _ _ ⟨⟨g1, rfl⟩, out, ia, ib, g, ac, bc, rfl, H, hxx⟩
          refine wpS_let ?_
          dsimp (zeta := false) only
          have hra := H.ra
          have hrb := H.rb
          have hia := Nat.lt_of_succ_lt hra
          revert g
          refine wpS_ifG (fun g => g - 1) ?kk fun _ => rfl
          intro g
          refine wpS_bind (wpS_setMin ?_)
          refine wpS_bind (wpS_elem hrb ?_)
          refine wpS_bind (wpS_gallop hk (hB _ (by simp)) hA (lo_fit hia) (lo_hint hia) (mono_f sA (by rw [Array.length_toList]; exact lo_fit hia)) fun k hk1 b1 b2 => ?_)
          have hf := found_f (by rw [Array.length_toList]; exact lo_fit' hia) hk1 b1 b2
          clear b1 b2
          refine wpS_if (fun z => ?_) fun z => ?_
          · have hle := lo_add hra hk1
            have m1 := chunk_a sA H.mi (k := k) hle (fun p hp q hq => Int.le_trans (hf.1 p hp) (rest_le sB hrb q hq))
            refine wpS_if (fun e => wpS_pure ⟨⟨_, rfl⟩, .inl ⟨_, _, rfl, whole_l sA sB m1 (by simpa using e) hl⟩⟩) fun e0 => wpS_if (fun e => wpS_pure ⟨⟨_, rfl⟩, .inl ⟨_, _, rfl, whole_a sB m1 (by simpa using e)⟩⟩) fun e1 => ?_
            have hra' := lo_two hle (ne_of_beq e0) (ne_of_beq e1)
            clear e0 e1 z
            have h_ia : (ia + k) < a.size := Nat.lt_of_succ_lt hra'
            refine wpS_bind (wpS_elem hrb ?_)
            have m2 := push_b sA sB m1 hrb (fun q hq => Int.le_of_lt (hf.2 q hq))
            refine wpS_if (fun e => wpS_pure ⟨⟨_, rfl⟩, .inl ⟨_, _, rfl, whole_b sA m2 (by simpa using e)⟩⟩) fun e => ?_
            have hrb' := lo_one hrb (ne_of_beq e)
            clear e
            refine wpS_bind (wpS_elem h_ia ?_)
            refine wpS_bind (wpS_gallop hk (hA _ (by simp)) hB (lo_fit hrb') (lo_hint hrb') (mono_t sB (by rw [Array.length_toList]; exact lo_fit hrb')) fun k2 hk2 b1 b2 => ?_)
            have hf2 := found_t (by rw [Array.length_toList]; exact lo_fit' hrb') hk2 b1 b2
            refine wpS_if (fun z => ?_) fun z => ?_
            · have hle : ib + 1 + k2 ≤ b.size := Nat.le_trans (Nat.add_le_add_left hk2 _) (lo_fit hrb')
              have m3 := chunk_b sB m2 (k := k2) hle (fun p hp q hq => Int.le_trans (Int.le_of_lt (hf2.1 p hp)) (rest_le sA h_ia q hq))
              refine wpS_if (fun e => wpS_pure ⟨⟨_, rfl⟩, .inl ⟨_, _, rfl, whole_b sA m3 (by simpa using e)⟩⟩) fun e3 => ?_
              refine wpS_bind (wpS_elem h_ia ?_)
              have m4 := push_a sA sB m3 h_ia hf2.2
              refine wpS_if (fun e => wpS_pure ⟨⟨_, rfl⟩, .inl ⟨_, _, rfl, whole_l sA sB m4 (by simpa using e) hl⟩⟩) fun e => ?_
              have hh : Half a b _ ((ia + k) + 1) (ib + 1 + k2) := ⟨m4, lo_one hra' (ne_of_beq e), lo_lt hle (ne_of_beq e3)⟩
              have hm' := lo_m2 (k := k) (k2 := k2) hxx
              exact wpS_if (fun _ => wpS_pure ⟨⟨_, rfl⟩, .inr ⟨_, _, _, _, _, _, rfl, hh, lo_drop hm'⟩⟩) (fun _ => wpS_pure ⟨⟨_, rfl⟩, _, _, _, _, _, _, rfl, hh, hm'⟩)
            · have z' : k2 = 0 := lo_zero z
              subst z'
              refine wpS_bind (wpS_elem h_ia ?_)
              have m4 := push_a sA sB m2 h_ia hf2.2
              refine wpS_if (fun e => wpS_pure ⟨⟨_, rfl⟩, .inl ⟨_, _, rfl, whole_l sA sB m4 (by simpa using e) hl⟩⟩) fun e => ?_
              have hh : Half a b _ ((ia + k) + 1) (ib + 1) := ⟨m4, lo_one hra' (ne_of_beq e), hrb'⟩
              have hm' := lo_m2' (k := k) hxx
              exact wpS_if (fun _ => wpS_pure ⟨⟨_, rfl⟩, .inr ⟨_, _, _, _, _, _, rfl, hh, lo_drop hm'⟩⟩) (fun _ => wpS_pure ⟨⟨_, rfl⟩, _, _, _, _, _, _, rfl, hh, hm'⟩)
          · have z' : k = 0 := lo_zero z
            subst z'
            have hra' := hra
            have h_ia : ia < a.size := Nat.lt_of_succ_lt hra'
            refine wpS_bind (wpS_elem hrb ?_)
            have m2 := push_b sA sB H.mi hrb (fun q hq => Int.le_of_lt (hf.2 q hq))
            refine wpS_if (fun e => wpS_pure ⟨⟨_, rfl⟩, .inl ⟨_, _, rfl, whole_b sA m2 (by simpa using e)⟩⟩) fun e => ?_
            have hrb' := lo_one hrb (ne_of_beq e)
            clear e
            refine wpS_bind (wpS_elem h_ia ?_)
            refine wpS_bind (wpS_gallop hk (hA _ (by simp)) hB (lo_fit hrb') (lo_hint hrb') (mono_t sB (by rw [Array.length_toList]; exact lo_fit hrb')) fun k2 hk2 b1 b2 => ?_)
            have hf2 := found_t (by rw [Array.length_toList]; exact lo_fit' hrb') hk2 b1 b2
            refine wpS_if (fun z => ?_) fun z => ?_
            · have hle : ib + 1 + k2 ≤ b.size := Nat.le_trans (Nat.add_le_add_left hk2 _) (lo_fit hrb')
              have m3 := chunk_b sB m2 (k := k2) hle (fun p hp q hq => Int.le_trans (Int.le_of_lt (hf2.1 p hp)) (rest_le sA h_ia q hq))
              refine wpS_if (fun e => wpS_pure ⟨⟨_, rfl⟩, .inl ⟨_, _, rfl, whole_b sA m3 (by simpa using e)⟩⟩) fun e3 => ?_
              refine wpS_bind (wpS_elem h_ia ?_)
              have m4 := push_a sA sB m3 h_ia hf2.2
              refine wpS_if (fun e => wpS_pure ⟨⟨_, rfl⟩, .inl ⟨_, _, rfl, whole_l sA sB m4 (by simpa using e) hl⟩⟩) fun e => ?_
              have hh : Half a b _ (ia + 1) (ib + 1 + k2) := ⟨m4, lo_one hra' (ne_of_beq e), lo_lt hle (ne_of_beq e3)⟩
              have hm' := lo_m2'' (k2 := k2) hxx
              exact wpS_if (fun _ => wpS_pure ⟨⟨_, rfl⟩, .inr ⟨_, _, _, _, _, _, rfl, hh, lo_drop hm'⟩⟩) (fun _ => wpS_pure ⟨⟨_, rfl⟩, _, _, _, _, _, _, rfl, hh, hm'⟩)
            · have z' : k2 = 0 := lo_zero z
              subst z'
              refine wpS_bind (wpS_elem h_ia ?_)
              have m4 := push_a sA sB m2 h_ia hf2.2
              refine wpS_if (fun e => wpS_pure ⟨⟨_, rfl⟩, .inl ⟨_, _, rfl, whole_l sA sB m4 (by simpa using e) hl⟩⟩) fun e => ?_
              have hh : Half a b _ (ia + 1) (ib + 1) := ⟨m4, lo_one hra' (ne_of_beq e), hrb'⟩
              have hm' := lo_m2o hxx
              exact wpS_if (fun _ => wpS_pure ⟨⟨_, rfl⟩, .inr ⟨_, _, _, _, _, _, rfl, hh, lo_drop hm'⟩⟩) (fun _ => wpS_pure ⟨⟨_, rfl⟩, _, _, _, _, _, _, rfl, hh, hm'⟩)
end
end Mine
namespace Mine
open PySem PyProof.Rows
structure MH (A B R : List Keyed) (na nb : Nat) : Prop where
  la : na ≤ A.length
  lb : nb ≤ B.length
  perm : R.Perm (A.drop na ++ B.drop nb)
  sl : SL R
  oa : ∀ q ∈ A.take na, ∀ p ∈ R, leK q p
  ob : ∀ q ∈ B.take nb, ∀ p ∈ R, leK q p
theorem take_cut {α : Type} (l : List α) (i n : Nat) (h : i ≤ n) : l.take n = l.take i ++ (l.drop i).take (n - i) := by
  have e : n = i + (n - i) := by omega
  rw [e, List.take_add, ← e]
theorem drop_cut {α : Type} (l : List α) (i n : Nat) (h : i ≤ n) : l.drop i = (l.drop i).take (n - i) ++ l.drop n := by
  have := drop_split l i (n - i)
  rwa [show i + (n - i) = n by (clear this; omega)] at this
theorem SL.cut {l : List Keyed} (h : SL l) {i n : Nat} (hin : i ≤ n) : ∀ q ∈ l.take i, ∀ p ∈ (l.drop i).take (n - i), leK q p := by
  have h1 : SL (l.take n) := h.sublist (List.take_sublist n l)
  rw [take_cut l i n hin] at h1
  exact (List.pairwise_append.mp h1).2.2
theorem MH.a {A B R : List Keyed} {na nb : Nat} (h : MH A B R na nb) (hA : SL A) (i : Nat) (hi : i ≤ na) (hc : ∀ q ∈ B.take nb, ∀ p ∈ (A.drop i).take (na - i), leK q p) : MH A B ((A.drop i).take (na - i) ++ R) i nb where
  la := by have := h.la; omega
  lb := h.lb
  perm := by
    refine (List.Perm.append_left _ h.perm).trans (List.Perm.of_eq ?_)
    rw [← List.append_assoc, ← drop_cut A i na hi]
  sl := List.pairwise_append.mpr ⟨(hA.split i (na - i)).1, h.sl, fun p hp q hq => h.oa p (by rw [take_cut A i na hi]; exact List.mem_append_right _ hp) q hq⟩
  oa := fun q hq p hp => by
    rcases List.mem_append.mp hp with hp | hp
    · exact hA.cut hi q hq p hp
    · exact h.oa q (by rw [take_cut A i na hi]; exact List.mem_append_left _ hq) p hp
  ob := fun q hq p hp => by
    rcases List.mem_append.mp hp with hp | hp
    · exact hc q hq p hp
    · exact h.ob q hq p hp
theorem MH.b {A B R : List Keyed} {na nb : Nat} (h : MH A B R na nb) (hB : SL B) (i : Nat) (hi : i ≤ nb) (hc : ∀ q ∈ A.take na, ∀ p ∈ (B.drop i).take (nb - i), leK q p) : MH A B ((B.drop i).take (nb - i) ++ R) na i where
  la := h.la
  lb := by have := h.lb; omega
  perm := by
    refine (List.Perm.append_left _ h.perm).trans ((List.perm_append_comm_assoc _ _ _).trans (List.Perm.of_eq ?_))
    rw [← drop_cut B i nb hi]
  sl := List.pairwise_append.mpr ⟨(hB.split i (nb - i)).1, h.sl, fun p hp q hq => h.ob p (by rw [take_cut B i nb hi]; exact List.mem_append_right _ hp) q hq⟩
  oa := fun q hq p hp => by
    rcases List.mem_append.mp hp with hp | hp
    · exact hc q hq p hp
    · exact h.oa q hq p hp
  ob := fun q hq p hp => by
    rcases List.mem_append.mp hp with hp | hp
    · exact hB.cut hi q hq p hp
    · exact h.ob q (by rw [take_cut B i nb hi]; exact List.mem_append_left _ hq) p hp
theorem MH.full {A B R : List Keyed} (h : MH A B R 0 0) : Merged A B R := ⟨by have := h.perm; rwa [List.drop_zero, List.drop_zero] at this, h.sl⟩
theorem MH.endA {A B R : List Keyed} {na : Nat} (h : MH A B R na 0) (hA : SL A) : Merged A B (A.take na ++ R) := by
  have h' := h.a hA 0 (Nat.zero_le _) (fun q hq => by simp at hq)
  rw [List.drop_zero, Nat.sub_zero] at h'
  exact h'.full
theorem MH.endB {A B R : List Keyed} {nb : Nat} (h : MH A B R 0 nb) (hB : SL B) : Merged A B (B.take nb ++ R) := by
  have h' := h.b hB 0 (Nat.zero_le _) (fun q hq => by simp at hq)
  rw [List.drop_zero, Nat.sub_zero] at h'
  exact h'.full
theorem MH.endBA {A B R : List Keyed} {na nb : Nat} (h : MH A B R na nb) (hA : SL A) (hB : SL B) (hc : ∀ q ∈ B.take nb, ∀ p ∈ A, leK q p) : Merged A B (B.take nb ++ (A.take na ++ R)) := by
  have h' := h.a hA 0 (Nat.zero_le _) (fun q hq p hp => hc q hq p (List.mem_of_mem_drop (List.mem_of_mem_take hp)))
  rw [List.drop_zero, Nat.sub_zero] at h'
  exact h'.endB hB
structure HalfH (a b out : Array Keyed) (na nb : Nat) : Prop where
  mh : MH a.toList b.toList out.toList.reverse na nb
  ra : 0 < na
  rb : 1 < nb
theorem front_list (a : Array Keyed) (n : Nat) : (a.extract 0 n).toList = a.toList.take n := by
  rw [Array.toList_extract, List.extract_eq_take_drop, List.drop_zero, Nat.sub_zero]
theorem wholeH_a {a b out : Array Keyed} {na nb : Nat} (sB : SL b.toList) (m : MH a.toList b.toList out.toList.reverse na nb) (e : na = 0) : Whole a b (a.extract 0 na ++ b.extract 0 nb ++ out.reverse) := by
  subst e
  show Merged _ _ _
  rw [Array.toList_append, Array.toList_append, front_list, front_list, Array.toList_reverse, List.take_zero, List.nil_append]
  exact m.endB sB
theorem wholeH_b {a b out : Array Keyed} {na nb : Nat} (sA : SL a.toList) (m : MH a.toList b.toList out.toList.reverse na nb) (e : nb = 0) : Whole a b (a.extract 0 na ++ b.extract 0 nb ++ out.reverse) := by
  subst e
  show Merged _ _ _
  rw [Array.toList_append, Array.toList_append, front_list, front_list, Array.toList_reverse, List.take_zero, List.append_nil]
  exact m.endA sA
theorem wholeH_l {a b out : Array Keyed} {na nb : Nat} (sA : SL a.toList) (sB : SL b.toList) (m : MH a.toList b.toList out.toList.reverse na nb) (e : nb = 1) (hl : ∀ q ∈ b.toList.take 1, ∀ p ∈ a.toList, leK q p) : Whole a b (b.extract 0 nb ++ a.extract 0 na ++ out.reverse) := by
  subst e
  show Merged _ _ _
  rw [Array.toList_append, Array.toList_append, front_list, front_list, Array.toList_reverse, List.append_assoc]
  exact m.endBA sA sB hl
theorem pushH_b {a b out : Array Keyed} {na nb : Nat} (sB : SL b.toList) (m : MH a.toList b.toList out.toList.reverse na nb) (hb : nb - 1 < b.size) (h0 : 0 < nb) (hc : ∀ q ∈ a.toList.take na, leK q b[nb - 1]) : MH a.toList b.toList (out.push b[nb - 1]).toList.reverse na (nb - 1) := by
  have hb' : nb - 1 < b.toList.length := by rwa [Array.length_toList]
  have e : nb - (nb - 1) = 1 := by (clear hb'; omega)
  have := m.b sB (nb - 1) (by (clear h0 hb'; omega)) (by rw [e, take_one _ _ hb']; intro q hq p hp; rw [List.mem_singleton.mp hp]; simpa using hc q hq)
  rw [e, take_one _ _ hb'] at this
  rw [Array.toList_push, List.reverse_append]
  simpa using this
theorem pushH_a {a b out : Array Keyed} {na nb : Nat} (sA : SL a.toList) (m : MH a.toList b.toList out.toList.reverse na nb) (ha : na - 1 < a.size) (h0 : 0 < na) (hc : ∀ q ∈ b.toList.take nb, leK q a[na - 1]) : MH a.toList b.toList (out.push a[na - 1]).toList.reverse (na - 1) nb := by
  have ha' : na - 1 < a.toList.length := by rwa [Array.length_toList]
  have e : na - (na - 1) = 1 := by (clear ha'; omega)
  have := m.a sA (na - 1) (by (clear h0 ha'; omega)) (by rw [e, take_one _ _ ha']; intro q hq p hp; rw [List.mem_singleton.mp hp]; simpa using hc q hq)
  rw [e, take_one _ _ ha'] at this
  rw [Array.toList_push, List.reverse_append]
  simpa using this
theorem cut_list2 (a : Array Keyed) (i n : Nat) : (a.extract i n).toList = (a.toList.drop i).take (n - i) := by
  rw [Array.toList_extract, List.extract_eq_take_drop]
theorem chunkH_a {a b out : Array Keyed} {na nb i : Nat} (sA : SL a.toList) (m : MH a.toList b.toList out.toList.reverse na nb) (hi : i ≤ na) (hc : ∀ q ∈ b.toList.take nb, ∀ p ∈ (a.toList.drop i).take (na - i), leK q p) : MH a.toList b.toList (out ++ (a.extract i na).reverse).toList.reverse i nb := by
  rw [Array.toList_append, Array.toList_reverse, List.reverse_append, List.reverse_reverse, cut_list2]
  exact m.a sA i hi hc
theorem chunkH_b {a b out : Array Keyed} {na nb i : Nat} (sB : SL b.toList) (m : MH a.toList b.toList out.toList.reverse na nb) (hi : i ≤ nb) (hc : ∀ q ∈ a.toList.take na, ∀ p ∈ (b.toList.drop i).take (nb - i), leK q p) : MH a.toList b.toList (out ++ (b.extract i nb).reverse).toList.reverse na i := by
  rw [Array.toList_append, Array.toList_reverse, List.reverse_append, List.reverse_reverse, cut_list2]
  exact m.b sB i hi hc
theorem front_le {a : Array Keyed} (s : SL a.toList) {i : Nat} (h : i - 1 < a.size) (h0 : 0 < i) : ∀ q ∈ a.toList.take i, leK q a[i - 1] := fun q hq => by
  have := s.ahead (i := i - 1) (by rwa [Array.length_toList]) q (by rwa [show i - 1 + 1 = i by (clear h; omega)])
  simpa using this
theorem mem_take {α : Type} {l : List α} {k : Nat} {p : α} (h : p ∈ l.take k) : ∃ j, j < k ∧ ∃ (hj : j < l.length), p = l[j] := by
  obtain ⟨j, hj, e⟩ := List.getElem_of_mem h
  rw [List.getElem_take] at e
  rw [List.length_take] at hj
  exact ⟨j, by (clear e; omega), by (clear e; omega), e.symm⟩
theorem found_f0 {key : Keyed} {arr : Array Keyed} {n k : Nat} (hn : n ≤ arr.toList.length) (h1 : ∀ i, i < k → bey false key arr 0 i = true) (h2 : ∀ i, k ≤ i → i < n → bey false key arr 0 i = false) :
    (∀ p ∈ arr.toList.take k, kx p ≤ kx key) ∧ ∀ q ∈ (arr.toList.drop k).take (n - k), kx key < kx q := by
  refine ⟨fun p hp => ?_, fun q hq => ?_⟩
  · obtain ⟨j, hj, hl, rfl⟩ := mem_take hp
    have := h1 j hj
    rw [bey_f (by rwa [Nat.zero_add])] at this
    simpa using this
  · obtain ⟨j, hj, hl, rfl⟩ := mem_dropTake hq
    have := h2 (k + j) (by (clear hj hn; omega)) (by (clear hn; omega))
    rw [bey_f (by rwa [Nat.zero_add])] at this
    simpa using this
theorem found_t0 {key : Keyed} {arr : Array Keyed} {n k : Nat} (hn : n ≤ arr.toList.length) (h1 : ∀ i, i < k → bey true key arr 0 i = true) (h2 : ∀ i, k ≤ i → i < n → bey true key arr 0 i = false) :
    (∀ p ∈ arr.toList.take k, kx p < kx key) ∧ ∀ q ∈ (arr.toList.drop k).take (n - k), kx key ≤ kx q := by
  refine ⟨fun p hp => ?_, fun q hq => ?_⟩
  · obtain ⟨j, hj, hl, rfl⟩ := mem_take hp
    have := h1 j hj
    rw [bey_t (by rwa [Nat.zero_add])] at this
    simpa using this
  · obtain ⟨j, hj, hl, rfl⟩ := mem_dropTake hq
    have := h2 (k + j) (by (clear hj hn; omega)) (by (clear hn; omega))
    rw [bey_t (by rwa [Nat.zero_add])] at this
    simpa using this
section
variable {prog : Program} {w : World} {A : Around} {E : Value → Shared → Prop} {s : Shared}
noncomputable def mergeHi' : Array Keyed → Array Keyed → StateT SortSt Sem (Array Keyed) := sortPriv% PySem.Builtin.mergeHi
theorem mergeHi'_eq (a b : Array Keyed) : mergeHi' a b = (do
  rule "list.sort.merge-hi"
  let total := a.size + b.size
  let done (out : Array Keyed) (na nb : Nat) := a.extract 0 na ++ b.extract 0 nb ++ out.reverse
  let firstOfB (out : Array Keyed) (na nb : Nat) := b.extract 0 nb ++ a.extract 0 na ++ out.reverse
  let mut na := a.size - 1
  let mut nb := b.size
  let mut out : Array Keyed := #[← elem' a na]
  if na == 0 then return done out na nb
  if nb == 1 then return firstOfB out na nb
  let mut minGallop := gallopOf (← get)
  for _ in [0:total] do
    let mut acount := 0
    let mut bcount := 0
    for _ in [0:total] do
      let some aWins ← lt' (← elem' b (nb - 1)) (← elem' a (na - 1)) | return done out na nb
      if aWins then
        na := na - 1; out := out.push (← elem' a na); acount := acount + 1; bcount := 0
        if na == 0 then return done out na nb
        if acount ≥ minGallop then break
      else
        nb := nb - 1; out := out.push (← elem' b nb); bcount := bcount + 1; acount := 0
        if nb == 1 then return firstOfB out na nb
        if bcount ≥ minGallop then break
    rule "list.sort.gallop"
    minGallop := minGallop + 1
    for _ in [0:total] do
      if minGallop > 1 then minGallop := minGallop - 1
      setMinGallop' minGallop
      let some at_ ← gallop' false (← elem' b (nb - 1)) a 0 na (na - 1) | return done out na nb
      let k := na - at_
      acount := k
      if k > 0 then
        out := out ++ (a.extract at_ na).reverse; na := at_
        if na == 0 then return done out na nb
      nb := nb - 1; out := out.push (← elem' b nb)
      if nb == 1 then return firstOfB out na nb
      let some at_ ← gallop' true (← elem' a (na - 1)) b 0 nb (nb - 1) | return done out na nb
      let k := nb - at_
      bcount := k
      if k > 0 then
        out := out ++ (b.extract at_ nb).reverse; nb := at_
        if nb == 1 then return firstOfB out na nb
        if nb == 0 then return done out na nb
      na := na - 1; out := out.push (← elem' a na)
      if na == 0 then return done out na nb
      if acount < 7 && bcount < 7 then break
    minGallop := minGallop + 1
    setMinGallop' minGallop
  unsupported "internal:list.sort.merge-bound") := rfl
theorem HalfH.na {a b out : Array Keyed} {na nb : Nat} (H : HalfH a b out na nb) : na ≤ a.size := by have := H.mh.la; rwa [Array.length_toList] at this
theorem HalfH.nb {a b out : Array Keyed} {na nb : Nat} (H : HalfH a b out na nb) : nb ≤ b.size := by have := H.mh.lb; rwa [Array.length_toList] at this
theorem le_less {na nb x k t : Nat} (h : na + nb + x + 1 ≤ t) : na - k + nb + x + 1 ≤ t := by omega
theorem le_less' {na nb x k t : Nat} (h : na + nb + x + 1 ≤ t) : na + (nb - k) + x + 1 ≤ t := by omega
theorem le_two {na nb nb' x y t : Nat} (h : na + nb + x + 1 + y ≤ t) (h0 : 0 < na) (h1 : 0 < nb) (h2 : nb' ≤ nb - 1) : na - 1 + nb' + x + 1 + (y + 1) ≤ t := by omega
theorem le_sub {na nb x y t k : Nat} (h : na + nb + x + 1 + y ≤ t) (hk : k ≤ na) : k + nb + x + 1 + y ≤ t := by omega
theorem le_drop {m x y t : Nat} (h : m + x + 1 + (y + 1) ≤ t) : m + (x + 1) + 1 ≤ t := by omega
noncomputable def HiI (st : SortSt) (a b : Array Keyed) (x y : Nat) (c : Option (Array Keyed) × Nat × Nat × Array Keyed × Nat × Nat × Nat) (st' : SortSt) : Prop := (∃ g', st' = gal st g') ∧ ∃ out na nb g ac bc, c = (none, na, nb, out, g, ac, bc) ∧ HalfH a b out na nb ∧ na + nb + x + 1 + y ≤ a.size + b.size
noncomputable def HiQ (st : SortSt) (a b : Array Keyed) (x : Nat) (c : Option (Array Keyed) × Nat × Nat × Array Keyed × Nat × Nat × Nat) (st' : SortSt) : Prop := (∃ g', st' = gal st g') ∧ ((∃ r rest, c = (some r, rest) ∧ Whole a b r) ∨ ∃ out na nb g ac bc, c = (none, na, nb, out, g, ac, bc) ∧ HalfH a b out na nb ∧ na + nb + (x + 1) + 1 ≤ a.size + b.size)
noncomputable def HiI1 (st : SortSt) (a b : Array Keyed) (x : Nat) (c : Option (Array Keyed) × Nat × Nat × Array Keyed × Nat × Nat) (st' : SortSt) : Prop := (∃ g', st' = gal st g') ∧ ∃ out na nb ac bc, c = (none, na, nb, out, ac, bc) ∧ HalfH a b out na nb ∧ na + nb + x + 1 ≤ a.size + b.size
noncomputable def HiQ1 (st : SortSt) (a b : Array Keyed) (x : Nat) (c : Option (Array Keyed) × Nat × Nat × Array Keyed × Nat × Nat) (st' : SortSt) : Prop := (∃ g', st' = gal st g') ∧ ((∃ r rest, c = (some r, rest) ∧ Whole a b r) ∨ ∃ out na nb ac bc, c = (none, na, nb, out, ac, bc) ∧ HalfH a b out na nb ∧ na + nb + x + 1 ≤ a.size + b.size)
noncomputable def HiI0 (st : SortSt) (a b : Array Keyed) (x : Nat) (c : Option (Array Keyed) × Nat × Nat × Array Keyed × Nat) (st' : SortSt) : Prop := (∃ g', st' = gal st g') ∧ ∃ out na nb g, c = (none, na, nb, out, g) ∧ HalfH a b out na nb ∧ na + nb + x + 1 ≤ a.size + b.size
noncomputable def HiQ0 (st : SortSt) (a b : Array Keyed) (c : Option (Array Keyed) × Nat × Nat × Array Keyed × Nat) (st' : SortSt) : Prop := (∃ g', st' = gal st g') ∧ ∃ r rest, c = (some r, rest) ∧ Whole a b r
theorem wpS_mergeHi {st : SortSt} {a b : Array Keyed} {Q : Array Keyed → SortSt → Prop} (hk : kindOf st = oneType') (hA : ∀ x ∈ a.toList, IsK x) (hB : ∀ x ∈ b.toList, IsK x) (sA : SL a.toList) (sB : SL b.toList) (ha : 0 < a.size) (hb : 0 < b.size)
    (hl : ∀ q ∈ b.toList.take 1, ∀ p ∈ a.toList, leK q p) (hf : ∀ q ∈ b.toList, leK q a[a.size - 1])
    (h : ∀ out g, Whole a b out → Q out (gal st g)) : wpS (model prog w) A E s (mergeHi' a b) Q st := by
  rw [mergeHi'_eq]
  refine wpS_bind (wpS_lift (wpAny_rule ⟨rfl, ?_⟩))
  iterate 5 refine wpS_let ?_
  have ha1 : a.size - 1 < a.size := pred_lt ha (Nat.le_refl _)
  refine wpS_bind (wpS_elem ha1 ?_)
  refine wpS_let ?_
  have m0 : MH a.toList b.toList (#[] : Array Keyed).toList.reverse a.size b.size := ⟨by rw [Array.length_toList]; exact Nat.le_refl _, by rw [Array.length_toList]; exact Nat.le_refl _, by
    rw [List.drop_eq_nil_of_le (by rw [Array.length_toList]; exact Nat.le_refl _), List.drop_eq_nil_of_le (by rw [Array.length_toList]; exact Nat.le_refl _)]; simp, by simp [SL], fun q hq p hp => by simp at hp, fun q hq p hp => by simp at hp⟩
  have m1 := pushH_a sA m0 ha1 ha (fun q hq => hf q (List.mem_of_mem_take hq))
  have e0 : (#[] : Array Keyed).push a[a.size - 1] = #[a[a.size - 1]] := rfl
  rw [e0] at m1
  refine wpS_if (fun e => wpS_pure (h _ (gallopOf st) (wholeH_a sB m1 (by simpa using e)))) fun e1 => wpS_if (fun e => wpS_pure (h _ (gallopOf st) (wholeH_l sA sB m1 (by simpa using e) hl))) fun e2 => ?_
  have e1' := ne_of_beq e1
  have e2' := ne_of_beq e2
  clear e1 e2
  refine wpS_bind (wpS_get ?_)
  refine wpS_let ?_
  refine wpS_bind (wpS_mono (wpS_forRange (HiI0 st a b) (Q := HiQ0 st a b) ?step ?fin ⟨⟨gallopOf st, rfl⟩, _, _, _, _, rfl, ⟨m1, by (clear e0 hk; omega), by (clear e0 e1' hk; omega)⟩, by (clear e0 e1' e2' hb hk; omega)⟩) ?post)
  case fin =>
    rintro c st' ⟨hg, out, na, nb, g, rfl, hH, hx⟩
    have h1 := hH.ra
    have h2 := hH.rb
    clear e1' e2'
    (clear e0 hb hk; omega)
  case post =>
    rintro c st' ⟨⟨g', rfl⟩, r, rest, rfl, hw⟩
    exact wpS_pure (h r g' hw)
  case step =>
    clear m0 m1 e0 e1' e2' ha1 h
    rintro x c st' _ _ ⟨⟨g0, rfl⟩, out, na, nb, g, rfl, hH, hxx⟩
    iterate 9 refine wpS_let ?_
    refine wpS_bind (wpS_mono (wpS_forRange (fun _ => HiI1 st a b x) (Q := HiQ1 st a b x) ?step1 ?fin1 ⟨⟨g0, rfl⟩, out, na, nb, 0, 0, rfl, hH, hxx⟩) ?post1)
    case fin1 =>
      rintro c st' ⟨h1, h2⟩
      exact ⟨h1, .inr h2⟩
    case step1 =>
      clear hH hxx
      rintro y c st' _ _ ⟨⟨g1, rfl⟩, out, na, nb, ac, bc, rfl, H, hxx⟩
      iterate 9 refine wpS_let ?_
      have h0 := H.ra
      have rb := H.rb
      have rb0 := Nat.lt_trans Nat.zero_lt_one rb
      have ha := pred_lt h0 H.na
      have hb := pred_lt rb0 H.nb
      refine wpS_bind (wpS_elem hb ?_)
      refine wpS_bind (wpS_elem ha ?_)
      refine wpS_bind (wpS_ltX hk (hB _ (by simp)) (hA _ (by simp)) ?_)
      refine wpS_if (fun hw => wpS_let ?_) (fun hw => wpS_let ?_)
      · refine wpS_bind (wpS_elem ha ?_)
        have hw' := of_decide_eq_true hw
        have m2 := pushH_a sA H.mh ha h0 (fun q hq => Int.le_trans (front_le sB hb rb0 q hq) (Int.le_of_lt hw'))
        refine wpS_let (wpS_let (wpS_let ?_))
        refine wpS_if (fun e => wpS_pure ⟨⟨g1, rfl⟩, .inl ⟨_, _, rfl, wholeH_a sB m2 (by simpa using e)⟩⟩) fun e => ?_
        have hh : HalfH a b _ (na - 1) nb := ⟨m2, Nat.pos_of_ne_zero (ne_of_beq e), rb⟩
        have hm := le_less (k := 1) hxx
        exact wpS_if (fun _ => wpS_pure ⟨⟨g1, rfl⟩, .inr ⟨_, _, _, _, _, rfl, hh, hm⟩⟩) (fun _ => wpS_pure ⟨⟨g1, rfl⟩, _, _, _, _, _, rfl, hh, hm⟩)
      · refine wpS_bind (wpS_elem hb ?_)
        have hw' : ¬ kx b[nb - 1] < kx a[na - 1] := fun z => hw (decide_eq_true z)
        have m2 := pushH_b sB H.mh hb rb0 (fun q hq => Int.le_trans (front_le sA ha h0 q hq) (Int.not_lt.mp hw'))
        refine wpS_let (wpS_let (wpS_let ?_))
        refine wpS_if (fun e => wpS_pure ⟨⟨g1, rfl⟩, .inl ⟨_, _, rfl, wholeH_l sA sB m2 (by simpa using e) hl⟩⟩) fun e => ?_
        have hh : HalfH a b _ na (nb - 1) := ⟨m2, h0, lt_pred2 rb (ne_of_beq e)⟩
        have hm := le_less' (k := 1) hxx
        exact wpS_if (fun _ => wpS_pure ⟨⟨g1, rfl⟩, .inr ⟨_, _, _, _, _, rfl, hh, hm⟩⟩) (fun _ => wpS_pure ⟨⟨g1, rfl⟩, _, _, _, _, _, rfl, hh, hm⟩)
    case post1 =>
      clear hH hxx
      rintro c st' ⟨⟨g1, rfl⟩, ⟨r, rest, rfl, hw⟩ | ⟨out, na, nb, ac, bc, rfl, H, hxx⟩⟩
      · exact wpS_pure ⟨⟨g1, rfl⟩, r, _, rfl, hw⟩
      · iterate 10 refine wpS_let ?_
        refine wpS_bind (wpS_lift (wpAny_rule ⟨rfl, ?_⟩))
        refine wpS_let ?_
        have hT : 1 < a.size + b.size := by
          have h1 := H.na
          have h2 := H.nb
          have h3 := H.rb
          clear hxx
          (clear h1 h2 h3 hk; omega)
        refine wpS_bind (wpS_mono (wpS_forRange (HiI st a b x) (Q := HiQ st a b x) ?step2 ?fin2 ⟨⟨g1, rfl⟩, out, na, nb, g + 1, ac, bc, rfl, H, hxx⟩) ?post2)
        case fin2 =>
          rintro c st' ⟨hg, out, na, nb, g, ac, bc, rfl, hH, hxx⟩
          exact ⟨hg, .inr ⟨out, na, nb, g, ac, bc, rfl, hH, by rw [Nat.zero_max] at hxx; (clear hT hb hk; omega)⟩⟩
        case post2 =>
          clear H hxx hT
          rintro c st' ⟨⟨g2, rfl⟩, ⟨r, rest, rfl, hw⟩ | ⟨out, na, nb, g, ac, bc, rfl, hH, hxx⟩⟩
          · exact wpS_pure ⟨⟨g2, rfl⟩, r, _, rfl, hw⟩
          · iterate 10 refine wpS_let ?_
            exact wpS_bind (wpS_setMin (wpS_pure ⟨⟨_, rfl⟩, out, na, nb, _, rfl, hH, hxx⟩))
        case step2 =>
          clear H hxx hT
          rintro y c st' _ _ ⟨⟨g1, rfl⟩, out, na, nb, g, ac, bc, rfl, H, hxx⟩
          refine wpS_let ?_
          dsimp (zeta := false) only
          have h0 := H.ra
          have rb := H.rb
          have rb0 := Nat.lt_trans Nat.zero_lt_one rb
          have hal := H.na
          have hb := pred_lt rb0 H.nb
          revert g
          refine wpS_ifG (fun g => g - 1) ?kk fun _ => rfl
          intro g
          refine wpS_bind (wpS_setMin ?_)
          refine wpS_bind (wpS_elem hb ?_)
          refine wpS_bind (wpS_gallop hk (hB _ (by simp)) hA (by rw [Nat.zero_add]; exact hal) (pred_lt h0 (Nat.le_refl _)) (mono_f sA (by rw [Array.length_toList, Nat.zero_add]; exact hal)) fun k hk1 b1 b2 => ?_)
          have hf := found_f0 (by rw [Array.length_toList]; exact hal) b1 b2
          clear b1 b2
          refine wpS_if (fun z => ?_) fun z => ?_
          · have m1 := chunkH_a sA H.mh (i := k) hk1 (fun q hq p hp => Int.le_trans (front_le sB hb rb0 q hq) (Int.le_of_lt (hf.2 p hp)))
            refine wpS_if (fun e => wpS_pure ⟨⟨_, rfl⟩, .inl ⟨_, _, rfl, wholeH_a sB m1 (by simpa using e)⟩⟩) fun e => ?_
            have H' : HalfH a b _ k nb := ⟨m1, Nat.pos_of_ne_zero (ne_of_beq e), rb⟩
            have hm := le_sub hxx hk1
            clear e z hal h0 hxx
            have h0' := H'.ra
            have ha := pred_lt h0' H'.na
            refine wpS_bind (wpS_elem hb ?_)
            have m2 := pushH_b sB H'.mh hb rb0 hf.1
            refine wpS_if (fun e => wpS_pure ⟨⟨_, rfl⟩, .inl ⟨_, _, rfl, wholeH_l sA sB m2 (by simpa using e) hl⟩⟩) fun e => ?_
            have rb' := lt_pred2 rb (ne_of_beq e)
            clear e
            refine wpS_bind (wpS_elem ha ?_)
            refine wpS_bind (wpS_gallop hk (hA _ (by simp)) hB (by rw [Nat.zero_add]; exact Nat.le_of_lt hb) (pred_lt (Nat.lt_trans Nat.zero_lt_one rb') (Nat.le_refl _)) (mono_t sB (by rw [Array.length_toList, Nat.zero_add]; exact Nat.le_of_lt hb)) fun k2 hk2 b1 b2 => ?_)
            have hf2 := found_t0 (by rw [Array.length_toList]; exact Nat.le_of_lt hb) b1 b2
            have c3 : ∀ q ∈ b.toList.take k2, leK q a[k - 1] := fun q hq => Int.le_of_lt (hf2.1 q hq)
            refine wpS_if (fun z => ?_) fun z => ?_
            · have m3 := chunkH_b sB m2 (i := k2) hk2 (fun q hq p hp => Int.le_trans (front_le sA ha h0' q hq) (hf2.2 p hp))
              refine wpS_if (fun e => wpS_pure ⟨⟨_, rfl⟩, .inl ⟨_, _, rfl, wholeH_l sA sB m3 (by simpa using e) hl⟩⟩) fun e3 => wpS_if (fun e => wpS_pure ⟨⟨_, rfl⟩, .inl ⟨_, _, rfl, wholeH_b sA m3 (by simpa using e)⟩⟩) fun e5 => ?_
              refine wpS_bind (wpS_elem ha ?_)
              have m4 := pushH_a sA m3 ha h0' c3
              refine wpS_if (fun e => wpS_pure ⟨⟨_, rfl⟩, .inl ⟨_, _, rfl, wholeH_a sB m4 (by simpa using e)⟩⟩) fun e => ?_
              have hh : HalfH a b _ (k - 1) k2 := ⟨m4, Nat.pos_of_ne_zero (ne_of_beq e), lt_two (ne_of_beq e3) (ne_of_beq e5)⟩
              have hm' := le_two hm h0' rb0 hk2
              exact wpS_if (fun _ => wpS_pure ⟨⟨_, rfl⟩, .inr ⟨_, _, _, _, _, _, rfl, hh, le_drop hm'⟩⟩) (fun _ => wpS_pure ⟨⟨_, rfl⟩, _, _, _, _, _, _, rfl, hh, hm'⟩)
            · have z' : k2 = nb - 1 := eq_of_sub hk2 z
              subst z'
              refine wpS_bind (wpS_elem ha ?_)
              have m4 := pushH_a sA m2 ha h0' c3
              refine wpS_if (fun e => wpS_pure ⟨⟨_, rfl⟩, .inl ⟨_, _, rfl, wholeH_a sB m4 (by simpa using e)⟩⟩) fun e => ?_
              have hh : HalfH a b _ (k - 1) (nb - 1) := ⟨m4, Nat.pos_of_ne_zero (ne_of_beq e), rb'⟩
              have hm' := le_two hm h0' rb0 (Nat.le_refl _)
              exact wpS_if (fun _ => wpS_pure ⟨⟨_, rfl⟩, .inr ⟨_, _, _, _, _, _, rfl, hh, le_drop hm'⟩⟩) (fun _ => wpS_pure ⟨⟨_, rfl⟩, _, _, _, _, _, _, rfl, hh, hm'⟩)
          · have z' : k = na := eq_of_sub hk1 z
            subst z'
            have hm := hxx
            have h0' := H.ra
            have ha := pred_lt h0' H.na
            refine wpS_bind (wpS_elem hb ?_)
            have m2 := pushH_b sB H.mh hb rb0 hf.1
            refine wpS_if (fun e => wpS_pure ⟨⟨_, rfl⟩, .inl ⟨_, _, rfl, wholeH_l sA sB m2 (by simpa using e) hl⟩⟩) fun e => ?_
            have rb' := lt_pred2 rb (ne_of_beq e)
            clear e
            refine wpS_bind (wpS_elem ha ?_)
            refine wpS_bind (wpS_gallop hk (hA _ (by simp)) hB (by rw [Nat.zero_add]; exact Nat.le_of_lt hb) (pred_lt (Nat.lt_trans Nat.zero_lt_one rb') (Nat.le_refl _)) (mono_t sB (by rw [Array.length_toList, Nat.zero_add]; exact Nat.le_of_lt hb)) fun k2 hk2 b1 b2 => ?_)
            have hf2 := found_t0 (by rw [Array.length_toList]; exact Nat.le_of_lt hb) b1 b2
            have c3 : ∀ q ∈ b.toList.take k2, leK q a[k - 1] := fun q hq => Int.le_of_lt (hf2.1 q hq)
            refine wpS_if (fun z => ?_) fun z => ?_
            · have m3 := chunkH_b sB m2 (i := k2) hk2 (fun q hq p hp => Int.le_trans (front_le sA ha h0' q hq) (hf2.2 p hp))
              refine wpS_if (fun e => wpS_pure ⟨⟨_, rfl⟩, .inl ⟨_, _, rfl, wholeH_l sA sB m3 (by simpa using e) hl⟩⟩) fun e3 => wpS_if (fun e => wpS_pure ⟨⟨_, rfl⟩, .inl ⟨_, _, rfl, wholeH_b sA m3 (by simpa using e)⟩⟩) fun e5 => ?_
              refine wpS_bind (wpS_elem ha ?_)
              have m4 := pushH_a sA m3 ha h0' c3
              refine wpS_if (fun e => wpS_pure ⟨⟨_, rfl⟩, .inl ⟨_, _, rfl, wholeH_a sB m4 (by simpa using e)⟩⟩) fun e => ?_
              have hh : HalfH a b _ (k - 1) k2 := ⟨m4, Nat.pos_of_ne_zero (ne_of_beq e), lt_two (ne_of_beq e3) (ne_of_beq e5)⟩
              have hm' := le_two hm h0' rb0 hk2
              exact wpS_if (fun _ => wpS_pure ⟨⟨_, rfl⟩, .inr ⟨_, _, _, _, _, _, rfl, hh, le_drop hm'⟩⟩) (fun _ => wpS_pure ⟨⟨_, rfl⟩, _, _, _, _, _, _, rfl, hh, hm'⟩)
            · have z' : k2 = nb - 1 := eq_of_sub hk2 z
              subst z'
              refine wpS_bind (wpS_elem ha ?_)
              have m4 := pushH_a sA m2 ha h0' c3
              refine wpS_if (fun e => wpS_pure ⟨⟨_, rfl⟩, .inl ⟨_, _, rfl, wholeH_a sB m4 (by simpa using e)⟩⟩) fun e => ?_
              have hh : HalfH a b _ (k - 1) (nb - 1) := ⟨m4, Nat.pos_of_ne_zero (ne_of_beq e), rb'⟩
              have hm' := le_two hm h0' rb0 (Nat.le_refl _)
              exact wpS_if (fun _ => wpS_pure ⟨⟨_, rfl⟩, .inr ⟨_, _, _, _, _, _, rfl, hh, le_drop hm'⟩⟩) (fun _ => wpS_pure ⟨⟨_, rfl⟩, _, _, _, _, _, _, rfl, hh, hm'⟩)
end
end Mine
namespace Mine
theorem K_at {xs : Array Keyed} {i : Nat} (h : i < xs.size) : K xs i = kx xs[i] := by
  unfold K; rw [getElem?_pos xs i h]; rfl
theorem cut_get {xs : Array Keyed} {i j k : Nat} (hj : j ≤ xs.size) (h : k < (xs.extract i j).toList.length) : kx (xs.extract i j).toList[k] = K xs (i + k) ∧ i + k < j := by
  rw [Array.length_toList, Array.size_extract] at h
  have hlt : i + k < j := by omega
  refine ⟨?_, hlt⟩
  rw [K_at (by omega), Array.getElem_toList, Array.getElem_extract]
theorem sl_cut {xs : Array Keyed} {lo hi i j : Nat} (h : SortedIn xs lo hi) (hi' : lo ≤ i) (hj : j ≤ hi) (hs : hi ≤ xs.size) : SL (xs.extract i j).toList := by
  refine List.pairwise_iff_getElem.mpr fun a b ha hb hab => ?_
  have e1 := cut_get (by (clear ha hab hb hi'; omega)) ha
  have e2 := cut_get (by (clear e1 hab hb hi'; omega)) hb
  show kx _ ≤ kx _
  rw [e1.1, e2.1]
  exact h _ _ (by (clear e1 e2 hab hj hs; omega)) (by (clear e1 e2 hi' hj hs; omega)) (by (clear e1 hab hi' hs; omega))
theorem mem_cut {xs : Array Keyed} {i j : Nat} (hj : j ≤ xs.size) {p : Keyed} (h : p ∈ (xs.extract i j).toList) : ∃ k, i ≤ k ∧ k < j ∧ kx p = K xs k := by
  obtain ⟨k, hk, e⟩ := List.getElem_of_mem h
  have e1 := cut_get hj hk
  exact ⟨i + k, by (clear e e1 hj; omega), e1.2, by rw [← e, e1.1]⟩
theorem write_at (M : List Keyed) : ∀ (a : Array Keyed) (b o : Nat), b + o + M.length ≤ a.size →
    ((M.zipIdx o).foldl (fun a x => a.setIfInBounds (b + x.2) x.1) a).toList = a.toList.take (b + o) ++ M ++ a.toList.drop (b + o + M.length) := by
  induction M with
  | nil => intro a b o h; simp
  | cons p M ih =>
    intro a b o h
    rw [List.length_cons] at h
    rw [List.zipIdx_cons, List.foldl_cons, ih _ _ _ (by rw [Array.size_setIfInBounds]; omega), Array.toList_setIfInBounds]
    have hlt : b + o < a.toList.length := by rw [Array.length_toList]; omega
    have e1 : (a.toList.set (b + o) p).take (b + (o + 1)) = a.toList.take (b + o) ++ [p] := by
      rw [show b + (o + 1) = b + o + 1 by (clear h hlt; omega), List.take_succ_eq_append_getElem (by rw [List.length_set]; exact hlt), List.getElem_set_self, List.take_set_of_le (Nat.le_refl _)]
    have e2 : (a.toList.set (b + o) p).drop (b + (o + 1) + M.length) = a.toList.drop (b + o + (M.length + 1)) := by
      rw [show b + (o + 1) + M.length = b + o + (M.length + 1) by (clear e1 h hlt; omega), List.drop_set_of_lt (by (clear e1 h hlt; omega))]
    rw [e1, e2, List.length_cons, List.append_assoc, List.append_assoc, List.append_assoc]
    rfl
theorem sorted_of_sl {xs : Array Keyed} (h : SL xs.toList) : SortedIn xs 0 xs.size := by
  intro i j _ hij hj
  rw [K_at hj, K_at (by omega)]
  by_cases e : i = j
  · subst e; exact Int.le_refl _
  · have := List.pairwise_iff_getElem.mp h i j (by rw [Array.length_toList]; (clear e; omega)) (by rw [Array.length_toList]; (clear e hij; omega)) (by (clear hj; omega))
    rw [Array.getElem_toList, Array.getElem_toList] at this
    exact this
theorem merged_sl {xs : Array Keyed} {n k e : Nat} {M : List Keyed} (hk : k ≤ n) (hne : n ≤ e) (he : e ≤ xs.size) (h1 : SortedIn xs 0 n) (h2 : SortedIn xs n xs.size)
    (ha : ∀ i, i < k → K xs i ≤ K xs n) (hn : n < xs.size) (hb : ∀ i, e ≤ i → i < xs.size → K xs (n - 1) ≤ K xs i) (hn0 : 0 < n)
    (hM : Merged (xs.extract k n).toList (xs.extract n e).toList M) :
    SL (xs.toList.take k ++ M ++ xs.toList.drop e) ∧ (xs.toList.take k ++ M ++ xs.toList.drop e).Perm xs.toList := by
  obtain ⟨hp, hs⟩ := hM
  have hx : xs.toList.take k = (xs.extract 0 k).toList := by simp [Array.toList_extract, List.extract_eq_take_drop]
  have hz : xs.toList.drop e = (xs.extract e xs.size).toList := by
    rw [Array.toList_extract, List.extract_eq_take_drop, List.take_of_length_le]
    rw [List.length_drop, Array.length_toList]; (clear he hk hn hn0 hne hx; omega)
  refine ⟨?_, ?_⟩
  · have m1 : ∀ p ∈ M, p ∈ (xs.extract k n).toList ∨ p ∈ (xs.extract n e).toList := fun p h => List.mem_append.mp (hp.mem_iff.mp h)
    rw [hx, hz]
    refine List.pairwise_append.mpr ⟨List.pairwise_append.mpr ⟨sl_cut h1 (Nat.le_refl 0) hk (by (clear he hk hn0 hne hx hz; omega)), hs, ?_⟩, sl_cut h2 hne (Nat.le_refl _) (Nat.le_refl _), ?_⟩
    · intro p hp q hq
      obtain ⟨i, _, i2, i3⟩ := mem_cut (by (clear he hn0 hne hx hz; omega)) hp
      show kx p ≤ kx q
      rcases m1 q hq with hq | hq
      · obtain ⟨j, j1, j2, j3⟩ := mem_cut (by (clear he hk hn0 hne hx hz i2 i3; omega)) hq
        rw [i3, j3]; exact h1 i j (Nat.zero_le _) (by (clear he hk hn hn0 hne hx hz i3 j2 j3; omega)) j2
      · obtain ⟨j, j1, j2, j3⟩ := mem_cut (by (clear hk hn hn0 hne hx hz i2 i3; omega)) hq
        rw [i3, j3]; exact Int.le_trans (ha i i2) (h2 n j (Nat.le_refl _) j1 (by (clear hk hn hn0 hne hx hz i2 i3 j1 j3; omega)))
    · intro p hp q hq
      obtain ⟨j, j1, j2, j3⟩ := mem_cut (Nat.le_refl _) hq
      show kx p ≤ kx q
      rcases List.mem_append.mp hp with hp | hp
      · obtain ⟨i, _, i2, i3⟩ := mem_cut (by (clear he hn0 hne hx hz j1 j2 j3; omega)) hp
        rw [i3, j3]; exact Int.le_trans (ha i i2) (h2 n j (Nat.le_refl _) (by (clear he hk hn hn0 hx hz i2 i3 j2 j3; omega)) j2)
      · rcases m1 p hp with hp | hp
        · obtain ⟨i, i1, i2, i3⟩ := mem_cut (by (clear he hk hn0 hne hx hz j1 j2 j3; omega)) hp
          rw [i3, j3]; exact Int.le_trans (h1 i (n - 1) (Nat.zero_le _) (by (clear he hk hn hne hx hz i1 i3 j1 j2 j3; omega)) (by (clear he hk hn hne hx hz i1 i2 i3 j1 j2 j3; omega))) (hb j j1 j2)
        · obtain ⟨i, i1, i2, i3⟩ := mem_cut (by (clear hk hn hn0 hne hx hz j1 j2 j3; omega)) hp
          rw [i3, j3]; exact h2 i j i1 (by (clear he hk hn hn0 hne hx hz i1 i3 j2 j3; omega)) j2
  · have hw : xs.toList = xs.toList.take k ++ ((xs.extract k n).toList ++ (xs.extract n e).toList) ++ xs.toList.drop e := by
      rw [Array.toList_extract, Array.toList_extract, List.extract_eq_take_drop, List.extract_eq_take_drop]
      have a1 : xs.toList = xs.toList.take k ++ xs.toList.drop k := (List.take_append_drop k _).symm
      have a2 : xs.toList.drop k = (xs.toList.drop k).take (n - k) ++ xs.toList.drop n := by
        have := (List.take_append_drop (n - k) (xs.toList.drop k)).symm
        rwa [List.drop_drop, show k + (n - k) = n by (clear a1 he hn hn0 hne hx hz this; omega)] at this
      have a3 : xs.toList.drop n = (xs.toList.drop n).take (e - n) ++ xs.toList.drop e := by
        have := (List.take_append_drop (e - n) (xs.toList.drop n)).symm
        rwa [List.drop_drop, show n + (e - n) = e by (clear a1 a2 he hk hn hn0 hx hz this; omega)] at this
      rw [List.append_assoc, List.append_assoc, ← a3, ← a2, ← a1]
    refine List.Perm.trans ?_ (List.Perm.of_eq hw.symm)
    exact (hp.append_left _).append_right _
end Mine
namespace Mine
open PySem PyProof.Rows
section
variable {prog : Program} {w : World} {A : Around} {E : Value → Shared → Prop} {s : Shared} {a₀ : Array Keyed} {p : Array (Nat × Nat × Nat)}
theorem mergeAt'_eq (i : Nat) : mergeAt' i = (do
  let s ← get
  let (some (sa, na, power), some (sb, nb, _)) := ((pendingOf s)[i]?, (pendingOf s)[i + 1]?) | unsupported "internal:list.sort.pending"
  set (setPending s (((pendingOf s).setIfInBounds i (sa, na + nb, power)).eraseIdxIfInBounds (i + 1)))
  let some k ← gallop' false (← elem' (arrOf s) sb) (arrOf s) sa na 0 | return false
  let (sa, na) := (sa + k, na - k)
  if na == 0 then return true
  let some nb ← gallop' true (← elem' (arrOf s) (sa + na - 1)) (arrOf s) sb nb (nb - 1) | return false
  if nb == 0 then return true
  let x := (arrOf s).extract sa sb
  let y := (arrOf s).extract sb (sb + nb)
  let merged ← if na ≤ nb then mergeLo' x y else mergeHi' x y
  modify fun s => setArr s (merged.toList.zipIdx.foldl (fun a (p, j) => a.setIfInBounds (sa + j) p) (arrOf s))
  return (failedOf (← get)).isNone) := rfl
theorem wpS_set {σ : Type} {M : Model} {st st' : σ} {Q : PUnit → σ → Prop} (h : Q ⟨⟩ st') : wpS M A E s (set st' : StateT σ Sem PUnit) Q st := by
  unfold wpS; rw [StateT.run_set]; exact wpAny_pure ⟨rfl, h⟩
theorem bey_fK {key : Keyed} {arr : Array Keyed} {base i : Nat} (h : base + i < arr.size) : bey false key arr base i = true ↔ K arr (base + i) ≤ kx key := by
  rw [bey_f (by rw [Array.length_toList]; exact h), K_at h, Array.getElem_toList]
  simp
theorem bey_tK {key : Keyed} {arr : Array Keyed} {base i : Nat} (h : base + i < arr.size) : bey true key arr base i = true ↔ K arr (base + i) < kx key := by
  rw [bey_t (by rw [Array.length_toList]; exact h), K_at h, Array.getElem_toList]
  simp
theorem isK_of {xs : Array Keyed} (hp : xs.Perm a₀) (h0 : IntKeys a₀) : ∀ x ∈ xs.toList, IsK x := fun x hx => h0 x ((Array.perm_iff_toList_perm.mp hp).mem_iff.mp hx)
theorem isK_cut {xs : Array Keyed} (h : ∀ x ∈ xs.toList, IsK x) {i j : Nat} : ∀ x ∈ (xs.extract i j).toList, IsK x := fun x hx => by
  rw [cut_list2] at hx
  exact h x (List.mem_of_mem_drop (List.mem_of_mem_take hx))
theorem size_cut {xs : Array Keyed} {i j : Nat} (hj : j ≤ xs.size) : (xs.extract i j).size = j - i := by rw [Array.size_extract, Nat.min_eq_left hj]
theorem cut_last {k n : Nat} (h : k < n) : k + (n - k - 1) = n - 1 := by omega
theorem wpS_mergeAt {st : SortSt} {n m pw q : Nat} {Q : Bool → SortSt → Prop} (h0 : IntKeys a₀) (hB : SB a₀ #[(0, n, pw), (n, m, q)] st) (hn : 0 < n) (hm : 0 < m) (hs : n + m = a₀.size) (h1 : SortedIn (arrOf st) 0 n) (h2 : SortedIn (arrOf st) n a₀.size)
    (h : ∀ st', SB a₀ #[(0, n + m, pw)] st' → SortedIn (arrOf st') 0 a₀.size → Q true st') : wpS (model prog w) A E s (mergeAt' 0) Q st := by
  rw [mergeAt'_eq]
  have hsz := hB.size
  have hK := isK_of hB.perm h0
  have hS : (arrOf st).size = n + m := hsz.trans hs.symm
  have hn1 : n < (arrOf st).size := by rw [hS]; exact Nat.lt_add_of_pos_right hm
  have hn0 := Nat.le_of_lt hn1
  have hB2 : SB a₀ #[(0, n + m, pw)] (setPending st (((pendingOf st).setIfInBounds 0 (0, n + m, pw)).eraseIdxIfInBounds (0 + 1))) :=
    ⟨hB.perm, hB.kind, hB.failed, by show ((pendingOf st).setIfInBounds 0 (0, n + m, pw)).eraseIdxIfInBounds (0 + 1) = _; rw [hB.pend]; simp [Array.eraseIdxIfInBounds]⟩
  refine wpS_bind (wpS_get ?_)
  have e0 : (pendingOf st)[0]? = some (0, n, pw) := by rw [hB.pend]; rfl
  have e1 : (pendingOf st)[0 + 1]? = some (n, m, q) := by rw [hB.pend]; rfl
  rw [e0, e1]
  dsimp only
  refine wpS_bind (wpS_set ?_)
  refine wpS_bind (wpS_elem hn1 ?_)
  have hKn : IsK (arrOf st)[n] := hK _ (by simp)
  have hmono1 : ∀ i j, i ≤ j → j < n → bey false (arrOf st)[n] (arrOf st) 0 j = true → bey false (arrOf st)[n] (arrOf st) 0 i = true := fun i j hij hj hb => by
    rw [bey_fK (by (clear e0 e1 hS hb hm hn hn0; omega))] at hb ⊢
    exact Int.le_trans (h1 _ _ (Nat.zero_le _) (by (clear e0 e1 hS hb hj hm hn hn0 hs hsz; omega)) (by (clear e0 e1 hS hb hij hm hn hn0; omega))) hb
  refine wpS_bind (wpS_gallop hB2.kind hKn hK (by (clear e0 e1 hS hm hn hn0; omega)) hn hmono1 fun k hk hk1 hk2 => ?_)
  have ha : ∀ i, i < k → K (arrOf st) i ≤ K (arrOf st) n := fun i hi => by
    have := (bey_fK (by (clear e0 e1 hS hm hn hn0; omega))).mp (hk1 i hi)
    rwa [Nat.zero_add, ← K_at hn1] at this
  have hc : ∀ i, k ≤ i → i < n → K (arrOf st) n < K (arrOf st) i := fun i h3 h4 => by
    have := hk2 i h3 h4
    rw [← Bool.not_eq_true, bey_fK (by (clear e0 e1 h3 hS hk hm hn hn0 this; omega)), ← K_at hn1, Nat.zero_add] at this
    (clear e0 e1 h3 h4 hS hk hm hn hn0 hs hsz; omega)
  dsimp only
  by_cases hz : n - k = 0
  · rw [if_pos (by simpa using hz)]
    refine wpS_pure (h _ hB2 ?_)
    intro i j _ hij hj
    show K (arrOf st) i ≤ K (arrOf st) j
    by_cases hj1 : j < n
    · exact h1 i j (Nat.zero_le _) hij hj1
    · by_cases hi1 : i < n
      · exact Int.le_trans (ha i (by (clear e0 e1 hS hij hj hj1 hm hn hn0; omega))) (h2 n j (Nat.le_refl _) (by (clear e0 e1 hS hi1 hij hj hk hm hn hn0 hz; omega)) hj)
      · exact h2 i j (by (clear e0 e1 hS hij hj hj1 hk hm hn hn0 hz; omega)) hij hj
  rw [if_neg (by simpa using hz)]
  have hl0 : 0 + k + (n - k) - 1 = n - 1 := by rw [Nat.zero_add, Nat.add_sub_cancel' hk]
  have hnp : n - 1 < (arrOf st).size := Nat.lt_of_le_of_lt (Nat.sub_le _ _) hn1
  have hl1 : 0 + k + (n - k) - 1 < (arrOf st).size := by rw [hl0]; exact hnp
  refine wpS_bind (wpS_elem hl1 ?_)
  have hKl : kx (arrOf st)[0 + k + (n - k) - 1] = K (arrOf st) (n - 1) := by
    rw [← K_at hl1, hl0]
  have hKl2 : IsK (arrOf st)[0 + k + (n - k) - 1] := hK _ (by simp)
  generalize (arrOf st)[0 + k + (n - k) - 1] = ky at hKl hKl2 ⊢
  have hmono2 : ∀ i j, i ≤ j → j < m → bey true ky (arrOf st) n j = true → bey true ky (arrOf st) n i = true := fun i j hij hj hb => by
    rw [bey_tK (by (clear e0 e1 hKl hS hb hk hl0 hl1 hm hn hn0 hnp hz; omega))] at hb ⊢
    exact Int.lt_of_le_of_lt (h2 _ _ (by (clear e0 e1 hKl hS hb hij hj hk hl0 hl1 hm hn hn0 hnp hs hsz hz; omega)) (by (clear e0 e1 hKl hS hb hj hk hl0 hl1 hm hn hn0 hnp hs hsz hz; omega)) (by (clear e0 e1 hKl hS hb hij hk hl0 hl1 hm hn hn0 hnp hsz hz; omega))) hb
  refine wpS_bind (wpS_gallop hB2.kind hKl2 hK (by (clear e0 e1 hKl hS hk hl0 hl1 hm hn hn0 hnp hz; omega)) (by (clear e0 e1 hKl hS hk hl0 hl1 hn hn0 hnp hs hsz hz; omega)) hmono2 fun f hf hf1 hf2 => ?_)
  have hd : ∀ i, i < f → K (arrOf st) (n + i) < K (arrOf st) (n - 1) := fun i hi => by
    have := (bey_tK (by (clear e0 e1 hKl hS hk hl0 hl1 hm hn hn0 hnp hz; omega))).mp (hf1 i hi)
    rwa [hKl] at this
  have hb : ∀ i, n + f ≤ i → i < (arrOf st).size → K (arrOf st) (n - 1) ≤ K (arrOf st) i := fun i h3 h4 => by
    have := hf2 (i - n) (by (clear e0 e1 h4 hKl hS hf hk hl0 hl1 hm hn hn0 hnp hz; omega)) (by (clear e0 e1 hKl hS hf hk hl0 hl1 hm hn hn0 hnp hz; omega))
    rw [← Bool.not_eq_true, bey_tK (by (clear e0 e1 hKl hS hf hk hl0 hl1 hm hn hn0 hnp hz this; omega)), hKl, show n + (i - n) = i by (clear e0 e1 h4 hKl hS hf hk hl0 hl1 hm hn hn0 hnp hz this; omega)] at this
    (clear e0 e1 h3 h4 hKl hS hf hk hl0 hl1 hm hn hn0 hnp hs hsz hz; omega)
  dsimp only
  by_cases hz2 : f = 0
  · rw [if_pos (by simpa using hz2)]
    refine wpS_pure (h _ hB2 ?_)
    intro i j _ hij hj
    show K (arrOf st) i ≤ K (arrOf st) j
    by_cases hj1 : j < n
    · exact h1 i j (Nat.zero_le _) hij hj1
    · by_cases hi1 : i < n
      · exact Int.le_trans (h1 i (n - 1) (Nat.zero_le _) (by (clear e0 e1 hKl hS hf hij hj hj1 hk hl0 hl1 hm hn0 hnp hz hz2; omega)) (by (clear e0 e1 hKl hS hf hi1 hij hj hj1 hk hl0 hl1 hm hn0 hnp hz hz2; omega))) (hb j (by (clear e0 e1 hKl hS hf hi1 hij hj hk hl0 hl1 hm hn hn0 hnp hz; omega)) (by (clear e0 e1 hKl hS hf hi1 hij hj1 hk hl0 hl1 hm hn hn0 hnp hs hz hz2; omega)))
      · exact h2 i j (by (clear e0 e1 hKl hS hf hij hj hj1 hk hl0 hl1 hm hn hn0 hnp hz hz2; omega)) hij hj
  rw [if_neg (by simpa using hz2)]
  simp only [Nat.zero_add]
  have hf0 : n + f ≤ (arrOf st).size := by rw [hS]; exact Nat.add_le_add_left hf n
  have sX : SL ((arrOf st).extract k n).toList := sl_cut h1 (Nat.zero_le _) (Nat.le_refl _) hn0
  have sY : SL ((arrOf st).extract n (n + f)).toList := sl_cut h2 (Nat.le_refl _) (by (clear e0 e1 hKl hS hf0 hk hl0 hl1 hm hn hn0 hnp hsz hz hz2; omega)) (by (clear e0 e1 hKl hS hf hf0 hk hl0 hl1 hm hn hn0 hnp hs hz hz2; omega))
  have zX : 0 < ((arrOf st).extract k n).size := by rw [size_cut hn0]; exact Nat.pos_of_ne_zero hz
  have zY : 0 < ((arrOf st).extract n (n + f)).size := by rw [size_cut hf0, Nat.add_sub_cancel_left]; exact Nat.pos_of_ne_zero hz2
  have cXY : ∀ q ∈ ((arrOf st).extract k n).toList, leK (((arrOf st).extract n (n + f))[0]) q := fun q hq => by
    obtain ⟨i, i1, i2, i3⟩ := mem_cut (by (clear e0 e1 hKl hS hf hf0 hk hl0 hl1 hm hn hn0 hnp hz hz2 zX zY; omega)) hq
    show kx _ ≤ kx q
    rw [i3, Array.getElem_extract, ← K_at (by (clear e0 e1 hKl hS hf hf0 hk hl0 hl1 hm hn hn0 hnp hz hz2 i1 i2 i3 zX zY; omega))]
    exact Int.le_of_lt (hc i i1 i2)
  have cYX : ∀ q ∈ ((arrOf st).extract n (n + f)).toList, kx q ≤ K (arrOf st) (n - 1) := fun q hq => by
    obtain ⟨i, i1, i2, i3⟩ := mem_cut (by (clear e0 e1 hKl hS hf0 hk hl0 hl1 hm hn hn0 hnp hz hz2 zX; omega)) hq
    rw [i3]
    have := hd (i - n) (by (clear e0 e1 hKl hS hf hf0 hk hl0 hl1 hm hn hn0 hnp hz hz2 i3 zX; omega))
    rw [show n + (i - n) = i by (clear e0 e1 hKl hS hf hf0 hk hl0 hl1 hm hn hn0 hnp hz hz2 i2 i3 this zX; omega)] at this
    exact Int.le_of_lt this
  have lX : kx (((arrOf st).extract k n)[((arrOf st).extract k n).size - 1]'(Nat.sub_lt zX Nat.one_pos)) = K (arrOf st) (n - 1) := by
    have q : k + (((arrOf st).extract k n).size - 1) = n - 1 := by rw [size_cut hn0]; exact cut_last (Nat.lt_of_sub_ne_zero hz)
    rw [Array.getElem_extract, ← K_at (by rw [q]; exact hnp), q]
  have fin : ∀ out g, Whole ((arrOf st).extract k n) ((arrOf st).extract n (n + f)) out →
      wpS (model prog w) A E s (do
        modify fun s => setArr s (out.toList.zipIdx.foldl (fun a (p, j) => a.setIfInBounds (k + j) p) (arrOf s))
        return (failedOf (← get)).isNone) Q (gal (setPending st (((pendingOf st).setIfInBounds 0 (0, n + m, pw)).eraseIdxIfInBounds (0 + 1))) g) := fun out g hw => by
    refine wpS_bind (wpS_modify (wpS_bind (wpS_get (wpS_pure ?_))))
    have hlen : out.toList.length = n - k + f := by
      rw [hw.1.length_eq, List.length_append, Array.length_toList, Array.length_toList, size_cut hn0, size_cut hf0, Nat.add_sub_cancel_left]
    have e5 := write_at out.toList (arrOf st) k 0 (by (clear e0 e1 hKl hS hf0 hl0 hl1 hm hn hn0 hnp hz hz2 lX; omega))
    rw [Nat.add_zero, show k + out.toList.length = n + f by (clear e0 e1 e5 hKl hS hf hf0 hl0 hl1 hm hn hn0 hnp hz hz2 lX; omega)] at e5
    obtain ⟨r1, r2⟩ := merged_sl (xs := arrOf st) hk (Nat.le_add_right n f) (by (clear e0 e1 e5 hKl hS hf0 hk hl0 hl1 hm hn hn0 hnp hz hz2 lX; omega)) h1 (by rw [hsz]; exact h2) ha hn1 hb hn hw
    rw [← e5] at r1 r2
    have r3 : (out.toList.zipIdx.foldl (fun a (x : Keyed × Nat) => a.setIfInBounds (k + x.2) x.1) (arrOf st)).Perm (arrOf st) := Array.perm_iff_toList_perm.mpr r2
    have r4 := sorted_of_sl r1
    rw [r3.size_eq, hsz] at r4
    show Q (failedOf st).isNone _
    rw [hB.failed]
    exact h _ ⟨r3.trans hB.perm, hB.kind, hB.failed, hB2.pend⟩ r4
  by_cases hle : n - k ≤ f
  · rw [if_pos hle]
    refine wpS_bind (wpS_mergeLo hB2.kind (isK_cut hK) (isK_cut hK) sX sY zX zY cXY ?_ fin)
    intro p hp q hq
    rw [← cut_rest] at hq
    obtain ⟨i, i1, i2, i3⟩ := mem_cut (Nat.le_refl _) hq
    show kx p ≤ kx q
    rw [i3, K_at i2]
    have : i = ((arrOf st).extract k n).size - 1 := by (clear e0 e1 hKl hS hf hf0 hk hl0 hl1 hle hm hn hn0 hnp hs hsz hz hz2 i3 lX; omega)
    subst this
    rw [lX]
    exact cYX p hp
  · rw [if_neg hle]
    refine wpS_bind (wpS_mergeHi hB2.kind (isK_cut hK) (isK_cut hK) sX sY zX zY ?_ (fun q hq => by show kx q ≤ kx _; rw [lX]; exact cYX q hq) fin)
    intro q hq p hp
    have : q = ((arrOf st).extract n (n + f))[0] := by
      obtain ⟨j, j1, j2, e⟩ := mem_take hq
      have : j = 0 := by (clear e e0 e1 hKl hS hf hf0 hk hl0 hl1 hle hm hn hn0 hnp hs hsz hz hz2 lX; omega)
      subst this
      rw [e, Array.getElem_toList]
    rw [this]; exact cXY p hp
theorem minRun_two {n : Nat} (h1 : 64 ≤ n) (h2 : n < 128) : minRun' n n 0 = n / 2 + n % 2 := by
  obtain ⟨f, rfl⟩ : ∃ f, n = f + 2 := ⟨n - 2, by omega⟩
  rw [minRun'_succ, if_neg (by omega), minRun'_succ, if_pos (by omega), Nat.max_eq_right (Nat.zero_le _)]
noncomputable def One (a₀ : Array Keyed) (st : SortSt) : Prop := (∃ q, SB a₀ #[(0, a₀.size, q)] st) ∧ SortedIn (arrOf st) 0 a₀.size
noncomputable def Two (a₀ : Array Keyed) (st : SortSt) : Prop := ∃ n m pw, 0 < n ∧ 0 < m ∧ n + m = a₀.size ∧ SB a₀ #[(0, n, pw), (n, m, 0)] st ∧ SortedIn (arrOf st) 0 n ∧ SortedIn (arrOf st) n a₀.size
theorem SB.push {st : SortSt} (hB : SB a₀ p st) (x : Nat × Nat × Nat) : SB a₀ (p.push x) (setPending st ((pendingOf st).push x)) :=
  ⟨hB.perm, hB.kind, hB.failed, by show (pendingOf st).push _ = _; rw [hB.pend]⟩
theorem modify_one (n q pw : Nat) {p : Array (Nat × Nat × Nat)} (h : p = #[(0, n, q)]) : (p.modify (p.size - 1) fun (a, len, _) => (a, len, pw)) = #[(0, n, pw)] := by
  subst h
  apply Array.ext'
  simp
theorem SB.power {st : SortSt} {n q pw : Nat} (hB : SB a₀ #[(0, n, q)] st) : SB a₀ #[(0, n, pw)] (setPending st ((pendingOf st).modify ((pendingOf st).size - 1) fun (st, len, _) => (st, len, pw))) :=
  ⟨hB.perm, hB.kind, hB.failed, modify_one n q pw hB.pend⟩
theorem SortedIn.same {xs ys : Array Keyed} {n : Nat} (h : SortedIn xs 0 n) (k : SameTo ys xs n) : SortedIn ys 0 n := fun i j a b c => by
  rw [k i (by (clear a; omega)), k j c]; exact h i j a b c
theorem wpS_sortTwo {st : SortSt} {Q : Unit → SortSt → Prop} (h0 : IntKeys a₀) (hB : SB a₀ #[] st) (h64 : 64 ≤ a₀.size) (h128 : a₀.size < 128)
    (h : ∀ st', (arrOf st').Perm a₀ → failedOf st' = none → SortedIn (arrOf st') 0 a₀.size → Q () st') : wpS (model prog w) A E s sortRuns' Q st := by
  rw [sortRuns'_eq]
  refine wpS_bind (wpS_get ?_)
  dsimp only
  simp only [hB.size, minRun_two h64 h128]
  obtain ⟨mr, hmr⟩ : ∃ mr, mr = a₀.size / 2 + a₀.size % 2 := ⟨_, rfl⟩
  rw [← hmr]
  have hm2 : a₀.size ≤ 2 * mr := by (clear h128 h64; omega)
  have hm3 : 0 < mr ∧ mr < a₀.size := by (clear hm2; omega)
  refine wpS_bind (wpS_mono (wpS_forRange
    (I := fun x c st' => (x = 0 ∧ c = (none, 0) ∧ SB a₀ #[] st') ∨ (x = 1 ∧ ∃ n, c = (none, n) ∧ mr ≤ n ∧ n ≤ a₀.size ∧ SB a₀ #[(0, n, 0)] st' ∧ SortedIn (arrOf st') 0 n) ∨ (2 ≤ x ∧ c = (none, a₀.size) ∧ Two a₀ st'))
    (Q := fun c st' => c = (none, a₀.size) ∧ (One a₀ st' ∨ Two a₀ st')) ?step ?fin (.inl ⟨rfl, rfl, hB⟩)) ?post)
  case fin =>
    rintro c st' (⟨hx, _, _⟩ | ⟨hx, _⟩ | ⟨_, hc, hD⟩)
    · (clear hm2 hm3; omega)
    · (clear hm2 hm3; omega)
    · exact ⟨hc, .inr hD⟩
  case step =>
    rintro x c st' _ hx (⟨rfl, rfl, hB'⟩ | ⟨rfl, n, rfl, hn1, hn2, hB', hs'⟩ | ⟨hx1, rfl, hD⟩)
    · dsimp only
      rw [if_neg (by (clear hm2 hm3 hx; omega))]
      simp only [Nat.sub_zero, Nat.zero_add]
      refine wpS_bind (wpS_count2 h0 (by (clear h128 h64 hm2 hm3 hmr hx; omega)) (by (clear hm2 hm3 hx; omega)) hB' fun m st2 hB2 c1 c2 hs2 _ => ?_)
      dsimp only
      rw [Nat.zero_add] at hs2
      by_cases hlt : m < mr
      · rw [if_pos hlt]
        refine wpS_bind (wpS_lift (wpAny_rule ⟨rfl, ?_⟩))
        have em : min a₀.size mr = mr := Nat.min_eq_right (by (clear c1 c2 h128 h64 hlt hm2 hx; omega))
        simp only [em]
        refine wpS_bind (wpS_binary2 h0 (by (clear c1 c2 em h128 h64 hlt hm2 hx; omega)) (by (clear c1 c2 h128 h64 hm2 hm3 hmr hx; omega)) hB2 (by rw [Nat.zero_add]; exact hs2) fun st3 hB3 hs3 _ => ?_)
        rw [Nat.zero_add] at hs3
        simp only [Bool.not_true, Bool.false_eq_true, if_false]
        refine wpS_bind (wpS_get ?_)
        have hb : (pendingOf st3).back? = none := by rw [hB3.pend]; rfl
        rw [hb]
        dsimp only
        exact wpS_bind (wpS_modify (wpS_pure (.inr (.inl ⟨trivial, _, rfl, Nat.le_refl _, Nat.le_of_lt hm3.2, hB3.push (0, mr, 0), hs3⟩))))
      · rw [if_neg hlt]
        refine wpS_bind (wpS_get ?_)
        have hb : (pendingOf st2).back? = none := by rw [hB2.pend]; rfl
        rw [hb]
        dsimp only
        have c3 : mr ≤ m := by (clear c1 c2 h128 h64 hb hm2 hm3 hmr hx; omega)
        exact wpS_bind (wpS_modify (wpS_pure (.inr (.inl ⟨trivial, _, rfl, c3, c2, hB2.push (0, m, 0), hs2⟩))))
    · dsimp only
      by_cases hge : n ≥ a₀.size
      · rw [if_pos hge]
        have : n = a₀.size := by (clear h128 h64 hm2 hm3 hn1 hx; omega)
        subst this
        exact wpS_pure ⟨rfl, .inl ⟨⟨0, hB'⟩, hs'⟩⟩
      rw [if_neg hge]
      refine wpS_bind (wpS_count2 h0 (by (clear h128 h64 hm2 hm3 hn1 hn2 hx; omega)) (by (clear h128 h64 hm2 hm3 hn1 hn2 hx; omega)) hB' fun m st2 hB2 c1 c2 hs2 hf2 => ?_)
      dsimp only
      have two : ∀ st3, SB a₀ #[(0, n, 0)] st3 → SortedIn (arrOf st3) n a₀.size → SameTo (arrOf st3) (arrOf st') n →
          ∀ pw : Nat, Two a₀ (setPending (setPending st3 ((pendingOf st3).modify ((pendingOf st3).size - 1) fun (st, len, _) => (st, len, pw))) ((pendingOf (setPending st3 ((pendingOf st3).modify ((pendingOf st3).size - 1) fun (st, len, _) => (st, len, pw)))).push (n, a₀.size - n, 0))) := fun st3 b1 b2 b3 pw =>
        ⟨n, a₀.size - n, pw, by (clear c1 c2 h128 h64 hm2 hm3 hn2 hx; omega), by (clear h128 h64 hge hm2 hm3 hmr hn1 hn2 hx; omega), by (clear c1 c2 h128 h64 hm2 hm3 hn1 hn2 hx; omega), b1.power.push (n, a₀.size - n, 0), hs'.same b3, b2⟩
      by_cases hlt : m < mr
      · rw [if_pos hlt]
        refine wpS_bind (wpS_lift (wpAny_rule ⟨rfl, ?_⟩))
        have em : min (a₀.size - n) mr = a₀.size - n := Nat.min_eq_left (by (clear c1 c2 h128 h64 hlt hm2 hm3 hn2 hx; omega))
        simp only [em]
        refine wpS_bind (wpS_binary2 h0 (by (clear c1 c2 h128 h64 hlt hm2 hm3 hn1 hn2 hx; omega)) (by (clear c1 h128 h64 hge hlt hm2 hm3 hmr hn1 hn2 hx; omega)) hB2 hs2 fun st3 hB3 hs3 hf3 => ?_)
        rw [show n + (a₀.size - n) = a₀.size by (clear c1 c2 h128 h64 hlt hm2 hm3 hn1 hn2 hx; omega)] at hs3
        simp only [Bool.not_true, Bool.false_eq_true, if_false]
        refine wpS_bind (wpS_get ?_)
        have hb : (pendingOf st3).back? = some (0, n, 0) := by rw [hB3.pend]; rfl
        rw [hb]
        dsimp only
        refine wpS_bind (wpS_mono (wpS_forRange (I := fun _ c st'' => st'' = st3 ∧ c = (none, ())) (Q := fun c st'' => st'' = st3 ∧ c = (none, ())) ?_ (fun _ _ hh => hh) ⟨rfl, rfl⟩) ?_)
        · rintro x c st'' _ _ ⟨rfl, rfl⟩
          refine wpS_bind (wpS_get ?_)
          have hz : (pendingOf st'').size = 1 := by rw [hB3.pend]; rfl
          rw [if_neg (by (clear c1 c2 em h128 h64 hb hge hlt hm2 hm3 hmr hn1 hn2 hx; omega))]
          exact wpS_pure ⟨rfl, rfl⟩
        · rintro c st'' ⟨rfl, rfl⟩
          dsimp only
          refine wpS_bind (wpS_modify (wpS_bind (wpS_modify (wpS_pure (.inr (.inr ⟨by (clear c1 c2 em h128 h64 hb hge hlt hm2 hm3 hmr hn1 hn2 hx; omega), ?_, two _ hB3 hs3 (hf3.trans hf2) _⟩))))))
          rw [show n + (a₀.size - n) = a₀.size by (clear c1 c2 h128 h64 hb hlt hm2 hm3 hn1 hn2 hx; omega)]
      · rw [if_neg hlt]
        have hmm : m = a₀.size - n := by (clear c1 h128 h64 hm2 hm3 hn2 hx; omega)
        subst hmm
        rw [show n + (a₀.size - n) = a₀.size by (clear c1 c2 h128 h64 hm2 hm3 hn2 hx; omega)] at hs2
        refine wpS_bind (wpS_get ?_)
        have hb : (pendingOf st2).back? = some (0, n, 0) := by rw [hB2.pend]; rfl
        rw [hb]
        dsimp only
        refine wpS_bind (wpS_mono (wpS_forRange (I := fun _ c st'' => st'' = st2 ∧ c = (none, ())) (Q := fun c st'' => st'' = st2 ∧ c = (none, ())) ?_ (fun _ _ hh => hh) ⟨rfl, rfl⟩) ?_)
        · rintro x c st'' _ _ ⟨rfl, rfl⟩
          refine wpS_bind (wpS_get ?_)
          have hz : (pendingOf st'').size = 1 := by rw [hB2.pend]; rfl
          rw [if_neg (by (clear c1 c2 h128 h64 hb hge hlt hm2 hm3 hmr hn1 hn2 hx; omega))]
          exact wpS_pure ⟨rfl, rfl⟩
        · rintro c st'' ⟨rfl, rfl⟩
          dsimp only
          refine wpS_bind (wpS_modify (wpS_bind (wpS_modify (wpS_pure (.inr (.inr ⟨by (clear c1 c2 h128 h64 hb hge hlt hm2 hm3 hmr hn1 hn2 hx; omega), ?_, two _ hB2 hs2 hf2 _⟩))))))
          rw [show n + (a₀.size - n) = a₀.size by (clear c1 c2 h128 h64 hb hm2 hm3 hn2 hx; omega)]
    · dsimp only
      rw [if_pos (Nat.le_refl _)]
      exact wpS_pure ⟨rfl, .inr hD⟩
  case post =>
    rintro c st' ⟨rfl, hD⟩
    dsimp only
    refine wpS_bind (wpS_mono (wpS_forRange (I := fun x c st'' => c = (none, ()) ∧ (One a₀ st'' ∨ (x = 0 ∧ Two a₀ st''))) (Q := fun c st'' => c = (none, ()) ∧ One a₀ st'') ?_ ?_ ⟨rfl, hD.imp id fun h => ⟨rfl, h⟩⟩) ?_)
    · rintro x c st'' _ _ ⟨rfl, (hO | ⟨rfl, n, m, pw, n1, m1, nm, b1, b2, b3⟩)⟩
      · refine wpS_bind (wpS_get ?_)
        obtain ⟨q, hq⟩ := hO.1
        have hz : (pendingOf st'').size = 1 := by rw [hq.pend]; rfl
        rw [if_pos (by (clear h128 h64 hD hm2 hm3 hmr; omega))]
        exact wpS_pure ⟨rfl, hO⟩
      · refine wpS_bind (wpS_get ?_)
        have hz : (pendingOf st'').size = 2 := by rw [b1.pend]; rfl
        rw [if_neg (by (clear h128 h64 hD hm2 hm3 hmr m1 n1 nm; omega))]
        simp only [hz, Nat.sub_self, gt_iff_lt, Nat.lt_irrefl, if_false, Option.any_none, Bool.false_eq_true]
        refine wpS_bind (wpS_mergeAt h0 b1 n1 m1 nm b2 b3 fun st3 d1 d2 => ?_)
        simp only [Bool.not_true, Bool.false_eq_true, if_false]
        rw [nm] at d1
        exact wpS_pure ⟨rfl, .inl ⟨⟨_, d1⟩, d2⟩⟩
    · rintro c st'' ⟨rfl, (hO | ⟨hx, _⟩)⟩
      · exact ⟨rfl, hO⟩
      · (clear hD hm2 hm3; omega)
    · rintro c st'' ⟨rfl, ⟨q, hq⟩, hs⟩
      exact wpS_pure (h _ hq.perm hq.failed hs)
end
end Mine
namespace Mine
open PySem PyProof.Rows
section
variable {prog : Program} {w : World} {A : Around} {E : Value → Shared → Prop} {s : Shared}
theorem wpS_sort {st : SortSt} {a₀ : Array Keyed} {Q : Unit → SortSt → Prop} (h0 : IntKeys a₀) (hB : SBase a₀ st) (h2 : 2 ≤ a₀.size) (h128 : a₀.size < 128)
    (h : ∀ st', (arrOf st').Perm a₀ → failedOf st' = none → SortedTo (arrOf st') a₀.size → Q () st') : wpS (model prog w) A E s sortRuns' Q st := by
  by_cases h64 : a₀.size < 64
  · exact wpS_sortRuns h0 hB h2 h64 h
  · exact wpS_sortTwo h0 ⟨hB.perm, hB.kind, hB.failed, hB.pend⟩ (by omega) h128 fun st' a b c => h st' a b fun i j hij hj => c i j (Nat.zero_le _) hij hj
theorem sort_tree {a : Addr} {vs : List Value} {ns : List Int} {n : Nat} {P : Fin → Shared → Prop} (ho : s.heap.get? a = some (seqObj "list" vs.toArray n))
    (hI : IntsAre vs ns) (h128 : vs.length < 128)
    (h : ∀ (out : Array Value) (ns' : List Int), IntsAre out.toList ns' → ns'.Perm ns → ns'.Pairwise (· ≤ ·) → P (.done (.ret .none)) { s with heap := sortedHeap s.heap a vs out }) :
    wpAny (model prog w) A (Builtin.«list.sort» ⟨[.ref a], []⟩) P E s := by
  by_cases h64 : vs.length < 64
  · exact list_sort_tree ho hI h64 h
  have ha : a < s.heap.objs.size := Heap.lt_size ho
  have hz : vs.toArray.size = vs.length := List.size_toArray
  obtain ⟨v₁, v₂, rest, rfl⟩ : ∃ v₁ v₂ rest, vs = v₁ :: v₂ :: rest := by
    cases vs with
    | nil => simp at h64
    | cons v₁ r => cases r with
      | nil => simp at h64
      | cons v₂ rest => exact ⟨v₁, v₂, rest, rfl⟩
  rw [list_sort_plain]
  refine wpAny_bind (listItems_at ho rfl (wpAny_bind (listUpdate_at ho rfl ?_)))
  obtain ⟨e1, ho1⟩ : ∃ e1, (s.heap.update a (Obj.mapSeq fun _ => #[])).get? a = some (seqObj "list" #[] e1) := ⟨_, get?_update_seq ho (fun _ => #[])⟩
  refine wpAny_bind (seqEpoch_at ho1 rfl (wpAny_bind (wpAny_newTuple (wpAny_bind (wpAny_newList (wpAny_holding ?_))))))
  have hz1 : (s.heap.update a (Obj.mapSeq fun _ => #[])).objs.size = s.heap.objs.size := Heap.size_update ..
  have ho6 : (((s.heap.update a (Obj.mapSeq fun _ => #[])).push (seqObj "tuple" (v₁ :: v₂ :: rest).toArray 0)).push (seqObj "list" #[] 0)).get? a = some (seqObj "list" #[] e1) :=
    Heap.get?_push_of_some _ (Heap.get?_push_of_some _ ho1)
  show wpAny (model prog w) A _ P E { s with heap := ((s.heap.update a (Obj.mapSeq fun _ => #[])).push (seqObj "tuple" (v₁ :: v₂ :: rest).toArray 0)).push (seqObj "list" #[] 0) }
  dsimp only
  rw [if_neg (by (clear ha ho ho1 ho6 hz1; omega)), if_neg (by (clear ha ho ho1 ho6 hz1; omega)), keyKind_ints hI]
  refine wpAny_bind (wpAny_pure ?_)
  refine wpAny_bind (wpAny_mono (wpS_sort (a₀ := pairsOf (v₁ :: v₂ :: rest)) (st := SortSt.mk' oneType' ((v₁ :: v₂ :: rest).toArray.zip (v₁ :: v₂ :: rest).toArray) #[] 7 none)
    (Q := fun _ st' => (arrOf st').Perm (pairsOf (v₁ :: v₂ :: rest)) ∧ failedOf st' = none ∧ SortedTo (arrOf st') (pairsOf (v₁ :: v₂ :: rest)).size)
    hI.intKeys ⟨Array.Perm.refl _, rfl, rfl, rfl⟩ (by rw [pairsOf_size]; (clear ha ho ho1 ho6 hz1; omega)) (by rw [pairsOf_size]; exact h128) fun st' a1 a2 a3 => ⟨a1, a2, a3⟩) ?_ fun _ _ e => e)
  rintro ⟨⟨⟩, st'⟩ s' ⟨rfl, hp, hf, hs⟩
  dsimp only
  refine wpAny_bind (seqEpoch_at ho6 rfl (wpAny_bind (listUpdate_at ho6 rfl ?_ (hsz2 := ?_))))
  · rw [hf]
    simp only [bne_self_eq_false, Bool.false_eq_true, if_false]
    obtain ⟨ns', h1, h2, h3⟩ := sorted_out hI hp hs
    exact wpAny_pure (h _ ns' h1 h2 h3)
  · refine Nat.le_trans (Nat.le_of_eq ((Array.size_map ..).trans (hp.size_eq.trans (pairsOf_size _)))) ?_
    rw [sizeLine_eq]; (clear ha hf ho ho1 ho6 hz1; omega)
theorem sort_led {h₀ : Heap} {L D : Addr} {m : Str → Option Value} {news : List (Addr × Obj)} {vs : List Value} {ns : List Int} {c : Nat} {Q : Value → Shared → Prop}
    (F : Fr h₀ L s.heap m) (N : News h₀ L s.heap ((D, seqObj "list" vs.toArray c) :: news)) (hn : ∀ q ∈ news, q.1 ≠ D) (hI : IntsAre vs ns) (h128 : vs.length < 128)
    (h : ∀ h' vs' ns' e, Fr h₀ L h' m → News h₀ L h' ((D, seqObj "list" vs'.toArray e) :: news) → IntsAre vs' ns' → ns'.Perm ns → ns'.Pairwise (· ≤ ·) → Q .none { s with heap := h' }) :
    wpAny (model prog w) A (call (.builtin "list.sort") [.ref D]) Q E s := by
  have hD := N _ (.head _)
  refine wpAny_call_entry slot_list_sort ⟨_, hD.1, rfl⟩ entry_list_sort (sort_tree hD.1 hI h128 fun out ns' a1 a2 a3 => ⟨_, rfl, ?_⟩) (args_list_sort _)
  obtain ⟨e, he⟩ := sortedHeap_at (out := out) hD.1
  have old : ∀ b o, b ≠ D → s.heap.get? b = some o → (sortedHeap s.heap D vs out).get? b = some o := fun b o hb ho => by
    rw [sortedHeap_old hb (Heap.lt_size ho)]; exact ho
  refine h _ out.toList ns' e ?_ ?_ a1 a2 a3
  · obtain ⟨oL, b1, b2, hL, b3⟩ := F.ns
    refine ⟨⟨oL, b1, b2, old _ _ (fun q => hD.2.1 q.symm) hL, b3⟩, fun b o hb => old _ _ (fun q => ?_) (F.keep b o hb), F.above⟩
    rw [q, hD.2.2] at hb; cases hb
  · intro p hp
    rcases List.mem_cons.mp hp with rfl | hp
    · exact ⟨he, hD.2⟩
    · exact ⟨old _ _ (hn p hp) (N p (.tail _ hp)).1, (N p (.tail _ hp)).2⟩
end
end Mine
namespace Mine
open PySem PySem.W PyProof.Rows PyProof.V
theorem flat_keys : ∀ {kvs : List (Int × Value)} {c : List (Int × Int)}, FlatPairs PyData.int kvs (kdfD c) → kvs.map (·.1) = c.map (·.1)
  | [], [], _ => rfl
  | [], _ :: _, h => by cases h
  | _ :: _, [], h => by cases h
  | (k, v) :: kvs, (i, x) :: c, h => by
    cases h with
    | cons _ r => rw [List.map_cons, List.map_cons, flat_keys r]
theorem ints_keys : ∀ {vs : List Value} {kvs : List (Int × Value)}, vs.length = kvs.length → (∀ (j : Nat) (v : Value), vs[j]? = some v → ∃ k x, kvs[j]? = some (k, x) ∧ v.isInt k = true) → IntsAre vs (kvs.map (·.1))
  | [], [], _, _ => .nil
  | [], _ :: _, h, _ => by simp at h
  | _ :: _, [], h, _ => by simp at h
  | v :: vs, (k, x) :: kvs, h, hv => by
    obtain ⟨k', x', e, hk⟩ := hv 0 v rfl
    cases e
    obtain ⟨t, rfl⟩ := Value.isInt_shape hk
    exact .cons k t (ints_keys (by simpa using h) fun j u hu => hv (j + 1) u hu)
section
variable {prog : Program} {w : World} {A : Around} {E : Value → Shared → Prop} {s : Shared}
theorem sorted_tab {h₀ : Heap} {L d : Addr} {m : Str → Option Value} {news : List (Addr × Obj)} {o : Obj} {kvs : List (Int × Value)} {c : List (Int × Int)} {Q : Value → Shared → Prop}
    (hh : A.handled = none) (F : Fr h₀ L s.heap m) (N : News h₀ L s.heap news) (hm : (d, o) ∈ news) (hd : o.IsDictOf (intKind prog w) kvs) (hf : FlatPairs PyData.int kvs (kdfD c)) (lo : (d == sysModules) = false) (hc : c.length < 128)
    (h : ∀ D h' tk vs' ns' e, Fr h₀ L h' m → News h₀ L h' ((D, seqObj "list" vs'.toArray e) :: news) → (∀ q ∈ news, q.1 < D) → IntsAre vs' ns' → ns'.Perm (c.map (·.1)) → ns'.Pairwise (· ≤ ·) → Q (.ref D) { s with heap := h', toks := tk }) :
    wpAny (model prog w) A (call (.builtin "sorted") [.ref d]) Q E s := by
  obtain ⟨ep, hat⟩ := (kda_dict N hm hd).dictAt
  have hk := flat_keys hf
  have hl : kvs.length = c.length := by have := congrArg List.length hk; rwa [List.length_map, List.length_map] at this
  refine kdu_sorted (kdl_dict (knd := intKind prog w) (kvs := kvs) (ep := ep) lo) hh F N hat (by rw [hl, sizeLine_eq]; (clear hh hk lo; omega)) fun D h' tk vs F' N' l1 hn hv => ?_
  refine sort_led F' N' (fun q hq => Nat.ne_of_lt (l1 q hq)) (ints_keys hn hv) (by (clear hh hk lo; omega)) fun h2 vs' ns' e F2 N2 a1 a2 a3 => ?_
  exact h D h2 tk vs' ns' e F2 N2 l1 a1 (by rw [← hk]; exact a2) a3
end
end Mine
namespace Mine
theorem c_many (w : World) (mean : ExcName → Option Value) (mg mb : Str → Option Value) (C : Addr) (vs : List Value) (ds : List Dat) (k : Nat) (hok : ∀ d ∈ ds, ClockOk d) (hlen : ds.length ≤ 40) (p : Int) (tp : Tok) :
    Cv PySem.Challenge.rw_uf050027_07.row.prog w (hd07.heap_39 w.params) hd07.view_39 (looseW hd07.view_39 []) mean mg mb 82 2 [.ref C, .int p tp] (fun news => (C, ({ cls := .type "list", data := .seq vs.toArray k } : Obj)) ∈ news ∧ DatAll news vs ds) (fun r => ∃ t, r = .int (cnt (sts ds) p) t) := by
  unfold Cv
  k_fill
  w_top off
  intro dp un gd cn cs a ccd cl outer A₀ base h₀ L m news s Q E B F X N T hk hd hu hP hret
  obtain ⟨hm, hD⟩ := hP
  refine wpAny_call ?_
  k_dflt cell_enter
  k_with_none
  k_with "exec For Tuple Name cons nil" => (k_here; (rename Fr _ _ _ _ => lF'); (with_unfolding_all refine' For_turns lF' ?_; k_whole))
  k_steps
  (rename Fr _ _ _ _ => lF')
  (rename News _ _ _ _ => lN')
  k_dflt (refine' Mine.loop_listD (σ := Int × Tok) (fun c => [(Str.ofString "_law_found", Value.int c.1 c.2)]) [Str.ofString "_law_name", Str.ofString "_law_stretch"] (fun pre c => c.1 = cnt (sts pre) p) (0, _) hD (by rfl) lF' lN' hm rfl rfl (List.forall_mem_cons.mpr ⟨rfl, List.forall_mem_nil _⟩) rfl ?_ ?_)
  (all_goals (clear lF' lN'))
  · intro pre8 d8 post8 v8 c8 u8 I8 o8 h8 tk8 e8 hd8 hI8 hP8 hne8 ho8 F8 N8
    obtain ⟨x8, tx8⟩ := c8
    dsimp only at hP8 F8
    rcases clock_at hI8 (hok d8 hd8) with ⟨a8, n8, y8, ty8, rfl, hm8, hs8, _⟩ | ⟨a8, n8, y8, ty8, b8, k8, lo8, hi8, t18, t28, rfl, hm8, hb8, hs8, hbd8, _⟩
    · k_steps
      all_goals ((rename Fr _ _ _ _ => lF8); (rename News _ _ _ _ => lN8); k_dflt (refine' Mine.still_int lF8 lN8 ?lK (List.Mem.head _) (fun p hp => List.Mem.tail _ hp) ?lO ?lR ?lP; (case lK => first | exact if_pos rfl | exact rfl); (case lO => assumption); (case lP => first | exact cnt_not hs8 hP8 | exact cnt_in hs8 (by omega) (by omega) hP8 | exact cnt_out hs8 (by omega) hP8); (case lR => (intro z h4 h3; (simp only [List.contains_cons, List.contains_nil, Bool.or_false, Bool.or_eq_false_iff, beq_eq_false_iff_ne, ne_eq] at h3 h4); (simp [h3, h4, kstB]; done)))))
    · k_steps
      all_goals ((rename Fr _ _ _ _ => lF8); (rename News _ _ _ _ => lN8); k_dflt (refine' Mine.still_int lF8 lN8 ?lK (List.Mem.head _) (fun p hp => List.Mem.tail _ hp) ?lO ?lR ?lP; (case lK => first | exact if_pos rfl | exact rfl); (case lO => assumption); (case lP => first | exact cnt_not hs8 hP8 | exact cnt_in hs8 (by omega) (by omega) hP8 | exact cnt_out hs8 (by omega) hP8); (case lR => (intro z h4 h3; (simp only [List.contains_cons, List.contains_nil, Bool.or_false, Bool.or_eq_false_iff, beq_eq_false_iff_ne, ne_eq] at h3 h4); (simp [h3, h4, kstB]; done)))))
  · intro c8 u8 h8 tk8 hP8 F8 N8
    obtain ⟨x8, tx8⟩ := c8
    dsimp only at hP8 F8
    subst hP8
    k_steps
    all_goals first | (refine' hret _ _ _ ⟨_, rfl⟩ ?q2 ?q3; (case q2 => k_asm); (case q3 => k_asm))
end Mine
namespace Mine
theorem c_runs (w : World) (mean : ExcName → Option Value) (mg mb : Str → Option Value) (C : Addr) (vs : List Value) (ds : List Dat) (k : Nat) (hok : ∀ d ∈ ds, ClockOk d) (hlen : ds.length ≤ 40) :
    Cm PySem.Challenge.rw_uf050027_07.row.prog w (hd07.heap_39 w.params) hd07.view_39 (looseW hd07.view_39 []) mean mg mb 21 2 [.ref C] (fun _ news => (C, ({ cls := .type "list", data := .seq vs.toArray k } : Obj)) ∈ news ∧ DatAll news vs ds) (fun r add => ∃ D ys e pts, r = .ref D ∧ (D, ({ cls := .type "list", data := .seq (List.toArray ys) e } : Obj)) ∈ add ∧ Pts (sts ds) pts ∧ pts.length ≤ 80 ∧ DatAll add ys ((runsOf (sts ds) pts).map runD)) := by
  unfold Cm
  k_fill
  w_top off
  intro dp un gd cn cs a ccd cl outer A₀ base h₀ L m news s Q E B F X N T hk hd hu hP hret
  obtain ⟨hm, hD⟩ := hP
  refine wpAny_call ?_
  k_dflt cell_enter
  k_with_none
  k_with "exec For Tuple Name cons nil" => (k_here; (rename Fr _ _ _ _ => lF'); (with_unfolding_all refine' For_turns lF' ?_; k_whole))
  k_with "exec For Name Call cons nil" => (k_here; (rename Fr _ _ _ _ => lF'); (with_unfolding_all refine' For_turns lF' ?_; k_whole))
  k_with "setItem ref int" => (k_here; (with_reducible show wpAny _ _ (setItem (Value.ref _) (Value.int _ _) (Value.int _ _)) _ _ _); k_dflt (refine' kdf_setItem ?F ?N ?U ?d ?f ?z ?_; (case F => k_asm); (case N => k_asm); (case U => k_updF); (case d => k_asm); (case f => k_asm); (case z => first | omega | (refine Nat.le_trans (put_len _ _ _) ?_; omega))); intro h' o' kvs' F' N' hd' hf'; (try dsimp only at N'))
  k_steps
  (rename Obj.IsDictOf (intKind _ _) _ _ => hi')
  (rename PyProof.V.FlatPairs PyData.int _ _ => fi')
  (rename Fr _ _ _ _ => lF')
  (rename News _ _ _ _ => lN')
  (rename ∀ p ∈ news, p.1 < _ => lA')
  k_dflt (refine' Mine.loop_listH (σ := Unit) (fun _ => []) [Str.ofString "name", Str.ofString "stretch"] (fun pre _ o => ∃ kvs c, o.IsDictOf (intKind PySem.Challenge.rw_uf050027_07.row.prog w) kvs ∧ PyProof.V.FlatPairs PyData.int kvs (kdfD c) ∧ Tab (sts pre) c) () hD (by rfl) lF' lN' hm rfl rfl (List.forall_mem_nil _) ⟨[], [], hi', fi', tab_nil⟩ ?_ ?_)
  (all_goals (clear lF' lN' hi' fi'))
  · intro pre8 d8 post8 v8 c8 od8 u8 I8 o8 h8 tk8 e8 hd8 hI8 hP8 hne8 ho8 F8 N8
    obtain ⟨kvs8, tb8, hi8', hf8', T8⟩ := hP8
    have hl8 : tb8.length ≤ 80 := tab_len T8 e8 hlen
    have q18 := hne8 _ (.head _)
    have q28 := Ne.symm q18
    dsimp only at q18 q28
    rcases clock_at hI8 (hok d8 hd8) with ⟨a8, n8, y8, ty8, rfl, hm8, hs8, _⟩ | ⟨a8, n8, y8, ty8, b8, k8, lo8, hi8, t18, t28, rfl, hm8, hb8, hs8, hbd8, _⟩
    · k_steps
      all_goals ((rename Fr _ _ _ _ => lF8); (rename News _ _ _ _ => lN8); k_dflt (refine' Mine.LoopTurn.stillH () lF8 lN8 (List.Mem.head _) (List.Mem.tail _ (List.Mem.head _)) (fun p hp => List.Mem.tail _ (List.Mem.tail _ hp)) ?lO (List.forall_mem_nil _) ?lR ?lP; (case lO => exact List.forall_mem_cons.mpr ⟨q18, fun p hp => hne8 p (.tail _ hp)⟩); (case lP => exact ⟨_, _, hi8', hf8', tab_same T8 hs8⟩); (case lR => (intro z _ h3; (simp only [List.contains_cons, List.contains_nil, Bool.or_false, Bool.or_eq_false_iff, beq_eq_false_iff_ne, ne_eq] at h3); (simp [h3, kstB]; done)))))
    · k_steps
      all_goals ((rename Fr _ _ _ _ => lF8); (rename News _ _ _ _ => lN8); k_dflt (refine' Mine.LoopTurn.stillH () lF8 lN8 (List.Mem.head _) (List.Mem.tail _ (List.Mem.head _)) (fun p hp => List.Mem.tail _ (List.Mem.tail _ hp)) ?lO (List.forall_mem_nil _) ?lR ?lP; (case lO => exact List.forall_mem_cons.mpr ⟨q18, fun p hp => hne8 p (.tail _ hp)⟩); (case lP => exact ⟨_, _, by assumption, by assumption, tab_more T8 hs8⟩); (case lR => (intro z _ h3; (simp only [List.contains_cons, List.contains_nil, Bool.or_false, Bool.or_eq_false_iff, beq_eq_false_iff_ne, ne_eq] at h3); (simp [h3, kstB]; done)))))
  · intro c8 od8 u8 h8 tk8 hP8 F8 N8
    obtain ⟨kvs8, tb8, hi8', hf8', T8⟩ := hP8
    have hl8 : tb8.length ≤ 80 := tab_len_all T8 hlen
    k_with "call builtin:sorted" => (k_here; (with_reducible show wpAny _ _ (call (Value.builtin _) [Value.ref _]) _ _ _); k_dflt (refine' Mine.sorted_tab ?hh ?F ?N ?m hi8' hf8' ?lo ?c ?_; (case hh => rfl); (case F => k_asm); (case N => k_asm); (case m => k_mem); (case lo => assumption); (case c => omega)); intro D9 h9 tk9 vs9 ns9 e9 F9 N9 l9 i9 p9 s9; (have P9 := Tab.pts T8 p9 s9); (have n9 : ns9.length ≤ 80 := (by rw [p9.length_eq, List.length_map]; exact hl8)); (have m9 := i9.length); clear N8; (try k_lt l9))
    k_steps
    (rename Fr _ _ _ _ => lF')
    (rename News _ _ _ _ => lN')
    (rename IsRange _ _ _ _ _ _ _ _ => lR')
    (rename (_ < _ ∧ _ < _ ∧ AllLt _ news) => lB')
    have lC' := allLt_mem lB'.2.2
    k_dflt (refine' Mine.loop_rangeG (n := ns9.length - 1) (σ := Int × Tok) (fun c => [(Str.ofString "many", Value.int c.1 c.2)]) [Str.ofString "k"] (fun i c ds' => c.1 = swept (sts ds) ns9 i ∧ ds' = ((runsOf (sts ds) ns9).take i).map runD) (0, _) (by rfl) lF' lN' lR' (small_one (by decide) (by decide) (by (clear hd hk hl8 hlen hu l9 lB'; omega)) (by (clear hd hk hl8 hlen hu l9 lB'; omega))) (range_size _ (by (clear hd hk hl8 hlen hu l9 lB'; omega))) (List.forall_mem_cons.mpr ⟨rfl, List.forall_mem_nil _⟩) ?gn ⟨rfl, rfl⟩ ?_ ?_)
    (case gn => exact List.forall_mem_cons.mpr ⟨Nat.ne_of_lt lB'.1, List.forall_mem_cons.mpr ⟨Nat.ne_of_lt lB'.2.1, fun p hp => Nat.ne_of_lt (lC' p hp)⟩⟩)
    (all_goals (clear lF' lN'))
    · intro i7 t7 c7 ys7 e7 add7 ds7 u7 I7 o7 h7 tk7 hi7 hR7 hA7 n17 n27 n37 ho7 F7 N7
      obtain ⟨x7, tx7⟩ := c7
      obtain ⟨hx7, rfl⟩ := hR7
      dsimp only at hx7 F7
      have hh7 := has_point T8 P9 (k := i7) (by (clear hd hk hl8 hlen ho7 hu hx7 l9 lB'; omega))
      obtain ⟨mp7, mq7⟩ := led_mid N7
      have q17 := n37 _ (.head _)
      have q27 := Ne.symm q17
      dsimp only at q17 q27
      k_with "subscriptTail Name Name ref int" => (k_here; (with_reducible show wpAny _ _ (subscriptTail _ _ (Value.ref D9) (Value.int _ _)) _ _ _); (rename News _ _ _ _ => kN9); k_dflt (refine' Mine.item_ints i7 kN9 ?m i9 ?k ?j ?f ?_; (case m => k_mem); (case k => omega); (case j => omega); (case f => omega); k_whole); intro _)
      k_with "subscriptTail Name BinOp ref int" => (k_here; (with_reducible show wpAny _ _ (subscriptTail _ _ (Value.ref D9) (Value.int _ _)) _ _ _); (rename News _ _ _ _ => kN9); k_dflt (refine' Mine.item_ints (i7 + 1) kN9 ?m i9 ?k ?j ?f ?_; (case m => k_mem); (case k => omega); (case j => omega); (case f => omega); k_whole); intro _)
      have hz7 : ys7.length ≤ 1000 := by rw [hA7.length, List.length_map, List.length_take]; (clear hd hh7 hk hl8 hlen ho7 hu hx7 l9 lB' q17 q27; omega)
      k_with "call builtin:list.append" => (k_here; (with_reducible show wpAny _ _ (call (Value.builtin _) [Value.ref _, _]) _ _ _); k_dflt (refine' append_K ?k1 ?k2 ?k3 ?_ ?z; (case k1 => k_asm); (case k2 => k_asm); (case k3 => k_upd); (case z => (rw [List.size_toArray, sizeLine_eq]; omega)); k_whole); intro h' F' N')
      k_steps
      all_goals ((rename Fr _ _ _ _ => lF8); (rename News _ _ _ _ => lN8); k_dflt (refine' Mine.grow_int lF8 lN8 ?lK (.tuple (List.Mem.head _) ?lD) hA7 n17 n27 ?lO ?lT ?lR ?lP; (case lK => first | exact if_pos rfl | exact rfl); (case lD => exact .cons (.int _ _) (.cons (.int _ _) (.cons (.int _ _) .nil))); (case lO => exact List.forall_mem_cons.mpr ⟨q17, fun p hp => n37 p (.tail _ hp)⟩); (case lT => first | assumption | tbn_find | exact allLt_of (by assumption)); (case lP => exact ⟨swept_more T8 (by omega) hx7, by rw [runs_more (sts_le hok) P9 (by omega) (swept_more T8 (by omega) hx7), List.map_append]; rfl⟩); (case lR => (intro z h4 h3; (simp only [List.contains_cons, List.contains_nil, Bool.or_false, Bool.or_eq_false_iff, beq_eq_false_iff_ne, ne_eq] at h3 h4); (simp [h3, h4, kstB]; done)))))
    · intro c7 ys7 e7 add7 ds7 u7 h7 tk7 hR7 hA7 n17 n27 F7 N7
      obtain ⟨x7, tx7⟩ := c7
      obtain ⟨hx7, rfl⟩ := hR7
      dsimp only at hx7 F7
      k_steps
      all_goals ((rename Fr _ _ _ _ => lF8); (rename News _ _ _ _ => lN8); refine' hret _ ((_, ({ cls := .type "list", data := .seq (List.toArray ys7) e7 } : Obj)) :: add7) _ _ ⟨_, ys7, e7, ns9, rfl, List.Mem.head _, P9, n9, ?r1⟩ ?r2 lF8 ?r3; (case r1 => (rw [runs_all] at hA7; exact hA7.mono fun p hp => .tail _ hp)); (case r2 => exact List.forall_mem_cons.mpr ⟨fun q hq => Nat.ne_of_lt (lC' q hq), fun p hp q hq => n27 p hp q (.tail _ (.tail _ hq))⟩); (case r3 => exact fun p hp => lN8 p (ret_sub2 p hp)))
end Mine
namespace Mine
theorem c_cell (w : World) (mean : ExcName → Option Value) (mg mb : Str → Option Value) (S : Addr) (vs : List Value) (ns : List Int) (hi : IntsAre vs ns) (hlay : PyData.layable0 (.list (ns.map .int)) = true) (hln : ns.length ≤ 63) (k : Int) (tk : Tok) (hkk : 0 ≤ k ∧ k ≤ 5) :
    Cm PySem.Challenge.rw_uf050027_07.row.prog w (hd07.heap_39 w.params) hd07.view_39 (looseW hd07.view_39 []) mean mg mb 42 2 [.ref S, .int k tk] (fun h₀ _ => h₀.IsList S vs.toArray) (fun r add => add = [] ∧ ∃ t, r = .int (ns.getD k.toNat 0) t) := by
  unfold Cm
  k_fill
  w_top off
  intro dp un gd cn cs a ccd cl outer A₀ base h₀ L m news s Q E B F X N T hk hd hu hP hret
  have hl9 := hi.length
  replace hP : h₀.IsList S vs.toArray := hP
  refine wpAny_call ?_
  k_dflt cell_enter
  (rename Fr h₀ L _ m => FG9)
  have hP9 := list_up FG9 hP
  k_with_none
  k_steps
  all_goals (refine' hret _ [] _ _ ⟨rfl, ?q1⟩ (fun _ h => nomatch h) ?q2 ?q3; (case q2 => k_asm); (case q3 => k_asm); (case q1 => first | exact ⟨_, rfl⟩ | exact int_out (by omega)))
end Mine
namespace Mine
open PySem PySem.W PyProof.Rows
theorem two_of {v : List Value} {n : List Int} {a b : Int} (hi : IntsAre v n) (hp : n.Perm [a, b]) (hb : (n.getD (Int.toNat 0) 0 = a ∨ n.getD (Int.toNat 0) 0 = b) ∧ n.getD (Int.toNat 0) 0 ≤ a ∧ n.getD (Int.toNat 0) 0 ≤ b) :
    ∃ x y t u, v = [.int x t, .int y u] ∧ n = [x, y] ∧ (x = a ∧ y = b ∨ x = b ∧ y = a) ∧ x ≤ y := by
  have hl := hp.length_eq
  cases hi with
  | nil => simp at hl
  | cons x t r =>
    cases r with
    | nil => simp at hl
    | cons y u r =>
      cases r with
      | cons z _ _ => simp at hl
      | nil =>
        have hb' : (x = a ∨ x = b) ∧ x ≤ a ∧ x ≤ b := hb
        have hm : (x = a ∧ y = b) ∨ (x = b ∧ y = a) := by
          rcases hb'.1 with e | e
          · subst e
            exact .inl ⟨rfl, by simpa using (List.perm_cons x).mp hp⟩
          · subst e
            have := (List.perm_cons x).mp (hp.trans (List.Perm.swap x a []))
            exact .inr ⟨rfl, by simpa using this⟩
        refine ⟨x, y, t, u, rfl, rfl, hm, ?_⟩
        rcases hm with ⟨_, e⟩ | ⟨_, e⟩ <;> rw [e]
        · exact hb'.2.2
        · exact hb'.2.1
end Mine
namespace Mine
open PySem PySem.W PyProof.Rows
theorem item_four {prog : Program} {w : World} {A : Around} {E : Value → Shared → Prop} {s : Shared} {value slice : PySem.Expr} {l : Addr} {vs : List Value} {a b c d : Int} {k : Int} {u : Tok} {Q : Value → Shared → Prop} (hl : s.heap.IsList l vs.toArray) (hi : IntsAre vs [a, b, c, d])
    (h0 : 0 ≤ k ∧ k < 4) (h : ∀ t x, (x = a ∨ x = b ∨ x = c ∨ x = d) → Q (.int x t) s)
    (hs : subscripted slice false (.ref l) (.int k u) = operate [.ref l, .int k u] (getItem (.ref l) (.int k u)) := by with_unfolding_all rfl) :
    wpAny (model prog w) A (subscriptTail value slice (.ref l) (.int k u)) Q E s := by
  obtain ⟨t, hx⟩ := hi.get k.toNat _ (ints_getD h0.1 (by simpa using h0.2))
  refine tail_any hl.typeIs slot_list_getitem.lookup (wpAny_getItem_list hl h0.1 (by (clear hs hx; omega)) (by simpa using hx) (h t _ ?_)) hs
  rcases (show k = 0 ∨ k = 1 ∨ k = 2 ∨ k = 3 by (clear hs hx; omega)) with e | e | e | e <;> subst e <;> simp
end Mine
namespace Mine
theorem c_clocks (w : World) (mean : ExcName → Option Value) (mg mb : Str → Option Value) (S : Addr) (vs : List Value) (ns : List Int) (hi : IntsAre vs ns) (hlay : PyData.layable0 (.list (ns.map .int)) = true) (hln : ns.length ≤ 63) :
    Cm PySem.Challenge.rw_uf050027_07.row.prog w (hd07.heap_39 w.params) hd07.view_39 (looseW hd07.view_39 []) mean mg mb 75 5 [.ref S] (fun h₀ _ => h₀.IsList S vs.toArray) (fun r add => ∃ D ys e ds, r = .ref D ∧ (D, ({ cls := .type "list", data := .seq (List.toArray ys) e } : Obj)) ∈ add ∧ DatAll add ys ds ∧ (∀ d ∈ ds, ClockOk d) ∧ ds.length ≤ 40) := by
  unfold Cm
  k_fill
  w_top off
  intro dp un gd cn cs a ccd cl outer A₀ base h₀ L m news s Q E B F X N T hk hd hu hP hret
  have hl9 := hi.length
  replace hP : h₀.IsList S vs.toArray := hP
  refine wpAny_call ?_
  k_dflt cell_enter
  (rename Fr h₀ L _ m => FG9)
  have hP9 := list_up FG9 hP
  have ck0 := cell_ok2 hlay (Int.toNat 0)
  have ck1 := cell_ok2 hlay (Int.toNat 1)
  k_with_none
  k_with "call ref" => (k_here; (with_reducible show wpAny _ _ (call (Value.ref 49) _) _ _ _); k_dflt (refine Mine.Ct.use (Mine.c_lmix _ _ _ _ _ _ _ _) (ret := ?_)); intro t9 h9 tk9 P9 F9 N9; (try dsimp only); (try k_fold))
  k_with "call ref" => (k_here; (with_reducible show wpAny _ _ (call (Value.ref 56) _) _ _ _); k_dflt (refine Mine.Ct.use (Mine.c_lbig _ _ _ _ _ _ _ _) (ret := ?_)); intro t9 h9 tk9 P9 F9 N9; (try dsimp only); (try k_fold))
  k_with "assign Tuple cons ref" => (k_here; (with_reducible rename List.Perm _ [_, _] => pmX); (obtain ⟨x9, y9, t9, u9, ev9, en9, hc9, hl9⟩ := Mine.two_of (by assumption) pmX (by assumption)); subst ev9; subst en9)
  k_with "subscriptTail List cons BinOp ref int" => (k_here; (with_reducible show wpAny _ _ (subscriptTail _ _ (Value.ref _) (Value.int _ _)) _ _ _); (try k_fmods); k_dflt (refine' Mine.item_four ?k1 ?k2 ?k3 ?_; (case k1 => is_list); (case k2 => l_ints); (case k3 => omega); k_whole); intro _ _ hFour)
  k_with "exec For Name Call cons nil" => (k_here; (rename Fr _ _ _ _ => lF'); (with_unfolding_all refine' For_turns lF' ?_; k_whole))
  k_with "call ref" => (k_here; (with_reducible show wpAny _ _ (call (Value.ref 42) _) _ _ _); k_dflt (refine' Mine.Cm.use (Mine.c_cell _ _ _ _ S vs ns hi hlay hln _ _ ?kp8) (hp := ?kP) (ret := ?_); (case kP => first | exact hP9 | exact hP); (case kp8 => omega)); intro r9 ad9 h9 tk9 ho9 hn9 F9 N9; k_dflt ((obtain ⟨e9, t9, e8⟩ := ho9); subst e9; subst e8; (replace N9 : News _ _ _ _ := N9); (simp only [List.nil_append] at N9)); (try dsimp only); (try k_fold))
  k_with "call ref" => (k_here; (with_reducible show wpAny _ _ (call (Value.ref 68) _) _ _ _); k_dflt (refine' Mine.Cm.use (Mine.c_names _ _ _ _ _ _ ?kp2) (hp := ?kP) (ret := ?_); (case kP => trivial); (case kp2 => first | trivial | ((try dsimp only); first | assumption | omega | l_fact))); intro r9 ad9 h9 tk9 ho9 hn9 F9 N9; k_dflt ((obtain ⟨D9, e9, ht9⟩ := ho9); subst e9; (obtain ⟨ys9, xs9, N8, ne9, hs9, hn8, hx9⟩ := Mine.texts_one ht9 hn9 N9); clear N9 ht9 hn9); (try dsimp only); (try k_fold))
  k_with "subscriptTail List cons BinOp ref int" => (k_here; (with_reducible show wpAny _ _ (subscriptTail _ _ (Value.ref _) (Value.int _ _)) _ _ _); (try k_fmods); k_dflt (refine' Mine.item_bd 9 1000000000000 ?k1 ?k2 ?k3 ?k4 ?k5 ?_; (case k1 => is_list); (case k2 => l_ints); (case k3 => decide); (case k4 => (simp only [List.length_cons, List.length_nil]; omega)); (case k5 => omega); k_whole); intro t8 wd9 hw9)
  k_steps
  (rename Fr _ _ _ _ => lF')
  (rename News _ _ _ _ => lN')
  (rename IsRange _ _ _ _ _ _ _ _ => lR')
  (rename (_ < _ ∧ _ < _ ∧ AllLt _ news) => lB')
  have lC' := allLt_mem lB'.2.2
  rw [clk_n] at lR'
  k_dflt (refine' Mine.loop_rangeG (n := min 40 (ns.length - 3)) (σ := Unit) (fun _ => []) [Str.ofString "_law_k", Str.ofString "_law_cell", Str.ofString "_law_low", Str.ofString "_law_high"] (fun i _ ds' => (∀ d ∈ ds', ClockOk d) ∧ ds'.length = i) () (by rfl) lF' lN' lR' (small_one (by decide) (by decide) (by (clear ck0 ck1 hd hk hl9 hlay hln hn8 hu hw9 lB'; omega)) (by (clear ck0 ck1 hd hk hl9 hlay hln hn8 hu hw9 lB'; omega))) (range_size _ (.inl rfl)) (List.forall_mem_nil _) ?gn ⟨(fun _ h => nomatch h), rfl⟩ ?_ ?_)
  (case gn => exact List.forall_mem_cons.mpr ⟨Nat.ne_of_lt lB'.1, List.forall_mem_cons.mpr ⟨Nat.ne_of_lt lB'.2.1, fun p hp => Nat.ne_of_lt (lC' p hp)⟩⟩)
  (all_goals (clear lF' lN'))
  · intro i7 t7 c7 ys7 e7 add7 ds7 u7 I7 o7 h7 tk7 hi7 hR7 hA7 n17 n27 n37 ho7 F7 N7
    obtain ⟨hk7, hl7⟩ := hR7
    obtain ⟨mp7, mq7⟩ := led_mid N7
    have q17 := n37 _ (.head _)
    have q27 := Ne.symm q17
    dsimp only at q17 q27 F7
    have hz7 : ys7.length ≤ 1000 := by rw [hA7.length, hl7]; (clear ck0 ck1 hd hk hl9 hlay hln hn8 ho7 hu hw9 lB' q17 q27; omega)
    have ck7 := cell_ok2 hlay (3 + i7)
    k_with "subscriptTail Name BinOp ref int" => (k_here; (with_reducible show wpAny _ _ (subscriptTail _ _ (Value.ref S) (Value.int _ _)) _ _ _); (rename Fr _ _ _ _ => kF9); k_dflt (refine' Mine.item_base (3 + i7) kF9 hP9 hi ?k ?j ?f ?_; (case k => omega); (case j => omega); (case f => omega); k_whole); intro _)
    k_with "subscriptTail Name Name ref int" => (k_here; (with_reducible show wpAny _ _ (subscriptTail _ _ (Value.ref D9) (Value.int _ _)) _ _ _); k_dflt (refine' Mine.item_name ?k1 ?k2 hs9 ?k3 ?k4 ?_; (case k1 => k_asm); (case k2 => k_mem); (case k3 => omega); (case k4 => omega); k_whole); intro x9 tx9 hm9)
    k_with "subscriptTail List cons BinOp ref int" => (k_here; (with_reducible show wpAny _ _ (subscriptTail _ _ (Value.ref _) (Value.int _ _)) _ _ _); (try k_fmods); k_dflt (first | (refine' Mine.item_of (fun x => x = 1 ∨ x = -1) ?k1 ?k2 ?k3 ?k4 ?k5 ?_; (case k1 => is_list); (case k2 => l_ints); (case k3 => decide); (case k4 => (simp only [List.length_cons, List.length_nil]; omega)); (case k5 => omega); k_whole) | (refine' Mine.item_bd 0 1000000000000 ?k1 ?k2 ?k3 ?k4 ?k5 ?_; (case k1 => is_list); (case k2 => l_ints); (case k3 => (simp only [List.forall_mem_cons, List.not_mem_nil, false_implies, implies_true, and_true]; (have f1 := fmb (mix (ns.getD (3 + i7) 0) 2) 10 (by decide)); (have f2 := fmb (mix (ns.getD (3 + i7) 0) 3) wd9 (by omega)); omega)); (case k4 => (simp only [List.length_cons, List.length_nil]; omega)); (case k5 => omega); k_whole)); intro t8 d9 hd9)
    k_with "exec If Compare cons nil" => (k_here; (rename Fr _ _ _ _ => iF7); (rename News _ _ _ _ => iN7); k_dflt (refine' Mine.If_cut2 (Str.ofString "_law_low") (Str.ofString "_law_high") (fun v u => v ≤ u ∧ -10000000000000 ≤ v ∧ u ≤ 10000000000000) iF7 iN7 ?i1 ?i2); (case' i2 => (intro h7 tk7 lo9 tl9 hi9 th9 F7 N7 hq9)); (try (clear iF7 iN7)))
    k_with "call builtin:list.append" => (k_here; (with_reducible show wpAny _ _ (call (Value.builtin _) [Value.ref _, _]) _ _ _); k_dflt (refine' append_K ?k1 ?k2 ?k3 ?_ ?z; (case k1 => k_asm); (case k2 => k_asm); (case k3 => k_upd); (case z => (rw [List.size_toArray, sizeLine_eq]; omega)); k_whole); intro h' F' N')
    k_steps
    all_goals (first | (k_dflt ((with_reducible show Mine.IfEnd2 _ _ _ _ _ _ _ _ _ _); (rename Fr _ _ _ _ => lF8); (rename News _ _ _ _ => lN8); first | (refine' Mine.IfEnd2.set lF8 lN8 ?eS ?eP; (case eS => (intro p9 hp9; (repeat (first | exact hp9 | refine List.Mem.tail _ ?_)))); (case eP => (have f0 := fmb (mix (ns.getD (3 + i7) 0) 0) wd9 (by omega); (rename _ = (1 : Int) ∨ _ = (-1 : Int) => hs8); have pb := pm_bd hs8 f0.1 f0.2; have b6 := big_bd (ns.getD (3 + i7) 0) 6; have b7 := big_bd (ns.getD (3 + i7) 0) 7; omega))) | (refine' Mine.IfEnd2.same lF8 lN8 ?eS ?eY ?eX ?eP; (case eS => (intro p9 hp9; (repeat (first | exact hp9 | refine List.Mem.tail _ ?_)))); (case eY => first | exact rfl | exact if_pos rfl); (case eX => first | exact rfl | exact if_pos rfl); (case eP => (have f0 := fmb (mix (ns.getD (3 + i7) 0) 0) wd9 (by omega); (rename _ = (1 : Int) ∨ _ = (-1 : Int) => hs8); have pb := pm_bd hs8 f0.1 f0.2; have b6 := big_bd (ns.getD (3 + i7) 0) 6; have b7 := big_bd (ns.getD (3 + i7) 0) 7; omega))))) | ((rename Fr _ _ _ _ => lF8); (rename News _ _ _ _ => lN8); k_dflt (first | (refine' Mine.grow_u2 lF8 lN8 ?lM ?lI clock_some hA7 ?lS n17 n27 ?lO ?lT ?lU ?lR ?lP; (case lM => (repeat (first | exact List.Mem.head _ | refine List.Mem.tail _ ?_))); (case lI => (repeat (first | exact List.Mem.head _ | refine List.Mem.tail _ ?_))); (case lS => (intro p9 hp9; (repeat (first | exact hp9 | refine List.Mem.tail _ ?_)))); (case lO => exact List.forall_mem_cons.mpr ⟨q17, fun p hp => n37 p (.tail _ hp)⟩); (case lT => (first | assumption | tbn_find | exact allLt_of (by assumption))); (case lU => (first | assumption | tbn_find | exact allLt_of (by assumption))); (case lR => (intro z h3; (simp only [List.contains_cons, List.contains_nil, Bool.or_false, Bool.or_eq_false_iff, beq_eq_false_iff_ne, ne_eq] at h3); (simp [h3, kstB]; done))); (case lP => (refine ⟨all_snoc hk7 ⟨_, _, rfl, hx9 _ hm9, .inr ⟨_, _, rfl, ?lB⟩⟩, by rw [List.length_append, hl7]; rfl⟩; (case lB => exact hq9)))) | (refine' Mine.grow_u1 lF8 lN8 ?lM ?lI clock_none hA7 ?lS n17 n27 ?lO ?lT ?lR ?lP; (case lM => (repeat (first | exact List.Mem.head _ | refine List.Mem.tail _ ?_))); (case lI => (repeat (first | exact List.Mem.head _ | refine List.Mem.tail _ ?_))); (case lS => (intro p9 hp9; (repeat (first | exact hp9 | refine List.Mem.tail _ ?_)))); (case lO => exact List.forall_mem_cons.mpr ⟨q17, fun p hp => n37 p (.tail _ hp)⟩); (case lT => (first | assumption | tbn_find | exact allLt_of (by assumption))); (case lR => (intro z h3; (simp only [List.contains_cons, List.contains_nil, Bool.or_false, Bool.or_eq_false_iff, beq_eq_false_iff_ne, ne_eq] at h3); (simp [h3, kstB]; done))); (case lP => exact ⟨all_snoc hk7 ⟨_, _, rfl, hx9 _ hm9, .inl rfl⟩, by rw [List.length_append, hl7]; rfl⟩)))))
  · intro c7 ys7 e7 add7 ds7 u7 h7 tk7 hR7 hA7 n17 n27 F7 N7
    obtain ⟨hk7, hl7⟩ := hR7
    k_steps
    all_goals ((rename Fr _ _ _ _ => lF8); (rename News _ _ _ _ => lN8); refine' hret _ ((_, ({ cls := .type "list", data := .seq (List.toArray ys7) e7 } : Obj)) :: add7) _ _ ⟨_, ys7, e7, ds7, rfl, List.Mem.head _, hA7.mono fun p hp => .tail _ hp, hk7, by omega⟩ ?r2 lF8 ?r3; (case r2 => exact List.forall_mem_cons.mpr ⟨fun q hq => Nat.ne_of_lt (lC' q hq), fun p hp q hq => n27 p hp q (.tail _ (.tail _ hq))⟩); (case r3 => exact fun p hp => lN8 p (ret_sub2 p hp)))
end Mine
namespace Mine
theorem c_whole (w : World) (mean : ExcName → Option Value) (mg mb : Str → Option Value) (x : Int) (tx : Tok) : Con w mean mg mb 35 1 [.int x tx] True (fun _ => .bool (true)) := by
  unfold Con Ct
  k_fill
  w_top off
  intro dp un gd cn cs a ccd cl outer A₀ base h₀ L m news s Q E B F X N T hk hd hu hret
  refine wpAny_call ?_
  k_dflt cell_enter
  k_with_none
  k_steps
  all_goals (refine' hret (0 : Nat) _ _ trivial ?e3 ?e4; (case e3 => k_asm); (case e4 => k_asm))
end Mine
namespace Mine
open PySem PySem.W PyProof.Rows PySem.Calls
theorem clear_drop {prog : Program} {w : World} {A : Around} {E : Value → Shared → Prop} {s : Shared} {h₀ : Heap} {L D : Addr} {m : Str → Option Value} {news rest : List (Addr × Obj)} {vs : List Value} {n : Nat} {Q : Value → Shared → Prop}
    (F : Fr h₀ L s.heap m) (N : News h₀ L s.heap news) (hm : (D, ({ cls := .type "list", data := .seq vs.toArray n } : Obj)) ∈ news) (hr : ∀ p ∈ rest, p ∈ news ∧ p.1 ≠ D) (hz : vs.length ≤ sizeLine)
    (h : ∀ h', Fr h₀ L h' m → News h₀ L h' rest → Q .none { s with heap := h' }) : wpAny (model prog w) A (call (.builtin "list.clear") [.ref D]) Q E s := by
  have z := N _ hm
  have hs : Heap.SameBut D s.heap (s.heap.update D (Obj.mapSeq fun _ => #[])) := Heap.SameBut.update ..
  refine call_meets PySem.F.slot_list_clear ⟨_, z.1, rfl⟩ PySem.F.entry_list_clear (PySem.F.args_list_clear_1 _) (PySem.AutoSeq1.list_clear_list_0 D vs.toArray n (by simpa using hz)) ⟨z.1, h _ (F.change hs z.2.1 z.2.2) fun p hp => ?_⟩
  have q := hr p hp
  exact ⟨(hs.2 _ q.2).trans (N p q.1).1, (N p q.1).2⟩
theorem need_one {a b : Int} (h : 0 < b) : 1 ≤ 1 + a.fmod b := by
  have := Int.fmod_nonneg_of_pos a h
  (clear h; omega)
theorem drop_two {K D : Addr} {oK oD : Obj} {rest more : List (Addr × Obj)} (hK : K ≠ D) (h1 : ∀ p ∈ rest, p.1 ≠ D) (h2 : ∀ q ∈ more, q.1 ≠ D) : ∀ p ∈ (K, oK) :: (rest ++ more), p ∈ (K, oK) :: (D, oD) :: (rest ++ more) ∧ p.1 ≠ D := fun p hp => by
  rcases List.mem_cons.mp hp with rfl | hp
  · exact ⟨.head _, hK⟩
  · refine ⟨.tail _ (.tail _ hp), ?_⟩
    rcases List.mem_append.mp hp with hp | hp
    · exact h1 p hp
    · exact h2 p hp
end Mine
namespace Mine
theorem c_parts (w : World) (mean : ExcName → Option Value) (mg mb : Str → Option Value) (C : Addr) (vs : List Value) (ds : List Dat) (k : Nat) (hok : ∀ d ∈ ds, ClockOk d) (hlen : ds.length ≤ 40) (need : Int) (tn : Tok) :
    Cm PySem.Challenge.rw_uf050027_07.row.prog w (hd07.heap_39 w.params) hd07.view_39 (looseW hd07.view_39 []) mean mg mb 28 12 [.ref C, .int need tn] (fun _ news => (C, ({ cls := .type "list", data := .seq vs.toArray k } : Obj)) ∈ news ∧ DatAll news vs ds) (fun r add => ∃ D ys e P pts rest, r = .ref D ∧ add = (D, ({ cls := .type "list", data := .seq (List.toArray ys) e } : Obj)) :: rest ∧ (∀ p ∈ rest, p.1 ≠ D) ∧ DatAll rest ys (P.map pairD) ∧ Pts (sts ds) pts ∧ pts.length ≤ 80 ∧ P = (runsOf (sts ds) pts).foldl (partStep need) []) := by
  unfold Cm
  k_fill
  w_top off
  intro dp un gd cn cs a ccd cl outer A₀ base h₀ L m news s Q E B F X N T hk hd hu hP hret
  obtain ⟨hm, hD⟩ := hP
  refine wpAny_call ?_
  k_dflt cell_enter
  k_with_none
  k_with "exec For Tuple Call cons nil" => (k_here; (rename Fr _ _ _ _ => lF'); (with_unfolding_all refine' For_turns lF' ?_; k_whole))
  k_with "call ref" => (k_here; (with_reducible show wpAny _ _ (call (Value.ref 21) _) _ _ _); k_dflt (refine' Mine.Cm.use (Mine.c_runs _ _ _ _ C vs ds k hok hlen) (hp := ?kP) (ret := ?_); (case kP => exact ⟨.tail _ hm, hD.mono fun _ h => .tail _ h⟩)); intro r9 ad9 h9 tk9 ho9 hn9 F9 N9; k_dflt ((obtain ⟨R9, ys9, e9, pts9, e8, hm9, P9, P9l, hD9⟩ := ho9); subst e8); (try dsimp only); (try k_fold))
  k_steps
  (rename Fr _ _ _ _ => lF')
  (rename News _ _ _ _ => lN')
  (rename ∀ p ∈ news, p.1 < _ => lA')
  replace lN' := news_mid lN'
  k_dflt (refine' Mine.loop_listG (σ := Unit) (fun _ => []) [Str.ofString "low", Str.ofString "high", Str.ofString "many"] (PartR need) () (hD9.mono fun p hp => List.mem_append.mpr (.inl hp)) (by rfl) lF' lN' (List.mem_append.mpr (.inl hm9)) rfl rfl (List.forall_mem_nil _) ?gn ⟨[], [], rfl, rfl, rfl⟩ ?_ ?_)
  (case gn => exact fun p hp => (List.mem_append.mp hp).elim (fun hp => Ne.symm (hn9 p hp _ (.head _))) (fun hp => Nat.ne_of_lt (lA' p hp)))
  (all_goals (clear lF' lN'))
  · intro i7 pre7 dd7 post7 v7 c7 ys7 e7 add7 ds7 u7 I7 o7 h7 tk7 es7 hd7 ht7 hI7 hR7 hA7 n17 n27 n37 ho7 F7 N7
    obtain ⟨P7, rs7, rfl, rfl, hP7⟩ := hR7
    have hp7 := part_pre es7 P9l hP7
    obtain ⟨⟨lo7, hi7, mn7⟩, _, rfl⟩ := List.mem_map.mp hd7
    obtain ⟨a7, k7, t17, t27, t37, rfl, hm7⟩ := dat_three (show DatIn _ _ (.tuple [.int lo7, .int hi7, .int mn7]) from hI7)
    have q17 := n37 _ (.head _)
    have q27 := Ne.symm q17
    dsimp only at q17 q27 F7
    have hz7 : ys7.length ≤ 1000 := by rw [hA7.length, List.length_map]; (clear P9l es7 hP7 hd hk hlen ho7 ht7 hu q17 q27; omega)
    have hm8 := List.mem_append.mpr (.inr hm7 : _ ∈ add7 ∨ _)
    k_with "compareOp NotEq ref ref" => (k_here; (with_reducible show wpAny _ _ (compareOp CmpOp.NotEq (Value.ref _) (Value.ref _)) _ _ _); (rename News _ _ _ _ => kN9); k_dflt (refine' kqd_ne (n₂ := []) (ys := []) (es := []) kN9 ?a ?ca ?da hA7 ?s ?b ?cb ?db .nil (fun _ h => nomatch h) pairs_kqd (fun _ h => nomatch h) ?n ?_; (case a => (repeat (first | exact List.Mem.head _ | refine List.Mem.tail _ ?_))); (case ca => rfl); (case da => rfl); (case b => (repeat (first | exact List.Mem.head _ | refine List.Mem.tail _ ?_))); (case cb => rfl); (case db => rfl); (case s => (intro p9 hp9; (repeat (first | exact List.mem_append.mpr (.inl hp9) | refine List.Mem.tail _ ?_)))); (case n => first | ke_room | ktr_units)); (simp only [ne_c1, ne_c2]))
    k_with "subscriptTail Name UnaryOp ref int" => (k_here; (with_reducible show wpAny _ _ (subscriptTail _ _ (Value.ref _) (Value.int _ _)) _ _ _); (rename News _ _ _ _ => kN9); k_dflt (refine' Mine.item_last kN9 ?m ?_; (case m => (repeat (first | exact List.Mem.head _ | refine List.Mem.tail _ ?_))); k_whole))
    k_with "call builtin:list.pop" => (k_here; (with_reducible show wpAny _ _ (call (Value.builtin _) [Value.ref _]) _ _ _); k_dflt (refine' kl_pop ?F ?N (kl_last_snoc _ _) ?U ?z ?_; (case F => k_asm); (case N => k_asm); (case U => k_upd); (case z => (rw [sizeLine_eq]; exact Nat.le_trans hz7 (by decide))); k_whole); intro h' F' N')
    k_with "call builtin:list.append" => (k_here; (with_reducible show wpAny _ _ (call (Value.builtin _) [Value.ref _, _]) _ _ _); k_dflt (refine' append_K ?k1 ?k2 ?k3 ?_ ?z; (case k1 => k_asm); (case k2 => k_asm); (case k3 => k_upd); (case z => (rw [List.size_toArray, sizeLine_eq]; first | omega | (simp only [List.length_append, List.length_singleton] at hz7; omega))); k_whole); intro h' F' N')
    rcases pairs_last hA7 with ⟨rfl, rfl⟩ | ⟨zs7, T7, m7, a8, b8, t47, t57, P8, rfl, rfl, hT7, hz8⟩
    · k_steps
      all_goals ((rename Fr _ _ _ _ => lF8); (rename News _ _ _ _ => lN8); k_dflt (first | (refine' Mine.growL_u1 lF8 lN8 ?lM ?lI (.tuple (List.Mem.head _) (.cons (.int _ _) (.cons (.int _ _) .nil))) ?lA ?lS n17 n27 ?lO ?lT (List.mem_append.mpr (.inl hm9)) ?lR ?lP; (case lM => (repeat (first | exact List.Mem.head _ | refine List.Mem.tail _ ?_))); (case lI => (repeat (first | exact List.Mem.head _ | refine List.Mem.tail _ ?_))); (case lA => first | exact hA7 | exact hz8); (case lS => (intro p9 hp9; (repeat (first | exact hp9 | refine List.Mem.tail _ ?_)))); (case lO => exact List.forall_mem_cons.mpr ⟨q17, fun p hp => n37 p (.tail _ hp)⟩); (case lT => (first | assumption | tbn_find | exact allLt_of (by assumption))); (case lR => (intro z h3; (simp only [List.contains_cons, List.contains_nil, Bool.or_false, Bool.or_eq_false_iff, beq_eq_false_iff_ne, ne_eq] at h3); (simp [h3, kstB]; done))); (case lP => first | exact part_R ht7 hP7 (part_first (by omega)) rfl | exact part_R ht7 hP7 (part_join (by omega) (by omega)) (by simp [pairD]) | exact part_R ht7 hP7 (part_apart (by omega) (by omega)) (by simp [pairD]))) | (refine' Mine.growL_same lF8 lN8 ?lM ?lI hA7 ?lS n17 n27 ?lO (List.mem_append.mpr (.inl hm9)) ?lR ?lP; (case lM => (repeat (first | exact List.Mem.head _ | refine List.Mem.tail _ ?_))); (case lI => (repeat (first | exact List.Mem.head _ | refine List.Mem.tail _ ?_))); (case lS => (intro p9 hp9; (repeat (first | exact hp9 | refine List.Mem.tail _ ?_)))); (case lO => exact List.forall_mem_cons.mpr ⟨q17, fun p hp => n37 p (.tail _ hp)⟩); (case lR => (intro z h3; (simp only [List.contains_cons, List.contains_nil, Bool.or_false, Bool.or_eq_false_iff, beq_eq_false_iff_ne, ne_eq] at h3); (simp [h3, kstB]; done))); (case lP => exact part_R ht7 hP7 (part_low (by omega)) rfl))))
    · have hT8 := List.mem_append.mpr (.inl hT7 : _ ∨ _ ∈ ad9 ++ news)
      k_steps
      all_goals ((rename Fr _ _ _ _ => lF8); (rename News _ _ _ _ => lN8); k_dflt (first | (refine' Mine.growL_u1 lF8 lN8 ?lM ?lI (.tuple (List.Mem.head _) (.cons (.int _ _) (.cons (.int _ _) .nil))) ?lA ?lS n17 n27 ?lO ?lT (List.mem_append.mpr (.inl hm9)) ?lR ?lP; (case lM => (repeat (first | exact List.Mem.head _ | refine List.Mem.tail _ ?_))); (case lI => (repeat (first | exact List.Mem.head _ | refine List.Mem.tail _ ?_))); (case lA => first | exact hA7 | exact hz8); (case lS => (intro p9 hp9; (repeat (first | exact hp9 | refine List.Mem.tail _ ?_)))); (case lO => exact List.forall_mem_cons.mpr ⟨q17, fun p hp => n37 p (.tail _ hp)⟩); (case lT => (first | assumption | tbn_find | exact allLt_of (by assumption))); (case lR => (intro z h3; (simp only [List.contains_cons, List.contains_nil, Bool.or_false, Bool.or_eq_false_iff, beq_eq_false_iff_ne, ne_eq] at h3); (simp [h3, kstB]; done))); (case lP => first | exact part_R ht7 hP7 (part_first (by omega)) rfl | exact part_R ht7 hP7 (part_join (by omega) (by omega)) (by simp [pairD]) | exact part_R ht7 hP7 (part_apart (by omega) (by omega)) (by simp [pairD]))) | (refine' Mine.growL_same lF8 lN8 ?lM ?lI hA7 ?lS n17 n27 ?lO (List.mem_append.mpr (.inl hm9)) ?lR ?lP; (case lM => (repeat (first | exact List.Mem.head _ | refine List.Mem.tail _ ?_))); (case lI => (repeat (first | exact List.Mem.head _ | refine List.Mem.tail _ ?_))); (case lS => (intro p9 hp9; (repeat (first | exact hp9 | refine List.Mem.tail _ ?_)))); (case lO => exact List.forall_mem_cons.mpr ⟨q17, fun p hp => n37 p (.tail _ hp)⟩); (case lR => (intro z h3; (simp only [List.contains_cons, List.contains_nil, Bool.or_false, Bool.or_eq_false_iff, beq_eq_false_iff_ne, ne_eq] at h3); (simp [h3, kstB]; done))); (case lP => exact part_R ht7 hP7 (part_low (by omega)) rfl))))
  · intro c7 ys7 e7 add7 ds7 u7 h7 tk7 hR7 hA7 n17 n27 F7 N7
    obtain ⟨P7, rs7, rfl, hr7, hP7⟩ := hR7
    have hr8 := runs_inj hr7
    subst hr8
    k_steps
    all_goals ((rename Fr _ _ _ _ => lF8); (rename News _ _ _ _ => lN8); refine' hret _ ((_, ({ cls := .type "list", data := .seq (List.toArray ys7) e7 } : Obj)) :: add7) _ _ ⟨_, ys7, e7, P7, pts9, add7, rfl, rfl, fun p hp => n17 p (List.mem_append.mpr (.inl hp)), hA7, P9, P9l, hP7⟩ ?r2 lF8 ?r3; (case r2 => exact List.forall_mem_cons.mpr ⟨fun q hq => Nat.ne_of_lt (lA' q hq), fun p hp q hq => n27 p hp q (List.mem_append.mpr (.inr hq))⟩); (case r3 => exact fun p hp => lN8 p (ret_sub3 p hp)))
end Mine
namespace Mine
theorem c_edges (w : World) (mean : ExcName → Option Value) (mg mb : Str → Option Value) (C : Addr) (vs : List Value) (ds : List Dat) (k : Nat) (hok : ∀ d ∈ ds, ClockOk d) (hlen : ds.length ≤ 40) :
    Cm PySem.Challenge.rw_uf050027_07.row.prog w (hd07.heap_39 w.params) hd07.view_39 (looseW hd07.view_39 []) mean mg mb 89 2 [.ref C] (fun _ news => (C, ({ cls := .type "list", data := .seq vs.toArray k } : Obj)) ∈ news ∧ DatAll news vs ds) (fun r add => ∃ D ys e, r = .ref D ∧ (D, ({ cls := .type "list", data := .seq (List.toArray ys) e } : Obj)) ∈ add ∧ IntsAre ys (edges (sts ds))) := by
  unfold Cm
  k_fill
  w_top off
  intro dp un gd cn cs a ccd cl outer A₀ base h₀ L m news s Q E B F X N T hk hd hu hP hret
  obtain ⟨hm, hD⟩ := hP
  refine wpAny_call ?_
  k_dflt cell_enter
  k_with_none
  k_with "exec For Tuple Name cons nil" => (k_here; (rename Fr _ _ _ _ => lF'); (with_unfolding_all refine' For_turns lF' ?_; k_whole))
  k_steps
  (rename Fr _ _ _ _ => lF')
  (rename News _ _ _ _ => lN')
  (rename ∀ p ∈ news, p.1 < _ => lA')
  k_dflt (refine' Mine.loop_listR (Str.ofString "_law_made") [Str.ofString "_law_name", Str.ofString "_law_stretch"] (fun pre => edges (sts pre)) hD (by rfl) lF' lN' hm rfl rfl rfl rfl (fun p hp => Nat.ne_of_lt (lA' p hp)) ?_ ?_)
  (all_goals (clear lF' lN'))
  · intro pre8 d8 post8 v8 c8 ys8 e18 u8 I8 o8 h8 tk8 e8 hd8 hI8 ii8 hc8 hne8 ho8 F8 N8
    have hl8 := edges_pre e8 hlen
    have hz8 := ii8.length
    have q18 := hne8 _ (.head _)
    have q28 := Ne.symm q18
    dsimp only at q18 q28
    rcases clock_at hI8 (hok d8 hd8) with ⟨a8, n8, y8, ty8, rfl, hm8, hs8, _⟩ | ⟨a8, n8, y8, ty8, b8, k8, lo8, hi8, t18, t28, rfl, hm8, hb8, hs8, hbd8, _⟩
    · k_steps
      all_goals ((rename Fr _ _ _ _ => lF8); (rename News _ _ _ _ => lN8); k_dflt (refine' Mine.reb_next lF8 lN8 ?lK ?lM ?lI ?lS ?lO ?lC ?lR ?lP ?lN; (case lK => first | exact if_pos rfl | exact rfl); (case lM => (repeat (first | exact List.Mem.head _ | refine List.Mem.tail _ ?_))); (case lI => (repeat (first | exact List.Mem.head _ | refine List.Mem.tail _ ?_))); (case lS => (intro p9 hp9; (repeat (first | exact hp9 | refine List.Mem.tail _ ?_)))); (case lO => exact fun p hp => hne8 p (.tail _ hp)); (case lC => first | exact q18 | ((rename (_ < _ ∧ _ < _ ∧ _ < _ ∧ AllLt _ news) => lB8); exact Ne.symm (Nat.ne_of_lt lB8.2.1))); (case lP => (rw [edges_none hs8]; exact ii8)); (case lN => exact hc8); (case lR => (intro z h4 h3; (simp only [List.contains_cons, List.contains_nil, Bool.or_false, Bool.or_eq_false_iff, beq_eq_false_iff_ne, ne_eq] at h3 h4); (simp [h3, h4, kstB]; done)))))
    · k_steps
      all_goals ((rename Fr _ _ _ _ => lF8); (rename News _ _ _ _ => lN8); k_dflt (refine' Mine.reb_next lF8 lN8 ?lK ?lM ?lI ?lS ?lO ?lC ?lR ?lP ?lN; (case lK => first | exact if_pos rfl | exact rfl); (case lM => (repeat (first | exact List.Mem.head _ | refine List.Mem.tail _ ?_))); (case lI => (repeat (first | exact List.Mem.head _ | refine List.Mem.tail _ ?_))); (case lS => (intro p9 hp9; (repeat (first | exact hp9 | refine List.Mem.tail _ ?_)))); (case lO => exact fun p hp => hne8 p (.tail _ hp)); (case lC => first | exact q18 | ((rename (_ < _ ∧ _ < _ ∧ _ < _ ∧ AllLt _ news) => lB8); exact Ne.symm (Nat.ne_of_lt lB8.2.1))); (case lP => (rw [edges_some hs8]; assumption)); (case lN => ((rename (_ < _ ∧ _ < _ ∧ _ < _ ∧ AllLt _ news) => lB8); exact fun p hp => Nat.ne_of_lt (allLt_mem lB8.2.2.2 p hp))); (case lR => (intro z h4 h3; (simp only [List.contains_cons, List.contains_nil, Bool.or_false, Bool.or_eq_false_iff, beq_eq_false_iff_ne, ne_eq] at h3 h4); (simp [h3, h4, kstB]; done)))))
  · intro c8 ys8 e18 u8 h8 tk8 ii8 hc8 F8 N8
    k_steps
    all_goals ((rename Fr _ _ _ _ => lF8); (rename News _ _ _ _ => lN8); refine' hret _ [(c8, ({ cls := .type "list", data := .seq (List.toArray ys8) e18 } : Obj))] _ _ ⟨_, ys8, e18, rfl, List.Mem.head _, ii8⟩ ?r2 lF8 lN8; (case r2 => exact List.forall_mem_cons.mpr ⟨hc8, List.forall_mem_nil _⟩))
end Mine
namespace Mine
theorem c_right (w : World) (mean : ExcName → Option Value) (mg mb : Str → Option Value) (C : Addr) (vs : List Value) (ds : List Dat) (k : Nat) (hok : ∀ d ∈ ds, ClockOk d) (hlen : ds.length ≤ 40) (need : Int) (tn : Tok) (Fd : Addr) (ys5 : List Value) (e5 : Nat) (P : List St) (hPO : PartOk (sts ds) need P) (hPl : P.length ≤ 80) :
    Cv PySem.Challenge.rw_uf050027_07.row.prog w (hd07.heap_39 w.params) hd07.view_39 (looseW hd07.view_39 []) mean mg mb 94 12 [.ref C, .int need tn, .ref Fd] (fun news => ((C, ({ cls := .type "list", data := .seq vs.toArray k } : Obj)) ∈ news ∧ DatAll news vs ds) ∧ (Fd, ({ cls := .type "list", data := .seq (List.toArray ys5) e5 } : Obj)) ∈ news ∧ DatAll news ys5 (P.map pairD)) (fun r => r = .bool true) := by
  unfold Cv
  k_fill
  w_top off
  intro dp un gd cn cs a ccd cl outer A₀ base h₀ L m news s Q E B F X N T hk hd hu hP hret
  obtain ⟨⟨hm, hD⟩, hm5, hD5⟩ := hP
  refine wpAny_call ?_
  k_dflt (refine' code_defC ?k1 ?k2 ?k3 ?k4 ?k5 ?kA ?kF ?kK ?k6 ?k7 ?k8 ?k9 ?kB ?kD ?_ ?c2 ?c3 ?c4; (case kA => exact rfl); (case kF => exact rfl); (case kK => assumption); (case k1 => k_asm); (case k2 => k_asm); (case k3 => k_asm); (case k4 => k_asm); (case k5 => k_asm); (case k6 => k_is); (case k7 => k_is); (case k8 => ktr_room); (case k9 => exact BindsTo.of_eq rfl); (case kB => exact rfl); (case kD => decide +kernel); (case c2 => exact rfl); (case c3 => exact rfl); (case c4 => exact rfl); k_whole; intro g' L' h' tk' cells' FG' F' N' Y' B' X' T' l1; (try k_lt l1); k_cells Y'; (try simp only [List.cons_append, List.nil_append] at N'); (try dsimp only); (try k_lift B'); (try k_fold))
  k_with_none
  k_with "exec For Name Name cons nil" => (k_here; (rename Fr _ _ _ _ => lF'); (with_unfolding_all refine' For_turns lF' ?_; k_whole))
  k_with "exec For Name BinOp cons nil" => (k_here; (rename Fr _ _ _ _ => lF'); (with_unfolding_all refine' For_turns lF' ?_; k_whole))
  k_with "call ref" => (k_here; (with_reducible show wpAny _ _ (call (Value.ref 82) _) _ _ _); k_dflt (refine' Mine.Cv.use (Mine.c_many _ _ _ _ C vs ds k hok hlen _ _) (hp := ?kP) (ret := ?_); (case kP => exact ⟨by k_mem, hD.mono (by (intro p9 hp9; (repeat (first | exact hp9 | refine List.Mem.tail _ ?_))))⟩)); intro r9 h9 tk9 ho9 F9 N9; k_dflt ((obtain ⟨t9, e9⟩ := ho9); subst e9); (try dsimp only); (try k_fold))
  k_with "call ref" => (k_here; (with_reducible show wpAny _ _ (call (Value.ref 35) _) _ _ _); k_dflt (refine Mine.Ct.use (Mine.c_whole _ _ _ _ _ _) (ret := ?_)); intro t9 h9 tk9 P9 F9 N9; (try dsimp only); (try k_fold))
  k_with "call ref" => (k_here; (with_reducible show wpAny _ _ (call (Value.ref 89) _) _ _ _); k_dflt (refine' Mine.Cm.use (Mine.c_edges _ _ _ _ C vs ds k hok hlen) (hp := ?kP) (ret := ?_); (case kP => exact ⟨by k_mem, hD.mono (by (intro p9 hp9; (repeat (first | exact hp9 | refine List.Mem.tail _ ?_))))⟩)); intro r9 ad9 h9 tk9 ho9 hn9 F9 N9; k_dflt ((obtain ⟨E9, ys9, e9, e8, hm9, ii9⟩ := ho9); subst e8); (try dsimp only); (try k_fold))
  k_with "eval ListComp" => (k_here; k_dflt (refine Mine.ListComp_V (by k_asm) (by with_unfolding_all rfl) (by decide) (by rfl) (by decide) (by rfl) ?_))
  k_steps
  (rename Fr _ _ _ _ => lF')
  (rename News _ _ _ _ => lN')
  k_dflt (refine' Mine.loop_listD (σ := Value) (fun c => [(Str.ofString "_law_ahead", c)]) [Str.ofString "_law_one"] AheadR .none (hD5.mono fun _ h => .tail _ h) (by rfl) lF' lN' (.tail _ hm5) rfl rfl (List.forall_mem_cons.mpr ⟨rfl, List.forall_mem_nil _⟩) (.inl ⟨rfl, rfl⟩) ?_ ?_)
  (all_goals (clear lF' lN'))
  · intro pre8 d8 post8 v8 c8 u8 I8 o8 h8 tk8 e8 hd8 hI8 hP8 hne8 ho8 F8 N8
    obtain ⟨A8, ⟨a8, b8⟩, B8, eP8, hA8, rfl, _⟩ := pairs_split e8
    obtain ⟨q8, k8, t18, t28, rfl, hq8⟩ := dat_two (show DatIn _ _ (.tuple [.int a8, .int b8]) from hI8)
    have le8 := hPO.le (s := (a8, b8)) (by rw [eP8]; simp)
    have en8 := hPO.ends (s := (a8, b8)) (by rw [eP8]; simp)
    dsimp only at le8 en8
    rcases hP8 with ⟨eA8, rfl⟩ | ⟨A7, a7, b7, t7, eA8, rfl⟩
    · k_steps
      all_goals (first | ((rename Fr _ _ _ _ => lF8); (rename News _ _ _ _ => lN8); k_dflt (refine' Mine.still_val lF8 lN8 ?lK (List.Mem.head _) (fun p hp => List.Mem.tail _ hp) ?lO ?lR ?lP; (case lK => first | exact if_pos rfl | exact rfl); (case lO => assumption); (case lP => exact ahead_next A8 hA8); (case lR => (intro z h4 h3; (simp only [List.contains_cons, List.contains_nil, Bool.or_false, Bool.or_eq_false_iff, beq_eq_false_iff_ne, ne_eq] at h3 h4); (simp [h3, h4, kstB]; done))))) | (exfalso; omega))
    · have nx8 := hPO.next (A := A7) (s := (a7, b7)) (t := (a8, b8)) (B := B8) (by rw [eP8, pairs_inj (hA8.symm.trans eA8)])
      dsimp only at nx8
      k_steps
      all_goals (first | ((rename Fr _ _ _ _ => lF8); (rename News _ _ _ _ => lN8); k_dflt (refine' Mine.still_val lF8 lN8 ?lK (List.Mem.head _) (fun p hp => List.Mem.tail _ hp) ?lO ?lR ?lP; (case lK => first | exact if_pos rfl | exact rfl); (case lO => assumption); (case lP => exact ahead_next A8 hA8); (case lR => (intro z h4 h3; (simp only [List.contains_cons, List.contains_nil, Bool.or_false, Bool.or_eq_false_iff, beq_eq_false_iff_ne, ne_eq] at h3 h4); (simp [h3, h4, kstB]; done))))) | (exfalso; omega))
  · intro c8 u8 h8 tk8 hP8 F8 N8
    k_steps
    (rename Fr _ _ _ _ => lF')
    (rename News _ _ _ _ => lN')
    have hm6 := mem_deep lN' hm5
    k_dflt (refine Mine.SrcU.ledger (by rfl) lF' lN' hm6 (by rw [List.size_toArray, hD5.length, List.length_map, sizeLine_eq]; (clear hd hk hlen hu; omega)) ?_)
    intro g9
    refine Mine.rest_ints lowD hD5 (.inr ⟨_, hm6, rfl, _, rfl⟩) ?_ ?_
    · intro d7 v7 ys7 I7 oI7 C7 oC7 D7 m7 h7 tk7 E7 hd7 hI7 hC7 hx7 F7 N7 off7 ne7
      obtain ⟨⟨a7, b7⟩, _, rfl⟩ := List.mem_map.mp hd7
      obtain ⟨q7, k7, t17, t27, rfl, hq7⟩ := dat_two (show DatIn _ _ (.tuple [.int a7, .int b7]) from hI7)
      have hq6 := mem_deep lN' hq7
      clear lN'
      k_steps
      all_goals (refine CompTurn.intro (by k_asm) (by k_asm) _ ?cS ?cO trivial ⟨rfl, _, rfl⟩; (case cS => first | exact fun _ h => h | kst_inAny); (case cO => assumption))
    · intro ys7 ii7
      intro D7 h7 tk7 F7 N7 o7
      rw [lows_eq] at ii7
      have hm7 := mem_front lN' hm9
      have el7 := edges_all ds hlen
      k_with "binaryOp Add ref ref" => (k_here; (with_reducible show wpAny _ _ (binaryOp _ (Value.ref _) (Value.ref _)) _ _ _); (rename News _ _ _ _ => kN9); k_dflt (refine' kmk_add_ints ?F kN9 ?a ?b ii9 ii7 ?_ ?z; (case F => k_asm); (case a => exact kso_isList (its := ys9.toArray) (n := e9) kN9 (.tail _ hm7) rfl); (case b => exact News.isList kN9 (List.Mem.head _)); (case z => (rw [sizeLine_eq, List.length_map]; omega))); intro D6 ws6 h6 F6 N6 l6 ii6)
      k_with "eval ListComp" => (k_here; k_dflt (refine Mine.ListComp_VT (by k_asm) (by with_unfolding_all rfl) (by decide) (by rfl) (by decide) (by rfl) ?_))
      clear lN'
      k_steps
      (rename Fr _ _ _ _ => lF')
      (rename News _ _ _ _ => lN')
      (rename Obj.data _ = Data.cell _ => hO9)
      have lQ' := cell_front lN'
      have hn5 : ∀ p ∈ (D6, PySem.W.listOf ws6.toArray 0) :: news, p.1 ≠ L' + 1 := List.forall_mem_cons.mpr ⟨Ne.symm (Nat.ne_of_lt (cell_lt l6)), fun p hp => Nat.ne_of_lt (Nat.lt_succ_of_lt (l1 p hp))⟩
      k_dflt (refine' Mine.loop_intsH [Str.ofString "_law_held"] (fun o => ∃ v₀, o.data = .cell v₀) ii6 (by rfl) lF' lQ' (.head _) rfl rfl ⟨_, hO9⟩ ?_ ?_)
      (all_goals (clear lF' lN' lQ'))
      · intro j5 t5 od5 u5 I5 o5 h5 tk5 hj5 hH5 hne5 ho5 F5 N5
        obtain ⟨v05, hO5⟩ := hH5
        have q15 := hne5 _ (.head _)
        have q25 := Ne.symm q15
        dsimp only at q15 q25
        k_steps
        (rename Fr _ _ _ _ => kF5)
        (rename News _ _ _ _ => kN5)
        k_dflt (refine Mine.SrcUT.ledger (by rfl) kF5 kN5 (.tail _ (.tail _ (.tail _ hm5))) (by rw [List.size_toArray, hD5.length, List.length_map, sizeLine_eq]; (clear el7 hO5 hO9 hd hk hlen ho5 hu q15 q25; omega)) ?_)
        intro g4
        refine Mine.rest_filter (hasD j5) hD5 (.inr ⟨_, .tail _ (.tail _ (.tail _ hm5)), rfl, _, rfl⟩) ?_ ?_
        · intro d4 v4 ys4 I4 oI4 C4 oC4 D4 m4 h4 tk4 E4 hd4 hI4 hC4 hx4 F4 N4 off4 ne4
          obtain ⟨⟨a4, b4⟩, _, rfl⟩ := List.mem_map.mp hd4
          obtain ⟨q4, k4, t14, t24, rfl, hq4⟩ := dat_two (show DatIn _ _ (.tuple [.int a4, .int b4]) from hI4)
          clear kN5
          k_steps
          all_goals (first | (refine CompTurn.intro (by k_asm) (by k_asm) _ ?cS ?cO trivial ⟨rfl, rfl, hasD_t (by omega) (by omega)⟩; (case cS => first | exact fun _ h => h | kst_inAny); (case cO => assumption)) | (refine CompTurn.intro (by k_asm) (by k_asm) _ ?cS ?cO trivial ⟨rfl, hasD_f (by omega)⟩; (case cS => first | exact fun _ h => h | kst_inAny); (case cO => assumption)))
        · intro ys4 hf4
          intro D4 h4 tk4 F4 N4 o4
          clear kN5
          k_with "compareOp NotEq ref ref" => (k_here; (with_reducible show wpAny _ _ (compareOp CmpOp.NotEq (Value.ref _) (Value.ref _)) _ _ _); (rename News _ _ _ _ => kN9); k_dflt (refine' kqd_ne (n₂ := []) (ys := []) (es := []) kN9 ?a ?ca ?da hf4 ?s ?b ?cb ?db .nil (fun _ h => nomatch h) filter_kqd (fun _ h => nomatch h) ?n ?_; (case a => (repeat (first | exact List.Mem.head _ | refine List.Mem.tail _ ?_))); (case ca => rfl); (case da => rfl); (case b => (repeat (first | exact List.Mem.head _ | refine List.Mem.tail _ ?_))); (case cb => rfl); (case db => rfl); (case s => (intro p9 hp9; (repeat (first | exact hp9 | refine List.Mem.tail _ ?_)))); (case n => first | ke_room | ktr_units)); (rw [held_eq hPO]))
          k_steps
          all_goals (first | ((rename Fr _ _ _ _ => lF8); (rename News _ _ _ _ => lN8); k_dflt (refine' Mine.LoopTurn.stillH () lF8 lN8 ?lI ?lD ?lS ?lO (List.forall_mem_nil _) ?lR ?lP; (case lI => (repeat (first | exact List.Mem.head _ | refine List.Mem.tail _ ?_))); (case lD => (repeat (first | exact List.Mem.head _ | refine List.Mem.tail _ ?_))); (case lS => (intro p9 hp9; (repeat (first | exact hp9 | refine List.Mem.tail _ ?_)))); (case lO => exact List.forall_mem_cons.mpr ⟨q15, fun p hp => hne5 p (.tail _ hp)⟩); (case lP => exact ⟨_, by assumption⟩); (case lR => (intro z _ h3; (simp only [List.contains_cons, List.contains_nil, Bool.or_false, Bool.or_eq_false_iff, beq_eq_false_iff_ne, ne_eq] at h3); (simp [h3, kstB]; done))))) | (exfalso; ((rename (_ : Bool) = true => hb9); (simp at hb9))))
      · intro od5 u5 h5 tk5 hH5 F5 N5
        k_steps
        all_goals (refine' hret _ _ _ rfl ?q2 ?q3; (case q2 => k_asm); (case q3 => (intro p hp; rename News h₀ L _ _ => kN9; exact kN9 p (.tail _ (.tail _ hp)))))
end Mine
set_option rowWalk.seconds 0 in
theorem PySem.Challenge.cw_uf050027_07_holds : PySem.Challenge.rw_uf050027_07.Holds :=
  Mine.hd07 (by
  k_with_none
  k_with "call ref" => (k_here; (with_reducible show wpAny _ _ (call (Value.ref 49) _) _ _ _); k_dflt (refine Mine.Ct.use (Mine.c_lmix _ _ _ _ _ _ _ _) (ret := ?_)); intro t9 h9 tk9 P9 F9 N9; (try dsimp only); (try k_fold))
  k_with "call ref" => (k_here; (with_reducible show wpAny _ _ (call (Value.ref 56) _) _ _ _); k_dflt (refine Mine.Ct.use (Mine.c_lbig _ _ _ _ _ _ _ _) (ret := ?_)); intro t9 h9 tk9 P9 F9 N9; (try dsimp only); (try k_fold))
  k_with "exec If Compare cons nil" => (k_here; (with_reducible show wpAny _ _ (exec (PySem.Stmt.If (PySem.Expr.Compare (PySem.Expr.BinOp _ _ _ _) _ _ _) _ _ _) _) _ _ _); (rename Fr _ _ _ _ => iF7); (rename News _ _ _ _ => iN7); k_dflt (refine' Mine.If_cut (Str.ofString "_law_need") (fun v => 1 ≤ v) iF7 iN7 ?i1 ?i2); (case' i2 => (intro h7 tk7 nd7 tn7 F7 N7 hnd7)); (try (clear iF7 iN7)))
  k_with "call ref" => (k_here; (with_reducible show wpAny _ _ (call (Value.ref 75) _) _ _ _); k_dflt (refine' Mine.Cm.use (Mine.c_clocks _ _ _ _ _ _ _ ?hi ?hl ?hn) (hp := ?kP) (ret := ?_); (case kP => assumption); (case hi => assumption); (case hl => assumption); (case hn => omega)); intro r9 ad9 h9 tk9 ho9 hn9 F9 N9; k_dflt ((obtain ⟨C7, vs7, k7, ds7, e8, hm7, hD7, hok7, hlen7⟩ := ho9); subst e8); (try simp only [List.append_nil] at N9); (try dsimp only); (try k_fold))
  k_with "call builtin:len" => (k_here; (with_reducible show wpAny _ _ (call (Value.builtin _) [Value.ref C7]) _ _ _); (rename News _ _ _ _ => kN9); k_dflt (refine' Mine.len_led kN9 ?lm7 hD7.length ?lz7 ?_; (case lm7 => k_mem); (case lz7 => omega)))
  k_with "call type:list" => (k_here; (with_reducible show wpAny _ _ (call (Value.type _) [Value.ref C7]) _ _ _); k_dflt (refine' kup_listOf (zs := vs7) ?F ?N hm7 rfl ?_ ?z; (case F => k_asm); (case N => k_asm); (case z => (show vs7.length ≤ _; rw [hD7.length, sizeLine_eq]; omega))); intro H6 c6 h6 F6 N6 l16)
  k_with "call ref" => (k_here; (with_reducible show wpAny _ _ (call (Value.ref 28) _) _ _ _); (fail_if_success (have _x := hKp7)); k_dflt (refine' Mine.Cm.use (Mine.c_parts _ _ _ _ H6 vs7 ds7 c6 hok7 hlen7 _ _) (hp := ?kP) (ret := ?_); (case kP => exact ⟨List.Mem.head _, hD7.mono fun _ h => .tail _ h⟩)); intro r9 ad8 h9 tk9 ho9 hn8 F9 N9; k_dflt ((obtain ⟨Fd7, ys7, e7, P7, pts7, rest7, e8, e6, hne7, hP7, hpt7, hpl7, hPe7⟩ := ho9); subst e8; subst e6; (have hPl7 : P7.length ≤ 80 := (by rw [hPe7]; exact Mine.part_all hpl7))); (simp only [List.cons_append] at N9); (try dsimp only); (try k_fold))
  k_with "compareOp NotEq ref ref" => (k_here; (with_reducible show wpAny _ _ (compareOp CmpOp.NotEq (Value.ref H6) (Value.ref C7)) _ _ _); (rename News _ _ _ _ => kN9); k_dflt (refine' kqd_ne kN9 (List.Mem.tail _ (List.mem_append.mpr (.inr (List.Mem.head _)))) rfl rfl hD7 (fun _ h => List.Mem.tail _ (List.mem_append.mpr (.inr (List.Mem.tail _ h)))) (List.Mem.tail _ (List.mem_append.mpr (.inr (List.Mem.tail _ hm7)))) rfl rfl hD7 (fun _ h => List.Mem.tail _ (List.mem_append.mpr (.inr (List.Mem.tail _ h)))) (fun d h => Mine.clock_kqd (hok7 d h)) (fun d h => Mine.clock_kqd (hok7 d h)) ?ni7 ?_; (case ni7 => first | ke_room | ktr_units)); (simp only [decide_true, Bool.not_true]))
  k_with "call ref" => (k_here; (with_reducible show wpAny _ _ (call (Value.ref 94) _) _ _ _); k_dflt (refine' Mine.Cv.use (Mine.c_right _ _ _ _ C7 vs7 ds7 k7 hok7 hlen7 _ _ Fd7 ys7 e7 P7 ?ra7 hPl7) (hp := ?kP) (ret := ?_); (case ra7 => (rw [hPe7]; exact Mine.partOk_of hnd7 hpt7)); (case kP => exact ⟨⟨(List.Mem.tail _ (List.mem_append.mpr (.inr (List.Mem.tail _ hm7)))), hD7.mono (fun _ h => List.Mem.tail _ (List.mem_append.mpr (.inr (List.Mem.tail _ h))))⟩, List.Mem.head _, hP7.mono fun _ h => .tail _ (List.mem_append.mpr (.inl h))⟩)); intro r9 h9 tk9 ho9 F9 N9; k_dflt (subst ho9); (try dsimp only); (try k_fold))
  k_with "call type:list" => (k_here; (with_reducible show wpAny _ _ (call (Value.type _) [Value.ref Fd7]) _ _ _); k_dflt (refine' kup_listOf (zs := ys7) ?F ?N (List.Mem.head _) rfl ?_ ?z; (case F => k_asm); (case N => k_asm); (case z => (show ys7.length ≤ _; rw [hP7.length, List.length_map, sizeLine_eq]; omega))); intro Kp7 ck7 hk7 Fk7 Nk7 hKp7)
  k_with "getMethod ref" => (k_here; (with_reducible show wpAny _ _ (getMethod (Value.ref Fd7) _ _) _ _ _); (rename News _ _ _ _ => kN9); k_dflt (refine' kl_method kN9 (List.Mem.tail _ (List.Mem.head _)) PySem.F.slot_list_clear PySem.F.type_list_clear ?_))
  k_with "call builtin:list.clear" => (k_here; (with_reducible show wpAny _ _ (call (Value.builtin _) [Value.ref Fd7]) _ _ _); (rename News _ _ _ _ => kN9); k_dflt (refine' Mine.clear_drop ?F kN9 (List.Mem.tail _ (List.Mem.head _)) (Mine.drop_two ?dK hne7 ?dM) ?z ?_; (case F => k_asm); (case dK => exact Ne.symm (Nat.ne_of_lt (hKp7 _ (List.Mem.head _)))); (case dM => exact fun q hq => hn8 _ (List.Mem.head _) q hq); (case z => (rw [hP7.length, List.length_map, sizeLine_eq]; omega))); clear kN9; intro hc7 Fc7 Nc7)
  k_with "call ref" => (k_here; (with_reducible show wpAny _ _ (call (Value.ref 28) _) _ _ _); (have x7 := hKp7); clear x7; k_dflt (refine' Mine.Cm.use (Mine.c_parts _ _ _ _ H6 vs7 ds7 c6 hok7 hlen7 _ _) (hp := ?kP) (ret := ?_); (case kP => exact ⟨(List.Mem.tail _ (List.mem_append.mpr (.inr (List.Mem.head _)))), hD7.mono (fun _ h => List.Mem.tail _ (List.mem_append.mpr (.inr (List.Mem.tail _ h))))⟩)); intro r9 ad6 h9 tk9 ho9 hn6 F9 N9; k_dflt ((obtain ⟨Fd6, ys6, e17, P6, pts6, rest6, e8, e6, hne6, hP6, hpt6, hpl6, hPe6⟩ := ho9); subst e8; subst e6; (have hPq : P6 = P7 := (by rw [hPe6, hPe7, Mine.Pts.unique hpt6 hpt7])); rw [hPq] at hP6); (simp only [List.cons_append] at N9); (try dsimp only); (try k_fold))
  k_with "compareOp Eq ref ref" => (k_here; (with_reducible show wpAny _ _ (compareOp CmpOp.Eq (Value.ref Fd6) (Value.ref Kp7)) _ _ _); (rename News _ _ _ _ => kN9); k_dflt (refine' kqd_eq kN9 (List.Mem.head _) rfl rfl hP6 (fun _ h => List.Mem.tail _ (List.mem_append.mpr (.inl h))) (List.Mem.tail _ (List.mem_append.mpr (.inr (List.Mem.head _)))) rfl rfl hP7 (fun _ h => List.Mem.tail _ (List.mem_append.mpr (.inr (List.Mem.tail _ (List.mem_append.mpr (.inl h)))))) Mine.pairs_kqd Mine.pairs_kqd ?en7 ?_; (case en7 => first | ke_room | ktr_units)); (simp only [decide_true]))
  k_go0
  (all_goals try k_fold)
  k_steps
  all_goals (first | (k_dflt ((with_reducible show Mine.IfEnd _ _ _ _ _ _ _ _ _); (rename Fr _ _ _ _ => lF8); (rename News _ _ _ _ => lN8); first | (refine' Mine.IfEnd.set lF8 lN8 (fun _ h => h) ?eP; (case eP => exact Mine.need_one (by omega))) | (refine' Mine.IfEnd.same lF8 lN8 (fun _ h => h) ?eX ?eP; (case eX => first | exact rfl | exact if_pos rfl); (case eP => exact Mine.need_one (by omega))))) | skip)
  all_goals (try k_data)
  all_goals w_report
)
