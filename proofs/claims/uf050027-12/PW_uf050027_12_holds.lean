import PyProof.Rows.All
import Wide.All
import OpenK.AllK
import Wide.FinOn
import PySem.Challenge.RW_uf050027_12
open PySem PySem.W PyProof.Rows
set_option Elab.async false
set_option maxRecDepth 100000
set_option maxHeartbeats 0
namespace Mine
section
local macro_rules | `(tactic| o_head $_) => `(tactic| assumption)
theorem k12 : PySem.Challenge.rw_uf050027_12.row.Holds → PySem.Challenge.rw_uf050027_12.row.Holds := by
  intro h
  k_head
end
noncomputable def vw12 : Program := { PySem.Challenge.pw_uf050027_12 with main := { PySem.Challenge.pw_uf050027_12.main with body := ((((PySem.Challenge.pw_uf050027_12.main.body.eraseIdx 24).eraseIdx 19).eraseIdx 12).eraseIdx 0) } }
theorem kas12 : ∀ P, [2, 3, 15, 22, 23, 24, 25, 28, 35, 36, 37, 40, 47, 48, 49, 52, 59, 60, 61, 64, 71, 72, 73, 76, 83, 84, 85, 88, 95, 96, 97, 100, 107, 108, 109, 112, 119, 120, 121, 124, 131, 132, 133, 136, 143, 144, 145, 148, 150, 151, 153, 154, 155, 158, 159, 160, 163, 164, 165, 167, 168, 170, 171, 172, 175, 176, 177, 180, 181, 182, 184, 185, 187, 188, 189, 191, 192, 194, 195, 196, 198, 199, 201, 202, 203, 205, 206, 208, 209, 210, 212, 213, 215, 216, 217, 219, 220, 222, 223, 224, 227, 228, 229, 231, 232, 234, 235, 236, 238, 239, 241, 242, 243, 245, 246, 248, 249, 250, 252, 253, 255, 256, 257, 259, 260, 262, 263, 264, 266, 267, 269, 270, 271, 274, 275, 276, 279, 280, 281, 283, 284, 286, 287, 288, 291, 292, 293, 296, 297, 298, 301, 302] = (k12.heap_1 P).map (·.1) := fun _ => by kernel_rfl
end Mine
namespace Mine
noncomputable def mix (c k : Int) : Int := Int.fmod (Int.fmod ((c + 7919 * k + 1) * 48271) 1000003 * Int.fmod ((c + 7919 * k + 1) * 48271) 1000003) 999983
theorem mix_bd (c k : Int) : 0 ≤ mix c k ∧ mix c k < 999983 := by
  unfold mix
  generalize Int.fmod ((c + 7919 * k + 1) * 48271) 1000003 * Int.fmod ((c + 7919 * k + 1) * 48271) 1000003 = x
  exact ⟨Int.fmod_nonneg_of_pos x (by decide), Int.fmod_lt_of_pos x (by decide)⟩
noncomputable def big (c k : Int) : Int :=
  if Int.fmod (mix c (k + 90)) 4 = 0 then Int.fmod (mix c k) 30
  else if Int.fmod (mix c (k + 90)) 4 = 1 then Int.fmod (mix c k) 3000
  else if Int.fmod (mix c (k + 90)) 4 = 2 then
    (if Int.fmod (mix c k) 4 = 0 then 0 else if Int.fmod (mix c k) 4 = 1 then 1 else if Int.fmod (mix c k) 4 = 2 then 1000000000000 else 999999999999)
  else Int.fmod (mix c k * 1000003 + mix c (k + 50)) 1000000000001
theorem big_0 {c k : Int} (h : Int.fmod (mix c (k + 90)) 4 = 0) : Int.fmod (mix c k) 30 = big c k := by unfold big; rw [if_pos h]
theorem big_1 {c k : Int} (h : Int.fmod (mix c (k + 90)) 4 = 1) : Int.fmod (mix c k) 3000 = big c k := by unfold big; rw [if_neg (by rw [h]; decide), if_pos h]
theorem four_at {x : Int} (h0 : 0 ≤ x) (h1 : x < 4) : x = 0 ∨ x = 1 ∨ x = 2 ∨ x = 3 := by omega
theorem big_2 {c k : Int} (h : Int.fmod (mix c (k + 90)) 4 = 2) : ([0, 1, 10 ^ (Int.toNat 12), 10 ^ (Int.toNat 12) - 1] : List Int).getD (Int.toNat (Int.fmod (mix c k) 4)) 0 = big c k := by
  unfold big
  rw [if_neg (by rw [h]; decide), if_neg (by rw [h]; decide), if_pos h]
  rcases four_at (Int.fmod_nonneg_of_pos (mix c k) (by decide)) (Int.fmod_lt_of_pos (mix c k) (show (0 : Int) < 4 by decide)) with e | e | e | e <;> (rw [e]; rfl)
theorem big_3 {c k : Int} (h0 : ¬ Int.fmod (mix c (k + 90)) 4 = 0) (h1 : ¬ Int.fmod (mix c (k + 90)) 4 = 1) (h2 : ¬ Int.fmod (mix c (k + 90)) 4 = 2) : Int.fmod (mix c k * 1000003 + mix c (k + 50)) 1000000000001 = big c k := by
  unfold big; rw [if_neg h0, if_neg h1, if_neg h2]
theorem big_bd (c k : Int) : 0 ≤ big c k ∧ big c k ≤ 1000000000000 := by
  unfold big
  have h1 := Int.fmod_nonneg_of_pos (mix c k) (show (0 : Int) < 30 by decide)
  have h2 := Int.fmod_lt_of_pos (mix c k) (show (0 : Int) < 30 by decide)
  have h3 := Int.fmod_nonneg_of_pos (mix c k) (show (0 : Int) < 3000 by decide)
  have h4 := Int.fmod_lt_of_pos (mix c k) (show (0 : Int) < 3000 by decide)
  have h5 := Int.fmod_nonneg_of_pos (mix c k * 1000003 + mix c (k + 50)) (show (0 : Int) < 1000000000001 by decide)
  have h6 := Int.fmod_lt_of_pos (mix c k * 1000003 + mix c (k + 50)) (show (0 : Int) < 1000000000001 by decide)
  (repeat' split) <;> omega
noncomputable def off (c : Int) : Int := [0, 0, 1, 999, Int.fmod (mix c 70) 30, Int.fmod (mix c 71) 1000].getD (Int.fmod c 6).toNat 0
noncomputable def sl (p o : Int) : Int := Int.fdiv (p * o + 999) 1000
end Mine
namespace Mine
open PySem PySem.W PyProof.Rows
noncomputable def Ct (prog : Program) (w : World) (K : Frag) (p : Program) (loose : List Str) (mean : ExcName → Option Value) (mg mb : Str → Option Value) (f : Addr) (sz : Nat) (vs : List Value) (P : Prop) (R : Tok → Value) : Prop :=
  ∀ (dp un : Nat) (gd : Option (List Code)) (cn : Str) (cs : Scope) (a : Addr) (ccd : Value) (cl : List (Str × Addr)) (outer : List Env) (A₀ : Around) (base h₀ : Heap) (L : Addr) (m : Str → Option Value) (news : List (Addr × Obj)) (s : Shared) (Q E : Value → Shared → Prop),
    Below A₀ base outer h₀ → Fr h₀ L s.heap m → K.In h₀ → News h₀ L s.heap news → Top p loose mean mg mb h₀ → cs.kind = .function → dp + sz < recursionLimit → un + 8 * sz < cLine →
    (∀ (t : Tok) (h' : Heap) (tk' : Nat), P → Fr h₀ L h' m → News h₀ L h' news → Q (R t) { s with heap := h', toks := tk' }) →
    wpAny (model prog w) (ktrTop dp un gd cn cs L a ccd cl outer) (call (.ref f) vs) Q E s
theorem Ct.use {prog : Program} {w : World} {K : Frag} {p : Program} {loose : List Str} {mean : ExcName → Option Value} {mg mb : Str → Option Value} {f : Addr} {sz : Nat} {vs : List Value} {P : Prop} {R : Tok → Value} (C : Ct prog w K p loose mean mg mb f sz vs P R)
    {dp un : Nat} {gd : Option (List Code)} {cn : Str} {cs : Scope} {a : Addr} {ccd : Value} {cl : List (Str × Addr)} {outer : List Env} {A₀ : Around} {base h₀ : Heap} {L : Addr} {m : Str → Option Value} {news : List (Addr × Obj)} {s : Shared} {Q E : Value → Shared → Prop}
    (B : Below A₀ base outer h₀ := by k_asm) (F : Fr h₀ L s.heap m := by k_asm) (X : K.In h₀ := by k_asm) (N : News h₀ L s.heap news := by k_asm) (T : Top p loose mean mg mb h₀ := by k_asm) (hk : cs.kind = .function := by first | exact rfl | assumption) (hd : dp + sz < recursionLimit := by first | assumption | omega | ktr_room) (hu : un + 8 * sz < cLine := by first | assumption | omega | ktr_units)
    (ret : ∀ (t : Tok) (h' : Heap) (tk' : Nat), P → Fr h₀ L h' m → News h₀ L h' news → Q (R t) { s with heap := h', toks := tk' }) :
    wpAny (model prog w) (ktrTop dp un gd cn cs L a ccd cl outer) (call (.ref f) vs) Q E s := C _ _ _ _ _ _ _ _ _ _ _ _ _ _ _ _ _ _ B F X N T hk hd hu ret
theorem ct_retI {h₀ h' : Heap} {L : Addr} {m : Str → Option Value} {news : List (Addr × Obj)} {s : Shared} {Q : Value → Shared → Prop} {t : Tok} {tk' : Nat} {P : Prop} {x y : Int}
    (hret : ∀ (t : Tok) (h' : Heap) (tk' : Nat), P → Fr h₀ L h' m → News h₀ L h' news → Q (.int x t) { s with heap := h', toks := tk' }) (hP : P) (e : y = x) (F : Fr h₀ L h' m) (N : News h₀ L h' news) : Q (.int y t) { s with heap := h', toks := tk' } := by
  subst e
  exact hret t h' tk' hP F N
noncomputable def CellOk (c : Int) : Prop := Builtin.Int.intBits c ≤ 1100000
theorem CellOk.bits {c : Int} {P : Prop} (h : CellOk c ∧ P) : Builtin.Int.intBits c ≤ 1100000 := h.1
theorem cellOk_of {c : Int} {n : Nat} (h : Builtin.Int.intBits c ≤ n) (hn : n ≤ 1100000) : CellOk c := Nat.le_trans h hn
end Mine
local macro_rules | `(tactic| bits_by_make) => `(tactic| exact Mine.CellOk.bits (by assumption))
local macro_rules | `(tactic| l_fact) => `(tactic| ((with_reducible refine And.intro (a := Mine.CellOk _) ?_ ?_); (focus (first | exact And.left (by assumption) | exact Mine.cellOk_of (by bits_by_make) (by decide))); (focus (first | omega | (k_fmods; omega) | (kmn_bounds; omega)))))
local macro_rules | `(tactic| walk_at $s:str) => `(tactic| k_extra $s)
namespace Mine
abbrev Con (w : World) (mean : ExcName → Option Value) (mg mb : Str → Option Value) (f : Addr) (sz : Nat) (vs : List Value) (P : Prop) (R : Tok → Value) : Prop :=
  Ct PySem.Challenge.rw_uf050027_12.row.prog w (k12.heap_1 w.params) vw12 (looseW vw12 []) mean mg mb f sz vs P R
end Mine
namespace Mine
theorem c_lmix (w : World) (mean : ExcName → Option Value) (mg mb : Str → Option Value) (x0 x1 : Int) (tx0 tx1 : Tok) (hpre : (fun c k => CellOk c ∧ 0 ≤ k ∧ k ≤ 1000) x0 x1 := by first | trivial | ((try dsimp only); first | assumption | omega | l_fact)) : Con w mean mg mb 202 1 [.int x0 tx0, .int x1 tx1] ((fun c k => 0 ≤ mix c k ∧ mix c k < 999983) x0 x1) (fun t => .int (mix x0 x1) t) := by
  unfold Con Ct
  k_fill
  w_top off
  intro dp un gd cn cs a ccd cl outer A₀ base h₀ L m news s Q E B F X N T hk hd hu hret
  refine wpAny_call ?_
  k_dflt cell_enter
  k_with_none
  k_steps
  all_goals (refine' ct_retI hret ?e1 ?e2 ?e3 ?e4; (case e3 => k_asm); (case e4 => first | k_asm | (refine' cb_drop ?cbN ?cbS; (case cbN => assumption); (case cbS => kcj_all))); (case e1 => exact mix_bd _ _); (case e2 => rfl))
end Mine
namespace Mine
theorem c_lbig (w : World) (mean : ExcName → Option Value) (mg mb : Str → Option Value) (x0 x1 : Int) (tx0 tx1 : Tok) (hpre : (fun c k => CellOk c ∧ 0 ≤ k ∧ k ≤ 500) x0 x1 := by first | trivial | ((try dsimp only); first | assumption | omega | l_fact)) : Con w mean mg mb 209 2 [.int x0 tx0, .int x1 tx1] ((fun c k => 0 ≤ big c k ∧ big c k ≤ 1000000000000) x0 x1) (fun t => .int (big x0 x1) t) := by
  unfold Con Ct
  k_fill
  w_top off
  intro dp un gd cn cs a ccd cl outer A₀ base h₀ L m news s Q E B F X N T hk hd hu hret
  refine wpAny_call ?_
  k_dflt cell_enter
  k_with_none
  k_with "call ref" => (k_here; (with_reducible show wpAny _ _ (call (Value.ref 202) _) _ _ _); k_dflt (refine Mine.Ct.use (Mine.c_lmix _ _ _ _ _ _ _ _) (ret := ?_)); intro t9 h9 tk9 P9 F9 N9; (try dsimp only); (try k_fold))
  k_steps
  all_goals (refine' ct_retI hret ?e1 ?e2 ?e3 ?e4; (case e3 => k_asm); (case e4 => first | k_asm | (refine' cb_drop ?cbN ?cbS; (case cbN => assumption); (case cbS => kcj_all))); (case e1 => exact big_bd _ _); (case e2 => (first | exact big_0 (by assumption) | exact big_1 (by assumption) | exact big_2 (by assumption) | exact big_3 (by assumption) (by assumption) (by assumption) | (unfold big; cb_eq))))
end Mine
namespace Mine
open PySem PySem.W PyProof.Rows
noncomputable def Cv (prog : Program) (w : World) (K : Frag) (p : Program) (loose : List Str) (mean : ExcName → Option Value) (mg mb : Str → Option Value) (f : Addr) (sz : Nat) (vs : List Value) (P : List (Addr × Obj) → Prop) (Out : Value → Prop) : Prop :=
  ∀ (dp un : Nat) (gd : Option (List Code)) (cn : Str) (cs : Scope) (a : Addr) (ccd : Value) (cl : List (Str × Addr)) (outer : List Env) (A₀ : Around) (base h₀ : Heap) (L : Addr) (m : Str → Option Value) (news : List (Addr × Obj)) (s : Shared) (Q E : Value → Shared → Prop),
    Below A₀ base outer h₀ → Fr h₀ L s.heap m → K.In h₀ → News h₀ L s.heap news → Top p loose mean mg mb h₀ → cs.kind = .function → dp + sz < recursionLimit → un + 8 * sz < cLine → P news →
    (∀ (r : Value) (h' : Heap) (tk' : Nat), Out r → Fr h₀ L h' m → News h₀ L h' news → Q r { s with heap := h', toks := tk' }) →
    wpAny (model prog w) (ktrTop dp un gd cn cs L a ccd cl outer) (call (.ref f) vs) Q E s
theorem Cv.use {prog : Program} {w : World} {K : Frag} {p : Program} {loose : List Str} {mean : ExcName → Option Value} {mg mb : Str → Option Value} {f : Addr} {sz : Nat} {vs : List Value} {P : List (Addr × Obj) → Prop} {Out : Value → Prop} (C : Cv prog w K p loose mean mg mb f sz vs P Out)
    {dp un : Nat} {gd : Option (List Code)} {cn : Str} {cs : Scope} {a : Addr} {ccd : Value} {cl : List (Str × Addr)} {outer : List Env} {A₀ : Around} {base h₀ : Heap} {L : Addr} {m : Str → Option Value} {news : List (Addr × Obj)} {s : Shared} {Q E : Value → Shared → Prop}
    (B : Below A₀ base outer h₀ := by k_asm) (F : Fr h₀ L s.heap m := by k_asm) (X : K.In h₀ := by k_asm) (N : News h₀ L s.heap news := by k_asm) (T : Top p loose mean mg mb h₀ := by k_asm) (hk : cs.kind = .function := by first | exact rfl | assumption) (hd : dp + sz < recursionLimit := by first | assumption | omega | ktr_room) (hu : un + 8 * sz < cLine := by first | assumption | omega | ktr_units) (hp : P news := by first | trivial | k_mem)
    (ret : ∀ (r : Value) (h' : Heap) (tk' : Nat), Out r → Fr h₀ L h' m → News h₀ L h' news → Q r { s with heap := h', toks := tk' }) :
    wpAny (model prog w) (ktrTop dp un gd cn cs L a ccd cl outer) (call (.ref f) vs) Q E s := C _ _ _ _ _ _ _ _ _ _ _ _ _ _ _ _ _ _ B F X N T hk hd hu hp ret
noncomputable def TextLe (n : Nat) (r : Value) : Prop := ∃ (x : Str) (t : Tok), r = .str x t ∧ x.length ≤ n ∧ PyData.strOk x = true
end Mine
namespace Mine
open PySem PySem.W PyProof.Rows
theorem textLe_of {n : Nat} {x : Str} {t : Tok} (h : x.length ≤ n) (ho : PyData.strOk x = true) : TextLe n (.str x t) := ⟨x, t, rfl, h, ho⟩
theorem strOk_append {x y : Str} (hx : PyData.strOk x = true) (hy : PyData.strOk y = true) : PyData.strOk (x ++ y) = true := by
  unfold PyData.strOk at *
  show (x.cps ++ y.cps).all _ = true
  rw [Array.all_append, hx, hy]; rfl
theorem strOk_mem {x : Str} (hx : PyData.strOk x = true) {c : Nat} (h : c ∈ x.cps) : c < 0x110000 := by
  unfold PyData.strOk at hx
  simpa using (Array.all_eq_true_iff_forall_mem.mp hx) c h
theorem strOk_slice {x : Str} (hx : PyData.strOk x = true) (l u : Option Int) : PyData.strOk (Txt.slice x l u) = true := by
  unfold Txt.slice
  split
  · exact hx
  · unfold PyData.strOk
    rw [Array.all_eq_true_iff_forall_mem]
    intro c hc
    obtain ⟨i, _, hi⟩ := List.mem_filterMap.mp (List.mem_toArray.mp hc)
    simpa using strOk_mem hx (Array.mem_of_getElem? hi)
theorem strOk_item {x : Str} (hx : PyData.strOk x = true) (i : Int) : PyData.strOk (Txt.item x i) = true := by
  unfold Txt.item Txt.charAt
  unfold PyData.strOk
  cases h : (seqIndex? i x.length).bind (x.cps[·]?) with
  | none => simp
  | some c =>
    have : c < 0x110000 := by
      cases hs : seqIndex? i x.length with
      | none => rw [hs] at h; cases h
      | some k => rw [hs] at h; exact strOk_mem hx (Array.mem_of_getElem? h)
    simp [this]
theorem len_item1 (x : Str) (i : Int) : (Txt.item x i).length = 1 := rfl
theorem textAll_nil {n : Nat} : ∀ v ∈ ([] : List Value), TextLe n v := fun _ h => nomatch h
theorem textAll_cons {n : Nat} {v : Value} {r : List Value} (h : TextLe n v) (hr : ∀ v ∈ r, TextLe n v) : ∀ u ∈ v :: r, TextLe n u := fun u hu => by
  rcases List.mem_cons.mp hu with rfl | hu
  · exact h
  · exact hr u hu
theorem item_texts {prog : Program} {w : World} {A : Around} {E : Value → Shared → Prop} {s : Shared} {value slice : PySem.Expr} {l : Addr} {vs : List Value} {k : Int} {u : Tok} {Q : Value → Shared → Prop} (n : Nat) (hl : s.heap.IsList l vs.toArray)
    (h0 : 0 ≤ k ∧ k < vs.length) (hfit : k < 2 ^ 63) (ht : ∀ v ∈ vs, TextLe n v) (h : ∀ x t, (x.length ≤ n ∧ PyData.strOk x = true) → Q (.str x t) s)
    (hs : subscripted slice false (.ref l) (.int k u) = operate [.ref l, .int k u] (getItem (.ref l) (.int k u)) := by with_unfolding_all rfl) :
    wpAny (model prog w) A (subscriptTail value slice (.ref l) (.int k u)) Q E s := by
  have hlt : k.toNat < vs.length := by omega
  obtain ⟨x, t, e, hx⟩ := ht _ (List.getElem_mem hlt)
  exact tail_any hl.typeIs slot_list_getitem.lookup (wpAny_getItem_list hl h0.1 hfit (x := .str x t) (by rw [List.getElem?_toArray, List.getElem?_eq_getElem hlt, e]) (h x t hx)) hs
end Mine
namespace Mine
open PySem PySem.W PyProof.Rows
end Mine
namespace Mine
theorem c_word (w : World) (mean : ExcName → Option Value) (mg mb : Str → Option Value) (c n : Int) (tc tn : Tok) (hc : CellOk c ∧ 0 ≤ n ∧ n ≤ 13 := by first | trivial | ((try dsimp only); first | assumption | omega | l_fact)) :
    Cv PySem.Challenge.rw_uf050027_12.row.prog w (k12.heap_1 w.params) vw12 (looseW vw12 []) mean mg mb 223 2 [.int c tc, .int n tn] (fun _ => True) (TextLe n.toNat) := by
  unfold Cv
  k_fill
  w_top off
  intro dp un gd cn cs a ccd cl outer A₀ base h₀ L m news s Q E B F X N T hk hd hu hP hret
  refine wpAny_call ?_
  k_dflt cell_enter
  k_with_none
  k_with "call ref" => (k_here; (with_reducible show wpAny _ _ (call (Value.ref 202) _) _ _ _); k_dflt (refine Mine.Ct.use (Mine.c_lmix _ _ _ _ _ _ _ _) (ret := ?_)); intro t9 h9 tk9 P9 F9 N9; (try dsimp only); (try k_fold))
  k_with "call ref" => (k_here; (with_reducible show wpAny _ _ (call (Value.ref 209) _) _ _ _); k_dflt (refine Mine.Ct.use (Mine.c_lbig _ _ _ _ _ _ _ _) (ret := ?_)); intro t9 h9 tk9 P9 F9 N9; (try dsimp only); (try k_fold))
  k_with "state" => (first | exact ⟨⟨rfl, by decide⟩, by decide +kernel⟩ | (refine ⟨⟨?sa, ?sc⟩, ?sb⟩; (case sa => (rw [Str.length_append, Mine.len_item1, List.length_append, List.length_cons, List.length_nil]; omega)); (case sc => (rw [List.length_append, List.length_cons, List.length_nil]; omega)); (case sb => exact Mine.strOk_append (by assumption) (Mine.strOk_item (by decide +kernel) _))))
  k_with "pyIter ref" => k_state (fun pre w => (w.length = pre.length ∧ pre.length ≤ 13) ∧ PyData.strOk w = true) "_law_word_here"
  k_steps
  k_with_none
  all_goals (refine' hret _ _ _ ⟨_, _, rfl, ?q1⟩ ?q2 ?q3; (case q2 => k_asm); (case q3 => first | k_asm | (refine' cb_drop ?cbN ?cbS; (case cbN => assumption); (case cbS => kcj_all))); (case q1 => (refine ⟨?_, by assumption⟩; simp only [rangeKs_length] at *; omega)))

end Mine
namespace Mine
open PySem PySem.W PyProof.Rows PySem.Spec PySem.Calls PyProof.Rows.LCg PyProof.Rows.LCt
section
variable {prog : Program} {w : World} {A : Around} {E : Value → Shared → Prop} {s : Shared} {h₀ : Heap} {L : Addr} {m : Str → Option Value} {env : Env}
noncomputable def CompTurn (h₀ : Heap) (L : Addr) (m : Str → Option Value) (s₁ : Shared) (I : Addr) (oI : Obj) (C : Addr) (oC : Obj) (D : Addr) (oD : Obj) (S : List (Addr × Obj) → Prop) (rest : Value → List (Addr × Obj) → Prop) (y : Value) (s₂ : Shared) : Prop :=
  LCg.CompEnd h₀ L m s₁ I oI C oC D oD S rest y s₂
theorem CompTurn.intro {I C D : Addr} {s₁ : Shared} {oI oC oD : Obj} {S : List (Addr × Obj) → Prop} {rest : Value → List (Addr × Obj) → Prop} {y : Value} {h' : Heap} {tk : Nat} {all : List (Addr × Obj)}
    (F : Fr h₀ L h' m) (N : News h₀ L h' all) (news' : List (Addr × Obj)) (sub : ∀ p ∈ (I, oI) :: (C, oC) :: (D, oD) :: news', p ∈ all) (off : Off3 I C D news') (hS : S news') (r : rest y news') :
    CompTurn h₀ L m s₁ I oI C oC D oD S rest y { s₁ with heap := h', toks := tk } := CompEnd.intro F N news' sub off hS r
theorem rest_inv {elt : Expr} {x : Str} {scope : Scope} {cl : List (Str × Addr)} {S : List (Addr × Obj) → Prop} {P : Nat → Value → Prop} {Fin : List Value → List (Addr × Obj) → Prop} {n : Nat} {news : List (Addr × Obj)}
    (Inv : Nat → List Value → List (Addr × Obj) → Prop) (h0 : Inv 0 [] news)
    (turn : ∀ i ys nw v I oI C oC D m₂ h tk (E' : Value → Shared → Prop), i < n → Inv i ys nw → P i v → NsObj oC m₂ → m₂ x = some v → Fr h₀ L h m → News h₀ L h ((I, oI) :: (C, oC) :: (D, lst ys) :: nw) → Off3 I C D nw → ((@Ne Nat I C) ∧ (@Ne Nat I D) ∧ (@Ne Nat C D)) →
      wpAny (model prog w) A (eval elt (compEnvC scope cl C env)) (CompTurn h₀ L m { s with heap := h, toks := tk } I oI C oC D (lst ys) S (fun y nw' => Inv (i + 1) (ys ++ [y]) nw')) E' { s with heap := h, toks := tk })
    (fin : ∀ ys nw, Inv n ys nw → Fin ys nw) : CompRest prog w A h₀ L m env elt x scope cl s S P Fin n 0 [] news := by
  have key : ∀ (j i : Nat) (ys : List Value) (nw : List (Addr × Obj)), i + j = n → Inv i ys nw → CompRest prog w A h₀ L m env elt x scope cl s S P Fin j i ys nw := by
    intro j
    induction j with
    | zero =>
      intro i ys nw hi hv
      have e : i = n := by omega
      subst e
      exact CompRest.zero (fin ys nw hv)
    | succ j ih =>
      intro i ys nw hi hv
      refine CompRest.succ ?_
      intro v I oI C oC D m₂ h tk E' hP hC hx F N off ne
      refine wpAny_mono (turn i ys nw v I oI C oC D m₂ h tk E' (by omega) hv hP hC hx F N off ne) (fun y s₂ hq => ?_) fun _ _ e => e
      obtain ⟨h', tk', nw', e, F', N', off', hS, r⟩ := hq
      exact ⟨h', tk', nw', e, F', N', off', hS, ih (i + 1) _ nw' (by omega) r⟩
  exact key n 0 [] news (by omega) h0
theorem restT_inv {ct elt : Expr} {x : Str} {scope : Scope} {cl : List (Str × Addr)} {S : List (Addr × Obj) → Prop} {P : Nat → Value → Prop} {Fin : List Value → List (Addr × Obj) → Prop} {n : Nat} {news : List (Addr × Obj)}
    (Inv : Nat → List Value → List (Addr × Obj) → Prop) (h0 : Inv 0 [] news)
    (turn : ∀ i ys nw v I oI C oC D m₂ h tk (E' : Value → Shared → Prop), i < n → Inv i ys nw → P i v → NsObj oC m₂ → m₂ x = some v → Fr h₀ L h m → News h₀ L h ((I, oI) :: (C, oC) :: (D, lst ys) :: nw) → Off3 I C D nw → ((@Ne Nat I C) ∧ (@Ne Nat I D) ∧ (@Ne Nat C D)) →
      wpAny (model prog w) A (isTrue ct (compEnvC scope cl C env) (eval ct (compEnvC scope cl C env))) (fun ok s' => if ok = true then
        wpAny (model prog w) A (eval elt (compEnvC scope cl C env)) (CompTurn h₀ L m { s with heap := h, toks := tk } I oI C oC D (lst ys) S (fun y nw' => Inv (i + 1) (ys ++ [y]) nw')) E' s'
        else CompTurn h₀ L m { s with heap := h, toks := tk } I oI C oC D (lst ys) S (fun _ nw' => Inv (i + 1) ys nw') Value.none s') E' { s with heap := h, toks := tk })
    (fin : ∀ ys nw, Inv n ys nw → Fin ys nw) : CompRestT prog w A h₀ L m env ct elt x scope cl s S P Fin n 0 [] news := by
  have key : ∀ (j i : Nat) (ys : List Value) (nw : List (Addr × Obj)), i + j = n → Inv i ys nw → CompRestT prog w A h₀ L m env ct elt x scope cl s S P Fin j i ys nw := by
    intro j
    induction j with
    | zero =>
      intro i ys nw hi hv
      have e : i = n := by omega
      subst e
      exact CompRestT.zero (fin ys nw hv)
    | succ j ih =>
      intro i ys nw hi hv
      refine CompRestT.succ ?_
      intro v I oI C oC D m₂ h tk E' hP hC hx F N off ne
      refine wpAny_mono (turn i ys nw v I oI C oC D m₂ h tk E' (by omega) hv hP hC hx F N off ne) (fun ok s' hq => ?_) fun _ _ e => e
      cases ok with
      | true =>
        rw [if_pos rfl] at hq ⊢
        refine wpAny_mono hq (fun y s₂ hq => ?_) fun _ _ e => e
        obtain ⟨h', tk', nw', e, F', N', off', hS, r⟩ := hq
        exact ⟨h', tk', nw', e, F', N', off', hS, ih (i + 1) _ nw' (by omega) r⟩
      | false =>
        rw [if_neg (by decide)] at hq ⊢
        obtain ⟨h', tk', nw', e, F', N', off', hS, r⟩ := hq
        exact ⟨h', tk', nw', e, F', N', off', hS, ih (i + 1) _ nw' (by omega) r⟩
  exact key n 0 [] news (by omega) h0
theorem striter_st {I : Addr} {k : String} {tx : Str} {t : Tok} : ∀ i (h h' : Heap) (o : Obj) (nw : List (Addr × Obj)), h.IsStrIter I k tx t i → h.get? I = some o → h'.get? I = some o → (∀ b o, h₀.get? b = some o → h'.get? b = some o) → News h₀ L h' nw → True → h'.IsStrIter I k tx t i :=
  fun i h h' o nw st e e' _ _ _ => by obtain ⟨o', q, r⟩ := st; rw [e] at q; cases q; exact ⟨o, e', r⟩
noncomputable def SrcS (prog : Program) (w : World) (A : Around) (h₀ : Heap) (L : Addr) (m : Str → Option Value) (R : Shared → Str → List (Addr × Obj) → Prop) (xv : Value) (s₁ : Shared) : Prop :=
  ∃ tx t news, xv = .str tx t ∧ A.handled = none ∧ Fr h₀ L s₁.heap m ∧ News h₀ L s₁.heap news ∧ tx.cps.size ≤ sizeLine ∧ ∀ s₂ : Shared, (∃ h, s₂ = { s₁ with heap := h }) → R s₂ tx news
theorem SrcS.intro {R : Shared → Str → List (Addr × Obj) → Prop} {tx : Str} {t : Tok} {s₁ : Shared} {news : List (Addr × Obj)} (hh : A.handled = none) (F : Fr h₀ L s₁.heap m) (N : News h₀ L s₁.heap news) (hsz : tx.length ≤ sizeLine) (h : ∀ g, R { s₁ with heap := g } tx news) : SrcS prog w A h₀ L m R (.str tx t) s₁ :=
  ⟨tx, t, news, rfl, hh, F, N, hsz, fun _ ⟨g, e⟩ => e ▸ h g⟩
theorem ListComp_S {elt iter : Expr} {x : Str} {px : Pos} {scope : Scope} {cl : List (Str × Addr)} {pos : Pos} {Q : Value → Shared → Prop} (_F₀ : Fr h₀ L s.heap m)
    (hclos : closureFor scope env = pure cl) (hcell : ∀ y ∈ scope.names, y.2 ≠ .cell) (hkind : scope.kind = .function)
    (hnames : ∀ y ∈ scope.names, y.2 = .local → scope.names.lookup y.1 = some .local) (hx : scope.names.lookup x = some .local)
    (h : wpAny (model prog w) A (eval iter env) (SrcS prog w A h₀ L m (fun s₂ tx news => CompRest prog w A h₀ L m env elt x scope cl s₂ (fun _ => True) (SignAt tx) (FinE h₀ L m s₂ Q) tx.cps.size 0 [] news)) E s)
    (hs : ∀ x, foldedSetIterable iter env x = pure x := by intro _; rfl) :
    wpAny (model prog w) A (eval (.ListComp elt [⟨.Name x px, iter, [], 0⟩] scope pos) env) Q E s := by
  rw [eval_ListComp]
  refine wpAny_comprehension_free (use := none) rfl hs hclos hkind hnames (wpAny_mono h (fun xv s₁ h₁ => ?_) fun _ _ e => e)
  obtain ⟨tx, t, news, rfl, hh, F, N, hsz, R⟩ := h₁
  cases ha : tx.cps.all (· < 128)
  · refine wpAny_pyIter_wide ha ?_
    refine block_U (Walks.strWide hh s₁.heap.objs.size tx t) hsz (fun i h st => by obtain ⟨o, e, _⟩ := st; exact ⟨o, e⟩) striter_st hcell hkind hx ⟨_, Heap.get?_push_size _ rfl, rfl, rfl⟩ (fun b hb => ?_)
      (F.keeps fun _ _ e => Heap.get?_push_of_some _ e) (N.grown fun _ _ e => Heap.get?_push_of_some _ e) (Nat.ne_of_lt F.ns.lt) (next_is_new F) (fun p hp => Nat.ne_of_lt (Heap.lt_size (N p hp).1)) trivial (R _ ⟨_, rfl⟩) ?_
    · rw [List.mem_singleton.mp hb]
      show s₁.heap.objs.size < (s₁.heap.push _).objs.size
      rw [Heap.size_push]; exact Nat.lt_succ_self _
    · intro D C h tk m' ys news' F' N' o1 hn hC₀ hD₀ hCL hDL hCD offC fin
      refine ⟨m', hn, fun h'' hs'' => fin D h'' tk (F'.change hs'' hCL hC₀) (fun p hp => ?_) o1⟩
      refine ⟨hs''.extBut _ _ ?_ (N' p hp).1, (N' p hp).2⟩
      rcases List.mem_cons.mp hp with rfl | hp
      · exact Ne.symm hCD
      · exact offC p hp
  · refine wpAny_pyIter_ascii ha ?_
    refine block_U (Walks.strAscii hh s₁.heap.objs.size tx t) hsz (fun i h st => by obtain ⟨o, e, _⟩ := st; exact ⟨o, e⟩) striter_st hcell hkind hx ⟨_, Heap.get?_push_size _ rfl, rfl, rfl⟩ (fun b hb => ?_)
      (F.keeps fun _ _ e => Heap.get?_push_of_some _ e) (N.grown fun _ _ e => Heap.get?_push_of_some _ e) (Nat.ne_of_lt F.ns.lt) (next_is_new F) (fun p hp => Nat.ne_of_lt (Heap.lt_size (N p hp).1)) trivial (R _ ⟨_, rfl⟩) ?_
    · rw [List.mem_singleton.mp hb]
      show s₁.heap.objs.size < (s₁.heap.push _).objs.size
      rw [Heap.size_push]; exact Nat.lt_succ_self _
    · intro D C h tk m' ys news' F' N' o1 hn hC₀ hD₀ hCL hDL hCD offC fin
      refine ⟨m', hn, fun h'' hs'' => fin D h'' tk (F'.change hs'' hCL hC₀) (fun p hp => ?_) o1⟩
      refine ⟨hs''.extBut _ _ ?_ (N' p hp).1, (N' p hp).2⟩
      rcases List.mem_cons.mp hp with rfl | hp
      · exact Ne.symm hCD
      · exact offC p hp
theorem bools_snoc {b : Bool} : ∀ {vs : List Value} {bs : List Bool}, LSm.BoolsAre vs bs → LSm.BoolsAre (vs ++ [.bool b]) (bs ++ [b])
  | _, _, .nil => .cons b .nil
  | _, _, .cons c r => .cons c (bools_snoc r)
theorem sign_take {tx : Str} {i : Nat} {c : Nat} (h : tx.cps[i]? = some c) : tx.cps.toList.take (i + 1) = tx.cps.toList.take i ++ [c] := by
  rw [List.take_add_one]
  have : tx.cps.toList[i]? = some c := by simpa using h
  rw [this]; rfl
theorem sign_all {tx : Str} : tx.cps.toList.take tx.cps.size = tx.cps.toList := by
  rw [← Array.length_toList]; exact List.take_length
theorem signs_bool {elt : Expr} {x : Str} {scope : Scope} {cl : List (Str × Addr)} {Fin : List Value → List (Addr × Obj) → Prop} {tx : Str} {news : List (Addr × Obj)} (f : Nat → Bool)
    (turn : ∀ c u ys I oI C oC D m₂ h tk (E' : Value → Shared → Prop), NsObj oC m₂ → m₂ x = some (.str ⟨#[c]⟩ u) → Fr h₀ L h m → News h₀ L h ((I, oI) :: (C, oC) :: (D, lst ys) :: news) → Off3 I C D news → ((@Ne Nat I C) ∧ (@Ne Nat I D) ∧ (@Ne Nat C D)) →
      wpAny (model prog w) A (eval elt (compEnvC scope cl C env)) (CompTurn h₀ L m { s with heap := h, toks := tk } I oI C oC D (lst ys) (fun _ => True) (fun y nw' => nw' = news ∧ y = .bool (f c))) E' { s with heap := h, toks := tk })
    (fin : ∀ ys, LSm.BoolsAre ys (tx.cps.toList.map f) → Fin ys news) : CompRest prog w A h₀ L m env elt x scope cl s (fun _ => True) (SignAt tx) Fin tx.cps.size 0 [] news := by
  refine rest_inv (fun i ys nw => nw = news ∧ LSm.BoolsAre ys ((tx.cps.toList.take i).map f)) ⟨rfl, .nil⟩ ?_ ?_
  · rintro i ys nw v I oI C oC D m₂ h tk E' hi ⟨rfl, hb⟩ ⟨c, u, hc, rfl⟩ hC hx F N off ne
    refine wpAny_mono (turn c u ys I oI C oC D m₂ h tk E' hC hx F N off ne) (fun y s₂ hq => ?_) fun _ _ e => e
    obtain ⟨h', tk', nw', e, F', N', off', hS, hn, hy⟩ := hq
    subst hn hy
    refine ⟨h', tk', _, e, F', N', off', hS, rfl, ?_⟩
    rw [sign_take hc, List.map_append]
    exact bools_snoc hb
  · rintro ys nw ⟨rfl, hb⟩
    rw [sign_all] at hb
    exact fin ys hb
theorem signs_filter {ct elt : Expr} {x : Str} {scope : Scope} {cl : List (Str × Addr)} {Fin : List Value → List (Addr × Obj) → Prop} {tx : Str} {news : List (Addr × Obj)} (f : Nat → Bool) (hok : PyData.strOk tx = true)
    (turn : ∀ c u ys I oI C oC D m₂ h tk (E' : Value → Shared → Prop), NsObj oC m₂ → m₂ x = some (.str ⟨#[c]⟩ u) → Fr h₀ L h m → News h₀ L h ((I, oI) :: (C, oC) :: (D, lst ys) :: news) → Off3 I C D news → ((@Ne Nat I C) ∧ (@Ne Nat I D) ∧ (@Ne Nat C D)) →
      wpAny (model prog w) A (isTrue ct (compEnvC scope cl C env) (eval ct (compEnvC scope cl C env))) (fun ok s' => if ok = true then
        wpAny (model prog w) A (eval elt (compEnvC scope cl C env)) (CompTurn h₀ L m { s with heap := h, toks := tk } I oI C oC D (lst ys) (fun _ => True) (fun y nw' => nw' = news ∧ (∃ u, y = .str ⟨#[c]⟩ u) ∧ f c = false)) E' s'
        else CompTurn h₀ L m { s with heap := h, toks := tk } I oI C oC D (lst ys) (fun _ => True) (fun _ nw' => nw' = news ∧ f c = true) Value.none s') E' { s with heap := h, toks := tk })
    (fin : ∀ ys ds, DatAll [] ys ds → (∀ d ∈ ds, kqdOk 8 d = true) → (ds = [] ↔ tx.cps.toList.all f = true) → Fin ys news) : CompRestT prog w A h₀ L m env ct elt x scope cl s (fun _ => True) (SignAt tx) Fin tx.cps.size 0 [] news := by
  refine restT_inv (fun i ys nw => nw = news ∧ ∃ ds, DatAll [] ys ds ∧ (∀ d ∈ ds, kqdOk 8 d = true) ∧ (ds = [] ↔ (tx.cps.toList.take i).all f = true)) ⟨rfl, [], .nil, (fun _ h => nomatch h), by simp⟩ ?_ ?_
  · rintro i ys nw v I oI C oC D m₂ h tk E' hi ⟨rfl, ds, hd, hk, he⟩ ⟨c, u, hc, rfl⟩ hC hx F N off ne
    refine wpAny_mono (turn c u ys I oI C oC D m₂ h tk E' hC hx F N off ne) (fun ok s' hq => ?_) fun _ _ e => e
    cases ok with
    | true =>
      rw [if_pos rfl] at hq ⊢
      refine wpAny_mono hq (fun y s₂ hq => ?_) fun _ _ e => e
      obtain ⟨h', tk', nw', e, F', N', off', hS, hn, ⟨u', hy⟩, hf⟩ := hq
      subst hn hy
      refine ⟨h', tk', _, e, F', N', off', hS, rfl, ds ++ [.str ⟨#[c]⟩], hd.append (.one (.str _ _)), fun d hd' => ?_, ?_⟩
      · rcases List.mem_append.mp hd' with h1 | h1
        · exact hk d h1
        · rw [List.mem_singleton.mp h1]
          show PyData.strOk ⟨#[c]⟩ = true
          have hm : c ∈ tx.cps := Array.mem_of_getElem? hc
          have := (Array.all_eq_true_iff_forall_mem.mp hok) c hm
          simpa [PyData.strOk] using this
      · rw [sign_take hc, List.all_append]
        simp [hf]
    | false =>
      rw [if_neg (by decide)] at hq ⊢
      obtain ⟨h', tk', nw', e, F', N', off', hS, hn, hf⟩ := hq
      subst hn
      refine ⟨h', tk', _, e, F', N', off', hS, rfl, ds, hd, hk, ?_⟩
      rw [sign_take hc, List.all_append, he]
      simp [hf]
  · rintro ys nw ⟨rfl, ds, hd, hk, he⟩
    rw [sign_all] at he
    exact fin ys ds hd hk he
end
end Mine
namespace Mine
open PySem PySem.W PyProof.Rows PySem.Spec PySem.Calls
section
variable {prog : Program} {w : World} {A : Around} {E : Value → Shared → Prop} {s : Shared} {env : Env} {h₀ : Heap} {target : Expr} {body : List Stmt} {Q : Flow → Shared → Prop}
noncomputable def LoopTurn (h₀ : Heap) (L : Addr) (s₁ : Shared) (I : Addr) (o : Obj) (rest : (Str → Option Value) → List (Addr × Obj) → Prop) (Q : Flow → Shared → Prop) (f : Flow) (s₂ : Shared) : Prop :=
  UnrPostW h₀ L s₁ [(I, o)] rest Q f s₂
noncomputable def Between {σ : Type} (ps : σ → List (Str × Value)) (stored : List Str) (m₀ : Str → Option Value) (ax : Addr) (lo : Obj) (I : Addr) (Inv : σ → List (Addr × Obj) → Prop) (m : Str → Option Value) (nw : List (Addr × Obj)) : Prop :=
  (ax, lo) ∈ nw ∧ (∀ p ∈ nw, p.1 ≠ I) ∧ ∃ c, (∀ p ∈ ps c, m p.1 = some p.2) ∧ (∀ z, (∀ p ∈ ps c, z ≠ p.1) → stored.contains z = false → m z = m₀ z) ∧ Inv c nw
theorem LoopTurn.ret {L I : Addr} {s₁ : Shared} {o : Obj} {rest : (Str → Option Value) → List (Addr × Obj) → Prop} {v : Value} {s₂ : Shared} (h : Q (.ret v) s₂) : LoopTurn h₀ L s₁ I o rest Q (.ret v) s₂ := h
theorem LoopTurn.next {σ : Type} {ps : σ → List (Str × Value)} {stored : List Str} {m₀ : Str → Option Value} {ax : Addr} {lo : Obj} {L I : Addr} {o : Obj} {Inv : σ → List (Addr × Obj) → Prop} {s₁ : Shared} {h' : Heap} {tk : Nat} {m' : Str → Option Value} {all : List (Addr × Obj)} (c : σ) (nw' : List (Addr × Obj))
    (F : Fr h₀ L h' m') (N : News h₀ L h' all) (hI : (I, o) ∈ all) (sub : ∀ p ∈ nw', p ∈ all) (hax : (ax, lo) ∈ nw') (off : ∀ p ∈ nw', p.1 ≠ I) (hk : ∀ p ∈ ps c, m' p.1 = some p.2) (hr : ∀ z, (∀ p ∈ ps c, z ≠ p.1) → stored.contains z = false → m' z = m₀ z) (hv : Inv c nw') :
    LoopTurn h₀ L s₁ I o (Between ps stored m₀ ax lo I Inv) Q .next { s₁ with heap := h', toks := tk } :=
  ⟨h', tk, m', nw', rfl, F, fun p hp => by
    rcases List.mem_append.mp hp with hp | hp
    · rw [List.mem_singleton.mp hp]; exact N _ hI
    · exact N p (sub p hp), fun p hp q hq => by rw [List.mem_singleton.mp hq]; exact off p hp, hax, off, c, hk, hr, hv⟩
theorem LoopTurn.cont {σ : Type} {ps : σ → List (Str × Value)} {stored : List Str} {m₀ : Str → Option Value} {ax : Addr} {lo : Obj} {L I : Addr} {o : Obj} {Inv : σ → List (Addr × Obj) → Prop} {s₁ s₂ : Shared} (h : LoopTurn h₀ L s₁ I o (Between ps stored m₀ ax lo I Inv) Q .next s₂) :
    LoopTurn h₀ L s₁ I o (Between ps stored m₀ ax lo I Inv) Q .cont s₂ := h
theorem between_fr {L : Addr} {h : Heap} {ps : List (Str × Value)} {stored : List Str} {m₀ m₁ : Str → Option Value} (h1 : ∀ p ∈ ps, m₁ p.1 = some p.2) (h2 : ∀ z, (∀ p ∈ ps, z ≠ p.1) → stored.contains z = false → m₁ z = m₀ z)
    (F : Fr h₀ L h m₁) : Fr h₀ L h (kstB (fun z => if stored.contains z then m₁ z else m₀ z) ps) := by
  have em : kstB (fun z => if stored.contains z then m₁ z else m₀ z) ps = m₁ := by
    funext y
    refine kstB_eq h1 fun hn => ?_
    by_cases hc : stored.contains y = true
    · rw [if_pos hc]
    · rw [if_neg hc]
      exact (h2 y hn (by simpa using hc)).symm
  rw [em]
  exact F
theorem loop_list {σ : Type} {ax : Addr} {lo : Obj} {vs : List Value} {n : Nat} {m₀ : Str → Option Value} {news : List (Addr × Obj)} (ps : σ → List (Str × Value)) (stored : List Str) (Inv : Nat → σ → List (Addr × Obj) → Prop) (c₀ : σ)
    (hh : A.handled = none) (F : Fr h₀ env.locals s.heap m₀) (N : News h₀ env.locals s.heap news) (hm : (ax, lo) ∈ news) (hc : lo.cls = .type "list") (hd : lo.data = .seq vs.toArray n)
    (hk : ∀ p ∈ ps c₀, m₀ p.1 = some p.2) (h0 : Inv 0 c₀ news)
    (turn : ∀ i v c nw (u : Str → Option Value) I o h tk, vs[i]? = some v → Inv i c nw → (ax, lo) ∈ nw → (∀ p ∈ nw, p.1 ≠ I) → o.cls = .type "list_iterator" → Fr h₀ env.locals h (kstB (fun z => if stored.contains z then u z else m₀ z) (ps c)) → News h₀ env.locals h ((I, o) :: nw) →
      wpAny (model prog w) A (assign target env v) (fun _ s₂ => wpAny (model prog w) A (execs body env) (LoopTurn h₀ env.locals { s with heap := h, toks := tk } I o (Between ps stored m₀ ax lo I (Inv (i + 1))) Q) E s₂) E { s with heap := h, toks := tk })
    (done : ∀ c nw (u : Str → Option Value) h tk, Inv vs.length c nw → (ax, lo) ∈ nw → Fr h₀ env.locals h (kstB (fun z => if stored.contains z then u z else m₀ z) (ps c)) → News h₀ env.locals h nw → Q .next { s with heap := h, toks := tk }) :
    wpAny (model prog w) A (pyIter (.ref ax)) (fun it s₂ => TurnsAt prog w A h₀ env target body Q E it s₂) E s := by
  refine iter_listTurns hh F N hm hc hd fun I hI => ?_
  have key : ∀ (xs : List Value) (i : Nat) (m : Str → Option Value) (nw : List (Addr × Obj)), vs.drop i = xs → i ≤ vs.length → Between ps stored m₀ ax lo I (Inv i) m nw →
      ItemsRest prog w A E h₀ env target body Q s [(I, "list_iterator")] [(ax, lo)] (xs.map .val) m nw := by
    intro xs
    induction xs with
    | nil =>
      intro i m nw hx hi hb
      obtain ⟨hax, hne, c, h1, h2, hv⟩ := hb
      have e : i = vs.length := by
        have := congrArg List.length hx
        rw [List.length_drop, List.length_nil] at this
        omega
      subst e
      exact ItemsRest.zero fun h tk F' N' => done c nw m h tk hv hax (between_fr h1 h2 F') N'
    | cons v r ih =>
      intro i m nw hx hi hb
      obtain ⟨hax, hne, c, h1, h2, hv⟩ := hb
      have hlt : i < vs.length := by
        have := congrArg List.length hx
        rw [List.length_drop, List.length_cons] at this
        omega
      have hvi : vs[i]? = some v := by
        rw [List.drop_eq_getElem_cons hlt] at hx
        rw [List.getElem?_eq_getElem hlt]
        exact congrArg some (List.cons.inj hx).1
      have hr : vs.drop (i + 1) = r := by
        rw [List.drop_eq_getElem_cons hlt] at hx
        exact (List.cons.inj hx).2
      refine ItemsRest.val fun h tk F' => AllObj.cons fun o ho => AllObj.nil fun N' => ?_
      refine wpAny_mono (turn i v c nw m I o h tk hvi hv hax hne ho (between_fr h1 h2 F') N') (fun _ s₂ q => wpAny_mono q (fun f s₃ p => ?_) fun _ _ e => e) fun _ _ e => e
      have fin : ∀ s₃, UnrEndW h₀ env.locals { s with heap := h, toks := tk } [(I, o)] (Between ps stored m₀ ax lo I (Inv (i + 1))) s₃ →
          UnrEndW h₀ env.locals { s with heap := h, toks := tk } [(I, o)] (fun m' n' => SubL [(ax, lo)] n' ∧ ItemsRest prog w A E h₀ env target body Q s [(I, "list_iterator")] [(ax, lo)] (r.map .val) m' n') s₃ := by
        rintro s₃ ⟨h', tk', m', nw', e, F₃, N₃, off, b⟩
        exact ⟨h', tk', m', nw', e, F₃, N₃, off, And.intro b.1 trivial, ih (i + 1) m' nw' hr hlt b⟩
      cases f with
      | ret v => exact p
      | brk => exact p
      | next => exact fin _ p
      | cont => exact fin _ p
  exact key vs 0 m₀ news (List.drop_zero) (Nat.zero_le _) ⟨hm, fun p hp => Nat.ne_of_lt (hI p hp), c₀, hk, fun _ _ _ => rfl, h0⟩
noncomputable def Still {σ : Type} (ps : σ → List (Str × Value)) (stored : List Str) (m₀ : Str → Option Value) (news : List (Addr × Obj)) (P : σ → Prop) (m : Str → Option Value) (nw : List (Addr × Obj)) : Prop :=
  nw = news ∧ ∃ c, (∀ p ∈ ps c, m p.1 = some p.2) ∧ (∀ z, (∀ p ∈ ps c, z ≠ p.1) → stored.contains z = false → m z = m₀ z) ∧ P c
theorem LoopTurn.still {σ : Type} {ps : σ → List (Str × Value)} {stored : List Str} {m₀ : Str → Option Value} {L I : Addr} {o : Obj} {news : List (Addr × Obj)} {P : σ → Prop} {s₁ : Shared} {h' : Heap} {tk : Nat} {m' : Str → Option Value} {all : List (Addr × Obj)} (c : σ)
    (F : Fr h₀ L h' m') (N : News h₀ L h' all) (hI : (I, o) ∈ all) (sub : ∀ p ∈ news, p ∈ all) (off : ∀ p ∈ news, p.1 ≠ I) (hk : ∀ p ∈ ps c, m' p.1 = some p.2) (hr : ∀ z, (∀ p ∈ ps c, z ≠ p.1) → stored.contains z = false → m' z = m₀ z) (hv : P c) :
    LoopTurn h₀ L s₁ I o (Still ps stored m₀ news P) Q .next { s₁ with heap := h', toks := tk } :=
  ⟨h', tk, m', news, rfl, F, fun p hp => by
    rcases List.mem_append.mp hp with hp | hp
    · rw [List.mem_singleton.mp hp]; exact N _ hI
    · exact N p (sub p hp), fun p hp q hq => by rw [List.mem_singleton.mp hq]; exact off p hp, rfl, c, hk, hr, hv⟩
theorem still_post {σ : Type} {ps : σ → List (Str × Value)} {stored : List Str} {m₀ : Str → Option Value} {L I ax : Addr} {lo : Obj} {o : Obj} {news : List (Addr × Obj)} {P : σ → Prop} {s₁ : Shared} {f : Flow} {s₂ : Shared} (hm : (ax, lo) ∈ news) (off : ∀ p ∈ news, p.1 ≠ I)
    (h : LoopTurn h₀ L s₁ I o (Still ps stored m₀ news P) Q f s₂) : LoopTurn h₀ L s₁ I o (Between ps stored m₀ ax lo I (fun c nw => nw = news ∧ P c)) Q f s₂ := by
  have key : UnrEndW h₀ L s₁ [(I, o)] (Still ps stored m₀ news P) s₂ → UnrEndW h₀ L s₁ [(I, o)] (Between ps stored m₀ ax lo I (fun c nw => nw = news ∧ P c)) s₂ := by
    rintro ⟨h', tk, m', nw', e, F, N, off', hn, c, h1, h2, h3⟩
    subst hn
    exact ⟨h', tk, m', nw', e, F, N, off', hm, off, c, h1, h2, rfl, h3⟩
  cases f with
  | ret v => exact h
  | brk => exact h
  | next => exact key h
  | cont => exact key h
theorem loop_listD {σ : Type} {ax : Addr} {lo : Obj} {vs : List Value} {ds : List Dat} {n : Nat} {m₀ : Str → Option Value} {news : List (Addr × Obj)} (ps : σ → List (Str × Value)) (stored : List Str) (P : List Dat → σ → Prop) (c₀ : σ) (hi : DatAll news vs ds)
    (hh : A.handled = none) (F : Fr h₀ env.locals s.heap m₀) (N : News h₀ env.locals s.heap news) (hm : (ax, lo) ∈ news) (hc : lo.cls = .type "list") (hd : lo.data = .seq vs.toArray n)
    (hk : ∀ p ∈ ps c₀, m₀ p.1 = some p.2) (h0 : P [] c₀)
    (turn : ∀ pre d post v c (u : Str → Option Value) I o h tk, ds = pre ++ d :: post → d ∈ ds → DatIn news v d → P pre c → (∀ p ∈ news, p.1 ≠ I) → o.cls = .type "list_iterator" → Fr h₀ env.locals h (kstB (fun z => if stored.contains z then u z else m₀ z) (ps c)) → News h₀ env.locals h ((I, o) :: news) →
      wpAny (model prog w) A (assign target env v) (fun _ s₂ => wpAny (model prog w) A (execs body env) (LoopTurn h₀ env.locals { s with heap := h, toks := tk } I o (Still ps stored m₀ news (P (pre ++ [d]))) Q) E s₂) E { s with heap := h, toks := tk })
    (done : ∀ c (u : Str → Option Value) h tk, P ds c → Fr h₀ env.locals h (kstB (fun z => if stored.contains z then u z else m₀ z) (ps c)) → News h₀ env.locals h news → Q .next { s with heap := h, toks := tk }) :
    wpAny (model prog w) A (pyIter (.ref ax)) (fun it s₂ => TurnsAt prog w A h₀ env target body Q E it s₂) E s := by
  have hl := hi.length
  refine loop_list ps stored (fun i c nw => nw = news ∧ P (ds.take i) c) c₀ hh F N hm hc hd hk ⟨rfl, by simpa using h0⟩ ?_ ?_
  · rintro i v c nw u I o h tk hv ⟨rfl, hp⟩ hax hne ho F' N'
    have hlt : i < ds.length := by
      rw [← hl]
      exact (List.getElem?_eq_some_iff.mp hv).1
    obtain ⟨v', hv', hD⟩ := hi.get hlt
    rw [hv] at hv'
    cases hv'
    have hs : ds.take (i + 1) = ds.take i ++ [ds[i]] := by rw [List.take_succ_eq_append_getElem hlt]
    have e : ds = ds.take i ++ ds[i] :: ds.drop (i + 1) := by
      have ht := List.take_append_drop (i + 1) ds
      rw [hs, List.append_assoc] at ht
      exact ht.symm
    rw [hs]
    exact wpAny_mono (turn _ ds[i] _ v c u I o h tk e (List.getElem_mem hlt) hD hp hne ho F' N') (fun _ s₂ q => wpAny_mono q (fun f s₃ p => still_post hax hne p) fun _ _ e => e) fun _ _ e => e
  · rintro c nw u h tk ⟨rfl, hp⟩ hax F' N'
    rw [hl, List.take_length] at hp
    exact done c u h tk hp F' N'
end
end Mine
namespace Mine
open PySem PySem.W PyProof.Rows PySem.Spec PySem.Calls
section
variable {prog : Program} {w : World} {A : Around} {E : Value → Shared → Prop} {s : Shared} {env : Env} {h₀ : Heap} {x : Str} {px : Pos} {body : List Stmt} {Q : Flow → Shared → Prop}
end
end Mine
namespace Mine
open PySem PySem.W PyProof.Rows PySem.Spec PySem.Calls PyProof.Rows.LCg PyProof.Rows.LCt
section
variable {prog : Program} {w : World} {A : Around} {E : Value → Shared → Prop} {s : Shared} {h₀ : Heap} {L : Addr} {m : Str → Option Value} {env : Env}
noncomputable def SrcU (prog : Program) (w : World) (A : Around) (h₀ : Heap) (L : Addr) (m : Str → Option Value) (env : Env) (elt : Expr) (x : Str) (scope : Scope) (cl : List (Str × Addr)) (Fin : Shared → List Value → List (Addr × Obj) → Prop) (xv : Value) (s₁ : Shared) : Prop :=
  CompSrc prog w A h₀ L m env elt x scope cl Fin xv s₁
theorem SrcU.ledger {elt : Expr} {x : Str} {scope : Scope} {cl : List (Str × Addr)} {Fin : Shared → List Value → List (Addr × Obj) → Prop} {ax : Addr} {its : Array Value} {k : Nat} {news : List (Addr × Obj)} {s₁ : Shared}
    (hh : A.handled = none) (F : Fr h₀ L s₁.heap m) (N : News h₀ L s₁.heap news) (hm : (ax, ({ cls := .type "list", data := .seq its k } : Obj)) ∈ news) (hsz : its.size ≤ sizeLine)
    (h : ∀ g, CompRest prog w A h₀ L m env elt x scope cl { s₁ with heap := g } (SrcAt h₀ ax its) (fun i v => its[i]? = some v) (Fin { s₁ with heap := g }) its.size 0 [] news) :
    SrcU prog w A h₀ L m env elt x scope cl Fin (.ref ax) s₁ := CompSrc.ledger hh F N hm hsz h
theorem SrcU.range {elt : Expr} {x : Str} {scope : Scope} {cl : List (Str × Addr)} {Fin : Shared → List Value → List (Addr × Obj) → Prop} {r : Addr} {a b : Int} {t u v : Tok} {n : Nat} {news : List (Addr × Obj)} {s₁ : Shared}
    (hh : A.handled = none) (F : Fr h₀ L s₁.heap m) (N : News h₀ L s₁.heap news) (hr : IsRange s₁.heap r a b 1 t u v) (hsm : Builtin.Range.small a b 1 = true) (hn : Builtin.Range.rangeSize a b 1 = ((n : Nat) : Int)) (hsz : n ≤ sizeLine)
    (h : ∀ g, CompRest prog w A h₀ L m env elt x scope cl { s₁ with heap := g } (fun _ => True) (fun i v => ∃ t, v = .int (a + (i : Int)) t) (Fin { s₁ with heap := g }) n 0 [] news) :
    SrcU prog w A h₀ L m env elt x scope cl Fin (.ref r) s₁ := CompSrc.range hh F N hr hsm hn hsz h
theorem ListComp_V {elt iter : Expr} {x : Str} {px : Pos} {scope : Scope} {cl : List (Str × Addr)} {pos : Pos} {Q : Value → Shared → Prop} (F₀ : Fr h₀ L s.heap m)
    (hclos : closureFor scope env = pure cl) (hcell : ∀ y ∈ scope.names, y.2 ≠ .cell) (hkind : scope.kind = .function)
    (hnames : ∀ y ∈ scope.names, y.2 = .local → scope.names.lookup y.1 = some .local) (hx : scope.names.lookup x = some .local)
    (h : wpAny (model prog w) A (eval iter env) (SrcU prog w A h₀ L m env elt x scope cl (fun s₂ => FinE h₀ L m s₂ Q)) E s)
    (hs : ∀ x, foldedSetIterable iter env x = pure x := by intro _; rfl) :
    wpAny (model prog w) A (eval (.ListComp elt [⟨.Name x px, iter, [], 0⟩] scope pos) env) Q E s := ListComp_U F₀ hclos hcell hkind hnames hx h hs
theorem Assign_ListComp_V {elt iter : Expr} {x y : Str} {px py : Pos} {scope : Scope} {cl : List (Str × Addr)} {pos spos : Pos} {Q : Flow → Shared → Prop} (F₀ : Fr h₀ L s.heap m) (hLe : env.locals = L)
    (hsw : swapsWith (.ListComp elt [⟨.Name x px, iter, [], 0⟩] scope pos) (some (.Name y py)) spos.line env = pure true)
    (hclos : closureFor scope env = pure cl) (hcell : ∀ z ∈ scope.names, z.2 ≠ .cell) (hkind : scope.kind = .function)
    (hnames : ∀ z ∈ scope.names, z.2 = .local → scope.names.lookup z.1 = some .local) (hx : scope.names.lookup x = some .local)
    (hy : env.kindOf y = some .local) (hp : (env.scope.kind == .class || (env.scope.kind == .module && env.locals != env.globals)) = false)
    (h : wpAny (model prog w) A (eval iter env) (SrcU prog w A h₀ L m env elt x scope cl (fun s₂ => FinA h₀ L m s₂ y Q)) E s)
    (hs : ∀ x, foldedSetIterable iter env x = pure x := by intro _; rfl) :
    wpAny (model prog w) A (exec (.Assign [.Name y py] (.ListComp elt [⟨.Name x px, iter, [], 0⟩] scope pos) spos) env) Q E s := Assign_ListComp_U F₀ hLe hsw hclos hcell hkind hnames hx hy hp h hs
end
end Mine
namespace Mine
open PySem PySem.W PyProof.Rows PySem.Spec PySem.Calls PyProof.Rows.LCg PyProof.Rows.LCt
section
variable {prog : Program} {w : World} {A : Around} {E : Value → Shared → Prop} {s : Shared} {h₀ : Heap} {L : Addr} {m : Str → Option Value} {env : Env}
noncomputable def TupAt (ax : Addr) (its : Array Value) (nw : List (Addr × Obj)) : Prop := ∃ o, (ax, o) ∈ nw ∧ o.cls = .type "tuple" ∧ ∃ n, o.data = .seq its n
theorem TupAt.tup {h : Heap} {ax : Addr} {its : Array Value} {nw : List (Addr × Obj)} (x : TupAt ax its nw) (N : News h₀ L h nw) : h.IsTuple ax its := by
  obtain ⟨o, hm, hc, n, hd⟩ := x
  exact ⟨o, (N _ hm).1, hc, n, hd⟩
noncomputable def SrcT (prog : Program) (w : World) (A : Around) (h₀ : Heap) (L : Addr) (m : Str → Option Value) (R : Shared → Addr → Array Value → List (Addr × Obj) → Prop) (xv : Value) (s₁ : Shared) : Prop :=
  ∃ ax its news, xv = .ref ax ∧ A.handled = none ∧ Fr h₀ L s₁.heap m ∧ News h₀ L s₁.heap news ∧ TupAt ax its news ∧ its.size ≤ sizeLine ∧ ∀ s₂ : Shared, (∃ h, s₂ = { s₁ with heap := h }) → R s₂ ax its news
theorem SrcT.intro {R : Shared → Addr → Array Value → List (Addr × Obj) → Prop} {ax : Addr} {its : Array Value} {k : Nat} {s₁ : Shared} {news : List (Addr × Obj)} (hh : A.handled = none) (F : Fr h₀ L s₁.heap m) (N : News h₀ L s₁.heap news) (hm : (ax, ({ cls := .type "tuple", data := .seq its k } : Obj)) ∈ news) (hsz : its.size ≤ sizeLine) (h : ∀ g, R { s₁ with heap := g } ax its news) : SrcT prog w A h₀ L m R (.ref ax) s₁ :=
  ⟨ax, its, news, rfl, hh, F, N, ⟨_, hm, rfl, _, rfl⟩, hsz, fun _ ⟨g, e⟩ => e ▸ h g⟩
theorem tupiter_st {ax I : Addr} {its : Array Value} : ∀ i (h h' : Heap) (o : Obj) (nw : List (Addr × Obj)), (h.IsTupleIter I ax i ∧ h.IsTuple ax its) → h.get? I = some o → h'.get? I = some o → (∀ b o, h₀.get? b = some o → h'.get? b = some o) → News h₀ L h' nw → TupAt ax its nw → (h'.IsTupleIter I ax i ∧ h'.IsTuple ax its) :=
  fun i h h' o nw st e e' k N S => ⟨by obtain ⟨o', q, r⟩ := st.1; rw [e] at q; cases q; exact ⟨o, e', r⟩, S.tup N⟩
theorem ListComp_Tu {elt iter : Expr} {x : Str} {px : Pos} {scope : Scope} {cl : List (Str × Addr)} {pos : Pos} {Q : Value → Shared → Prop} (_F₀ : Fr h₀ L s.heap m)
    (hclos : closureFor scope env = pure cl) (hcell : ∀ y ∈ scope.names, y.2 ≠ .cell) (hkind : scope.kind = .function)
    (hnames : ∀ y ∈ scope.names, y.2 = .local → scope.names.lookup y.1 = some .local) (hx : scope.names.lookup x = some .local)
    (h : wpAny (model prog w) A (eval iter env) (SrcT prog w A h₀ L m (fun s₂ ax its news => CompRest prog w A h₀ L m env elt x scope cl s₂ (TupAt ax its) (fun i v => its[i]? = some v) (FinE h₀ L m s₂ Q) its.size 0 [] news)) E s)
    (hs : ∀ x, foldedSetIterable iter env x = pure x := by intro _; rfl) :
    wpAny (model prog w) A (eval (.ListComp elt [⟨.Name x px, iter, [], 0⟩] scope pos) env) Q E s := by
  rw [eval_ListComp]
  refine wpAny_comprehension_free (use := none) rfl hs hclos hkind hnames (wpAny_mono h (fun xv s₁ h₁ => ?_) fun _ _ e => e)
  obtain ⟨ax, its, news, rfl, hh, F, N, S, hsz, R⟩ := h₁
  have hl := S.tup N
  have hlt : ax < s₁.heap.objs.size := by obtain ⟨_, e, _⟩ := hl; exact Heap.lt_size e
  refine wpAny_pyIter_tuple hl ?_
  have up : ∀ b o, s₁.heap.get? b = some o → (s₁.heap.push { cls := .type "tuple_iterator", data := .fields #[.ref ax, .int 0 0] }).get? b = some o := fun b o e => Heap.get?_push_of_some _ e
  refine block_U (Walks.tuple hh s₁.heap.objs.size ax (Nat.ne_of_lt hlt) its) hsz (fun i h st => by obtain ⟨o, e, _⟩ := st.1; exact ⟨o, e⟩) tupiter_st hcell hkind hx ⟨⟨_, Heap.get?_push_size _ rfl, rfl, rfl⟩, hl.at fun o e => Heap.get?_push_of_some _ e⟩ (fun b hb => ?_)
    (F.keeps up) (N.grown up) (Nat.ne_of_lt F.ns.lt) (next_is_new F) (fun p hp => Nat.ne_of_lt (Heap.lt_size (N p hp).1)) S (R _ ⟨_, rfl⟩) ?_
  · show b < (s₁.heap.push _).objs.size
    rw [Heap.size_push]
    rcases List.mem_cons.mp hb with rfl | hb
    · exact Nat.lt_succ_self _
    · rw [List.mem_singleton.mp hb]; exact Nat.lt_succ_of_lt hlt
  · intro D C h tk m' ys news' F' N' o1 hn hC₀ hD₀ hCL hDL hCD offC fin
    refine ⟨m', hn, fun h'' hs'' => fin D h'' tk (F'.change hs'' hCL hC₀) (fun p hp => ?_) o1⟩
    refine ⟨hs''.extBut _ _ ?_ (N' p hp).1, (N' p hp).2⟩
    rcases List.mem_cons.mp hp with rfl | hp
    · exact Ne.symm hCD
    · exact offC p hp
theorem tup_bool {elt : Expr} {x : Str} {scope : Scope} {cl : List (Str × Addr)} {Fin : List Value → List (Addr × Obj) → Prop} {S : List (Addr × Obj) → Prop} {vs : List Value} {ns : List Int} {news : List (Addr × Obj)} (f : Int → Bool) (hi : IntsAre vs ns) (hS : S news)
    (turn : ∀ k u ys I oI C oC D m₂ h tk (E' : Value → Shared → Prop), NsObj oC m₂ → m₂ x = some (.int k u) → Fr h₀ L h m → News h₀ L h ((I, oI) :: (C, oC) :: (D, lst ys) :: news) → Off3 I C D news → ((@Ne Nat I C) ∧ (@Ne Nat I D) ∧ (@Ne Nat C D)) →
      wpAny (model prog w) A (eval elt (compEnvC scope cl C env)) (CompTurn h₀ L m { s with heap := h, toks := tk } I oI C oC D (lst ys) (fun _ => True) (fun y nw' => nw' = news ∧ y = .bool (f k))) E' { s with heap := h, toks := tk })
    (fin : ∀ ys, LSm.BoolsAre ys (ns.map f) → Fin ys news) : CompRest prog w A h₀ L m env elt x scope cl s S (fun i v => vs.toArray[i]? = some v) Fin vs.toArray.size 0 [] news := by
  have hl := hi.length
  refine rest_inv (fun i ys nw => nw = news ∧ LSm.BoolsAre ys ((ns.take i).map f)) ⟨rfl, .nil⟩ ?_ ?_
  · rintro i ys nw v I oI C oC D m₂ h tk E' hlt ⟨rfl, hb⟩ hv hC hx F N off ne
    obtain ⟨k, u, e, hk⟩ := IntsAre.at hi i v (by simpa using hv)
    subst e
    refine wpAny_mono (turn k u ys I oI C oC D m₂ h tk E' hC hx F N off ne) (fun y s₂ hq => ?_) fun _ _ e => e
    obtain ⟨h', tk', nw', e, F', N', off', _, hn, hy⟩ := hq
    subst hn hy
    refine ⟨h', tk', _, e, F', N', off', hS, rfl, ?_⟩
    rw [show ns.take (i + 1) = ns.take i ++ [k] by simp [List.take_add_one, hk], List.map_append]
    exact bools_snoc hb
  · rintro ys nw ⟨rfl, hb⟩
    rw [List.size_toArray, hl, List.take_length] at hb
    exact fin ys hb
end
end Mine
namespace Mine
open PySem PySem.W PyProof.Rows
noncomputable def Cm (prog : Program) (w : World) (K : Frag) (p : Program) (loose : List Str) (mean : ExcName → Option Value) (mg mb : Str → Option Value) (f : Addr) (sz : Nat) (vs : List Value) (P : Heap → List (Addr × Obj) → Prop) (Out : Value → List (Addr × Obj) → Prop) : Prop :=
  ∀ (dp un : Nat) (gd : Option (List Code)) (cn : Str) (cs : Scope) (a : Addr) (ccd : Value) (cl : List (Str × Addr)) (outer : List Env) (A₀ : Around) (base h₀ : Heap) (L : Addr) (m : Str → Option Value) (news : List (Addr × Obj)) (s : Shared) (Q E : Value → Shared → Prop),
    Below A₀ base outer h₀ → Fr h₀ L s.heap m → K.In h₀ → News h₀ L s.heap news → Top p loose mean mg mb h₀ → cs.kind = .function → dp + sz < recursionLimit → un + 8 * sz < cLine → P h₀ news →
    (∀ (r : Value) (add : List (Addr × Obj)) (h' : Heap) (tk' : Nat), Out r add → (∀ p ∈ add, ∀ q ∈ news, q.1 ≠ p.1) → Fr h₀ L h' m → News h₀ L h' (add ++ news) → Q r { s with heap := h', toks := tk' }) →
    wpAny (model prog w) (ktrTop dp un gd cn cs L a ccd cl outer) (call (.ref f) vs) Q E s
theorem Cm.use {prog : Program} {w : World} {K : Frag} {p : Program} {loose : List Str} {mean : ExcName → Option Value} {mg mb : Str → Option Value} {f : Addr} {sz : Nat} {vs : List Value} {P : Heap → List (Addr × Obj) → Prop} {Out : Value → List (Addr × Obj) → Prop} (C : Cm prog w K p loose mean mg mb f sz vs P Out)
    {dp un : Nat} {gd : Option (List Code)} {cn : Str} {cs : Scope} {a : Addr} {ccd : Value} {cl : List (Str × Addr)} {outer : List Env} {A₀ : Around} {base h₀ : Heap} {L : Addr} {m : Str → Option Value} {news : List (Addr × Obj)} {s : Shared} {Q E : Value → Shared → Prop}
    (B : Below A₀ base outer h₀ := by k_asm) (F : Fr h₀ L s.heap m := by k_asm) (X : K.In h₀ := by k_asm) (N : News h₀ L s.heap news := by k_asm) (T : Top p loose mean mg mb h₀ := by k_asm) (hk : cs.kind = .function := by first | exact rfl | assumption) (hd : dp + sz < recursionLimit := by first | assumption | omega | ktr_room) (hu : un + 8 * sz < cLine := by first | assumption | omega | ktr_units) (hp : P h₀ news := by first | trivial | k_mem)
    (ret : ∀ (r : Value) (add : List (Addr × Obj)) (h' : Heap) (tk' : Nat), Out r add → (∀ p ∈ add, ∀ q ∈ news, q.1 ≠ p.1) → Fr h₀ L h' m → News h₀ L h' (add ++ news) → Q r { s with heap := h', toks := tk' }) :
    wpAny (model prog w) (ktrTop dp un gd cn cs L a ccd cl outer) (call (.ref f) vs) Q E s := C _ _ _ _ _ _ _ _ _ _ _ _ _ _ _ _ _ _ B F X N T hk hd hu hp ret
noncomputable def TextsAt (L : List (Addr × Obj)) (D : Addr) (n k : Nat) : Prop := ∃ ys xs, (D, LCg.lst ys) ∈ L ∧ StrsAre ys xs ∧ xs.length = k ∧ ∀ x ∈ xs, x.length ≤ n ∧ PyData.strOk x = true
theorem TextsAt.mono {L L' : List (Addr × Obj)} {D : Addr} {n k : Nat} (h : TextsAt L D n k) (hs : ∀ p ∈ L, p ∈ L') : TextsAt L' D n k := by
  obtain ⟨ys, xs, hm, r⟩ := h
  exact ⟨ys, xs, hs _ hm, r⟩
theorem da_cons {nw : List (Addr × Obj)} {vs : List Value} {d : Dat} {ds : List Dat} (h : DatAll nw vs (d :: ds)) : ∃ v r, vs = v :: r ∧ DatIn nw v d ∧ DatAll nw r ds := by
  cases h with
  | cons a r => exact ⟨_, _, rfl, a, r⟩
theorem da_nil {nw : List (Addr × Obj)} {vs : List Value} (h : DatAll nw vs []) : vs = [] := by
  cases h; rfl
theorem di_int {nw : List (Addr × Obj)} {v : Value} {a : Int} (h : DatIn nw v (.int a)) : ∃ t, v = .int a t := by
  cases h; exact ⟨_, rfl⟩
theorem di_str {nw : List (Addr × Obj)} {v : Value} {x : Str} (h : DatIn nw v (.str x)) : ∃ t, v = .str x t := by
  cases h; exact ⟨_, rfl⟩
theorem da_ints {nw : List (Addr × Obj)} {vs : List Value} {a : Int} {ds : List Dat} (h : DatAll nw vs (.int a :: ds)) : ∃ t r, vs = .int a t :: r ∧ DatAll nw r ds := by
  obtain ⟨v, r, rfl, h1, h2⟩ := da_cons h
  obtain ⟨t, rfl⟩ := di_int h1
  exact ⟨t, r, rfl, h2⟩
theorem dat_letter {nw : List (Addr × Obj)} {v : Value} {x : Str} {a b c d : Int} (h : DatIn nw v (.tuple [.str x, .int a, .int b, .int c, .int d])) : ∃ ad n t t1 t2 t3 t4, v = .ref ad ∧ (ad, ({ cls := .type "tuple", data := .seq #[.str x t, .int a t1, .int b t2, .int c t3, .int d t4] n } : Obj)) ∈ nw := by
  cases h with
  | tuple hm r =>
    obtain ⟨v, r0, rfl, h1, q0⟩ := da_cons r
    obtain ⟨t, rfl⟩ := di_str h1
    obtain ⟨t1, r1, rfl, q1⟩ := da_ints q0
    obtain ⟨t2, r2, rfl, q2⟩ := da_ints q1
    obtain ⟨t3, r3, rfl, q3⟩ := da_ints q2
    obtain ⟨t4, r4, rfl, q4⟩ := da_ints q3
    obtain rfl := da_nil q4
    exact ⟨_, _, t, t1, t2, t3, t4, rfl, hm⟩
theorem dat_at {nw : List (Addr × Obj)} {vs : List Value} {ds : List Dat} (h : DatAll nw vs ds) {i : Nat} {v : Value} (hv : vs[i]? = some v) : ∃ d, ds[i]? = some d ∧ d ∈ ds ∧ DatIn nw v d := by
  have hl := h.length
  have hi : i < ds.length := by
    rw [← hl]
    exact (List.getElem?_eq_some_iff.mp hv).1
  obtain ⟨u, hu, hd⟩ := h.get hi
  rw [hv] at hu
  cases hu
  exact ⟨ds[i], List.getElem?_eq_getElem hi, List.getElem_mem hi, hd⟩
theorem sub_three {α : Type} {x y z : α} {add nw : List α} : ∀ p ∈ x :: y :: z :: (add ++ nw), p ∈ add ++ x :: y :: z :: nw := fun p hp => by
  simp only [List.mem_cons, List.mem_append] at hp ⊢
  rcases hp with h | h | h | h | h
  · exact .inr (.inl h)
  · exact .inr (.inr (.inl h))
  · exact .inr (.inr (.inr (.inl h)))
  · exact .inl h
  · exact .inr (.inr (.inr (.inr h)))
theorem off_three {I C D : Addr} {oI oC oD : Obj} {add nw : List (Addr × Obj)} (off : LCg.Off3 I C D nw) (hlt : ∀ p ∈ add, ∀ q ∈ (I, oI) :: (C, oC) :: (D, oD) :: nw, q.1 ≠ p.1) : LCg.Off3 I C D (add ++ nw) :=
  LCg.Off3.of fun p hp => by
    rcases List.mem_append.mp hp with h | h
    · exact ⟨Ne.symm (hlt p h _ (.head _)), Ne.symm (hlt p h _ (.tail _ (.head _))), Ne.symm (hlt p h _ (.tail _ (.tail _ (.head _))))⟩
    · exact off.mem p h
theorem off1_mem {D : Addr} : ∀ {l : List (Addr × Obj)}, LCg.Off1 D l → ∀ p ∈ l, p.1 ≠ D
  | [], _, _, h => nomatch h
  | _ :: _, x, p, h => by
    rcases List.mem_cons.mp h with rfl | h
    · exact x.1
    · exact off1_mem x.2 p h
theorem allLt_mem {d : Addr} : ∀ {l : List (Addr × Obj)}, AllLt d l → ∀ p ∈ l, p.1 < d
  | [], _, _, h => nomatch h
  | _ :: _, x, p, h => by
    rcases List.mem_cons.mp h with rfl | h
    · exact x.1
    · exact allLt_mem x.2 p h
theorem ne_above {d e : Nat} {l : List (Addr × Obj)} (h : ∀ p ∈ l, p.1 < d) (hle : d ≤ e) : ∀ p ∈ l, p.1 ≠ e := fun p hp q => by
  have := h p hp
  rw [q] at this
  exact Nat.lt_irrefl _ (Nat.lt_of_lt_of_le this hle)
end Mine
namespace Mine
open PySem PySem.W PyProof.Rows PyProof.Rows.LCg
theorem rest_each {prog : Program} {w : World} {A : Around} {s : Shared} {h₀ : Heap} {L : Addr} {m : Str → Option Value} {env : Env} {elt : Expr} {x : Str} {scope : Scope} {cl : List (Str × Addr)} {S : List (Addr × Obj) → Prop} {P : Nat → Value → Prop} {Fin : List Value → List (Addr × Obj) → Prop} {n : Nat} {news : List (Addr × Obj)}
    (V : Value → Prop) (hS : S news)
    (turn : ∀ i ys v I oI C oC D m₂ h tk (E' : Value → Shared → Prop), i < n → P i v → NsObj oC m₂ → m₂ x = some v → Fr h₀ L h m → News h₀ L h ((I, oI) :: (C, oC) :: (D, lst ys) :: news) → Off3 I C D news → ((@Ne Nat I C) ∧ (@Ne Nat I D) ∧ (@Ne Nat C D)) →
      wpAny (model prog w) A (eval elt (compEnvC scope cl C env)) (CompTurn h₀ L m { s with heap := h, toks := tk } I oI C oC D (lst ys) (fun _ => True) (fun y nw' => nw' = news ∧ V y)) E' { s with heap := h, toks := tk })
    (fin : ∀ ys, ys.length = n → (∀ v ∈ ys, V v) → Fin ys news) : CompRest prog w A h₀ L m env elt x scope cl s S P Fin n 0 [] news := by
  refine rest_inv (fun i ys nw => nw = news ∧ ys.length = i ∧ ∀ v ∈ ys, V v) ⟨rfl, rfl, fun _ h => nomatch h⟩ ?_ ?_
  · rintro i ys nw v I oI C oC D m₂ h tk E' hi ⟨rfl, hl, hb⟩ hv hC hx F N off ne
    refine wpAny_mono (turn i ys v I oI C oC D m₂ h tk E' hi hv hC hx F N off ne) (fun y s₂ hq => ?_) fun _ _ e => e
    obtain ⟨h', tk', nw', e, F', N', off', _, hn, hy⟩ := hq
    subst hn
    refine ⟨h', tk', _, e, F', N', off', hS, rfl, by rw [List.length_append, List.length_singleton, hl], fun u hu => ?_⟩
    rcases List.mem_append.mp hu with hu | hu
    · exact hb u hu
    · rw [List.mem_singleton.mp hu]; exact hy
  · rintro ys nw ⟨rfl, hl, hb⟩
    exact fin ys hl hb
theorem texts_of {n : Nat} : ∀ {ys : List Value}, (∀ v ∈ ys, TextLe n v) → ∃ xs, StrsAre ys xs ∧ xs.length = ys.length ∧ ∀ x ∈ xs, x.length ≤ n ∧ PyData.strOk x = true
  | [], _ => ⟨[], .nil, rfl, fun _ h => nomatch h⟩
  | v :: r, h => by
    obtain ⟨x, t, e, hl⟩ := h v (.head _)
    subst e
    obtain ⟨xs, hs, hn, hb⟩ := texts_of (ys := r) fun u hu => h u (.tail _ hu)
    refine ⟨x :: xs, .cons x t hs, by rw [List.length_cons, List.length_cons, hn], fun y hy => ?_⟩
    rcases List.mem_cons.mp hy with rfl | hy
    · exact hl
    · exact hb y hy
theorem fdiv_b {i : Nat} (h : i < 42) : 0 ≤ Int.fdiv (0 + (i : Int)) 26 ∧ Int.fdiv (0 + (i : Int)) 26 < 2 := by
  rw [Int.fdiv_eq_ediv_of_nonneg _ (by decide)]; omega
theorem fmod11 (c : Int) : 0 ≤ c.fmod 11 ∧ c.fmod 11 < 11 := ⟨Int.fmod_nonneg_of_pos c (by decide), Int.fmod_lt_of_pos c (by decide)⟩
theorem name_ok {x y z : Str} {c : Int} {l u : Option Int} {l' u' : Option Int} {i : Int} {t : Tok} (hx : x.length ≤ (c.fmod 11).toNat) (ox : PyData.strOk x = true) (oy : PyData.strOk y = true) (hz : z.length ≤ 1 ∧ PyData.strOk z = true) :
    TextLe 24 (.str (Txt.slice x l u ++ Txt.item y i ++ z ++ Txt.slice x l' u') t) := by
  have hc := fmod11 c
  have h1 := Txt.slice_le x l u
  have h2 := Txt.slice_le x l' u'
  refine textLe_of ?_ (strOk_append (strOk_append (strOk_append (strOk_slice ox _ _) (strOk_item oy _)) hz.2) (strOk_slice ox _ _))
  rw [Str.length_append, Str.length_append, Str.length_append, len_item1]
  omega
noncomputable def LetterOk (d : Dat) : Prop := ∃ x se ba lo hi, d = .tuple [.str x, .int se, .int ba, .int lo, .int hi] ∧ (x.length ≤ 24 ∧ PyData.strOk x = true) ∧ (0 ≤ se ∧ se ≤ ba ∧ ba ≤ 2000000000000) ∧ 0 ≤ lo ∧ lo ≤ hi ∧ hi ≤ 2000000000000
theorem letter_dat {L : List (Addr × Obj)} {a : Addr} {n : Nat} {x : Str} {se ba lo hi : Int} {t t1 t2 t3 t4 : Tok} (hm : (a, ({ cls := .type "tuple", data := .seq #[.str x t, .int se t1, .int ba t2, .int lo t3, .int hi t4] n } : Obj)) ∈ L)
    (hx : x.length ≤ 24 ∧ PyData.strOk x = true) (h1 : 0 ≤ se ∧ se ≤ ba ∧ ba ≤ 2000000000000) (h2 : 0 ≤ lo ∧ lo ≤ hi ∧ hi ≤ 2000000000000) : ∃ d, DatIn L (.ref a) d ∧ LetterOk d :=
  ⟨_, .tuple (vs := [.str x t, .int se t1, .int ba t2, .int lo t3, .int hi t4]) hm (.cons (.str _ _) (.cons (.int _ _) (.cons (.int _ _) (.cons (.int _ _) (.cons (.int _ _) .nil))))), x, se, ba, lo, hi, rfl, hx, h1, h2⟩
theorem item_name {prog : Program} {w : World} {A : Around} {E : Value → Shared → Prop} {s : Shared} {value slice : PySem.Expr} {h₀ : Heap} {L l : Addr} {news : List (Addr × Obj)} {ys : List Value} {xs : List Str} {k : Int} {u : Tok} {Q : Value → Shared → Prop} (N : News h₀ L s.heap news) (hm : (l, LCg.lst ys) ∈ news) (hs : StrsAre ys xs)
    (h0 : 0 ≤ k ∧ k < (xs.length : Int)) (hfit : k < 2 ^ 63) (h : ∀ x t, x ∈ xs → Q (.str x t) s)
    (hq : subscripted slice false (.ref l) (.int k u) = operate [.ref l, .int k u] (getItem (.ref l) (.int k u)) := by with_unfolding_all rfl) :
    wpAny (model prog w) A (subscriptTail value slice (.ref l) (.int k u)) Q E s :=
  KTb.item_list (News.isList N hm) hs h0.1 h0.2 hfit (fun t hlt => h _ t (by rw [List.getD_eq_getElem?_getD, List.getElem?_eq_getElem hlt, Option.getD_some]; exact List.getElem_mem hlt)) hq
theorem item_bd {prog : Program} {w : World} {A : Around} {E : Value → Shared → Prop} {s : Shared} {value slice : PySem.Expr} {l : Addr} {vs : List Value} {ns : List Int} {k : Int} {u : Tok} {Q : Value → Shared → Prop} (lo hi : Int) (hl : s.heap.IsList l vs.toArray) (hi' : IntsAre vs ns) (hb : ∀ n ∈ ns, lo ≤ n ∧ n ≤ hi)
    (h0 : 0 ≤ k ∧ k < (ns.length : Int)) (hfit : k < 2 ^ 63) (h : ∀ t x, (lo ≤ x ∧ x ≤ hi) → Q (.int x t) s)
    (hs : subscripted slice false (.ref l) (.int k u) = operate [.ref l, .int k u] (getItem (.ref l) (.int k u)) := by with_unfolding_all rfl) :
    wpAny (model prog w) A (subscriptTail value slice (.ref l) (.int k u)) Q E s := by
  have hlt : k.toNat < ns.length := by omega
  obtain ⟨t, hx⟩ := hi'.get k.toNat ns[k.toNat] (List.getElem?_eq_getElem hlt)
  exact tail_any hl.typeIs slot_list_getitem.lookup (wpAny_getItem_list hl h0.1 hfit (by simpa using hx) (h t _ (hb _ (List.getElem_mem hlt)))) hs
theorem letter_ret {h₀ h' : Heap} {L : Addr} {m : Str → Option Value} {news rest : List (Addr × Obj)} {s : Shared} {Q : Value → Shared → Prop} {tk' : Nat} {D : Addr} {n : Nat} {x : Str} {se ba lo hi : Int} {t t1 t2 t3 t4 : Tok}
    (hret : ∀ (r : Value) (add : List (Addr × Obj)) (h' : Heap) (tk' : Nat), (∃ d, DatIn add r d ∧ LetterOk d) → (∀ p ∈ add, ∀ q ∈ news, q.1 ≠ p.1) → Fr h₀ L h' m → News h₀ L h' (add ++ news) → Q r { s with heap := h', toks := tk' })
    (N : News h₀ L h' ((D, ({ cls := .type "tuple", data := .seq #[.str x t, .int se t1, .int ba t2, .int lo t3, .int hi t4] n } : Obj)) :: rest)) (F : Fr h₀ L h' m) (sub : ∀ p ∈ news, p ∈ rest) (lt : AllLt D news)
    (hx : x.length ≤ 24 ∧ PyData.strOk x = true) (h1 : 0 ≤ se ∧ se ≤ ba ∧ ba ≤ 2000000000000) (h2 : 0 ≤ lo ∧ lo ≤ hi ∧ hi ≤ 2000000000000) : Q (.ref D) { s with heap := h', toks := tk' } := by
  refine hret (.ref D) [(D, ({ cls := .type "tuple", data := .seq #[.str x t, .int se t1, .int ba t2, .int lo t3, .int hi t4] n } : Obj))] h' tk' (letter_dat (.head _) hx h1 h2) (fun p hp q hq => ?_) F fun p hp => ?_
  · rw [List.mem_singleton.mp hp]
    exact Nat.ne_of_lt (allLt_mem lt q hq)
  · rcases List.mem_append.mp hp with hp | hp
    · rw [List.mem_singleton.mp hp]; exact N _ (.head _)
    · exact N p (.tail _ (sub p hp))
theorem fmb (a b : Int) (h : 0 < b) : 0 ≤ a.fmod b ∧ a.fmod b < b := ⟨Int.fmod_nonneg_of_pos a h, Int.fmod_lt_of_pos a h⟩
end Mine
local macro_rules | `(tactic| k_all) => `(tactic| first | assumption | exact Mine.ne_above (by assumption) (by omega))
local macro_rules | `(tactic| k_mem) => `(tactic| ((repeat (first | assumption | refine List.Mem.tail _ ?_)); done))
namespace Mine
theorem c_names (w : World) (mean : ExcName → Option Value) (mg mb : Str → Option Value) (c : Int) (tc : Tok) (hc : CellOk c ∧ (0 : Int) ≤ 0) :
    Cm PySem.Challenge.rw_uf050027_12.row.prog w (k12.heap_1 w.params) vw12 (looseW vw12 []) mean mg mb 228 3 [.int c tc] (fun _ _ => True) (fun r L => ∃ D, r = .ref D ∧ TextsAt L D 24 42) := by
  unfold Cm
  k_fill
  w_top off
  intro dp un gd cn cs a ccd cl outer A₀ base h₀ L m news s Q E B F X N T hk hd hu hP hret
  refine wpAny_call ?_
  k_dflt (refine' code_defC ?k1 ?k2 ?k3 ?k4 ?k5 ?kA ?kF ?kK ?k6 ?k7 ?k8 ?k9 ?kB ?kD ?_ ?c2 ?c3 ?c4; (case kA => exact rfl); (case kF => exact rfl); (case kK => assumption); (case k1 => k_asm); (case k2 => k_asm); (case k3 => k_asm); (case k4 => k_asm); (case k5 => k_asm); (case k6 => k_is); (case k7 => k_is); (case k8 => ktr_room); (case k9 => exact BindsTo.of_eq rfl); (case kB => exact rfl); (case kD => decide +kernel); (case c2 => exact rfl); (case c3 => exact rfl); (case c4 => exact rfl); k_whole; intro g' L' h' tk' cells' FG' F' N' Y' B' X' T' l1; (try k_lt l1); k_cells Y'; (try simp only [List.cons_append, List.nil_append] at N'); (try dsimp only); (try k_lift B'); (try k_fold))
  k_with_none
  k_with "call ref" => (k_here; (with_reducible show wpAny _ _ (call (Value.ref 202) _) _ _ _); k_dflt (refine Mine.Ct.use (Mine.c_lmix _ _ _ _ _ _ _ _) (ret := ?_)); intro t9 h9 tk9 P9 F9 N9; (try dsimp only); (try k_fold))
  k_with "call ref" => (k_here; (with_reducible show wpAny _ _ (call (Value.ref 209) _) _ _ _); k_dflt (refine Mine.Ct.use (Mine.c_lbig _ _ _ _ _ _ _ _) (ret := ?_)); intro t9 h9 tk9 P9 F9 N9; (try dsimp only); (try k_fold))
  k_with "call ref" => (k_here; (with_reducible show wpAny _ _ (call (Value.ref 223) _) _ _ _); k_dflt (refine Mine.Cv.use (Mine.c_word _ _ _ _ _ _ _ _) (ret := ?_)); intro r9 h9 tk9 ho9 F9 N9; k_dflt ((obtain ⟨x9, v9, e9, hl9, hs9⟩ := ho9); subst e9); (try dsimp only); (try k_fold))
  k_with "eval ListComp" => (k_here; k_dflt (refine Mine.ListComp_V (by k_asm) (by with_unfolding_all rfl) (by decide) (by rfl) (by decide) (by rfl) ?_))
  k_steps
  refine SrcU.range (n := 42) (by rfl) (by k_asm) (by k_asm) (by assumption) (by decide) (by rfl) (by decide) ?_
  intro g9
  refine rest_each (TextLe 24) trivial ?_ ?_
  · intro i ys v I oI C oC D m₂ h tk E' hi hv hC hx F' N' off ne
    obtain ⟨t9, rfl⟩ := hv
    k_with "subscriptTail List cons BinOp ref int" => (k_here; (with_reducible show wpAny _ _ (subscriptTail _ _ (Value.ref _) (Value.int _ _)) _ _ _); k_dflt (refine' Mine.item_texts 1 ?k1 ?k2 ?k3 ?k4 ?_; (case k1 => is_list); (case k2 => exact ⟨(Mine.fdiv_b hi).1, by simpa using (Mine.fdiv_b hi).2⟩); (case k3 => (have hb9 := (Mine.fdiv_b hi).2; omega)); (case k4 => exact Mine.textAll_cons (Mine.textLe_of (by decide) (by decide +kernel)) (Mine.textAll_cons (Mine.textLe_of (by decide) (by decide +kernel)) Mine.textAll_nil)); k_whole); intro z9 tz9 hz9)
    k_steps
    all_goals first | (refine CompTurn.intro (by k_asm) (by k_asm) _ ?cS ?cO trivial ⟨rfl, name_ok (by assumption) (by assumption) (by decide +kernel) (by assumption)⟩; (case cS => first | exact fun _ h => h | kst_inAny); (case cO => assumption))
  · intro ys hl hb
    obtain ⟨xs, hs, hn, hx⟩ := texts_of hb
    intro D h tk F' N' o1
    k_steps
    refine hret (.ref D) [(D, LCg.lst ys)] h tk ⟨D, rfl, ys, xs, .head _, hs, by rw [hn, hl], hx⟩ (fun p hp q hq => by rw [List.mem_singleton.mp hp]; exact off1_mem o1 q (.tail _ (.tail _ (.tail _ hq)))) (by k_asm) ?_
    rename News h₀ L _ _ => kN9
    intro p hp
    refine kN9 p ?_
    rcases List.mem_append.mp hp with hp | hp
    · rw [List.mem_singleton.mp hp]; exact .head _
    · exact .tail _ (.tail _ (.tail _ (.tail _ hp)))

end Mine
namespace Mine
open PySem PySem.W PyProof.Rows
theorem two_of {v : List Value} {n : List Int} {a b : Int} (hi : IntsAre v n) (hp : n.Perm [a, b]) (hb : (n.getD (Int.toNat 0) 0 = a ∨ n.getD (Int.toNat 0) 0 = b) ∧ n.getD (Int.toNat 0) 0 ≤ a ∧ n.getD (Int.toNat 0) 0 ≤ b) :
    ∃ x y t u, v = [.int x t, .int y u] ∧ n = [x, y] ∧ (x = a ∧ y = b ∨ x = b ∧ y = a) ∧ x ≤ y := by
  have hl := hp.length_eq
  cases hi with
  | nil => simp at hl
  | cons x t r =>
    cases r with
    | nil => simp at hl
    | cons y u r =>
      cases r with
      | cons z _ _ => simp at hl
      | nil =>
        have hb' : (x = a ∨ x = b) ∧ x ≤ a ∧ x ≤ b := hb
        have hm : (x = a ∧ y = b) ∨ (x = b ∧ y = a) := by
          rcases hb'.1 with e | e
          · subst e
            exact .inl ⟨rfl, by simpa using (List.perm_cons x).mp hp⟩
          · subst e
            have := (List.perm_cons x).mp (hp.trans (List.Perm.swap x a []))
            exact .inr ⟨rfl, by simpa using this⟩
        refine ⟨x, y, t, u, rfl, rfl, hm, ?_⟩
        rcases hm with ⟨_, e⟩ | ⟨_, e⟩ <;> rw [e]
        · exact hb'.2.2
        · exact hb'.2.1
end Mine
namespace Mine
open PySem PySem.W PyProof.Rows
theorem item_four {prog : Program} {w : World} {A : Around} {E : Value → Shared → Prop} {s : Shared} {value slice : PySem.Expr} {l : Addr} {vs : List Value} {a b c d : Int} {k : Int} {u : Tok} {Q : Value → Shared → Prop} (hl : s.heap.IsList l vs.toArray) (hi : IntsAre vs [a, b, c, d])
    (h0 : 0 ≤ k ∧ k < 4) (h : ∀ t x, (x = a ∨ x = b ∨ x = c ∨ x = d) → Q (.int x t) s)
    (hs : subscripted slice false (.ref l) (.int k u) = operate [.ref l, .int k u] (getItem (.ref l) (.int k u)) := by with_unfolding_all rfl) :
    wpAny (model prog w) A (subscriptTail value slice (.ref l) (.int k u)) Q E s := by
  obtain ⟨t, hx⟩ := hi.get k.toNat _ (ints_getD h0.1 (by simpa using h0.2))
  refine tail_any hl.typeIs slot_list_getitem.lookup (wpAny_getItem_list hl h0.1 (by omega) (by simpa using hx) (h t _ ?_)) hs
  rcases (show k = 0 ∨ k = 1 ∨ k = 2 ∨ k = 3 by omega) with e | e | e | e <;> subst e <;> simp
end Mine
namespace Mine
open PySem PySem.W PyProof.Rows PySem.Calls
theorem fr_same {h₀ h : Heap} {L : Addr} {m : Str → Option Value} {x : Str} {v : Value} (F : Fr h₀ L h m) (hx : m x = some v) : Fr h₀ L h (fun z => if z = x then some v else m z) := by
  have e : (fun z => if z = x then some v else m z) = m := funext fun z => by
    by_cases q : z = x
    · rw [if_pos q, q, hx]
    · rw [if_neg q]
  rw [e]; exact F
theorem fr_same2 {h₀ h : Heap} {L : Addr} {m : Str → Option Value} {x y : Str} {v u : Value} (F : Fr h₀ L h m) (hy : m y = some u) (hx : m x = some v) : Fr h₀ L h (fun z => if z = y then some u else if z = x then some v else m z) := by
  have e : (fun z => if z = y then some u else if z = x then some v else m z) = m := funext fun z => by
    by_cases q : z = y
    · rw [if_pos q, q, hy]
    · rw [if_neg q]
      by_cases q : z = x
      · rw [if_pos q, q, hx]
      · rw [if_neg q]
  rw [e]; exact F
noncomputable def IfEnd (h₀ : Heap) (L : Addr) (x : Str) (m : Str → Option Value) (news : List (Addr × Obj)) (P : Int → Prop) (s₁ : Shared) (fl : Flow) (s₂ : Shared) : Prop :=
  fl = .next ∧ ∃ h' tk' v t, s₂ = { s₁ with heap := h', toks := tk' } ∧ Fr h₀ L h' (fun z => if z = x then some (.int v t) else m z) ∧ News h₀ L h' news ∧ P v
noncomputable def IfEnd2 (h₀ : Heap) (L : Addr) (x y : Str) (m : Str → Option Value) (news : List (Addr × Obj)) (P : Int → Int → Prop) (s₁ : Shared) (fl : Flow) (s₂ : Shared) : Prop :=
  fl = .next ∧ ∃ h' tk' v t u r, s₂ = { s₁ with heap := h', toks := tk' } ∧ Fr h₀ L h' (fun z => if z = y then some (.int u r) else if z = x then some (.int v t) else m z) ∧ News h₀ L h' news ∧ P v u
theorem If_cut2 {prog : Program} {w : World} {A : Around} {E : Value → Shared → Prop} {s : Shared} {env : Env} {st : Stmt} {Q : Flow → Shared → Prop} {h₀ : Heap} {L : Addr} {m : Str → Option Value} {news : List (Addr × Obj)} (x y : Str) (P : Int → Int → Prop) (_F : Fr h₀ L s.heap m) (_N : News h₀ L s.heap news)
    (h1 : wpAny (model prog w) A (exec st env) (IfEnd2 h₀ L x y m news P s) E s) (h2 : ∀ h' tk' v t u r, Fr h₀ L h' (fun z => if z = y then some (.int u r) else if z = x then some (.int v t) else m z) → News h₀ L h' news → P v u → Q .next { s with heap := h', toks := tk' }) :
    wpAny (model prog w) A (exec st env) Q E s :=
  wpAny_mono h1 (fun fl s' q => by
    obtain ⟨rfl, h', tk', v, t, u, r, rfl, F', N', p⟩ := q
    exact h2 h' tk' v t u r F' N' p) fun _ _ e => e
theorem IfEnd2.set {h₀ h' : Heap} {L : Addr} {x y : Str} {m : Str → Option Value} {news all : List (Addr × Obj)} {P : Int → Int → Prop} {s₁ : Shared} {tk' : Nat} {v u : Int} {t r : Tok} (F : Fr h₀ L h' (fun z => if z = y then some (.int u r) else if z = x then some (.int v t) else m z)) (N : News h₀ L h' all) (sub : ∀ p ∈ news, p ∈ all) (p : P v u) :
    IfEnd2 h₀ L x y m news P s₁ .next { s₁ with heap := h', toks := tk' } := ⟨rfl, h', tk', v, t, u, r, rfl, F, fun q hq => N q (sub q hq), p⟩
theorem IfEnd2.same {h₀ h' : Heap} {L : Addr} {x y : Str} {m : Str → Option Value} {news all : List (Addr × Obj)} {P : Int → Int → Prop} {s₁ : Shared} {tk' : Nat} {v u : Int} {t r : Tok} (F : Fr h₀ L h' m) (N : News h₀ L h' all) (sub : ∀ p ∈ news, p ∈ all) (hy : m y = some (.int u r)) (hx : m x = some (.int v t)) (p : P v u) :
    IfEnd2 h₀ L x y m news P s₁ .next { s₁ with heap := h', toks := tk' } := ⟨rfl, h', tk', v, t, u, r, rfl, fr_same2 F hy hx, fun q hq => N q (sub q hq), p⟩
theorem IfEnd.set {h₀ h' : Heap} {L : Addr} {x : Str} {m : Str → Option Value} {news all : List (Addr × Obj)} {P : Int → Prop} {s₁ : Shared} {tk' : Nat} {v : Int} {t : Tok} (F : Fr h₀ L h' (fun z => if z = x then some (.int v t) else m z)) (N : News h₀ L h' all) (sub : ∀ p ∈ news, p ∈ all) (p : P v) :
    IfEnd h₀ L x m news P s₁ .next { s₁ with heap := h', toks := tk' } := ⟨rfl, h', tk', v, t, rfl, F, fun q hq => N q (sub q hq), p⟩
theorem IfEnd.same {h₀ h' : Heap} {L : Addr} {x : Str} {m : Str → Option Value} {news all : List (Addr × Obj)} {P : Int → Prop} {s₁ : Shared} {tk' : Nat} {v : Int} {t : Tok} (F : Fr h₀ L h' m) (N : News h₀ L h' all) (sub : ∀ p ∈ news, p ∈ all) (hx : m x = some (.int v t)) (p : P v) :
    IfEnd h₀ L x m news P s₁ .next { s₁ with heap := h', toks := tk' } := ⟨rfl, h', tk', v, t, rfl, fr_same F hx, fun q hq => N q (sub q hq), p⟩
end Mine
namespace Mine
open PySem PySem.W PyProof.Rows PySem.Calls
theorem fr_same3 {h₀ h : Heap} {L : Addr} {m : Str → Option Value} {x y q : Str} {v u w : Value} (F : Fr h₀ L h m) (hq : m q = some w) (hy : m y = some u) (hx : m x = some v) : Fr h₀ L h (fun z => if z = q then some w else if z = y then some u else if z = x then some v else m z) := by
  have e : (fun z => if z = q then some w else if z = y then some u else if z = x then some v else m z) = m := funext fun z => by
    by_cases e : z = q
    · rw [if_pos e, e, hq]
    · rw [if_neg e]
      by_cases e : z = y
      · rw [if_pos e, e, hy]
      · rw [if_neg e]
        by_cases e : z = x
        · rw [if_pos e, e, hx]
        · rw [if_neg e]
  rw [e]; exact F
noncomputable def IfEnd3 (h₀ : Heap) (L : Addr) (x y q : Str) (m : Str → Option Value) (news : List (Addr × Obj)) (P : Int → Int → Int → Prop) (s₁ : Shared) (fl : Flow) (s₂ : Shared) : Prop :=
  fl = .next ∧ ∃ h' tk' v t u r b c, s₂ = { s₁ with heap := h', toks := tk' } ∧ Fr h₀ L h' (fun z => if z = q then some (.int b c) else if z = y then some (.int u r) else if z = x then some (.int v t) else m z) ∧ News h₀ L h' news ∧ P v u b
theorem If_cut3 {prog : Program} {w : World} {A : Around} {E : Value → Shared → Prop} {s : Shared} {env : Env} {st : Stmt} {Q : Flow → Shared → Prop} {h₀ : Heap} {L : Addr} {m : Str → Option Value} {news : List (Addr × Obj)} (x y q : Str) (P : Int → Int → Int → Prop) (_F : Fr h₀ L s.heap m) (_N : News h₀ L s.heap news)
    (h1 : wpAny (model prog w) A (exec st env) (IfEnd3 h₀ L x y q m news P s) E s) (h2 : ∀ h' tk' v t u r b c, Fr h₀ L h' (fun z => if z = q then some (.int b c) else if z = y then some (.int u r) else if z = x then some (.int v t) else m z) → News h₀ L h' news → P v u b → Q .next { s with heap := h', toks := tk' }) :
    wpAny (model prog w) A (exec st env) Q E s :=
  wpAny_mono h1 (fun fl s' q => by
    obtain ⟨rfl, h', tk', v, t, u, r, b, c, rfl, F', N', p⟩ := q
    exact h2 h' tk' v t u r b c F' N' p) fun _ _ e => e
theorem IfEnd3.set {h₀ h' : Heap} {L : Addr} {x y q : Str} {m : Str → Option Value} {news all : List (Addr × Obj)} {P : Int → Int → Int → Prop} {s₁ : Shared} {tk' : Nat} {v u b : Int} {t r c : Tok} (F : Fr h₀ L h' (fun z => if z = q then some (.int b c) else if z = y then some (.int u r) else if z = x then some (.int v t) else m z)) (N : News h₀ L h' all) (sub : ∀ p ∈ news, p ∈ all) (p : P v u b) :
    IfEnd3 h₀ L x y q m news P s₁ .next { s₁ with heap := h', toks := tk' } := ⟨rfl, h', tk', v, t, u, r, b, c, rfl, F, fun q hq => N q (sub q hq), p⟩
theorem IfEnd3.same {h₀ h' : Heap} {L : Addr} {x y q : Str} {m : Str → Option Value} {news all : List (Addr × Obj)} {P : Int → Int → Int → Prop} {s₁ : Shared} {tk' : Nat} {v u b : Int} {t r c : Tok} (F : Fr h₀ L h' m) (N : News h₀ L h' all) (sub : ∀ p ∈ news, p ∈ all) (hq : m q = some (.int b c)) (hy : m y = some (.int u r)) (hx : m x = some (.int v t)) (p : P v u b) :
    IfEnd3 h₀ L x y q m news P s₁ .next { s₁ with heap := h', toks := tk' } := ⟨rfl, h', tk', v, t, u, r, b, c, rfl, fr_same3 F hq hy hx, fun q hq => N q (sub q hq), p⟩
end Mine
namespace Mine
theorem c_letter (w : World) (mean : ExcName → Option Value) (mg mb : Str → Option Value) (c many : Int) (D : Addr) (tc tm : Tok) (hc : CellOk c ∧ 1 ≤ many ∧ many ≤ 42) :
    Cm PySem.Challenge.rw_uf050027_12.row.prog w (k12.heap_1 w.params) vw12 (looseW vw12 []) mean mg mb 235 3 [.int c tc, .ref D, .int many tm] (fun _ news => TextsAt news D 24 42) (fun r L => ∃ d, DatIn L r d ∧ LetterOk d) := by
  unfold Cm
  k_fill
  w_top off
  intro dp un gd cn cs a ccd cl outer A₀ base h₀ L m news s Q E B F X N T hk hd hu hP hret
  obtain ⟨ys, xs, hm, hs, hl, hx⟩ := hP
  refine wpAny_call ?_
  k_dflt cell_enter
  k_with_none
  k_with "call ref" => (k_here; (with_reducible show wpAny _ _ (call (Value.ref 202) _) _ _ _); k_dflt (refine Mine.Ct.use (Mine.c_lmix _ _ _ _ _ _ _ _) (ret := ?_)); intro t9 h9 tk9 P9 F9 N9; (try dsimp only); (try k_fold))
  k_with "call ref" => (k_here; (with_reducible show wpAny _ _ (call (Value.ref 209) _) _ _ _); k_dflt (refine Mine.Ct.use (Mine.c_lbig _ _ _ _ _ _ _ _) (ret := ?_)); intro t9 h9 tk9 P9 F9 N9; (try dsimp only); (try k_fold))
  k_with "call ref" => (k_here; (with_reducible show wpAny _ _ (call (Value.ref 223) _) _ _ _); k_dflt (refine Mine.Cv.use (Mine.c_word _ _ _ _ _ _ _ _) (ret := ?_)); intro r9 h9 tk9 ho9 F9 N9; k_dflt ((obtain ⟨x9, v9, e9, hl9, hs9⟩ := ho9); subst e9); (try dsimp only); (try k_fold))
  k_with "assign Tuple cons ref" => (k_here; (with_reducible rename List.Perm _ [_, _] => pmX); (obtain ⟨x9, y9, t9, u9, ev9, en9, hc9, hl9⟩ := Mine.two_of (by assumption) pmX (by assumption)); subst ev9; subst en9)
  k_with "subscriptTail List cons BinOp ref int" => (k_here; (with_reducible show wpAny _ _ (subscriptTail _ _ (Value.ref _) (Value.int _ _)) _ _ _); (try k_fmods); k_dflt (refine' Mine.item_four ?k1 ?k2 ?k3 ?_; (case k1 => is_list); (case k2 => l_ints); (case k3 => omega); k_whole); intro _ _ hFour)
  k_with "subscriptTail Name Name ref int" => (k_here; (with_reducible show wpAny _ _ (subscriptTail _ _ (Value.ref _) (Value.int _ _)) _ _ _); k_dflt (refine' Mine.item_name ?k1 ?k2 hs ?k3 ?k4 ?_; (case k1 => k_asm); (case k2 => (repeat (first | exact hm | refine List.Mem.tail _ ?_))); (case k3 => (have hb9 := Int.fmod_nonneg_of_pos (mix c 0) (show (0 : Int) < many by omega); have hb8 := Int.fmod_lt_of_pos (mix c 0) (show (0 : Int) < many by omega); omega)); (case k4 => (have hb8 := Int.fmod_lt_of_pos (mix c 0) (show (0 : Int) < many by omega); omega)); k_whole); intro x9 tx9 hx9)
  k_with "subscriptTail List cons BinOp ref int" => (k_here; (with_reducible show wpAny _ _ (subscriptTail _ _ (Value.ref _) (Value.int _ _)) _ _ _); (try k_fmods); k_dflt (first | (refine' Mine.item_bd 1 60 ?k1 ?k2 ?k3 ?k4 ?k5 ?_; (case k1 => is_list); (case k2 => l_ints); (case k3 => decide); (case k4 => (simp only [List.length_cons, List.length_nil]; omega)); (case k5 => omega); k_whole) | (refine' Mine.item_bd 0 600 ?k1 ?k2 ?k3 ?k4 ?k5 ?_; (case k1 => is_list); (case k2 => l_ints); (case k3 => decide); (case k4 => (simp only [List.length_cons, List.length_nil]; omega)); (case k5 => omega); k_whole)); intro t8 d9 hd9; (try (have hm9 := Int.fmod_nonneg_of_pos (mix c 2) (show (0 : Int) < d9 by omega); have hm8 := Int.fmod_lt_of_pos (mix c 2) (show (0 : Int) < d9 by omega))))
  k_with "exec If Compare cons nil" => (k_here; (rename Fr _ _ _ _ => iF7); (rename News _ _ _ _ => iN7); k_dflt (refine' Mine.If_cut3 (Str.ofString "_law_back") (Str.ofString "_law_low") (Str.ofString "_law_high") (fun v u r => (mix c 1).fmod 1000 ≤ v ∧ v ≤ 2000 ∧ 0 ≤ u ∧ u ≤ 2000000 ∧ 0 ≤ r ∧ r ≤ 2000000) iF7 iN7 ?ia1 ?ia2); (case' ia2 => (intro h7 tk7 ba7 tb7 lo7 tl7 hi7 th7 F7 N7 hq7)); (try (clear iF7 iN7)))
  k_with "exec If Compare cons nil" => (k_here; (have hg7 := hq7); (rename Fr _ _ _ _ => iF7); (rename News _ _ _ _ => iN7); k_dflt (refine' Mine.If_cut2 (Str.ofString "_law_low") (Str.ofString "_law_high") (fun v u => 0 ≤ v ∧ v ≤ u ∧ u ≤ 2000000000000) iF7 iN7 ?ib1 ?ib2); (case' ib2 => (intro h8 tk8 lo8 tl8 hi8 th8 F8 N8 hq8)); (try (clear iF7 iN7)))
  k_with "exec If Compare cons nil" => (k_here; (have hg8 := hq8); (rename Fr _ _ _ _ => iF7); (rename News _ _ _ _ => iN7); k_dflt (refine' Mine.If_cut2 (Str.ofString "_law_sent") (Str.ofString "_law_back") (fun v u => 0 ≤ v ∧ v ≤ u ∧ u ≤ 2000000000000) iF7 iN7 ?ic1 ?ic2); (case' ic2 => (intro h9 tk9 se9 ts9 ba9 tb9 F9 N9 hq9)); (try (clear iF7 iN7)))
  k_steps
  all_goals first | (k_dflt ((with_reducible show Mine.IfEnd3 _ _ _ _ _ _ _ _ _ _ _); (rename Fr _ _ _ _ => lF8); (rename News _ _ _ _ => lN8); first | (refine' Mine.IfEnd3.set lF8 lN8 ?eS ?eP; (case eS => (intro p9 hp9; (repeat (first | exact hp9 | refine List.Mem.tail _ ?_)))); (case eP => (have f1 := fmb (mix c 4) 80 (by decide); have f2 := fmb (mix c 4) 6 (by decide); have f3 := fmb (mix c 5) 100 (by decide); have f4 := fmb (mix c 5) 4 (by decide); have f5 := fmb (mix c 1) 1000 (by decide); omega))) | (refine' Mine.IfEnd3.same lF8 lN8 ?eS ?eQ ?eY ?eX ?eP; (case eS => (intro p9 hp9; (repeat (first | exact hp9 | refine List.Mem.tail _ ?_)))); (case eQ => first | exact rfl | exact if_pos rfl); (case eY => first | exact rfl | exact if_pos rfl); (case eX => first | exact rfl | exact if_pos rfl); (case eP => (have f1 := fmb (mix c 4) 80 (by decide); have f2 := fmb (mix c 4) 6 (by decide); have f3 := fmb (mix c 5) 100 (by decide); have f4 := fmb (mix c 5) 4 (by decide); have f5 := fmb (mix c 1) 1000 (by decide); omega))))) | (k_dflt ((with_reducible show Mine.IfEnd2 _ _ _ _ _ _ _ _ _ _); (rename Fr _ _ _ _ => lF8); (rename News _ _ _ _ => lN8); first | (refine' Mine.IfEnd2.set lF8 lN8 ?eS ?eP; (case eS => (intro p9 hp9; (repeat (first | exact hp9 | refine List.Mem.tail _ ?_)))); (case eP => (have f1 := fmb (mix c 4) 80 (by decide); have f2 := fmb (mix c 4) 6 (by decide); have f3 := fmb (mix c 5) 100 (by decide); have f4 := fmb (mix c 5) 4 (by decide); have f5 := fmb (mix c 1) 1000 (by decide); omega))) | (refine' Mine.IfEnd2.same lF8 lN8 ?eS ?eY ?eX ?eP; (case eS => (intro p9 hp9; (repeat (first | exact hp9 | refine List.Mem.tail _ ?_)))); (case eY => first | exact rfl | exact if_pos rfl); (case eX => first | exact rfl | exact if_pos rfl); (case eP => (have f1 := fmb (mix c 4) 80 (by decide); have f2 := fmb (mix c 4) 6 (by decide); have f3 := fmb (mix c 5) 100 (by decide); have f4 := fmb (mix c 5) 4 (by decide); have f5 := fmb (mix c 1) 1000 (by decide); omega))))) | (refine letter_ret hret (by assumption) (by k_asm) ?_ (by first | tbn_find | exact allLt_of (by assumption)) (hx _ (by assumption)) hq9 hq8; (intro p9 hp9; (repeat (first | exact hp9 | refine List.Mem.tail _ ?_))))
end Mine
namespace Mine
abbrev St := Int × Int
noncomputable def has (s : St) (p : Int) : Bool := decide (s.1 ≤ p) && decide (p ≤ s.2)
noncomputable def cnt : List St → Int → Int
  | [], _ => 0
  | s :: r, p => (if s.1 ≤ p ∧ p ≤ s.2 then 1 else 0) + cnt r p
noncomputable def chg : List St → Int → Int
  | [], _ => 0
  | s :: r, p => (if s.1 = p then 1 else 0) - (if s.2 + 1 = p then 1 else 0) + chg r p
noncomputable def edges : List St → List Int
  | [] => []
  | s :: r => s.1 :: (s.2 + 1) :: edges r
noncomputable def Rising : List Int → Prop
  | [] => True
  | [_] => True
  | a :: b :: r => a < b ∧ Rising (b :: r)
theorem Rising.tail {a : Int} {r : List Int} (h : Rising (a :: r)) : Rising r := by
  cases r with
  | nil => trivial
  | cons b r => exact h.2
theorem Rising.lt {a : Int} {r : List Int} (h : Rising (a :: r)) : ∀ b ∈ r, a < b := by
  induction r generalizing a with
  | nil => intro b hb; cases hb
  | cons c r ih =>
    intro b hb
    rcases List.mem_cons.mp hb with rfl | hb
    · exact h.1
    · have := ih h.2 b hb
      have := h.1
      omega
structure FewInv (S : List St) (done : List Int) (a : Int × Option Int) : Prop where
  nn : 0 ≤ a.1
  top : ∀ q ∈ done, cnt S q ≤ a.1
  pt : (a.1 = 0 ∧ a.2 = none) ∨ ∃ p ∈ done, a.2 = some p ∧ cnt S p = a.1 ∧ 0 < a.1 ∧ ∀ q ∈ done, q < p → cnt S q < a.1
noncomputable def Held (P : List St) (x : Int) : Prop := ∃ s ∈ P, s.1 ≤ x ∧ x ≤ s.2
noncomputable def Apart : List St → Prop
  | [] => True
  | s :: r => s.1 ≤ s.2 ∧ (∀ t ∈ r, s.2 + 1 < t.1) ∧ Apart r
theorem apart_cases {P : List St} (h : Apart P) : ∀ s ∈ P, ∀ t ∈ P, s = t ∨ s.2 + 1 < t.1 ∨ t.2 + 1 < s.1 := by
  induction P with
  | nil => intro s hs; cases hs
  | cons u r ih =>
    intro s hs t ht
    rcases List.mem_cons.mp hs with rfl | hs
    · rcases List.mem_cons.mp ht with rfl | ht
      · exact .inl rfl
      · exact .inr (.inl (h.2.1 t ht))
    · rename_i hs'
      rcases List.mem_cons.mp ht with h2 | h2
      · rw [h2]; exact .inr (.inr (h.2.1 s hs))
      · exact ih h.2.2 s hs t h2
theorem apart_le {P : List St} (h : Apart P) : ∀ s ∈ P, s.1 ≤ s.2 := by
  induction P with
  | nil => intro s hs; cases hs
  | cons u r ih =>
    intro s hs
    rcases List.mem_cons.mp hs with rfl | hs
    · exact h.1
    · exact ih h.2.2 s hs
theorem part_ends {S : List St} {need : Int} {P : List St} (hA : Apart P) (hH : ∀ x, Held P x ↔ need ≤ cnt S x) {s : St} (hs : s ∈ P) : cnt S (s.1 - 1) < need ∧ cnt S (s.2 + 1) < need := by
  have hle := apart_le hA s hs
  refine ⟨?_, ?_⟩
  · by_cases h : need ≤ cnt S (s.1 - 1)
    · obtain ⟨t, ht, h1, h2⟩ := (hH _).mpr h
      have := apart_le hA t ht
      rcases apart_cases hA s hs t ht with rfl | h | h <;> omega
    · omega
  · by_cases h : need ≤ cnt S (s.2 + 1)
    · obtain ⟨t, ht, h1, h2⟩ := (hH _).mpr h
      have := apart_le hA t ht
      rcases apart_cases hA s hs t ht with rfl | h | h <;> omega
    · omega
end Mine
namespace Mine
open PySem.W
structure Tab (S : List St) (c : List (Int × Int)) : Prop where
  nodup : (c.map (·.1)).Nodup
  keys : ∀ x, x ∈ c.map (·.1) ↔ x ∈ edges S
  look : ∀ k, kdfLook c k 0 = chg S k
  len : c.length ≤ 2 * S.length
theorem rising_of {l : List Int} (h : l.Pairwise (· ≤ ·)) (n : l.Nodup) : Rising l := by
  induction l with
  | nil => trivial
  | cons a r ih =>
    cases r with
    | nil => trivial
    | cons b r =>
      have h' := List.pairwise_cons.mp h
      have n' := List.nodup_cons.mp n
      refine ⟨?_, ih h'.2 n'.2⟩
      have h1 := h'.1 b (by simp)
      have h2 : a ≠ b := fun e => n'.1 (by rw [e]; simp)
      omega
structure Pts (S : List St) (pts : List Int) : Prop where
  rising : Rising pts
  mem : ∀ x, x ∈ pts ↔ x ∈ edges S
theorem Tab.pts {S : List St} {c : List (Int × Int)} (T : Tab S c) {pts : List Int} (p : pts.Perm (c.map (·.1))) (o : pts.Pairwise (· ≤ ·)) : Pts S pts :=
  ⟨rising_of o (p.nodup_iff.mpr T.nodup), fun x => (p.mem_iff).trans (T.keys x)⟩
end Mine
namespace Mine
structure PartOk (S : List St) (need : Int) (P : List St) : Prop where
  apart : Apart P
  held : ∀ x, Held P x ↔ need ≤ cnt S x
theorem PartOk.ends {S : List St} {need : Int} {P : List St} (h : PartOk S need P) {s : St} (hs : s ∈ P) : cnt S (s.1 - 1) < need ∧ cnt S (s.2 + 1) < need := part_ends h.apart h.held hs
theorem apart_mid {P Q : List St} {s t : St} (h : Apart (P ++ s :: Q)) (ht : t ∈ Q) : s.2 + 1 < t.1 := by
  induction P with
  | nil => exact h.2.1 t ht
  | cons p P ih => exact ih h.2.2
theorem PartOk.next {S : List St} {need : Int} {P A B : List St} {s t : St} (h : PartOk S need P) (e : P = A ++ [s] ++ t :: B) : s.2 + 1 < t.1 := by
  have := h.apart
  rw [e, List.append_assoc] at this
  exact apart_mid this (by simp)
end Mine
namespace Mine
open PySem PySem.W PyProof.Rows PyProof.Rows.LCg
theorem texts_one {h₀ h : Heap} {L D : Addr} {n k : Nat} {ad cells : List (Addr × Obj)} (ht : TextsAt ad D n k) (hn : ∀ p ∈ ad, ∀ q ∈ cells, q.1 ≠ p.1) (N : News h₀ L h (ad ++ cells)) :
    ∃ ys xs, News h₀ L h ((D, lst ys) :: cells) ∧ (∀ q ∈ cells, @Ne Nat q.1 D) ∧ StrsAre ys xs ∧ xs.length = k ∧ ∀ x ∈ xs, x.length ≤ n ∧ PyData.strOk x = true := by
  obtain ⟨ys, xs, hm, hs, hl, hx⟩ := ht
  refine ⟨ys, xs, fun p hp => ?_, fun q hq => hn _ hm q hq, hs, hl, hx⟩
  rcases List.mem_cons.mp hp with rfl | hp
  · exact N _ (List.mem_append.mpr (.inl hm))
  · exact N p (List.mem_append.mpr (.inr hp))
theorem cell_item {vs : List Value} {ns : List Int} {a b i : Nat} {v : Value} (hi : IntsAre vs (List.take a (List.drop b ns))) (hl : PyData.layable0 (.list (ns.map .int)) = true) (hv : vs.toArray[i]? = some v) : ∃ c t, v = .int c t ∧ CellOk c := by
  have hv' : vs[i]? = some v := by simpa using hv
  have hlt : i < (List.take a (List.drop b ns)).length := by
    rw [← hi.length]
    exact (List.getElem?_eq_some_iff.mp hv').1
  obtain ⟨t, hx⟩ := hi.get i _ (List.getElem?_eq_getElem hlt)
  rw [hv'] at hx
  cases hx
  exact ⟨_, t, rfl, cellOk_of (intBits_le_of_item (List.mem_of_mem_drop (List.mem_of_mem_take (List.getElem_mem hlt))) hl) (by decide)⟩
end Mine
namespace Mine
open PySem PySem.W PyProof.Rows PyProof.Rows.LCg
end Mine
namespace Mine
open PySem PySem.W PyProof.Rows PySem.Spec PySem.Calls
section
variable {prog : Program} {w : World} {A : Around} {E : Value → Shared → Prop} {s : Shared} {env : Env} {h₀ : Heap} {target : Expr} {body : List Stmt} {Q : Flow → Shared → Prop}
end
end Mine
namespace Mine
open PySem PySem.W PyProof.Rows
end Mine
namespace Mine
open PySem PySem.W PyProof.Rows
end Mine
namespace Mine
open PySem PySem.W PyProof.Rows
end Mine
namespace Mine
open PySem PySem.W PyProof.Rows PySem.Spec PySem.Calls
section
variable {prog : Program} {w : World} {A : Around} {E : Value → Shared → Prop} {s : Shared} {env : Env} {h₀ : Heap} {x : Str} {px : Pos} {body : List Stmt} {Q : Flow → Shared → Prop}
end
section
variable {prog : Program} {w : World} {A : Around} {E : Value → Shared → Prop} {s : Shared} {h₀ : Heap}
end
end Mine
namespace Mine
open PySem PySem.W PyProof.Rows
end Mine
namespace Mine
open PySem PySem.W PyProof.Rows
end Mine
namespace Mine
open PySem PySem.W PyProof.Rows
theorem list_up {h₀ g : Heap} {L S : Addr} {m : Str → Option Value} {xs : Array Value} (F : Fr h₀ L g m) (h : h₀.IsList S xs) : g.IsList S xs := by
  obtain ⟨o, e, c, n, d⟩ := h
  exact ⟨o, F.keep _ _ e, c, n, d⟩
end Mine
namespace Mine
open PySem PySem.W PyProof.Rows
theorem getD_out {ns : List Int} {k : Nat} (h : ns.length ≤ k) : ns.getD k 0 = 0 := by simp [List.getD, List.getElem?_eq_none h]
theorem int_out {ns : List Int} {k : Nat} {t : Tok} (h : ns.length ≤ k) : ∃ u, Value.int 0 t = Value.int (ns.getD k 0) u := ⟨t, by rw [getD_out h]⟩
end Mine
namespace Mine
open PySem PySem.W PyProof.Rows
section
variable {h₀ : Heap} {Q : Flow → Shared → Prop} {stored : List Str} {m₀ : Str → Option Value} {L I D T U : Addr} {o oT oU : Obj} {news add rest : List (Addr × Obj)} {R : Nat → Unit → List Dat → Prop} {i : Nat} {s₁ : Shared} {h' : Heap} {tk : Nat} {m' : Str → Option Value} {ys : List Value} {e : Nat} {ds : List Dat} {dd : Dat}
end
section
variable {prog : Program} {w : World} {A : Around} {E : Value → Shared → Prop} {s : Shared}
end
end Mine
namespace Mine
open PySem PySem.W PyProof.Rows
end Mine
namespace Mine
end Mine
namespace Mine
end Mine
namespace Mine
open PySem PySem.W PyProof.Rows PySem.Spec PySem.Calls
section
variable {prog : Program} {w : World} {A : Around} {E : Value → Shared → Prop} {s : Shared} {env : Env} {h₀ : Heap} {target : Expr} {body : List Stmt} {Q : Flow → Shared → Prop}
end
section
variable {h₀ : Heap} {Q : Flow → Shared → Prop} {stored : List Str} {m₀ : Str → Option Value} {L I D T ax : Addr} {o oT lo : Obj} {news add rest all : List (Addr × Obj)} {R : Nat → Unit → List Dat → Prop} {i : Nat} {s₁ : Shared} {h' : Heap} {tk : Nat} {m' : Str → Option Value} {ys : List Value} {e : Nat} {ds : List Dat} {dd : Dat}
end
end Mine
namespace Mine
open PySem PySem.W PyProof.Rows
end Mine
namespace Mine
open PySem PySem.W PyProof.Rows
end Mine
namespace Mine
open PySem PySem.W PyProof.Rows
end Mine
namespace Mine
open PySem PySem.W PyProof.Rows PySem.Spec PySem.Calls
section
variable {prog : Program} {w : World} {A : Around} {E : Value → Shared → Prop} {s : Shared} {env : Env} {h₀ : Heap} {target : Expr} {body : List Stmt} {Q : Flow → Shared → Prop}
end
end Mine
namespace Mine
open PySem PySem.W PyProof.Rows
end Mine
namespace Mine
open PySem PySem.W PyProof.Rows PyProof.Rows.LCg
end Mine
namespace Mine
open PySem PySem.W PyProof.Rows
end Mine
namespace Mine
end Mine
namespace Mine
open PySem PySem.W PyProof.Rows
end Mine
namespace Mine
open PySem PySem.W PyProof.Rows PySem.Spec PySem.Calls
section
variable {prog : Program} {w : World} {A : Around} {E : Value → Shared → Prop} {s : Shared} {env : Env} {h₀ : Heap} {target : Expr} {body : List Stmt} {Q : Flow → Shared → Prop}
end
end Mine
namespace Mine
open PySem PySem.W PyProof.Rows PySem.Spec PySem.Calls PyProof.Rows.LCg PyProof.Rows.LCt
section
variable {prog : Program} {w : World} {A : Around} {E : Value → Shared → Prop} {s : Shared} {h₀ : Heap} {L : Addr} {m : Str → Option Value} {env : Env}
noncomputable def SrcUT (prog : Program) (w : World) (A : Around) (h₀ : Heap) (L : Addr) (m : Str → Option Value) (env : Env) (ct elt : Expr) (x : Str) (scope : Scope) (cl : List (Str × Addr)) (Fin : Shared → List Value → List (Addr × Obj) → Prop) (xv : Value) (s₁ : Shared) : Prop :=
  CompSrcT prog w A h₀ L m env ct elt x scope cl Fin xv s₁
theorem SrcUT.ledger {ct elt : Expr} {x : Str} {scope : Scope} {cl : List (Str × Addr)} {Fin : Shared → List Value → List (Addr × Obj) → Prop} {ax : Addr} {its : Array Value} {k : Nat} {news : List (Addr × Obj)} {s₁ : Shared}
    (hh : A.handled = none) (F : Fr h₀ L s₁.heap m) (N : News h₀ L s₁.heap news) (hm : (ax, ({ cls := .type "list", data := .seq its k } : Obj)) ∈ news) (hsz : its.size ≤ sizeLine)
    (h : ∀ g, CompRestT prog w A h₀ L m env ct elt x scope cl { s₁ with heap := g } (SrcAt h₀ ax its) (fun i v => its[i]? = some v) (Fin { s₁ with heap := g }) its.size 0 [] news) :
    SrcUT prog w A h₀ L m env ct elt x scope cl Fin (.ref ax) s₁ := CompSrcT.ledger hh F N hm hsz h
theorem rest_filter {ct elt : Expr} {x : Str} {scope : Scope} {cl : List (Str × Addr)} {S : List (Addr × Obj) → Prop} {Fin : List Value → List (Addr × Obj) → Prop} {vs : List Value} {ds : List Dat} {news n₁ : List (Addr × Obj)}
    (f : Dat → Bool) (hD : DatAll n₁ vs ds) (hS : S news)
    (turn : ∀ d v ys I oI C oC D m₂ h tk (E' : Value → Shared → Prop), d ∈ ds → DatIn n₁ v d → NsObj oC m₂ → m₂ x = some v → Fr h₀ L h m → News h₀ L h ((I, oI) :: (C, oC) :: (D, lst ys) :: news) → Off3 I C D news → ((@Ne Nat I C) ∧ (@Ne Nat I D) ∧ (@Ne Nat C D)) →
      wpAny (model prog w) A (isTrue ct (compEnvC scope cl C env) (eval ct (compEnvC scope cl C env))) (fun ok s' => if ok = true then
        wpAny (model prog w) A (eval elt (compEnvC scope cl C env)) (CompTurn h₀ L m { s with heap := h, toks := tk } I oI C oC D (lst ys) (fun _ => True) (fun y nw' => nw' = news ∧ y = v ∧ f d = true)) E' s'
        else CompTurn h₀ L m { s with heap := h, toks := tk } I oI C oC D (lst ys) (fun _ => True) (fun _ nw' => nw' = news ∧ f d = false) Value.none s') E' { s with heap := h, toks := tk })
    (fin : ∀ ys, DatAll n₁ ys (ds.filter f) → Fin ys news) : CompRestT prog w A h₀ L m env ct elt x scope cl s S (fun i v => vs.toArray[i]? = some v) Fin vs.toArray.size 0 [] news := by
  have hl := hD.length
  refine restT_inv (fun i ys nw => nw = news ∧ DatAll n₁ ys ((ds.take i).filter f)) ⟨rfl, .nil⟩ ?_ ?_
  · rintro i ys nw v I oI C oC D m₂ h tk E' hlt ⟨rfl, hb⟩ hv hC hx F N off ne
    obtain ⟨d, hd, hm, hI⟩ := dat_at hD (i := i) (by simpa using hv)
    have ht : ds.take (i + 1) = ds.take i ++ [d] := by simp [List.take_add_one, hd]
    refine wpAny_mono (turn d v ys I oI C oC D m₂ h tk E' hm hI hC hx F N off ne) (fun ok s₂ hq => ?_) fun _ _ e => e
    cases ok with
    | true =>
      simp only [if_true] at hq ⊢
      refine wpAny_mono hq (fun y s₃ hq => ?_) fun _ _ e => e
      obtain ⟨h', tk', nw', e, F', N', off', _, hn, hy, hf⟩ := hq
      subst hn hy
      refine ⟨h', tk', _, e, F', N', off', hS, rfl, ?_⟩
      rw [ht, List.filter_append]
      simp only [List.filter_cons, hf, if_true, List.filter_nil]
      exact hb.append (.cons hI .nil)
    | false =>
      simp only [Bool.false_eq_true, if_false] at hq ⊢
      obtain ⟨h', tk', nw', e, F', N', off', _, hn, hf⟩ := hq
      subst hn
      refine ⟨h', tk', _, e, F', N', off', hS, rfl, ?_⟩
      rw [ht, List.filter_append]
      simp only [List.filter_cons, hf, Bool.false_eq_true, if_false, List.filter_nil, List.append_nil]
      exact hb
  · rintro ys nw ⟨rfl, hb⟩
    rw [List.size_toArray, hl, List.take_length] at hb
    exact fin ys hb
end
end Mine
namespace Mine
open PySem PySem.W PyProof.Rows
end Mine
namespace Mine
open PySem PySem.W PyProof.Rows
end Mine
namespace Mine
open PySem PySem.W PyProof.Rows
end Mine
namespace Mine
open PySem PySem.W PyProof.Rows
end Mine
namespace Mine
open PySem PySem.W PyProof.Rows
noncomputable def numT (i : Int) : Str := Str.ofString (toString i)
theorem numT_len {i : Int} (h0 : 0 ≤ i) (h : i ≤ 2000000000000) : (numT i).length ≤ 13 := toString_length_le h0 (by decide) (by omega)
end Mine
namespace Mine
open PySem PySem.W PyProof.Rows PyProof.Rows.LCg
end Mine
namespace Mine
open PySem PySem.W PyProof.Rows PyProof.Rows.LCg
end Mine
namespace Mine
open PySem PySem.W PyProof.Rows PyProof.Rows.LCg
end Mine
namespace Mine
open PySem PySem.W PyProof.Rows PyProof.Rows.LCg
end Mine
namespace Mine
open PySem PySem.W PyProof.Rows
end Mine
namespace Mine
open PySem PySem.W PyProof.Rows
theorem one_ret {h₀ h' : Heap} {L : Addr} {m : Str → Option Value} {news rest : List (Addr × Obj)} {s : Shared} {Q : Value → Shared → Prop} {tk' : Nat} {D : Addr} {o : Obj} {Out : Value → List (Addr × Obj) → Prop}
    (hret : ∀ (r : Value) (add : List (Addr × Obj)) (h' : Heap) (tk' : Nat), Out r add → (∀ p ∈ add, ∀ q ∈ news, q.1 ≠ p.1) → Fr h₀ L h' m → News h₀ L h' (add ++ news) → Q r { s with heap := h', toks := tk' })
    (N : News h₀ L h' ((D, o) :: rest)) (F : Fr h₀ L h' m) (sub : ∀ p ∈ news, p ∈ rest) (lt : AllLt D news) (ho : Out (.ref D) [(D, o)]) : Q (.ref D) { s with heap := h', toks := tk' } := by
  refine hret (.ref D) [(D, o)] h' tk' ho (fun p hp q hq => ?_) F fun p hp => ?_
  · rw [List.mem_singleton.mp hp]
    exact Nat.ne_of_lt (allLt_mem lt q hq)
  · rcases List.mem_append.mp hp with hp | hp
    · rw [List.mem_singleton.mp hp]; exact N _ (.head _)
    · exact N p (.tail _ (sub p hp))
end Mine
namespace Mine4
abbrev St := Int × Int
section
variable {N : Type} [DecidableEq N]
noncomputable def valAt {V : Type} (a : List (N × V)) (n : N) : Option V := (a.find? fun kv => kv.1 = n).map (·.2)
noncomputable def put {V : Type} (a : List (N × V)) (n : N) (v : V) : List (N × V) :=
  if a.any (fun kv => kv.1 = n) then a.map (fun kv => if kv.1 = n then (kv.1, v) else kv) else a ++ [(n, v)]
end
end Mine4
namespace Mine
open PySem PySem.W PyProof.Rows
theorem none_ret {h₀ h' : Heap} {L : Addr} {m : Str → Option Value} {news rest : List (Addr × Obj)} {s : Shared} {Q : Value → Shared → Prop} {tk' : Nat} {Out : Value → List (Addr × Obj) → Prop}
    (hret : ∀ (r : Value) (add : List (Addr × Obj)) (h' : Heap) (tk' : Nat), Out r add → (∀ p ∈ add, ∀ q ∈ news, q.1 ≠ p.1) → Fr h₀ L h' m → News h₀ L h' (add ++ news) → Q r { s with heap := h', toks := tk' })
    (N : News h₀ L h' rest) (F : Fr h₀ L h' m) (sub : ∀ p ∈ news, p ∈ rest) (ho : Out .none []) : Q .none { s with heap := h', toks := tk' } :=
  hret .none [] h' tk' ho (fun _ h => nomatch h) F fun p hp => N p (sub p hp)
end Mine
namespace Mine
open PySem PySem.W PyProof.Rows PySem.Spec PySem.Calls PyProof.Rows.LCg PyProof.Rows.LCt
section
variable {prog : Program} {w : World} {A : Around} {E : Value → Shared → Prop} {s : Shared} {h₀ : Heap} {L : Addr} {m : Str → Option Value} {env : Env} {K : Type} [DecidableEq K] {knd : KeyKind prog w K}
noncomputable def SrcDi (knd : KeyKind prog w K) (A : Around) (h₀ : Heap) (L : Addr) (m : Str → Option Value) (R : Shared → Addr → Obj → List (K × Value) → List (Addr × Obj) → Prop) (xv : Value) (s₁ : Shared) : Prop :=
  ∃ d o kvs news, xv = .ref d ∧ A.handled = none ∧ Fr h₀ L s₁.heap m ∧ News h₀ L s₁.heap news ∧ (d, o) ∈ news ∧ o.IsDictOf knd kvs ∧ (d == sysModules) = false ∧ kvs.length ≤ sizeLine ∧ ∀ s₂ : Shared, (∃ h, s₂ = { s₁ with heap := h }) → R s₂ d o kvs news
theorem SrcDi.intro {R : Shared → Addr → Obj → List (K × Value) → List (Addr × Obj) → Prop} {d : Addr} {o : Obj} {kvs : List (K × Value)} {s₁ : Shared} {news : List (Addr × Obj)} (hh : A.handled = none) (F : Fr h₀ L s₁.heap m) (N : News h₀ L s₁.heap news) (hm : (d, o) ∈ news) (hd : o.IsDictOf knd kvs) (lo : (d == sysModules) = false) (hsz : kvs.length ≤ sizeLine) (h : ∀ g, R { s₁ with heap := g } d o kvs news) : SrcDi knd A h₀ L m R (.ref d) s₁ :=
  ⟨d, o, kvs, news, rfl, hh, F, N, hm, hd, lo, hsz, fun _ ⟨g, e⟩ => e ▸ h g⟩
theorem rest_exact {elt : Expr} {x : Str} {scope : Scope} {cl : List (Str × Addr)} {S : List (Addr × Obj) → Prop} {P : Nat → Value → Prop} {Fin : List Value → List (Addr × Obj) → Prop} {n : Nat} {news : List (Addr × Obj)}
    (X : List (Addr × Obj)) (es : List Dat) (hn : es.length = n) (hS : ∀ nw, (∀ p ∈ news, p ∈ nw) → S nw)
    (turn : ∀ i d v ys nw I oI C oC D m₂ h tk (E' : Value → Shared → Prop), es[i]? = some d → P i v → (∀ p ∈ news, p ∈ nw) → NsObj oC m₂ → m₂ x = some v → Fr h₀ L h m → News h₀ L h ((I, oI) :: (C, oC) :: (D, lst ys) :: nw) → Off3 I C D nw → ((@Ne Nat I C) ∧ (@Ne Nat I D) ∧ (@Ne Nat C D)) →
      wpAny (model prog w) A (eval elt (compEnvC scope cl C env)) (CompTurn h₀ L m { s with heap := h, toks := tk } I oI C oC D (lst ys) (fun _ => True) (fun y nw' => ∃ add, nw' = add ++ nw ∧ (∀ p ∈ add, ∀ q ∈ nw, q.1 ≠ p.1) ∧ DatIn (add ++ X) y d)) E' { s with heap := h, toks := tk })
    (fin : ∀ ys add, (∀ p ∈ add, ∀ q ∈ news, q.1 ≠ p.1) → DatAll (add ++ X) ys es → Fin ys (add ++ news)) : CompRest prog w A h₀ L m env elt x scope cl s S P Fin n 0 [] news := by
  subst hn
  refine rest_inv (fun i ys nw => ∃ add, nw = add ++ news ∧ (∀ p ∈ add, ∀ q ∈ news, q.1 ≠ p.1) ∧ DatAll (add ++ X) ys (es.take i)) ⟨[], rfl, (fun _ h => nomatch h), .nil⟩ ?_ ?_
  · rintro i ys nw v I oI C oC D m₂ h tk E' hi ⟨add, rfl, hap, hD⟩ hv hC hx F N off ne
    have hd : es[i]? = some es[i] := List.getElem?_eq_getElem hi
    refine wpAny_mono (turn i es[i] v ys _ I oI C oC D m₂ h tk E' hd hv (fun p hp => List.mem_append.mpr (.inr hp)) hC hx F N off ne) (fun y s₂ hq => ?_) fun _ _ e => e
    obtain ⟨h', tk', nw', e, F', N', off', _, ad, rfl, hn, hd⟩ := hq
    refine ⟨h', tk', _, e, F', N', off', hS _ fun p hp => List.mem_append.mpr (.inr (List.mem_append.mpr (.inr hp))), ad ++ add, (List.append_assoc ..).symm, fun p hp q hq => ?_, ?_⟩
    · rcases List.mem_append.mp hp with hp | hp
      · exact hn p hp q (List.mem_append.mpr (.inr hq))
      · exact hap p hp q hq
    · rw [List.take_succ_eq_append_getElem hi, List.append_assoc]
      refine (hD.mono fun p hp => List.mem_append.mpr (.inr hp)).append (.cons (hd.mono fun p hp => ?_) .nil)
      rcases List.mem_append.mp hp with hp | hp
      · exact List.mem_append.mpr (.inl hp)
      · exact List.mem_append.mpr (.inr (List.mem_append.mpr (.inr hp)))
  · rintro ys nw ⟨add, rfl, hap, hD⟩
    rw [List.take_length] at hD
    exact fin ys add hap hD
end
noncomputable def optD : Option (Int × Int) → Dat
  | none => .none
  | some s => .tuple [.int s.1, .int s.2]
inductive KvIs (add : List (Addr × Obj)) : List (Str × Value) → List (Str × Option (Int × Int)) → Prop
  | nil : KvIs add [] []
  | cons {k : Str} {v : Value} {o : Option (Int × Int)} {r : List (Str × Value)} {T : List (Str × Option (Int × Int))} : DatIn add v (optD o) → KvIs add r T → KvIs add ((k, v) :: r) ((k, o) :: T)
theorem KvIs.mono {add add' : List (Addr × Obj)} (hs : ∀ p ∈ add, p ∈ add') : ∀ {kvs : List (Str × Value)} {T : List (Str × Option (Int × Int))}, KvIs add kvs T → KvIs add' kvs T
  | _, _, .nil => .nil
  | _, _, .cons h r => .cons (h.mono hs) (r.mono hs)
theorem KvIs.length {add : List (Addr × Obj)} : ∀ {kvs : List (Str × Value)} {T : List (Str × Option (Int × Int))}, KvIs add kvs T → kvs.length = T.length
  | _, _, .nil => rfl
  | _, _, .cons _ r => by rw [List.length_cons, List.length_cons, r.length]
theorem KvIs.at {add : List (Addr × Obj)} : ∀ {kvs : List (Str × Value)} {T : List (Str × Option (Int × Int))}, KvIs add kvs T → ∀ {i : Nat} {k : Str} {v : Value}, kvs[i]? = some (k, v) → ∃ o, T[i]? = some (k, o) ∧ DatIn add v (optD o)
  | _, _, .cons h _, 0, _, _, e => by cases e; exact ⟨_, rfl, h⟩
  | _, _, .cons _ r, i + 1, k, v, e => r.at (i := i) (by simpa using e)
theorem KvIs.none {add : List (Addr × Obj)} {k : Str} : ∀ {kvs : List (Str × Value)} {T : List (Str × Option (Int × Int))}, KvIs add kvs T → valueAt kvs k = none → Mine4.valAt T k = none
  | _, _, .nil, _ => rfl
  | _, _, .cons (k := k') (r := rr) _ r, e => by
    by_cases h : k' = k
    · subst h; simp [valueAt] at e
    · have e' : valueAt rr k = Option.none := by simpa [valueAt, h] using e
      have := r.none e'
      simpa [Mine4.valAt, h] using this
theorem KvIs.some {add : List (Addr × Obj)} {k : Str} {v : Value} : ∀ {kvs : List (Str × Value)} {T : List (Str × Option (Int × Int))}, KvIs add kvs T → valueAt kvs k = some v → ∃ o, Mine4.valAt T k = some o ∧ DatIn add v (optD o)
  | _, _, .nil, e => by cases e
  | _, _, .cons (k := k') (r := rr) hd r, e => by
    by_cases h : k' = k
    · subst h
      simp [valueAt] at e
      subst e
      exact ⟨_, by simp [Mine4.valAt], hd⟩
    · have e' : valueAt rr k = Option.some v := by simpa [valueAt, h] using e
      obtain ⟨o, h1, h2⟩ := r.some e'
      exact ⟨o, by simpa [Mine4.valAt, h] using h1, h2⟩
theorem KvIs.any {add : List (Addr × Obj)} {k : Str} : ∀ {kvs : List (Str × Value)} {T : List (Str × Option (Int × Int))}, KvIs add kvs T → kvs.any (fun kv => kv.1 = k) = T.any (fun kv => kv.1 = k)
  | _, _, .nil => rfl
  | _, _, .cons _ r => by rw [List.any_cons, List.any_cons, r.any]
theorem KvIs.map {add : List (Addr × Obj)} {k : Str} {v : Value} {o : Option (Int × Int)} (hv : DatIn add v (optD o)) : ∀ {kvs : List (Str × Value)} {T : List (Str × Option (Int × Int))}, KvIs add kvs T →
    KvIs add (kvs.map fun kv => if kv.1 = k then (kv.1, v) else kv) (T.map fun kv => if kv.1 = k then (kv.1, o) else kv)
  | _, _, .nil => .nil
  | _, _, .cons (k := k') hd r => by
    rw [List.map_cons, List.map_cons]
    by_cases h : k' = k
    · simp only [h, if_true]; exact .cons hv (r.map hv)
    · simp only [h, if_false]; exact .cons hd (r.map hv)
theorem KvIs.snoc {add : List (Addr × Obj)} {k : Str} {v : Value} {o : Option (Int × Int)} (hv : DatIn add v (optD o)) : ∀ {kvs : List (Str × Value)} {T : List (Str × Option (Int × Int))}, KvIs add kvs T → KvIs add (kvs ++ [(k, v)]) (T ++ [(k, o)])
  | _, _, .nil => .cons hv .nil
  | _, _, .cons hd r => .cons hd (r.snoc hv)
theorem KvIs.put {add : List (Addr × Obj)} {k : Str} {v : Value} {o : Option (Int × Int)} {kvs : List (Str × Value)} {T : List (Str × Option (Int × Int))} (h : KvIs add kvs T) (hv : DatIn add v (optD o)) : KvIs add (stored kvs k v) (Mine4.put T k o) := by
  unfold stored Mine4.put
  rw [h.any]
  by_cases e : (T.any fun kv => kv.1 = k) = true
  · rw [if_pos e, if_pos e]; exact h.map hv
  · rw [if_neg e, if_neg e]; exact h.snoc hv
end Mine
namespace Mine
open PySem PySem.W PyProof.Rows PySem.Spec PySem.Calls
noncomputable def FlyAny (B : Heap) (l : List Env) (e : Addr) (cls a0 : Value) (h : Heap) : Prop :=
  B.StaysIn h ∧ B.get? e = none ∧ h.FunFrames B l ∧ ∃ fl, h.TracedAtW B e cls a0 fl
noncomputable def RaisedA (base G : Heap) (l : List Env) (e : Addr) (cls : Value) (t : Addr) (vs : List Value) (news : List (Addr × Obj)) (h : Heap) : Prop :=
  (∃ B, base.StaysIn B ∧ (∀ b o, G.get? b = some o → b ∉ l.filterMap (·.frame) → B.get? b = some o) ∧ (∀ q ∈ news, B.get? q.1 = some q.2 ∧ G.get? q.1 = none ∧ base.get? q.1 = none) ∧ FlyAny B l e cls (.ref t) h ∧ B.get? t = none) ∧ h.TupAt t vs
theorem RaisedA.of {base G : Heap} {l : List Env} {e : Addr} {cls : Value} {t : Addr} {vs : List Value} {news : List (Addr × Obj)} {h : Heap} (R : RaisedS base G l e cls t vs news h) : RaisedA base G l e cls t vs news h := by
  obtain ⟨⟨B, hB, hBG, hl, ⟨f1, f2, f3, f4⟩, hnew⟩, htup⟩ := R
  exact ⟨⟨B, hB, hBG, hl, ⟨f1, f2, f3, _, f4⟩, hnew⟩, htup⟩
theorem RaisedA.less {base G : Heap} {l : List Env} {e : Addr} {cls : Value} {t : Addr} {vs : List Value} {news nw : List (Addr × Obj)} {h : Heap} (R : RaisedA base G l e cls t vs news h) (hs : ∀ p ∈ nw, p ∈ news) : RaisedA base G l e cls t vs nw h := by
  obtain ⟨⟨B, hB, hBG, hl, hf, hnew⟩, htup⟩ := R
  exact ⟨⟨B, hB, hBG, fun q hq => hl q (hs q hq), hf, hnew⟩, htup⟩
section
variable {M : Model} {A : Around} {E : Value → Shared → Prop} {s : Shared}
theorem note_env {e : Value} {env env' : Env} (h : env'.frame = env.frame) : noteFrame e env' = noteFrame e env := by
  unfold noteFrame PySem.frameOf
  rw [h]
theorem note_any {B : Heap} {env env' : Env} {outer : List Env} {L e : Addr} {cls a0 : Value} {Q : Unit → Shared → Prop} (hfr : A.frames = some (env :: outer)) (hf : env.frame = some L) (hf' : env'.frame = some L) (hfl : FlyAny B (env :: outer) e cls a0 s.heap)
    (hQ : ∀ h', Heap.HeldW B (env :: outer) e cls a0 L h' → s.heap.UpToSlots h' → Q () { s with heap := h' }) : wpAny M A (noteFrame (.ref e) env') Q E s := by
  rw [note_env (hf'.trans hf.symm)]
  obtain ⟨f1, f2, f3, fl, oe, vs, T, oT, ts, he, ⟨hcls, h0⟩, hd, h1, hnT, hTe, hT, hdT, h3⟩ := hfl
  by_cases q : fl = rawInt L
  · subst q
    exact wpAny_noteFrame_againW hf ⟨oe, vs, T, oT, ts, he, ⟨hcls, h0⟩, hd, h1, hnT, hTe, hT, hdT, h3⟩ (hQ s.heap ⟨f1, f2, f3, oe, vs, T, oT, ts, he, ⟨hcls, h0⟩, hd, h1, hnT, hTe, hT, hdT, h3⟩ (Heap.UpToSlots.refl _))
  · subst hcls
    unfold noteFrame
    simp only [hf]
    refine wpAny_bind (wpAny_field he hd h1 ?_)
    rw [if_pos (show (Value.ref T != Value.none) = true from by simp)]
    refine wpAny_bind (wpAny_field hT hdT h3 ?_)
    rw [if_neg (show ¬ ((fl == rawInt L) = true) from fun z => q (eq_of_beq z))]
    refine wpAny_bind (wpAny_setField hT hdT (Array.getElem?_eq_some_iff.mp h3).1 ?_)
    have same : ∀ b, b ≠ T → (s.heap.update T (Obj.mapFields (·.setIfInBounds 3 Value.none))).get? b = s.heap.get? b := fun b hb => Heap.get?_update_other _ _ (Ne.symm hb)
    have notT : ∀ b o, s.heap.get? b = some o → (∀ vs, o.data ≠ .fields vs) → b ≠ T := fun b o hb hn z => by
      rw [z, hT] at hb; cases hb; exact hn ts hdT
    refine wpAny_entryW hfr (f3.of_keeps fun b o hb hn => ⟨o, (same b (notT b o hb hn)).trans hb, rfl⟩) hf ((same e (Ne.symm hTe)).trans he) (fun b o hbo => (same b fun z => by rw [z, hnT] at hbo; cases hbo).trans (f1 b o hbo)) f2 hd
      (Array.getElem?_eq_some_iff.mp h1).1 h0 fun h' ⟨x1, x2, x3, x4⟩ => hQ h' ⟨x1, f2, x2, x3⟩ fun b o hb hn => x4 b o ((same b (notT b o hb hn)).trans hb) hn
theorem leave_any {base g g₂ : Heap} {env : Env} {outer : List Env} {L e t : Addr} {m : Str → Option Value} {cls : Value} {vs : List Value} {news : List (Addr × Obj)} {Q : Unit → Shared → Prop} (hf : env.frame = some L) (K : Below A base outer g) (F : Fr g L g₂ m) (R : RaisedA base g₂ (env :: outer) e cls t vs news s.heap) (hsm : g₂.UpToSlots s.heap)
    (hQ : ∀ h', RaisedS base g outer e cls t vs news h' → g.UpToSlots h' → Q () { s with heap := h' }) : wpAny M (A.deeper env) (leaving env (.ref e)) Q E s := by
  obtain ⟨⟨B, hB, hBG, hl, hfl, hnew⟩, htup⟩ := R
  unfold leaving
  refine wpAny_bind (note_any (Around.frames_deeper K.stack) hf hf hfl fun h₁ x1 x2 => ?_)
  refine wpAny_landsW x1 fun h' y1 y2 => ?_
  obtain ⟨k1, k2, ⟨_, _, k3⟩, k4⟩ := y1
  refine hQ h' ⟨⟨B, hB, fun b o q nm => hBG b o (F.keep b o q) fun hm => ?_, fun q hq => ⟨(hl q hq).1, kts_none F.keep (hl q hq).2.1, (hl q hq).2.2⟩, ⟨k1, k2, k3, k4⟩, hnew⟩, (htup.of_slots x2).of_slots y2⟩ ((Heap.UpToSlots.of_keeps F.keep).trans (hsm.trans (x2.trans y2)))
  obtain ⟨env', he', hf'⟩ := List.mem_filterMap.mp hm
  rcases List.mem_cons.mp he' with rfl | he'
  · rw [hf] at hf'
    cases hf'
    rw [kts_self F] at q
    cases q
  · exact nm (List.mem_filterMap.mpr ⟨env', he', hf'⟩)
theorem frames_off {B h h' : Heap} {C : Addr} {o : Obj} (hC : B.get? C = some o) (k : ∀ b o, b ≠ C → h.get? b = some o → (∀ vs, o.data ≠ .fields vs) → h'.get? b = some o) : ∀ {l : List Env}, h.FunFrames B l → h'.FunFrames (hideAll B [C]) l
  | [], _ => trivial
  | env :: rest, ⟨hk, ⟨L, oL, hf, hn, ho, hd⟩, hr⟩ => by
    refine ⟨hk, ⟨L, oL, hf, ?_, k L oL (fun q => ?_) ho hd, hd⟩, frames_off hC k hr⟩
    · cases q : (hideAll B [C]).get? L with
      | none => rfl
      | some o' => rw [of_hideAll _ q] at hn; cases hn
    · rw [q, hC] at hn; cases hn
noncomputable def RaisesAt (base h₀ : Heap) (L : Addr) (m : Str → Option Value) (l : List Env) (C : Addr) (news : List (Addr × Obj)) (s : Shared) (e : Value) (s' : Shared) : Prop :=
  ∃ g ea t vs h tk, e = .ref ea ∧ s' = { s with heap := h, toks := tk } ∧ Fr h₀ L g m ∧ RaisedA base g l ea (.ref C) t vs news h ∧ g.UpToSlots h
noncomputable def RaisesS (base h₀ : Heap) (L : Addr) (m : Str → Option Value) (l : List Env) (C : Addr) (news : List (Addr × Obj)) (s : Shared) (e : Value) (s' : Shared) : Prop :=
  ∃ g ea t vs h tk, e = .ref ea ∧ s' = { s with heap := h, toks := tk } ∧ Fr h₀ L g m ∧ RaisedS base g l ea (.ref C) t vs news h ∧ g.UpToSlots h
theorem RaisesS.toA {base h₀ : Heap} {L : Addr} {m : Str → Option Value} {l : List Env} {C : Addr} {news : List (Addr × Obj)} {s₁ : Shared} {e : Value} {s' : Shared} (R : RaisesS base h₀ L m l C news s₁ e s') : RaisesAt base h₀ L m l C news s₁ e s' := by
  obtain ⟨g, ea, t, vs, h, tk, h1, h2, h3, h4, h5⟩ := R
  exact ⟨g, ea, t, vs, h, tk, h1, h2, h3, RaisedA.of h4, h5⟩
theorem raisedS_less {base G : Heap} {l : List Env} {e : Addr} {cls : Value} {t : Addr} {vs : List Value} {news nw : List (Addr × Obj)} {h : Heap} (R : RaisedS base G l e cls t vs news h) (hs : ∀ p ∈ nw, p ∈ news) : RaisedS base G l e cls t vs nw h := by
  obtain ⟨⟨B, hB, hBG, hl, hf, hnew⟩, htup⟩ := R
  exact ⟨⟨B, hB, hBG, fun q hq => hl q (hs q hq), hf, hnew⟩, htup⟩
theorem RaisesAt.less {base h₀ : Heap} {L : Addr} {m : Str → Option Value} {l : List Env} {C : Addr} {news nw : List (Addr × Obj)} {s₁ : Shared} {e : Value} {s' : Shared} (R : RaisesAt base h₀ L m l C news s₁ e s') (hs : ∀ p ∈ nw, p ∈ news) : RaisesAt base h₀ L m l C nw s₁ e s' := by
  obtain ⟨g, ea, t, vs, h, tk, h1, h2, h3, h4, h5⟩ := R
  exact ⟨g, ea, t, vs, h, tk, h1, h2, h3, h4.less hs, h5⟩
theorem comp_raise {base h₀ : Heap} {env cenv : Env} {outer : List Env} {L : Addr} {m : Str → Option Value} {K C : Addr} {oC : Obj} {m₂ : Str → Option Value} {news nw : List (Addr × Obj)} {s₀ : Shared} {Q : Value → Shared → Prop} {E' : Value → Shared → Prop} {acc : Value} {use : Option (Value → Sem Unit)} (hfr : A.frames = some (env :: outer)) (hf : env.frame = some L) (hf' : cenv.frame = some L)
    (hC : (C, oC) ∈ news) (hns : LCg.NsObj oC m₂) (hs : ∀ p ∈ nw, p ∈ news ∧ p.1 ≠ C) (hE : ∀ e s', RaisesAt base h₀ L m (env :: outer) K nw s₀ e s' → E' e s') {e : Value} {s' : Shared} (R : RaisesAt base h₀ L m (env :: outer) K news s₀ e s') :
    notedBy M A cenv (fun e s' => compPost M A E' use Q acc C (.error e) s') e s' := by
  obtain ⟨g, ea, t, vs, h, tk, rfl, rfl, FG, ⟨⟨B, hB, hBG, hl, hfl, hnew⟩, htup⟩, hsm⟩ := R
  unfold notedBy
  refine note_any hfr hf hf' hfl fun h₁ x1 x2 => ?_
  obtain ⟨k1, k2, k3, oe, ws, T, oT, ts, he, ⟨hcls, h0⟩, hd, h1, hnT, hTe, hT, hdT, h3⟩ := x1
  have hBC := (hl _ hC).1
  have neC : ∀ b, B.get? b = none → b ≠ C := fun b hb q => by rw [q, hBC] at hb; cases hb
  suffices hz : ∀ h₂, Heap.SameBut C h₁ h₂ → ∀ cenv' : Env, cenv'.locals = C → wpAny M A (PySem.passOn "comprehension.variables-let-go" (.ref ea) cenv' : Sem Value) (fun _ _ => False) E' { s₀ with heap := h₂, toks := tk } by
    cases use <;> exact ⟨m₂, hns.ns (k1 _ _ hBC), hz⟩
  intro h₂ hs₂ cenv' _
  unfold PySem.passOn
  have he₂ : h₂.get? ea = some oe := (hs₂.2 ea (neC ea k2)).trans he
  have hT₂ : h₂.get? T = some oT := (hs₂.2 T (neC T hnT)).trans hT
  refine wpAny_bind (wpAny_field he₂ hd h1 ?_)
  rw [if_neg (show ¬ ((Value.ref T == Value.none) = true) from by simp)]
  refine wpAny_bind ?_
  unfold setFlight
  refine wpAny_bind (wpAny_field he₂ hd h1 ?_)
  rw [if_pos (show (Value.ref T != Value.none) = true from by simp)]
  have hsz3 : 3 < ts.size := (Array.getElem?_eq_some_iff.mp h3).1
  refine wpAny_setField hT₂ hdT hsz3 (wpAny_throw (hE _ _ ?_))
  have same : ∀ b, b ≠ T → (h₂.update T (Obj.mapFields (·.setIfInBounds 3 (cenv'.frame.elim .none fun f => rawInt f)))).get? b = h₂.get? b := fun b hb => Heap.get?_update_other _ _ (Ne.symm hb)
  have notT : ∀ b o, h₁.get? b = some o → (∀ vs, o.data ≠ .fields vs) → b ≠ T := fun b o hb hn z => by
    rw [z, hT] at hb; cases hb; exact hn ts hdT
  have keep : ∀ b o, b ≠ C → h₁.get? b = some o → (∀ vs, o.data ≠ .fields vs) → (h₂.update T (Obj.mapFields (·.setIfInBounds 3 (cenv'.frame.elim .none fun f => rawInt f)))).get? b = some o := fun b o hb e hn =>
    ((same b (notT b o e hn)).trans (hs₂.2 b hb)).trans e
  have gC : g.get? C = none := (hl _ hC).2.1
  have up : g.UpToSlots (h₂.update T (Obj.mapFields (·.setIfInBounds 3 (cenv'.frame.elim .none fun f => rawInt f)))) := fun b o q hn => by
    obtain ⟨sl, z⟩ := (hsm.trans x2) b o q hn
    exact ⟨sl, keep b _ (fun y => by rw [y, gC] at q; cases q) z hn⟩
  refine ⟨g, ea, t, vs, _, tk, rfl, rfl, FG, ⟨⟨hideAll B [C], fun b o q => hideAll_get _ (hB b o q) (fun hm => ?_), fun b o q nm => hideAll_get _ (hBG b o q nm) (fun hm => ?_), fun q hq => ?_, ⟨fun b o q => ?_, ?_, frames_off hBC keep k3, _, oe, ws, T, _, _, (same ea (Ne.symm hTe)).trans he₂, ⟨hcls, h0⟩, hd, h1, ?_, hTe, Heap.get?_update_self _ hT₂ (Obj.isFreed_of_fields (Obj.data_mapFields hdT _)), Obj.data_mapFields hdT _, Array.getElem?_setIfInBounds_self_of_lt hsz3⟩, ?_⟩, ?_⟩, up⟩
  · rw [List.mem_singleton.mp hm, (hl _ hC).2.2] at q; cases q
  · rw [List.mem_singleton.mp hm, gC] at q; cases q
  · obtain ⟨hq1, hq2⟩ := hs q hq
    exact ⟨hideAll_get _ (hl q hq1).1 (fun hm => hq2 (List.mem_singleton.mp hm)), (hl q hq1).2⟩
  · have q' := of_hideAll _ q
    have bC : b ≠ C := fun z => by rw [z, hideAll_none _ (List.mem_singleton.mpr rfl)] at q; cases q
    exact ((same b (fun z => by rw [z, hnT] at q'; cases q')).trans (hs₂.2 b bC)).trans (k1 b o q')
  · cases q : (hideAll B [C]).get? ea with
    | none => rfl
    | some o' => rw [of_hideAll _ q] at k2; cases k2
  · cases q : (hideAll B [C]).get? T with
    | none => rfl
    | some o' => rw [of_hideAll _ q] at hnT; cases hnT
  · cases q : (hideAll B [C]).get? t with
    | none => rfl
    | some o' => rw [of_hideAll _ q] at hnew; cases hnew
  · obtain ⟨ot, nt, hot, hotc, hotd⟩ := htup.of_slots x2
    exact ⟨ot, nt, keep t ot (neC t hnew) hot (fun vs z => by rw [hotd] at z; cases z), hotc, hotd⟩
end
end Mine
namespace Mine
open PySem PySem.W PyProof.Rows PySem.Spec PySem.Calls PyProof.Rows.LCg PyProof.Rows.LCt
section
variable {prog : Program} {w : World} {A : Around} {E : Value → Shared → Prop} {s : Shared} {h₀ base : Heap} {L : Addr} {m : Str → Option Value} {env : Env} {outer : List Env}
theorem block_X {elt iter : Expr} {x : Str} {px : Pos} {scope : Scope} {cl : List (Str × Addr)} {pos : Pos} {s₂ : Shared} {I K : Addr} {fp : List Addr} {n : Nat} {P : Nat → Value → Prop} {St : Nat → Heap → Prop} {S : List (Addr × Obj) → Prop} {news : List (Addr × Obj)} {Q : Value → Shared → Prop} {use : Option (Value → Sem Unit)}
    (Inv : Nat → List Value → List (Addr × Obj) → Prop) (W : Walks prog w A I fp [I] n P St) (hsz : n ≤ sizeLine) (hIo : ∀ i h, St i h → ∃ o, h.get? I = some o)
    (hSt : ∀ i h h' o nw, St i h → h.get? I = some o → h'.get? I = some o → (∀ b o, h₀.get? b = some o → h'.get? b = some o) → News h₀ L h' nw → S nw → St i h')
    (hcell : ∀ y ∈ scope.names, y.2 ≠ .cell) (hkind : scope.kind = .function) (hx : scope.names.lookup x = some .local) (hst : St 0 s₂.heap) (hfp : ∀ b ∈ fp, b < s₂.heap.objs.size)
    (F : Fr h₀ L s₂.heap m) (N : News h₀ L s₂.heap news) (hIL : L ≠ I) (hI₀ : h₀.get? I = none) (off : ∀ p ∈ news, p.1 ≠ I) (hS : S news)
    (hfr : A.frames = some (env :: outer)) (hf : env.frame = some L) (h0 : Inv 0 [] news) (hsub : ∀ i ys nw, Inv i ys nw → ∀ p ∈ news, p ∈ nw)
    (turn : ∀ i ys nw v I oI C oC D m₂ h tk, i < n → Inv i ys nw → P i v → NsObj oC m₂ → m₂ x = some v → Fr h₀ L h m → News h₀ L h ((I, oI) :: (C, oC) :: (D, lst ys) :: nw) → Off3 I C D nw → ((@Ne Nat I C) ∧ (@Ne Nat I D) ∧ (@Ne Nat C D)) →
      wpAny (model prog w) A (eval elt (compEnvC scope cl C env)) (CompTurn h₀ L m { s₂ with heap := h, toks := tk } I oI C oC D (lst ys) S (fun y nw' => Inv (i + 1) (ys ++ [y]) nw')) (RaisesAt base h₀ L m (env :: outer) K ((I, oI) :: (C, oC) :: (D, lst ys) :: nw) { s₂ with heap := h, toks := tk }) { s₂ with heap := h, toks := tk })
    (hE : ∀ e s', RaisesAt base h₀ L m (env :: outer) K news s₂ e s' → E e s')
    (hno : ∀ ys nw, ¬ Inv n ys nw) :
    wpAny (model prog w) A (newList []) (fun acc s₃ => wpAny (model prog w) A (newFunctionEnv scope env.globals cl [] env.qual none .none (some env)) (fun cenv s₄ =>
      codeAny (model prog w) A (.compStart (.ListComp elt [⟨.Name x px, iter, [], 0⟩] scope pos) 0 (.ref I) acc { cenv with scope := relabel scope env }) (compPost (model prog w) A E use Q acc cenv.locals) s₄) E s₃) E s₂ := by
  refine wpAny_newObj_type (wpAny_newFunctionEnv hcell (by intro y hy; simp at hy) (fun h₁ hns₁ hsb₁ => ?_) hkind)
  dsimp only at hns₁ hsb₁ ⊢
  generalize hH2 : s₂.heap.push { cls := .type "list", dict := none, data := .seq ([] : List Value).toArray } = H2 at hns₁ hsb₁ ⊢
  generalize hCe : H2.objs.size = C at hns₁ hsb₁ ⊢
  generalize hDe : s₂.heap.objs.size = D at *
  have hCD' : C = D + 1 := by rw [← hCe, ← hH2, Heap.size_push, hDe]
  have hDC : D ≠ C := by rw [hCD']; exact Nat.ne_of_lt (Nat.lt_succ_self _)
  have lo : ∀ b, b < D → b ≠ C ∧ b ≠ D := fun b hb => ⟨by rw [hCD']; exact Nat.ne_of_lt (Nat.lt_succ_of_lt hb), Nat.ne_of_lt hb⟩
  have lt : ∀ {b o}, s₂.heap.get? b = some o → b < D := fun e => hDe ▸ Heap.lt_size e
  have old : ∀ b o, s₂.heap.get? b = some o → h₁.get? b = some o := fun b o e => hsb₁.extBut b o (lo b (lt e)).1 (Heap.get?_push_of_some _ (hH2 ▸ Heap.get?_push_of_some _ e))
  have hDf : D ∉ fp := fun hm => Nat.lt_irrefl _ (hfp _ hm)
  have hCf : C ∉ fp := fun hm => by have := hfp _ hm; rw [hCD'] at this; exact Nat.lt_irrefl _ (Nat.lt_of_succ_lt this)
  have hIlt : I < D := hfp I (W.sub I (List.mem_singleton.mpr rfl))
  have new₀ : ∀ a, D ≤ a → h₀.get? a = none := fun a ha => by
    cases e : h₀.get? a with
    | none => rfl
    | some o' => exact absurd (lt (F.keep a o' e)) (Nat.not_lt.mpr ha)
  have hD₀ : h₀.get? D = none := new₀ _ (Nat.le_refl _)
  have hC₀ : h₀.get? C = none := new₀ _ (by rw [hCD']; exact Nat.le_succ _)
  have hLlt : L < D := hDe ▸ F.ns.lt
  have hDL : D ≠ L := Ne.symm (lo L hLlt).2
  have hCL : C ≠ L := Ne.symm (lo L hLlt).1
  have hCI : I ≠ C := (lo I hIlt).1
  have hDI : I ≠ D := (lo I hIlt).2
  have hacc : h₁.get? D = some (lst []) := hsb₁.extBut _ _ hDC (Heap.get?_push_of_some _ (by rw [← hH2, ← hDe]; exact Heap.get?_push_size _ rfl))
  have hst₁ : St 0 h₁ := W.frame _ _ _ hst fun b _ o e => old b o e
  have run : ∀ s₃ : Shared, s₃ = { s₂ with heap := h₁, toks := s₂.toks + ([] : List (Str × Value)).length } →
      codeAny (model prog w) A (.compLoop (.ListComp elt [⟨.Name x px, iter, [], 0⟩] scope pos) 0 (.ref I) (.ref D) (compEnvC scope cl C env)) (compPost (model prog w) A E use Q (.ref D) C) s₃ := by
    rintro s₃ rfl
    refine codeAny_compLoop_tests
      (fun k s' => ∃ h' tk i ys m' nw, s' = { s₂ with heap := h', toks := tk } ∧ i ≤ n ∧ k = n + 1 - i ∧ ys.length = i ∧ St i h' ∧ Fr h₀ L h' m ∧ h'.Ns C m' ∧ News h₀ L h' ((D, lst ys) :: nw) ∧ Off3 I C D nw ∧ S nw ∧ Inv i ys nw) ?_ (n + 1)
      ⟨h₁, _, 0, [], _, news, rfl, Nat.zero_le _, rfl, rfl, hst₁, F.keeps old, hns₁, fun p hp => ?_, Off3.of fun p hp => ⟨off p hp, lo _ (lt (N p hp).1)⟩, hS, h0⟩
    · rintro k s' ⟨h', tk, i, ys, m', nw, rfl, hi, rfl, hyl, hst', F', hn', N', off', hS', hv⟩
      have of3 := off'.mem
      by_cases hlt : i < n
      · refine W.item i _ _ _ hlt hst' fun v h₂ tk₂ hPv hst₂ hk₂ => ?_
        refine wpAny_assign_Name (wpAny_storeName_local (lookup_relabel_local hx) (hn'.at' fun o e => hk₂ _ o (by simpa using Ne.symm hCI) e) (fun h₃ hn₃ hs₃ => ?_) (by simp [compEnvC, relabel, hkind]))
        refine wpAny_tests_nil ?_
        simp only [if_true]
        have hst₃ : St (i + 1) h₃ := W.frame _ _ _ hst₂ fun b hb o e => hs₃.extBut b o (fun q => hCf (by have q' : b = C := q; rw [← q']; exact hb)) e
        obtain ⟨oI, heI⟩ := hIo _ _ hst₃
        obtain ⟨oC, heC, hoC⟩ := ns_obj hn₃
        have F₃ : Fr h₀ L h₃ m := (fr_but F' hk₂ hIL hI₀).change hs₃ hCL hC₀
        have N₂ : News h₀ L h₂ ((D, lst ys) :: nw) := news_but N' hk₂ fun p hp => by
          rcases List.mem_cons.mp hp with rfl | hp
          · exact Ne.symm hDI
          · exact (of3 p hp).1
        have N₃ : News h₀ L h₃ ((I, oI) :: (C, oC) :: (D, lst ys) :: nw) := fun p hp => by
          rcases List.mem_cons.mp hp with rfl | hp
          · exact ⟨heI, Ne.symm hIL, hI₀⟩
          · rcases List.mem_cons.mp hp with rfl | hp
            · exact ⟨heC, hCL, hC₀⟩
            · refine ⟨hs₃.extBut _ _ ?_ (N₂ p hp).1, (N₂ p hp).2⟩
              rcases List.mem_cons.mp hp with rfl | hp
              · exact hDC
              · exact (of3 p hp).2.1
        refine wpAny_mono (turn i ys nw v I oI C oC D _ h₃ _ hlt hv hPv hoC (by simp) F₃ N₃ off' ⟨hCI, hDI, Ne.symm hDC⟩) (fun y s₄ h₄ => ?_) (fun e s₄ hr => ?_)
        · obtain ⟨h₄, tk₄, nw₄, rfl, F₄, N₄, off₄, hS₄, R₄⟩ := h₄
          have zI := (N₄ (I, oI) List.mem_cons_self).1
          have zC := (N₄ (C, oC) (List.mem_cons_of_mem _ List.mem_cons_self)).1
          have zD := (N₄ (D, lst ys) (List.mem_cons_of_mem _ (List.mem_cons_of_mem _ List.mem_cons_self))).1
          have N₄' : News h₀ L h₄ nw₄ := fun p hp => N₄ p (List.mem_cons_of_mem _ (List.mem_cons_of_mem _ (List.mem_cons_of_mem _ hp)))
          have hst₄ : St (i + 1) h₄ := hSt _ _ _ _ _ hst₃ heI zI F₄.keep N₄' hS₄
          refine append_at (hsz := by show ys.toArray.size ≤ sizeLine; rw [List.size_toArray, hyl]; exact Nat.le_trans hi hsz) zD fun h₅ hs₅ hD₅ => ?_
          have of4 := off₄.mem
          refine ⟨n + 1 - (i + 1), by omega, h₅, tk₄, i + 1, ys ++ [y], _, nw₄, rfl, hlt, rfl, by rw [List.length_append, List.length_singleton, hyl], W.frame _ _ _ hst₄ fun b hb o e => hs₅.extBut b o (fun q => hDf (q ▸ hb)) e, F₄.change hs₅ hDL hD₀,
            (hoC.ns zC).sameBut hs₅ (Ne.symm hDC), fun p hp => ?_, off₄, hS₄, R₄⟩
          rcases List.mem_cons.mp hp with rfl | hp
          · exact ⟨hD₅.trans (congrArg some (lst_snoc ys y)), hDL, hD₀⟩
          · exact ⟨hs₅.extBut _ _ (of4 p hp).2.2 (N₄' p hp).1, (N₄' p hp).2⟩
        · exact comp_raise hfr hf hf (.tail _ (.head _)) hoC (fun p hp => ⟨.tail _ (.tail _ (.tail _ (hsub _ _ _ hv p hp))), (of3 p (hsub _ _ _ hv p hp)).2.1⟩) hE hr
      · obtain rfl : i = n := Nat.le_antisymm hi (Nat.not_lt.mp hlt)
        exact absurd hv (hno ys nw)
    · rcases List.mem_cons.mp hp with rfl | hp
      · exact ⟨hacc, hDL, hD₀⟩
      · exact ⟨old _ _ (N p hp).1, (N p hp).2⟩
  exact codeAny_compStart_list (run _ rfl) (W.self 0 _ _ _ hst₁ (run _ rfl))
structure RestX (prog : Program) (w : World) (A : Around) (base h₀ : Heap) (L : Addr) (m : Str → Option Value) (env : Env) (outer : List Env) (E : Value → Shared → Prop) (elt : Expr) (x : Str) (scope : Scope) (cl : List (Str × Addr)) (K : Addr) (S : List (Addr × Obj) → Prop) (P : Nat → Value → Prop) (n : Nat) (s₂ : Shared) (news : List (Addr × Obj))
    (Inv : Nat → List Value → List (Addr × Obj) → Prop) : Prop where
  h0 : Inv 0 [] news
  sub : ∀ i ys nw, Inv i ys nw → ∀ p ∈ news, p ∈ nw
  turn : ∀ i ys nw v I oI C oC D m₂ h tk, i < n → Inv i ys nw → P i v → NsObj oC m₂ → m₂ x = some v → Fr h₀ L h m → News h₀ L h ((I, oI) :: (C, oC) :: (D, lst ys) :: nw) → Off3 I C D nw → ((@Ne Nat I C) ∧ (@Ne Nat I D) ∧ (@Ne Nat C D)) →
      wpAny (model prog w) A (eval elt (compEnvC scope cl C env)) (CompTurn h₀ L m { s₂ with heap := h, toks := tk } I oI C oC D (lst ys) S (fun y nw' => Inv (i + 1) (ys ++ [y]) nw')) (RaisesAt base h₀ L m (env :: outer) K ((I, oI) :: (C, oC) :: (D, lst ys) :: nw) { s₂ with heap := h, toks := tk }) { s₂ with heap := h, toks := tk }
  raise : ∀ e s', RaisesAt base h₀ L m (env :: outer) K news s₂ e s' → E e s'
  no : ∀ ys nw, ¬ Inv n ys nw
noncomputable def SrcX (A : Around) (h₀ : Heap) (L : Addr) (m : Str → Option Value) (R : Shared → Addr → Array Value → List (Addr × Obj) → Prop) (xv : Value) (s₁ : Shared) : Prop :=
  ∃ ax its news, xv = .ref ax ∧ A.handled = none ∧ Fr h₀ L s₁.heap m ∧ News h₀ L s₁.heap news ∧ SrcAt h₀ ax its news ∧ its.size ≤ sizeLine ∧ ∀ s₂ : Shared, (∃ h, s₂ = { s₁ with heap := h }) → R s₂ ax its news
theorem SrcX.ledger {R : Shared → Addr → Array Value → List (Addr × Obj) → Prop} {ax : Addr} {its : Array Value} {k : Nat} {s₁ : Shared} {news : List (Addr × Obj)} (hh : A.handled = none) (F : Fr h₀ L s₁.heap m) (N : News h₀ L s₁.heap news) (hm : (ax, ({ cls := .type "list", data := .seq its k } : Obj)) ∈ news) (hsz : its.size ≤ sizeLine) (h : ∀ g, R { s₁ with heap := g } ax its news) : SrcX A h₀ L m R (.ref ax) s₁ :=
  ⟨ax, its, news, rfl, hh, F, N, .inr ⟨_, hm, rfl, _, rfl⟩, hsz, fun _ ⟨g, e⟩ => e ▸ h g⟩
theorem src_X {elt iter : Expr} {x : Str} {px : Pos} {scope : Scope} {cl : List (Str × Addr)} {pos : Pos} {K : Addr} {Q : Value → Shared → Prop} {use : Option (Value → Sem Unit)} {xv : Value} {s₁ : Shared} (hfr : A.frames = some (env :: outer)) (hf : env.frame = some L)
    (hcell : ∀ y ∈ scope.names, y.2 ≠ .cell) (hkind : scope.kind = .function) (hx : scope.names.lookup x = some .local)
    (h₁ : SrcX A h₀ L m (fun s₂ ax its news => ∃ Inv, RestX prog w A base h₀ L m env outer E elt x scope cl K (SrcAt h₀ ax its) (fun i v => its[i]? = some v) its.size s₂ news Inv) xv s₁) :
    wpAny (model prog w) A (pyIter xv) (fun it s₂ => wpAny (model prog w) A (newList []) (fun acc s₃ => wpAny (model prog w) A (newFunctionEnv scope env.globals cl [] env.qual none .none (some env)) (fun cenv s₄ =>
      codeAny (model prog w) A (.compStart (.ListComp elt [⟨.Name x px, iter, [], 0⟩] scope pos) 0 it acc { cenv with scope := relabel scope env }) (compPost (model prog w) A E use Q acc cenv.locals) s₄) E s₃) E s₂) E s₁ := by
  obtain ⟨ax, its, news, rfl, hh, F, N, S, hsz, R⟩ := h₁
  obtain ⟨Inv, R⟩ := R _ ⟨_, rfl⟩
  have hl := S.list F.keep N
  have hlt : ax < s₁.heap.objs.size := by obtain ⟨_, e, _⟩ := hl; exact Heap.lt_size e
  refine wpAny_pyIter_list hl ?_
  have up : ∀ b o, s₁.heap.get? b = some o → (s₁.heap.push { cls := .type "list_iterator", data := .fields #[.ref ax, .int 0 0] }).get? b = some o := fun b o e => Heap.get?_push_of_some _ e
  refine block_X Inv (Walks.list hh s₁.heap.objs.size ax (Nat.ne_of_lt hlt) its) hsz (fun i h st => by obtain ⟨o, e, _⟩ := st.1; exact ⟨o, e⟩) list_st hcell hkind hx ⟨⟨_, Heap.get?_push_size _ rfl, rfl, rfl⟩, hl.push _⟩ (fun b hb => ?_)
    (F.keeps up) (N.grown up) (Nat.ne_of_lt F.ns.lt) (next_is_new F) (fun p hp => Nat.ne_of_lt (Heap.lt_size (N p hp).1)) S hfr hf R.h0 R.sub R.turn R.raise R.no
  show b < (s₁.heap.push _).objs.size
  rw [Heap.size_push]
  rcases List.mem_cons.mp hb with rfl | hb
  · exact Nat.lt_succ_self _
  · rw [List.mem_singleton.mp hb]; exact Nat.lt_succ_of_lt hlt
theorem ListComp_X {elt iter : Expr} {x : Str} {px : Pos} {scope : Scope} {cl : List (Str × Addr)} {pos : Pos} {K : Addr} {Q : Value → Shared → Prop} (_F₀ : Fr h₀ L s.heap m) (hfr : A.frames = some (env :: outer)) (hf : env.frame = some L)
    (hclos : closureFor scope env = pure cl) (hcell : ∀ y ∈ scope.names, y.2 ≠ .cell) (hkind : scope.kind = .function)
    (hnames : ∀ y ∈ scope.names, y.2 = .local → scope.names.lookup y.1 = some .local) (hx : scope.names.lookup x = some .local)
    (h : wpAny (model prog w) A (eval iter env) (SrcX A h₀ L m (fun s₂ ax its news => ∃ Inv, RestX prog w A base h₀ L m env outer E elt x scope cl K (SrcAt h₀ ax its) (fun i v => its[i]? = some v) its.size s₂ news Inv)) E s)
    (hs : ∀ x, foldedSetIterable iter env x = pure x := by intro _; rfl) :
    wpAny (model prog w) A (eval (.ListComp elt [⟨.Name x px, iter, [], 0⟩] scope pos) env) Q E s := by
  rw [eval_ListComp]
  exact wpAny_comprehension_free (use := none) rfl hs hclos hkind hnames (wpAny_mono h (fun xv s₁ h₁ => src_X hfr hf hcell hkind hx h₁) fun _ _ e => e)
theorem Assign_ListComp_X {elt iter : Expr} {x y : Str} {px py : Pos} {scope : Scope} {cl : List (Str × Addr)} {pos spos : Pos} {K : Addr} {Q : Flow → Shared → Prop} (_F₀ : Fr h₀ L s.heap m) (hfr : A.frames = some (env :: outer)) (hf : env.frame = some L)
    (hsw : swapsWith (.ListComp elt [⟨.Name x px, iter, [], 0⟩] scope pos) (some (.Name y py)) spos.line env = pure true)
    (hclos : closureFor scope env = pure cl) (hcell : ∀ z ∈ scope.names, z.2 ≠ .cell) (hkind : scope.kind = .function)
    (hnames : ∀ z ∈ scope.names, z.2 = .local → scope.names.lookup z.1 = some .local) (hx : scope.names.lookup x = some .local)
    (h : wpAny (model prog w) A (eval iter env) (SrcX A h₀ L m (fun s₂ ax its news => ∃ Inv, RestX prog w A base h₀ L m env outer E elt x scope cl K (SrcAt h₀ ax its) (fun i v => its[i]? = some v) its.size s₂ news Inv)) E s)
    (hs : ∀ x, foldedSetIterable iter env x = pure x := by intro _; rfl) :
    wpAny (model prog w) A (exec (.Assign [.Name y py] (.ListComp elt [⟨.Name x px, iter, [], 0⟩] scope pos) spos) env) Q E s := by
  rw [exec_Assign_Name_used _ _ _ _ hsw]
  refine wpAny_bind (wpAny_standAt (wpAny_bind ?_))
  show wpAny _ A (do let _ ← comprehension (.ListComp elt [⟨.Name x px, iter, [], 0⟩] scope pos) scope env _ (newList []) false (eval iter env) (some (assign (.Name y py) env))) _ _ s
  exact wpAny_bind (wpAny_mono (wpAny_comprehension_free (use := some (assign (.Name y py) env)) (Q := fun _ _ => False) rfl hs hclos hkind hnames
    (wpAny_mono h (fun xv s₁ h₁ => src_X hfr hf hcell hkind hx h₁) fun _ _ e => e)) (fun _ s' hq => hq.elim) fun _ _ e => e)
theorem ListComp_XT {elt iter : Expr} {x : Str} {px : Pos} {scope : Scope} {cl : List (Str × Addr)} {pos : Pos} {K : Addr} {Q : Value → Shared → Prop} (_F₀ : Fr h₀ L s.heap m) (hfr : A.frames = some (env :: outer)) (hf : env.frame = some L)
    (hclos : closureFor scope env = pure cl) (hcell : ∀ y ∈ scope.names, y.2 ≠ .cell) (hkind : scope.kind = .function)
    (hnames : ∀ y ∈ scope.names, y.2 = .local → scope.names.lookup y.1 = some .local) (hx : scope.names.lookup x = some .local)
    (h : wpAny (model prog w) A (eval iter env) (SrcT prog w A h₀ L m (fun s₂ ax its news => ∃ Inv, RestX prog w A base h₀ L m env outer E elt x scope cl K (TupAt ax its) (fun i v => its[i]? = some v) its.size s₂ news Inv)) E s)
    (hs : ∀ x, foldedSetIterable iter env x = pure x := by intro _; rfl) :
    wpAny (model prog w) A (eval (.ListComp elt [⟨.Name x px, iter, [], 0⟩] scope pos) env) Q E s := by
  rw [eval_ListComp]
  refine wpAny_comprehension_free (use := none) rfl hs hclos hkind hnames (wpAny_mono h (fun xv s₁ h₁ => ?_) fun _ _ e => e)
  obtain ⟨ax, its, news, rfl, hh, F, N, S, hsz, R⟩ := h₁
  obtain ⟨Inv, R⟩ := R _ ⟨_, rfl⟩
  have hl := S.tup N
  have hlt : ax < s₁.heap.objs.size := by obtain ⟨_, e, _⟩ := hl; exact Heap.lt_size e
  refine wpAny_pyIter_tuple hl ?_
  have up : ∀ b o, s₁.heap.get? b = some o → (s₁.heap.push { cls := .type "tuple_iterator", data := .fields #[.ref ax, .int 0 0] }).get? b = some o := fun b o e => Heap.get?_push_of_some _ e
  refine block_X Inv (Walks.tuple hh s₁.heap.objs.size ax (Nat.ne_of_lt hlt) its) hsz (fun i h st => by obtain ⟨o, e, _⟩ := st.1; exact ⟨o, e⟩) tupiter_st hcell hkind hx ⟨⟨_, Heap.get?_push_size _ rfl, rfl, rfl⟩, hl.at fun o e => Heap.get?_push_of_some _ e⟩ (fun b hb => ?_)
    (F.keeps up) (N.grown up) (Nat.ne_of_lt F.ns.lt) (next_is_new F) (fun p hp => Nat.ne_of_lt (Heap.lt_size (N p hp).1)) S hfr hf R.h0 R.sub R.turn R.raise R.no
  show b < (s₁.heap.push _).objs.size
  rw [Heap.size_push]
  rcases List.mem_cons.mp hb with rfl | hb
  · exact Nat.lt_succ_self _
  · rw [List.mem_singleton.mp hb]; exact Nat.lt_succ_of_lt hlt
theorem restX_tup {elt : Expr} {x : Str} {scope : Scope} {cl : List (Str × Addr)} {K : Addr} {S : List (Addr × Obj) → Prop} {vs : List Value} {ns : List Int} {news : List (Addr × Obj)} {s₂ : Shared} (gd : Int → Prop) (hi : IntsAre vs ns) (hS : S news)
    (turn : ∀ k u ys I oI C oC D m₂ h tk, k ∈ ns → NsObj oC m₂ → m₂ x = some (.int k u) → Fr h₀ L h m → News h₀ L h ((I, oI) :: (C, oC) :: (D, lst ys) :: news) → Off3 I C D news → ((@Ne Nat I C) ∧ (@Ne Nat I D) ∧ (@Ne Nat C D)) →
      wpAny (model prog w) A (eval elt (compEnvC scope cl C env)) (CompTurn h₀ L m { s₂ with heap := h, toks := tk } I oI C oC D (lst ys) (fun _ => True) (fun _ nw' => nw' = news ∧ gd k)) (RaisesAt base h₀ L m (env :: outer) K ((I, oI) :: (C, oC) :: (D, lst ys) :: news) { s₂ with heap := h, toks := tk }) { s₂ with heap := h, toks := tk })
    (hE : ∀ e s', RaisesAt base h₀ L m (env :: outer) K news s₂ e s' → E e s') (hno : ¬ ∀ k ∈ ns, gd k) :
    ∃ Inv, RestX prog w A base h₀ L m env outer E elt x scope cl K S (fun i v => vs.toArray[i]? = some v) vs.toArray.size s₂ news Inv := by
  have hl := hi.length
  refine ⟨fun i _ nw => nw = news ∧ ∀ k ∈ ns.take i, gd k, ⟨rfl, fun _ h => by simp at h⟩, fun i ys nw h => by rw [h.1]; exact fun _ h => h, ?_, hE, fun ys nw h => hno (by rw [List.size_toArray, hl, List.take_length] at h; exact h.2)⟩
  rintro i ys nw v I oI C oC D m₂ h tk hlt ⟨rfl, hb⟩ hv hC hx F N off ne
  obtain ⟨k, u, e, hk⟩ := IntsAre.at hi i v (by simpa using hv)
  subst e
  refine wpAny_mono (turn k u ys I oI C oC D m₂ h tk (List.mem_of_getElem? hk) hC hx F N off ne) (fun y s₃ hq => ?_) fun _ _ e => e
  obtain ⟨h', tk', nw', e, F', N', off', _, hn, hy⟩ := hq
  subst hn
  refine ⟨h', tk', _, e, F', N', off', hS, rfl, ?_⟩
  rw [show ns.take (i + 1) = ns.take i ++ [k] by simp [List.take_add_one, hk]]
  intro j hj
  rcases List.mem_append.mp hj with hj | hj
  · exact hb j hj
  · rw [List.mem_singleton.mp hj]; exact hy
theorem restX_list {elt : Expr} {x : Str} {scope : Scope} {cl : List (Str × Addr)} {K : Addr} {S : List (Addr × Obj) → Prop} {vs : List Value} {news : List (Addr × Obj)} {s₂ : Shared} (gd : Nat → Prop) (hS : ∀ nw, (∀ p ∈ news, p ∈ nw) → S nw)
    (turn : ∀ i v ys nw I oI C oC D m₂ h tk, vs[i]? = some v → (∀ p ∈ news, p ∈ nw) → (∀ j, j < i → gd j) → NsObj oC m₂ → m₂ x = some v → Fr h₀ L h m → News h₀ L h ((I, oI) :: (C, oC) :: (D, lst ys) :: nw) → Off3 I C D nw → ((@Ne Nat I C) ∧ (@Ne Nat I D) ∧ (@Ne Nat C D)) →
      wpAny (model prog w) A (eval elt (compEnvC scope cl C env)) (CompTurn h₀ L m { s₂ with heap := h, toks := tk } I oI C oC D (lst ys) (fun _ => True) (fun _ nw' => (∀ p ∈ nw, p ∈ nw') ∧ gd i)) (RaisesAt base h₀ L m (env :: outer) K ((I, oI) :: (C, oC) :: (D, lst ys) :: nw) { s₂ with heap := h, toks := tk }) { s₂ with heap := h, toks := tk })
    (hE : ∀ e s', RaisesAt base h₀ L m (env :: outer) K news s₂ e s' → E e s') (hno : ¬ ∀ i, i < vs.length → gd i) :
    ∃ Inv, RestX prog w A base h₀ L m env outer E elt x scope cl K S (fun i v => vs.toArray[i]? = some v) vs.toArray.size s₂ news Inv := by
  refine ⟨fun i _ nw => (∀ p ∈ news, p ∈ nw) ∧ ∀ j, j < i → gd j, ⟨fun _ h => h, fun _ h => absurd h (Nat.not_lt_zero _)⟩, fun i ys nw h => h.1, ?_, hE, fun ys nw h => hno (by rw [List.size_toArray] at h; exact h.2)⟩
  rintro i ys nw v I oI C oC D m₂ h tk hlt ⟨hs, hb⟩ hv hC hx F N off ne
  refine wpAny_mono (turn i v ys nw I oI C oC D m₂ h tk (by simpa using hv) hs hb hC hx F N off ne) (fun y s₃ hq => ?_) fun _ _ e => e
  obtain ⟨h', tk', nw', e, F', N', off', _, hn, hy⟩ := hq
  refine ⟨h', tk', _, e, F', N', off', hS _ fun p hp => hn p (hs p hp), fun p hp => hn p (hs p hp), fun j hj => ?_⟩
  rcases Nat.lt_succ_iff_lt_or_eq.mp hj with hj | rfl
  · exact hb j hj
  · exact hy
end
end Mine
namespace Mine
open PySem PySem.W PyProof.Rows PySem.Spec PySem.Calls
noncomputable def Cr (prog : Program) (w : World) (K : Frag) (p : Program) (loose : List Str) (mean : ExcName → Option Value) (mg mb : Str → Option Value) (f : Addr) (sz : Nat) (vs : List Value) (P : Heap → List (Addr × Obj) → Prop) (C : Addr) : Prop :=
  ∀ (dp un : Nat) (gd : Option (List Code)) (cn : Str) (cs : Scope) (a : Addr) (ccd : Value) (cl : List (Str × Addr)) (outer : List Env) (A₀ : Around) (base h₀ : Heap) (L : Addr) (m : Str → Option Value) (news : List (Addr × Obj)) (s : Shared) (Q E : Value → Shared → Prop),
    Below A₀ base outer h₀ → Fr h₀ L s.heap m → K.In h₀ → News h₀ L s.heap news → Top p loose mean mg mb h₀ → cs.kind = .function → dp + sz < recursionLimit → un + 8 * sz < cLine → P h₀ news →
    (∀ e s', RaisesS base h₀ L m (envX cn cs L a ccd cl :: outer) C news s e s' → E e s') →
    wpAny (model prog w) (ktrTop dp un gd cn cs L a ccd cl outer) (call (.ref f) vs) Q E s
theorem Cr.use {prog : Program} {w : World} {K : Frag} {p : Program} {loose : List Str} {mean : ExcName → Option Value} {mg mb : Str → Option Value} {f : Addr} {sz : Nat} {vs : List Value} {P : Heap → List (Addr × Obj) → Prop} {C : Addr} (H : Cr prog w K p loose mean mg mb f sz vs P C)
    {dp un : Nat} {gd : Option (List Code)} {cn : Str} {cs : Scope} {a : Addr} {ccd : Value} {cl : List (Str × Addr)} {outer : List Env} {A₀ : Around} {base h₀ : Heap} {L : Addr} {m : Str → Option Value} {news : List (Addr × Obj)} {s : Shared} {Q E : Value → Shared → Prop}
    (B : Below A₀ base outer h₀ := by k_asm) (F : Fr h₀ L s.heap m := by k_asm) (X : K.In h₀ := by k_asm) (N : News h₀ L s.heap news := by k_asm) (T : Top p loose mean mg mb h₀ := by k_asm) (hk : cs.kind = .function := by first | exact rfl | assumption) (hd : dp + sz < recursionLimit := by first | assumption | omega | ktr_room) (hu : un + 8 * sz < cLine := by first | assumption | omega | ktr_units) (hp : P h₀ news := by first | trivial | k_mem)
    (raise : ∀ e s', RaisesS base h₀ L m (envX cn cs L a ccd cl :: outer) C news s e s' → E e s') :
    wpAny (model prog w) (ktrTop dp un gd cn cs L a ccd cl outer) (call (.ref f) vs) Q E s := H _ _ _ _ _ _ _ _ _ _ _ _ _ _ _ _ _ _ B F X N T hk hd hu hp raise
theorem cr_new {M : Model} {A : Around} {E' : Value → Shared → Prop} {s₀ : Shared} {base h₀ g h : Heap} {l : List Env} {L L' a e C : Addr} {m m' : Str → Option Value} {name : Str} {scope : Scope} {cd : Value} {vs : List Value} {news all : List (Addr × Obj)} {E : Value → Shared → Prop} {tk : Nat} {hp : Heap}
    (hraise : ∀ e s', RaisesS base h₀ L m l C news s₀ e s' → E e s') (K : Below A base l g) (hx : Heap.MadeExcOf h hp e (.ref C) vs) (F : Fr g L' h m') (N : News g L' h all) (FG : Fr h₀ L g m) (hs : ∀ p ∈ news, p ∈ all) (hk : scope.kind = .function := by rfl) :
    wpAny M (A.deeper (envOf name scope L' a cd)) (leaving (envOf name scope L' a cd) (.ref e)) (fun _ s'' => E (.ref e) s'') E' { s₀ with heap := hp, toks := tk } :=
  leave_raiseS K hx F N (fun h' t R _ up => hraise _ _ ⟨g, e, t, vs, h', tk, rfl, rfl, FG, raisedS_less R hs, up⟩) hk
theorem leave_raiseC {M : Model} {A : Around} {E : Value → Shared → Prop} {s' : Shared} {base g h : Heap} {outer : List Env} {L a e : Addr} {m : Str → Option Value} {name : Str} {scope : Scope} {cd cls : Value} {vs : List Value} {news : List (Addr × Obj)} {Q : Unit → Shared → Prop} (K : Below A base outer g) (hx : Heap.MadeExcOf h s'.heap e cls vs) (F : Fr g L h m) (N : News g L h news)
    (hQ : ∀ h' t, RaisedS base g outer e cls t vs news h' → g.UpToSlots h' → Q () { s' with heap := h' }) (hk : scope.kind = .function) :
    wpAny M (A.deeper (envOfC name scope L a cd)) (leaving (envOfC name scope L a cd) (.ref e)) Q E s' := by
  have hnew : base.get? L = none := by
    cases hq : base.get? L with
    | none => rfl
    | some o => exact absurd (Nat.lt_of_lt_of_le (Heap.lt_size (K.stays L o hq)) F.above) (Nat.lt_irrefl _)
  have K' : Below (A.deeper (envOfC name scope L a cd)) base (envOfC name scope L a cd :: outer) h := ⟨Around.frames_deeper K.stack, fun b o q => F.keep b o (K.stays b o q), .cons (by show scope.kind ≠ .module; rw [hk]; decide) rfl F.ns hnew (K.frames.of_keeps fun b o q _ => ⟨o, F.keep b o q, rfl⟩)⟩
  have hin : ∀ env ∈ (envOfC name scope L a cd :: outer), ∀ b, env.frame = some b → b ∈ (envOfC name scope L a cd :: outer).filterMap (·.frame) := fun env he b hb => List.mem_filterMap.mpr ⟨env, he, hb⟩
  have atm : ∀ b, b ∈ (envOfC name scope L a cd :: outer).filterMap (·.frame) → b = L ∨ b ∈ outer.filterMap (·.frame) := fun b hm => by
    obtain ⟨env, he, hf⟩ := List.mem_filterMap.mp hm
    rcases List.mem_cons.mp he with rfl | he
    · exact .inl (Option.some.inj hf).symm
    · exact .inr (List.mem_filterMap.mpr ⟨env, he, hf⟩)
  have st : base.StaysIn (hideAll h ((envOfC name scope L a cd :: outer).filterMap (·.frame))) := fun b o q => hideAll_get _ (K'.stays b o q) fun hm => by
    rw [(K'.frames.mem hm).1] at q; cases q
  have sg : ∀ b o, g.get? b = some o → b ∉ outer.filterMap (·.frame) → (hideAll h ((envOfC name scope L a cd :: outer).filterMap (·.frame))).get? b = some o := fun b o q nm => hideAll_get _ (F.keep b o q) fun hm => by
    rcases atm b hm with z | z
    · rw [z, kts_self F] at q
      cases q
    · exact nm z
  have hl : ∀ q ∈ news, (hideAll h ((envOfC name scope L a cd :: outer).filterMap (·.frame))).get? q.1 = some q.2 ∧ g.get? q.1 = none ∧ base.get? q.1 = none := fun q hq => by
    refine ⟨hideAll_get _ (N q hq).1 fun hm => ?_, (N q hq).2.2, fresh_of_stays K.stays (N q hq).2.2⟩
    rcases atm _ hm with z | z
    · exact (N q hq).2.1 z
    · obtain ⟨o, ho, _⟩ := (K.frames.mem z).2
      rw [(N q hq).2.2] at ho; cases ho
  exact wpAny_leaves_madeW K'.stack rfl (fun b o q => of_hideAll _ q) (funFrames_hide K'.frames hin) hx fun h' t x1 x2 x3 x4 =>
    hQ h' t ⟨⟨_, st, sg, hl, x1, x3⟩, x2⟩ (((Heap.UpToSlots.of_keeps F.keep).trans (Heap.UpToSlots.of_keeps hx.keeps)).trans x4)
theorem cr_newC {M : Model} {A : Around} {E' : Value → Shared → Prop} {s₀ : Shared} {base h₀ g h : Heap} {l : List Env} {L L' a e C : Addr} {m m' : Str → Option Value} {name : Str} {scope : Scope} {cd : Value} {vs : List Value} {news all : List (Addr × Obj)} {E : Value → Shared → Prop} {tk : Nat} {hp : Heap}
    (hraise : ∀ e s', RaisesS base h₀ L m l C news s₀ e s' → E e s') (K : Below A base l g) (hx : Heap.MadeExcOf h hp e (.ref C) vs) (F : Fr g L' h m') (N : News g L' h all) (FG : Fr h₀ L g m) (hs : ∀ p ∈ news, p ∈ all) (hk : scope.kind = .function := by rfl) :
    wpAny M (A.deeper (envOfC name scope L' a cd)) (leaving (envOfC name scope L' a cd) (.ref e)) (fun _ s'' => E (.ref e) s'') E' { s₀ with heap := hp, toks := tk } :=
  leave_raiseC K hx F N (fun h' t R up => hraise _ _ ⟨g, e, t, vs, h', tk, rfl, rfl, FG, raisedS_less R hs, up⟩) hk
theorem cr_on {M : Model} {A : Around} {E' : Value → Shared → Prop} {s₀ s₁ : Shared} {base h₀ g : Heap} {env : Env} {l : List Env} {L L' C : Addr} {m m' : Str → Option Value} {news all : List (Addr × Obj)} {E : Value → Shared → Prop} {e : Value} {h₁ : Heap} {tk₁ : Nat}
    (hraise : ∀ e s', RaisesS base h₀ L m l C news s₀ e s' → E e s') (hf : env.frame = some L') (K : Below A base l g) (R : RaisesAt base g L' m' (env :: l) C all { s₀ with heap := h₁, toks := tk₁ } e s₁) (FG : Fr h₀ L g m) (hs : ∀ p ∈ news, p ∈ all) :
    wpAny M (A.deeper env) (leaving env e) (fun _ s'' => E e s'') E' s₁ := by
  obtain ⟨g₂, ea, t, vs, h, tk, rfl, rfl, F₂, R, up⟩ := R
  exact leave_any hf K F₂ R up fun h' R' up' => hraise _ _ ⟨g, ea, t, vs, h', tk, rfl, rfl, FG, raisedS_less R' hs, up'⟩
theorem Raise_ownC {prog : Program} {w : World} {A : Around} {E : Value → Shared → Prop} {s : Shared} {env : Env} {L : Addr} {h₀ : Heap} {m mg : Str → Option Value} {x : Str} {C : Addr} {B newId initId : String} {bm : List Value} {np cpos pos : Pos} {Q : Flow → Shared → Prop} {e₀ : Expr} {rest : List Expr} (F : Fr h₀ L s.heap m) (hg : h₀.Ns mainGlobals mg) (O : OwnCls x C bm newId mg h₀) (FB : ExcBaseFacts B newId initId bm) (hh : A.handled = none)
    (h : wpAny (model prog w) A (spliced (backTo cpos (starEach (e₀ :: rest) env))) (fun vs s₂ => vs.length ≤ sizeLine ∧ (∀ b o, h₀.get? b = some o → s₂.heap.get? b = some o) ∧ ∀ h' e, Heap.MadeExcOf s₂.heap h' e (.ref C) vs → E (.ref e) { s₂ with heap := h' }) E s)
    (he : starEach (e₀ :: rest) env = (false, eval e₀ env) :: starEach rest env) (hplain : (backTo cpos (starEach rest env)).any (·.1) = false) (hk : env.scope.kind = .function) (hge : env.globals = mainGlobals) (hx : env.kindOf x = some .globalImplicit) (hd : (x == ("__debug__" : Str)) = false) :
    wpAny (model prog w) A (exec (.Raise (some (.Call (.Name x np) (e₀ :: rest) [] cpos)) none pos) env) Q E s := by
  obtain ⟨tl, N, nm, q, bs, hdct, sn, sub, ab, col, dd, k0, k1, k2, k3, k5, mN, hC, hN, hni, T⟩ := O.obj
  refine wpAny_Raise_call_subT (C := C) (nm := nm) (q := q) (N := N) (bs := bs) (bm := tl) (hdct := hdct) (sn := sn) (sub := sub) (ab := ab) (col := col) (dd := dd) (k0 := k0) (k1 := k1) (k2 := k2) (k3 := k3) (k5 := k5)
    FB (mN := mN) (T.hasType FB.hasBase) hh (by rw [he]; show (false || (backTo cpos (starEach rest env)).any (·.1)) = false; rw [hplain]; rfl) hni (Calls.Name_function_global hk hx (Calls.loadGlobal_global (env := env) (hge ▸ hg.keeps F.keep) O.bound ⟨rfl, ?_⟩) hd)
  rw [he] at h ⊢
  exact Calls.evalArgs_plain (wpAny_mono h (fun vs s₂ h₂ => ⟨rfl, h₂.1, h₂.2.1 _ _ hC, hN.keeps h₂.2.1, T.keeps h₂.2.1, h₂.2.2⟩) fun _ _ y => y)
end Mine
namespace Mine
open PySem PySem.W PyProof.Rows PySem.Spec PySem.Calls
section
variable {prog : Program} {w : World} {A : Around} {E : Value → Shared → Prop} {s : Shared} {env : Env} {h₀ : Heap} {x : Str} {px : Pos} {body : List Stmt} {Q : Flow → Shared → Prop}
theorem text_core {k : String} {tx : Str} {t : Tok} {m₀ : Str → Option Value} {news : List (Addr × Obj)} {I : Addr} {s₂ : Shared} (stored : List Str) (Inv : Nat → Prop) (W : Walks prog w A I [I] [I] tx.cps.size (SignAt tx) (fun i h => h.IsStrIter I k tx t i)) (hst : s₂.heap.IsStrIter I k tx t 0) (hIL : env.locals ≠ I) (hI₀ : h₀.get? I = none) (hIn : ∀ p ∈ news, p.1 ≠ I)
    (F : Fr h₀ env.locals s₂.heap m₀) (N : News h₀ env.locals s₂.heap news) (h0 : Inv 0)
    (turn : ∀ i c v (u : Str → Option Value) I o h tk, tx.cps[i]? = some c → Inv i → (∀ p ∈ news, p.1 ≠ I) → Fr h₀ env.locals h (kstB (fun z => if stored.contains z then u z else m₀ z) []) → News h₀ env.locals h ((I, o) :: news) →
      wpAny (model prog w) A (assign (.Name x px) env (.str ⟨#[c]⟩ v)) (fun _ s₃ => wpAny (model prog w) A (execs body env) (LoopTurn h₀ env.locals { s₂ with heap := h, toks := tk } I o (Still (σ := Unit) (fun _ => []) stored m₀ news (fun _ => Inv (i + 1))) Q) E s₃) E { s₂ with heap := h, toks := tk })
    (done : ∀ (u : Str → Option Value) h tk, Inv tx.cps.size → Fr h₀ env.locals h (kstB (fun z => if stored.contains z then u z else m₀ z) []) → News h₀ env.locals h news → Q .next { s₂ with heap := h, toks := tk }) :
    TurnsAt prog w A h₀ env (.Name x px) body Q E (.ref I) s₂ := by
  have fr : ∀ {h : Heap} {m₁ : Str → Option Value}, (∀ z, (∀ p ∈ ([] : List (Str × Value)), z ≠ p.1) → stored.contains z = false → m₁ z = m₀ z) → Fr h₀ env.locals h m₁ → Fr h₀ env.locals h (kstB (fun z => if stored.contains z then m₁ z else m₀ z) []) := fun h2 F => between_fr (List.forall_mem_nil _) h2 F
  refine ⟨I, [I], [I], tx.cps.size, _, _, _, m₀, news, fun i m nw => Still (σ := Unit) (fun _ => []) stored m₀ news (fun _ => Inv i) m nw, rfl, KTurns.ofWalks W fun i v s Q E _ q => wpAny_pure q, fun hm => hIL (List.mem_singleton.mp hm), fun b hb => by rw [List.mem_singleton.mp hb]; exact hI₀, fun p hp hm => hIn p hp (List.mem_singleton.mp hm), hst, F, N,
    ⟨rfl, (), List.forall_mem_nil _, fun _ _ _ => rfl, h0⟩, ?_, ?_⟩
  · rintro i v m₁ nw h₁ tk₁ own hi ⟨c, u, hc, rfl⟩ ⟨rfl, _, _, h2, hv⟩ _ hof hoh hown st F₁ N₁
    obtain ⟨o, ho, _⟩ := id st
    have hIo := hown I (.head _) hI₀ o ho
    have all : ∀ p ∈ own, p = (I, o) := fun p hp => by
      have e1 := List.mem_singleton.mp (hof p hp)
      have e2 := hoh p hp
      obtain ⟨a, b⟩ := p
      dsimp only at e1 e2
      subst e1
      rw [ho] at e2
      cases e2
      rfl
    refine wpAny_mono (turn i c u m₁ I o h₁ tk₁ hc hv hIn (fr h2 F₁) fun p hp => ?_) (fun _ s₃ q => wpAny_mono q (fun f s₄ p => ?_) fun _ _ e => e) fun _ _ e => e
    · rcases List.mem_cons.mp hp with rfl | hp
      · exact N₁ _ (List.mem_append.mpr (.inl hIo))
      · exact N₁ p (List.mem_append.mpr (.inr hp))
    · have go : UnrEndW h₀ env.locals { s₂ with heap := h₁, toks := tk₁ } [(I, o)] (Still (σ := Unit) (fun _ => []) stored m₀ nw (fun _ => Inv (i + 1))) s₄ →
          LoopStepU h₀ env.locals [I] own (fun m nw' => Still (σ := Unit) (fun _ => []) stored m₀ nw (fun _ => Inv (i + 1)) m nw') { s₂ with heap := h₁, toks := tk₁ } .next s₄ := by
        rintro ⟨h', tk', m', nw', e, F₃, N₃, off, b⟩
        refine ⟨rfl, h', tk', m', nw', e, F₃, fun p hp => ?_, fun p hp hm => off p hp _ (.head _) (List.mem_singleton.mp hm), b⟩
        rcases List.mem_append.mp hp with hp | hp
        · rw [all p hp]; exact N₃ _ (.head _)
        · exact N₃ p (.tail _ hp)
      cases f with
      | ret v => exact p
      | brk => exact p
      | next => exact go p
      | cont => exact go p
  · rintro h' tk m' nw F' N' _ ⟨rfl, _, _, h2, hv⟩
    exact done m' h' tk hv (fr h2 F') N'
theorem loop_text {tx : Str} {t : Tok} {m₀ : Str → Option Value} {news : List (Addr × Obj)} (stored : List Str) (Inv : Nat → Prop) (hh : A.handled = none) (F : Fr h₀ env.locals s.heap m₀) (N : News h₀ env.locals s.heap news) (h0 : Inv 0)
    (turn : ∀ i c v (u : Str → Option Value) I o h tk, tx.cps[i]? = some c → Inv i → (∀ p ∈ news, p.1 ≠ I) → Fr h₀ env.locals h (kstB (fun z => if stored.contains z then u z else m₀ z) []) → News h₀ env.locals h ((I, o) :: news) →
      wpAny (model prog w) A (assign (.Name x px) env (.str ⟨#[c]⟩ v)) (fun _ s₃ => wpAny (model prog w) A (execs body env) (LoopTurn h₀ env.locals { s with heap := h, toks := tk } I o (Still (σ := Unit) (fun _ => []) stored m₀ news (fun _ => Inv (i + 1))) Q) E s₃) E { s with heap := h, toks := tk })
    (done : ∀ (u : Str → Option Value) h tk, Inv tx.cps.size → Fr h₀ env.locals h (kstB (fun z => if stored.contains z then u z else m₀ z) []) → News h₀ env.locals h news → Q .next { s with heap := h, toks := tk }) :
    wpAny (model prog w) A (pyIter (.str tx t)) (fun it s₂ => TurnsAt prog w A h₀ env (.Name x px) body Q E it s₂) E s := by
  cases ha : tx.cps.all (· < 128)
  · refine wpAny_pyIter_wide ha ?_
    exact text_core stored Inv (Walks.strWide hh s.heap.objs.size tx t) ⟨_, Heap.get?_push_size _ rfl, rfl, rfl⟩ (Nat.ne_of_lt F.ns.lt) (next_is_new F) (fun p hp => Nat.ne_of_lt (Heap.lt_size (N p hp).1)) (F.keeps fun _ _ e => Heap.get?_push_of_some _ e) (N.grown fun _ _ e => Heap.get?_push_of_some _ e) h0 turn done
  · refine wpAny_pyIter_ascii ha ?_
    exact text_core stored Inv (Walks.strAscii hh s.heap.objs.size tx t) ⟨_, Heap.get?_push_size _ rfl, rfl, rfl⟩ (Nat.ne_of_lt F.ns.lt) (next_is_new F) (fun p hp => Nat.ne_of_lt (Heap.lt_size (N p hp).1)) (F.keeps fun _ _ e => Heap.get?_push_of_some _ e) (N.grown fun _ _ e => Heap.get?_push_of_some _ e) h0 turn done
end
end Mine
namespace Mine
open PySem PySem.W PyProof.Rows PySem.Calls PySem.NumText
theorem wp_textL {M : Model} {A : Around} {E : Value → Shared → Prop} {s : Shared} {Q : Value → Shared → Prop} {v : Value} {text : List Nat} {n : Int} (hN : s.heap.NoDigits)
    (hs : ¬ (text.takeWhile (· != 0)).length ≤ 640) (hr : (int_private% "readNumeral") 4300 10 (text.takeWhile (· != 0)) = (int_private% "Numeral.value") n)
    (ha : ((text.takeWhile (· != 0)).length == text.length) = true) (h : Q (.int n s.toks) { s with toks := s.toks + 1 }) :
    wpAny M A ((int_private% "intFromText") v text 10) Q E s := by
  obtain ⟨mc, hns, hno⟩ := hN
  have lim : ∀ {Q' : Nat → Shared → Prop} {E' : Value → Shared → Prop}, Q' 4300 s → wpAny M A Builtin.intMaxStrDigits Q' E' s := fun h => by
    unfold Builtin.intMaxStrDigits
    refine wpAny_bind (wpAny_nsGet hns ?_)
    rw [hno]
    exact wpAny_pure h
  obtain ⟨hp, g, d, tk, os⟩ := s
  repeat (any_goals (first
    | assumption
    | (with_reducible refine wpAny_ite_false (decide_eq_false hs) ?_)
    | (with_reducible refine wpAny_ite_true (decide_eq_true ha) ?_)
    | (refine lim ?_)
    | wp_step))
  all_goals (try rw [hr])
  all_goals (try dsimp only)
  repeat (any_goals (first
    | assumption
    | (with_reducible refine wpAny_ite_true (decide_eq_true ha) ?_)
    | wp_step))
set_option maxHeartbeats 4000000 in
theorem new_textL {x : Str} {u : Tok} {n : Int} (hl : ¬ (numSeenOf x).length ≤ 640) (hx : x.length ≤ sizeLine) (hn : PySem.intText? x = some n) {M : Model} {A : Around} {E : Value → Shared → Prop} {s : Shared} {Q : Value → Shared → Prop} (hN : s.heap.NoDigits) (h : Q (.int n s.toks) { s with toks := s.toks + 1 }) :
    wpAny M A (Builtin.«int.__new__» ⟨[.type "int", .str x u], []⟩) (fun fin s' => ∃ v, fin = .done (.ret v) ∧ Q v s') E s := by
  obtain ⟨hp, g, d, tk, os⟩ := s
  have f1 := F.conv_sub_int
  have f2 := F.madeHere_int
  have f3 := KIN.str_int
  have f4 := KIN.str_idx
  have f5 := KIN.str_trunc
  have f6 : typeOf (.str x u) = pure (.type "str") := rfl
  have hr : (int_private% "readNumeral") 4300 10 (numSeenOf x) = (int_private% "Numeral.value") n ∧ ((numSeenOf x).length == (numTextOf x).length) = true := by
    rcases read4300 x hx with ⟨m, h1, h2, h3⟩ | ⟨h1, _⟩
    · rw [hn] at h1
      injection h1 with h1
      subst h1
      exact ⟨h3, h2⟩
    · rw [hn] at h1
      cases h1
  have hk := KIN.Hid.mk (And.intro hN (And.intro hl hr))
  clear hl hr hn hN
  repeat (any_goals (first
    | assumption
    | ((with_reducible show wpAny _ _ ((int_private% "intFromText") _ _ _) _ _ _); refine wp_textL hk.out.1 hk.out.2.1 hk.out.2.2.1 hk.out.2.2.2 ?_)
    | wp_step))
  all_goals first | exact ⟨_, rfl, h⟩ | skip
theorem call_figs {prog : Program} {w : World} {A : Around} {E : Value → Shared → Prop} {s : Shared} {Q : Value → Shared → Prop} {x : Str} {t : Tok} (hN : s.heap.NoDigits) (hd : AllDigits x.cps.toList) (hne : x.length ≠ 0) (hl : x.length ≤ 4300) (h : ∀ t k, Q (.int ((digitsVal x.cps.toList : Nat) : Int) t) { s with toks := k }) :
    wpAny (model prog w) A (call (.type "int") [.str x t]) Q E s := by
  have hn := intText_digits hd (fun q => hne (by show x.cps.size = 0; rw [← Array.length_toList, q]; rfl)) hl
  by_cases q : (numSeenOf x).length ≤ 640
  · have e := (numText_signs (x := x) fun c hc => .inr (hd c hc)).2
    refine KIN.call_text hn ?_ (h _ _)
    rw [e] at q
    exact q
  · exact call_int_1 (S := fun A R s => s.heap.NoDigits ∧ R (.ok (.ret (.int ((digitsVal x.cps.toList : Nat) : Int) s.toks))) { s with toks := s.toks + 1 }) (fun prog w A R s hs => wpAny_mono (new_textL q (by rw [sizeLine_eq]; omega) hn (Q := fun v s' => R (.ok (.ret v)) s') hs.1 hs.2) (fun fin s' h' => by obtain ⟨v, rfl, hv⟩ := h'; exact hv) fun _ _ e => e) ⟨hN, rfl, h _ _⟩
end Mine
namespace Mine
open PySem PySem.W PyProof.Rows
theorem ct_retB {h₀ h' : Heap} {L : Addr} {m : Str → Option Value} {news : List (Addr × Obj)} {s : Shared} {Q : Value → Shared → Prop} {tk' : Nat} {P : Prop} {x y : Bool}
    (hret : ∀ (t : Tok) (h' : Heap) (tk' : Nat), P → Fr h₀ L h' m → News h₀ L h' news → Q (.bool x) { s with heap := h', toks := tk' }) (hP : P) (e : y = x) (F : Fr h₀ L h' m) (N : News h₀ L h' news) : Q (.bool y) { s with heap := h', toks := tk' } := by
  subst e
  exact hret 0 h' tk' hP F N
noncomputable def within (x l m : Int) : Bool := decide (l ≤ x) && decide (x ≤ m)
noncomputable def inT (x : Str) (c : Nat) : Bool := !(Builtin.Str.occurrences x ⟨#[c]⟩ 0 x.length 1).isEmpty
noncomputable def SMALL : Str := Str.ofString "abcdefghijklmnopqrstuvwxyz"
noncomputable def nameOk (x : Str) : Bool := (decide (1 ≤ x.length) && decide (x.length ≤ 12)) && x.cps.toList.all (inT SMALL)
noncomputable def dueT (x : Str) (a b c d : Int) : Str :=
  if nameOk x = false then Str.ofString "name"
  else if (within a 0 1000000000000 && within b 0 1000000000000 && within c 0 1000000000000 && within d 0 1000000000000) = false then Str.ofString "letter"
  else if a > b ∨ c > d then Str.ofString "letter" else Str.ofString ""
end Mine
namespace Mine
open PySem PySem.W PyProof.Rows
theorem nameOk_len {x : Str} (h : x.length < 1 ∨ 12 < x.length) : nameOk x = false := by
  unfold nameOk
  rcases h with h | h
  · rw [decide_eq_false (show ¬ 1 ≤ x.length by omega)]; rfl
  · rw [decide_eq_false (show ¬ x.length ≤ 12 by omega)]; simp
theorem nameOk_sign {x : Str} {ds : List Dat} (he : ds = [] ↔ x.cps.toList.all (inT SMALL) = true) (h : ¬ ds = []) : nameOk x = false := by
  unfold nameOk
  rw [Bool.eq_false_iff.mpr fun q => h (he.mpr q)]; simp
theorem nameOk_yes {x : Str} {ds : List Dat} (h1 : 1 ≤ x.length) (h2 : x.length ≤ 12) (he : ds = [] ↔ x.cps.toList.all (inT SMALL) = true) (h : ds = []) : nameOk x = true := by
  unfold nameOk
  rw [decide_eq_true h1, decide_eq_true h2, he.mp h]; rfl
theorem dueT_name {x : Str} {a b c d : Int} (h : nameOk x = false) : Str.ofString "name" = dueT x a b c d := by unfold dueT; rw [if_pos h]
theorem dueT_l {x : Str} {a b c d : Int} (h : nameOk x = true) (h2 : a < 0 ∨ 1000000000000 < a ∨ b < 0 ∨ 1000000000000 < b ∨ c < 0 ∨ 1000000000000 < c ∨ d < 0 ∨ 1000000000000 < d ∨ b < a ∨ d < c) : Str.ofString "letter" = dueT x a b c d := by
  unfold dueT
  rw [if_neg (by rw [h]; decide)]
  by_cases hw : (within a 0 1000000000000 && within b 0 1000000000000 && within c 0 1000000000000 && within d 0 1000000000000) = false
  · rw [if_pos hw]
  · rw [if_neg hw]
    have hw' : (within a 0 1000000000000 && within b 0 1000000000000 && within c 0 1000000000000 && within d 0 1000000000000) = true := (Bool.not_eq_false _).mp hw
    unfold within at hw'
    simp only [Bool.and_eq_true, decide_eq_true_eq] at hw'
    rw [if_pos (by omega)]
theorem dueT_e {x : Str} {a b c d : Int} (h : nameOk x = true) (h2 : (0 ≤ a ∧ a ≤ 1000000000000) ∧ (0 ≤ b ∧ b ≤ 1000000000000) ∧ (0 ≤ c ∧ c ≤ 1000000000000) ∧ (0 ≤ d ∧ d ≤ 1000000000000) ∧ a ≤ b ∧ c ≤ d) : Str.ofString "" = dueT x a b c d := by
  unfold dueT within
  rw [if_neg (by rw [h]; decide), if_neg (by simp; omega), if_neg (by omega)]
theorem eq_self {prog : Program} {w : World} {A : Around} {E : Value → Shared → Prop} {s : Shared} {h₀ : Heap} {L : Addr} {news : List (Addr × Obj)} {v : Value} {d : Dat} {Q : Value → Shared → Prop} (N : News h₀ L s.heap news) (D : DatIn news v d) (hk : kqdOk 8 d = true) (hu : A.units + 64 < cLine) (h : Q (.bool true) s) : wpAny (model prog w) A (compareOp .Eq v v) Q E s := by
  obtain ⟨as, ra⟩ := kqd_in N 8 D hk
  have la := kqd_lay 8 d hk
  have e : PyData.eqv (kqdP d) (kqdP d) = true := (kqd_eqv 8 d d 8 hk hk).mpr rfl
  have sh : SeqAt.shaped (kqdP d) = true := by
    unfold SeqAt.shaped; rw [la.1, Bool.true_and]; exact decide_eq_true (Nat.le_trans la.2 (by decide))
  exact eq_dataH ra ra sh sh hu (by rw [e]; exact h)
end Mine
namespace Mine
open PySem PySem.W PyProof.Rows
theorem inT_no {c : Nat} (h : (Builtin.Str.occurrences (Str.ofString "abcdefghijklmnopqrstuvwxyz") { cps := #[c] } 0 (Str.ofString "abcdefghijklmnopqrstuvwxyz").length 1).isEmpty = true) : inT SMALL c = false := by
  unfold inT SMALL; rw [h]; rfl
theorem inT_yes {c : Nat} (h : (Builtin.Str.occurrences (Str.ofString "abcdefghijklmnopqrstuvwxyz") { cps := #[c] } 0 (Str.ofString "abcdefghijklmnopqrstuvwxyz").length 1).isEmpty = false) : inT SMALL c = true := by
  unfold inT SMALL; rw [h]; rfl
open Classical in
theorem ne_nil {prog : Program} {w : World} {A : Around} {E : Value → Shared → Prop} {s : Shared} {h₀ : Heap} {L a b : Addr} {news : List (Addr × Obj)} {oa ob : Obj} {xs : List Value} {ka kb : Nat} {ds : List Dat} {Q : Value → Shared → Prop} (N : News h₀ L s.heap news) (ma : (a, oa) ∈ news) (ca : oa.cls = .type "list") (da : oa.data = .seq xs.toArray ka) (Da : DatAll [] xs ds)
    (mb : (b, ob) ∈ news) (cb : ob.cls = .type "list") (db : ob.data = .seq ([] : List Value).toArray kb) (ha : ∀ d ∈ ds, kqdOk 8 d = true) (hu : A.units + 64 < cLine) (h : Q (.bool (!decide (ds = []))) s) : wpAny (model prog w) A (compareOp .NotEq (.ref a) (.ref b)) Q E s :=
  kqd_ne (n₁ := []) (n₂ := []) N ma ca da Da (fun _ h => nomatch h) mb cb db .nil (fun _ h => nomatch h) ha (fun _ h => nomatch h) hu h
end Mine
namespace Mine
open PySem PySem.W PyProof.Rows
theorem tup_from1 {prog : Program} {w : World} {A : Around} {E : Value → Shared → Prop} {s : Shared} {h₀ : Heap} {L t : Addr} {m : Str → Option Value} {news : List (Addr × Obj)} {value slice : PySem.Expr} {v0 v1 v2 v3 v4 : Value} {n : Nat} {u : Tok} {Q : Value → Shared → Prop}
    (F : Fr h₀ L s.heap m) (N : News h₀ L s.heap news) (hm : (t, ({ cls := .type "tuple", data := .seq #[v0, v1, v2, v3, v4] n } : Obj)) ∈ news)
    (h : ∀ D h', Fr h₀ L h' m → News h₀ L h' ((D, { cls := .type "tuple", data := .seq #[v1, v2, v3, v4] }) :: news) → (∀ p ∈ news, p.1 < D) → Q (.ref D) { s with heap := h' })
    (hs : subscripted slice false (.ref t) (.ref s.heap.objs.size) = operate [.ref s.heap.objs.size, .ref t] (getItem (.ref t) (.ref s.heap.objs.size)) := by with_unfolding_all rfl)
    (hg : ∀ r, letTemporaryGo value (.ref t) r = pure () := by intro _; with_unfolding_all rfl) :
    wpAny (model prog w) A (subscriptTail value slice (.ref t) (.ref s.heap.objs.size)) Q E { s with heap := s.heap.push { cls := .type "slice", data := .fields #[.int 1 u, .none, .none] } } :=
  slice_tuple_from (a := 1) F N (News.isTup N hm) (by decide) (by show 1 ≤ 5; decide) (fun h' F' N' => h _ h' F' N' fun p hp => Nat.lt_succ_of_lt (Heap.lt_size (N p hp).1)) hs hg (by show 5 ≤ sizeLine; rw [sizeLine_eq]; decide)
end Mine
namespace Mine
open PySem PySem.W PyProof.Rows
theorem dueT_w {x : Str} {a b c d : Int} (hn : nameOk x = true) (hw : (within a 0 1000000000000 && (within b 0 1000000000000 && (within c 0 1000000000000 && within d 0 1000000000000))) = false) : Str.ofString "letter" = dueT x a b c d := by
  unfold dueT
  rw [if_neg (by rw [hn]; decide), if_pos (by rw [Bool.and_assoc, Bool.and_assoc]; exact hw)]
theorem dueT_o {x : Str} {a b c d : Int} (hn : nameOk x = true) (hw : (within a 0 1000000000000 && (within b 0 1000000000000 && (within c 0 1000000000000 && within d 0 1000000000000))) = true) (h : b < a ∨ d < c) : Str.ofString "letter" = dueT x a b c d := by
  unfold dueT
  rw [if_neg (by rw [hn]; decide), if_neg (by rw [Bool.and_assoc, Bool.and_assoc, hw]; decide), if_pos (by omega)]
theorem dueT_k {x : Str} {a b c d : Int} (hn : nameOk x = true) (hw : (within a 0 1000000000000 && (within b 0 1000000000000 && (within c 0 1000000000000 && within d 0 1000000000000))) = true) (h1 : a ≤ b) (h2 : c ≤ d) : Str.ofString "" = dueT x a b c d := by
  unfold dueT
  rw [if_neg (by rw [hn]; decide), if_neg (by rw [Bool.and_assoc, Bool.and_assoc, hw]; decide), if_neg (by omega)]
end Mine
namespace Mine
open PySem PySem.W PyProof.Rows PySem.Builtin PySem.Builtin.Str
theorem split_len (x y : Str) : (Txt.split x y).length ≤ x.length + 2 := by
  unfold Txt.split
  split
  · simp
  · split
    · simp
    · rw [length_partsBetween]
      have e := StrLaws.occ_length_le x y 0 x.length (x.length + 1)
      omega
theorem split_ne (x y : Str) : Txt.split x y ≠ [] := by
  unfold Txt.split
  split
  · simp
  · split
    · simp
    · rw [StrLaws.partsBetween_eq]
      obtain ⟨p, r, e⟩ := StrLaws.partsFrom_ne x y.length 0 (occurrences x y 0 x.length (x.length + 1))
      rw [e]; simp
theorem sub_ok {x : Str} (hx : PyData.strOk x = true) (i j : Nat) : PyData.strOk (strSub x i j) = true := by
  unfold PyData.strOk strSub
  rw [Array.all_eq_true_iff_forall_mem]
  intro c hc
  have : c ∈ x.cps := by
    obtain ⟨k, hk, rfl⟩ := Array.mem_iff_getElem.mp hc
    rw [Array.getElem_extract]
    exact Array.getElem_mem _
  simpa using strOk_mem hx this
theorem partsFrom_ok {x : Str} (hx : PyData.strOk x = true) (w : Nat) : ∀ (cuts : List Nat) (a : Nat), ∀ p ∈ StrLaws.partsFrom x w a cuts, PyData.strOk p = true
  | [], a, p, hp => by rw [List.mem_singleton.mp hp]; exact sub_ok hx _ _
  | c :: r, a, p, hp => by
    rcases List.mem_cons.mp hp with rfl | hp'
    · exact sub_ok hx _ _
    · exact partsFrom_ok hx w r _ p hp'
theorem part_ok {x y a : Str} (hx : PyData.strOk x = true) (h : a ∈ Txt.split x y) : PyData.strOk a = true := by
  unfold Txt.split at h
  split at h
  · rw [List.mem_singleton.mp h]; exact hx
  · split at h
    · rw [List.mem_singleton.mp h]; exact hx
    · rw [StrLaws.partsBetween_eq] at h
      exact partsFrom_ok hx _ _ _ a h
noncomputable def BLK : Str := Str.ofString " "
noncomputable def LFD : Str := Str.ofString "\n"
noncomputable def FIG : Str := Str.ofString "0123456789"
theorem fig_digit {c : Nat} (h : inT FIG c = true) : 48 ≤ c ∧ c ≤ 57 := by
  unfold inT at h
  rw [StrLaws.found_one] at h
  have h' := of_decide_eq_true h
  have e : FIG.cps.toList = [48, 49, 50, 51, 52, 53, 54, 55, 56, 57] := by decide
  rw [e] at h'
  exact (show ∀ c ∈ [48, 49, 50, 51, 52, 53, 54, 55, 56, 57], 48 ≤ c ∧ c ≤ 57 by decide) c h'
theorem fig_all {w : Str} (h : w.cps.toList.all (inT FIG) = true) : NumText.AllDigits w.cps.toList := fun c hc => fig_digit (List.all_eq_true.mp h c hc)
noncomputable def numOk (w : Str) : Bool := (!(w == Str.ofString "") && !((Txt.item w 0 == Str.ofString "0") && decide (1 < w.length))) && w.cps.toList.all (inT FIG)
noncomputable def numV (w : Str) : Int := ((NumText.digitsVal w.cps.toList : Nat) : Int)
noncomputable def numL (w : Str) : Int := if numOk w = true then numV w else -1
theorem numV_nn (w : Str) : 0 ≤ numV w := Int.natCast_nonneg _
theorem numL_neg {w : Str} : numL w < 0 ↔ numOk w = false := by
  unfold numL
  have := numV_nn w
  cases numOk w
  · simp
  · simp; omega
theorem len_ne {w : Str} (h : (w == Str.ofString "") = false) : w.length ≠ 0 := fun q => by
  have e : w = Str.ofString "" := by
    show w = ⟨#[]⟩
    obtain ⟨c⟩ := w
    have q' : c.size = 0 := q
    rw [Array.eq_empty_of_size_eq_zero q']
  rw [e] at h
  exact absurd h (by decide)
theorem all_take {w : Str} (ha : ∀ c ∈ w.cps.toList.take w.cps.size, inT FIG c = true) : w.cps.toList.all (inT FIG) = true := by
  rw [show w.cps.toList.take w.cps.size = w.cps.toList by rw [← Array.length_toList]; exact List.take_length] at ha
  exact List.all_eq_true.mpr ha
theorem num_e {w : Str} (h : (w == Str.ofString "") = true) : numOk w = false := by unfold numOk; rw [h]; rfl
theorem num_z {w : Str} (h1 : (1 : Int) < (w.length : Int)) (h : (Txt.item w 0 == Str.ofString "0") = true) : numOk w = false := by
  unfold numOk; rw [h, decide_eq_true (show 1 < w.length by omega)]; simp
theorem fig_no {c : Nat} (h : (Builtin.Str.occurrences (Str.ofString "0123456789") { cps := #[c] } 0 (Str.ofString "0123456789").length 1).isEmpty = true) : inT FIG c = false := by
  unfold inT FIG; rw [h]; rfl
theorem fig_yes {c : Nat} (h : (Builtin.Str.occurrences (Str.ofString "0123456789") { cps := #[c] } 0 (Str.ofString "0123456789").length 1).isEmpty = false) : inT FIG c = true := by
  unfold inT FIG; rw [h]; rfl
theorem num_s {w : Str} {i c : Nat} (hc : w.cps[i]? = some c) (h : (Builtin.Str.occurrences (Str.ofString "0123456789") { cps := #[c] } 0 (Str.ofString "0123456789").length 1).isEmpty = true) : numOk w = false := by
  unfold numOk
  rw [show w.cps.toList.all (inT FIG) = false from ?_, Bool.and_false]
  refine Bool.eq_false_iff.mpr fun q => ?_
  have hm : c ∈ w.cps.toList := Array.mem_toList_iff.mpr (Array.mem_of_getElem? hc)
  exact absurd (List.all_eq_true.mp q c hm) (by rw [fig_no h]; decide)
theorem num_k1 {w : Str} (h0 : (w == Str.ofString "") = false) (h : (Txt.item w 0 == Str.ofString "0") = false) (ha : ∀ c ∈ w.cps.toList.take w.cps.size, inT FIG c = true) : numOk w = true := by
  unfold numOk; rw [h0, h, all_take ha]; rfl
theorem num_k2 {w : Str} (h0 : (w == Str.ofString "") = false) (h : ¬ (1 : Int) < (w.length : Int)) (ha : ∀ c ∈ w.cps.toList.take w.cps.size, inT FIG c = true) : numOk w = true := by
  unfold numOk; rw [h0, decide_eq_false (show ¬ 1 < w.length by omega), all_take ha]; simp
theorem one_sign {w : Str} (h : w.length = 1) : Txt.item w 0 = w := by
  obtain ⟨⟨l⟩⟩ := w
  match l, h with
  | [c], _ => rfl
theorem num_z0 {w : Str} (h0 : (w == Str.ofString "") = false) (h : (Txt.item w 0 == Str.ofString "0") = true) (h2 : (w == Str.ofString "0") = false) : numOk w = false := by
  have l0 := len_ne h0
  by_cases q : w.length = 1
  · rw [one_sign q, h2] at h; cases h
  · exact num_z (by omega) h
theorem num_k3 {w : Str} (h0 : (w == Str.ofString "") = false) (h : (w == Str.ofString "0") = true) (ha : ∀ c ∈ w.cps.toList.take w.cps.size, inT FIG c = true) : numOk w = true := by
  refine num_k2 h0 ?_ ha
  rw [eq_of_beq h]
  decide
theorem num_z1 {w : Str} (h0 : (w == Str.ofString "") = false) (h : (Txt.item w 0 == Str.ofString "0") = true) (h2 : (w != Str.ofString "0") = true) : numOk w = false := num_z0 h0 h (by simpa [bne] using h2)
theorem num_k4 {w : Str} (h0 : (w == Str.ofString "") = false) (h : (w != Str.ofString "0") = false) (ha : ∀ c ∈ w.cps.toList.take w.cps.size, inT FIG c = true) : numOk w = true := num_k3 h0 (by simpa [bne] using h) ha
theorem numL_no {w : Str} (h : numOk w = false) : -1 = numL w := by unfold numL; rw [h]; rfl
theorem numL_ok {w : Str} (h : numOk w = true) : ((NumText.digitsVal w.cps.toList : Nat) : Int) = numL w := by unfold numL; rw [h]; rfl
theorem fig_step {w : Str} {i c : Nat} (hc : w.cps[i]? = some c) (ha : ∀ c ∈ w.cps.toList.take i, inT FIG c = true) (h : (Builtin.Str.occurrences (Str.ofString "0123456789") { cps := #[c] } 0 (Str.ofString "0123456789").length 1).isEmpty = false) : ∀ c ∈ w.cps.toList.take (i + 1), inT FIG c = true := fun d hd => by
  rw [List.take_add_one, show w.cps.toList[i]? = some c by simpa using hc] at hd
  rcases List.mem_append.mp hd with hd | hd
  · exact ha d hd
  · rw [show d = c by simpa using hd]; exact fig_yes h
noncomputable def wordAt (ws : List Str) (i : Nat) : Str := ws.getD i Str.empty
noncomputable def wordsOk (ws : List Str) : Bool := decide (ws.length = 9) && (decide (wordAt ws 1 = Str.ofString "sent") && (decide (wordAt ws 3 = Str.ofString "back") && (decide (wordAt ws 5 = Str.ofString "swears") && decide (wordAt ws 7 = Str.ofString "to"))))
noncomputable def numsOk (ws : List Str) : Bool := numOk (wordAt ws 2) && (numOk (wordAt ws 4) && (numOk (wordAt ws 6) && numOk (wordAt ws 8)))
noncomputable def rowOk (ws : List Str) : Bool := wordsOk ws && numsOk ws
noncomputable def rowLet (ws : List Str) : Dat := .tuple [.str (wordAt ws 0), .int (numV (wordAt ws 2)), .int (numV (wordAt ws 4)), .int (numV (wordAt ws 6)), .int (numV (wordAt ws 8))]
noncomputable def letD (row : Str) : Dat := if rowOk (Txt.split row BLK) = true then rowLet (Txt.split row BLK) else .none
noncomputable def rowsOf (t : Str) : List Str := (Txt.split t LFD).dropLast
noncomputable def lastOf (t : Str) : Str := (Txt.split t LFD).getLastD Str.empty
noncomputable def lettersOf (t : Str) : List Dat := (rowsOf t).map letD
theorem dueT_cases (x : Str) (a b c d : Int) : dueT x a b c d = Str.ofString "name" ∨ dueT x a b c d = Str.ofString "letter" ∨ dueT x a b c d = Str.ofString "" := by
  unfold dueT
  split
  · exact .inl rfl
  · split
    · exact .inr (.inl rfl)
    · split
      · exact .inr (.inl rfl)
      · exact .inr (.inr rfl)
noncomputable def dueP : (d : Dat) → { w : Str // w = Str.ofString "name" ∨ w = Str.ofString "letter" ∨ w = Str.ofString "" }
  | .tuple [.str x, .int a, .int b, .int c, .int d] => ⟨dueT x a b c d, dueT_cases x a b c d⟩
  | _ => ⟨Str.ofString "", .inr (.inr rfl)⟩
noncomputable def dueD (d : Dat) : Str := (dueP d).1
noncomputable def wordD : List Dat → Str
  | [] => Str.ofString ""
  | d :: r => if dueD d = Str.ofString "" then wordD r else dueD d
noncomputable def badT (t : Str) : Prop := lastOf t ≠ Str.ofString "" ∨ Dat.none ∈ lettersOf t
open Classical in
noncomputable def wordT (t : Str) : Str := if badT t then Str.ofString "text" else wordD (lettersOf t)
theorem wordD_ok {ds : List Dat} (h : ∀ d ∈ ds, dueD d = Str.ofString "") : wordD ds = Str.ofString "" := by
  induction ds with
  | nil => rfl
  | cons d r ih =>
    unfold wordD
    rw [if_pos (h d (.head _))]
    exact ih fun e he => h e (.tail _ he)
theorem wordD_at {pre post : List Dat} {d : Dat} (h : ∀ d ∈ pre, dueD d = Str.ofString "") (hd : dueD d ≠ Str.ofString "") : wordD (pre ++ d :: post) = dueD d := by
  induction pre with
  | nil => show wordD (d :: post) = _; unfold wordD; rw [if_neg hd]
  | cons e r ih =>
    show wordD (e :: (r ++ d :: post)) = _
    unfold wordD
    rw [if_pos (h e (.head _))]
    exact ih fun e he => h e (.tail _ he)
theorem wordD_all {ds : List Dat} (h : wordD ds = Str.ofString "") : ∀ d ∈ ds, dueD d = Str.ofString "" := by
  induction ds with
  | nil => exact fun _ h => nomatch h
  | cons d r ih =>
    unfold wordD at h
    by_cases hd : dueD d = Str.ofString ""
    · rw [if_pos hd] at h
      intro e he
      rcases List.mem_cons.mp he with rfl | he
      · exact hd
      · exact ih h e he
    · rw [if_neg hd] at h; exact absurd h hd
end Mine
namespace Mine
open PySem PySem.W PyProof.Rows PySem.Spec PySem.Calls PySem.NumText
theorem map_fst_snoc {l : List (Str × Tok)} {xs : List Str} (e : l.map (·.1) = xs) (hne : xs ≠ []) : ∃ l₀ z tz, l = l₀ ++ [(z, tz)] ∧ l₀.map (·.1) = xs.dropLast ∧ z = xs.getLastD Str.empty := by
  subst e
  rcases List.eq_nil_or_concat l with rfl | ⟨l₀, ⟨z, tz⟩, rfl⟩
  · exact absurd rfl hne
  · exact ⟨l₀, z, tz, by simp, by simp, by simp⟩
theorem strValues_snoc {l : List (Str × Tok)} {z : Str} {tz : Tok} : strValues (l ++ [(z, tz)]) = strValues l ++ [.str z tz] := by simp [strValues]
theorem strValues_len {l : List (Str × Tok)} : (strValues l).length = l.length := by simp [strValues]
theorem len_succ {α : Type} {l : List α} {n : Nat} (h : l.length = n + 1) : ∃ a r, l = a :: r ∧ r.length = n := by
  cases l with
  | nil => cases h
  | cons a r => exact ⟨a, r, rfl, Nat.succ.inj h⟩
theorem three_of {α : Type} {l : List α} {n : Nat} (h : l.length = n + 3) : ∃ a b c r, l = a :: b :: c :: r ∧ r.length = n := by
  obtain ⟨a, l0, rfl, h0⟩ := len_succ h
  obtain ⟨b, l1, rfl, h1⟩ := len_succ h0
  obtain ⟨c, l2, rfl, h2⟩ := len_succ h1
  exact ⟨a, b, c, l2, rfl, h2⟩
theorem nine_of {α : Type} {l : List α} (h : l.length = 9) : ∃ a b c d f g i j o, l = [a, b, c, d, f, g, i, j, o] := by
  obtain ⟨a, b, c, l0, rfl, h0⟩ := three_of h
  obtain ⟨d, f, g, l1, rfl, h1⟩ := three_of (n := 3) h0
  obtain ⟨i, j, o, l2, rfl, h2⟩ := three_of (n := 0) h1
  obtain rfl := List.eq_nil_of_length_eq_zero h2
  exact ⟨a, b, c, d, f, g, i, j, o, rfl⟩
section
variable {prog : Program} {w : World} {A : Around} {E : Value → Shared → Prop} {s : Shared} {h₀ : Heap} {L : Addr} {m : Str → Option Value} {news : List (Addr × Obj)} {x : Str} {t u : Tok} {Q : Value → Shared → Prop}
theorem split_rows (F : Fr h₀ L s.heap m) (N : News h₀ L s.heap news) (hz : x.length ≤ 4200)
    (h : ∀ D (l : List (Str × Tok)) z tz h' k, l.map (·.1) = rowsOf x → z = lastOf x → l.length ≤ 4202 → Fr h₀ L h' m → News h₀ L h' ((D, ({ cls := .type "list", data := .seq (List.toArray (strValues l ++ [Value.str z tz])) 0 } : Obj)) :: news) → (∀ p ∈ news, p.1 < D) → Q (.ref D) { s with heap := h', toks := k }) :
    wpAny (model prog w) A (call (.builtin "str.split") [.str x t, .str (Str.ofString "\n") u]) Q E s :=
  KSpl.split1 F N (by decide) (fun D l h' k e _ F' N' lt => by
    obtain ⟨l₀, z, tz, rfl, e1, e2⟩ := map_fst_snoc e (split_ne _ _)
    rw [strValues_snoc] at N'
    refine h D l₀ z tz h' k e1 e2 ?_ F' N' lt
    have e3 := congrArg List.length e
    have e4 := split_len x LFD
    rw [List.length_map, List.length_append] at e3
    have e5 : (Txt.split x (Str.ofString "\n")).length ≤ x.length + 2 := e4
    omega) (by rw [sizeLine_eq]; omega)
theorem split_words (F : Fr h₀ L s.heap m) (N : News h₀ L s.heap news) (hz : x.length ≤ 4200)
    (h9 : ∀ D w0 t0 w1 t1 w2 t2 w3 t3 w4 t4 w5 t5 w6 t6 w7 t7 w8 t8 h' k, Txt.split x BLK = [w0, w1, w2, w3, w4, w5, w6, w7, w8] → w0.length ≤ 4200 → w1.length ≤ 4200 → w2.length ≤ 4200 → w3.length ≤ 4200 → w4.length ≤ 4200 → w5.length ≤ 4200 → w6.length ≤ 4200 → w7.length ≤ 4200 → w8.length ≤ 4200 → Fr h₀ L h' m →
      News h₀ L h' ((D, ({ cls := .type "list", data := .seq #[.str w0 t0, .str w1 t1, .str w2 t2, .str w3 t3, .str w4 t4, .str w5 t5, .str w6 t6, .str w7 t7, .str w8 t8] 0 } : Obj)) :: news) → (∀ p ∈ news, p.1 < D) → Q (.ref D) { s with heap := h', toks := k })
    (hn : ∀ D vs h' k, vs.length ≠ 9 → (Txt.split x BLK).length ≠ 9 → vs.length ≤ 5000 → Fr h₀ L h' m → News h₀ L h' ((D, ({ cls := .type "list", data := .seq (List.toArray vs) 0 } : Obj)) :: news) → (∀ p ∈ news, p.1 < D) → Q (.ref D) { s with heap := h', toks := k }) :
    wpAny (model prog w) A (call (.builtin "str.split") [.str x t, .str (Str.ofString " ") u]) Q E s :=
  KSpl.split1 F N (by decide) (fun D l h' k e _ F' N' lt => by
    have e3 := congrArg List.length e
    rw [List.length_map] at e3
    have e' : l.map (·.1) = Txt.split x BLK := e
    have e3' : l.length = (Txt.split x BLK).length := e3
    by_cases q : l.length = 9
    · have short : ∀ a ∈ l.map (·.1), a.length ≤ 4200 := fun a ha => by
        rw [e'] at ha
        exact Nat.le_trans (part_short ha) hz
      obtain ⟨a, b, c, d, f, g, i, j, o, rfl⟩ := nine_of q
      have short' : ∀ w ∈ [a.1, b.1, c.1, d.1, f.1, g.1, i.1, j.1, o.1], w.length ≤ 4200 := short
      exact h9 D a.1 a.2 b.1 b.2 c.1 c.2 d.1 d.2 f.1 f.2 g.1 g.2 i.1 i.2 j.1 j.2 o.1 o.2 h' k e'.symm (short' _ (.head _)) (short' _ (.tail _ (.head _))) (short' _ (.tail _ (.tail _ (.head _)))) (short' _ (.tail _ (.tail _ (.tail _ (.head _))))) (short' _ (.tail _ (.tail _ (.tail _ (.tail _ (.head _)))))) (short' _ (.tail _ (.tail _ (.tail _ (.tail _ (.tail _ (.head _))))))) (short' _ (.tail _ (.tail _ (.tail _ (.tail _ (.tail _ (.tail _ (.head _)))))))) (short' _ (.tail _ (.tail _ (.tail _ (.tail _ (.tail _ (.tail _ (.tail _ (.head _))))))))) (short' _ (.tail _ (.tail _ (.tail _ (.tail _ (.tail _ (.tail _ (.tail _ (.tail _ (.head _)))))))))) F' N' lt
    · have e4 := split_len x BLK
      exact hn D (strValues l) h' k (by rw [strValues_len]; exact q) (by rw [← e3']; exact q) (by rw [strValues_len]; omega) F' N' lt) (by rw [sizeLine_eq]; omega)
end
end Mine
namespace Mine
open PySem PySem.W PyProof.Rows
theorem no_digits {p : Program} {loose : List Str} {mean : ExcName → Option Value} {mg mb : Str → Option Value} {h₀ h : Heap} {L : Addr} {m : Str → Option Value} (F : Fr h₀ L h m) (T : Top p loose mean mg mb h₀) : h.NoDigits := Heap.NoDigits.keeps T.nodigits F.keep
theorem take_figs {x : Str} (h : ∀ c ∈ x.cps.toList.take x.cps.size, inT FIG c = true) : x.cps.toList.all (inT FIG) = true := by
  rw [sign_all] at h
  exact List.all_eq_true.mpr h
end Mine
namespace Mine
open PySem PySem.W PyProof.Rows PySem.Spec PySem.Calls
theorem len_any {prog : Program} {w : World} {A : Around} {E : Value → Shared → Prop} {s : Shared} {h₀ : Heap} {L l : Addr} {news : List (Addr × Obj)} {vs : List Value} {e : Nat} {Q : Value → Shared → Prop} (N : News h₀ L s.heap news) (hm : (l, ({ cls := .type "list", data := .seq vs.toArray e } : Obj)) ∈ news) (hl : vs.length ≤ 5000)
    (h : Q (.int (vs.length : Int) (s.toks + 1)) { s with toks := s.toks + 1 + 1 }) : wpAny (model prog w) A (call (.builtin "len") [.ref l]) Q E s := by
  have hI : s.heap.IsList l vs.toArray := ⟨_, (N _ hm).1, rfl, e, rfl⟩
  exact Calls.call_len_list hI (by rw [List.size_toArray]; omega) (by rw [List.size_toArray]; exact h)
end Mine
namespace Mine
open PySem PySem.W PyProof.Rows
noncomputable def Same (x y : Str) : Prop := x = y
theorem ne_split {prog : Program} {w : World} {A : Around} {E : Value → Shared → Prop} {s : Shared} {Q : Value → Shared → Prop} {x y : Str} {t u : Tok} (h1 : Same x y → Q (.bool false) s) (h2 : ¬ Same x y → Q (.bool true) s) : wpAny (model prog w) A (compareOp .NotEq (.str x t) (.str y u)) Q E s := by
  refine PyProof.Rows.ne_str ?_
  by_cases h : x = y
  · rw [show (x != y) = false by simp [bne, h]]; exact h1 h
  · rw [show (x != y) = true by simp [bne, h]]; exact h2 h
theorem let_len {x : Str} (h : (Txt.split x BLK).length ≠ 9) : letD x = .none := by
  unfold letD rowOk wordsOk
  rw [decide_eq_false h]
  rfl
theorem app_inj {a b c d : Str} (h : a ++ b = c ++ d) (hl : a.length = c.length) : a = c ∧ b = d := by
  obtain ⟨⟨a⟩⟩ := a
  obtain ⟨⟨b⟩⟩ := b
  obtain ⟨⟨c⟩⟩ := c
  obtain ⟨⟨d⟩⟩ := d
  have h' : a ++ b = c ++ d := by
    have := congrArg (fun x : Str => x.cps.toList) h
    simpa only [Str.cps_append, Array.toList_append] using this
  have hl' : a.length = c.length := hl
  obtain ⟨h1, h2⟩ := List.append_inj h' hl'
  rw [h1, h2]
  exact ⟨rfl, rfl⟩
section
variable {x w0 w1 w2 w3 w4 w5 w6 w7 w8 : Str} {M : Int}
theorem let_words (hs : Txt.split x BLK = [w0, w1, w2, w3, w4, w5, w6, w7, w8]) (h : ¬ (w1 = Str.ofString "sent" ∧ w3 = Str.ofString "back" ∧ w5 = Str.ofString "swears" ∧ w7 = Str.ofString "to")) : letD x = .none := by
  unfold letD
  rw [hs, if_neg]
  intro q
  simp only [rowOk, wordsOk, wordAt, List.getD_cons_succ, List.getD_cons_zero, Bool.and_eq_true, decide_eq_true_eq] at q
  exact h ⟨q.1.2.1, q.1.2.2.1, q.1.2.2.2.1, q.1.2.2.2.2⟩
theorem let_join (hs : Txt.split x BLK = [w0, w1, w2, w3, w4, w5, w6, w7, w8]) (h : ¬ Same (w1 ++ w3 ++ w5 ++ w7) (Str.ofString "sentbackswearsto")) : letD x = .none := let_words hs fun q => h (by
  obtain ⟨rfl, rfl, rfl, rfl⟩ := q
  unfold Same
  decide)
theorem let_w1 (hs : Txt.split x BLK = [w0, w1, w2, w3, w4, w5, w6, w7, w8]) (h : ¬ Same w1 (Str.ofString "sent")) : letD x = .none := let_words hs fun q => h q.1
theorem let_w3 (hs : Txt.split x BLK = [w0, w1, w2, w3, w4, w5, w6, w7, w8]) (h : ¬ Same w3 (Str.ofString "back")) : letD x = .none := let_words hs fun q => h q.2.1
theorem let_w5 (hs : Txt.split x BLK = [w0, w1, w2, w3, w4, w5, w6, w7, w8]) (h : ¬ Same w5 (Str.ofString "swears")) : letD x = .none := let_words hs fun q => h q.2.2.1
theorem let_nums (hs : Txt.split x BLK = [w0, w1, w2, w3, w4, w5, w6, w7, w8]) (h : ¬ (numOk w2 = true ∧ numOk w4 = true ∧ numOk w6 = true ∧ numOk w8 = true)) : letD x = .none := by
  unfold letD
  rw [hs, if_neg]
  intro q
  simp only [rowOk, numsOk, wordAt, List.getD_cons_succ, List.getD_cons_zero, Bool.and_eq_true] at q
  exact h ⟨q.2.1, q.2.2.1, q.2.2.2.1, q.2.2.2.2⟩
theorem let_yes (hs : Txt.split x BLK = [w0, w1, w2, w3, w4, w5, w6, w7, w8]) (h1 : w1 = Str.ofString "sent" ∧ w3 = Str.ofString "back" ∧ w5 = Str.ofString "swears" ∧ w7 = Str.ofString "to") (h2 : numOk w2 = true ∧ numOk w4 = true ∧ numOk w6 = true ∧ numOk w8 = true) : letD x = .tuple [.str w0, .int (numV w2), .int (numV w4), .int (numV w6), .int (numV w8)] := by
  unfold letD
  rw [hs, if_pos]
  · rfl
  · simp only [rowOk, wordsOk, numsOk, wordAt, List.getD_cons_succ, List.getD_cons_zero, Bool.and_eq_true, decide_eq_true_eq]
    exact ⟨⟨rfl, h1⟩, h2⟩
theorem let_min (hs : Txt.split x BLK = [w0, w1, w2, w3, w4, w5, w6, w7, w8]) (aM : M ∈ [numL w2, numL w4, numL w6, numL w8]) (h : M < 0) : letD x = .none := let_nums hs fun ⟨q2, q4, q6, q8⟩ => by
  have e : ∀ w, numOk w = true → 0 ≤ numL w := fun w hw => by
    have := numL_neg (w := w)
    rw [hw] at this
    simpa using this
  have e2 := e _ q2; have e4 := e _ q4; have e6 := e _ q6; have e8 := e _ q8
  simp only [List.mem_cons, List.not_mem_nil, or_false] at aM
  omega
theorem ok_of {w : Str} (h : ¬ numL w < 0) : numOk w = true := by
  rw [numL_neg] at h
  simpa using h
theorem numL_V {w : Str} (h : numOk w = true) : numL w = numV w := by unfold numL; rw [h]; rfl
theorem let_ok (hs : Txt.split x BLK = [w0, w1, w2, w3, w4, w5, w6, w7, w8]) (hj : Same (w1 ++ w3 ++ w5 ++ w7) (Str.ofString "sentbackswearsto")) (h1 : Same w1 (Str.ofString "sent")) (h3 : Same w3 (Str.ofString "back")) (h5 : Same w5 (Str.ofString "swears")) (bM : ∀ a, a ∈ [numL w2, numL w4, numL w6, numL w8] → M ≤ a) (h : ¬ M < 0) : letD x = .tuple [.str w0, .int (numL w2), .int (numL w4), .int (numL w6), .int (numL w8)] := by
  have o2 := ok_of (w := w2) (by have := bM _ (by simp : numL w2 ∈ _); omega)
  have o4 := ok_of (w := w4) (by have := bM _ (by simp : numL w4 ∈ _); omega)
  have o6 := ok_of (w := w6) (by have := bM _ (by simp : numL w6 ∈ _); omega)
  have o8 := ok_of (w := w8) (by have := bM _ (by simp : numL w8 ∈ _); omega)
  unfold Same at *
  subst h1 h3 h5
  have h7 : w7 = Str.ofString "to" := by
    have e : Str.ofString "sent" ++ Str.ofString "back" ++ Str.ofString "swears" ++ Str.ofString "to" = Str.ofString "sentbackswearsto" := by decide
    rw [← e] at hj
    exact (app_inj hj rfl).2
  rw [numL_V o2, numL_V o4, numL_V o6, numL_V o8]
  exact let_yes hs ⟨rfl, rfl, rfl, h7⟩ ⟨o2, o4, o6, o8⟩
end
theorem four_mem {k : Int} (h : k ∈ [(2 : Int), 4, 6, 8]) : k = 2 ∨ k = 4 ∨ k = 6 ∨ k = 8 := by simpa using h
end Mine
namespace Mine
open PySem PySem.W PyProof.Rows
theorem add_txt {prog : Program} {w : World} {A : Around} {E : Value → Shared → Prop} {s : Shared} {Q : Value → Shared → Prop} {x y : Str} {t u : Tok} (hz : x.length + y.length ≤ 100000) (h : ∀ t' k, (x ++ y).length = x.length + y.length → Q (.str (x ++ y) t') { s with toks := k }) : wpAny (model prog w) A (binaryOp .Add (.str x t) (.str y u)) Q E s :=
  PyProof.Rows.add_str (fun t' k => h t' k (Str.length_append x y)) (by rw [sizeLine_eq]; omega)
end Mine
namespace Mine
open PySem PySem.W PyProof.Rows
section
variable {prog : Program} {w : World} {A : Around} {E : Value → Shared → Prop} {s : Shared} {h₀ : Heap} {L : Addr}
theorem item_i9 {value slice : PySem.Expr} {l : Addr} {news : List (Addr × Obj)} {vs : List Value} {e i : Nat} {k : Int} {u : Tok} {v : Value} {Q : Value → Shared → Prop} (N : News h₀ L s.heap news) (hm : (l, ({ cls := .type "list", data := .seq vs.toArray e } : Obj)) ∈ news) (hv : vs[i]? = some v) (hk : k = (i : Int)) (hfit : k < 2 ^ 63) (h : Q v s)
    (hs : subscripted slice false (.ref l) (.int k u) = operate [.ref l, .int k u] (getItem (.ref l) (.int k u)) := by with_unfolding_all rfl) :
    wpAny (model prog w) A (subscriptTail value slice (.ref l) (.int k u)) Q E s := by
  have hl : s.heap.IsList l vs.toArray := ⟨_, (N _ hm).1, rfl, e, rfl⟩
  exact tail_any hl.typeIs slot_list_getitem.lookup (wpAny_getItem_list hl (by omega) hfit (by subst hk; simpa using hv) h) hs
end
end Mine
namespace Mine
open PySem PySem.W PyProof.Rows
open Classical in
theorem ne_words {prog : Program} {w : World} {A : Around} {E : Value → Shared → Prop} {s : Shared} {h₀ : Heap} {L a b : Addr} {news : List (Addr × Obj)} {ka kb : Nat} {w1 w3 w5 w7 v1 v3 v5 v7 : Str} {t1 t3 t5 t7 u1 u3 u5 u7 : Tok} {Q : Value → Shared → Prop} (N : News h₀ L s.heap news) (ma : (a, ({ cls := .type "list", data := .seq #[.str w1 t1, .str w3 t3, .str w5 t5, .str w7 t7] ka } : Obj)) ∈ news)
    (mb : (b, ({ cls := .type "list", data := .seq #[.str v1 u1, .str v3 u3, .str v5 u5, .str v7 u7] kb } : Obj)) ∈ news) (ha : PyData.strOk w1 = true ∧ PyData.strOk w3 = true ∧ PyData.strOk w5 = true ∧ PyData.strOk w7 = true) (hb : PyData.strOk v1 = true ∧ PyData.strOk v3 = true ∧ PyData.strOk v5 = true ∧ PyData.strOk v7 = true) (hu : A.units + 64 < cLine)
    (h1 : (w1 = v1 ∧ w3 = v3 ∧ w5 = v5 ∧ w7 = v7) → Q (.bool false) s) (h2 : ¬ (w1 = v1 ∧ w3 = v3 ∧ w5 = v5 ∧ w7 = v7) → Q (.bool true) s) : wpAny (model prog w) A (compareOp .NotEq (.ref a) (.ref b)) Q E s := by
  refine kqd_ne (n₁ := []) (n₂ := []) (ds := [.str w1, .str w3, .str w5, .str w7]) (es := [.str v1, .str v3, .str v5, .str v7]) N ma rfl rfl (.cons (.str _ _) (.cons (.str _ _) (.cons (.str _ _) (.cons (.str _ _) .nil)))) (fun _ h => nomatch h) mb rfl rfl (.cons (.str _ _) (.cons (.str _ _) (.cons (.str _ _) (.cons (.str _ _) .nil)))) (fun _ h => nomatch h) ?_ ?_ hu ?_
  · simp [kqdOk, ha]
  · simp [kqdOk, hb]
  · by_cases q : w1 = v1 ∧ w3 = v3 ∧ w5 = v5 ∧ w7 = v7
    · rw [show (!decide ([Dat.str w1, Dat.str w3, Dat.str w5, Dat.str w7] = [Dat.str v1, Dat.str v3, Dat.str v5, Dat.str v7])) = false by simp [q]]
      exact h1 q
    · rw [show (!decide ([Dat.str w1, Dat.str w3, Dat.str w5, Dat.str w7] = [Dat.str v1, Dat.str v3, Dat.str v5, Dat.str v7])) = true by rw [decide_eq_false (fun e => q (by simpa using e))]; rfl]
      exact h2 q
section
variable {x w0 w1 w2 w3 w4 w5 w6 w7 w8 : Str}
theorem row_parts (hs : Txt.split x BLK = [w0, w1, w2, w3, w4, w5, w6, w7, w8]) (h : rowOk (Txt.split x BLK) = true) : (w1 = Str.ofString "sent" ∧ w3 = Str.ofString "back" ∧ w5 = Str.ofString "swears" ∧ w7 = Str.ofString "to") ∧ numOk w2 = true ∧ numOk w4 = true ∧ numOk w6 = true ∧ numOk w8 = true := by
  rw [hs] at h
  simp only [rowOk, wordsOk, numsOk, wordAt, List.getD_cons_succ, List.getD_cons_zero, Bool.and_eq_true, decide_eq_true_eq] at h
  exact ⟨h.1.2, h.2⟩
theorem row_nums (hs : Txt.split x BLK = [w0, w1, w2, w3, w4, w5, w6, w7, w8]) (h : rowOk (Txt.split x BLK) = false) (h1 : w1 = Str.ofString "sent" ∧ w3 = Str.ofString "back" ∧ w5 = Str.ofString "swears" ∧ w7 = Str.ofString "to") : ¬ ∀ k ∈ [(2 : Int), 4, 6, 8], numOk (wordAt [w0, w1, w2, w3, w4, w5, w6, w7, w8] k.toNat) = true := fun q => by
  rw [hs] at h
  have e2 : numOk w2 = true := q 2 (by simp)
  have e4 : numOk w4 = true := q 4 (by simp)
  have e6 : numOk w6 = true := q 6 (by simp)
  have e8 : numOk w8 = true := q 8 (by simp)
  have : rowOk [w0, w1, w2, w3, w4, w5, w6, w7, w8] = true := by
    simp only [rowOk, wordsOk, numsOk, wordAt, List.getD_cons_succ, List.getD_cons_zero, Bool.and_eq_true, decide_eq_true_eq]
    exact ⟨⟨rfl, h1⟩, e2, e4, e6, e8⟩
  rw [this] at h
  cases h
theorem words_ok (hs : Txt.split x BLK = [w0, w1, w2, w3, w4, w5, w6, w7, w8]) (ho : PyData.strOk x = true) : PyData.strOk w0 = true ∧ PyData.strOk w1 = true ∧ PyData.strOk w3 = true ∧ PyData.strOk w5 = true ∧ PyData.strOk w7 = true := by
  have e : ∀ a ∈ [w0, w1, w2, w3, w4, w5, w6, w7, w8], PyData.strOk a = true := fun a ha => part_ok (y := BLK) ho (by rw [hs]; exact ha)
  exact ⟨e _ (by simp), e _ (by simp), e _ (by simp), e _ (by simp), e _ (by simp)⟩
end
theorem row_len {x : Str} (h : rowOk (Txt.split x BLK) = true) : (Txt.split x BLK).length = 9 := by
  simp only [rowOk, wordsOk, Bool.and_eq_true, decide_eq_true_eq] at h
  exact h.1.1
end Mine
namespace Mine
open PySem PySem.W PyProof.Rows
theorem ok_split {M : Model} {A : Around} {Q E : Value → Shared → Prop} {s : Shared} {f : Value} {x : Str} {t : Tok} (h1 : numOk x = true → wpAny M A (call f [.str x t]) Q E s) (h2 : numOk x = false → wpAny M A (call f [.str x t]) Q E s) : wpAny M A (call f [.str x t]) Q E s := by
  cases h : numOk x
  · exact h2 h
  · exact h1 h
end Mine
namespace Mine
open PySem PySem.W PyProof.Rows PySem.Spec PySem.Calls PyProof.Rows.LCg PyProof.Rows.LCt
section
variable {prog : Program} {w : World} {A : Around} {E : Value → Shared → Prop} {s : Shared} {h₀ : Heap} {L : Addr} {m : Str → Option Value} {env : Env}
theorem Assign_ListComp_Tu {elt iter : Expr} {x y : Str} {px py : Pos} {scope : Scope} {cl : List (Str × Addr)} {pos spos : Pos} {Q : Flow → Shared → Prop} (_F₀ : Fr h₀ L s.heap m) (hLe : env.locals = L)
    (hsw : swapsWith (.ListComp elt [⟨.Name x px, iter, [], 0⟩] scope pos) (some (.Name y py)) spos.line env = pure true)
    (hclos : closureFor scope env = pure cl) (hcell : ∀ z ∈ scope.names, z.2 ≠ .cell) (hkind : scope.kind = .function)
    (hnames : ∀ z ∈ scope.names, z.2 = .local → scope.names.lookup z.1 = some .local) (hx : scope.names.lookup x = some .local)
    (hy : env.kindOf y = some .local) (hp : (env.scope.kind == .class || (env.scope.kind == .module && env.locals != env.globals)) = false)
    (h : wpAny (model prog w) A (eval iter env) (SrcT prog w A h₀ L m (fun s₂ ax its news => CompRest prog w A h₀ L m env elt x scope cl s₂ (TupAt ax its) (fun i v => its[i]? = some v) (FinA h₀ L m s₂ y Q) its.size 0 [] news)) E s)
    (hs : ∀ x, foldedSetIterable iter env x = pure x := by intro _; rfl) :
    wpAny (model prog w) A (exec (.Assign [.Name y py] (.ListComp elt [⟨.Name x px, iter, [], 0⟩] scope pos) spos) env) Q E s := by
  subst hLe
  rw [exec_Assign_Name_used _ _ _ _ hsw]
  refine wpAny_bind (wpAny_standAt (wpAny_bind ?_))
  show wpAny _ A (do let _ ← comprehension (.ListComp elt [⟨.Name x px, iter, [], 0⟩] scope pos) scope env _ (newList []) false (eval iter env) (some (assign (.Name y py) env))) _ _ s
  refine wpAny_bind (wpAny_mono (wpAny_comprehension_free (use := some (assign (.Name y py) env)) (Q := fun _ s' => Q .next s') rfl hs hclos hkind hnames
    (wpAny_mono h (fun xv s₁ h₁ => ?_) fun _ _ e => e)) (fun _ s' hq => wpAny_pure (wpAny_pure hq)) fun _ _ e => e)
  obtain ⟨ax, its, news, rfl, hh, F, N, S, hsz, R⟩ := h₁
  have hl := S.tup N
  have hlt : ax < s₁.heap.objs.size := by obtain ⟨_, e, _⟩ := hl; exact Heap.lt_size e
  refine wpAny_pyIter_tuple hl ?_
  have up : ∀ b o, s₁.heap.get? b = some o → (s₁.heap.push { cls := .type "tuple_iterator", data := .fields #[.ref ax, .int 0 0] }).get? b = some o := fun b o e => Heap.get?_push_of_some _ e
  refine block_U (Walks.tuple hh s₁.heap.objs.size ax (Nat.ne_of_lt hlt) its) hsz (fun i h st => by obtain ⟨o, e, _⟩ := st.1; exact ⟨o, e⟩) tupiter_st hcell hkind hx ⟨⟨_, Heap.get?_push_size _ rfl, rfl, rfl⟩, hl.at fun o e => Heap.get?_push_of_some _ e⟩ (fun b hb => ?_)
    (F.keeps up) (N.grown up) (Nat.ne_of_lt F.ns.lt) (next_is_new F) (fun p hp => Nat.ne_of_lt (Heap.lt_size (N p hp).1)) S (R _ ⟨_, rfl⟩) ?_
  · show b < (s₁.heap.push _).objs.size
    rw [Heap.size_push]
    rcases List.mem_cons.mp hb with rfl | hb
    · exact Nat.lt_succ_self _
    · rw [List.mem_singleton.mp hb]; exact Nat.lt_succ_of_lt hlt
  · intro D C h' tk m' ys news' F' N' o1 hn hC₀ hD₀ hCL hDL hCD offC fin
    show wpAny _ A (assign (.Name y py) env (.ref D)) _ _ _
    refine wpAny_assign_Name (wpAny_storeName_local hy F'.ns (fun h₂ hn₂ hs₂ => ?_) hp)
    have hL₀ : h₀.get? env.locals = none := Heap.get?_none_of_le F'.above
    have F₂ : Fr h₀ env.locals h₂ (fun z => if z = y then some (.ref D) else m z) := ⟨hn₂, fun b o e => hs₂.extBut b o (fun q => by rw [q, hL₀] at e; cases e) (F'.keep b o e), F'.above⟩
    refine ⟨m', hn.sameBut hs₂ hCL, fun h'' hs'' => fin D h'' _ (F₂.change hs'' hCL hC₀) (fun p hp => ?_) o1⟩
    refine ⟨hs''.extBut _ _ ?_ (hs₂.extBut _ _ (N' p hp).2.1 (N' p hp).1), (N' p hp).2⟩
    rcases List.mem_cons.mp hp with rfl | hp
    · exact Ne.symm hCD
    · exact offC p hp
theorem ints_snoc12 {b : Int} {t : Tok} : ∀ {vs : List Value} {bs : List Int}, IntsAre vs bs → IntsAre (vs ++ [.int b t]) (bs ++ [b])
  | _, _, .nil => .cons b t .nil
  | _, _, .cons c u r => .cons c u (ints_snoc12 r)
theorem tup_ints {elt : Expr} {x : Str} {scope : Scope} {cl : List (Str × Addr)} {Fin : List Value → List (Addr × Obj) → Prop} {S : List (Addr × Obj) → Prop} {vs : List Value} {ns : List Int} {news : List (Addr × Obj)} (f : Int → Int) (hi : IntsAre vs ns) (hS : S news)
    (turn : ∀ k u ys I oI C oC D m₂ h tk (E' : Value → Shared → Prop), k ∈ ns → NsObj oC m₂ → m₂ x = some (.int k u) → Fr h₀ L h m → News h₀ L h ((I, oI) :: (C, oC) :: (D, lst ys) :: news) → Off3 I C D news → ((@Ne Nat I C) ∧ (@Ne Nat I D) ∧ (@Ne Nat C D)) →
      wpAny (model prog w) A (eval elt (compEnvC scope cl C env)) (CompTurn h₀ L m { s with heap := h, toks := tk } I oI C oC D (lst ys) (fun _ => True) (fun y nw' => nw' = news ∧ ∃ t, y = .int (f k) t)) E' { s with heap := h, toks := tk })
    (fin : ∀ ys, IntsAre ys (ns.map f) → Fin ys news) : CompRest prog w A h₀ L m env elt x scope cl s S (fun i v => vs.toArray[i]? = some v) Fin vs.toArray.size 0 [] news := by
  have hl := hi.length
  refine rest_inv (fun i ys nw => nw = news ∧ IntsAre ys ((ns.take i).map f)) ⟨rfl, .nil⟩ ?_ ?_
  · rintro i ys nw v I oI C oC D m₂ h tk E' hlt ⟨rfl, hb⟩ hv hC hx F N off ne
    obtain ⟨k, u, e, hk⟩ := IntsAre.at hi i v (by simpa using hv)
    subst e
    refine wpAny_mono (turn k u ys I oI C oC D m₂ h tk E' (List.mem_of_getElem? hk) hC hx F N off ne) (fun y s₂ hq => ?_) fun _ _ e => e
    obtain ⟨h', tk', nw', e, F', N', off', _, hn, t, hy⟩ := hq
    subst hn hy
    refine ⟨h', tk', _, e, F', N', off', hS, rfl, ?_⟩
    rw [show ns.take (i + 1) = ns.take i ++ [k] by simp [List.take_add_one, hk], List.map_append]
    exact ints_snoc12 hb
  · rintro ys nw ⟨rfl, hb⟩
    rw [List.size_toArray, hl, List.take_length] at hb
    exact fin ys hb
theorem ints_four {ys : List Value} {a b c d : Int} (h : IntsAre ys [a, b, c, d]) : ∃ t1 t2 t3 t4, ys = [.int a t1, .int b t2, .int c t3, .int d t4] := by
  cases h with
  | cons _ t1 h => cases h with
    | cons _ t2 h => cases h with
      | cons _ t3 h => cases h with
        | cons _ t4 h => cases h; exact ⟨_, _, _, _, rfl⟩
theorem Assign_ListComp_ST {ct elt iter : Expr} {x y : Str} {px py : Pos} {scope : Scope} {cl : List (Str × Addr)} {pos spos : Pos} {Q : Flow → Shared → Prop} (_F₀ : Fr h₀ L s.heap m) (hLe : env.locals = L)
    (hsw : swapsWith (.ListComp elt [⟨.Name x px, iter, [ct], 0⟩] scope pos) (some (.Name y py)) spos.line env = pure true)
    (hclos : closureFor scope env = pure cl) (hcell : ∀ z ∈ scope.names, z.2 ≠ .cell) (hkind : scope.kind = .function)
    (hnames : ∀ z ∈ scope.names, z.2 = .local → scope.names.lookup z.1 = some .local) (hx : scope.names.lookup x = some .local)
    (hy : env.kindOf y = some .local) (hp : (env.scope.kind == .class || (env.scope.kind == .module && env.locals != env.globals)) = false)
    (h : wpAny (model prog w) A (eval iter env) (SrcS prog w A h₀ L m (fun s₂ tx news => CompRestT prog w A h₀ L m env ct elt x scope cl s₂ (fun _ => True) (SignAt tx) (FinA h₀ L m s₂ y Q) tx.cps.size 0 [] news)) E s)
    (hs : ∀ x, foldedSetIterable iter env x = pure x := by intro _; rfl) :
    wpAny (model prog w) A (exec (.Assign [.Name y py] (.ListComp elt [⟨.Name x px, iter, [ct], 0⟩] scope pos) spos) env) Q E s := by
  subst hLe
  rw [exec_Assign_Name_used _ _ _ _ hsw]
  refine wpAny_bind (wpAny_standAt (wpAny_bind ?_))
  show wpAny _ A (do let _ ← comprehension (.ListComp elt [⟨.Name x px, iter, [ct], 0⟩] scope pos) scope env _ (newList []) false (eval iter env) (some (assign (.Name y py) env))) _ _ s
  refine wpAny_bind (wpAny_mono (wpAny_comprehension_free (use := some (assign (.Name y py) env)) (Q := fun _ s' => Q .next s') rfl hs hclos hkind hnames
    (wpAny_mono h (fun xv s₁ h₁ => ?_) fun _ _ e => e)) (fun _ s' hq => wpAny_pure (wpAny_pure hq)) fun _ _ e => e)
  obtain ⟨tx, t, news, rfl, hh, F, N, hsz, R⟩ := h₁
  have fin : ∀ {s₂ : Shared} D C h' tk m' ys news', Fr h₀ env.locals h' m → News h₀ env.locals h' ((D, lst ys) :: news') → Off1 D news' → h'.Ns C m' → h₀.get? C = none → h₀.get? D = none → C ≠ env.locals → D ≠ env.locals → C ≠ D → (∀ p ∈ news', p.1 ≠ C) → FinA h₀ env.locals m s₂ y Q ys news' →
      compPost (model prog w) A E (some (assign (.Name y py) env)) (fun _ s' => Q .next s') (.ref D) C (.ok .next) { s₂ with heap := h', toks := tk } := by
    intro s₂ D C h' tk m' ys news' F' N' o1 hn hC₀ hD₀ hCL hDL hCD offC fin
    show wpAny _ A (assign (.Name y py) env (.ref D)) _ _ _
    refine wpAny_assign_Name (wpAny_storeName_local hy F'.ns (fun h₂ hn₂ hs₂ => ?_) hp)
    have hL₀ : h₀.get? env.locals = none := Heap.get?_none_of_le F'.above
    have F₂ : Fr h₀ env.locals h₂ (fun z => if z = y then some (.ref D) else m z) := ⟨hn₂, fun b o e => hs₂.extBut b o (fun q => by rw [q, hL₀] at e; cases e) (F'.keep b o e), F'.above⟩
    refine ⟨m', hn.sameBut hs₂ hCL, fun h'' hs'' => fin D h'' _ (F₂.change hs'' hCL hC₀) (fun p hp => ?_) o1⟩
    refine ⟨hs''.extBut _ _ ?_ (hs₂.extBut _ _ (N' p hp).2.1 (N' p hp).1), (N' p hp).2⟩
    rcases List.mem_cons.mp hp with rfl | hp
    · exact Ne.symm hCD
    · exact offC p hp
  cases ha : tx.cps.all (· < 128)
  · refine wpAny_pyIter_wide ha ?_
    refine block_T (Walks.strWide hh s₁.heap.objs.size tx t) hsz (fun i h st => by obtain ⟨o, e, _⟩ := st; exact ⟨o, e⟩) striter_st hcell hkind hx ⟨_, Heap.get?_push_size _ rfl, rfl, rfl⟩ (fun b hb => ?_)
      (F.keeps fun _ _ e => Heap.get?_push_of_some _ e) (N.grown fun _ _ e => Heap.get?_push_of_some _ e) (Nat.ne_of_lt F.ns.lt) (next_is_new F) (fun p hp => Nat.ne_of_lt (Heap.lt_size (N p hp).1)) trivial (R _ ⟨_, rfl⟩) fin
    rw [List.mem_singleton.mp hb]
    show s₁.heap.objs.size < (s₁.heap.push _).objs.size
    rw [Heap.size_push]; exact Nat.lt_succ_self _
  · refine wpAny_pyIter_ascii ha ?_
    refine block_T (Walks.strAscii hh s₁.heap.objs.size tx t) hsz (fun i h st => by obtain ⟨o, e, _⟩ := st; exact ⟨o, e⟩) striter_st hcell hkind hx ⟨_, Heap.get?_push_size _ rfl, rfl, rfl⟩ (fun b hb => ?_)
      (F.keeps fun _ _ e => Heap.get?_push_of_some _ e) (N.grown fun _ _ e => Heap.get?_push_of_some _ e) (Nat.ne_of_lt F.ns.lt) (next_is_new F) (fun p hp => Nat.ne_of_lt (Heap.lt_size (N p hp).1)) trivial (R _ ⟨_, rfl⟩) fin
    rw [List.mem_singleton.mp hb]
    show s₁.heap.objs.size < (s₁.heap.push _).objs.size
    rw [Heap.size_push]; exact Nat.lt_succ_self _
theorem ListComp_TuU {ct elt iter : Expr} {x : Str} {px : Pos} {scope : Scope} {cl : List (Str × Addr)} {pos : Pos} {Q : Value → Shared → Prop} (_F₀ : Fr h₀ L s.heap m)
    (hclos : closureFor scope env = pure cl) (hcell : ∀ y ∈ scope.names, y.2 ≠ .cell) (hkind : scope.kind = .function)
    (hnames : ∀ y ∈ scope.names, y.2 = .local → scope.names.lookup y.1 = some .local) (hx : scope.names.lookup x = some .local)
    (h : wpAny (model prog w) A (eval iter env) (SrcT prog w A h₀ L m (fun s₂ ax its news => CompRestT prog w A h₀ L m env ct elt x scope cl s₂ (TupAt ax its) (fun i v => its[i]? = some v) (FinE h₀ L m s₂ Q) its.size 0 [] news)) E s)
    (hs : ∀ x, foldedSetIterable iter env x = pure x := by intro _; rfl) :
    wpAny (model prog w) A (eval (.ListComp elt [⟨.Name x px, iter, [ct], 0⟩] scope pos) env) Q E s := by
  rw [eval_ListComp]
  refine wpAny_comprehension_free (use := none) rfl hs hclos hkind hnames (wpAny_mono h (fun xv s₁ h₁ => ?_) fun _ _ e => e)
  obtain ⟨ax, its, news, rfl, hh, F, N, S, hsz, R⟩ := h₁
  have hl := S.tup N
  have hlt : ax < s₁.heap.objs.size := by obtain ⟨_, e, _⟩ := hl; exact Heap.lt_size e
  refine wpAny_pyIter_tuple hl ?_
  have up : ∀ b o, s₁.heap.get? b = some o → (s₁.heap.push { cls := .type "tuple_iterator", data := .fields #[.ref ax, .int 0 0] }).get? b = some o := fun b o e => Heap.get?_push_of_some _ e
  refine block_T (Walks.tuple hh s₁.heap.objs.size ax (Nat.ne_of_lt hlt) its) hsz (fun i h st => by obtain ⟨o, e, _⟩ := st.1; exact ⟨o, e⟩) tupiter_st hcell hkind hx ⟨⟨_, Heap.get?_push_size _ rfl, rfl, rfl⟩, hl.at fun o e => Heap.get?_push_of_some _ e⟩ (fun b hb => ?_)
    (F.keeps up) (N.grown up) (Nat.ne_of_lt F.ns.lt) (next_is_new F) (fun p hp => Nat.ne_of_lt (Heap.lt_size (N p hp).1)) S (R _ ⟨_, rfl⟩) ?_
  · show b < (s₁.heap.push _).objs.size
    rw [Heap.size_push]
    rcases List.mem_cons.mp hb with rfl | hb
    · exact Nat.lt_succ_self _
    · rw [List.mem_singleton.mp hb]; exact Nat.lt_succ_of_lt hlt
  · intro D C h tk m' ys news' F' N' o1 hn hC₀ hD₀ hCL hDL hCD offC fin
    refine ⟨m', hn, fun h'' hs'' => fin D h'' tk (F'.change hs'' hCL hC₀) (fun p hp => ?_) o1⟩
    refine ⟨hs''.extBut _ _ ?_ (N' p hp).1, (N' p hp).2⟩
    rcases List.mem_cons.mp hp with rfl | hp
    · exact Ne.symm hCD
    · exact offC p hp
end
end Mine
namespace Mine
open PySem PySem.W PyProof.Rows PyProof.Rows.LCg
theorem strs_nth {l : List (Str × Tok)} {rows : List Str} {i : Nat} {v : Value} (e : l.map (·.1) = rows) (hv : (strValues l)[i]? = some v) : ∃ r t, v = .str r t ∧ rows[i]? = some r := by
  subst e
  unfold strValues at hv
  rw [List.getElem?_map] at hv
  cases h : l[i]? with
  | none => rw [h] at hv; cases hv
  | some p =>
    rw [h] at hv
    cases hv
    exact ⟨p.1, p.2, rfl, by rw [List.getElem?_map, h]; rfl⟩
theorem row_short {x r : Str} {i : Nat} (hx : x.length ≤ 4200) (h : (rowsOf x)[i]? = some r) : r.length ≤ 4200 :=
  Nat.le_trans (part_short ((List.dropLast_sublist _).subset (List.mem_of_getElem? h))) hx
theorem row_strOk {x r : Str} {i : Nat} (ho : PyData.strOk x = true) (h : (rowsOf x)[i]? = some r) : PyData.strOk r = true :=
  part_ok ho ((List.dropLast_sublist _).subset (List.mem_of_getElem? h))
theorem letD_no {r : Str} (h : rowOk (Txt.split r BLK) = false) : letD r = .none := by unfold letD; rw [h]; rfl
theorem letD_yes {r : Str} (h : rowOk (Txt.split r BLK) = true) : letD r = rowLet (Txt.split r BLK) := by unfold letD; rw [h]; rfl
theorem good_rows {x r : Str} {i : Nat} (hb : ¬ badT x) (h : (rowsOf x)[i]? = some r) : rowOk (Txt.split r BLK) = true := by
  cases q : rowOk (Txt.split r BLK) with
  | true => rfl
  | false => exact absurd (.inr (List.mem_map.mpr ⟨r, List.mem_of_getElem? h, letD_no q⟩)) hb
theorem good_last {x : Str} (hb : ¬ badT x) : lastOf x = Str.ofString "" := Classical.byContradiction fun q => hb (.inl q)
theorem bad_rows {x : Str} (hb : badT x) (hl : lastOf x = Str.ofString "") : ¬ ∀ i, i < (rowsOf x).length → ∀ r, (rowsOf x)[i]? = some r → rowOk (Txt.split r BLK) = true := fun q => by
  rcases hb with hb | hb
  · exact hb hl
  · obtain ⟨r, hr, e⟩ := List.mem_map.mp hb
    obtain ⟨i, hi, rfl⟩ := List.mem_iff_getElem.mp hr
    have := q i hi _ (List.getElem?_eq_getElem hi)
    rw [letD_yes this] at e
    cases e
theorem let_nth {x r : Str} {i : Nat} {d : Dat} (h : (rowsOf x)[i]? = some r) (hd : (lettersOf x)[i]? = some d) : d = letD r := by
  unfold lettersOf at hd
  rw [List.getElem?_map, h] at hd
  cases hd; rfl
theorem let_row {x : Str} {i : Nat} {d : Dat} (hd : (lettersOf x)[i]? = some d) : ∃ r, (rowsOf x)[i]? = some r ∧ d = letD r := by
  unfold lettersOf at hd
  rw [List.getElem?_map] at hd
  cases h : (rowsOf x)[i]? with
  | none => rw [h] at hd; cases hd
  | some r => rw [h] at hd; cases hd; exact ⟨r, rfl, rfl⟩
theorem letters_len {x : Str} {l : List (Str × Tok)} (e : l.map (·.1) = rowsOf x) : (lettersOf x).length = (strValues l).toArray.size := by
  unfold lettersOf
  rw [List.length_map, ← e, List.length_map, List.size_toArray, strValues_len]
noncomputable def LetT (d : Dat) : Prop := ∃ (y : Str) (a b c e : Int), d = .tuple [.str y, .int a, .int b, .int c, .int e] ∧ y.length ≤ 4200 ∧ PyData.strOk y = true ∧ 0 ≤ a ∧ 0 ≤ b ∧ 0 ≤ c ∧ 0 ≤ e
theorem letT_of {x : Str} {i : Nat} {d : Dat} (hx : x.length ≤ 4200) (ho : PyData.strOk x = true) (hb : ¬ badT x) (hd : (lettersOf x)[i]? = some d) : LetT d := by
  obtain ⟨r, hr, rfl⟩ := let_row hd
  have hg := good_rows hb hr
  rw [letD_yes hg]
  have h9 := row_len hg
  have hm : wordAt (Txt.split r BLK) 0 ∈ Txt.split r BLK := by
    unfold wordAt
    rw [List.getD_eq_getElem?_getD, List.getElem?_eq_getElem (by omega)]
    exact List.getElem_mem _
  exact ⟨_, _, _, _, _, rfl, Nat.le_trans (part_short hm) (row_short hx hr), part_ok (row_strOk ho hr) hm, numV_nn _, numV_nn _, numV_nn _, numV_nn _⟩
theorem turn_ex {h₀ h' : Heap} {L I C D : Addr} {m : Str → Option Value} {s₁ : Shared} {oI oC oD : Obj} {tk : Nat} {add nw X : List (Addr × Obj)} {y : Value} {d : Dat}
    (F : Fr h₀ L h' m) (N : News h₀ L h' (add ++ (I, oI) :: (C, oC) :: (D, oD) :: nw)) (off : Off3 I C D nw) (hn : ∀ p ∈ add, ∀ q ∈ (I, oI) :: (C, oC) :: (D, oD) :: nw, q.1 ≠ p.1) (hd : DatIn add y d) :
    CompTurn h₀ L m s₁ I oI C oC D oD (fun _ => True) (fun y nw' => ∃ add, nw' = add ++ nw ∧ (∀ p ∈ add, ∀ q ∈ nw, q.1 ≠ p.1) ∧ DatIn (add ++ X) y d) y { s₁ with heap := h', toks := tk } :=
  CompTurn.intro F N (add ++ nw) sub_three (off_three off hn) trivial ⟨add, rfl, fun p hp q hq => hn p hp q (.tail _ (.tail _ (.tail _ hq))), hd.mono fun _ h => List.mem_append.mpr (.inl h)⟩
theorem turn_same {h₀ h' : Heap} {L I C D : Addr} {m : Str → Option Value} {s₁ : Shared} {oI oC oD : Obj} {tk : Nat} {nw X : List (Addr × Obj)} {y : Value} {d : Dat}
    (F : Fr h₀ L h' m) (N : News h₀ L h' ((I, oI) :: (C, oC) :: (D, oD) :: nw)) (off : Off3 I C D nw) (hd : DatIn X y d) :
    CompTurn h₀ L m s₁ I oI C oC D oD (fun _ => True) (fun y nw' => ∃ add, nw' = add ++ nw ∧ (∀ p ∈ add, ∀ q ∈ nw, q.1 ≠ p.1) ∧ DatIn (add ++ X) y d) y { s₁ with heap := h', toks := tk } :=
  CompTurn.intro F N nw (fun _ h => h) off trivial ⟨[], rfl, (fun _ h => nomatch h), hd⟩
theorem turn_goes {h₀ h' : Heap} {L I C D : Addr} {m : Str → Option Value} {s₁ : Shared} {oI oC oD : Obj} {tk : Nat} {add nw : List (Addr × Obj)} {y : Value} {b : Prop}
    (F : Fr h₀ L h' m) (N : News h₀ L h' (add ++ (I, oI) :: (C, oC) :: (D, oD) :: nw)) (off : Off3 I C D nw) (hn : ∀ p ∈ add, ∀ q ∈ (I, oI) :: (C, oC) :: (D, oD) :: nw, q.1 ≠ p.1) (hb : b) :
    CompTurn h₀ L m s₁ I oI C oC D oD (fun _ => True) (fun _ nw' => (∀ p ∈ nw, p ∈ nw') ∧ b) y { s₁ with heap := h', toks := tk } :=
  CompTurn.intro F N (add ++ nw) sub_three (off_three off hn) trivial ⟨fun _ hp => List.mem_append.mpr (.inr hp), hb⟩
theorem read_ret {h₀ h : Heap} {L : Addr} {m : Str → Option Value} {news add add1 : List (Addr × Obj)} {d8 : Addr × Obj} {s : Shared} {Q : Value → Shared → Prop} {tk' : Nat} {D D1 : Addr} {o1 : Obj} {ys : List Value} {es : List Dat}
    (hret : ∀ (r : Value) (add : List (Addr × Obj)) (h' : Heap) (tk' : Nat), (∃ D ys e ad, r = Value.ref D ∧ add = (D, ({ cls := .type "list", data := .seq (List.toArray ys) e } : Obj)) :: ad ∧ (∀ p ∈ ad, p.1 ≠ D) ∧ DatAll ad ys es) → (∀ p ∈ add, ∀ q ∈ news, q.1 ≠ p.1) → Fr h₀ L h' m → News h₀ L h' (add ++ news) → Q r { s with heap := h', toks := tk' })
    (F : Fr h₀ L h m) (N : News h₀ L h ((D, lst ys) :: (add ++ (D1, o1) :: (add1 ++ d8 :: news)))) (hap : ∀ p ∈ add, ∀ q ∈ (D1, o1) :: (add1 ++ d8 :: news), q.1 ≠ p.1) (hap1 : ∀ p ∈ add1, ∀ q ∈ d8 :: news, q.1 ≠ p.1)
    (o : Off1 D (add ++ (D1, o1) :: (add1 ++ d8 :: news))) (hD : DatAll (add ++ add1) ys es) : Q (.ref D) { s with heap := h, toks := tk' } := by
  have off := off1_mem o
  have ia : ∀ q ∈ add ++ add1, q ∈ add ++ (D1, o1) :: (add1 ++ d8 :: news) := fun p hp => by
    rcases List.mem_append.mp hp with hp | hp
    · exact List.mem_append.mpr (.inl hp)
    · exact List.mem_append.mpr (.inr (.tail _ (List.mem_append.mpr (.inl hp))))
  have inn : ∀ q ∈ news, q ∈ add ++ (D1, o1) :: (add1 ++ d8 :: news) := fun q hq => List.mem_append.mpr (.inr (.tail _ (List.mem_append.mpr (.inr (.tail _ hq)))))
  refine hret (.ref D) ((D, lst ys) :: (add ++ add1)) h tk' ⟨D, ys, _, add ++ add1, rfl, rfl, fun p hp => off p (ia p hp), hD⟩ (fun p hp q hq => ?_) F fun p hp => ?_
  · rcases List.mem_cons.mp hp with rfl | hp
    · exact off q (inn q hq)
    · rcases List.mem_append.mp hp with hp | hp
      · exact hap p hp q (.tail _ (List.mem_append.mpr (.inr (.tail _ hq))))
      · exact hap1 p hp q (.tail _ hq)
  · rcases List.mem_append.mp hp with hp | hp
    · rcases List.mem_cons.mp hp with rfl | hp
      · exact N _ (.head _)
      · exact N p (.tail _ (ia p hp))
    · exact N p (.tail _ (inn p hp))
theorem dueT_isname {x : Str} {a b c d : Int} (h : dueT x a b c d = Str.ofString "name") : nameOk x = false := by
  cases q : nameOk x with
  | false => rfl
  | true =>
    exfalso
    unfold dueT at h
    rw [if_neg (by rw [q]; decide)] at h
    split at h
    · exact absurd h (by decide)
    · split at h
      · exact absurd h (by decide)
      · exact absurd h (by decide)
theorem dueT_isletter {x : Str} {a b c d : Int} (h : dueT x a b c d = Str.ofString "letter") : nameOk x = true := by
  cases q : nameOk x with
  | true => rfl
  | false => rw [← dueT_name q] at h; exact absurd h (by decide)
theorem wordD_mem {ds : List Dat} {w : Str} (hw : wordD ds = w) (hne : w ≠ Str.ofString "") : ¬ ∀ i, i < ds.length → ∀ d, ds[i]? = some d → dueD d = Str.ofString "" := fun q => by
  rw [wordD_ok fun d hd => ?_] at hw
  · exact hne hw.symm
  · obtain ⟨i, hi, rfl⟩ := List.mem_iff_getElem.mp hd
    exact q i hi _ (List.getElem?_eq_getElem hi)
theorem first_due {ds : List Dat} {i : Nat} {d : Dat} (hd : ds[i]? = some d) (hp : ∀ j, j < i → ∀ e, ds[j]? = some e → dueD e = Str.ofString "") (h : dueD d ≠ Str.ofString "") : dueD d = wordD ds := by
  have hlt : i < ds.length := (List.getElem?_eq_some_iff.mp hd).1
  have e : ds = ds.take i ++ d :: ds.drop (i + 1) := by
    have hs : ds.take (i + 1) = ds.take i ++ [d] := by rw [List.take_add_one, hd]; rfl
    have ht := List.take_append_drop (i + 1) ds
    rw [hs, List.append_assoc] at ht
    exact ht.symm
  rw [e]
  refine (wordD_at (fun x hx => ?_) h).symm
  obtain ⟨j, hj, rfl⟩ := List.mem_iff_getElem.mp hx
  have hji : j < i := by rw [List.length_take] at hj; omega
  refine hp j hji _ ?_
  rw [List.getElem_take]
  exact List.getElem?_eq_getElem (by omega)
theorem turn_stay {h₀ h' : Heap} {L I C D : Addr} {m : Str → Option Value} {s₁ : Shared} {oI oC oD : Obj} {tk : Nat} {nw : List (Addr × Obj)} {y : Value} {b : Prop}
    (F : Fr h₀ L h' m) (N : News h₀ L h' ((I, oI) :: (C, oC) :: (D, oD) :: nw)) (off : Off3 I C D nw) (hb : b) :
    CompTurn h₀ L m s₁ I oI C oC D oD (fun _ => True) (fun _ nw' => (∀ p ∈ nw, p ∈ nw') ∧ b) y { s₁ with heap := h', toks := tk } :=
  CompTurn.intro F N nw (fun _ h => h) off trivial ⟨fun _ hp => hp, hb⟩
theorem bad_rowsV {x z : Str} {l : List (Str × Tok)} (hb : badT x) (e : l.map (·.1) = rowsOf x) (ez : z = lastOf x) (hs : Same z (Str.ofString "")) : ¬ ∀ i, i < (strValues l).length → ∀ r, (rowsOf x)[i]? = some r → rowOk (Txt.split r BLK) = true := fun q =>
  bad_rows hb (ez.symm.trans hs) fun i hi => q i (by rw [strValues_len, ← List.length_map (f := (·.1)), e]; exact hi)
end Mine
namespace Mine
open PySem PySem.W PyProof.Rows PySem.Spec PySem.Calls
section
variable {prog : Program} {w : World} {A : Around} {E : Value → Shared → Prop} {s : Shared} {h₀ : Heap} {L t : Addr} {m : Str → Option Value} {news : List (Addr × Obj)} {value slice : PySem.Expr} {vs : List Value} {y : Value} {n : Nat} {u : Tok} {Q : Value → Shared → Prop}
theorem rows_cut (F : Fr h₀ L s.heap m) (N : News h₀ L s.heap news) (hm : (t, ({ cls := .type "list", data := .seq (List.toArray (vs ++ [y])) n } : Obj)) ∈ news) (hz : vs.length ≤ 5000)
    (h : ∀ D h', Fr h₀ L h' m → News h₀ L h' ((D, ({ cls := .type "list", data := .seq (List.toArray vs) } : Obj)) :: news) → (∀ p ∈ news, p.1 < D) → Q (.ref D) { s with heap := h' })
    (hs : subscripted slice false (.ref t) (.ref s.heap.objs.size) = operate [.ref s.heap.objs.size, .ref t] (getItem (.ref t) (.ref s.heap.objs.size)) := by with_unfolding_all rfl)
    (hg : ∀ r, letTemporaryGo value (.ref t) r = pure () := by intro _; with_unfolding_all rfl) :
    wpAny (model prog w) A (subscriptTail value slice (.ref t) (.ref s.heap.objs.size)) Q E { s with heap := s.heap.push { cls := .type "slice", data := .fields #[.none, .int (-1) u, .none] } } := by
  refine slice_list F N (lo := none) (hi := some (-1)) (News.isList N hm) .none (.int (-1) u) (fun h' F' N' => ?_) hs hg (by rw [List.size_toArray, List.length_append, List.length_singleton, sizeLine_eq]; omega)
  rw [show slicePick (List.toArray (vs ++ [y])) none (some (-1)) none = vs.toArray by
    have e := slicePick_butLast (List.toArray (vs ++ [y])) 1 (by decide)
    simpa using e] at N'
  exact h _ h' F' N' fun p hp => Nat.lt_succ_of_lt (Heap.lt_size (N p hp).1)
theorem rows_last (N : News h₀ L s.heap news) (hm : (t, ({ cls := .type "list", data := .seq (List.toArray (vs ++ [y])) n } : Obj)) ∈ news) (h : Q y s)
    (hs : subscripted slice false (.ref t) (.int (-1) u) = operate [.ref t, .int (-1) u] (getItem (.ref t) (.int (-1) u)) := by with_unfolding_all rfl) :
    wpAny (model prog w) A (subscriptTail value slice (.ref t) (.int (-1) u)) Q E s := by
  have hl : s.heap.IsList t (List.toArray (vs ++ [y])) := ⟨_, (N _ hm).1, rfl, n, rfl⟩
  have hz : (List.toArray (vs ++ [y])).size = vs.length + 1 := by simp
  refine tail_any hl.typeIs slot_list_getitem.lookup (wpAny_getItem_list_neg hl (by decide) (by rw [hz]; omega) (by decide) ?_ h) hs
  rw [hz, show (-1 + ((vs.length + 1 : Nat) : Int)).toNat = vs.length by omega]
  simp
open Classical in
theorem in_split {a : Addr} {xs : List Value} {ka : Nat} {n₁ : List (Addr × Obj)} {ds : List Dat} (N : News h₀ L s.heap news) (ma : (a, ({ cls := .type "list", data := .seq xs.toArray ka } : Obj)) ∈ news) (Da : DatAll n₁ xs ds) (sa : ∀ p ∈ n₁, p ∈ news) (ha : ∀ d ∈ ds, kqdOk 8 d = true) (hu : A.units + 64 < cLine)
    (h1 : Dat.none ∈ ds → Q (.bool true) s) (h2 : ¬ Dat.none ∈ ds → Q (.bool false) s) : wpAny (model prog w) A (compareOp .In .none (.ref a)) Q E s := by
  refine kqd_isIn (n₂ := []) (d := .none) N ma rfl rfl Da sa .none (fun _ h => nomatch h) ha rfl hu ?_
  by_cases h : Dat.none ∈ ds
  · rw [decide_eq_true h]; exact h1 h
  · rw [decide_eq_false h]; exact h2 h
end
theorem letters_kqd {x : Str} (ho : PyData.strOk x = true) : ∀ d ∈ lettersOf x, kqdOk 8 d = true := fun d hd => by
  obtain ⟨r, hr, rfl⟩ := List.mem_map.mp hd
  cases q : rowOk (Txt.split r BLK) with
  | false => rw [letD_no q]; rfl
  | true =>
    rw [letD_yes q]
    have h9 := row_len q
    have hm : wordAt (Txt.split r BLK) 0 ∈ Txt.split r BLK := by
      unfold wordAt
      rw [List.getD_eq_getElem?_getD, List.getElem?_eq_getElem (by omega)]
      exact List.getElem_mem _
    have : PyData.strOk (wordAt (Txt.split r BLK) 0) = true := part_ok (part_ok ho ((List.dropLast_sublist _).subset hr)) hm
    simp [rowLet, kqdOk, this]
theorem letT_mem {x : Str} {d : Dat} (hx : x.length ≤ 4200) (ho : PyData.strOk x = true) (hb : ¬ badT x) (hd : d ∈ lettersOf x) : LetT d := by
  obtain ⟨i, hi, rfl⟩ := List.mem_iff_getElem.mp hd
  exact letT_of hx ho hb (List.getElem?_eq_getElem hi)
theorem wordT_bad {x : Str} (h : badT x) : Str.ofString "text" = wordT x := by unfold wordT; rw [if_pos h]
theorem wordT_good {x : Str} (h : ¬ badT x) : wordT x = wordD (lettersOf x) := by unfold wordT; rw [if_neg h]
theorem bad_last {x z : Str} (ez : z = lastOf x) (hs : ¬ Same z (Str.ofString "")) : badT x := .inl fun q => hs (ez.trans q)
theorem not_bad {x z : Str} (ez : z = lastOf x) (hs : Same z (Str.ofString "")) (hn : ¬ Dat.none ∈ lettersOf x) : ¬ badT x := fun q => q.elim (fun h => h (ez.symm.trans hs)) hn
theorem due_at {x : Str} {pre post : List Dat} {d : Dat} {w : Str} (hb : ¬ badT x) (e : lettersOf x = pre ++ d :: post) (hp : ∀ d ∈ pre, dueD d = Str.ofString "") (hd : w = dueD d) (hw : w ≠ Str.ofString "") : w = wordT x := by
  rw [wordT_good hb, e, wordD_at hp (by rw [← hd]; exact hw)]
  exact hd
theorem due_all {x : Str} (hb : ¬ badT x) (hp : ∀ d ∈ lettersOf x, dueD d = Str.ofString "") : Str.ofString "" = wordT x := by
  rw [wordT_good hb, wordD_ok hp]
theorem due_snoc {pre : List Dat} {d : Dat} (hp : ∀ d ∈ pre, dueD d = Str.ofString "") (hd : dueD d = Str.ofString "") : ∀ e ∈ pre ++ [d], dueD e = Str.ofString "" := fun e he => by
  rcases List.mem_append.mp he with he | he
  · exact hp e he
  · rw [List.mem_singleton.mp he]; exact hd
end Mine
namespace Mine
open PySem PySem.W PyProof.Rows PyProof.Rows.LCg
noncomputable def DueOut (x : Str) (r : Value) (add : List (Addr × Obj)) : Prop := ∃ D T ys e k tw, r = .ref T ∧ (T, ({ cls := .type "tuple", data := .seq #[.ref D, .str (wordT x) tw] k } : Obj)) ∈ add ∧ (D, ({ cls := .type "list", data := .seq (List.toArray ys) e } : Obj)) ∈ add ∧ (wordT x = Str.ofString "" → DatAll add ys (lettersOf x))
theorem due_pair {h₀ h : Heap} {L : Addr} {m : Str → Option Value} {news rest ad R : List (Addr × Obj)} {s : Shared} {Q : Value → Shared → Prop} {tk' : Nat} {T D : Addr} {x w : Str} {tw : Tok} {k e : Nat}
    (hret : ∀ (r : Value) (add : List (Addr × Obj)) (h' : Heap) (tk' : Nat), DueOut x r add → (∀ p ∈ add, ∀ q ∈ news, q.1 ≠ p.1) → Fr h₀ L h' m → News h₀ L h' (add ++ news) → Q r { s with heap := h', toks := tk' })
    (N : News h₀ L h ((T, ({ cls := .type "tuple", data := .seq #[.ref D, .str w tw] k } : Obj)) :: (D, ({ cls := .type "list", data := .seq #[] e } : Obj)) :: rest)) (F : Fr h₀ L h m) (hr : ∀ p ∈ news, p ∈ rest) (hs : ∀ p ∈ news, p ∈ ad ++ R) (ltT : AllLt T (ad ++ R)) (ltD : AllLt D (ad ++ R)) (hw : w = wordT x) (hne : w ≠ Str.ofString "") : Q (.ref T) { s with heap := h, toks := tk' } := by
  subst hw
  refine hret (.ref T) [(T, ({ cls := .type "tuple", data := .seq #[.ref D, .str (wordT x) tw] k } : Obj)), (D, ({ cls := .type "list", data := .seq #[] e } : Obj))] h tk' ⟨D, T, [], e, k, tw, rfl, .head _, .tail _ (.head _), fun q => absurd q hne⟩ (fun p hp q hq => ?_) F fun p hp => ?_
  · rcases List.mem_cons.mp hp with rfl | hp
    · exact Nat.ne_of_lt (allLt_mem ltT q (hs q hq))
    · rw [List.mem_singleton.mp hp]; exact Nat.ne_of_lt (allLt_mem ltD q (hs q hq))
  · rcases List.mem_append.mp hp with hp | hp
    · rcases List.mem_cons.mp hp with rfl | hp
      · exact N _ (.head _)
      · rw [List.mem_singleton.mp hp]; exact N _ (.tail _ (.head _))
    · exact N p (.tail _ (.tail _ (hr p hp)))
theorem due_good {h₀ h : Heap} {L : Addr} {m : Str → Option Value} {news all ad R : List (Addr × Obj)} {s : Shared} {Q : Value → Shared → Prop} {tk' : Nat} {T D : Addr} {x : Str} {tw : Tok} {k : Nat} {ys : List Value}
    (hret : ∀ (r : Value) (add : List (Addr × Obj)) (h' : Heap) (tk' : Nat), DueOut x r add → (∀ p ∈ add, ∀ q ∈ news, q.1 ≠ p.1) → Fr h₀ L h' m → News h₀ L h' (add ++ news) → Q r { s with heap := h', toks := tk' })
    (N : News h₀ L h all) (F : Fr h₀ L h m) (hT : (T, ({ cls := .type "tuple", data := .seq #[.ref D, .str (Str.ofString "") tw] k } : Obj)) ∈ all) (hD : (D, lst ys) ∈ all) (ha : ∀ p ∈ ad ++ R, p ∈ all) (hs : ∀ p ∈ news, p ∈ R) (ltT : AllLt T (ad ++ R)) (o : Off1 D (ad ++ R)) (hap : ∀ p ∈ ad, ∀ q ∈ R, q.1 ≠ p.1) (hDat : DatAll ad ys (lettersOf x)) (hw : Str.ofString "" = wordT x) : Q (.ref T) { s with heap := h, toks := tk' } := by
  refine hret (.ref T) ((T, ({ cls := .type "tuple", data := .seq #[.ref D, .str (Str.ofString "") tw] k } : Obj)) :: (D, lst ys) :: ad) h tk' ⟨D, T, ys, _, k, tw, rfl, by rw [← hw]; exact .head _, .tail _ (.head _), fun _ => hDat.mono fun _ h => .tail _ (.tail _ h)⟩ (fun p hp q hq => ?_) F fun p hp => ?_
  · have hq' := hs q hq
    rcases List.mem_cons.mp hp with rfl | hp
    · exact Nat.ne_of_lt (allLt_mem ltT q (List.mem_append.mpr (.inr hq')))
    · rcases List.mem_cons.mp hp with rfl | hp
      · exact off1_mem o q (List.mem_append.mpr (.inr hq'))
      · exact hap p hp q hq'
  · rcases List.mem_append.mp hp with hp | hp
    · rcases List.mem_cons.mp hp with rfl | hp
      · exact N _ hT
      · rcases List.mem_cons.mp hp with rfl | hp
        · exact N _ hD
        · exact N p (ha p (List.mem_append.mpr (.inl hp)))
    · exact N p (ha p (List.mem_append.mpr (.inr (hs p hp))))
end Mine
namespace Mine
open PySem PySem.W PyProof.Rows PySem.Calls
section
variable {prog : Program} {w : World} {A : Around} {E : Value → Shared → Prop} {s : Shared} {h₀ : Heap} {L : Addr} {m : Str → Option Value} {news : List (Addr × Obj)}
theorem args_max4 (a b c d : Value) : argsOk "max" ⟨[a, b, c, d], []⟩ := by unfold argsOk; kernel_rfl
theorem call_max_four {a b c d : Value} {Q : Value → Shared → Prop}
    (h : wpAny (model prog w) A.in1 (pyIter (.ref s.heap.objs.size)) (fun it s₂ => ∃ I fp wr n P St bt, it = .ref I ∧ Walks prog w A.in1 I fp wr n P St ∧ St 0 s₂.heap ∧ (∀ b ∈ fp, b < s₂.heap.objs.size) ∧ 0 < n ∧ CmpOf prog w A.in1 .Gt P bt ∧
      ∀ v h' tk, P (argBest bt (n - 1)) v → (∀ b o, b ∉ wr → s₂.heap.get? b = some o → h'.get? b = some o) → Q v { s₂ with heap := h', toks := tk }) E
      { s with heap := s.heap.push { cls := .type "tuple", data := .seq #[a, b, c, d] } }) :
    wpAny (model prog w) A (call (.builtin "max") [a, b, c, d]) Q E s := by
  have hname : (toString "max" ++ toString ".loop" : String) = "max.loop" := by decide
  refine call_function_tree F.kind_max F.plain_max F.entry_max (args_max4 _ _ _ _) ?_
  show wpAny _ A.in1 (Builtin.Builtins.bindParams "max" ["key", "default"] 0 ⟨[], []⟩ >>= _) _ _ s
  refine wpAny_bind (wpAny_of_eq (show Builtin.Builtins.bindParams "max" ["key", "default"] 0 ⟨[], []⟩ = pure [none, none] from rfl) ?_)
  show wpAny _ A.in1 (newTuple [a, b, c, d] >>= _) _ _ s
  refine wpAny_bind (wpAny_newObj_type ?_)
  refine wpAny_bind (wpAny_mono h (fun it s₂ h₂ => ?_) fun _ _ e => e)
  obtain ⟨I, fp, wr, n, P, St, bt, rfl, W, hst, hfp, hn, hcmp, hQ⟩ := h₂
  refine wpAny_bind (wpAny_newObj_type ?_)
  have hSf : s₂.heap.objs.size ∉ fp := fun hm => Nat.lt_irrefl _ (hfp _ hm)
  rw [hname]
  refine wpAny_pure ⟨plainId_quiet F.plain_max_loop _, codeAny_max_loop_first W bt hcmp s₂.heap.objs.size hSf hn (W.frame _ _ _ hst fun b _ o e => Heap.get?_push_of_some _ e) (Heap.get?_push_size _ rfl) fun v h' tk hP hk => ?_⟩
  exact hQ v h' tk hP fun b o hbw e => hk b o hbw (Nat.ne_of_lt (Heap.lt_size e)) (Heap.get?_push_of_some _ e)
theorem max_four {a b c d : Int} {t u x y : Tok} {Q : Value → Shared → Prop} (hh : A.handled = none) (F : Fr h₀ L s.heap m) (N : News h₀ L s.heap news)
    (h : ∀ h' M (t : Tok) tk, Fr h₀ L h' m → News h₀ L h' news → M ∈ [a, b, c, d] → (∀ k, k ∈ [a, b, c, d] → k ≤ M) → Q (.int M t) { s with heap := h', toks := tk }) :
    wpAny (model prog w) A (call (.builtin "max") [.int a t, .int b u, .int c x, .int d y]) Q E s := by
  have hT : (s.heap.push { cls := .type "tuple", data := .seq #[.int a t, .int b u, .int c x, .int d y] }).IsTuple s.heap.objs.size (intItems #[(a, t), (b, u), (c, x), (d, y)]) := ⟨_, Heap.get?_push_size _ rfl, rfl, 0, by simp [intItems]⟩
  refine call_max_four (wpAny_pyIter_tuple hT ?_)
  have hsz : (s.heap.push { cls := .type "tuple", data := .seq #[.int a t, .int b u, .int c x, .int d y] }).objs.size = s.heap.objs.size + 1 := Heap.size_push ..
  refine ⟨_, [_, s.heap.objs.size], [_], _, _, _, _, rfl, Walks.tuple (A := A.in1) hh _ s.heap.objs.size (by rw [hsz]; exact Nat.ne_of_lt (Nat.lt_succ_self _)) (intItems #[(a, t), (b, u), (c, x), (d, y)]),
    ⟨⟨_, Heap.get?_push_size _ rfl, rfl, rfl⟩, hT.push _⟩, fun e he => ?_, by simp [intItems], CmpOf.ints_gt (numAt #[(a, t), (b, u), (c, x), (d, y)]) (fun _ _ => intItems_at), fun v h' tk hP hk => ?_⟩
  · show e < ((s.heap.push _).push _).objs.size
    rw [Heap.size_push, hsz]
    rcases List.mem_cons.mp he with rfl | he
    · rw [hsz]; exact Nat.lt_succ_self _
    · rcases List.mem_cons.mp he with rfl | he
      · exact Nat.lt_succ_of_lt (Nat.lt_succ_self _)
      · cases he
  · have hold : ∀ d o, s.heap.get? d = some o → h'.get? d = some o := fun d o e => by
      refine hk d o (fun hm => ?_) (Heap.get?_push_of_some _ (Heap.get?_push_of_some _ e))
      rcases List.mem_cons.mp hm with e1 | hm
      · have := Heap.lt_size e; rw [e1, hsz] at this; exact Nat.lt_irrefl _ (Nat.lt_of_succ_lt this)
      · cases hm
    have hP' : (intItems #[(a, t), (b, u), (c, x), (d, y)])[argBest (fun i j => decide (numAt #[(a, t), (b, u), (c, x), (d, y)] i > numAt #[(a, t), (b, u), (c, x), (d, y)] j)) 3]? = some v := by
      have e : (intItems #[(a, t), (b, u), (c, x), (d, y)]).size - 1 = 3 := by simp [intItems]
      rw [← e]; exact hP
    obtain ⟨tv, rfl⟩ := intItems_at hP'
    obtain ⟨h1, h2⟩ := argBest_gt (numAt #[(a, t), (b, u), (c, x), (d, y)]) 3
    refine h _ _ tv tk (F.grownK hold) (N.grown hold) ?_ fun k hk => ?_
    · generalize argBest (fun i j => decide (numAt #[(a, t), (b, u), (c, x), (d, y)] i > numAt #[(a, t), (b, u), (c, x), (d, y)] j)) 3 = i at h1 h2 ⊢
      match i, h1 with
      | 0, _ => simp [numAt]
      | 1, _ => simp [numAt]
      | 2, _ => simp [numAt]
      | 3, _ => simp [numAt]
    · simp only [List.mem_cons, List.not_mem_nil, or_false] at hk
      rcases hk with rfl | rfl | rfl | rfl
      · exact h2 0 (by decide)
      · exact h2 1 (by decide)
      · exact h2 2 (by decide)
      · exact h2 3 (by decide)
end
end Mine
namespace Mine
theorem four_or {M a b c d : Int} (h : M ∈ [a, b, c, d]) : M = a ∨ M = b ∨ M = c ∨ M = d := by simpa using h
theorem four_le {M a b c d : Int} (h : ∀ k, k ∈ [a, b, c, d] → k ≤ M) : a ≤ M ∧ b ≤ M ∧ c ≤ M ∧ d ≤ M := ⟨h a (by simp), h b (by simp), h c (by simp), h d (by simp)⟩
end Mine
namespace Mine
open PySem PySem.W PyProof.Rows
theorem ne_nn {prog : Program} {w : World} {A : Around} {E : Value → Shared → Prop} {s : Shared} {h₀ : Heap} {L a b : Addr} {ka kb : Nat} {news : List (Addr × Obj)} {Q : Value → Shared → Prop} (N : News h₀ L s.heap news) (ma : (a, ({ cls := .type "list", data := .seq #[] ka } : Obj)) ∈ news) (mb : (b, ({ cls := .type "list", data := .seq #[] kb } : Obj)) ∈ news) (hu : A.units + 64 < cLine) (h : Q (.bool false) s) : wpAny (model prog w) A (compareOp .NotEq (.ref a) (.ref b)) Q E s :=
  kqd_ne (xs := []) (ys := []) (n₁ := []) (n₂ := []) (ds := []) (es := []) N ma rfl rfl .nil (fun _ h => nomatch h) mb rfl rfl .nil (fun _ h => nomatch h) (fun _ h => nomatch h) (fun _ h => nomatch h) hu (by simpa using h)
theorem four_int {a b c e : Int} {d : Dat} {v : Value} {l : List (Addr × Obj)} (h : d ∈ [Dat.int a, Dat.int b, Dat.int c, Dat.int e]) (hI : DatIn l v d) : ∃ k t, v = .int k t := by
  simp only [List.mem_cons, List.not_mem_nil, or_false] at h
  rcases h with rfl | rfl | rfl | rfl <;> (cases hI; exact ⟨_, _, rfl⟩)
theorem no_dat {l : List (Addr × Obj)} {ys : List Value} {ds : List Dat} (h : DatAll l ys (ds.filter fun _ => false)) : ys = [] := by
  have e : ds.filter (fun _ => false) = [] := by simp
  rw [e] at h
  cases h; rfl
end Mine
namespace Mine
open PySem PySem.W PyProof.Rows
section
variable {prog : Program} {w : World} {A₀ A : Around} {s : Shared} {base h₀ : Heap} {L a : Addr} {m : Str → Option Value} {cn : Str} {cs : Scope} {ccd : Value} {news : List (Addr × Obj)} {K : Frag} {p : Program} {loose : List Str} {mean : ExcName → Option Value} {mg mb : Str → Option Value}
    {R : Result → Shared → Prop} {name qual : Str} {params : Arguments} {body : List Stmt} {scope : Scope} {dV kV doc pm cdv ct oc : Value} {an od : Option Addr} {osl : Array (Option Value)} {f : Addr} {args : Args} {binds : List (Str × Value)}
theorem frames_one : [envOfC cn cs L a ccd].filterMap (·.frame) = [L] := rfl
theorem belowC {h : Heap} (B : Below A₀ base [] h₀) (F : Fr h₀ L h m) (hck : cs.kind = .function) : h.FunFrames base [envOfC cn cs L a ccd] := by
  have hnew : base.get? L = none := by
    cases hq : base.get? L with
    | none => rfl
    | some o => exact absurd (Nat.lt_of_lt_of_le (Heap.lt_size (B.stays L o hq)) F.above) (Nat.lt_irrefl _)
  exact .cons (by show cs.kind ≠ .module; rw [hck]; decide) rfl F.ns hnew (B.frames.of_keeps fun b o e _ => ⟨o, F.keep b o e, rfl⟩)
theorem defS0C (B : Below A₀ base [] h₀) (F : Fr h₀ L s.heap m) (X₀ : K.In h₀) (N : News h₀ L s.heap news) (T : Top p loose mean mg mb h₀) (hA : A.frames = some [envOfC cn cs L a ccd])
    (ho : K.lookup f = some ⟨oc, od, .func (fnOf name qual params body scope dV kV doc pm an cdv ct), osl⟩) (hcd : codeIn K cdv qual = true) (hroom : A.depth < recursionLimit)
    (hbind : BindsTo s (fnOf name qual params body scope dV kV doc pm an cdv ct) args binds) (hloc : ∀ y ∈ binds, scope.names.lookup y.1 = some .local)
    (h : ∀ g L' h₁, Fr h₀ L g m → Fr g L' h₁ (fun y => binds.reverse.lookup y) → News g L' h₁ news → Below A base [envOfC cn cs L a ccd] g → K.In g → Top p loose mean mg mb g → KtsDicts ([envOfC cn cs L a ccd].filterMap (·.frame)) g →
      wpAny (model prog w) (A.deeper (envOf qual scope L' f cdv)) (execs body (envOf qual scope L' f cdv))
        (fun fl s' => LeaveS0 ([envOfC cn cs L a ccd].filterMap (·.frame)) h₀ L m g R (match fl with | .ret v => v | _ => .none) s')
        (fun e s' => wpAny (model prog w) (A.deeper (envOf qual scope L' f cdv)) (leaving (envOf qual scope L' f cdv) e) (fun _ s'' => R (.error e) s'') (fun e' s'' => R (.error e') s'') s')
        { s with heap := h₁, toks := s.toks + binds.length })
    (hck : cs.kind = .function) (hco : scope.isCoroutine = false) (hgen : scope.isGenerator = false) (hk : scope.kind = .function)
    (hcell : ∀ x ∈ scope.names, x.2 ≠ .cell) : codeAny (model prog w) A (.call (.ref f) args) R s := by
  have apart : ∀ b o, h₀.get? b = some o → b ∉ news.map (·.1) := fun b o e q => by
    obtain ⟨r, hr, rfl⟩ := List.mem_map.mp q
    rw [(N r hr).2.2] at e; cases e
  have stay : h₀.StaysIn (hideAll s.heap (news.map (·.1))) := fun b o e => hideAll_get _ (F.keep b o e) (apart b o e)
  have own : L ∉ news.map (·.1) := fun q => by
    obtain ⟨r, hr, e⟩ := List.mem_map.mp q
    exact (N r hr).2.1 e
  obtain ⟨oL, es, ep, hL, hLd, hLk, hLf⟩ := id F.ns
  have hLg := hideAll_get (news.map (·.1)) hL own
  have low : Below A base [envOfC cn cs L a ccd] (hideAll s.heap (news.map (·.1))) := ⟨hA, fun b o e => stay b o (B.stays b o e), funFrames_hideAll (belowC B F hck) fun env he b hb hf => by
    cases he with
    | head => exact own ((Option.some.inj hf : L = b) ▸ hb)
    | tail _ he => cases he⟩
  have X := X₀.keeps F.keep
  refine codeAny_call_def (fd := fnOf name qual params body scope dV kV doc pm an cdv ct) (body := body) (binds := binds) hroom (X _ _ ho) rfl (T.nolimit.keeps F.keep) (codeRec_of X hcd) rfl hbind hcell hloc (fun h₁ hns hk₁ => ?_) hco hgen hk
  refine wpAny_mono (h _ s.heap.objs.size h₁ ⟨⟨oL, es, ep, hLg, hLd, hLk, hLf⟩, stay, F.above⟩ ⟨hns, fun b o e => hk₁ b o (of_hideAll _ e), Nat.le_of_eq (hideAll_size _ _)⟩
    (fun r hr => ⟨hk₁ _ _ (N r hr).1, Nat.ne_of_lt (Heap.lt_size (N r hr).1), hideAll_none _ (List.mem_map_of_mem hr)⟩) low (X₀.keeps stay) (T.keeps stay) (fun b hb => by
      rw [frames_one] at hb
      rw [List.mem_singleton.mp hb]
      exact ⟨oL, es, ep, hLg, hLd⟩)) (fun fl s' hl => ?_) fun _ _ y => y
  obtain ⟨g', L', m', news', T', F', N', k⟩ := hl
  have nL₀ : h₀.get? L = none := kts_self F
  obtain ⟨sl, hs⟩ := T'.up hLg
  refine k ⟨⟨_, es, ep, F'.keep _ _ hs, hLd, hLk, hLf⟩, fun b o e => F'.keep b o (T'.other b o (stay b o e) (fun q => by
    rw [frames_one] at q
    rw [List.mem_singleton.mp q, nL₀] at e
    cases e)), F.above⟩ fun r hr => ⟨(N' r hr).1, fun q => ?_, ?_⟩
  · have := (N' r hr).2.2; rw [q, hs] at this; cases this
  · cases q : h₀.get? r.1 with
    | none => rfl
    | some o =>
      obtain ⟨sl', hs'⟩ := T'.up (stay _ _ q)
      have := (N' r hr).2.2
      rw [hs'] at this
      cases this
end
noncomputable def CzC (prog : Program) (w : World) (K : Frag) (p : Program) (loose : List Str) (mean : ExcName → Option Value) (mg mb : Str → Option Value) (f : Addr) (vs : List Value) (P : List (Addr × Obj) → Prop) (R : Tok → Value) : Prop :=
  ∀ (cn : Str) (cs : Scope) (a : Addr) (ccd : Value) (A₀ : Around) (base h₀ : Heap) (L : Addr) (m : Str → Option Value) (news : List (Addr × Obj)) (s : Shared) (Q E : Value → Shared → Prop),
    Below A₀ base [] h₀ → Fr h₀ L s.heap m → K.In h₀ → News h₀ L s.heap news → Top p loose mean mg mb h₀ → K.In base → Top p loose mean mg mb base → cs.kind = .function → P news →
    (∀ (t : Tok) (h' : Heap) (tk' : Nat), Fr h₀ L h' m → News h₀ L h' news → Q (R t) { s with heap := h', toks := tk' }) →
    wpAny (model prog w) (callerA.deeper (envOfC cn cs L a ccd)) (call (.ref f) vs) Q E s
theorem CzC.use {prog : Program} {w : World} {K : Frag} {p : Program} {loose : List Str} {mean : ExcName → Option Value} {mg mb : Str → Option Value} {f : Addr} {vs : List Value} {P : List (Addr × Obj) → Prop} {R : Tok → Value} (C : CzC prog w K p loose mean mg mb f vs P R)
    {cn : Str} {cs : Scope} {a : Addr} {ccd : Value} {A₀ : Around} {base h₀ : Heap} {L : Addr} {m : Str → Option Value} {news : List (Addr × Obj)} {s : Shared} {Q E : Value → Shared → Prop}
    (B : Below A₀ base [] h₀ := by k_asm) (F : Fr h₀ L s.heap m := by k_asm) (X : K.In h₀ := by k_asm) (N : News h₀ L s.heap news := by k_asm) (T : Top p loose mean mg mb h₀ := by k_asm) (XB : K.In base := by assumption) (TB : Top p loose mean mg mb base := by assumption) (hk : cs.kind = .function := by first | exact rfl | assumption) (hp : P news := by first | trivial | k_mem)
    (ret : ∀ (t : Tok) (h' : Heap) (tk' : Nat), Fr h₀ L h' m → News h₀ L h' news → Q (R t) { s with heap := h', toks := tk' }) :
    wpAny (model prog w) (callerA.deeper (envOfC cn cs L a ccd)) (call (.ref f) vs) Q E s := C _ _ _ _ _ _ _ _ _ _ _ _ _ B F X N T XB TB hk hp ret
end Mine
namespace Mine
open PySem PySem.W PyProof.Rows
noncomputable def CzMC (prog : Program) (w : World) (K : Frag) (p : Program) (loose : List Str) (mean : ExcName → Option Value) (mg mb : Str → Option Value) (f : Addr) (vs : List Value) (P : List (Addr × Obj) → Prop) (Out : Value → List (Addr × Obj) → Prop) : Prop :=
  ∀ (cn : Str) (cs : Scope) (a : Addr) (ccd : Value) (A₀ : Around) (base h₀ : Heap) (L : Addr) (m : Str → Option Value) (news : List (Addr × Obj)) (s : Shared) (Q E : Value → Shared → Prop),
    Below A₀ base [] h₀ → Fr h₀ L s.heap m → K.In h₀ → News h₀ L s.heap news → Top p loose mean mg mb h₀ → K.In base → Top p loose mean mg mb base → cs.kind = .function → P news →
    (∀ (r : Value) (add : List (Addr × Obj)) (h' : Heap) (tk' : Nat), Out r add → (∀ p ∈ add, ∀ q ∈ news, q.1 ≠ p.1) → Fr h₀ L h' m → News h₀ L h' (add ++ news) → Q r { s with heap := h', toks := tk' }) →
    wpAny (model prog w) (callerA.deeper (envOfC cn cs L a ccd)) (call (.ref f) vs) Q E s
theorem CzMC.use {prog : Program} {w : World} {K : Frag} {p : Program} {loose : List Str} {mean : ExcName → Option Value} {mg mb : Str → Option Value} {f : Addr} {vs : List Value} {P : List (Addr × Obj) → Prop} {Out : Value → List (Addr × Obj) → Prop} (C : CzMC prog w K p loose mean mg mb f vs P Out)
    {cn : Str} {cs : Scope} {a : Addr} {ccd : Value} {A₀ : Around} {base h₀ : Heap} {L : Addr} {m : Str → Option Value} {news : List (Addr × Obj)} {s : Shared} {Q E : Value → Shared → Prop}
    (B : Below A₀ base [] h₀ := by k_asm) (F : Fr h₀ L s.heap m := by k_asm) (X : K.In h₀ := by k_asm) (N : News h₀ L s.heap news := by k_asm) (T : Top p loose mean mg mb h₀ := by k_asm) (XB : K.In base := by assumption) (TB : Top p loose mean mg mb base := by assumption) (hk : cs.kind = .function := by first | exact rfl | assumption) (hp : P news := by first | trivial | k_mem)
    (ret : ∀ (r : Value) (add : List (Addr × Obj)) (h' : Heap) (tk' : Nat), Out r add → (∀ p ∈ add, ∀ q ∈ news, q.1 ≠ p.1) → Fr h₀ L h' m → News h₀ L h' (add ++ news) → Q r { s with heap := h', toks := tk' }) :
    wpAny (model prog w) (callerA.deeper (envOfC cn cs L a ccd)) (call (.ref f) vs) Q E s := C _ _ _ _ _ _ _ _ _ _ _ _ _ B F X N T XB TB hk hp ret
noncomputable def ToldOk (x : Str) (r : Value) (add : List (Addr × Obj)) : Prop := ∃ D T ys e k tw ad, r = .ref T ∧ add = (T, ({ cls := .type "tuple", data := .seq #[.ref D, .str (Str.ofString "") tw] k } : Obj)) :: (D, ({ cls := .type "list", data := .seq (List.toArray ys) e } : Obj)) :: ad ∧ (∀ p ∈ ad, p.1 ≠ D) ∧ DatAll ad ys (lettersOf x)
noncomputable def ToldBad (w : Str) (r : Value) (add : List (Addr × Obj)) : Prop := ∃ D T e k tw, r = .ref T ∧ add = [(T, ({ cls := .type "tuple", data := .seq #[.ref D, .str w tw] k } : Obj)), (D, ({ cls := .type "list", data := .seq #[] e } : Obj))]
theorem told_ok {h₀ h : Heap} {L : Addr} {m : Str → Option Value} {news ad : List (Addr × Obj)} {s : Shared} {Q : Value → Shared → Prop} {tk' : Nat} {T D : Addr} {x : Str} {tw : Tok} {k e : Nat} {ys : List Value}
    (hret : ∀ (r : Value) (add : List (Addr × Obj)) (h' : Heap) (tk' : Nat), ToldOk x r add → (∀ p ∈ add, ∀ q ∈ news, q.1 ≠ p.1) → Fr h₀ L h' m → News h₀ L h' (add ++ news) → Q r { s with heap := h', toks := tk' })
    (F : Fr h₀ L h m) (N : News h₀ L h ((T, ({ cls := .type "tuple", data := .seq #[.ref D, .str (Str.ofString "") tw] k } : Obj)) :: (((D, ({ cls := .type "list", data := .seq (List.toArray ys) e } : Obj)) :: ad) ++ news))) (lt : ∀ p ∈ ((D, ({ cls := .type "list", data := .seq (List.toArray ys) e } : Obj)) :: ad) ++ news, p.1 < T) (hn : ∀ p ∈ (D, ({ cls := .type "list", data := .seq (List.toArray ys) e } : Obj)) :: ad, ∀ q ∈ news, q.1 ≠ p.1)
    (hap : ∀ p ∈ ad, p.1 ≠ D) (hD : DatAll ad ys (lettersOf x)) : Q (.ref T) { s with heap := h, toks := tk' } := by
  refine hret (.ref T) _ h tk' ⟨D, T, ys, e, k, tw, ad, rfl, rfl, hap, hD⟩ (fun p hp q hq => ?_) F N
  rcases List.mem_cons.mp hp with rfl | hp
  · exact Nat.ne_of_lt (lt q (List.mem_append.mpr (.inr hq)))
  · exact hn p hp q hq
theorem told_bad {h₀ h : Heap} {L : Addr} {m : Str → Option Value} {news rest : List (Addr × Obj)} {s : Shared} {Q : Value → Shared → Prop} {tk' : Nat} {T D : Addr} {w : Str} {tw : Tok} {k e : Nat}
    (hret : ∀ (r : Value) (add : List (Addr × Obj)) (h' : Heap) (tk' : Nat), ToldBad w r add → (∀ p ∈ add, ∀ q ∈ news, q.1 ≠ p.1) → Fr h₀ L h' m → News h₀ L h' (add ++ news) → Q r { s with heap := h', toks := tk' })
    (F : Fr h₀ L h m) (N : News h₀ L h ((T, ({ cls := .type "tuple", data := .seq #[.ref D, .str w tw] k } : Obj)) :: (D, ({ cls := .type "list", data := .seq #[] e } : Obj)) :: rest)) (hs : ∀ p ∈ news, p ∈ rest) (lT : ∀ q ∈ news, q.1 < T) (lD : ∀ q ∈ news, q.1 < D) : Q (.ref T) { s with heap := h, toks := tk' } := by
  refine hret (.ref T) _ h tk' ⟨D, T, e, k, tw, rfl, rfl⟩ (fun p hp q hq => ?_) F fun p hp => ?_
  · rcases List.mem_cons.mp hp with rfl | hp
    · exact Nat.ne_of_lt (lT q hq)
    · rw [List.mem_singleton.mp hp]; exact Nat.ne_of_lt (lD q hq)
  · rcases List.mem_append.mp hp with hp | hp
    · rcases List.mem_cons.mp hp with rfl | hp
      · exact N _ (.head _)
      · rw [List.mem_singleton.mp hp]; exact N _ (.tail _ (.head _))
    · exact N p (.tail _ (.tail _ (hs p hp)))
theorem news_got {h₀ h : Heap} {L e t : Addr} {c : Value} {vs : List Value} {n₂ news : List (Addr × Obj)} (_ : Got n₂ e t c vs) (N₂ : News h₀ L h n₂) (N : News h₀ L h news) : News h₀ L h (n₂ ++ news) := fun p hp => (List.mem_append.mp hp).elim (N₂ p) (N p)
theorem news_m12 {h₀ h : Heap} {L : Addr} {l : Addr × Obj} {n₂ news : List (Addr × Obj)} (N : News h₀ L h (l :: (n₂ ++ news))) : News h₀ L h n₂ := fun p hp => N p (.tail _ (List.mem_append.mpr (.inl hp)))
end Mine
namespace Mine
open PySem PySem.W PyProof.Rows
theorem strOk_string (s : String) : PyData.strOk (Str.ofString s) = true := by
  rw [Str.ofString_eq_toList]
  unfold PyData.strOk
  rw [Array.all_eq_true_iff_forall_mem]
  intro c hc
  have hc' : c ∈ s.toList.map Char.toNat := by simpa using hc
  obtain ⟨ch, _, rfl⟩ := List.mem_map.mp hc'
  have hv := ch.valid
  have : ch.toNat < 0x110000 := by
    rcases hv with h | h
    · exact Nat.lt_trans h (by decide)
    · exact h.2
  simpa using this
theorem row_le {x : Str} {se ba lo hi : Int} (hok : PyData.strOk x = true) (h1 : 0 ≤ se ∧ se ≤ 2000000000000) (h2 : 0 ≤ ba ∧ ba ≤ 2000000000000) (h3 : 0 ≤ lo ∧ lo ≤ 2000000000000) (hl : x.length + (numT hi).length ≤ 62) :
    (Str.empty ++ x ++ Str.ofString " sent " ++ Str.ofString (toString se) ++ Str.ofString " back " ++ Str.ofString (toString ba) ++ Str.ofString " swears " ++ Str.ofString (toString lo) ++ Str.ofString " to " ++ Str.ofString (toString hi)).length ≤ 125 ∧
    PyData.strOk (Str.empty ++ x ++ Str.ofString " sent " ++ Str.ofString (toString se) ++ Str.ofString " back " ++ Str.ofString (toString ba) ++ Str.ofString " swears " ++ Str.ofString (toString lo) ++ Str.ofString " to " ++ Str.ofString (toString hi)) = true := by
  have a1 := numT_len (i := se) h1.1 h1.2
  have a2 := numT_len (i := ba) h2.1 h2.2
  have a3 := numT_len (i := lo) h3.1 h3.2
  unfold numT at a1 a2 a3 hl
  refine ⟨?_, ?_⟩
  · simp only [Str.length_append]
    have b0 : Str.empty.length = 0 := rfl
    have b1 : (Str.ofString " sent ").length = 6 := by decide
    have b2 : (Str.ofString " back ").length = 6 := by decide
    have b3 : (Str.ofString " swears ").length = 8 := by decide
    have b4 : (Str.ofString " to ").length = 4 := by decide
    omega
  · exact strOk_append (strOk_append (strOk_append (strOk_append (strOk_append (strOk_append (strOk_append (strOk_append (strOk_append (by decide +kernel) hok) (strOk_string _)) (strOk_string _)) (strOk_string _)) (strOk_string _)) (strOk_string _)) (strOk_string _)) (strOk_string _)) (strOk_string _)
theorem cell_div {c : Int} {P : Prop} (h : CellOk c ∧ P) (k : Int) : CellOk (c.fdiv k) := intBits_fdiv_le h.1
noncomputable def NoneOk (r : Value) (add : List (Addr × Obj)) : Prop := ∃ (S : Addr) (x : Str) (se ba lo hi : Int) (tx ta tb tc td : Tok) (k : Nat), r = .ref S ∧ (S, ({ cls := .type "tuple", data := .seq #[.str x tx, .int se ta, .int ba tb, .int lo tc, .int hi td] k } : Obj)) ∈ add ∧ (x.length ≤ 13 ∧ PyData.strOk x = true) ∧ (0 ≤ se ∧ se ≤ 2000000000000) ∧ (0 ≤ ba ∧ ba ≤ 2000000000000) ∧ (0 ≤ lo ∧ lo ≤ 2000000000000) ∧ (0 ≤ hi ∧ hi ≤ 99999999999999999999999999999999999999999999999)
theorem item_refs {prog : Program} {w : World} {A : Around} {E : Value → Shared → Prop} {s : Shared} {value slice : PySem.Expr} {l : Addr} {vs : List Value} {k : Int} {u : Tok} {Q : Value → Shared → Prop} (hl : s.heap.IsList l vs.toArray) (h0 : 0 ≤ k ∧ k < vs.length) (hfit : k < 2 ^ 63) (h : ∀ v, v ∈ vs → Q v s)
    (hs : subscripted slice false (.ref l) (.int k u) = operate [.ref l, .int k u] (getItem (.ref l) (.int k u)) := by with_unfolding_all rfl) :
    wpAny (model prog w) A (subscriptTail value slice (.ref l) (.int k u)) Q E s := by
  have hlt : k.toNat < vs.length := by omega
  exact tail_any hl.typeIs slot_list_getitem.lookup (wpAny_getItem_list hl h0.1 hfit (x := vs[k.toNat]) (by rw [List.getElem?_toArray, List.getElem?_eq_getElem hlt]) (h _ (List.getElem_mem hlt))) hs
theorem one_mem {h₀ h' : Heap} {L : Addr} {m : Str → Option Value} {news all : List (Addr × Obj)} {s : Shared} {Q : Value → Shared → Prop} {tk' : Nat} {D : Addr} {o : Obj} {Out : Value → List (Addr × Obj) → Prop}
    (hret : ∀ (r : Value) (add : List (Addr × Obj)) (h' : Heap) (tk' : Nat), Out r add → (∀ p ∈ add, ∀ q ∈ news, q.1 ≠ p.1) → Fr h₀ L h' m → News h₀ L h' (add ++ news) → Q r { s with heap := h', toks := tk' })
    (N : News h₀ L h' all) (F : Fr h₀ L h' m) (hm : (D, o) ∈ all) (sub : ∀ p ∈ news, p ∈ all) (lt : AllLt D news) (ho : Out (.ref D) [(D, o)]) : Q (.ref D) { s with heap := h', toks := tk' } := by
  refine hret (.ref D) [(D, o)] h' tk' ho (fun p hp q hq => ?_) F fun p hp => ?_
  · rw [List.mem_singleton.mp hp]
    exact Nat.ne_of_lt (allLt_mem lt q hq)
  · rcases List.mem_append.mp hp with hp | hp
    · rw [List.mem_singleton.mp hp]; exact N _ hm
    · exact N p (sub p hp)
theorem pow40 {prog : Program} {w : World} {A : Around} {E : Value → Shared → Prop} {s : Shared} {t u : Tok} {Q : Value → Shared → Prop} (h : Q (.int 10000000000000000000000000000000000000000 s.toks) { s with toks := s.toks + 1 }) : wpAny (model prog w) A (binaryOp .Pow (.int 10 t) (.int 40 u)) Q E s :=
  pow_int_small (by decide) (by decide) (by decide) (by rw [show (10 : Int) ^ (40 : Int).toNat = 10000000000000000000000000000000000000000 by decide]; exact h)
theorem pow12b {prog : Program} {w : World} {A : Around} {E : Value → Shared → Prop} {s : Shared} {t u : Tok} {Q : Value → Shared → Prop} (h : Q (.int 1000000000000 s.toks) { s with toks := s.toks + 1 }) : wpAny (model prog w) A (binaryOp .Pow (.int 10 t) (.int 12 u)) Q E s :=
  pow_int_small (by decide) (by decide) (by decide) (by rw [show (10 : Int) ^ (12 : Int).toNat = 1000000000000 by decide]; exact h)
theorem bits40 : Builtin.Int.intBits 10000000000000000000000000000000000000000 ≤ 200 := by decide +kernel
theorem none_len {x : Str} {hi : Int} (hx : x.length ≤ 13) (h : 0 ≤ hi ∧ hi ≤ 99999999999999999999999999999999999999999999999) : x.length + (numT hi).length ≤ 62 := by
  have a := toString_length_le (v := hi) (k := 47) h.1 (by decide) (by omega)
  unfold numT
  omega
end Mine
namespace Mine
open PySem PySem.W PyProof.Rows PyProof.Rows.LCg PySem.Builtin PySem.Builtin.Str
theorem slice_idx (x : Str) (l u : Option Int) : (Txt.slice x l u).length ≤ (strSliceIndices l u 1 x.length).length := by
  unfold Txt.slice
  split
  · rename_i h
    simp only [beq_self_eq_true, Bool.true_and, beq_iff_eq] at h
    exact Nat.le_of_eq h.symm
  · show (List.filterMap _ (strSliceIndices l u 1 x.length)).toArray.size ≤ _
    rw [List.size_toArray]
    exact List.length_filterMap_le _ _
theorem slice_to_le (x : Str) {j : Int} (h : 0 ≤ j) : (Txt.slice x none (some j)).length ≤ j.toNat := by
  refine Nat.le_trans (slice_idx x _ _) ?_
  unfold strSliceIndices sliceRange
  simp only [show (1 : Int) > 0 by decide, if_true, List.length_map, List.length_range]
  (split <;> (try split) <;> (try split) <;> (try simp only [Int.ediv_one]) <;> omega)
theorem slice_from_le (x : Str) {i : Int} (h : 0 ≤ i ∧ i ≤ x.length) : (Txt.slice x (some i) none).length ≤ x.length - i.toNat := by
  refine Nat.le_trans (slice_idx x _ _) ?_
  unfold strSliceIndices sliceRange
  simp only [show (1 : Int) > 0 by decide, if_true, List.length_map, List.length_range]
  (split <;> (try split) <;> (try split) <;> (try simp only [Int.ediv_one]) <;> omega)
theorem ins_ok {ys : List Value} {x : Int} {y : Value} {n : Nat} (h : ∀ v ∈ ys, TextLe n v) (hy : TextLe n y) : ∀ v ∈ kl_ins ys x y, TextLe n v := fun v hv => by
  unfold kl_ins at hv
  rcases List.mem_append.mp hv with hv | hv
  · exact h v (List.mem_of_mem_take hv)
  · rcases List.mem_cons.mp hv with rfl | hv
    · exact hy
    · exact h v (List.mem_of_mem_drop hv)
theorem join_ok {sep : Str} (hs : PyData.strOk sep = true) : ∀ {xs : List Str}, (∀ x ∈ xs, PyData.strOk x = true) → PyData.strOk (Str.join sep xs) = true
  | [], _ => by show PyData.strOk Str.empty = true; decide +kernel
  | [x], h => h x (.head _)
  | x :: y :: r, h => strOk_append (strOk_append (h x (.head _)) hs) (join_ok hs fun z hz => h z (.tail _ hz))
theorem sum_le {n : Nat} : ∀ {xs : List Str}, (∀ x ∈ xs, x.length ≤ n) → (xs.map (·.length)).sum ≤ n * xs.length
  | [], _ => by simp
  | x :: r, h => by
    have h1 := h x (.head _)
    have h2 := sum_le (xs := r) fun z hz => h z (.tail _ hz)
    simp only [List.map_cons, List.sum_cons, List.length_cons]
    rw [Nat.mul_succ]
    omega
section
variable {prog : Program} {w : World} {A : Around} {E : Value → Shared → Prop} {s : Shared} {h₀ : Heap} {L : Addr} {m : Str → Option Value} {env : Env}
theorem join_rows {D : Addr} {zs : List Value} {xs : List Str} {e n : Nat} {t : Tok} {news : List (Addr × Obj)} {Q : Value → Shared → Prop} (N : News h₀ L s.heap news) (hm : (D, ({ cls := .type "list", data := .seq zs.toArray e } : Obj)) ∈ news) (hs : StrsAre zs xs) (hx : ∀ x ∈ xs, x.length ≤ 126 ∧ PyData.strOk x = true) (hn : xs.length ≤ n) (hz : n ≤ 100)
    (h : ∀ X t k, X.length ≤ 126 * n → PyData.strOk X = true → Q (.str X t) { s with toks := k }) : wpAny (model prog w) A (call (.builtin "str.join") [.str (Str.ofString "") t, .ref D]) Q E s := by
  have hsum := sum_le fun x h => (hx x h).1
  have e0 : (Str.ofString "").length = 0 := by decide
  have hb : 126 * xs.length ≤ 126 * n := Nat.mul_le_mul_left _ hn
  refine join_list (News.isList N hm) hs (by rw [e0]; omega) fun t' k => ?_
  have eq : Txt.join (Str.ofString "") xs = Str.join (Str.ofString "") xs := StrLaws.glued_eq_join _ _
  rw [eq]
  refine h _ t' k ?_ (join_ok (by decide +kernel) fun x h => (hx x h).2)
  have := StrLaws.join_length_le (Str.ofString "") xs
  rw [e0] at this
  omega
theorem rest_rows {elt : Expr} {x : Str} {scope : Scope} {cl : List (Str × Addr)} {S : List (Addr × Obj) → Prop} {Fin : List Value → List (Addr × Obj) → Prop} {ys : List Value} {news : List (Addr × Obj)} (hok : ∀ v ∈ ys, TextLe 125 v) (hS : S news)
    (turn : ∀ r t zs I oI C oC D m₂ h tk (E' : Value → Shared → Prop), r.length ≤ 125 → PyData.strOk r = true → NsObj oC m₂ → m₂ x = some (.str r t) → Fr h₀ L h m → News h₀ L h ((I, oI) :: (C, oC) :: (D, lst zs) :: news) → Off3 I C D news → ((@Ne Nat I C) ∧ (@Ne Nat I D) ∧ (@Ne Nat C D)) →
      wpAny (model prog w) A (eval elt (compEnvC scope cl C env)) (CompTurn h₀ L m { s with heap := h, toks := tk } I oI C oC D (lst zs) (fun _ => True) (fun y nw' => nw' = news ∧ TextLe 126 y)) E' { s with heap := h, toks := tk })
    (fin : ∀ zs xs, StrsAre zs xs → xs.length = ys.length → (∀ x ∈ xs, x.length ≤ 126 ∧ PyData.strOk x = true) → Fin zs news) : CompRest prog w A h₀ L m env elt x scope cl s S (fun i v => ys.toArray[i]? = some v) Fin ys.toArray.size 0 [] news := by
  refine rest_inv (fun i zs nw => nw = news ∧ zs.length = i ∧ ∀ v ∈ zs, TextLe 126 v) ⟨rfl, rfl, fun _ h => nomatch h⟩ ?_ ?_
  · rintro i zs nw v I oI C oC D m₂ h tk E' hlt ⟨rfl, hl, hb⟩ hv hC hx F N off ne
    have hv' : ys[i]? = some v := by simpa using hv
    obtain ⟨r, t, rfl, hr, hro⟩ := hok v (List.mem_of_getElem? hv')
    refine wpAny_mono (turn r t zs I oI C oC D m₂ h tk E' hr hro hC hx F N off ne) (fun y s₂ hq => ?_) fun _ _ e => e
    obtain ⟨h', tk', nw', e, F', N', off', _, hn, hy⟩ := hq
    subst hn
    refine ⟨h', tk', _, e, F', N', off', hS, rfl, by rw [List.length_append, List.length_singleton, hl], fun u hu => ?_⟩
    rcases List.mem_append.mp hu with hu | hu
    · exact hb u hu
    · rw [List.mem_singleton.mp hu]; exact hy
  · rintro zs nw ⟨rfl, hl, hb⟩
    obtain ⟨xs, hs, hn, hx⟩ := texts_of hb
    exact fin zs xs hs (by rw [hn, hl, List.size_toArray]) hx
end
noncomputable def Cs (prog : Program) (w : World) (K : Frag) (p : Program) (loose : List Str) (mean : ExcName → Option Value) (mg mb : Str → Option Value) (f : Addr) (sz : Nat) (vs : List Value) (R : Addr) (oR : Obj) (Out : Value → Prop) : Prop :=
  ∀ (dp un : Nat) (gd : Option (List Code)) (cn : Str) (cs : Scope) (a : Addr) (ccd : Value) (cl : List (Str × Addr)) (outer : List Env) (A₀ : Around) (base h₀ : Heap) (L : Addr) (m : Str → Option Value) (news : List (Addr × Obj)) (s : Shared) (Q E : Value → Shared → Prop),
    Below A₀ base outer h₀ → Fr h₀ L s.heap m → K.In h₀ → News h₀ L s.heap ((R, oR) :: news) → Top p loose mean mg mb h₀ → cs.kind = .function → dp + sz < recursionLimit → un + 8 * sz < cLine → (∀ p ∈ news, p.1 ≠ R) →
    (∀ (r : Value) (h' : Heap) (tk' : Nat), Out r → Fr h₀ L h' m → News h₀ L h' news → Q r { s with heap := h', toks := tk' }) →
    wpAny (model prog w) (ktrTop dp un gd cn cs L a ccd cl outer) (call (.ref f) vs) Q E s
theorem Cs.use {prog : Program} {w : World} {K : Frag} {p : Program} {loose : List Str} {mean : ExcName → Option Value} {mg mb : Str → Option Value} {f : Addr} {sz : Nat} {vs : List Value} {R : Addr} {oR : Obj} {Out : Value → Prop} (C : Cs prog w K p loose mean mg mb f sz vs R oR Out)
    {dp un : Nat} {gd : Option (List Code)} {cn : Str} {cs : Scope} {a : Addr} {ccd : Value} {cl : List (Str × Addr)} {outer : List Env} {A₀ : Around} {base h₀ : Heap} {L : Addr} {m : Str → Option Value} {news : List (Addr × Obj)} {s : Shared} {Q E : Value → Shared → Prop}
    (B : Below A₀ base outer h₀ := by k_asm) (F : Fr h₀ L s.heap m := by k_asm) (X : K.In h₀ := by k_asm) (N : News h₀ L s.heap ((R, oR) :: news) := by k_asm) (T : Top p loose mean mg mb h₀ := by k_asm) (hk : cs.kind = .function := by first | exact rfl | assumption) (hd : dp + sz < recursionLimit := by first | assumption | omega | ktr_room) (hu : un + 8 * sz < cLine := by first | assumption | omega | ktr_units) (hp : ∀ p ∈ news, p.1 ≠ R)
    (ret : ∀ (r : Value) (h' : Heap) (tk' : Nat), Out r → Fr h₀ L h' m → News h₀ L h' news → Q r { s with heap := h', toks := tk' }) :
    wpAny (model prog w) (ktrTop dp un gd cn cs L a ccd cl outer) (call (.ref f) vs) Q E s := C _ _ _ _ _ _ _ _ _ _ _ _ _ _ _ _ _ _ B F X N T hk hd hu hp ret
end Mine
namespace Mine
open PySem PySem.W PyProof.Rows
theorem ins_drop {prog : Program} {w : World} {A : Around} {E : Value → Shared → Prop} {s : Shared} {h₀ : Heap} {L R : Addr} {m : Str → Option Value} {news all : List (Addr × Obj)} {ys : List Value} {n : Nat} {x : Int} {u : Tok} {y : Value} {Q : Value → Shared → Prop} (F : Fr h₀ L s.heap m) (N : News h₀ L s.heap all) (hm : (R, ({ cls := .type "list", data := .seq ys.toArray n } : Obj)) ∈ all) (hs : ∀ p ∈ news, p ∈ all) (hne : ∀ p ∈ news, p.1 ≠ R) (hok : ∀ v ∈ ys, TextLe 125 v) (hy : TextLe 125 y) (hx : 0 ≤ x ∧ x ≤ 1000) (hl : ys.length ≤ 1000)
    (h : ∀ zs h', (∀ v ∈ zs, TextLe 125 v) → zs.length = ys.length + 1 → Fr h₀ L h' m → News h₀ L h' ((R, ({ cls := .type "list", data := .seq (List.toArray zs) (n + 1) } : Obj)) :: news) → Q .none { s with heap := h' }) : wpAny (model prog w) A (call (.builtin "list.insert") [.ref R, .int x u, y]) Q E s := by
  have N₁ : News h₀ L s.heap ((R, ({ cls := .type "list", data := .seq ys.toArray n } : Obj)) :: news) := fun p hp => by
    rcases List.mem_cons.mp hp with rfl | hp
    · exact N _ hm
    · exact N p (hs p hp)
  refine kl_insert F N₁ (by unfold Builtin.List.listFitsIndex; rw [Bool.and_eq_true, decide_eq_true_eq, decide_eq_true_eq]; omega) rfl (Upd.head hne) (by show ys.length ≤ _; rw [sizeLine_eq]; omega) fun h' F' N' => h (kl_ins ys x y) h' (ins_ok hok hy) ?_ F' N'
  exact kl_ins_length ..
end Mine
namespace Mine
open PySem PySem.W PyProof.Rows
theorem at_bd {X : Str} {k : Int} (hne : (X != Str.ofString "") = true) : 0 ≤ k.fmod (if (X.length : Int) > 1 then (X.length : Int) else 1) ∧ k.fmod (if (X.length : Int) > 1 then (X.length : Int) else 1) < X.length := by
  have h0 : X.length ≠ 0 := fun q => by
    have e : X = Str.ofString "" := by
      have e1 : Str.ofString "" = Str.empty := by decide
      rw [e1]
      cases X with | mk cps => exact congrArg Str.mk (Array.eq_empty_of_size_eq_zero q)
    rw [e] at hne
    exact absurd hne (by decide)
  have e : (if (X.length : Int) > 1 then (X.length : Int) else 1) = X.length := by split <;> omega
  rw [e]
  exact ⟨Int.fmod_nonneg_of_pos _ (by omega), Int.fmod_lt_of_pos _ (by omega)⟩
theorem cut_le {X s : Str} {i j : Int} (h : 0 ≤ i ∧ i ≤ j) (hj : j ≤ X.length) (hX : X.length ≤ 4032) (hs : s.length ≤ 125) : (Txt.slice X none (some i) ++ s ++ Txt.slice X (some j) none).length ≤ 4200 := by
  have a := slice_to_le X h.1
  have b := slice_from_le X (i := j) ⟨by omega, hj⟩
  simp only [Str.length_append]
  omega
theorem cut_ok {X s : Str} {i j : Int} (h : PyData.strOk X = true) (hs : PyData.strOk s = true) : PyData.strOk (Txt.slice X none (some i) ++ s ++ Txt.slice X (some j) none) = true := strOk_append (strOk_append (strOk_slice h _ _) hs) (strOk_slice h _ _)
theorem news_right {h₀ h : Heap} {L : Addr} {a b : List (Addr × Obj)} (N : News h₀ L h (a ++ b)) : News h₀ L h b := fun p hp => N p (List.mem_append.mpr (.inr hp))
theorem cs_ret {h₀ h' : Heap} {L : Addr} {m : Str → Option Value} {news all : List (Addr × Obj)} {s : Shared} {Q : Value → Shared → Prop} {tk' : Nat} {x : Str} {t : Tok}
    (hret : ∀ (r : Value) (h' : Heap) (tk' : Nat), TextLe 4200 r → Fr h₀ L h' m → News h₀ L h' news → Q r { s with heap := h', toks := tk' })
    (N : News h₀ L h' all) (F : Fr h₀ L h' m) (sub : ∀ p ∈ news, p ∈ all) (hl : x.length ≤ 4200) (ho : PyData.strOk x = true) : Q (.str x t) { s with heap := h', toks := tk' } :=
  hret _ h' tk' (textLe_of hl ho) F fun p hp => N p (sub p hp)
end Mine
namespace Mine
open PySem PySem.W PyProof.Rows PyProof.Rows.LCg PySem.Builtin PySem.Builtin.Str
section
variable {prog : Program} {w : World} {A : Around} {E : Value → Shared → Prop} {s : Shared} {h₀ : Heap} {L : Addr} {m : Str → Option Value} {env : Env}
theorem rest_txts12 {elt : Expr} {x : Str} {scope : Scope} {cl : List (Str × Addr)} {S : List (Addr × Obj) → Prop} {P : Nat → Value → Prop} {Fin : List Value → List (Addr × Obj) → Prop} {k : Nat} {news : List (Addr × Obj)} (n : Nat) (hS : S news)
    (turn : ∀ i v zs I oI C oC D m₂ h tk (E' : Value → Shared → Prop), i < k → P i v → NsObj oC m₂ → m₂ x = some v → Fr h₀ L h m → News h₀ L h ((I, oI) :: (C, oC) :: (D, lst zs) :: news) → Off3 I C D news → ((@Ne Nat I C) ∧ (@Ne Nat I D) ∧ (@Ne Nat C D)) →
      wpAny (model prog w) A (eval elt (compEnvC scope cl C env)) (CompTurn h₀ L m { s with heap := h, toks := tk } I oI C oC D (lst zs) (fun _ => True) (fun y nw' => nw' = news ∧ TextLe n y)) E' { s with heap := h, toks := tk })
    (fin : ∀ zs, zs.length = k → (∀ v ∈ zs, TextLe n v) → Fin zs news) : CompRest prog w A h₀ L m env elt x scope cl s S P Fin k 0 [] news := by
  refine rest_inv (fun i zs nw => nw = news ∧ zs.length = i ∧ ∀ v ∈ zs, TextLe n v) ⟨rfl, rfl, fun _ h => nomatch h⟩ ?_ ?_
  · rintro i zs nw v I oI C oC D m₂ h tk E' hlt ⟨rfl, hl, hb⟩ hv hC hx F N off ne
    refine wpAny_mono (turn i v zs I oI C oC D m₂ h tk E' hlt hv hC hx F N off ne) (fun y s₂ hq => ?_) fun _ _ e => e
    obtain ⟨h', tk', nw', e, F', N', off', _, hn, hy⟩ := hq
    subst hn
    refine ⟨h', tk', _, e, F', N', off', hS, rfl, by rw [List.length_append, List.length_singleton, hl], fun u hu => ?_⟩
    rcases List.mem_append.mp hu with hu | hu
    · exact hb u hu
    · rw [List.mem_singleton.mp hu]; exact hy
  · rintro zs nw ⟨rfl, hl, hb⟩
    exact fin zs hl hb
theorem ne_lists12 {a b : Addr} {xs ys : List Value} {ka kb : Nat} {news n₁ n₂ : List (Addr × Obj)} {ds : List Dat} {Q : Value → Shared → Prop} (N : News h₀ L s.heap news) (ma : (a, ({ cls := .type "list", data := .seq xs.toArray ka } : Obj)) ∈ news) (mb : (b, ({ cls := .type "list", data := .seq ys.toArray kb } : Obj)) ∈ news)
    (Da : DatAll n₁ xs ds) (sa : ∀ p ∈ n₁, p ∈ news) (Db : DatAll n₂ ys ds) (sb : ∀ p ∈ n₂, p ∈ news) (ha : ∀ d ∈ ds, kqdOk 8 d = true) (hu : A.units + 64 < cLine) (h : Q (.bool false) s) : wpAny (model prog w) A (compareOp .NotEq (.ref a) (.ref b)) Q E s := kqd_ne N ma rfl rfl Da sa mb rfl rfl Db sb ha ha hu (by simpa using h)
theorem eq_lists12 {a b : Addr} {xs ys : List Value} {ka kb : Nat} {news n₁ n₂ : List (Addr × Obj)} {ds : List Dat} {Q : Value → Shared → Prop} (N : News h₀ L s.heap news) (ma : (a, ({ cls := .type "list", data := .seq xs.toArray ka } : Obj)) ∈ news) (mb : (b, ({ cls := .type "list", data := .seq ys.toArray kb } : Obj)) ∈ news)
    (Da : DatAll n₁ xs ds) (sa : ∀ p ∈ n₁, p ∈ news) (Db : DatAll n₂ ys ds) (sb : ∀ p ∈ n₂, p ∈ news) (ha : ∀ d ∈ ds, kqdOk 8 d = true) (hu : A.units + 64 < cLine) (h : Q (.bool true) s) : wpAny (model prog w) A (compareOp .Eq (.ref a) (.ref b)) Q E s := kqd_eq N ma rfl rfl Da sa mb rfl rfl Db sb ha ha hu (by simpa using h)
theorem clear12 {D : Addr} {all : List (Addr × Obj)} {its : Array Value} {n : Nat} {Q : Value → Shared → Prop} (F : Fr h₀ L s.heap m) (N : News h₀ L s.heap all) (hm : (D, ({ cls := .type "list", data := .seq its n } : Obj)) ∈ all) (rest : List (Addr × Obj)) (hs : ∀ p ∈ rest, p ∈ all) (hne : ∀ p ∈ rest, p.1 ≠ D) (hz : its.size ≤ sizeLine)
    (h : ∀ h', Fr h₀ L h' m → News h₀ L h' rest → Q .none { s with heap := h' }) : wpAny (model prog w) A (call (.builtin "list.clear") [.ref D]) Q E s := by
  have z := N _ hm
  exact call_meets PySem.F.slot_list_clear ⟨_, z.1, rfl⟩ PySem.F.entry_list_clear (PySem.F.args_list_clear_1 _) (PySem.AutoSeq1.list_clear_list_0 D its n hz) ⟨z.1, h _ (F.change (Heap.SameBut.update ..) z.2.1 z.2.2) fun p hp => ⟨(Heap.get?_update_ne _ _ _ _ (hne p hp)).trans (N p (hs p hp)).1, (N p (hs p hp)).2⟩⟩
end
theorem g_none12 {h₀ h : Heap} {L : Addr} {l : List (Addr × Obj)} (N : News h₀ L h ([] ++ l)) : News h₀ L h l := N
theorem let_len12 {x : Str} {hi : Int} (hx : x.length ≤ 24) (h0 : 0 ≤ hi) (h1 : hi ≤ 2000000000000) : x.length + (numT hi).length ≤ 62 := by
  have a := numT_len (i := hi) h0 h1
  omega
theorem letters_le12 {x : Str} (hx : x.length ≤ 4200) : (lettersOf x).length ≤ 5000 := by
  unfold lettersOf rowsOf
  rw [List.length_map, List.length_dropLast]
  have e4 := split_len x LFD
  omega
theorem ne_clr {D : Addr} {d : Addr × Obj} {a b : List (Addr × Obj)} (h1 : ∀ p ∈ d :: a, p.1 ≠ D) (h2 : ∀ p ∈ b, p.1 ≠ D) : ∀ p ∈ d :: (a ++ b), p.1 ≠ D := fun p hp => by
  rcases List.mem_cons.mp hp with rfl | hp
  · exact h1 _ (.head _)
  · rcases List.mem_append.mp hp with hp | hp
    · exact h1 p (.tail _ hp)
    · exact h2 p hp
theorem news_rd {h₀ h : Heap} {L : Addr} {d3 d4 : Addr × Obj} {ag R ad : List (Addr × Obj)} (N : News h₀ L h (d3 :: (ag ++ R))) (h4 : d4 ∈ R) (h5 : ∀ p ∈ ad, p ∈ R) : News h₀ L h (d4 :: d3 :: (ag ++ ad)) := fun p hp => by
  rcases List.mem_cons.mp hp with rfl | hp
  · exact N _ (.tail _ (List.mem_append.mpr (.inr h4)))
  · rcases List.mem_cons.mp hp with rfl | hp
    · exact N _ (.head _)
    · rcases List.mem_append.mp hp with hp | hp
      · exact N p (.tail _ (List.mem_append.mpr (.inl hp)))
      · exact N p (.tail _ (List.mem_append.mpr (.inr (h5 p hp))))
theorem news_left {h₀ h : Heap} {L : Addr} {a b : List (Addr × Obj)} (N : News h₀ L h (a ++ b)) : News h₀ L h a := fun p hp => N p (List.mem_append.mpr (.inl hp))
theorem news_none {h₀ h : Heap} {L : Addr} {a : List (Addr × Obj)} (_ : News h₀ L h a) : News h₀ L h [] := fun _ hp => nomatch hp
theorem wordD_cases : ∀ ds : List Dat, wordD ds = Str.ofString "name" ∨ wordD ds = Str.ofString "letter" ∨ wordD ds = Str.ofString ""
  | [] => .inr (.inr rfl)
  | d :: r => by
    show (if dueD d = Str.ofString "" then wordD r else dueD d) = _ ∨ (if dueD d = Str.ofString "" then wordD r else dueD d) = _ ∨ (if dueD d = Str.ofString "" then wordD r else dueD d) = _
    split
    · exact wordD_cases r
    · exact (dueP d).2
theorem wordT_cases (x : Str) : (badT x ∧ wordT x = Str.ofString "text") ∨ (¬ badT x ∧ wordD (lettersOf x) = Str.ofString "name" ∧ wordT x = Str.ofString "name") ∨ (¬ badT x ∧ wordD (lettersOf x) = Str.ofString "letter" ∧ wordT x = Str.ofString "letter") ∨ (¬ badT x ∧ wordD (lettersOf x) = Str.ofString "" ∧ wordT x = Str.ofString "") := by
  unfold wordT
  by_cases hb : badT x
  · exact .inl ⟨hb, if_pos hb⟩
  · rw [if_neg hb]
    rcases wordD_cases (lettersOf x) with h | h | h
    · exact .inr (.inl ⟨hb, h, h⟩)
    · exact .inr (.inr (.inl ⟨hb, h, h⟩))
    · exact .inr (.inr (.inr ⟨hb, h, h⟩))
end Mine
namespace Mine
theorem c_lnumber (w : World) (mean : ExcName → Option Value) (mg mb : Str → Option Value) (x : Str) (tx : Tok) (hx : x.length ≤ 4200) : Con w mean mg mb 270 1 [.str x tx] True (fun t => .int (numL x) t) := by
  unfold Con Ct
  k_fill
  w_top off
  intro dp un gd cn cs a ccd cl outer A₀ base h₀ L m news s Q E B F X N T hk hd hu hret
  refine wpAny_call ?_
  k_dflt cell_enter
  k_with_none
  k_with "exec For Name Name cons nil" => (k_here; (rename Fr _ _ _ _ => lF'); (with_unfolding_all refine' For_turns lF' ?_; k_whole))
  k_with "pyIter str" => (k_here; (with_reducible show wpAny _ _ (pyIter (Value.str _ _)) (fun it s₂ => TurnsAt _ _ _ _ _ _ _ _ _ it s₂) _ _); (rename Fr _ _ _ _ => lF'); (rename News _ _ _ _ => lN'); k_dflt (refine' Mine.loop_text [Str.ofString "_law_sign_here"] (fun i => ∀ c ∈ x.cps.toList.take i, Mine.inT Mine.FIG c = true) (by rfl) lF' lN' (fun _ h => by simp at h) ?_ ?_); (all_goals (try clear lF' lN')))
  k_with "LoopTurn" => (with_reducible refine Mine.LoopTurn.ret ?_)
  k_with "call type:int" => (k_here; (with_reducible show wpAny _ _ (call (Value.type "int") [Value.str _ _]) _ _ _); k_dflt (refine' Mine.call_figs ?kN ?kd ?ke ?kl ?_; (case kN => exact Mine.no_digits (by k_asm) (by k_asm)); (case kd => exact Mine.fig_all (Mine.take_figs (by assumption))); (case ke => exact Mine.len_ne (by assumption)); (case kl => omega)); intro t8 k8)
  k_steps
  all_goals first | (refine' ct_retI hret trivial ?e2 ?e3 ?e4; (case e3 => k_asm); (case e4 => first | k_asm | (refine' cb_drop ?cbN ?cbS; (case cbN => assumption); (case cbS => kcj_all))); (case e2 => (first | exact numL_no (num_e (by assumption)) | exact numL_no (num_z (by assumption) (by assumption)) | exact numL_no (num_s (by assumption) (by assumption)) | exact numL_ok (num_k1 (by assumption) (by assumption) (by assumption)) | exact numL_ok (num_k2 (by assumption) (by assumption) (by assumption))))) | (refine' LoopTurn.still () ?lF ?lN ?lI ?lS ?lO ?lK ?lR ?lP; (case lF => k_asm); (case lN => k_asm); (case lI => first | exact List.Mem.head _ | k_mem); (case lS => first | exact fun p hp => List.Mem.tail _ hp | kst_inAny); (case lO => assumption); (case lK => exact List.forall_mem_nil _); (case lR => (intro z h2 h3; (simp only [List.contains_cons, List.contains_nil, Bool.or_false, Bool.or_eq_false_iff, beq_eq_false_iff_ne, ne_eq] at h3); first | (simp [h3, kstB]; done))); (case lP => exact fig_step (by assumption) (by assumption) (by assumption)))

end Mine
namespace Mine
theorem c_num_bad (w : World) (mean : ExcName → Option Value) (mg mb : Str → Option Value) (x : Str) (tx : Tok) (hx : x.length ≤ 4200) (hn : numOk x = false) :
    Cr PySem.Challenge.rw_uf050027_12.row.prog w (k12.heap_1 w.params) vw12 (looseW vw12 []) mean mg mb 171 1 [.str x tx] (fun _ _ => True) 145 := by
  unfold Cr
  k_fill
  w_top off
  intro dp un gd cn cs a ccd cl outer A₀ base h₀ L m news s Q E B F X N T hk hd hu hP hraise
  refine wpAny_call ?_
  k_dflt cell_enter
  (rename Fr h₀ L _ m => FG9)
  k_with_none
  k_with "exec For Name Name cons nil" => (k_here; (rename Fr _ _ _ _ => lF'); (with_unfolding_all refine' For_turns lF' ?_; k_whole))
  k_with "pyIter str" => (k_here; (with_reducible show wpAny _ _ (pyIter (Value.str _ _)) (fun it s₂ => TurnsAt _ _ _ _ _ _ _ _ _ it s₂) _ _); (rename Fr _ _ _ _ => lF'); (rename News _ _ _ _ => lN'); k_dflt (refine' Mine.loop_text [Str.ofString "sign"] (fun i => ∀ c ∈ x.cps.toList.take i, Mine.inT Mine.FIG c = true) (by rfl) lF' lN' (fun _ h => by simp at h) ?_ ?_); (all_goals (try clear lF' lN')))
  k_with "LoopTurn" => (with_reducible refine Mine.LoopTurn.ret ?_)
  k_with "leaving ref" => (k_here; k_dflt (refine' Mine.cr_new hraise ?k1 ?k0 ?k2 ?k3 FG9 ?ks ?kk; (case k0 => assumption); (case k2 => assumption); (case k1 => assumption); (case k3 => k_asm); (case kk => rfl); (case ks => (first | exact fun _ h => h | kcj_all | (intro p9 hp9; (repeat (first | exact hp9 | refine List.Mem.tail _ ?_)))))))
  k_with "call type:int" => (k_here; k_dflt (exfalso; exact absurd hn (by rw [(by (first | exact Mine.num_k1 (by assumption) (by assumption) (by assumption) | exact Mine.num_k3 (by assumption) (by assumption) (by assumption) | exact Mine.num_k4 (by assumption) (by assumption) (by assumption)) : Mine.numOk x = true)]; decide)))
  k_steps
  all_goals first | (refine' LoopTurn.still () ?lF ?lN ?lI ?lS ?lO ?lK ?lR ?lP; (case lF => k_asm); (case lN => k_asm); (case lI => first | exact List.Mem.head _ | k_mem); (case lS => first | exact fun p hp => List.Mem.tail _ hp | kst_inAny); (case lO => assumption); (case lK => exact List.forall_mem_nil _); (case lR => (intro z h2 h3; (simp only [List.contains_cons, List.contains_nil, Bool.or_false, Bool.or_eq_false_iff, beq_eq_false_iff_ne, ne_eq] at h3); first | (simp [h3, kstB]; done))); (case lP => exact fig_step (by assumption) (by assumption) (by assumption)))

end Mine
namespace Mine
theorem c_num_ok (w : World) (mean : ExcName → Option Value) (mg mb : Str → Option Value) (x : Str) (tx : Tok) (hx : x.length ≤ 4200) (hn : numOk x = true) : Con w mean mg mb 171 1 [.str x tx] True (fun t => .int (numV x) t) := by
  unfold Con Ct
  k_fill
  w_top off
  intro dp un gd cn cs a ccd cl outer A₀ base h₀ L m news s Q E B F X N T hk hd hu hret
  refine wpAny_call ?_
  k_dflt cell_enter
  k_with_none
  k_with "exec For Name Name cons nil" => (k_here; (rename Fr _ _ _ _ => lF'); (with_unfolding_all refine' For_turns lF' ?_; k_whole))
  k_with "pyIter str" => (k_here; (with_reducible show wpAny _ _ (pyIter (Value.str _ _)) (fun it s₂ => TurnsAt _ _ _ _ _ _ _ _ _ it s₂) _ _); (rename Fr _ _ _ _ => lF'); (rename News _ _ _ _ => lN'); k_dflt (refine' Mine.loop_text [Str.ofString "sign"] (fun i => ∀ c ∈ x.cps.toList.take i, Mine.inT Mine.FIG c = true) (by rfl) lF' lN' (fun _ h => by simp at h) ?_ ?_); (all_goals (try clear lF' lN')))
  k_with "LoopTurn" => (with_reducible refine Mine.LoopTurn.ret ?_)
  k_with "call type:int" => (k_here; (with_reducible show wpAny _ _ (call (Value.type "int") [Value.str _ _]) _ _ _); k_dflt (refine' Mine.call_figs ?kN ?kd ?ke ?kl ?_; (case kN => exact Mine.no_digits (by k_asm) (by k_asm)); (case kd => exact Mine.fig_all (Mine.take_figs (by assumption))); (case ke => exact Mine.len_ne (by assumption)); (case kl => omega)); intro t8 k8)
  k_steps
  all_goals first | (refine' ct_retI hret trivial ?e2 ?e3 ?e4; (case e3 => k_asm); (case e4 => first | k_asm | (refine' cb_drop ?cbN ?cbS; (case cbN => assumption); (case cbS => kcj_all))); (case e2 => rfl)) | (refine' LoopTurn.still () ?lF ?lN ?lI ?lS ?lO ?lK ?lR ?lP; (case lF => k_asm); (case lN => k_asm); (case lI => first | exact List.Mem.head _ | k_mem); (case lS => first | exact fun p hp => List.Mem.tail _ hp | kst_inAny); (case lO => assumption); (case lK => exact List.forall_mem_nil _); (case lR => (intro z h2 h3; (simp only [List.contains_cons, List.contains_nil, Bool.or_false, Bool.or_eq_false_iff, beq_eq_false_iff_ne, ne_eq] at h3); first | (simp [h3, kstB]; done))); (case lP => exact fig_step (by assumption) (by assumption) (by assumption))) | (exfalso; exact absurd hn (by rw [(by (first | exact num_e (by assumption) | exact num_z0 (by assumption) (by assumption) (by assumption) | exact num_z1 (by assumption) (by assumption) (by assumption) | exact num_s (by assumption) (by assumption)) : numOk x = false)]; decide))

end Mine
namespace Mine
theorem c_lletter (w : World) (mean : ExcName → Option Value) (mg mb : Str → Option Value) (x : Str) (tx : Tok) (hx : x.length ≤ 4200) (ho : PyData.strOk x = true) :
    Cm PySem.Challenge.rw_uf050027_12.row.prog w (k12.heap_1 w.params) vw12 (looseW vw12 []) mean mg mb 275 3 [.str x tx] (fun _ _ => True) (fun r add => DatIn add r (letD x)) := by
  unfold Cm
  k_fill
  w_top off
  intro dp un gd cn cs a ccd cl outer A₀ base h₀ L m news s Q E B F X N T hk hd hu hP hret
  refine wpAny_call ?_
  k_dflt (refine' code_defC ?k1 ?k2 ?k3 ?k4 ?k5 ?kA ?kF ?kK ?k6 ?k7 ?k8 ?k9 ?kB ?kD ?_ ?c2 ?c3 ?c4; (case kA => exact rfl); (case kF => exact rfl); (case kK => assumption); (case k1 => k_asm); (case k2 => k_asm); (case k3 => k_asm); (case k4 => k_asm); (case k5 => k_asm); (case k6 => k_is); (case k7 => k_is); (case k8 => ktr_room); (case k9 => exact BindsTo.of_eq rfl); (case kB => exact rfl); (case kD => decide +kernel); (case c2 => exact rfl); (case c3 => exact rfl); (case c4 => exact rfl); k_whole; intro g' L' h' tk' cells' FG' F' N' Y' B' X' T' l1; (try k_lt l1); k_cells Y'; (try simp only [List.cons_append, List.nil_append] at N'); (try dsimp only); (try k_lift B'); (try k_fold))
  k_with_none
  k_with "call builtin:str.split" => (k_here; (with_reducible show wpAny _ _ (call (Value.builtin "str.split") [Value.str _ _, Value.str _ _]) _ _ _); k_dflt (refine' Mine.split_words ?sF ?sN ?sz ?s9 ?sn; (case sF => k_asm); (case sN => k_asm); (case sz => omega); (case' s9 => (intro D8 w0 t0 w1 t1 w2 t2 w3 t3 w4 t4 w5 t5 w6 t6 w7 t7 w8 t8 h8 k8 hs8 hl80 hl81 hl82 hl83 hl84 hl85 hl86 hl87 hl88 F8 N8 l1; (try k_lt l1))); (case' sn => (intro D8 vs8 h8 k8 hv8 hs8 hz8 F8 N8 l1; (try k_lt l1)))))
  k_with "exec Assign cons ListComp" => (k_here; k_dflt (refine Mine.Assign_ListComp_Tu (by k_asm) (by rfl) (by with_unfolding_all rfl) (by with_unfolding_all rfl) (by decide) (by rfl) (by decide) (by rfl) (by rfl) (by rfl) ?_))
  k_with "call ref" => (k_here; (with_reducible show wpAny _ _ (call (Value.ref 270) _) _ _ _); k_dflt (refine Mine.Ct.use (Mine.c_lnumber _ _ _ _ _ _ ?hh) (ret := ?_); (case hh => assumption)); intro t9 h9 tk9 P9 F9 N9; (try dsimp only); (try k_fold))
  k_with "call builtin:len" => (k_here; (with_reducible show wpAny _ _ (call (Value.builtin _) [Value.ref _]) _ _ _); (rename News _ _ _ _ => kN9); k_dflt (refine' Mine.len_any kN9 ?lm7 hz8 ?_; (case lm7 => (repeat (first | exact List.Mem.head _ | refine List.Mem.tail _ ?_)))))
  k_with "compareOp NotEq str str" => (k_here; (with_reducible show wpAny _ _ (compareOp CmpOp.NotEq (Value.str _ _) (Value.str _ _)) _ _ _); k_dflt (refine Mine.ne_split (fun hsm => ?_) (fun hsm => ?_)) <;> (try dsimp only))
  k_with "binaryOp Add str str" => (k_here; (with_reducible show wpAny _ _ (binaryOp Operator.Add (Value.str _ _) (Value.str _ _)) _ _ _); k_dflt (refine' Mine.add_txt ?za ?_; (case za => omega)); intro t8 k8 hl8; (try dsimp only); (try k_fold))
  k_with "subscriptTail Name Name ref int" => (k_here; (with_reducible show wpAny _ _ (subscriptTail _ _ (Value.ref D8) (Value.int _ _)) _ _ _); (rename News _ _ _ _ => kN9); k_dflt (first | (refine Mine.item_i9 (i := 2) kN9 (by (repeat (first | exact List.Mem.head _ | refine List.Mem.tail _ ?_))) rfl rfl (by decide) ?_) | (refine Mine.item_i9 (i := 4) kN9 (by (repeat (first | exact List.Mem.head _ | refine List.Mem.tail _ ?_))) rfl rfl (by decide) ?_) | (refine Mine.item_i9 (i := 6) kN9 (by (repeat (first | exact List.Mem.head _ | refine List.Mem.tail _ ?_))) rfl rfl (by decide) ?_) | (refine Mine.item_i9 (i := 8) kN9 (by (repeat (first | exact List.Mem.head _ | refine List.Mem.tail _ ?_))) rfl rfl (by decide) ?_)))
  k_with "SrcT" => (k_dflt (refine Mine.SrcT.intro (by rfl) (by k_asm) (by k_asm) (List.Mem.head _) (by exact Nat.le_of_ble_eq_true rfl) ?_); intro g9; k_dflt (refine' Mine.tup_ints (fun k => Mine.numL (Mine.wordAt [w0, w1, w2, w3, w4, w5, w6, w7, w8] k.toNat)) (IntsAre.cons _ _ (IntsAre.cons _ _ (IntsAre.cons _ _ (IntsAre.cons _ _ IntsAre.nil)))) ⟨_, List.Mem.head _, rfl, _, rfl⟩ ?tt ?tf; (case' tt => (intro k9 u9 ys9 I9 oI9 C9 oC9 D9 m9 h9 tk9 E9 hk9 hC9 hx9 F9 N9 off9 ne9; (rcases Mine.four_mem hk9 with rfl | rfl | rfl | rfl))); (case' tf => (intro ys9 hi9; (obtain ⟨ta9, tb9, tc9, td9, rfl⟩ := Mine.ints_four hi9); intro D9 h9 tk9 F9 N9 o9; (have lD9 := Mine.off1_mem o9)))))
  k_with "call builtin:min" => (k_here; (with_reducible show wpAny _ _ (call (Value.builtin _) [Value.ref _]) _ _ _); (rename News _ _ _ _ => kN9); k_dflt (refine' kso_min ?qF kN9 ?ql hi9 ?qn ?qh ?_; (case qF => k_asm); (case ql => exact kso_isList kN9 (List.Mem.head _) rfl); (case qn => (show 0 < 4; decide)); (case qh => rfl)); intro h3 M3 tM3 kM3 FM3 NM3 aM3 bM3; (try clear kN9); (try dsimp only); (try k_fold))
  k_with "subscriptTail Name Constant ref int" => (k_here; k_dflt (exfalso; omega))
  k_steps
  all_goals first | (refine CompTurn.intro (by k_asm) (by k_asm) _ ?cS ?cO trivial ⟨rfl, _, rfl⟩; (case cS => first | exact fun _ h => h | kst_inAny); (case cO => assumption)) | (refine none_ret hret (by k_asm) (by k_asm) ?_ (by rw [let_len (by assumption)]; exact .none) <;> (intro p9 hp9; (repeat (first | exact hp9 | refine List.Mem.tail _ ?_)))) | (refine none_ret hret (by k_asm) (by k_asm) ?_ (by rw [let_join hs8 (by assumption)]; exact .none) <;> (intro p9 hp9; (repeat (first | exact hp9 | refine List.Mem.tail _ ?_)))) | (refine none_ret hret (by k_asm) (by k_asm) ?_ (by rw [let_w1 hs8 (by assumption)]; exact .none) <;> (intro p9 hp9; (repeat (first | exact hp9 | refine List.Mem.tail _ ?_)))) | (refine none_ret hret (by k_asm) (by k_asm) ?_ (by rw [let_w3 hs8 (by assumption)]; exact .none) <;> (intro p9 hp9; (repeat (first | exact hp9 | refine List.Mem.tail _ ?_)))) | (refine none_ret hret (by k_asm) (by k_asm) ?_ (by rw [let_w5 hs8 (by assumption)]; exact .none) <;> (intro p9 hp9; (repeat (first | exact hp9 | refine List.Mem.tail _ ?_)))) | (refine none_ret hret (by k_asm) (by k_asm) ?_ (by rw [let_min hs8 (by assumption) (by assumption)]; exact .none) <;> (intro p9 hp9; (repeat (first | exact hp9 | refine List.Mem.tail _ ?_)))) | (refine one_ret hret (by k_asm) (by k_asm) ?_ (by (first | tbn_find | exact allLt_of (by assumption))) (by rw [let_ok hs8 (by assumption) (by assumption) (by assumption) (by assumption) (by assumption) (by assumption)]; exact .tuple (List.Mem.head _) (.cons (.str _ _) (.cons (.int _ _) (.cons (.int _ _) (.cons (.int _ _) (.cons (.int _ _) .nil)))))) <;> (intro p9 hp9; (repeat (first | exact hp9 | refine List.Mem.tail _ ?_))))

end Mine
namespace Mine
theorem c_let_ok (w : World) (mean : ExcName → Option Value) (mg mb : Str → Option Value) (x : Str) (tx : Tok) (hx : x.length ≤ 4200) (ho : PyData.strOk x = true) (hr : rowOk (Txt.split x BLK) = true) :
    Cm PySem.Challenge.rw_uf050027_12.row.prog w (k12.heap_1 w.params) vw12 (looseW vw12 []) mean mg mb 176 12 [.str x tx] (fun _ _ => True) (fun r add => DatIn add r (letD x)) := by
  unfold Cm
  k_fill
  w_top off
  intro dp un gd cn cs a ccd cl outer A₀ base h₀ L m news s Q E B F X N T hk hd hu hP hret
  have hlt9 := row_len hr
  refine wpAny_call ?_
  k_dflt (refine' code_defC ?k1 ?k2 ?k3 ?k4 ?k5 ?kA ?kF ?kK ?k6 ?k7 ?k8 ?k9 ?kB ?kD ?_ ?c2 ?c3 ?c4; (case kA => exact rfl); (case kF => exact rfl); (case kK => assumption); (case k1 => k_asm); (case k2 => k_asm); (case k3 => k_asm); (case k4 => k_asm); (case k5 => k_asm); (case k6 => k_is); (case k7 => k_is); (case k8 => ktr_room); (case k9 => exact BindsTo.of_eq rfl); (case kB => exact rfl); (case kD => decide +kernel); (case c2 => exact rfl); (case c3 => exact rfl); (case c4 => exact rfl); k_whole; intro g' L' h' tk' cells' FG' F' N' Y' B' X' T' l1; (try k_lt l1); k_cells Y'; (try simp only [List.cons_append, List.nil_append] at N'); (try dsimp only); (try k_lift B'); (try k_fold))
  k_with_none
  k_with "call builtin:str.split" => (k_here; (with_reducible show wpAny _ _ (call (Value.builtin "str.split") [Value.str _ _, Value.str _ _]) _ _ _); k_dflt (refine' Mine.split_words ?sF ?sN ?sz ?s9 ?sn; (case sF => k_asm); (case sN => k_asm); (case sz => omega); (case' s9 => (intro D8 w0 t0 w1 t1 w2 t2 w3 t3 w4 t4 w5 t5 w6 t6 w7 t7 w8 t8 h8 k8 hs8 hl80 hl81 hl82 hl83 hl84 hl85 hl86 hl87 hl88 F8 N8 l1; (try k_lt l1); (obtain ⟨hrw8, hn82, hn84, hn86, hn88⟩ := Mine.row_parts hs8 hr))); (case sn => (intro D8 vs8 h8 k8 hv8 hs8; exact absurd hlt9 hs8))))
  k_with "eval ListComp" => (k_here; k_dflt (refine Mine.ListComp_Tu (by k_asm) (by with_unfolding_all rfl) (by decide) (by rfl) (by decide) (by rfl) ?_))
  k_with "call ref" => (k_here; (with_reducible show wpAny _ _ (call (Value.ref 171) _) _ _ _); k_dflt (refine Mine.Ct.use (Mine.c_num_ok _ _ _ _ _ _ ?hh ?hn) (ret := ?_); (case hh => assumption); (case hn => assumption)); intro t9 h9 tk9 P9 F9 N9; (try dsimp only); (try k_fold))
  k_with "compareOp NotEq ref ref" => (k_here; (with_reducible show wpAny _ _ (compareOp CmpOp.NotEq (Value.ref _) (Value.ref _)) _ _ _); (rename News _ _ _ _ => kN9); (have hwk9 := Mine.words_ok hs8 ho); k_dflt (refine' Mine.ne_words kN9 ?ma (List.Mem.head _) ⟨hwk9.2.1, hwk9.2.2.1, hwk9.2.2.2.1, hwk9.2.2.2.2⟩ ⟨by decide +kernel, by decide +kernel, by decide +kernel, by decide +kernel⟩ ?ni7 (fun hwd9 => ?_) (fun hwd9 => absurd hrw8 hwd9); (case ma => exact List.Mem.tail _ (List.Mem.head _)); (case ni7 => first | ke_room | ktr_units)) <;> (try dsimp only))
  k_with "subscriptTail Name Name ref int" => (k_here; (with_reducible show wpAny _ _ (subscriptTail _ _ (Value.ref D8) (Value.int _ _)) _ _ _); (rename News _ _ _ _ => kN9); k_dflt (first | (refine Mine.item_i9 (i := 2) kN9 (by (repeat (first | exact List.Mem.head _ | refine List.Mem.tail _ ?_))) rfl rfl (by decide) ?_) | (refine Mine.item_i9 (i := 4) kN9 (by (repeat (first | exact List.Mem.head _ | refine List.Mem.tail _ ?_))) rfl rfl (by decide) ?_) | (refine Mine.item_i9 (i := 6) kN9 (by (repeat (first | exact List.Mem.head _ | refine List.Mem.tail _ ?_))) rfl rfl (by decide) ?_) | (refine Mine.item_i9 (i := 8) kN9 (by (repeat (first | exact List.Mem.head _ | refine List.Mem.tail _ ?_))) rfl rfl (by decide) ?_)))
  k_with "SrcT" => (k_dflt (refine Mine.SrcT.intro (by rfl) (by k_asm) (by k_asm) (List.Mem.head _) (by exact Nat.le_of_ble_eq_true rfl) ?_); intro g9; k_dflt (refine' Mine.tup_ints (fun k => Mine.numV (Mine.wordAt [w0, w1, w2, w3, w4, w5, w6, w7, w8] k.toNat)) (IntsAre.cons _ _ (IntsAre.cons _ _ (IntsAre.cons _ _ (IntsAre.cons _ _ IntsAre.nil)))) ⟨_, List.Mem.head _, rfl, _, rfl⟩ ?tt ?tf; (case' tt => (intro k9 u9 ys9 I9 oI9 C9 oC9 D9 m9 h9 tk9 E9 hk9 hC9 hx9 F9 N9 off9 ne9; (rcases Mine.four_mem hk9 with rfl | rfl | rfl | rfl))); (case' tf => (intro ys9 hi9; (obtain ⟨ta9, tb9, tc9, td9, rfl⟩ := Mine.ints_four hi9); intro D9 h9 tk9 F9 N9 o9; (have lD9 := Mine.off1_mem o9)))))
  k_steps
  all_goals first | (refine CompTurn.intro (by k_asm) (by k_asm) _ ?cS ?cO trivial ⟨rfl, _, rfl⟩; (case cS => first | exact fun _ h => h | kst_inAny); (case cO => assumption)) | (refine one_ret hret (by k_asm) (by k_asm) ?_ (by (first | tbn_find | exact allLt_of (by assumption))) (by rw [let_yes hs8 hrw8 ⟨hn82, hn84, hn86, hn88⟩]; exact .tuple (List.Mem.head _) (.cons (.str _ _) (.cons (.int _ _) (.cons (.int _ _) (.cons (.int _ _) (.cons (.int _ _) .nil)))))) <;> (intro p9 hp9; (repeat (first | exact hp9 | refine List.Mem.tail _ ?_))))

end Mine
namespace Mine
theorem c_let_bad (w : World) (mean : ExcName → Option Value) (mg mb : Str → Option Value) (x : Str) (tx : Tok) (hx : x.length ≤ 4200) (ho : PyData.strOk x = true) (hr : rowOk (Txt.split x BLK) = false) :
    Cr PySem.Challenge.rw_uf050027_12.row.prog w (k12.heap_1 w.params) vw12 (looseW vw12 []) mean mg mb 176 12 [.str x tx] (fun _ _ => True) 145 := by
  unfold Cr
  k_fill
  w_top off
  intro dp un gd cn cs a ccd cl outer A₀ base h₀ L m news s Q E B F X N T hk hd hu hP hraise
  refine wpAny_call ?_
  k_dflt (refine' code_defC ?k1 ?k2 ?k3 ?k4 ?k5 ?kA ?kF ?kK ?k6 ?k7 ?k8 ?k9 ?kB ?kD ?_ ?c2 ?c3 ?c4; (case kA => exact rfl); (case kF => exact rfl); (case kK => assumption); (case k1 => k_asm); (case k2 => k_asm); (case k3 => k_asm); (case k4 => k_asm); (case k5 => k_asm); (case k6 => k_is); (case k7 => k_is); (case k8 => ktr_room); (case k9 => exact BindsTo.of_eq rfl); (case kB => exact rfl); (case kD => decide +kernel); (case c2 => exact rfl); (case c3 => exact rfl); (case c4 => exact rfl); k_whole; intro g' L' h' tk' cells' FG' F' N' Y' B' X' T' l1; (try k_lt l1); k_cells Y'; (try simp only [List.cons_append, List.nil_append] at N'); (try dsimp only); (try k_lift B'); (try k_fold))
  (rename Fr h₀ L _ m => FG9)
  k_with_none
  k_with "call builtin:str.split" => (k_here; (with_reducible show wpAny _ _ (call (Value.builtin "str.split") [Value.str _ _, Value.str _ _]) _ _ _); k_dflt (refine' Mine.split_words ?sF ?sN ?sz ?s9 ?sn; (case sF => k_asm); (case sN => k_asm); (case sz => omega); (case' s9 => (intro D8 w0 t0 w1 t1 w2 t2 w3 t3 w4 t4 w5 t5 w6 t6 w7 t7 w8 t8 h8 k8 hs8 hl80 hl81 hl82 hl83 hl84 hl85 hl86 hl87 hl88 F8 N8 l1; (try k_lt l1))); (case' sn => (intro D8 vs8 h8 k8 hv8 hs8 hz8 F8 N8 l1; (try k_lt l1)))))
  k_with "eval ListComp" => (k_here; k_dflt (refine Mine.ListComp_XT (base := base) (K := 145) (by k_asm) (by rfl) (by rfl) (by with_unfolding_all rfl) (by decide) (by rfl) (by decide) (by rfl) ?_))
  k_with "call ref" => (k_here; (with_reducible show wpAny _ _ (call (Value.ref 171) [Value.str _ _]) _ _ _); k_dflt (refine Mine.ok_split (fun hnm9 => ?_) (fun hnm9 => ?_)))
  k_with "call ref" => (k_here; (with_reducible show wpAny _ _ (call (Value.ref 171) [Value.str _ _]) _ _ _); (have hnmX := (hnm9 : Mine.numOk _ = true)); k_dflt (refine Mine.Ct.use (Mine.c_num_ok _ _ _ _ _ _ ?hh hnm9) (ret := ?_); (case hh => assumption)); intro t9 h9 tk9 P9 F9 N9; (try dsimp only); (try k_fold))
  k_with "call ref" => (k_here; (with_reducible show wpAny _ _ (call (Value.ref 171) [Value.str _ _]) _ _ _); (have hnmX := (hnm9 : Mine.numOk _ = false)); k_dflt (refine Mine.Cr.use (Mine.c_num_bad _ _ _ _ _ _ ?hh hnm9) (hp := trivial) (raise := fun e9 s9 R9 => Mine.RaisesAt.less (Mine.RaisesS.toA R9) (by first | exact fun _ h => h | (intro p9 hp9; (repeat (first | exact hp9 | refine List.Mem.tail _ ?_))))); (case hh => assumption)))
  k_with "call builtin:len" => (k_here; (with_reducible show wpAny _ _ (call (Value.builtin _) [Value.ref _]) _ _ _); (rename News _ _ _ _ => kN9); k_dflt (refine' Mine.len_any kN9 ?lm7 hz8 ?_; (case lm7 => (repeat (first | exact List.Mem.head _ | refine List.Mem.tail _ ?_)))))
  k_with "compareOp NotEq ref ref" => (k_here; (with_reducible show wpAny _ _ (compareOp CmpOp.NotEq (Value.ref _) (Value.ref _)) _ _ _); (rename News _ _ _ _ => kN9); (have hwk9 := Mine.words_ok hs8 ho); k_dflt (refine' Mine.ne_words kN9 ?ma (List.Mem.head _) ⟨hwk9.2.1, hwk9.2.2.1, hwk9.2.2.2.1, hwk9.2.2.2.2⟩ ⟨by decide +kernel, by decide +kernel, by decide +kernel, by decide +kernel⟩ ?ni7 (fun hwd9 => ?_) (fun hwd9 => ?_); (case ma => exact List.Mem.tail _ (List.Mem.head _)); (case ni7 => first | ke_room | ktr_units)) <;> (try dsimp only))
  k_with "subscriptTail Name Name ref int" => (k_here; (with_reducible show wpAny _ _ (subscriptTail _ _ (Value.ref D8) (Value.int _ _)) _ _ _); (rename News _ _ _ _ => kN9); k_dflt (first | (refine Mine.item_i9 (i := 2) kN9 (by (repeat (first | exact List.Mem.head _ | refine List.Mem.tail _ ?_))) rfl rfl (by decide) ?_) | (refine Mine.item_i9 (i := 4) kN9 (by (repeat (first | exact List.Mem.head _ | refine List.Mem.tail _ ?_))) rfl rfl (by decide) ?_) | (refine Mine.item_i9 (i := 6) kN9 (by (repeat (first | exact List.Mem.head _ | refine List.Mem.tail _ ?_))) rfl rfl (by decide) ?_) | (refine Mine.item_i9 (i := 8) kN9 (by (repeat (first | exact List.Mem.head _ | refine List.Mem.tail _ ?_))) rfl rfl (by decide) ?_)))
  k_with "SrcT" => (k_dflt (refine Mine.SrcT.intro (by rfl) (by k_asm) (by k_asm) (List.Mem.head _) (by exact Nat.le_of_ble_eq_true rfl) ?_); intro g9; k_dflt (refine' Mine.restX_tup (fun k => Mine.numOk (Mine.wordAt [w0, w1, w2, w3, w4, w5, w6, w7, w8] k.toNat) = true) (IntsAre.cons _ _ (IntsAre.cons _ _ (IntsAre.cons _ _ (IntsAre.cons _ _ IntsAre.nil)))) ⟨_, List.Mem.head _, rfl, _, rfl⟩ ?tt ?tE ?tno; (case tno => exact Mine.row_nums hs8 hr hwd9); (case tE => exact (fun e9 s9 R9 => Mine.cr_on hraise rfl (by assumption) R9 FG9 (by (intro p9 hp9; (repeat (first | exact hp9 | refine List.Mem.tail _ ?_)))))); (case' tt => (intro k9 u9 ys9 I9 oI9 C9 oC9 D9 m9 h9 tk9 hk9 hC9 hx9 F9 N9 off9 ne9; (rcases Mine.four_mem hk9 with rfl | rfl | rfl | rfl)))))
  k_with "leaving ref" => (k_here; k_dflt (refine' Mine.cr_newC hraise ?k1 ?k0 ?k2 ?k3 FG9 ?ks ?kk; (case k0 => assumption); (case k2 => assumption); (case k1 => assumption); (case k3 => k_asm); (case kk => rfl); (case ks => (first | exact fun _ h => h | kcj_all | (intro p9 hp9; (repeat (first | exact hp9 | refine List.Mem.tail _ ?_)))))))
  k_with "exec Raise some none" => (k_here; (with_reducible show wpAny _ _ (exec (Stmt.Raise (some (Expr.Call (Expr.Name _ _) (_ :: _) [] _)) none _) _) _ _ _); k_dflt (refine' Mine.Raise_ownC ?F ?g ?O PySem.F.excBase_ValueError ?h ?_ ?a ?b ?c ?ge ?d ?e; (case F => k_asm); (case g => exact TopRead.g (by k_asm)); (case O => exact own_of_in (by k_asm) (by k_asm) (by k_is) (by k_exc)); (case h => first | rfl | assumption); (case a => rfl); (case b => rfl); (case c => rfl); (case ge => rfl); (case d => rfl); (case e => decide); k_whole))
  k_with "subscriptTail Name Constant ref int" => (k_here; k_dflt (exfalso; omega))
  k_steps
  all_goals first | (refine CompTurn.intro (by k_asm) (by k_asm) _ ?cS ?cO trivial ⟨rfl, hnm9⟩; (case cS => first | exact fun _ h => h | kst_inAny); (case cO => assumption))

end Mine
section
local macro_rules | `(tactic| lsm_bools) => `(tactic| assumption)
namespace Mine
theorem c_within (w : World) (mean : ExcName → Option Value) (mg mb : Str → Option Value) (x l m : Int) (tx tl tm : Tok) : Con w mean mg mb 154 1 [.int x tx, .int l tl, .int m tm] True (fun _ => .bool (within x l m)) := by
  unfold Con Ct
  k_fill
  w_top off
  intro dp un gd cn cs a ccd cl outer A₀ base h₀ L m news s Q E B F X N T hk hd hu hret
  refine wpAny_call ?_
  k_dflt cell_enter
  k_with_none
  k_steps
  all_goals (refine' ct_retB hret trivial ?e2 ?e3 ?e4; (case e3 => k_asm); (case e4 => first | k_asm | (refine' cb_drop ?cbN ?cbS; (case cbN => assumption); (case cbS => kcj_all))); (case e2 => (first | rfl | (unfold Mine.within; rw [Bool.eq_iff_iff]; simp; omega) | (rw [Bool.eq_iff_iff]; simp; omega))))
end Mine
namespace Mine
theorem c_isname (w : World) (mean : ExcName → Option Value) (mg mb : Str → Option Value) (x : Str) (tx : Tok) (hx : x.length ≤ 100000 := by first | trivial | ((try dsimp only); first | assumption | omega | l_fact)) : Con w mean mg mb 159 1 [.str x tx] True (fun _ => .bool (nameOk x)) := by
  unfold Con Ct
  k_fill
  w_top off
  intro dp un gd cn cs a ccd cl outer A₀ base h₀ L m news s Q E B F X N T hk hd hu hret
  refine wpAny_call ?_
  k_dflt cell_enter
  k_with_none
  k_with "eval ListComp" => (k_here; k_dflt (refine Mine.ListComp_S (by k_asm) (by with_unfolding_all rfl) (by decide) (by rfl) (by decide) (by rfl) ?_))
  k_with "SrcS" => (k_dflt (refine Mine.SrcS.intro (by rfl) (by k_asm) (by k_asm) (by rw [sizeLine_eq]; omega) ?_); intro g9; refine Mine.signs_bool (Mine.inT Mine.SMALL) ?_ ?_)
  k_steps
  all_goals first | (refine' CompTurn.intro ?cF ?cN news ?cS ?cO trivial ?cR; (case cF => k_asm); (case cN => k_asm); (case cR => exact ⟨rfl, rfl⟩); (case cS => first | exact fun _ h => h | kst_inAny); (case cO => assumption)) | (refine' ct_retB hret trivial ?e2 ?e3 ?e4; (case e3 => k_asm); (case e4 => first | k_asm | (refine' cb_drop ?cbN ?cbS; (case cbN => assumption); (case cbS => kcj_all))); (case e2 => (unfold nameOk; first | (rw [decide_eq_true (show 1 ≤ x.length by omega), decide_eq_true (show x.length ≤ 12 by omega)]; rfl) | (rw [decide_eq_false (show ¬ 1 ≤ x.length by omega)]; rfl) | (rw [decide_eq_false (show ¬ x.length ≤ 12 by omega)]; simp))))
end Mine
section
local macro_rules | `(tactic| k_mem) => `(tactic| assumption)
namespace Mine
open PySem PySem.W PyProof.Rows
theorem isi_tuple {prog : Program} {w : World} {A : Around} {E : Value → Shared → Prop} {s : Shared} {K : Frag} {Q : Value → Shared → Prop} {h₀ : Heap} {L x : Addr} {news : List (Addr × Obj)} {o : Obj} (N : News h₀ L s.heap news) (hm : (x, o) ∈ news) (hc : o.cls = .type "tuple") (X : K.In s.heap)
    (ee : kitOne K (.type "tuple") (.type "tuple") = some true) (h : ∀ tk, Q (.bool true) { s with toks := tk }) : wpAny (model prog w) A (call (.builtin "isinstance") [.ref x, .type "tuple"]) Q E s :=
  kia_one kitx_tuple X ⟨o, (N _ hm).1, hc⟩ ee (by intro q; cases q) h
theorem isi_list {prog : Program} {w : World} {A : Around} {E : Value → Shared → Prop} {s : Shared} {K : Frag} {Q : Value → Shared → Prop} {h₀ : Heap} {L x : Addr} {news : List (Addr × Obj)} {o : Obj} (N : News h₀ L s.heap news) (hm : (x, o) ∈ news) (hc : o.cls = .type "list") (X : K.In s.heap)
    (ee : kitOne K (.type "list") (.type "list") = some true) (h : ∀ tk, Q (.bool true) { s with toks := tk }) : wpAny (model prog w) A (call (.builtin "isinstance") [.ref x, .type "list"]) Q E s :=
  kia_one kitx_list X ⟨o, (N _ hm).1, hc⟩ ee (by intro q; cases q) h
end Mine
namespace Mine
theorem c_chk_ok (w : World) (mean : ExcName → Option Value) (mg mb : Str → Option Value) (S : Addr) (x : Str) (a b c d : Int) (tx ta tb tc td : Tok) (cc : Nat) (hx : x.length ≤ 4200) (hok : PyData.strOk x = true) (hdu : dueT x a b c d = Str.ofString "") :
    Cv PySem.Challenge.rw_uf050027_12.row.prog w (k12.heap_1 w.params) vw12 (looseW vw12 []) mean mg mb 164 12 [.ref S] (fun news => (S, ({ cls := .type "tuple", data := .seq #[.str x tx, .int a ta, .int b tb, .int c tc, .int d td] cc } : Obj)) ∈ news) (fun r => r = .ref S) := by
  unfold Cv
  k_fill
  w_top off
  intro dp un gd cn cs a ccd cl outer A₀ base h₀ L m news s Q E B F X N T hk hd hu hP hret
  refine wpAny_call ?_
  k_dflt cell_enter
  k_with_none
  k_with "call builtin:isinstance" => (k_here; (with_reducible show wpAny _ _ (call (Value.builtin "isinstance") [Value.ref _, Value.type "tuple"]) _ _ _); k_dflt (refine' Mine.isi_tuple ?N ?hm ?hc ?X ?ee ?_; (case N => k_asm); (case hm => k_mem); (case hc => exact rfl); (case X => k_in); (case ee => exact rfl)); intro _)
  k_with "call builtin:isinstance" => (k_here; (with_reducible show wpAny _ _ (call (Value.builtin "isinstance") [Value.ref _, Value.type "list"]) _ _ _); k_dflt (refine' Mine.isi_list ?N ?hm ?hc ?X ?ee ?_; (case N => k_asm); (case hm => k_mem); (case hc => exact rfl); (case X => k_in); (case ee => exact rfl)); intro _)
  k_with "call ref" => (k_here; (with_reducible show wpAny _ _ (call (Value.ref 154) _) _ _ _); k_dflt (refine Mine.Ct.use (Mine.c_within _ _ _ _ _ _ _ _ _ _) (ret := ?_)); intro t9 h9 tk9 P9 F9 N9; (try dsimp only); (try k_fold))
  k_with "call ref" => (k_here; (with_reducible show wpAny _ _ (call (Value.ref 159) _) _ _ _); k_dflt (refine Mine.Ct.use (Mine.c_isname _ _ _ _ _ _) (ret := ?_)); intro t9 h9 tk9 P9 F9 N9; (try dsimp only); (try k_fold))
  k_with "subscriptTail Name Slice ref ref" => (k_here; (with_reducible show wpAny _ _ (subscriptTail _ (PySem.Expr.Slice _ none none _) (Value.ref _) (Value.ref _)) _ _ _); k_dflt (refine' Mine.tup_from1 ?F ?N ?m ?_ ?s ?g; (case F => k_asm); (case N => k_asm); (case m => k_mem); (case s => with_unfolding_all rfl); (case g => (intro _; with_unfolding_all rfl))); intro D' h' F' N' l1; (try k_lt l1))
  k_with "eval ListComp" => (k_here; k_dflt (refine Mine.ListComp_Tu (by k_asm) (by with_unfolding_all rfl) (by decide) (by rfl) (by decide) (by rfl) ?_))
  k_with "SrcT" => (k_dflt (refine Mine.SrcT.intro (by rfl) (by k_asm) (by k_asm) (by k_mem) (by exact Nat.le_of_ble_eq_true rfl) ?_); intro g9; k_dflt (refine Mine.tup_bool (fun k => Mine.within k 0 1000000000000) (IntsAre.cons _ _ (IntsAre.cons _ _ (IntsAre.cons _ _ (IntsAre.cons _ _ IntsAre.nil)))) ⟨_, by k_mem, rfl, _, rfl⟩ ?_ ?_))
  k_with "compareOp Eq ref ref" => (k_here; (with_reducible show wpAny _ _ (compareOp CmpOp.Eq (Value.ref _) (Value.ref _)) _ _ _); k_dflt (refine' Mine.eq_self ?N ?D ?k ?u ?_; (case N => k_asm); (case D => exact DatIn.tuple (by k_mem) (DatAll.cons (DatIn.str _ _) (DatAll.cons (DatIn.int _ _) (DatAll.cons (DatIn.int _ _) (DatAll.cons (DatIn.int _ _) (DatAll.cons (DatIn.int _ _) DatAll.nil)))))); (case k => (simp only [kqdOk, List.all_cons, List.all_nil, Bool.and_true]; assumption)); (case u => first | ke_room | (simp only [units_in1, units_deeper, Around.mark_units, cLine] at *; omega)); k_whole))
  k_with "exec Raise some none" => (k_here; (with_reducible show wpAny _ _ (exec (Stmt.Raise (some (Expr.Call (Expr.Name _ _) (_ :: _) [] _)) none _) _) _ _ _); k_dflt (refine' Mine.Raise_ownC ?F ?g ?O PySem.F.excBase_ValueError ?h ?_ ?a ?b ?c ?ge ?d ?e; (case F => k_asm); (case g => exact TopRead.g (by k_asm)); (case O => exact own_of_in (by k_asm) (by k_asm) (by k_is) (by k_exc)); (case h => first | rfl | assumption); (case a => rfl); (case b => rfl); (case c => rfl); (case ge => rfl); (case d => rfl); (case e => decide); k_whole))
  k_steps
  k_with_none
  all_goals first | (refine CompTurn.intro (by k_asm) (by k_asm) _ ?cS ?cO trivial ⟨rfl, rfl⟩; (case cS => first | exact fun _ h => h | kst_inAny); (case cO => assumption)) | (refine' hret _ _ _ rfl ?q2 ?q3; (case q2 => k_asm); (case q3 => first | k_asm | (refine' cb_drop ?cbN ?cbS; (case cbN => assumption); (case cbS => kcj_all)))) | (exfalso; first | (exact absurd ((dueT_name (by assumption)).trans hdu) (by decide)) | (exact absurd ((dueT_w (by assumption) (by assumption)).trans hdu) (by decide)) | (exact absurd ((dueT_o (by assumption) (by assumption) (by omega)).trans hdu) (by decide)))

end Mine
namespace Mine
theorem c_chk_name (w : World) (mean : ExcName → Option Value) (mg mb : Str → Option Value) (S : Addr) (x : Str) (a b c d : Int) (tx ta tb tc td : Tok) (cc : Nat) (hx : x.length ≤ 4200) (hok : PyData.strOk x = true) (hn : nameOk x = false) :
    Cr PySem.Challenge.rw_uf050027_12.row.prog w (k12.heap_1 w.params) vw12 (looseW vw12 []) mean mg mb 164 12 [.ref S] (fun _ news => (S, ({ cls := .type "tuple", data := .seq #[.str x tx, .int a ta, .int b tb, .int c tc, .int d td] cc } : Obj)) ∈ news) 37 := by
  unfold Cr
  k_fill
  w_top off
  intro dp un gd cn cs a ccd cl outer A₀ base h₀ L m news s Q E B F X N T hk hd hu hP hraise
  refine wpAny_call ?_
  k_dflt cell_enter
  (rename Fr h₀ L _ m => FG9)
  k_with_none
  k_with "call builtin:isinstance" => (k_here; (with_reducible show wpAny _ _ (call (Value.builtin "isinstance") [Value.ref _, Value.type "tuple"]) _ _ _); k_dflt (refine' Mine.isi_tuple ?N ?hm ?hc ?X ?ee ?_; (case N => k_asm); (case hm => k_mem); (case hc => exact rfl); (case X => k_in); (case ee => exact rfl)); intro _)
  k_with "call builtin:isinstance" => (k_here; (with_reducible show wpAny _ _ (call (Value.builtin "isinstance") [Value.ref _, Value.type "list"]) _ _ _); k_dflt (refine' Mine.isi_list ?N ?hm ?hc ?X ?ee ?_; (case N => k_asm); (case hm => k_mem); (case hc => exact rfl); (case X => k_in); (case ee => exact rfl)); intro _)
  k_with "call ref" => (k_here; (with_reducible show wpAny _ _ (call (Value.ref 154) _) _ _ _); k_dflt (refine Mine.Ct.use (Mine.c_within _ _ _ _ _ _ _ _ _ _) (ret := ?_)); intro t9 h9 tk9 P9 F9 N9; (try dsimp only); (try k_fold))
  k_with "call ref" => (k_here; (with_reducible show wpAny _ _ (call (Value.ref 159) _) _ _ _); k_dflt (refine Mine.Ct.use (Mine.c_isname _ _ _ _ _ _) (ret := ?_)); intro t9 h9 tk9 P9 F9 N9; (try dsimp only); (try k_fold))
  k_with "subscriptTail Name Slice ref ref" => (k_here; (with_reducible show wpAny _ _ (subscriptTail _ (PySem.Expr.Slice _ none none _) (Value.ref _) (Value.ref _)) _ _ _); k_dflt (refine' Mine.tup_from1 ?F ?N ?m ?_ ?s ?g; (case F => k_asm); (case N => k_asm); (case m => k_mem); (case s => with_unfolding_all rfl); (case g => (intro _; with_unfolding_all rfl))); intro D' h' F' N' l1; (try k_lt l1))
  k_with "eval ListComp" => (k_here; k_dflt (refine Mine.ListComp_Tu (by k_asm) (by with_unfolding_all rfl) (by decide) (by rfl) (by decide) (by rfl) ?_))
  k_with "SrcT" => (k_dflt (refine Mine.SrcT.intro (by rfl) (by k_asm) (by k_asm) (by k_mem) (by exact Nat.le_of_ble_eq_true rfl) ?_); intro g9; k_dflt (refine Mine.tup_bool (fun k => Mine.within k 0 1000000000000) (IntsAre.cons _ _ (IntsAre.cons _ _ (IntsAre.cons _ _ (IntsAre.cons _ _ IntsAre.nil)))) ⟨_, by k_mem, rfl, _, rfl⟩ ?_ ?_))
  k_with "compareOp Eq ref ref" => (k_here; (with_reducible show wpAny _ _ (compareOp CmpOp.Eq (Value.ref _) (Value.ref _)) _ _ _); k_dflt (refine' Mine.eq_self ?N ?D ?k ?u ?_; (case N => k_asm); (case D => exact DatIn.tuple (by k_mem) (DatAll.cons (DatIn.str _ _) (DatAll.cons (DatIn.int _ _) (DatAll.cons (DatIn.int _ _) (DatAll.cons (DatIn.int _ _) (DatAll.cons (DatIn.int _ _) DatAll.nil)))))); (case k => (simp only [kqdOk, List.all_cons, List.all_nil, Bool.and_true]; assumption)); (case u => first | ke_room | (simp only [units_in1, units_deeper, Around.mark_units, cLine] at *; omega)); k_whole))
  k_with "exec Raise some none" => (k_here; (with_reducible show wpAny _ _ (exec (Stmt.Raise (some (Expr.Call (Expr.Name _ _) (_ :: _) [] _)) none _) _) _ _ _); k_dflt (refine' Mine.Raise_ownC ?F ?g ?O PySem.F.excBase_ValueError ?h ?_ ?a ?b ?c ?ge ?d ?e; (case F => k_asm); (case g => exact TopRead.g (by k_asm)); (case O => exact own_of_in (by k_asm) (by k_asm) (by k_is) (by k_exc)); (case h => first | rfl | assumption); (case a => rfl); (case b => rfl); (case c => rfl); (case ge => rfl); (case d => rfl); (case e => decide); k_whole))
  k_with "leaving ref" => (k_here; k_dflt (first | (exfalso; first | (exact absurd (hn.symm.trans (by assumption)) (by decide))) | (refine' Mine.cr_new hraise ?k1 ?k0 ?k2 ?k3 FG9 ?ks ?kk; (case k0 => assumption); (case k2 => assumption); (case k1 => assumption); (case k3 => k_asm); (case kk => rfl); (case ks => (first | exact fun _ h => h | kcj_all | (intro p9 hp9; (repeat (first | exact hp9 | refine List.Mem.tail _ ?_))))))))
  k_steps
  all_goals first | (refine CompTurn.intro (by k_asm) (by k_asm) _ ?cS ?cO trivial ⟨rfl, rfl⟩; (case cS => first | exact fun _ h => h | kst_inAny); (case cO => assumption)) | (exfalso; first | (exact absurd (hn.symm.trans (by assumption)) (by decide)))

end Mine
namespace Mine
theorem c_chk_letter (w : World) (mean : ExcName → Option Value) (mg mb : Str → Option Value) (S : Addr) (x : Str) (a b c d : Int) (tx ta tb tc td : Tok) (cc : Nat) (hx : x.length ≤ 4200) (hok : PyData.strOk x = true) (hn : nameOk x = true) (hdu : dueT x a b c d = Str.ofString "letter") :
    Cr PySem.Challenge.rw_uf050027_12.row.prog w (k12.heap_1 w.params) vw12 (looseW vw12 []) mean mg mb 164 12 [.ref S] (fun _ news => (S, ({ cls := .type "tuple", data := .seq #[.str x tx, .int a ta, .int b tb, .int c tc, .int d td] cc } : Obj)) ∈ news) 49 := by
  unfold Cr
  k_fill
  w_top off
  intro dp un gd cn cs a ccd cl outer A₀ base h₀ L m news s Q E B F X N T hk hd hu hP hraise
  refine wpAny_call ?_
  k_dflt cell_enter
  (rename Fr h₀ L _ m => FG9)
  k_with_none
  k_with "call builtin:isinstance" => (k_here; (with_reducible show wpAny _ _ (call (Value.builtin "isinstance") [Value.ref _, Value.type "tuple"]) _ _ _); k_dflt (refine' Mine.isi_tuple ?N ?hm ?hc ?X ?ee ?_; (case N => k_asm); (case hm => k_mem); (case hc => exact rfl); (case X => k_in); (case ee => exact rfl)); intro _)
  k_with "call builtin:isinstance" => (k_here; (with_reducible show wpAny _ _ (call (Value.builtin "isinstance") [Value.ref _, Value.type "list"]) _ _ _); k_dflt (refine' Mine.isi_list ?N ?hm ?hc ?X ?ee ?_; (case N => k_asm); (case hm => k_mem); (case hc => exact rfl); (case X => k_in); (case ee => exact rfl)); intro _)
  k_with "call ref" => (k_here; (with_reducible show wpAny _ _ (call (Value.ref 154) _) _ _ _); k_dflt (refine Mine.Ct.use (Mine.c_within _ _ _ _ _ _ _ _ _ _) (ret := ?_)); intro t9 h9 tk9 P9 F9 N9; (try dsimp only); (try k_fold))
  k_with "call ref" => (k_here; (with_reducible show wpAny _ _ (call (Value.ref 159) _) _ _ _); k_dflt (refine Mine.Ct.use (Mine.c_isname _ _ _ _ _ _) (ret := ?_)); intro t9 h9 tk9 P9 F9 N9; (try dsimp only); (try k_fold))
  k_with "subscriptTail Name Slice ref ref" => (k_here; (with_reducible show wpAny _ _ (subscriptTail _ (PySem.Expr.Slice _ none none _) (Value.ref _) (Value.ref _)) _ _ _); k_dflt (refine' Mine.tup_from1 ?F ?N ?m ?_ ?s ?g; (case F => k_asm); (case N => k_asm); (case m => k_mem); (case s => with_unfolding_all rfl); (case g => (intro _; with_unfolding_all rfl))); intro D' h' F' N' l1; (try k_lt l1))
  k_with "eval ListComp" => (k_here; k_dflt (refine Mine.ListComp_Tu (by k_asm) (by with_unfolding_all rfl) (by decide) (by rfl) (by decide) (by rfl) ?_))
  k_with "SrcT" => (k_dflt (refine Mine.SrcT.intro (by rfl) (by k_asm) (by k_asm) (by k_mem) (by exact Nat.le_of_ble_eq_true rfl) ?_); intro g9; k_dflt (refine Mine.tup_bool (fun k => Mine.within k 0 1000000000000) (IntsAre.cons _ _ (IntsAre.cons _ _ (IntsAre.cons _ _ (IntsAre.cons _ _ IntsAre.nil)))) ⟨_, by k_mem, rfl, _, rfl⟩ ?_ ?_))
  k_with "compareOp Eq ref ref" => (k_here; (with_reducible show wpAny _ _ (compareOp CmpOp.Eq (Value.ref _) (Value.ref _)) _ _ _); k_dflt (refine' Mine.eq_self ?N ?D ?k ?u ?_; (case N => k_asm); (case D => exact DatIn.tuple (by k_mem) (DatAll.cons (DatIn.str _ _) (DatAll.cons (DatIn.int _ _) (DatAll.cons (DatIn.int _ _) (DatAll.cons (DatIn.int _ _) (DatAll.cons (DatIn.int _ _) DatAll.nil)))))); (case k => (simp only [kqdOk, List.all_cons, List.all_nil, Bool.and_true]; assumption)); (case u => first | ke_room | (simp only [units_in1, units_deeper, Around.mark_units, cLine] at *; omega)); k_whole))
  k_with "exec Raise some none" => (k_here; (with_reducible show wpAny _ _ (exec (Stmt.Raise (some (Expr.Call (Expr.Name _ _) (_ :: _) [] _)) none _) _) _ _ _); k_dflt (refine' Mine.Raise_ownC ?F ?g ?O PySem.F.excBase_ValueError ?h ?_ ?a ?b ?c ?ge ?d ?e; (case F => k_asm); (case g => exact TopRead.g (by k_asm)); (case O => exact own_of_in (by k_asm) (by k_asm) (by k_is) (by k_exc)); (case h => first | rfl | assumption); (case a => rfl); (case b => rfl); (case c => rfl); (case ge => rfl); (case d => rfl); (case e => decide); k_whole))
  k_with "leaving ref" => (k_here; k_dflt (first | (exfalso; first | (exact absurd (hn.symm.trans (by assumption)) (by decide)) | (exact absurd ((Mine.dueT_k (by assumption) (by assumption) (by omega) (by omega)).trans hdu) (by decide))) | (refine' Mine.cr_new hraise ?k1 ?k0 ?k2 ?k3 FG9 ?ks ?kk; (case k0 => assumption); (case k2 => assumption); (case k1 => assumption); (case k3 => k_asm); (case kk => rfl); (case ks => (first | exact fun _ h => h | kcj_all | (intro p9 hp9; (repeat (first | exact hp9 | refine List.Mem.tail _ ?_))))))))
  k_steps
  all_goals first | (refine CompTurn.intro (by k_asm) (by k_asm) _ ?cS ?cO trivial ⟨rfl, rfl⟩; (case cS => first | exact fun _ h => h | kst_inAny); (case cO => assumption)) | (exfalso; first | (exact absurd (hn.symm.trans (by assumption)) (by decide)) | (exact absurd ((dueT_k (by assumption) (by assumption) (by omega) (by omega)).trans hdu) (by decide)))

end Mine
end
end
namespace Mine
theorem c_read_ok (w : World) (mean : ExcName → Option Value) (mg mb : Str → Option Value) (x : Str) (tx : Tok) (hx : x.length ≤ 4200) (ho : PyData.strOk x = true) (hb : ¬ badT x) (hw : wordD (lettersOf x) = Str.ofString "") :
    Cm PySem.Challenge.rw_uf050027_12.row.prog w (k12.heap_1 w.params) vw12 (looseW vw12 []) mean mg mb 181 16 [.str x tx] (fun _ _ => True) (fun r add => ∃ D ys e ad, r = .ref D ∧ add = (D, ({ cls := .type "list", data := .seq (List.toArray ys) e } : Obj)) :: ad ∧ (∀ p ∈ ad, p.1 ≠ D) ∧ DatAll ad ys (lettersOf x)) := by
  unfold Cm
  k_fill
  w_top off
  intro dp un gd cn cs a ccd cl outer A₀ base h₀ L m news s Q E B F X N T hk hd hu hP hret
  have hgl := good_last hb
  refine wpAny_call ?_
  k_dflt cell_enter
  k_with_none
  k_with "call builtin:str.split" => (k_here; (with_reducible show wpAny _ _ (call (Value.builtin "str.split") [Value.str _ _, Value.str _ _]) _ _ _); k_dflt (refine' Mine.split_rows ?sF ?sN ?sz ?_; (case sF => k_asm); (case sN => k_asm); (case sz => omega)); intro D8 l8 z8 tz8 h8 k8 e8 ez8 hz8 F8 N8 l1; (try k_lt l1); (try dsimp only); (try k_fold))
  k_with "call builtin:list.pop" => (k_here; (with_reducible show wpAny _ _ (call (Value.builtin _) [Value.ref _]) _ _ _); k_dflt (refine' kl_pop (p := strValues l8) (y := Value.str z8 tz8) ?F ?N ?e ?U ?z ?_; (case F => k_asm); (case N => k_asm); (case U => k_upd); (case e => exact kpa_last _ _); (case z => (show (strValues l8 ++ [Value.str z8 tz8]).length ≤ _; rw [List.length_append, Mine.strValues_len, sizeLine_eq]; simp only [List.length_singleton]; omega))); intro h' F' N'; (try dsimp only); (try k_fold))
  k_with "compareOp NotEq str str" => (k_here; (with_reducible show wpAny _ _ (compareOp CmpOp.NotEq (Value.str _ _) (Value.str _ _)) _ _ _); k_dflt (refine Mine.ne_split (fun hsm => ?_) (fun hsm => absurd (show Mine.Same z8 (Str.ofString "") from ez8.trans hgl) hsm)) <;> (try dsimp only))
  k_with "exec Assign cons ListComp" => (k_here; k_dflt (refine Mine.Assign_ListComp_V (by k_asm) (by rfl) (by with_unfolding_all rfl) (by with_unfolding_all rfl) (by decide) (by rfl) (by decide) (by rfl) (by rfl) (by rfl) ?_))
  k_steps
  (rename News _ _ _ _ => kN8)
  k_dflt (refine SrcU.ledger (by rfl) (by k_asm) kN8 (.head _) (by rw [List.size_toArray, strValues_len, sizeLine_eq]; omega) ?_)
  intro g9
  refine rest_exact [] (lettersOf x) (letters_len e8) (fun nw hs => .inr ⟨_, hs _ (.head _), rfl, _, rfl⟩) ?_ ?_
  · intro i7 d7 v7 ys7 nw7 I7 oI7 C7 oC7 D7 m7 h7 tk7 E7 hd7 hv7 hs7 hC7 hx7 F7 N7 off7 ne7
    obtain ⟨r7, t7, rfl, hr7⟩ := strs_nth e8 (by simpa using hv7)
    have e7 := let_nth hr7 hd7
    subst e7
    have hk7 := row_short hx hr7
    have ho7 := row_strOk ho hr7
    have hg7 := good_rows hb hr7
    k_with "call ref" => (k_here; (with_reducible show wpAny _ _ (call (Value.ref 176) _) _ _ _); k_dflt (refine' Mine.Cm.use (Mine.c_let_ok _ _ _ _ _ _ hk7 ho7 hg7) (hp := trivial) (ret := ?_)); intro r9 ad9 h9 tk9 ho9 hn9 F9 N9; (try dsimp only); (try k_fold))
    clear kN8
    k_steps
    all_goals exact turn_ex (by k_asm) (by k_asm) off7 hn9 ho9
  · intro ys7 ad7 hap7 hD7
    intro D7 h7 tk7 F7 N7 o7
    rw [List.append_nil] at hD7
    clear kN8
    have hl7 := hD7.length
    have hz7 : (lettersOf x).length ≤ 5000 := by rw [letters_len e8, List.size_toArray, strValues_len]; omega
    k_with "eval ListComp" => (k_here; k_dflt (refine Mine.ListComp_V (by k_asm) (by with_unfolding_all rfl) (by decide) (by rfl) (by decide) (by rfl) ?_))
    k_steps
    (rename News _ _ _ _ => kN8)
    k_dflt (refine SrcU.ledger (by rfl) (by k_asm) kN8 (.head _) (by rw [List.size_toArray, hl7, sizeLine_eq]; omega) ?_)
    intro g6
    refine rest_exact ad7 (lettersOf x) (by rw [List.size_toArray, hl7]) (fun nw hs => .inr ⟨_, hs _ (.head _), rfl, _, rfl⟩) ?_ ?_
    · intro i6 d6 v6 ys6 nw6 I6 oI6 C6 oC6 D6 m6 h6 tk6 E6 hd6 hv6 hs6 hC6 hx6 F6 N6 off6 ne6
      obtain ⟨e6, he6, hm6, hI6⟩ := dat_at hD7 (i := i6) (by simpa using hv6)
      rw [hd6] at he6
      cases he6
      have hdu6 := wordD_all hw d6 hm6
      obtain ⟨y6, a6, b6, c6, q6, rfl, hy6, hoy6, _⟩ := letT_of hx ho hb hd6
      replace hdu6 : dueT y6 a6 b6 c6 q6 = Str.ofString "" := hdu6
      obtain ⟨A6, n6, t06, t16, t26, t36, t46, rfl, hmA6⟩ := dat_letter hI6
      have qm6 := hs6 _ (.tail _ (List.mem_append.mpr (.inl hmA6)))
      k_with "call ref" => (k_here; (with_reducible show wpAny _ _ (call (Value.ref 164) _) _ _ _); k_dflt (refine' Mine.Cv.use (Mine.c_chk_ok _ _ _ _ _ _ _ _ _ _ _ _ _ _ _ _ hy6 hoy6 hdu6) (hp := ?kP) (ret := ?_); (case kP => (show _ ∈ _; (repeat (first | exact qm6 | refine List.Mem.tail _ ?_))))); intro r9 h9 tk9 ho9 F9 N9; k_dflt (subst ho9); (try dsimp only); (try k_fold))
      clear kN8
      k_steps
      all_goals exact turn_same (by k_asm) (by k_asm) off6 hI6
    · intro ys6 ad6 hap6 hD6
      intro D6 h6 tk6 F6 N6 o6
      clear kN8
      k_steps
      all_goals exact read_ret hret (by k_asm) (by k_asm) hap6 hap7 o6 hD6

end Mine
namespace Mine
theorem c_read_text (w : World) (mean : ExcName → Option Value) (mg mb : Str → Option Value) (x : Str) (tx : Tok) (hx : x.length ≤ 4200) (ho : PyData.strOk x = true) (hb : badT x) :
    Cr PySem.Challenge.rw_uf050027_12.row.prog w (k12.heap_1 w.params) vw12 (looseW vw12 []) mean mg mb 181 16 [.str x tx] (fun _ _ => True) 145 := by
  unfold Cr
  k_fill
  w_top off
  intro dp un gd cn cs a ccd cl outer A₀ base h₀ L m news s Q E B F X N T hk hd hu hP hraise
  refine wpAny_call ?_
  k_dflt cell_enter
  (rename Fr h₀ L _ m => FG9)
  k_with_none
  k_with "call builtin:str.split" => (k_here; (with_reducible show wpAny _ _ (call (Value.builtin "str.split") [Value.str _ _, Value.str _ _]) _ _ _); k_dflt (refine' Mine.split_rows ?sF ?sN ?sz ?_; (case sF => k_asm); (case sN => k_asm); (case sz => omega)); intro D8 l8 z8 tz8 h8 k8 e8 ez8 hz8 F8 N8 l1; (try k_lt l1); (try dsimp only); (try k_fold))
  k_with "call builtin:list.pop" => (k_here; (with_reducible show wpAny _ _ (call (Value.builtin _) [Value.ref _]) _ _ _); k_dflt (refine' kl_pop (p := strValues l8) (y := Value.str z8 tz8) ?F ?N ?e ?U ?z ?_; (case F => k_asm); (case N => k_asm); (case U => k_upd); (case e => exact kpa_last _ _); (case z => (show (strValues l8 ++ [Value.str z8 tz8]).length ≤ _; rw [List.length_append, Mine.strValues_len, sizeLine_eq]; simp only [List.length_singleton]; omega))); intro h' F' N'; (try dsimp only); (try k_fold))
  k_with "compareOp NotEq str str" => (k_here; (with_reducible show wpAny _ _ (compareOp CmpOp.NotEq (Value.str _ _) (Value.str _ _)) _ _ _); k_dflt (refine Mine.ne_split (fun hsm => ?_) (fun hsm => ?_)) <;> (try dsimp only))
  k_with "leaving ref" => (k_here; k_dflt (refine' Mine.cr_new hraise ?k1 ?k0 ?k2 ?k3 FG9 ?ks ?kk; (case k0 => assumption); (case k2 => assumption); (case k1 => assumption); (case k3 => k_asm); (case kk => rfl); (case ks => (first | exact fun _ h => h | kcj_all | (intro p9 hp9; (repeat (first | exact hp9 | refine List.Mem.tail _ ?_)))))))
  k_with "exec Raise some none" => (k_here; (with_reducible show wpAny _ _ (exec (Stmt.Raise (some (Expr.Call (Expr.Name _ _) (_ :: _) [] _)) none _) _) _ _ _); k_dflt (refine' Mine.Raise_ownC ?F ?g ?O PySem.F.excBase_ValueError ?h ?_ ?a ?b ?c ?ge ?d ?e; (case F => k_asm); (case g => exact TopRead.g (by k_asm)); (case O => exact own_of_in (by k_asm) (by k_asm) (by k_is) (by k_exc)); (case h => first | rfl | assumption); (case a => rfl); (case b => rfl); (case c => rfl); (case ge => rfl); (case d => rfl); (case e => decide); k_whole))
  k_with "exec Assign cons ListComp" => (k_here; k_dflt (refine Mine.Assign_ListComp_X (base := base) (K := 145) (by k_asm) (by rfl) (by rfl) (by with_unfolding_all rfl) (by with_unfolding_all rfl) (by decide) (by rfl) (by decide) (by rfl) ?_))
  k_steps
  (rename News _ _ _ _ => kN8)
  k_dflt (refine SrcX.ledger (by rfl) (by k_asm) kN8 (.head _) (by rw [List.size_toArray, strValues_len, sizeLine_eq]; omega) ?_)
  intro g9
  refine restX_list (fun i => ∀ r, (rowsOf x)[i]? = some r → rowOk (Txt.split r BLK) = true) (fun nw hs => .inr ⟨_, hs _ (.head _), rfl, _, rfl⟩) ?_ (fun e9 s9 R9 => cr_on hraise rfl (by assumption) R9 FG9 (by (intro p9 hp9; (repeat (first | exact hp9 | refine List.Mem.tail _ ?_))))) (bad_rowsV hb e8 ez8 hsm)
  intro i7 v7 ys7 nw7 I7 oI7 C7 oC7 D7 m7 h7 tk7 hv7 hs7 hp7 hC7 hx7 F7 N7 off7 ne7
  obtain ⟨r7, t7, rfl, hr7⟩ := strs_nth e8 hv7
  have hk7 := row_short hx hr7
  have ho7 := row_strOk ho hr7
  clear kN8
  k_with_none
  cases hg7 : rowOk (Txt.split r7 BLK)
  · k_with "call ref" => (k_here; (with_reducible show wpAny _ _ (call (Value.ref 176) _) _ _ _); k_dflt (refine Mine.Cr.use (Mine.c_let_bad _ _ _ _ _ _ hk7 ho7 hg7) (hp := trivial) (raise := fun e9 s9 R9 => Mine.RaisesAt.less (Mine.RaisesS.toA R9) (by first | exact fun _ h => h | (intro p9 hp9; (repeat (first | exact hp9 | refine List.Mem.tail _ ?_)))))))
    k_steps
  · k_with "call ref" => (k_here; (with_reducible show wpAny _ _ (call (Value.ref 176) _) _ _ _); k_dflt (refine' Mine.Cm.use (Mine.c_let_ok _ _ _ _ _ _ hk7 ho7 hg7) (hp := trivial) (ret := ?_)); intro r9 ad9 h9 tk9 ho9 hn9 F9 N9; (try dsimp only); (try k_fold))
    k_steps
    all_goals exact turn_goes (by k_asm) (by k_asm) off7 hn9 (fun r hr => by rw [hr7] at hr; cases hr; exact hg7)

end Mine
namespace Mine
theorem c_read_name (w : World) (mean : ExcName → Option Value) (mg mb : Str → Option Value) (x : Str) (tx : Tok) (hx : x.length ≤ 4200) (ho : PyData.strOk x = true) (hb : ¬ badT x) (hw : wordD (lettersOf x) = Str.ofString "name") :
    Cr PySem.Challenge.rw_uf050027_12.row.prog w (k12.heap_1 w.params) vw12 (looseW vw12 []) mean mg mb 181 16 [.str x tx] (fun _ _ => True) 37 := by
  unfold Cr
  k_fill
  w_top off
  intro dp un gd cn cs a ccd cl outer A₀ base h₀ L m news s Q E B F X N T hk hd hu hP hraise
  have hgl := good_last hb
  refine wpAny_call ?_
  k_dflt cell_enter
  (rename Fr h₀ L _ m => FG9)
  k_with_none
  k_with "call builtin:str.split" => (k_here; (with_reducible show wpAny _ _ (call (Value.builtin "str.split") [Value.str _ _, Value.str _ _]) _ _ _); k_dflt (refine' Mine.split_rows ?sF ?sN ?sz ?_; (case sF => k_asm); (case sN => k_asm); (case sz => omega)); intro D8 l8 z8 tz8 h8 k8 e8 ez8 hz8 F8 N8 l1; (try k_lt l1); (try dsimp only); (try k_fold))
  k_with "call builtin:list.pop" => (k_here; (with_reducible show wpAny _ _ (call (Value.builtin _) [Value.ref _]) _ _ _); k_dflt (refine' kl_pop (p := strValues l8) (y := Value.str z8 tz8) ?F ?N ?e ?U ?z ?_; (case F => k_asm); (case N => k_asm); (case U => k_upd); (case e => exact kpa_last _ _); (case z => (show (strValues l8 ++ [Value.str z8 tz8]).length ≤ _; rw [List.length_append, Mine.strValues_len, sizeLine_eq]; simp only [List.length_singleton]; omega))); intro h' F' N'; (try dsimp only); (try k_fold))
  k_with "compareOp NotEq str str" => (k_here; (with_reducible show wpAny _ _ (compareOp CmpOp.NotEq (Value.str _ _) (Value.str _ _)) _ _ _); k_dflt (refine Mine.ne_split (fun hsm => ?_) (fun hsm => absurd (show Mine.Same z8 (Str.ofString "") from ez8.trans hgl) hsm)) <;> (try dsimp only))
  k_with "exec Assign cons ListComp" => (k_here; k_dflt (refine Mine.Assign_ListComp_V (by k_asm) (by rfl) (by with_unfolding_all rfl) (by with_unfolding_all rfl) (by decide) (by rfl) (by decide) (by rfl) (by rfl) (by rfl) ?_))
  k_steps
  (rename News _ _ _ _ => kN8)
  k_dflt (refine SrcU.ledger (by rfl) (by k_asm) kN8 (.head _) (by rw [List.size_toArray, strValues_len, sizeLine_eq]; omega) ?_)
  intro g9
  refine rest_exact [] (lettersOf x) (letters_len e8) (fun nw hs => .inr ⟨_, hs _ (.head _), rfl, _, rfl⟩) ?_ ?_
  · intro i7 d7 v7 ys7 nw7 I7 oI7 C7 oC7 D7 m7 h7 tk7 E7 hd7 hv7 hs7 hC7 hx7 F7 N7 off7 ne7
    obtain ⟨r7, t7, rfl, hr7⟩ := strs_nth e8 (by simpa using hv7)
    have e7 := let_nth hr7 hd7
    subst e7
    have hk7 := row_short hx hr7
    have ho7 := row_strOk ho hr7
    have hg7 := good_rows hb hr7
    k_with "call ref" => (k_here; (with_reducible show wpAny _ _ (call (Value.ref 176) _) _ _ _); k_dflt (refine' Mine.Cm.use (Mine.c_let_ok _ _ _ _ _ _ hk7 ho7 hg7) (hp := trivial) (ret := ?_)); intro r9 ad9 h9 tk9 ho9 hn9 F9 N9; (try dsimp only); (try k_fold))
    clear kN8
    k_steps
    all_goals exact turn_ex (by k_asm) (by k_asm) off7 hn9 ho9
  · intro ys7 ad7 hap7 hD7
    intro D7 h7 tk7 F7 N7 o7
    rw [List.append_nil] at hD7
    clear kN8
    have hl7 := hD7.length
    have hz7 : (lettersOf x).length ≤ 5000 := by rw [letters_len e8, List.size_toArray, strValues_len]; omega
    k_with_none
    k_with "eval ListComp" => (k_here; k_dflt (refine Mine.ListComp_X (base := base) (K := 37) (by k_asm) (by rfl) (by rfl) (by with_unfolding_all rfl) (by decide) (by rfl) (by decide) (by rfl) ?_))
    k_steps
    (rename News _ _ _ _ => kN8)
    k_dflt (refine SrcX.ledger (by rfl) (by k_asm) kN8 (.head _) (by rw [List.size_toArray, hl7, sizeLine_eq]; omega) ?_)
    intro g6
    refine restX_list (fun i => ∀ d, (lettersOf x)[i]? = some d → dueD d = Str.ofString "") (fun nw hs => .inr ⟨_, hs _ (.head _), rfl, _, rfl⟩) ?_ (fun e9 s9 R9 => cr_on hraise rfl (by assumption) R9 FG9 (by (intro p9 hp9; (repeat (first | exact hp9 | refine List.Mem.tail _ ?_ | refine List.mem_append.mpr (.inr ?_)))))) (by rw [hl7]; exact wordD_mem hw (by decide))
    intro i6 v6 ys6 nw6 I6 oI6 C6 oC6 D6 m6 h6 tk6 hv6 hs6 hp6 hC6 hx6 F6 N6 off6 ne6
    obtain ⟨d6, hd6, hm6, hI6⟩ := dat_at hD7 (i := i6) hv6
    have hfd6 := first_due hd6 hp6
    obtain ⟨y6, a6, b6, c6, q6, rfl, hy6, hoy6, _⟩ := letT_of hx ho hb hd6
    obtain ⟨A6, n6, t06, t16, t26, t36, t46, rfl, hmA6⟩ := dat_letter hI6
    have qm6 := hs6 _ (.tail _ (List.mem_append.mpr (.inl hmA6)))
    clear kN8
    k_with_none
    by_cases hdu6 : dueT y6 a6 b6 c6 q6 = Str.ofString ""
    · k_with "call ref" => (k_here; (with_reducible show wpAny _ _ (call (Value.ref 164) _) _ _ _); k_dflt (refine' Mine.Cv.use (Mine.c_chk_ok _ _ _ _ _ _ _ _ _ _ _ _ _ _ _ _ hy6 hoy6 hdu6) (hp := ?kP) (ret := ?_); (case kP => (show _ ∈ _; (repeat (first | exact qm6 | refine List.Mem.tail _ ?_))))); intro r9 h9 tk9 ho9 F9 N9; k_dflt (subst ho9); (try dsimp only); (try k_fold))
      k_steps
      all_goals exact turn_stay (by k_asm) (by k_asm) off6 (fun d hd => by rw [hd6] at hd; cases hd; exact hdu6)
    · have hnm6 : dueT y6 a6 b6 c6 q6 = Str.ofString "name" := (hfd6 hdu6).trans hw
      k_with "call ref" => (k_here; (with_reducible show wpAny _ _ (call (Value.ref 164) _) _ _ _); k_dflt (refine' Mine.Cr.use (Mine.c_chk_name _ _ _ _ _ _ _ _ _ _ _ _ _ _ _ _ hy6 hoy6 (Mine.dueT_isname hnm6)) (hp := ?kP) (raise := fun e9 s9 R9 => Mine.RaisesAt.less (Mine.RaisesS.toA R9) (by first | exact fun _ h => h | (intro p9 hp9; (repeat (first | exact hp9 | refine List.Mem.tail _ ?_))))); (case kP => (show _ ∈ _; (repeat (first | exact qm6 | refine List.Mem.tail _ ?_))))))
      k_steps

end Mine
namespace Mine
theorem c_read_letter (w : World) (mean : ExcName → Option Value) (mg mb : Str → Option Value) (x : Str) (tx : Tok) (hx : x.length ≤ 4200) (ho : PyData.strOk x = true) (hb : ¬ badT x) (hw : wordD (lettersOf x) = Str.ofString "letter") :
    Cr PySem.Challenge.rw_uf050027_12.row.prog w (k12.heap_1 w.params) vw12 (looseW vw12 []) mean mg mb 181 16 [.str x tx] (fun _ _ => True) 49 := by
  unfold Cr
  k_fill
  w_top off
  intro dp un gd cn cs a ccd cl outer A₀ base h₀ L m news s Q E B F X N T hk hd hu hP hraise
  have hgl := good_last hb
  refine wpAny_call ?_
  k_dflt cell_enter
  (rename Fr h₀ L _ m => FG9)
  k_with_none
  k_with "call builtin:str.split" => (k_here; (with_reducible show wpAny _ _ (call (Value.builtin "str.split") [Value.str _ _, Value.str _ _]) _ _ _); k_dflt (refine' Mine.split_rows ?sF ?sN ?sz ?_; (case sF => k_asm); (case sN => k_asm); (case sz => omega)); intro D8 l8 z8 tz8 h8 k8 e8 ez8 hz8 F8 N8 l1; (try k_lt l1); (try dsimp only); (try k_fold))
  k_with "call builtin:list.pop" => (k_here; (with_reducible show wpAny _ _ (call (Value.builtin _) [Value.ref _]) _ _ _); k_dflt (refine' kl_pop (p := strValues l8) (y := Value.str z8 tz8) ?F ?N ?e ?U ?z ?_; (case F => k_asm); (case N => k_asm); (case U => k_upd); (case e => exact kpa_last _ _); (case z => (show (strValues l8 ++ [Value.str z8 tz8]).length ≤ _; rw [List.length_append, Mine.strValues_len, sizeLine_eq]; simp only [List.length_singleton]; omega))); intro h' F' N'; (try dsimp only); (try k_fold))
  k_with "compareOp NotEq str str" => (k_here; (with_reducible show wpAny _ _ (compareOp CmpOp.NotEq (Value.str _ _) (Value.str _ _)) _ _ _); k_dflt (refine Mine.ne_split (fun hsm => ?_) (fun hsm => absurd (show Mine.Same z8 (Str.ofString "") from ez8.trans hgl) hsm)) <;> (try dsimp only))
  k_with "exec Assign cons ListComp" => (k_here; k_dflt (refine Mine.Assign_ListComp_V (by k_asm) (by rfl) (by with_unfolding_all rfl) (by with_unfolding_all rfl) (by decide) (by rfl) (by decide) (by rfl) (by rfl) (by rfl) ?_))
  k_steps
  (rename News _ _ _ _ => kN8)
  k_dflt (refine SrcU.ledger (by rfl) (by k_asm) kN8 (.head _) (by rw [List.size_toArray, strValues_len, sizeLine_eq]; omega) ?_)
  intro g9
  refine rest_exact [] (lettersOf x) (letters_len e8) (fun nw hs => .inr ⟨_, hs _ (.head _), rfl, _, rfl⟩) ?_ ?_
  · intro i7 d7 v7 ys7 nw7 I7 oI7 C7 oC7 D7 m7 h7 tk7 E7 hd7 hv7 hs7 hC7 hx7 F7 N7 off7 ne7
    obtain ⟨r7, t7, rfl, hr7⟩ := strs_nth e8 (by simpa using hv7)
    have e7 := let_nth hr7 hd7
    subst e7
    have hk7 := row_short hx hr7
    have ho7 := row_strOk ho hr7
    have hg7 := good_rows hb hr7
    k_with "call ref" => (k_here; (with_reducible show wpAny _ _ (call (Value.ref 176) _) _ _ _); k_dflt (refine' Mine.Cm.use (Mine.c_let_ok _ _ _ _ _ _ hk7 ho7 hg7) (hp := trivial) (ret := ?_)); intro r9 ad9 h9 tk9 ho9 hn9 F9 N9; (try dsimp only); (try k_fold))
    clear kN8
    k_steps
    all_goals exact turn_ex (by k_asm) (by k_asm) off7 hn9 ho9
  · intro ys7 ad7 hap7 hD7
    intro D7 h7 tk7 F7 N7 o7
    rw [List.append_nil] at hD7
    clear kN8
    have hl7 := hD7.length
    have hz7 : (lettersOf x).length ≤ 5000 := by rw [letters_len e8, List.size_toArray, strValues_len]; omega
    k_with_none
    k_with "eval ListComp" => (k_here; k_dflt (refine Mine.ListComp_X (base := base) (K := 49) (by k_asm) (by rfl) (by rfl) (by with_unfolding_all rfl) (by decide) (by rfl) (by decide) (by rfl) ?_))
    k_steps
    (rename News _ _ _ _ => kN8)
    k_dflt (refine SrcX.ledger (by rfl) (by k_asm) kN8 (.head _) (by rw [List.size_toArray, hl7, sizeLine_eq]; omega) ?_)
    intro g6
    refine restX_list (fun i => ∀ d, (lettersOf x)[i]? = some d → dueD d = Str.ofString "") (fun nw hs => .inr ⟨_, hs _ (.head _), rfl, _, rfl⟩) ?_ (fun e9 s9 R9 => cr_on hraise rfl (by assumption) R9 FG9 (by (intro p9 hp9; (repeat (first | exact hp9 | refine List.Mem.tail _ ?_ | refine List.mem_append.mpr (.inr ?_)))))) (by rw [hl7]; exact wordD_mem hw (by decide))
    intro i6 v6 ys6 nw6 I6 oI6 C6 oC6 D6 m6 h6 tk6 hv6 hs6 hp6 hC6 hx6 F6 N6 off6 ne6
    obtain ⟨d6, hd6, hm6, hI6⟩ := dat_at hD7 (i := i6) hv6
    have hfd6 := first_due hd6 hp6
    obtain ⟨y6, a6, b6, c6, q6, rfl, hy6, hoy6, _⟩ := letT_of hx ho hb hd6
    obtain ⟨A6, n6, t06, t16, t26, t36, t46, rfl, hmA6⟩ := dat_letter hI6
    have qm6 := hs6 _ (.tail _ (List.mem_append.mpr (.inl hmA6)))
    clear kN8
    k_with_none
    by_cases hdu6 : dueT y6 a6 b6 c6 q6 = Str.ofString ""
    · k_with "call ref" => (k_here; (with_reducible show wpAny _ _ (call (Value.ref 164) _) _ _ _); k_dflt (refine' Mine.Cv.use (Mine.c_chk_ok _ _ _ _ _ _ _ _ _ _ _ _ _ _ _ _ hy6 hoy6 hdu6) (hp := ?kP) (ret := ?_); (case kP => (show _ ∈ _; (repeat (first | exact qm6 | refine List.Mem.tail _ ?_))))); intro r9 h9 tk9 ho9 F9 N9; k_dflt (subst ho9); (try dsimp only); (try k_fold))
      k_steps
      all_goals exact turn_stay (by k_asm) (by k_asm) off6 (fun d hd => by rw [hd6] at hd; cases hd; exact hdu6)
    · have hnm6 : dueT y6 a6 b6 c6 q6 = Str.ofString "letter" := (hfd6 hdu6).trans hw
      k_with "call ref" => (k_here; (with_reducible show wpAny _ _ (call (Value.ref 164) _) _ _ _); k_dflt (refine' Mine.Cr.use (Mine.c_chk_letter _ _ _ _ _ _ _ _ _ _ _ _ _ _ _ _ hy6 hoy6 (Mine.dueT_isletter hnm6) hnm6) (hp := ?kP) (raise := fun e9 s9 R9 => Mine.RaisesAt.less (Mine.RaisesS.toA R9) (by first | exact fun _ h => h | (intro p9 hp9; (repeat (first | exact hp9 | refine List.Mem.tail _ ?_))))); (case kP => (show _ ∈ _; (repeat (first | exact qm6 | refine List.Mem.tail _ ?_))))))
      k_steps

end Mine
namespace Mine
theorem c_due (w : World) (mean : ExcName → Option Value) (mg mb : Str → Option Value) (x : Str) (tx : Tok) (hx : x.length ≤ 4200) (ho : PyData.strOk x = true) :
    Cm PySem.Challenge.rw_uf050027_12.row.prog w (k12.heap_1 w.params) vw12 (looseW vw12 []) mean mg mb 280 16 [.str x tx] (fun _ _ => True) (DueOut x) := by
  unfold Cm
  k_fill
  w_top off
  intro dp un gd cn cs a ccd cl outer A₀ base h₀ L m news s Q E B F X N T hk hd hu hP hret
  refine wpAny_call ?_
  k_dflt cell_enter
  k_with_none
  k_with "call builtin:str.split" => (k_here; (with_reducible show wpAny _ _ (call (Value.builtin "str.split") [Value.str _ _, Value.str _ _]) _ _ _); k_dflt (refine' Mine.split_rows ?sF ?sN ?sz ?_; (case sF => k_asm); (case sN => k_asm); (case sz => omega)); intro D8 l8 z8 tz8 h8 k8 e8 ez8 hz8 F8 N8 l1; (try k_lt l1); (try dsimp only); (try k_fold))
  k_with "subscriptTail Name Slice ref ref" => (k_here; (with_reducible show wpAny _ _ (subscriptTail _ _ (Value.ref _) (Value.ref _)) _ _ _); k_dflt (refine' Mine.rows_cut ?F ?N ?m ?z ?_ ?s ?g; (case F => k_asm); (case N => k_asm); (case m => exact List.Mem.head _); (case z => (rw [Mine.strValues_len]; omega)); (case s => with_unfolding_all rfl); (case g => (intro _; with_unfolding_all rfl))); intro D6 h6 F6 N6 l1; (try k_lt l1); (try dsimp only); (try k_fold))
  k_with "exec Assign cons ListComp" => (k_here; k_dflt (refine Mine.Assign_ListComp_V (by k_asm) (by rfl) (by with_unfolding_all rfl) (by with_unfolding_all rfl) (by decide) (by rfl) (by decide) (by rfl) (by rfl) (by rfl) ?_))
  k_steps
  (rename News _ _ _ _ => kN8)
  k_dflt (refine SrcU.ledger (by rfl) (by k_asm) kN8 (.head _) (by rw [List.size_toArray, strValues_len, sizeLine_eq]; omega) ?_)
  intro g9
  refine rest_exact [] (lettersOf x) (letters_len e8) (fun nw hs => .inr ⟨_, hs _ (.head _), rfl, _, rfl⟩) ?_ ?_
  · intro i7 d7 v7 ys7 nw7 I7 oI7 C7 oC7 D7 m7 h7 tk7 E7 hd7 hv7 hs7 hC7 hx7 F7 N7 off7 ne7
    obtain ⟨r7, t7, rfl, hr7⟩ := strs_nth e8 (by simpa using hv7)
    have e7 := let_nth hr7 hd7
    subst e7
    have hk7 := row_short hx hr7
    have ho7 := row_strOk ho hr7
    k_with "call ref" => (k_here; (with_reducible show wpAny _ _ (call (Value.ref 275) _) _ _ _); k_dflt (refine' Mine.Cm.use (Mine.c_lletter _ _ _ _ _ _ hk7 ho7) (hp := trivial) (ret := ?_)); intro r9 ad9 h9 tk9 ho9 hn9 F9 N9; (try dsimp only); (try k_fold))
    clear kN8
    k_steps
    all_goals exact turn_ex (by k_asm) (by k_asm) off7 hn9 ho9
  · intro ys7 ad7 hap7 hD7
    intro D7 h7 tk7 F7 N7 o7
    rw [List.append_nil] at hD7
    clear kN8
    have hl7 := hD7.length
    have hz7 : (lettersOf x).length ≤ 5000 := by rw [letters_len e8, List.size_toArray, strValues_len]; omega
    k_with "compareOp NotEq str str" => (k_here; (with_reducible show wpAny _ _ (compareOp CmpOp.NotEq (Value.str _ _) (Value.str _ _)) _ _ _); k_dflt (refine Mine.ne_split (fun hsm => ?_) (fun hsm => ?_)) <;> (try dsimp only))
    k_with "subscriptTail Name UnaryOp ref int" => (k_here; (with_reducible show wpAny _ _ (subscriptTail _ _ (Value.ref D8) (Value.int _ _)) _ _ _); (rename News _ _ _ _ => kN9); k_dflt (refine' Mine.rows_last kN9 ?m ?_ ?s; (case m => (repeat (first | exact List.Mem.head _ | refine List.Mem.tail _ ?_ | refine List.mem_append.mpr (.inr ?_)))); (case s => with_unfolding_all rfl)))
    k_with "compareOp In none ref" => (k_here; (with_reducible show wpAny _ _ (compareOp CmpOp.In Value.none (Value.ref _)) _ _ _); (rename News _ _ _ _ => kN9); k_dflt (refine' Mine.in_split kN9 (List.Mem.head _) hD7 ?sa (Mine.letters_kqd ho) ?ni7 (fun hin => ?_) (fun hin => ?_); (case sa => exact fun p hp => List.Mem.tail _ (List.mem_append.mpr (.inl hp))); (case ni7 => first | ke_room | ktr_units)) <;> (try dsimp only))
    k_with "exec For Tuple Name cons nil" => (k_here; (rename Fr _ _ _ _ => lF'); (with_unfolding_all refine' For_turns lF' ?_; k_whole))
    k_steps
    all_goals try (refine due_pair (ad := ad7) hret (by k_asm) (by k_asm) ?_ ?_ (And.right (And.right (by assumption))) (And.right (by assumption)) (wordT_bad (by first | exact bad_last ez8 (by assumption) | exact .inr (by assumption))) (by decide) <;> (intro p9 hp9; (repeat (first | exact hp9 | refine List.Mem.tail _ ?_ | refine List.mem_append.mpr (.inr ?_)))))
    have hb := not_bad ez8 hsm hin
    k_dflt (refine' Mine.loop_listD (σ := Unit) (fun _ => []) [Str.ofString "_law_name", Str.ofString "_law_sent", Str.ofString "_law_back", Str.ofString "_law_low", Str.ofString "_law_high", Str.ofString "_law_wrong"] (fun pre _ => ∀ d ∈ pre, dueD d = Str.ofString "") () (hD7.mono fun p hp => List.Mem.tail _ (List.mem_append.mpr (.inl hp))) (by rfl) lF' kN9 (List.Mem.head _) rfl rfl (List.forall_mem_nil _) (fun _ h => nomatch h) ?_ ?_)
    (all_goals (clear lF'))
    · intro pre8 d8 post8 v8 c8 u8 I8 o8 h8 tk8 el8 hd8 hI8 hP8 hne8 ho8 F8 N8
      obtain ⟨y8, a8, b8, cc8, q8, rfl, hy8, hoy8, hna8, hnb8, hnc8, hnd8⟩ := letT_mem hx ho hb hd8
      obtain ⟨A8, n8, t08, t18, t28, t38, t48, rfl, hmA8⟩ := dat_letter hI8
      clear kN9
      k_with "exec Assign cons ListComp" => (k_here; k_dflt (refine Mine.Assign_ListComp_ST (by k_asm) (by rfl) (by with_unfolding_all rfl) (by with_unfolding_all rfl) (by decide) (by rfl) (by decide) (by rfl) (by rfl) (by rfl) ?_))
      k_with "call builtin:max" => (k_here; (with_reducible show wpAny _ _ (call (Value.builtin _) [Value.int _ _, Value.int _ _, Value.int _ _, Value.int _ _]) _ _ _); k_dflt (refine' Mine.max_four ?h ?F ?N ?_; (case h => rfl); (case F => k_asm); (case N => k_asm)); intro h3 M3 tM3 kM3 FM3 NM3 aM3 bM3; (have aM4 := Mine.four_or aM3); (have bM4 := Mine.four_le bM3); clear aM3 bM3; (try dsimp only); (try k_fold))
      k_with "SrcS" => (k_dflt (refine Mine.SrcS.intro (by rfl) (by k_asm) (by k_asm) (by rw [sizeLine_eq]; omega) ?_); intro g9; refine Mine.signs_filter (Mine.inT Mine.SMALL) (by assumption) ?_ ?_)
      k_with "compareOp NotEq ref ref" => (k_here; (with_reducible show wpAny _ _ (compareOp CmpOp.NotEq (Value.ref _) (Value.ref _)) _ _ _); k_dflt (refine' Mine.ne_nil ?N ?a ?b ?c ?d ?f ?g ?i ?l ?n ?_; (case N => k_asm); (case a => k_mem); (case b => rfl); (case c => rfl); (case d => with_reducible assumption); (case f => k_mem); (case g => rfl); (case i => rfl); (case l => assumption); (case n => first | ke_room | ((simp only [units_in1, units_deeper, Around.mark_units, cLine] at *); omega) | (show _ + 64 < _; omega)); k_whole))
      k_with "binaryOp Pow int int" => (k_here; (first | (with_reducible refine Mine.pow24 ?_) | (with_reducible refine Mine.pow12 ?_)))
      k_with "LoopTurn" => (with_reducible refine Mine.LoopTurn.ret ?_)
      k_steps
      all_goals first | (refine CompTurn.intro (by k_asm) (by k_asm) _ ?cS ?cO trivial (by first | exact ⟨rfl, ⟨_, rfl⟩, inT_no (by assumption)⟩ | exact ⟨rfl, inT_yes (by assumption)⟩); (case cS => first | exact fun _ h => h | kst_inAny); (case cO => assumption)) | (refine' due_pair (ad := ad7) hret ?dN ?dF ?dr ?ds ?dT ?dD (due_at hb el8 hP8 (show _ = dueT y8 a8 b8 cc8 q8 from dueT_name (nameOk_len (by omega))) (by decide)) (by decide); (case dN => k_asm); (case dF => k_asm); (case dT => (first | exact And.right (by assumption) | exact And.right (And.right (by assumption)) | exact And.right (And.right (And.right (by assumption))) | exact And.right (And.right (And.right (And.right (by assumption)))) | exact And.right (And.right (And.right (And.right (And.right (by assumption))))) | exact And.right (And.right (And.right (And.right (And.right (And.right (by assumption)))))) | exact And.right (And.right (And.right (And.right (And.right (And.right (And.right (by assumption))))))))); (case dD => (first | exact And.right (by assumption) | exact And.right (And.right (by assumption)) | exact And.right (And.right (And.right (by assumption))) | exact And.right (And.right (And.right (And.right (by assumption)))) | exact And.right (And.right (And.right (And.right (And.right (by assumption))))) | exact And.right (And.right (And.right (And.right (And.right (And.right (by assumption)))))) | exact And.right (And.right (And.right (And.right (And.right (And.right (And.right (by assumption))))))))); (case dr => (intro p9 hp9; (repeat (first | exact hp9 | refine List.Mem.tail _ ?_ | refine List.mem_append.mpr (.inr ?_))))); (case ds => (intro p9 hp9; (repeat (first | exact hp9 | refine List.Mem.tail _ ?_ | refine List.mem_append.mpr (.inr ?_)))))) | (refine' due_pair (ad := ad7) hret ?dN ?dF ?dr ?ds ?dT ?dD (due_at hb el8 hP8 (show _ = dueT y8 a8 b8 cc8 q8 from dueT_name (nameOk_sign (by assumption) (by assumption))) (by decide)) (by decide); (case dN => k_asm); (case dF => k_asm); (case dT => (first | exact And.right (by assumption) | exact And.right (And.right (by assumption)) | exact And.right (And.right (And.right (by assumption))) | exact And.right (And.right (And.right (And.right (by assumption)))) | exact And.right (And.right (And.right (And.right (And.right (by assumption))))) | exact And.right (And.right (And.right (And.right (And.right (And.right (by assumption)))))) | exact And.right (And.right (And.right (And.right (And.right (And.right (And.right (by assumption))))))))); (case dD => (first | exact And.right (by assumption) | exact And.right (And.right (by assumption)) | exact And.right (And.right (And.right (by assumption))) | exact And.right (And.right (And.right (And.right (by assumption)))) | exact And.right (And.right (And.right (And.right (And.right (by assumption))))) | exact And.right (And.right (And.right (And.right (And.right (And.right (by assumption)))))) | exact And.right (And.right (And.right (And.right (And.right (And.right (And.right (by assumption))))))))); (case dr => (intro p9 hp9; (repeat (first | exact hp9 | refine List.Mem.tail _ ?_ | refine List.mem_append.mpr (.inr ?_))))); (case ds => (intro p9 hp9; (repeat (first | exact hp9 | refine List.Mem.tail _ ?_ | refine List.mem_append.mpr (.inr ?_)))))) | (refine' due_pair (ad := ad7) hret ?dN ?dF ?dr ?ds ?dT ?dD (due_at hb el8 hP8 (show _ = dueT y8 a8 b8 cc8 q8 from dueT_l (nameOk_yes (by omega) (by omega) (by assumption) (by assumption)) (by (have p12 : (10 : Int) ^ Int.toNat 12 = 1000000000000 := by decide +kernel); omega)) (by decide)) (by decide); (case dN => k_asm); (case dF => k_asm); (case dT => (first | exact And.right (by assumption) | exact And.right (And.right (by assumption)) | exact And.right (And.right (And.right (by assumption))) | exact And.right (And.right (And.right (And.right (by assumption)))) | exact And.right (And.right (And.right (And.right (And.right (by assumption))))) | exact And.right (And.right (And.right (And.right (And.right (And.right (by assumption)))))) | exact And.right (And.right (And.right (And.right (And.right (And.right (And.right (by assumption))))))))); (case dD => (first | exact And.right (by assumption) | exact And.right (And.right (by assumption)) | exact And.right (And.right (And.right (by assumption))) | exact And.right (And.right (And.right (And.right (by assumption)))) | exact And.right (And.right (And.right (And.right (And.right (by assumption))))) | exact And.right (And.right (And.right (And.right (And.right (And.right (by assumption)))))) | exact And.right (And.right (And.right (And.right (And.right (And.right (And.right (by assumption))))))))); (case dr => (intro p9 hp9; (repeat (first | exact hp9 | refine List.Mem.tail _ ?_ | refine List.mem_append.mpr (.inr ?_))))); (case ds => (intro p9 hp9; (repeat (first | exact hp9 | refine List.Mem.tail _ ?_ | refine List.mem_append.mpr (.inr ?_)))))) | (refine' LoopTurn.still () ?lF ?lN ?lI ?lS ?lO ?lK ?lR ?lP; (case lF => k_asm); (case lN => k_asm); (case lI => (repeat (first | exact List.Mem.head _ | refine List.Mem.tail _ ?_))); (case lS => (intro p9 hp9; (repeat (first | exact hp9 | refine List.Mem.tail _ ?_)))); (case lO => exact hne8); (case lK => exact List.forall_mem_nil _); (case lR => (intro z h2 h3; (simp only [List.contains_cons, List.contains_nil, Bool.or_false, Bool.or_eq_false_iff, beq_eq_false_iff_ne, ne_eq] at h3); first | (simp [h3, kstB]; done))); (case lP => exact due_snoc hP8 (dueT_e (nameOk_yes (by omega) (by omega) (by assumption) (by assumption)) (by (have p12 : (10 : Int) ^ Int.toNat 12 = 1000000000000 := by decide +kernel); omega)).symm))
    · intro c8 u8 h8 tk8 hP8 F8 N8
      clear kN9
      k_steps
      all_goals (refine due_good (ad := ad7) hret (by k_asm) (by k_asm) (List.Mem.head _) (List.Mem.tail _ (List.Mem.head _)) ?_ ?_ (And.right (by assumption)) o7 hap7 hD7 (due_all hb hP8) <;> (intro p9 hp9; (repeat (first | exact hp9 | refine List.Mem.tail _ ?_ | refine List.mem_append.mpr (.inr ?_)))))

end Mine
namespace Mine
section
open PySem PySem.W PyProof.Rows PySem.Spec PySem.Calls
noncomputable def ExcAt (x D : Addr) (h : Heap) : Prop := ∃ ox : Obj, h.get? x = some ox ∧ ox.cls = .ref D
theorem ExcAt.type {x D : Addr} {M : Model} {h : Heap} (I : ExcAt x D h) : Looks M h (typeOf (.ref x)) (.ref D) := by
  obtain ⟨ox, hx, hc⟩ := I
  exact hc ▸ (Looks.ld hx).andThen .now
variable {prog : Program} {w : World} {A : Around} {E : Value → Shared → Prop} {s : Shared} {K : Frag} {x D : Addr}
theorem exc_find {M : Model} {h : Heap} (X : K.In h) (ha : findIn K (.ref D) "__class__" = some (some (.builtin "object.__class__"))) (hn : specialIn K (.builtin "object.__class__") "__get__" = some (some (.builtin "getset_descriptor.__get__")))
    (htk : takesIn K (.builtin "object.__class__") = some true) : Looks M h (Builtin.ObjectAttr.find (.ref x) (.ref D) "__class__") (.bind (.builtin "getset_descriptor.__get__") (.builtin "object.__class__")) := by
  have L1 := looks_findIn (M := M) X ha
  have L2 : Looks M h (Builtin.ObjectAttr.getOf (some (.builtin "object.__class__"))) (some (.builtin "getset_descriptor.__get__")) := looks_specialIn X hn
  have L3 := looks_takesIn (M := M) X htk
  exact L1.andThen (L2.andThen ((show Looks M h (Builtin.ObjectAttr.dataDescriptor? (some (.builtin "object.__class__")) (some (.builtin "getset_descriptor.__get__"))) (some (.builtin "getset_descriptor.__get__", .builtin "object.__class__")) from L3.andThen .now).andThen (Looks.tag .now)))
theorem exc_classGet {R : Result → Shared → Prop} {tp : Value} (X : K.In s.heap) (I : ExcAt x D s.heap) (hm : mroIn K D (.type "object") = some true)
    (h : R (.ok (.ret (.ref D))) s) : codeAny (model prog w) A (.call (.builtin "getset_descriptor.__get__") ⟨[.builtin "object.__class__", .ref x, tp], []⟩) R s := by
  obtain ⟨hh, g, dr, t, os⟩ := s
  have L0 := I.type (M := model prog w)
  have L1 := looks_mroIn (M := model prog w) X hm
  refine codeAny_call_builtin KF.slot_gs.plain KF.entry_gs (KF.slot_gs.check _ _ _ _ _ _ _ _ KF.type_class (KF.args_gs _ _ _) ?_)
  unfold Builtin.«getset_descriptor.__get__» Builtin.Getset_descriptor.descrGet
  rw [dga_obj]
  refine wpAny_bind (wpAny_pure ?_)
  unfold Builtin.Getset_descriptor.descrGetter Builtin.Getset_descriptor.descrCheckInstance Builtin.Getset_descriptor.descrNameAndClass isInstance
  simp only [KF.owner_class]
  repeat lk
  refine ⟨Code.quiet_builtin _ (by decide +kernel), codeAny_builtin KF.entry_class ?_⟩
  unfold Builtin.«object.__class__» shownTypeOf
  repeat lk
  exact h
theorem exc_entry {tk : Tok} {Q : Fin → Shared → Prop} (X : K.In s.heap) (I : ExcAt x D s.heap)
    (ha : findIn K (.ref D) "__class__" = some (some (.builtin "object.__class__"))) (hn : specialIn K (.builtin "object.__class__") "__get__" = some (some (.builtin "getset_descriptor.__get__"))) (htk : takesIn K (.builtin "object.__class__") = some true)
    (hm : mroIn K D (.type "object") = some true) (h : Q (.done (.ret (.ref D))) s) :
    wpAny (model prog w) A (Builtin.«object.__getattribute__» ⟨[.ref x, .str "__class__" tk], []⟩) Q E s := by
  obtain ⟨hh, g, d, t, os⟩ := s
  have L0 := I.type (M := model prog w)
  have L1 := exc_find (x := x) (M := model prog w) X ha hn htk
  unfold Builtin.«object.__getattribute__»
  repeat lk
  show wpAny _ _ (run (.call (.builtin "getset_descriptor.__get__") ⟨[.builtin "object.__class__", .ref x, .ref D], []⟩)) _ _ _
  refine wpAny_run (exc_classGet X I hm ?_)
  show wpAny _ _ (pure (Value.ref D)) _ _ _
  exact wpAny_pure (wpAny_pure h)
theorem exc_check {tk : Tok} {Q : Unit → Shared → Prop} (X : K.In s.heap) (I : ExcAt x D s.heap) (hb : mroIn K D (.type "BaseException") = some true) (h : Q () s) :
    wpAny (model prog w) A (checkBuiltinCall "BaseException.__getattribute__" ⟨[.ref x, .str "__class__" tk], []⟩) Q E s := by
  obtain ⟨hh, g, d, t, os⟩ := s
  have L0 := I.type (M := model prog w)
  have L1 := looks_mroIn (M := model prog w) X hb
  have hk : builtinKind "BaseException.__getattribute__" = some .slot := by decide +kernel
  have hsplit : splitId "BaseException.__getattribute__" = some ("BaseException", "__getattribute__") := by decide +kernel
  have ha := F.args_bexc_ga (.ref x) (.str "__class__" tk)
  simp only [checkBuiltinCall, hk, hsplit]
  unfold isInstance
  repeat lk
  exact h
theorem exc_class {Q : Option Value → Shared → Prop} (X : K.In s.heap) (I : ExcAt x D s.heap) (hga : findIn K (.ref D) "__getattribute__" = some (some (.builtin "BaseException.__getattribute__"))) (hgt : findIn K (.ref D) "__getattr__" = some none)
    (ha : findIn K (.ref D) "__class__" = some (some (.builtin "object.__class__"))) (hn : specialIn K (.builtin "object.__class__") "__get__" = some (some (.builtin "getset_descriptor.__get__"))) (htk : takesIn K (.builtin "object.__class__") = some true)
    (hm : mroIn K D (.type "object") = some true) (hb : mroIn K D (.type "BaseException") = some true)
    (h : Q (some (.ref D)) { s with toks := s.toks + 1 }) : wpAny (model prog w) A (getAttr? (.ref x) "__class__") Q E s := by
  obtain ⟨hh, g, d, t, os⟩ := s
  have L0 := I.type (M := model prog w)
  have L1 := looks_findIn (M := model prog w) X hga
  have L2 := looks_findIn (M := model prog w) X hgt
  unfold getAttr? getAttrBy? getAttrBy
  refine wpAny_bind (wpAny_mkText (wpAny_bind (wpAny_attempt (wpAny_holding (wpAny_bind (L0.at (wpAny_bind (L1.at ?_))))))))
  show wpAny _ _ (getAttrByItsOwn _ _ _ _ _ _) _ _ _
  unfold getAttrByItsOwn hookBefore
  refine wpAny_bind (L2.at (wpAny_bind (wpAny_attempt (wpAny_holding ?_))))
  show wpAny _ _ (boundAndCalled _ _ _) _ _ _
  unfold boundAndCalled
  have hbs : bindSpecial (.builtin "BaseException.__getattribute__") (.ref x) = pure (.builtin "BaseException.__getattribute__", [.ref x]) := by
    have hop : withoutEnding? "BaseException.__getattribute__" "#opaque" = none := by decide +kernel
    have hdat : withoutEnding? "BaseException.__getattribute__" "#data" = none := by decide +kernel
    have hk : builtinKind "BaseException.__getattribute__" = some .slot := by decide +kernel
    simp only [bindSpecial, typeOf, builtinType, hop, hdat, hk]; rfl
  rw [hbs]
  have hpl : plainId "BaseException.__getattribute__" = true := by decide +kernel
  refine wpAny_bind (wpAny_pure (wpAny_call (codeAny_call_builtin hpl F.entry_bexc_ga (exc_check (s := ⟨hh, g, d, t + 1, os⟩) X I hb (exc_entry (s := ⟨hh, g, d, t + 1, os⟩) X I ha hn htk hm ?_)))))
  show wpAny _ _ (handedOut (Value.ref D)) _ _ _
  exact handed_on rfl (wpAny_pure h)
theorem exc_kit (hga : findIn K (.ref D) "__getattribute__" = some (some (.builtin "BaseException.__getattribute__"))) (hgt : findIn K (.ref D) "__getattr__" = some none)
    (ha : findIn K (.ref D) "__class__" = some (some (.builtin "object.__class__"))) (hn : specialIn K (.builtin "object.__class__") "__get__" = some (some (.builtin "getset_descriptor.__get__"))) (htk : takesIn K (.builtin "object.__class__") = some true)
    (hcl : isClsIn K D = true) (hm : mroIn K D (.type "object") = some true) (hb : mroIn K D (.type "BaseException") = some true) :
    KitX K (.ref x) (.ref D) (ExcAt x D) where
  ty := fun M h X I => I.type
  it := fun M h X _ => by
    unfold isClsIn at hcl
    unfold clsIn at hcl
    split at hcl
    · rename_i c' d' cd' sl' ho
      intro A' Q' E' s' k q
      unfold isType loadHead
      exact wpAny_bind (wpAny_loadPart (k _ _ (X _ _ ho)) (wpAny_pure q))
    · cases hcl
  ne := fun h tp dd its n sl X htp => by
    unfold isClsIn at hcl
    unfold clsIn at hcl
    split at hcl
    · rename_i c' d' cd' sl' ho
      refine Bool.eq_false_iff.mpr fun q => ?_
      have e := Value.ref.inj (beq_iff_eq.mp q)
      have := X _ _ ho
      rw [e, htp] at this
      cases this
    · cases hcl
  ca := fun {_ _ _ _ _ s} X I h => exc_class X I hga hgt ha hn htk hm hb h
theorem exc_isi {Q : Value → Shared → Prop} {c : Value} {b : Bool} {h₀ : Heap} {L : Addr} {news : List (Addr × Obj)} {oe : Obj} (N : News h₀ L s.heap news) (he : (x, oe) ∈ news) (hc : oe.cls = .ref D) (X : K.In s.heap)
    (hga : findIn K (.ref D) "__getattribute__" = some (some (.builtin "BaseException.__getattribute__"))) (hgt : findIn K (.ref D) "__getattr__" = some none)
    (ha : findIn K (.ref D) "__class__" = some (some (.builtin "object.__class__"))) (hn : specialIn K (.builtin "object.__class__") "__get__" = some (some (.builtin "getset_descriptor.__get__"))) (htk : takesIn K (.builtin "object.__class__") = some true)
    (hcl : isClsIn K D = true) (hm : mroIn K D (.type "object") = some true) (hb : mroIn K D (.type "BaseException") = some true) (ee : kitOne K (.ref D) c = some b) (h : ∀ tk, Q (.bool b) { s with toks := tk }) :
    wpAny (model prog w) A (call (.builtin "isinstance") [.ref x, c]) Q E s :=
  kia_one (exc_kit hga hgt ha hn htk hcl hm hb) X ⟨oe, (N _ he).1, hc⟩ ee (by intro q; cases q) h
end
end Mine
namespace Mine
open PySem PySem.W PyProof.Rows
noncomputable def Ck (prog : Program) (w : World) (K : Frag) (p : Program) (loose : List Str) (mean : ExcName → Option Value) (mg mb : Str → Option Value) (f : Addr) (sz : Nat) (vs : List Value) (P : List (Addr × Obj) → Prop) (R : Tok → Value) : Prop :=
  ∀ (hdl : Option Value) (dp un : Nat) (gd : Option (List Code)) (cn : Str) (cs : Scope) (a : Addr) (ccd : Value) (cl : List (Str × Addr)) (outer : List Env) (A₀ : Around) (base h₀ : Heap) (L : Addr) (m : Str → Option Value) (news : List (Addr × Obj)) (s : Shared) (Q E : Value → Shared → Prop),
    Below A₀ base outer h₀ → Fr h₀ L s.heap m → K.In h₀ → News h₀ L s.heap news → Top p loose mean mg mb h₀ → cs.kind = .function → dp + sz < recursionLimit → un + 8 * sz < cLine → P news →
    (∀ (t : Tok) (h' : Heap) (tk' : Nat), Fr h₀ L h' m → News h₀ L h' news → Q (R t) { s with heap := h', toks := tk' }) →
    wpAny (model prog w) { ktrTop dp un gd cn cs L a ccd cl outer with handled := hdl } (call (.ref f) vs) Q E s
theorem Ck.use {prog : Program} {w : World} {K : Frag} {p : Program} {loose : List Str} {mean : ExcName → Option Value} {mg mb : Str → Option Value} {f : Addr} {sz : Nat} {vs : List Value} {P : List (Addr × Obj) → Prop} {R : Tok → Value} (C : Ck prog w K p loose mean mg mb f sz vs P R)
    {hdl : Option Value} {dp un : Nat} {gd : Option (List Code)} {cn : Str} {cs : Scope} {a : Addr} {ccd : Value} {cl : List (Str × Addr)} {outer : List Env} {A₀ : Around} {base h₀ : Heap} {L : Addr} {m : Str → Option Value} {news : List (Addr × Obj)} {s : Shared} {Q E : Value → Shared → Prop}
    (B : Below A₀ base outer h₀ := by k_asm) (F : Fr h₀ L s.heap m := by k_asm) (X : K.In h₀ := by k_asm) (N : News h₀ L s.heap news := by k_asm) (T : Top p loose mean mg mb h₀ := by k_asm) (hk : cs.kind = .function := by first | exact rfl | assumption) (hd : dp + sz < recursionLimit := by first | assumption | omega | ktr_room) (hu : un + 8 * sz < cLine := by first | assumption | omega | ktr_units) (hp : P news := by first | trivial | k_mem)
    (ret : ∀ (t : Tok) (h' : Heap) (tk' : Nat), Fr h₀ L h' m → News h₀ L h' news → Q (R t) { s with heap := h', toks := tk' }) :
    wpAny (model prog w) { ktrTop dp un gd cn cs L a ccd cl outer with handled := hdl } (call (.ref f) vs) Q E s := C _ _ _ _ _ _ _ _ _ _ _ _ _ _ _ _ _ _ _ B F X N T hk hd hu hp ret
theorem ck_retS {h₀ h' : Heap} {L : Addr} {m : Str → Option Value} {news : List (Addr × Obj)} {s : Shared} {Q : Value → Shared → Prop} {t : Tok} {tk' : Nat} {x y : Str}
    (hret : ∀ (t : Tok) (h' : Heap) (tk' : Nat), Fr h₀ L h' m → News h₀ L h' news → Q (.str x t) { s with heap := h', toks := tk' }) (e : y = x) (F : Fr h₀ L h' m) (N : News h₀ L h' news) : Q (.str y t) { s with heap := h', toks := tk' } := by
  subst e
  exact hret t h' tk' F N
end Mine
namespace Mine
section
open PySem PySem.W PyProof.Rows PySem.SeqAt
variable {prog : Program} {w : World} {A : Around} {E : Value → Shared → Prop} {s : Shared}
noncomputable def isB : Value → Bool
  | .bool _ => true
  | _ => false
noncomputable def isT : Value → Bool
  | .bool b => b
  | _ => false
theorem isT_eq {v : Value} (h : isB v = true) (A : Around) (s : Shared) : EqAt A s v (.bool true) (isT v) := by
  cases v <;> first | (rename_i b; have e := EqAt.bool_bool (A := A) (s := s) b true; cases b <;> exact e) | cases h
theorem count_true {l : Addr} {vs : List Value} {n : Nat} {Q : Value → Shared → Prop} (hl : s.heap.IsList l vs.toArray) (hb : vs.all isB = true) (hn : vs.countP isT = n) {z : Int} (hz : ((n : Nat) : Int) = z)
    (h : Q (.int z s.toks) { s with toks := s.toks + 1 }) : wpAny (model prog w) A (call (.builtin "list.count") [.ref l, .bool true]) Q E s := by
  subst hz
  subst hn
  obtain ⟨⟨cls, dd, data, sl⟩, ho, hc, n, hd⟩ := id hl
  simp only at hc hd
  subst hc hd
  exact call_meets PySem.F.slot_list_count ⟨_, ho, rfl⟩ PySem.F.entry_list_count (PySem.F.args_list_count_2 _ _) (list_countAt l vs.toArray n dd sl (.bool true) isT)
    ⟨ho, fun y hy => isT_eq (List.all_eq_true.mp hb y (by simpa using hy)) _ _, h⟩
noncomputable def firstT : List Value → Nat → Bool
  | [], _ => false
  | v :: _, 0 => isT v
  | v :: r, j + 1 => !isT v && firstT r j
theorem firstT_at : ∀ {vs : List Value} {j : Nat}, firstT vs j = true → ∃ hj : j < vs.length, isT vs[j] = true ∧ ∀ m (hm : m < vs.length), m < j → isT vs[m] = false
  | [], j, h => by cases j <;> cases h
  | v :: r, 0, h => ⟨Nat.succ_pos _, h, fun m _ hlt => absurd hlt (Nat.not_lt_zero _)⟩
  | v :: r, j + 1, h => by
    simp only [firstT, Bool.and_eq_true, Bool.not_eq_true'] at h
    obtain ⟨hj, h1, h2⟩ := firstT_at h.2
    refine ⟨Nat.succ_lt_succ hj, h1, fun m hm hlt => ?_⟩
    cases m with
    | zero => exact h.1
    | succ m => exact h2 m (Nat.lt_of_succ_lt_succ hm) (Nat.lt_of_succ_lt_succ hlt)
theorem index_true {l : Addr} {vs : List Value} {j : Nat} {Q : Value → Shared → Prop} (hl : s.heap.IsList l vs.toArray) (hb : vs.all isB = true) (hj : firstT vs j = true) (hs : j < 1000) {z : Int} (hz : ((j : Nat) : Int) = z)
    (h : Q (.int z s.toks) { s with toks := s.toks + 1 }) : wpAny (model prog w) A (call (.builtin "list.index") [.ref l, .bool true]) Q E s := by
  subst hz
  obtain ⟨⟨cls, dd, data, sl⟩, ho, hc, n, hd⟩ := id hl
  simp only at hc hd
  subst hc hd
  obtain ⟨hlt, h1, h2⟩ := firstT_at hj
  exact call_meets PySem.F.slot_list_index ⟨_, ho, rfl⟩ PySem.F.entry_list_index (PySem.F.args_list_index_2 _ _)
    (list_indexAt l vs.toArray n dd sl (.bool true) isT j (by simpa using hlt) (by omega) (by simpa using h1) (fun m hm hlt' => by simpa using h2 m (by simpa using hm) hlt')) ⟨ho, fun y hy => isT_eq (List.all_eq_true.mp hb y (by simpa using hy)) _ _, h⟩
end
end Mine
namespace Mine
theorem ite_nt {P Q : Prop} (h : Q) : if (!true) = true then P else Q := by simpa using h
theorem ite_nf {P Q : Prop} (h : P) : if (!false) = true then P else Q := by simpa using h
end Mine
namespace Mine
theorem ite_f {P Q : Prop} (h : Q) : if false = true then P else Q := by simpa using h
theorem ite_t {P Q : Prop} (h : P) : if true = true then P else Q := by simpa using h
end Mine
namespace Mine
theorem c_kind_text (w : World) (mean : ExcName → Option Value) (mg mb : Str → Option Value) (e : Addr) (oe : Obj) (hc : oe.cls = .ref 145) :
    Ck PySem.Challenge.rw_uf050027_12.row.prog w (k12.heap_1 w.params) vw12 (looseW vw12 []) mean mg mb 216 1 [.ref e] (fun news => (e, oe) ∈ news) (fun t => .str (Str.ofString "text") t) := by
  unfold Ck
  k_fill
  w_top off
  intro hdl dp un gd cn cs a ccd cl outer A₀ base h₀ L m news s Q E B F X N T hk hd hu he hret
  refine wpAny_call ?_
  k_dflt cell_enter
  k_with_none
  k_with "call builtin:isinstance" => (k_here; (with_reducible show wpAny _ _ (call (Value.builtin "isinstance") [Value.ref _, _]) _ _ _); k_dflt (refine' Mine.exc_isi ?N ?he ?hc ?X ?a1 ?a2 ?a3 ?a4 ?a5 ?a6 ?a7 ?a8 ?ee ?_; (case N => k_asm); (case hc => assumption); (case he => repeat (first | assumption | refine List.mem_cons_of_mem _ ?_)); (case X => k_in); (case a1 => k_is); (case a2 => k_is); (case a3 => k_is); (case a4 => k_is); (case a5 => k_is); (case a6 => k_is); (case a7 => k_is); (case a8 => k_is); (case ee => kit_is)); intro _)
  k_with "call builtin:list.count" => (k_here; (with_reducible show wpAny _ _ (call (Value.builtin _) [Value.ref _, Value.bool _]) _ _ _); k_dflt (refine' Mine.count_true (n := 1) ?k1 ?k2 ?k3 (z := 1) (by rfl) ?_; (case k1 => is_list); (case k2 => rfl); (case k3 => rfl)))
  k_with "call builtin:list.index" => (k_here; (with_reducible show wpAny _ _ (call (Value.builtin _) [Value.ref _, Value.bool _]) _ _ _); k_dflt (first | (refine' Mine.index_true (j := 0) ?k1 ?k2 ?k3 (by decide) (z := 0) (by rfl) ?_; (case k1 => is_list); (case k2 => rfl); (case k3 => rfl)) | (refine' Mine.index_true (j := 1) ?k1 ?k2 ?k3 (by decide) (z := 1) (by rfl) ?_; (case k1 => is_list); (case k2 => rfl); (case k3 => rfl)) | (refine' Mine.index_true (j := 2) ?k1 ?k2 ?k3 (by decide) (z := 2) (by rfl) ?_; (case k1 => is_list); (case k2 => rfl); (case k3 => rfl)) | (refine' Mine.index_true (j := 3) ?k1 ?k2 ?k3 (by decide) (z := 3) (by rfl) ?_; (case k1 => is_list); (case k2 => rfl); (case k3 => rfl)) | (refine' Mine.index_true (j := 6) ?k1 ?k2 ?k3 (by decide) (z := 6) (by rfl) ?_; (case k1 => is_list); (case k2 => rfl); (case k3 => rfl)) | (refine' Mine.index_true (j := 9) ?k1 ?k2 ?k3 (by decide) (z := 9) (by rfl) ?_; (case k1 => is_list); (case k2 => rfl); (case k3 => rfl))))
  k_with "ite" => ((with_reducible show ite ((!true) = true) _ _); refine Mine.ite_nt ?_)
  k_with "ite" => ((with_reducible show ite ((!false) = true) _ _); refine Mine.ite_nf ?_)
  k_with "ite" => ((with_reducible show ite (false = true) _ _); refine Mine.ite_f ?_)
  k_with "ite" => ((with_reducible show ite (true = true) _ _); refine Mine.ite_t ?_)
  k_steps
  all_goals (refine' ck_retS hret ?e2 ?e3 ?e4; (case e3 => k_asm); (case e4 => first | k_asm | (refine' cb_drop ?cbN ?cbS; (case cbN => assumption); (case cbS => kcj_all))); (case e2 => rfl))
theorem u_kind_text {w : World} {mean : ExcName → Option Value} {mg mb : Str → Option Value} {e t₁ : Addr} {n₂ : List (Addr × Obj)} {vs : List Value} (G : Got n₂ e t₁ (.ref 145) vs)
    {hdl : Option Value} {dp un : Nat} {gd : Option (List Code)} {cn : Str} {cs : Scope} {a : Addr} {ccd : Value} {cl : List (Str × Addr)} {outer : List Env} {A₀ : Around} {base h₀ : Heap} {L : Addr} {m : Str → Option Value} {news : List (Addr × Obj)} {s : Shared} {Q E : Value → Shared → Prop}
    (N₂ : News h₀ L s.heap n₂) (B : Below A₀ base outer h₀) (F : Fr h₀ L s.heap m) (X : (k12.heap_1 w.params).In h₀) (N : News h₀ L s.heap news) (T : Top vw12 (looseW vw12 []) mean mg mb h₀) (hk : cs.kind = .function) (hd : dp + 1 < recursionLimit) (hu : un + 8 * 1 < cLine)
    (ret : ∀ (t : Tok) (h' : Heap) (tk' : Nat), Fr h₀ L h' m → News h₀ L h' news → Q (.str (Str.ofString "text") t) { s with heap := h', toks := tk' }) :
    wpAny (model PySem.Challenge.rw_uf050027_12.row.prog w) { ktrTop dp un gd cn cs L a ccd cl outer with handled := hdl } (call (.ref 216) [.ref e]) Q E s := by
  obtain ⟨oe, ot, ws, nt, h1, _, hc, _⟩ := G
  exact (c_kind_text w mean mg mb e oe hc).use B F X (N₂.append N) T hk hd hu (List.mem_append.mpr (.inl h1)) fun t h' tk' F' N' => ret t h' tk' F' fun p hp => N' p (List.mem_append.mpr (.inr hp))
end Mine
namespace Mine
theorem c_kind_name (w : World) (mean : ExcName → Option Value) (mg mb : Str → Option Value) (e : Addr) (oe : Obj) (hc : oe.cls = .ref 37) :
    Ck PySem.Challenge.rw_uf050027_12.row.prog w (k12.heap_1 w.params) vw12 (looseW vw12 []) mean mg mb 216 1 [.ref e] (fun news => (e, oe) ∈ news) (fun t => .str (Str.ofString "name") t) := by
  unfold Ck
  k_fill
  w_top off
  intro hdl dp un gd cn cs a ccd cl outer A₀ base h₀ L m news s Q E B F X N T hk hd hu he hret
  refine wpAny_call ?_
  k_dflt cell_enter
  k_with_none
  k_with "call builtin:isinstance" => (k_here; (with_reducible show wpAny _ _ (call (Value.builtin "isinstance") [Value.ref _, _]) _ _ _); k_dflt (refine' Mine.exc_isi ?N ?he ?hc ?X ?a1 ?a2 ?a3 ?a4 ?a5 ?a6 ?a7 ?a8 ?ee ?_; (case N => k_asm); (case hc => assumption); (case he => repeat (first | assumption | refine List.mem_cons_of_mem _ ?_)); (case X => k_in); (case a1 => k_is); (case a2 => k_is); (case a3 => k_is); (case a4 => k_is); (case a5 => k_is); (case a6 => k_is); (case a7 => k_is); (case a8 => k_is); (case ee => kit_is)); intro _)
  k_with "call builtin:list.count" => (k_here; (with_reducible show wpAny _ _ (call (Value.builtin _) [Value.ref _, Value.bool _]) _ _ _); k_dflt (refine' Mine.count_true (n := 1) ?k1 ?k2 ?k3 (z := 1) (by rfl) ?_; (case k1 => is_list); (case k2 => rfl); (case k3 => rfl)))
  k_with "call builtin:list.index" => (k_here; (with_reducible show wpAny _ _ (call (Value.builtin _) [Value.ref _, Value.bool _]) _ _ _); k_dflt (first | (refine' Mine.index_true (j := 0) ?k1 ?k2 ?k3 (by decide) (z := 0) (by rfl) ?_; (case k1 => is_list); (case k2 => rfl); (case k3 => rfl)) | (refine' Mine.index_true (j := 1) ?k1 ?k2 ?k3 (by decide) (z := 1) (by rfl) ?_; (case k1 => is_list); (case k2 => rfl); (case k3 => rfl)) | (refine' Mine.index_true (j := 2) ?k1 ?k2 ?k3 (by decide) (z := 2) (by rfl) ?_; (case k1 => is_list); (case k2 => rfl); (case k3 => rfl)) | (refine' Mine.index_true (j := 3) ?k1 ?k2 ?k3 (by decide) (z := 3) (by rfl) ?_; (case k1 => is_list); (case k2 => rfl); (case k3 => rfl)) | (refine' Mine.index_true (j := 6) ?k1 ?k2 ?k3 (by decide) (z := 6) (by rfl) ?_; (case k1 => is_list); (case k2 => rfl); (case k3 => rfl)) | (refine' Mine.index_true (j := 9) ?k1 ?k2 ?k3 (by decide) (z := 9) (by rfl) ?_; (case k1 => is_list); (case k2 => rfl); (case k3 => rfl))))
  k_with "ite" => ((with_reducible show ite ((!true) = true) _ _); refine Mine.ite_nt ?_)
  k_with "ite" => ((with_reducible show ite ((!false) = true) _ _); refine Mine.ite_nf ?_)
  k_with "ite" => ((with_reducible show ite (false = true) _ _); refine Mine.ite_f ?_)
  k_with "ite" => ((with_reducible show ite (true = true) _ _); refine Mine.ite_t ?_)
  k_steps
  all_goals (refine' ck_retS hret ?e2 ?e3 ?e4; (case e3 => k_asm); (case e4 => first | k_asm | (refine' cb_drop ?cbN ?cbS; (case cbN => assumption); (case cbS => kcj_all))); (case e2 => rfl))
theorem u_kind_name {w : World} {mean : ExcName → Option Value} {mg mb : Str → Option Value} {e t₁ : Addr} {n₂ : List (Addr × Obj)} {vs : List Value} (G : Got n₂ e t₁ (.ref 37) vs)
    {hdl : Option Value} {dp un : Nat} {gd : Option (List Code)} {cn : Str} {cs : Scope} {a : Addr} {ccd : Value} {cl : List (Str × Addr)} {outer : List Env} {A₀ : Around} {base h₀ : Heap} {L : Addr} {m : Str → Option Value} {news : List (Addr × Obj)} {s : Shared} {Q E : Value → Shared → Prop}
    (N₂ : News h₀ L s.heap n₂) (B : Below A₀ base outer h₀) (F : Fr h₀ L s.heap m) (X : (k12.heap_1 w.params).In h₀) (N : News h₀ L s.heap news) (T : Top vw12 (looseW vw12 []) mean mg mb h₀) (hk : cs.kind = .function) (hd : dp + 1 < recursionLimit) (hu : un + 8 * 1 < cLine)
    (ret : ∀ (t : Tok) (h' : Heap) (tk' : Nat), Fr h₀ L h' m → News h₀ L h' news → Q (.str (Str.ofString "name") t) { s with heap := h', toks := tk' }) :
    wpAny (model PySem.Challenge.rw_uf050027_12.row.prog w) { ktrTop dp un gd cn cs L a ccd cl outer with handled := hdl } (call (.ref 216) [.ref e]) Q E s := by
  obtain ⟨oe, ot, ws, nt, h1, _, hc, _⟩ := G
  exact (c_kind_name w mean mg mb e oe hc).use B F X (N₂.append N) T hk hd hu (List.mem_append.mpr (.inl h1)) fun t h' tk' F' N' => ret t h' tk' F' fun p hp => N' p (List.mem_append.mpr (.inr hp))
end Mine
namespace Mine
theorem c_kind_letter (w : World) (mean : ExcName → Option Value) (mg mb : Str → Option Value) (e : Addr) (oe : Obj) (hc : oe.cls = .ref 49) :
    Ck PySem.Challenge.rw_uf050027_12.row.prog w (k12.heap_1 w.params) vw12 (looseW vw12 []) mean mg mb 216 1 [.ref e] (fun news => (e, oe) ∈ news) (fun t => .str (Str.ofString "letter") t) := by
  unfold Ck
  k_fill
  w_top off
  intro hdl dp un gd cn cs a ccd cl outer A₀ base h₀ L m news s Q E B F X N T hk hd hu he hret
  refine wpAny_call ?_
  k_dflt cell_enter
  k_with_none
  k_with "call builtin:isinstance" => (k_here; (with_reducible show wpAny _ _ (call (Value.builtin "isinstance") [Value.ref _, _]) _ _ _); k_dflt (refine' Mine.exc_isi ?N ?he ?hc ?X ?a1 ?a2 ?a3 ?a4 ?a5 ?a6 ?a7 ?a8 ?ee ?_; (case N => k_asm); (case hc => assumption); (case he => repeat (first | assumption | refine List.mem_cons_of_mem _ ?_)); (case X => k_in); (case a1 => k_is); (case a2 => k_is); (case a3 => k_is); (case a4 => k_is); (case a5 => k_is); (case a6 => k_is); (case a7 => k_is); (case a8 => k_is); (case ee => kit_is)); intro _)
  k_with "call builtin:list.count" => (k_here; (with_reducible show wpAny _ _ (call (Value.builtin _) [Value.ref _, Value.bool _]) _ _ _); k_dflt (refine' Mine.count_true (n := 1) ?k1 ?k2 ?k3 (z := 1) (by rfl) ?_; (case k1 => is_list); (case k2 => rfl); (case k3 => rfl)))
  k_with "call builtin:list.index" => (k_here; (with_reducible show wpAny _ _ (call (Value.builtin _) [Value.ref _, Value.bool _]) _ _ _); k_dflt (first | (refine' Mine.index_true (j := 0) ?k1 ?k2 ?k3 (by decide) (z := 0) (by rfl) ?_; (case k1 => is_list); (case k2 => rfl); (case k3 => rfl)) | (refine' Mine.index_true (j := 1) ?k1 ?k2 ?k3 (by decide) (z := 1) (by rfl) ?_; (case k1 => is_list); (case k2 => rfl); (case k3 => rfl)) | (refine' Mine.index_true (j := 2) ?k1 ?k2 ?k3 (by decide) (z := 2) (by rfl) ?_; (case k1 => is_list); (case k2 => rfl); (case k3 => rfl)) | (refine' Mine.index_true (j := 3) ?k1 ?k2 ?k3 (by decide) (z := 3) (by rfl) ?_; (case k1 => is_list); (case k2 => rfl); (case k3 => rfl)) | (refine' Mine.index_true (j := 6) ?k1 ?k2 ?k3 (by decide) (z := 6) (by rfl) ?_; (case k1 => is_list); (case k2 => rfl); (case k3 => rfl)) | (refine' Mine.index_true (j := 9) ?k1 ?k2 ?k3 (by decide) (z := 9) (by rfl) ?_; (case k1 => is_list); (case k2 => rfl); (case k3 => rfl))))
  k_with "ite" => ((with_reducible show ite ((!true) = true) _ _); refine Mine.ite_nt ?_)
  k_with "ite" => ((with_reducible show ite ((!false) = true) _ _); refine Mine.ite_nf ?_)
  k_with "ite" => ((with_reducible show ite (false = true) _ _); refine Mine.ite_f ?_)
  k_with "ite" => ((with_reducible show ite (true = true) _ _); refine Mine.ite_t ?_)
  k_steps
  all_goals (refine' ck_retS hret ?e2 ?e3 ?e4; (case e3 => k_asm); (case e4 => first | k_asm | (refine' cb_drop ?cbN ?cbS; (case cbN => assumption); (case cbS => kcj_all))); (case e2 => rfl))
theorem u_kind_letter {w : World} {mean : ExcName → Option Value} {mg mb : Str → Option Value} {e t₁ : Addr} {n₂ : List (Addr × Obj)} {vs : List Value} (G : Got n₂ e t₁ (.ref 49) vs)
    {hdl : Option Value} {dp un : Nat} {gd : Option (List Code)} {cn : Str} {cs : Scope} {a : Addr} {ccd : Value} {cl : List (Str × Addr)} {outer : List Env} {A₀ : Around} {base h₀ : Heap} {L : Addr} {m : Str → Option Value} {news : List (Addr × Obj)} {s : Shared} {Q E : Value → Shared → Prop}
    (N₂ : News h₀ L s.heap n₂) (B : Below A₀ base outer h₀) (F : Fr h₀ L s.heap m) (X : (k12.heap_1 w.params).In h₀) (N : News h₀ L s.heap news) (T : Top vw12 (looseW vw12 []) mean mg mb h₀) (hk : cs.kind = .function) (hd : dp + 1 < recursionLimit) (hu : un + 8 * 1 < cLine)
    (ret : ∀ (t : Tok) (h' : Heap) (tk' : Nat), Fr h₀ L h' m → News h₀ L h' news → Q (.str (Str.ofString "letter") t) { s with heap := h', toks := tk' }) :
    wpAny (model PySem.Challenge.rw_uf050027_12.row.prog w) { ktrTop dp un gd cn cs L a ccd cl outer with handled := hdl } (call (.ref 216) [.ref e]) Q E s := by
  obtain ⟨oe, ot, ws, nt, h1, _, hc, _⟩ := G
  exact (c_kind_letter w mean mg mb e oe hc).use B F X (N₂.append N) T hk hd hu (List.mem_append.mpr (.inl h1)) fun t h' tk' F' N' => ret t h' tk' F' fun p hp => N' p (List.mem_append.mpr (.inr hp))
end Mine
namespace Mine
theorem c_told_ok (w : World) (mean : ExcName → Option Value) (mg mb : Str → Option Value) (x : Str) (tx : Tok) (hx : x.length ≤ 4200) (ho : PyData.strOk x = true) (hb : ¬ badT x) (hw : wordD (lettersOf x) = Str.ofString "") :
    CzMC PySem.Challenge.rw_uf050027_12.row.prog w (k12.heap_1 w.params) vw12 (looseW vw12 []) mean mg mb 287 [.str x tx] (fun _ => True) (ToldOk x) := by
  unfold CzMC
  k_fill
  w_top off
  intro cn cs a ccd A₀ base h₀ L m news s Q E B F X N T XB TB hk hP hret
  refine wpAny_call ?_
  k_dflt (refine' Mine.defS0C ?k1 ?k2 ?k3 ?k4 ?k5 ?kA ?k6 ?k7 ?k8 ?k9 ?kB ?_ ?cK ?c2 ?c3 ?c4 ?c5; (case kA => exact rfl); (case k2 => k_asm); (case k1 => k_asm); (case k3 => k_asm); (case k4 => k_asm); (case k5 => k_asm); (case k6 => k_is); (case k7 => k_is); (case k8 => k_room); (case k9 => first | exact binds_K (by k_in) rfl (by k_is) rfl rfl rfl | exact BindsTo.of_eq rfl); (case kB => exact locs rfl); (case cK => assumption); (case c2 => exact rfl); (case c3 => exact rfl); (case c4 => exact rfl); (case c5 => decide); k_whole; intro g' L' h' FG' F' N' B' X' T' D'; (try dsimp only); (try k_lift B'); (try k_fold))
  k_with_none
  k_with "call ref" => (k_here; (with_reducible show wpAny _ _ (call (Value.ref 181) _) _ _ _); k_dflt (refine' Mine.Cm.use (Mine.c_read_ok _ _ _ _ _ _ hx ho hb hw) (hp := trivial) (ret := ?_)); intro r9 ad9 h9 tk9 ho9 hn9 F9 N9; k_dflt ((obtain ⟨D9, ys9, e9, ag9, hr9, ha9, hap9, hD9⟩ := ho9); subst hr9; subst ha9); (try dsimp only); (try k_fold))
  k_steps
  all_goals first | exact told_ok hret (by k_asm) (by k_asm) (by assumption) hn9 hap9 hD9

end Mine
namespace Mine
theorem c_told_text (w : World) (mean : ExcName → Option Value) (mg mb : Str → Option Value) (x : Str) (tx : Tok) (hx : x.length ≤ 4200) (ho : PyData.strOk x = true) (hb : badT x) :
    CzMC PySem.Challenge.rw_uf050027_12.row.prog w (k12.heap_1 w.params) vw12 (looseW vw12 []) mean mg mb 287 [.str x tx] (fun _ => True) (ToldBad (Str.ofString "text")) := by
  unfold CzMC
  k_fill
  w_top off
  intro cn cs a ccd A₀ base h₀ L m news s Q E B F X N T XB TB hk hP hret
  refine wpAny_call ?_
  k_dflt (refine' Mine.defS0C ?k1 ?k2 ?k3 ?k4 ?k5 ?kA ?k6 ?k7 ?k8 ?k9 ?kB ?_ ?cK ?c2 ?c3 ?c4 ?c5; (case kA => exact rfl); (case k2 => k_asm); (case k1 => k_asm); (case k3 => k_asm); (case k4 => k_asm); (case k5 => k_asm); (case k6 => k_is); (case k7 => k_is); (case k8 => k_room); (case k9 => first | exact binds_K (by k_in) rfl (by k_is) rfl rfl rfl | exact BindsTo.of_eq rfl); (case kB => exact locs rfl); (case cK => assumption); (case c2 => exact rfl); (case c3 => exact rfl); (case c4 => exact rfl); (case c5 => decide); k_whole; intro g' L' h' FG' F' N' B' X' T' D'; (try dsimp only); (try k_lift B'); (try k_fold))
  k_with_none
  k_with "call ref" => (k_here; (with_reducible show wpAny _ _ (call (Value.ref 181) _) _ _ _); k_dflt (refine Mine.Cr.use (Mine.c_read_text _ _ _ _ _ _ hx ho hb) (hp := trivial) (raise := ?_)); intro e9 s9 R9; k_dflt (obtain ⟨gX, eX, tX, vX, hX, tkX, q1X, q2X, FGX, RSX, upX⟩ := R9; subst q1X; subst q2X); (try dsimp only))
  k_with "ite" => ((with_reducible show ite ((!true) = true) _ _); refine Mine.ite_nt ?_)
  k_with "ite" => ((with_reducible show ite ((!false) = true) _ _); refine Mine.ite_nf ?_)
  k_with "ite" => ((with_reducible show ite (false = true) _ _); refine Mine.ite_f ?_)
  k_with "ite" => ((with_reducible show ite (true = true) _ _); refine Mine.ite_t ?_)
  k_with "call ref" => (k_here; (with_reducible show wpAny _ _ (call (Value.ref 216) [Value.ref _]) _ _ _); (with_reducible rename Got _ _ _ (Value.ref 145) _ => gtX); k_dflt (refine' Mine.u_kind_text gtX ?k0 ?k1 ?k2 ?k3 ?k4 ?k5 ?kK ?kd ?ku ?_; (case k0 => first | assumption | exact Mine.news_m12 (by assumption)); (case k1 => k_asm); (case k2 => k_asm); (case k3 => k_asm); (case k4 => k_asm); (case k5 => k_asm); (case kK => first | exact rfl | assumption); (case kd => first | assumption | omega | ktr_room); (case ku => first | assumption | omega | ktr_units)); intro t9 h9 tk9 F9 N9; (try dsimp only); (try k_fold))
  k_with "call ref" => (k_here; (with_reducible show wpAny _ _ (call (Value.ref 216) [Value.ref _]) _ _ _); (with_reducible rename Got _ _ _ (Value.ref 37) _ => gtX); k_dflt (refine' Mine.u_kind_name gtX ?k0 ?k1 ?k2 ?k3 ?k4 ?k5 ?kK ?kd ?ku ?_; (case k0 => first | assumption | exact Mine.news_m12 (by assumption)); (case k1 => k_asm); (case k2 => k_asm); (case k3 => k_asm); (case k4 => k_asm); (case k5 => k_asm); (case kK => first | exact rfl | assumption); (case kd => first | assumption | omega | ktr_room); (case ku => first | assumption | omega | ktr_units)); intro t9 h9 tk9 F9 N9; (try dsimp only); (try k_fold))
  k_with "call ref" => (k_here; (with_reducible show wpAny _ _ (call (Value.ref 216) [Value.ref _]) _ _ _); (with_reducible rename Got _ _ _ (Value.ref 49) _ => gtX); k_dflt (refine' Mine.u_kind_letter gtX ?k0 ?k1 ?k2 ?k3 ?k4 ?k5 ?kK ?kd ?ku ?_; (case k0 => first | assumption | exact Mine.news_m12 (by assumption)); (case k1 => k_asm); (case k2 => k_asm); (case k3 => k_asm); (case k4 => k_asm); (case k5 => k_asm); (case kK => first | exact rfl | assumption); (case kd => first | assumption | omega | ktr_room); (case ku => first | assumption | omega | ktr_units)); intro t9 h9 tk9 F9 N9; (try dsimp only); (try k_fold))
  k_with "newList nil" => (k_here; (with_reducible rename Got _ _ _ _ _ => gtX); (have kNN := Mine.news_got gtX (by assumption) (by assumption : News _ _ _ news)); (rename News _ _ _ news => kNO); clear kNO)
  k_steps
  all_goals first | (refine told_bad hret (by k_asm) (by k_asm) ?_ (by first | exact fun q hq => allLt_mem (And.right (by assumption)) q (List.mem_append.mpr (.inr hq)) | exact fun q hq => (by assumption : ∀ p ∈ (_ ++ news), p.1 < _) q (List.mem_append.mpr (.inr hq))) (by first | exact fun q hq => allLt_mem (And.right (by assumption)) q (List.mem_append.mpr (.inr hq)) | exact fun q hq => (by assumption : ∀ p ∈ (_ ++ news), p.1 < _) q (List.mem_append.mpr (.inr hq))) <;> (intro p9 hp9; (repeat (first | exact hp9 | refine List.Mem.tail _ ?_ | refine List.mem_append.mpr (.inr ?_)))))

end Mine
namespace Mine
theorem c_told_name (w : World) (mean : ExcName → Option Value) (mg mb : Str → Option Value) (x : Str) (tx : Tok) (hx : x.length ≤ 4200) (ho : PyData.strOk x = true) (hb : ¬ badT x) (hw : wordD (lettersOf x) = Str.ofString "name") :
    CzMC PySem.Challenge.rw_uf050027_12.row.prog w (k12.heap_1 w.params) vw12 (looseW vw12 []) mean mg mb 287 [.str x tx] (fun _ => True) (ToldBad (Str.ofString "name")) := by
  unfold CzMC
  k_fill
  w_top off
  intro cn cs a ccd A₀ base h₀ L m news s Q E B F X N T XB TB hk hP hret
  refine wpAny_call ?_
  k_dflt (refine' Mine.defS0C ?k1 ?k2 ?k3 ?k4 ?k5 ?kA ?k6 ?k7 ?k8 ?k9 ?kB ?_ ?cK ?c2 ?c3 ?c4 ?c5; (case kA => exact rfl); (case k2 => k_asm); (case k1 => k_asm); (case k3 => k_asm); (case k4 => k_asm); (case k5 => k_asm); (case k6 => k_is); (case k7 => k_is); (case k8 => k_room); (case k9 => first | exact binds_K (by k_in) rfl (by k_is) rfl rfl rfl | exact BindsTo.of_eq rfl); (case kB => exact locs rfl); (case cK => assumption); (case c2 => exact rfl); (case c3 => exact rfl); (case c4 => exact rfl); (case c5 => decide); k_whole; intro g' L' h' FG' F' N' B' X' T' D'; (try dsimp only); (try k_lift B'); (try k_fold))
  k_with_none
  k_with "call ref" => (k_here; (with_reducible show wpAny _ _ (call (Value.ref 181) _) _ _ _); k_dflt (refine Mine.Cr.use (Mine.c_read_name _ _ _ _ _ _ hx ho hb hw) (hp := trivial) (raise := ?_)); intro e9 s9 R9; k_dflt (obtain ⟨gX, eX, tX, vX, hX, tkX, q1X, q2X, FGX, RSX, upX⟩ := R9; subst q1X; subst q2X); (try dsimp only))
  k_with "ite" => ((with_reducible show ite ((!true) = true) _ _); refine Mine.ite_nt ?_)
  k_with "ite" => ((with_reducible show ite ((!false) = true) _ _); refine Mine.ite_nf ?_)
  k_with "ite" => ((with_reducible show ite (false = true) _ _); refine Mine.ite_f ?_)
  k_with "ite" => ((with_reducible show ite (true = true) _ _); refine Mine.ite_t ?_)
  k_with "call ref" => (k_here; (with_reducible show wpAny _ _ (call (Value.ref 216) [Value.ref _]) _ _ _); (with_reducible rename Got _ _ _ (Value.ref 145) _ => gtX); k_dflt (refine' Mine.u_kind_text gtX ?k0 ?k1 ?k2 ?k3 ?k4 ?k5 ?kK ?kd ?ku ?_; (case k0 => first | assumption | exact Mine.news_m12 (by assumption)); (case k1 => k_asm); (case k2 => k_asm); (case k3 => k_asm); (case k4 => k_asm); (case k5 => k_asm); (case kK => first | exact rfl | assumption); (case kd => first | assumption | omega | ktr_room); (case ku => first | assumption | omega | ktr_units)); intro t9 h9 tk9 F9 N9; (try dsimp only); (try k_fold))
  k_with "call ref" => (k_here; (with_reducible show wpAny _ _ (call (Value.ref 216) [Value.ref _]) _ _ _); (with_reducible rename Got _ _ _ (Value.ref 37) _ => gtX); k_dflt (refine' Mine.u_kind_name gtX ?k0 ?k1 ?k2 ?k3 ?k4 ?k5 ?kK ?kd ?ku ?_; (case k0 => first | assumption | exact Mine.news_m12 (by assumption)); (case k1 => k_asm); (case k2 => k_asm); (case k3 => k_asm); (case k4 => k_asm); (case k5 => k_asm); (case kK => first | exact rfl | assumption); (case kd => first | assumption | omega | ktr_room); (case ku => first | assumption | omega | ktr_units)); intro t9 h9 tk9 F9 N9; (try dsimp only); (try k_fold))
  k_with "call ref" => (k_here; (with_reducible show wpAny _ _ (call (Value.ref 216) [Value.ref _]) _ _ _); (with_reducible rename Got _ _ _ (Value.ref 49) _ => gtX); k_dflt (refine' Mine.u_kind_letter gtX ?k0 ?k1 ?k2 ?k3 ?k4 ?k5 ?kK ?kd ?ku ?_; (case k0 => first | assumption | exact Mine.news_m12 (by assumption)); (case k1 => k_asm); (case k2 => k_asm); (case k3 => k_asm); (case k4 => k_asm); (case k5 => k_asm); (case kK => first | exact rfl | assumption); (case kd => first | assumption | omega | ktr_room); (case ku => first | assumption | omega | ktr_units)); intro t9 h9 tk9 F9 N9; (try dsimp only); (try k_fold))
  k_with "newList nil" => (k_here; (with_reducible rename Got _ _ _ _ _ => gtX); (have kNN := Mine.news_got gtX (by assumption) (by assumption : News _ _ _ news)); (rename News _ _ _ news => kNO); clear kNO)
  k_steps
  all_goals first | (refine told_bad hret (by k_asm) (by k_asm) ?_ (by first | exact fun q hq => allLt_mem (And.right (by assumption)) q (List.mem_append.mpr (.inr hq)) | exact fun q hq => (by assumption : ∀ p ∈ (_ ++ news), p.1 < _) q (List.mem_append.mpr (.inr hq))) (by first | exact fun q hq => allLt_mem (And.right (by assumption)) q (List.mem_append.mpr (.inr hq)) | exact fun q hq => (by assumption : ∀ p ∈ (_ ++ news), p.1 < _) q (List.mem_append.mpr (.inr hq))) <;> (intro p9 hp9; (repeat (first | exact hp9 | refine List.Mem.tail _ ?_ | refine List.mem_append.mpr (.inr ?_)))))

end Mine
namespace Mine
theorem c_told_letter (w : World) (mean : ExcName → Option Value) (mg mb : Str → Option Value) (x : Str) (tx : Tok) (hx : x.length ≤ 4200) (ho : PyData.strOk x = true) (hb : ¬ badT x) (hw : wordD (lettersOf x) = Str.ofString "letter") :
    CzMC PySem.Challenge.rw_uf050027_12.row.prog w (k12.heap_1 w.params) vw12 (looseW vw12 []) mean mg mb 287 [.str x tx] (fun _ => True) (ToldBad (Str.ofString "letter")) := by
  unfold CzMC
  k_fill
  w_top off
  intro cn cs a ccd A₀ base h₀ L m news s Q E B F X N T XB TB hk hP hret
  refine wpAny_call ?_
  k_dflt (refine' Mine.defS0C ?k1 ?k2 ?k3 ?k4 ?k5 ?kA ?k6 ?k7 ?k8 ?k9 ?kB ?_ ?cK ?c2 ?c3 ?c4 ?c5; (case kA => exact rfl); (case k2 => k_asm); (case k1 => k_asm); (case k3 => k_asm); (case k4 => k_asm); (case k5 => k_asm); (case k6 => k_is); (case k7 => k_is); (case k8 => k_room); (case k9 => first | exact binds_K (by k_in) rfl (by k_is) rfl rfl rfl | exact BindsTo.of_eq rfl); (case kB => exact locs rfl); (case cK => assumption); (case c2 => exact rfl); (case c3 => exact rfl); (case c4 => exact rfl); (case c5 => decide); k_whole; intro g' L' h' FG' F' N' B' X' T' D'; (try dsimp only); (try k_lift B'); (try k_fold))
  k_with_none
  k_with "call ref" => (k_here; (with_reducible show wpAny _ _ (call (Value.ref 181) _) _ _ _); k_dflt (refine Mine.Cr.use (Mine.c_read_letter _ _ _ _ _ _ hx ho hb hw) (hp := trivial) (raise := ?_)); intro e9 s9 R9; k_dflt (obtain ⟨gX, eX, tX, vX, hX, tkX, q1X, q2X, FGX, RSX, upX⟩ := R9; subst q1X; subst q2X); (try dsimp only))
  k_with "ite" => ((with_reducible show ite ((!true) = true) _ _); refine Mine.ite_nt ?_)
  k_with "ite" => ((with_reducible show ite ((!false) = true) _ _); refine Mine.ite_nf ?_)
  k_with "ite" => ((with_reducible show ite (false = true) _ _); refine Mine.ite_f ?_)
  k_with "ite" => ((with_reducible show ite (true = true) _ _); refine Mine.ite_t ?_)
  k_with "call ref" => (k_here; (with_reducible show wpAny _ _ (call (Value.ref 216) [Value.ref _]) _ _ _); (with_reducible rename Got _ _ _ (Value.ref 145) _ => gtX); k_dflt (refine' Mine.u_kind_text gtX ?k0 ?k1 ?k2 ?k3 ?k4 ?k5 ?kK ?kd ?ku ?_; (case k0 => first | assumption | exact Mine.news_m12 (by assumption)); (case k1 => k_asm); (case k2 => k_asm); (case k3 => k_asm); (case k4 => k_asm); (case k5 => k_asm); (case kK => first | exact rfl | assumption); (case kd => first | assumption | omega | ktr_room); (case ku => first | assumption | omega | ktr_units)); intro t9 h9 tk9 F9 N9; (try dsimp only); (try k_fold))
  k_with "call ref" => (k_here; (with_reducible show wpAny _ _ (call (Value.ref 216) [Value.ref _]) _ _ _); (with_reducible rename Got _ _ _ (Value.ref 37) _ => gtX); k_dflt (refine' Mine.u_kind_name gtX ?k0 ?k1 ?k2 ?k3 ?k4 ?k5 ?kK ?kd ?ku ?_; (case k0 => first | assumption | exact Mine.news_m12 (by assumption)); (case k1 => k_asm); (case k2 => k_asm); (case k3 => k_asm); (case k4 => k_asm); (case k5 => k_asm); (case kK => first | exact rfl | assumption); (case kd => first | assumption | omega | ktr_room); (case ku => first | assumption | omega | ktr_units)); intro t9 h9 tk9 F9 N9; (try dsimp only); (try k_fold))
  k_with "call ref" => (k_here; (with_reducible show wpAny _ _ (call (Value.ref 216) [Value.ref _]) _ _ _); (with_reducible rename Got _ _ _ (Value.ref 49) _ => gtX); k_dflt (refine' Mine.u_kind_letter gtX ?k0 ?k1 ?k2 ?k3 ?k4 ?k5 ?kK ?kd ?ku ?_; (case k0 => first | assumption | exact Mine.news_m12 (by assumption)); (case k1 => k_asm); (case k2 => k_asm); (case k3 => k_asm); (case k4 => k_asm); (case k5 => k_asm); (case kK => first | exact rfl | assumption); (case kd => first | assumption | omega | ktr_room); (case ku => first | assumption | omega | ktr_units)); intro t9 h9 tk9 F9 N9; (try dsimp only); (try k_fold))
  k_with "newList nil" => (k_here; (with_reducible rename Got _ _ _ _ _ => gtX); (have kNN := Mine.news_got gtX (by assumption) (by assumption : News _ _ _ news)); (rename News _ _ _ news => kNO); clear kNO)
  k_steps
  all_goals first | (refine told_bad hret (by k_asm) (by k_asm) ?_ (by first | exact fun q hq => allLt_mem (And.right (by assumption)) q (List.mem_append.mpr (.inr hq)) | exact fun q hq => (by assumption : ∀ p ∈ (_ ++ news), p.1 < _) q (List.mem_append.mpr (.inr hq))) (by first | exact fun q hq => allLt_mem (And.right (by assumption)) q (List.mem_append.mpr (.inr hq)) | exact fun q hq => (by assumption : ∀ p ∈ (_ ++ news), p.1 < _) q (List.mem_append.mpr (.inr hq))) <;> (intro p9 hp9; (repeat (first | exact hp9 | refine List.Mem.tail _ ?_ | refine List.mem_append.mpr (.inr ?_)))))

end Mine
namespace Mine
theorem c_whole (w : World) (mean : ExcName → Option Value) (mg mb : Str → Option Value) (x : Int) (tx : Tok) : Con w mean mg mb 188 1 [.int x tx] True (fun _ => .bool (true)) := by
  unfold Con Ct
  k_fill
  w_top off
  intro dp un gd cn cs a ccd cl outer A₀ base h₀ L m news s Q E B F X N T hk hd hu hret
  refine wpAny_call ?_
  k_dflt cell_enter
  k_with_none
  k_steps
  all_goals (refine' hret (0 : Nat) _ _ trivial ?e3 ?e4; (case e3 => k_asm); (case e4 => k_asm))
end Mine
namespace Mine
theorem c_cell (w : World) (mean : ExcName → Option Value) (mg mb : Str → Option Value) (S : Addr) (vs : List Value) (ns : List Int) (hi : IntsAre vs ns) (hlay : PyData.layable0 (.list (ns.map .int)) = true) (hln : ns.length ≤ 63) (k : Int) (tk : Tok) (hkk : 0 ≤ k ∧ k ≤ 5) :
    Cm PySem.Challenge.rw_uf050027_12.row.prog w (k12.heap_1 w.params) vw12 (looseW vw12 []) mean mg mb 195 2 [.ref S, .int k tk] (fun h₀ _ => h₀.IsList S vs.toArray) (fun r add => add = [] ∧ ∃ t, r = .int (ns.getD k.toNat 0) t) := by
  unfold Cm
  k_fill
  w_top off
  intro dp un gd cn cs a ccd cl outer A₀ base h₀ L m news s Q E B F X N T hk hd hu hP hret
  have hl9 := hi.length
  replace hP : h₀.IsList S vs.toArray := hP
  refine wpAny_call ?_
  k_dflt cell_enter
  (rename Fr h₀ L _ m => FG9)
  have hP9 := list_up FG9 hP
  k_with_none
  k_steps
  all_goals (refine' hret _ [] _ _ ⟨rfl, ?q1⟩ (fun _ h => nomatch h) ?q2 ?q3; (case q2 => k_asm); (case q3 => k_asm); (case q1 => first | exact ⟨_, rfl⟩ | exact int_out (by omega)))
end Mine
namespace Mine
theorem c_kinds (w : World) (mean : ExcName → Option Value) (mg mb : Str → Option Value) (Fa : Addr) (ys : List Value) (ds : List Dat) (e : Nat) (hok : ∀ d ∈ ds, LetT d) (hlen : ds.length ≤ 5000) :
    Cv PySem.Challenge.rw_uf050027_12.row.prog w (k12.heap_1 w.params) vw12 (looseW vw12 []) mean mg mb 297 12 [.ref Fa] (fun news => (Fa, ({ cls := .type "list", data := .seq ys.toArray e } : Obj)) ∈ news ∧ DatAll news ys ds) (fun r => r = .bool true) := by
  unfold Cv
  k_fill
  w_top off
  intro dp un gd cn cs a ccd cl outer A₀ base h₀ L m news s Q E B F X N T hk hd hu hP hret
  obtain ⟨hm, hD⟩ := hP
  refine wpAny_call ?_
  k_dflt cell_enter
  k_with_none
  k_with "exec For Name Name cons nil" => (k_here; (rename Fr _ _ _ _ => lF'); (with_unfolding_all refine' For_turns lF' ?_; k_whole))
  k_with "call builtin:isinstance" => (k_here; (with_reducible show wpAny _ _ (call (Value.builtin "isinstance") [Value.ref _, Value.type "tuple"]) _ _ _); k_dflt (refine' Mine.isi_tuple ?N ?hm ?hc ?X ?ee ?_; (case N => k_asm); (case hm => k_mem); (case hc => exact rfl); (case X => k_in); (case ee => exact rfl)); intro _)
  k_with "call builtin:isinstance" => (k_here; (with_reducible show wpAny _ _ (call (Value.builtin "isinstance") [Value.ref _, Value.type "list"]) _ _ _); k_dflt (refine' Mine.isi_list ?N ?hm ?hc ?X ?ee ?_; (case N => k_asm); (case hm => k_mem); (case hc => exact rfl); (case X => k_in); (case ee => exact rfl)); intro _)
  k_with "subscriptTail Name Slice ref ref" => (k_here; (with_reducible show wpAny _ _ (subscriptTail _ (PySem.Expr.Slice _ none none _) (Value.ref _) (Value.ref _)) _ _ _); k_dflt (refine' Mine.tup_from1 ?F ?N ?m ?_ ?s ?g; (case F => k_asm); (case N => k_asm); (case m => k_mem); (case s => with_unfolding_all rfl); (case g => (intro _; with_unfolding_all rfl))); intro D' h' F' N' l1; (try k_lt l1))
  k_with "call ref" => (k_here; (with_reducible show wpAny _ _ (call (Value.ref 188) _) _ _ _); k_dflt (refine Mine.Ct.use (Mine.c_whole _ _ _ _ _ _) (ret := ?_)); intro t9 h9 tk9 P9 F9 N9; (try dsimp only); (try k_fold))
  k_steps
  (rename Fr _ _ _ _ => lF')
  (rename News _ _ _ _ => lN')
  k_dflt (refine' Mine.loop_listD (σ := Unit) (fun _ => []) [Str.ofString "_law_letter_here"] (fun _ _ => True) () hD (by rfl) lF' lN' hm rfl rfl (List.forall_mem_nil _) trivial ?_ ?_)
  (all_goals (clear lF' lN'))
  · intro pre8 d8 post8 v8 c8 u8 I8 o8 h8 tk8 e8 hd8 hI8 hP8 hne8 ho8 F8 N8
    obtain ⟨y8, a8, b8, cc8, q8, rfl, hy8, hoy8, _⟩ := hok d8 hd8
    obtain ⟨A8, n8, t08, t18, t28, t38, t48, rfl, hmA8⟩ := dat_letter hI8
    k_with "eval ListComp" => (k_here; k_dflt (refine Mine.ListComp_TuU (by k_asm) (by with_unfolding_all rfl) (by decide) (by rfl) (by decide) (by rfl) ?_))
    k_steps
    (rename News _ _ _ _ => kN8)
    k_dflt (refine SrcT.intro (by rfl) (by k_asm) kN8 (.head _) (Nat.le_of_ble_eq_true rfl) ?_)
    intro g7
    refine rest_filter (fun _ => false) (n₁ := []) (vs := [.int a8 t18, .int b8 t28, .int cc8 t38, .int q8 t48]) (ds := [.int a8, .int b8, .int cc8, .int q8]) (.cons (.int _ _) (.cons (.int _ _) (.cons (.int _ _) (.cons (.int _ _) .nil)))) ⟨_, .head _, rfl, _, rfl⟩ ?_ ?_
    · intro d7 v7 ys7 I7 oI7 C7 oC7 D7 m7 h7 tk7 E7 hd7 hI7 hC7 hx7 F7 N7 off7 ne7
      obtain ⟨k7, t7, rfl⟩ := four_int hd7 hI7
      clear kN8
      k_steps
      all_goals (refine CompTurn.intro (by k_asm) (by k_asm) _ ?cS ?cO trivial ⟨rfl, rfl⟩; (case cS => first | exact fun _ h => h | kst_inAny); (case cO => assumption))
    · intro ys7 hy7
      obtain rfl := no_dat hy7
      intro D7 h7 tk7 F7 N7 o7
      clear kN8
      k_with "compareOp NotEq ref ref" => (k_here; (with_reducible show wpAny _ _ (compareOp CmpOp.NotEq (Value.ref _) (Value.ref _)) _ _ _); (rename News _ _ _ _ => kN9); k_dflt (refine' Mine.ne_nn kN9 (List.Mem.tail _ (List.Mem.head _)) (List.Mem.head _) ?ni7 ?_; (case ni7 => first | ke_room | ktr_units)))
      k_steps
      all_goals (refine' LoopTurn.still () ?lF ?lN ?lI ?lS ?lO ?lK ?lR ?lP; (case lF => k_asm); (case lN => k_asm); (case lI => (repeat (first | exact List.Mem.head _ | refine List.Mem.tail _ ?_))); (case lS => (intro p9 hp9; (repeat (first | exact hp9 | refine List.Mem.tail _ ?_)))); (case lO => exact hne8); (case lK => exact List.forall_mem_nil _); (case lR => (intro z h2 h3; (simp only [List.contains_cons, List.contains_nil, Bool.or_false, Bool.or_eq_false_iff, beq_eq_false_iff_ne, ne_eq] at h3); first | (simp [h3, kstB]; done))); (case lP => trivial))
  · intro c8 u8 h8 tk8 hP8 F8 N8
    k_steps
    all_goals (refine' hret _ _ _ rfl ?q2 ?q3; (case q2 => k_asm); (case q3 => k_asm))
end Mine
namespace Mine
theorem c_sign (w : World) (mean : ExcName → Option Value) (mg mb : Str → Option Value) (c : Int) (tc : Tok) :
    Cv PySem.Challenge.rw_uf050027_12.row.prog w (k12.heap_1 w.params) vw12 (looseW vw12 []) mean mg mb 242 2 [.int c tc] (fun _ => True) (TextLe 1) := by
  unfold Cv
  k_fill
  w_top off
  intro dp un gd cn cs a ccd cl outer A₀ base h₀ L m news s Q E B F X N T hk hd hu hP hret
  refine wpAny_call ?_
  k_dflt cell_enter
  k_with_none
  k_steps
  k_with_none
  all_goals (refine' hret _ _ _ ⟨_, _, rfl, ?q1⟩ ?q2 ?q3; (case q2 => k_asm); (case q3 => first | k_asm | (refine' cb_drop ?cbN ?cbS; (case cbN => assumption); (case cbS => kcj_all))); (case q1 => (first | exact ⟨Nat.le_of_eq (len_item1 _ _), strOk_item (by decide +kernel) _⟩ | exact ⟨Nat.le_of_eq (len_item1 _ _), strOk_item (strOk_append (by decide +kernel) (by decide +kernel)) _⟩)))

end Mine
namespace Mine
theorem c_odd (w : World) (mean : ExcName → Option Value) (mg mb : Str → Option Value) (c : Int) (tc : Tok) :
    Cv PySem.Challenge.rw_uf050027_12.row.prog w (k12.heap_1 w.params) vw12 (looseW vw12 []) mean mg mb 249 2 [.int c tc] (fun _ => True) (TextLe 40) := by
  unfold Cv
  k_fill
  w_top off
  intro dp un gd cn cs a ccd cl outer A₀ base h₀ L m news s Q E B F X N T hk hd hu hP hret
  refine wpAny_call ?_
  k_dflt cell_enter
  k_with_none
  k_with "subscriptTail Name BinOp ref int" => (k_here; (with_reducible show wpAny _ _ (subscriptTail _ _ (Value.ref _) (Value.int _ _)) _ _ _); (try k_fmods); k_dflt (refine' Mine.item_texts 40 ?k1 ?k2 ?k3 ?k4 ?_; (case k1 => is_list); (case k2 => (simp only [List.length_cons, List.length_nil]; omega)); (case k3 => omega); (case k4 => ((repeat' (first | exact Mine.textAll_nil | refine Mine.textAll_cons ?_ ?_)); (all_goals (refine Mine.textLe_of ?_ ?_)); (all_goals decide +kernel))); k_whole); intro _ _ hTx)
  k_steps
  k_with_none
  all_goals (refine' hret _ _ _ ⟨_, _, rfl, ?q1⟩ ?q2 ?q3; (case q2 => k_asm); (case q3 => first | k_asm | (refine' cb_drop ?cbN ?cbS; (case cbN => assumption); (case cbS => kcj_all))); (case q1 => assumption))

end Mine
section
local macro_rules | `(tactic| k_mem) => `(tactic| assumption)
namespace Mine
theorem c_lrow (w : World) (mean : ExcName → Option Value) (mg mb : Str → Option Value) (S : Addr) (x : Str) (se ba lo hi : Int) (tx ta tb tc td : Tok) (cc : Nat) (hx : x.length ≤ 24) (hok : PyData.strOk x = true) (h1 : 0 ≤ se ∧ se ≤ 2000000000000) (h2 : 0 ≤ ba ∧ ba ≤ 2000000000000) (h3 : 0 ≤ lo ∧ lo ≤ 2000000000000) (h4 : 0 ≤ hi ∧ hi ≤ 1000000000000000000000000000000000000000000000000) (hl : x.length + (numT hi).length ≤ 62) :
    Cv PySem.Challenge.rw_uf050027_12.row.prog w (k12.heap_1 w.params) vw12 (looseW vw12 []) mean mg mb 263 2 [.ref S] (fun news => (S, ({ cls := .type "tuple", data := .seq #[.str x tx, .int se ta, .int ba tb, .int lo tc, .int hi td] cc } : Obj)) ∈ news) (TextLe 125) := by
  unfold Cv
  k_fill
  w_top off
  intro dp un gd cn cs a ccd cl outer A₀ base h₀ L m news s Q E B F X N T hk hd hu hP hret
  refine wpAny_call ?_
  k_dflt cell_enter
  k_with_none
  k_steps
  k_with_none
  all_goals (refine' hret _ _ _ ⟨_, _, rfl, ?q1⟩ ?q2 ?q3; (case q2 => k_asm); (case q3 => first | k_asm | (refine' cb_drop ?cbN ?cbS; (case cbN => assumption); (case cbS => kcj_all))); (case q1 => exact row_le hok h1 h2 h3 hl))

end Mine
end
section
local macro_rules | `(tactic| bits_by_make) => `(tactic| exact Mine.bits40)
namespace Mine
theorem c_none (w : World) (mean : ExcName → Option Value) (mg mb : Str → Option Value) (c : Int) (tc : Tok) (hc : CellOk c ∧ (0 : Int) ≤ 0) :
    Cm PySem.Challenge.rw_uf050027_12.row.prog w (k12.heap_1 w.params) vw12 (looseW vw12 []) mean mg mb 256 3 [.int c tc] (fun _ _ => True) (NoneOk) := by
  unfold Cm
  k_fill
  w_top off
  intro dp un gd cn cs a ccd cl outer A₀ base h₀ L m news s Q E B F X N T hk hd hu hP hret
  refine wpAny_call ?_
  k_dflt cell_enter
  k_with_none
  k_with "call ref" => (k_here; (with_reducible show wpAny _ _ (call (Value.ref 202) _) _ _ _); k_dflt (refine Mine.Ct.use (Mine.c_lmix _ _ _ _ _ _ _ _) (ret := ?_)); intro t9 h9 tk9 P9 F9 N9; (try dsimp only); (try k_fold))
  k_with "call ref" => (k_here; (with_reducible show wpAny _ _ (call (Value.ref 209) _) _ _ _); k_dflt (refine Mine.Ct.use (Mine.c_lbig _ _ _ _ _ _ _ _) (ret := ?_)); intro t9 h9 tk9 P9 F9 N9; (try dsimp only); (try k_fold))
  k_with "binaryOp Pow int int" => (k_here; (first | (with_reducible refine Mine.pow40 ?_) | (with_reducible refine Mine.pow12b ?_)))
  k_with "subscriptTail Name BinOp ref int" => (k_here; (with_reducible show wpAny _ _ (subscriptTail _ _ (Value.ref _) (Value.int _ _)) _ _ _); (try k_fmods); k_dflt (refine' Mine.item_refs ?k1 ?k2 ?k3 ?_; (case k1 => is_list); (case k2 => (simp only [List.length_cons, List.length_nil]; omega)); (case k3 => omega); k_whole); intro v8 hv8; k_dflt (simp only [List.mem_cons, List.not_mem_nil, or_false] at hv8; rcases hv8 with rfl | rfl | rfl | rfl | rfl | rfl | rfl | rfl | rfl))
  k_steps
  all_goals first | (refine' one_mem hret ?oN ?oF ?om ?os ?ol ?oo; (case oN => k_asm); (case oF => k_asm); (case om => (repeat (first | exact List.Mem.head _ | refine List.Mem.tail _ ?_))); (case os => (intro p9 hp9; (repeat (first | exact hp9 | refine List.Mem.tail _ ?_)))); (case ol => (first | tbn_find | exact allLt_of (by assumption))); (case oo => exact ⟨_, _, _, _, _, _, _, _, _, _, _, _, rfl, List.Mem.head _, ⟨by decide, by decide +kernel⟩, (by first | decide | (have m1 := mix_bd c 1; omega)), (by first | decide | (have m1 := mix_bd c 1; omega)), (by first | decide | (have m1 := mix_bd c 1; omega)), (by first | decide | (have m1 := mix_bd c 1; omega))⟩))

end Mine
end
namespace Mine
theorem c_spoilt (w : World) (mean : ExcName → Option Value) (mg mb : Str → Option Value) (R : Addr) (ys : List Value) (e : Nat) (c : Int) (tc : Tok) (hok : ∀ v ∈ ys, TextLe 125 v) (hlen : ys.length ≤ 30) (hc : CellOk c ∧ (0 : Int) ≤ 0) :
    Cs PySem.Challenge.rw_uf050027_12.row.prog w (k12.heap_1 w.params) vw12 (looseW vw12 []) mean mg mb 292 8 [.ref R, .int c tc] R ({ cls := .type "list", data := .seq ys.toArray e } : Obj) (TextLe 4200) := by
  unfold Cs
  k_fill
  w_top off
  intro dp un gd cn cs a ccd cl outer A₀ base h₀ L m news s Q E B F X N T hk hd hu hne hret
  refine wpAny_call ?_
  k_dflt cell_enter
  k_with_none
  k_with "call ref" => (k_here; (with_reducible show wpAny _ _ (call (Value.ref 202) _) _ _ _); k_dflt (refine Mine.Ct.use (Mine.c_lmix _ _ _ _ _ _ _ _) (ret := ?_)); intro t9 h9 tk9 P9 F9 N9; (try dsimp only); (try k_fold))
  k_with "call ref" => (k_here; (with_reducible show wpAny _ _ (call (Value.ref 209) _) _ _ _); k_dflt (refine Mine.Ct.use (Mine.c_lbig _ _ _ _ _ _ _ _) (ret := ?_)); intro t9 h9 tk9 P9 F9 N9; (try dsimp only); (try k_fold))
  k_with "eval ListComp" => (k_here; k_dflt (refine Mine.ListComp_V (by k_asm) (by with_unfolding_all rfl) (by decide) (by rfl) (by decide) (by rfl) ?_))
  k_with "SrcU" => (k_dflt (refine' Mine.SrcU.ledger ?sh ?sF ?sN ?sm ?sz ?_; (case sh => rfl); (case sF => k_asm); (case sN => k_asm); (case sm => (repeat (first | exact List.Mem.head _ | refine List.Mem.tail _ ?_))); (case sz => (rw [List.size_toArray, sizeLine_eq]; omega))); intro g9; k_dflt (refine' Mine.rest_rows (by assumption) ?sS ?_ ?_; (case sS => exact Or.inr ⟨_, by (repeat (first | exact List.Mem.head _ | refine List.Mem.tail _ ?_)), rfl, _, rfl⟩); (all_goals first | (intro r7 t7 zs7 I7 oI7 C7 oC7 D7 m7 h7 tk7 E7 hr7 hro7 hC7 hx7 F7 N7 off7 ne7) | (intro zs7 xs7 hs7 hxl7 hxx7; intro D7 h7 tk7 F7 N7 o7; (have lD7 := Mine.off1_mem o7)))))
  k_with "call builtin:str.join" => (k_here; (with_reducible show wpAny _ _ (call (Value.builtin _) [Value.str _ _, Value.ref _]) _ _ _); (rename News _ _ _ _ => kN9); k_dflt (refine' Mine.join_rows (n := 32) kN9 (List.Mem.head _) hs7 hxx7 ?jn (by decide) ?_; (case jn => omega)); intro X7 tX7 kX7 hXl7 hXo7; (replace hXl7 : X7.length ≤ 4032 := hXl7); (try dsimp only); (try k_fold))
  k_with "call ref" => (k_here; (with_reducible show wpAny _ _ (call (Value.ref 242) _) _ _ _); k_dflt (refine' Mine.Cv.use (Mine.c_sign _ _ _ _ _ _) (hp := trivial) (ret := ?_)); intro r9 h9 tk9 ho9 F9 N9; k_dflt ((obtain ⟨x9, v9, e9, hl9, hs9⟩ := ho9); subst e9); (try dsimp only); (try k_fold))
  k_with "call ref" => (k_here; (with_reducible show wpAny _ _ (call (Value.ref 249) _) _ _ _); k_dflt (refine' Mine.Cv.use (Mine.c_odd _ _ _ _ _ _) (hp := trivial) (ret := ?_)); intro r9 h9 tk9 ho9 F9 N9; k_dflt ((obtain ⟨x9, v9, e9, hl9, hs9⟩ := ho9); subst e9); (try dsimp only); (try k_fold))
  k_with "call ref" => (k_here; (with_reducible show wpAny _ _ (call (Value.ref 256) _) _ _ _); k_dflt (refine' Mine.Cm.use (Mine.c_none _ _ _ _ _ _ ⟨?hc9, by decide⟩) (hp := trivial) (ret := ?_); (case hc9 => exact Mine.cell_div hc _)); intro r9 ad9 h9 tk9 ho9 hn9 F9 N9; k_dflt ((obtain ⟨S9, y9, se9, ba9, lo9, hi9, tx9, ta9, tb9, tc9, td9, kk9, e9, hm9, hy9, hb91, hb92, hb93, hb94⟩ := ho9); subst e9); (try dsimp only); (try k_fold))
  k_with "call ref" => (k_here; (with_reducible show wpAny _ _ (call (Value.ref 263) _) _ _ _); k_dflt (refine' Mine.Cv.use (Mine.c_lrow _ _ _ _ S9 y9 se9 ba9 lo9 hi9 tx9 ta9 tb9 tc9 td9 kk9 ?h0 hy9.2 hb91 hb92 hb93 ?h4 ?h5) (hp := ?kP) (ret := ?_); (case kP => (show _ ∈ _; exact List.mem_append.mpr (Or.inl hm9))); (case h0 => omega); (case h4 => omega); (case h5 => exact Mine.none_len hy9.1 hb94)); intro r9 h9 tk9 ho9 F9 N9; k_dflt ((obtain ⟨x8, v8, e8, hl8, hs8⟩ := ho9); subst e8; (replace N9 := Mine.news_right N9); clear hn9 hm9); (try dsimp only); (try k_fold))
  k_with "subscriptTail List cons BinOp ref int" => (k_here; (with_reducible show wpAny _ _ (subscriptTail _ _ (Value.ref _) (Value.int _ _)) _ _ _); (try k_fmods); k_dflt (refine' Mine.item_texts 125 ?k1 ?k2 ?k3 ?k4 ?_; (case k1 => is_list); (case k2 => (simp only [List.length_cons, List.length_nil]; omega)); (case k3 => omega); (case k4 => ((repeat' (first | exact Mine.textAll_nil | refine Mine.textAll_cons ?_ ?_)); (all_goals (refine Mine.textLe_of ?_ ?_)); (all_goals (first | omega | assumption | decide +kernel | exact Mine.strOk_append (by first | assumption | exact Mine.strOk_item (by assumption) _) (by first | assumption | exact Mine.strOk_item (by assumption) _) | (rw [Str.length_append]; simp only [Mine.len_item1]; omega))))); k_whole); intro x6 tx6 hTx6)
  k_with "call builtin:list.insert" => (k_here; (with_reducible show wpAny _ _ (call (Value.builtin _) [Value.ref _, Value.int _ _, _]) _ _ _); (rename News _ _ _ _ => kN9); (try k_fmods); k_dflt (refine' Mine.ins_drop (news := news) ?iF kN9 ?im ?is hne (by assumption) ?iy ?ix ?il ?_; (case iF => k_asm); (case im => (repeat (first | exact List.Mem.head _ | refine List.Mem.tail _ ?_ | refine List.mem_append.mpr (.inr ?_)))); (case is => (intro p9 hp9; (repeat (first | exact hp9 | refine List.Mem.tail _ ?_ | refine List.mem_append.mpr (.inr ?_))))); (case iy => first | exact Mine.textLe_of hTx6.1 hTx6.2 | exact Mine.textLe_of (by omega) (by assumption)); (case ix => first | omega | (refine ⟨Int.fmod_nonneg_of_pos _ (by omega), Int.le_of_lt (Int.lt_of_lt_of_le (Int.fmod_lt_of_pos _ (by omega)) (by omega))⟩)); (case il => omega)); intro zs8 h8 hz8 hzl8 F8 N8; (try clear kN9); (try dsimp only); (try k_fold))
  k_with "call builtin:len" => (k_here; (with_reducible show wpAny _ _ (call (Value.builtin _) [Value.ref _]) _ _ _); (rename News _ _ _ _ => kN9); k_dflt (refine' Mine.len_any kN9 ?lm7 ?lz7 ?_; (case lm7 => (repeat (first | exact List.Mem.head _ | refine List.Mem.tail _ ?_ | refine List.mem_append.mpr (.inr ?_)))); (case lz7 => omega)))
  k_with "subscriptTail Name Name str int" => (k_here; (with_reducible show wpAny _ _ (subscriptTail _ _ (Value.str _ _) (Value.int _ _)) _ _ _); (have hb5 := Mine.at_bd (X := X7) (k := Mine.mix c 2) (by assumption)); k_dflt (refine' KXi.item rfl ?ka ?kb ?kc ?_; (case ka => omega); (case kb => omega); (case kc => omega)); intro hl5)
  k_with "execs cons Expr cons" => (k_here; exfalso; k_dflt omega)
  k_with "execs cons Return nil" => (k_here; exfalso; k_dflt omega)
  k_steps
  all_goals first | (refine CompTurn.intro (by k_asm) (by k_asm) _ ?cS ?cO trivial ⟨rfl, textLe_of (by rw [Str.length_append]; have hlf : (Str.ofString "\n").length = 1 := (by decide); omega) (strOk_append (by assumption) (by decide +kernel))⟩; (case cS => first | exact fun _ h => h | kst_inAny); (case cO => assumption)) | (refine' Mine.cs_ret hret ?eN ?eF ?es ?el ?eo; (case eN => k_asm); (case eF => k_asm); (case es => (intro p9 hp9; (repeat (first | exact hp9 | refine List.Mem.tail _ ?_ | refine List.mem_append.mpr (.inr ?_))))); (case el => first | ((with_reducible refine Nat.le_trans hXl7 ?_); decide) | ((with_reducible refine Nat.le_trans (by assumption) (Nat.le_trans hXl7 ?_)); decide) | ((have hb5 := Mine.at_bd (X := X7) (k := Mine.mix c 2) (by assumption)); (with_reducible refine Mine.cut_le ?_ ?_ hXl7 ?_) <;> first | with_reducible exact hTx6.1 | omega | decide)); (case eo => first | with_reducible assumption | with_reducible exact Mine.strOk_slice hXo7 _ _ | ((with_reducible refine Mine.cut_ok hXo7 ?_); first | with_reducible assumption | with_reducible exact hTx6.2 | decide +kernel)))

end Mine
noncomputable def Mine.walk12.tw15557506464355483388 : Unit := ()
noncomputable def Mine.walk12.tw11169486332851879846 : Unit := ()
set_option Elab.async true in
set_option rowWalk.seconds 0 in
theorem Mine.walk12 : ∀ d kwd, defOf Mine.vw12 PySem.Challenge.rw_uf050027_12.row.name = some (d, kwd) → WalkO Mine.vw12 [] (XL Mine.vw12 []) (Hook.says (kHook Mine.k12.heap_1 _ Mine.kas12)) PySem.Challenge.rw_uf050027_12.row.toRowW d kwd (fun f vs => PySem.call f vs) := by
  intro d kwd hdk
  cases hdk
  k_with_none
  k_with "call ref" => (k_here; (with_reducible show wpAny _ _ (call (Value.ref 202) _) _ _ _); k_dflt (refine Mine.Ct.use (Mine.c_lmix _ _ _ _ _ _ _ _) (ret := ?_)); intro t9 h9 tk9 P9 F9 N9; (try dsimp only); (try k_fold))
  k_with "call ref" => (k_here; (with_reducible show wpAny _ _ (call (Value.ref 209) _) _ _ _); k_dflt (refine Mine.Ct.use (Mine.c_lbig _ _ _ _ _ _ _ _) (ret := ?_)); intro t9 h9 tk9 P9 F9 N9; (try dsimp only); (try k_fold))
  k_with "call ref" => (k_here; (with_reducible show wpAny _ _ (call (Value.ref 195) _) _ _ _); k_dflt (refine' Mine.Cm.use (Mine.c_cell _ _ _ _ _ _ _ ?hi ?hl ?hn _ _ ?hk) (hp := ?kP) (ret := ?_); (case kP => assumption); (case hi => assumption); (case hl => assumption); (case hn => omega); (case hk => omega)); intro r9 ad9 h9 tk9 ho9 hn9 F9 N9; k_dflt ((obtain ⟨e9, t9, e8⟩ := ho9); subst e9; subst e8; (replace N9 := Mine.g_none12 N9)); (try dsimp only); (try k_fold))
  k_with "call ref" => (k_here; (with_reducible show wpAny _ _ (call (Value.ref 228) _) _ _ _); k_dflt (refine' Mine.Cm.use (Mine.c_names _ _ _ _ _ _ ?kp) (hp := ?kP) (ret := ?_); (case kP => trivial); (case kp => first | trivial | ((try dsimp only); first | assumption | omega | l_fact))); intro r9 ad9 h9 tk9 ho9 hn9 F9 N9; k_dflt ((obtain ⟨D7, e9, ht9⟩ := ho9); subst e9; (obtain ⟨yn7, xn7, N8, ne9, hsn7, hnn7, hxn7⟩ := Mine.texts_one ht9 hn9 N9); clear N9 ht9 hn9 ne9); (try dsimp only); (try k_fold))
  k_with "exec Assign cons ListComp" => (k_here; k_dflt (refine Mine.Assign_ListComp_V (by k_asm) (by rfl) (by with_unfolding_all rfl) (by with_unfolding_all rfl) (by decide) (by rfl) (by decide) (by rfl) (by rfl) (by rfl) ?_))
  k_with "call ref" => (k_here; (with_reducible show wpAny _ _ (call (Value.ref 235) _) _ _ _); k_dflt (refine' Mine.Cm.use (Mine.c_letter _ _ _ _ _ _ _ _ _ ?kp0) (hp := ?kP) (ret := ?_); (case kP => exact ⟨yn7, xn7, by (repeat (first | exact List.Mem.head _ | refine List.Mem.tail _ ?_)), hsn7, hnn7, hxn7⟩); (case kp0 => first | trivial | ((try dsimp only); first | assumption | omega | l_fact))); intro r9 ad9 h9 tk9 ho9 hn9 F9 N9; k_dflt ((obtain ⟨d9, hI9, hL9⟩ := ho9); (obtain ⟨y9, se9, ba9, lo9, hi9, ed9, hy9, h19, h29⟩ := hL9); subst ed9; (obtain ⟨S9, kk9, tx9, ta9, tb9, tc9, td9, e9, hm9⟩ := Mine.dat_letter hI9); subst e9; clear hI9); (try dsimp only); (try k_fold))
  k_with "call ref" => (k_here; (with_reducible show wpAny _ _ (call (Value.ref 263) _) _ _ _); k_dflt (refine' Mine.Cv.use (Mine.c_lrow _ _ _ _ S9 y9 se9 ba9 lo9 hi9 tx9 ta9 tb9 tc9 td9 kk9 hy9.1 hy9.2 ⟨by omega, by omega⟩ ⟨by omega, by omega⟩ ⟨by omega, by omega⟩ ⟨by omega, by omega⟩ (Mine.let_len12 hy9.1 (by omega) (by omega))) (hp := ?kP) (ret := ?_); (case kP => (show _ ∈ _; exact List.mem_append.mpr (Or.inl hm9)))); intro r9 h9 tk9 ho9 F9 N9; k_dflt ((obtain ⟨x8, v8, e8, hl8, hs8⟩ := ho9); subst e8; (replace N9 := Mine.news_right N9); clear hn9 hm9); (try dsimp only); (try k_fold))
  k_with "call ref" => (k_here; (with_reducible show wpAny _ _ (call (Value.ref 292) _) _ _ _); k_dflt (refine' Mine.Cs.use (Mine.c_spoilt _ _ _ _ D6 zs7 _ _ _ hx7 hlen7 ?hc) (hp := lD6) (ret := ?_); (case hc => first | trivial | ((try dsimp only); first | assumption | omega | l_fact))); intro r9 h9 tk9 ho9 F9 N9; k_dflt ((obtain ⟨X7, tX7, e9, hXl7, hXo7⟩ := ho9); subst e9; (replace N9 := Mine.news_none N9)); (try dsimp only); (try k_fold))
  k_with "call ref" => (k_here; (with_reducible show wpAny _ _ (call (Value.ref 280) _) _ _ _); k_dflt (refine' Mine.Cm.use (Mine.c_due _ _ _ _ _ _ hXl7 hXo7) (hp := ?kP) (ret := ?_); (case kP => trivial)); intro r9 ad5 h9 tk9 ho9 hn9 F9 N9; k_dflt ((obtain ⟨D5, T5, ys5, e5, k5, tw5, er5, hT5, hD5, hA5⟩ := ho9); subst er5; (replace N9 := Mine.news_left N9); clear hn9; (rcases Mine.wordT_cases X7 with ⟨hb6, hw6⟩ | ⟨hb6, hd6, hw6⟩ | ⟨hb6, hd6, hw6⟩ | ⟨hb6, hd6, hw6⟩ <;> rw [hw6] at hT5)); (all_goals (try dsimp only)); (all_goals (try k_fold)))
  k_with "call ref" => (k_here; (with_reducible show wpAny _ _ (call (Value.ref 287) _) _ _ _); k_dflt (refine' Mine.CzMC.use (Mine.c_told_text _ _ _ _ _ _ hXl7 hXo7 hb6) (hp := trivial) (ret := ?_)); intro r9 ad9 h9 tk9 ho9 hn9 F9 N9; k_dflt ((obtain ⟨D4, T4, e4, k4, tw4, er4, ea4⟩ := ho9); subst er4; subst ea4; (replace N9 : News _ _ _ ((T4, _) :: (D4, _) :: ad5) := N9); clear hn9); (try dsimp only); (try k_fold))
  k_with "call ref" => (k_here; (with_reducible show wpAny _ _ (call (Value.ref 287) _) _ _ _); k_dflt (refine' Mine.CzMC.use (Mine.c_told_name _ _ _ _ _ _ hXl7 hXo7 hb6 hd6) (hp := trivial) (ret := ?_)); intro r9 ad9 h9 tk9 ho9 hn9 F9 N9; k_dflt ((obtain ⟨D4, T4, e4, k4, tw4, er4, ea4⟩ := ho9); subst er4; subst ea4; (replace N9 : News _ _ _ ((T4, _) :: (D4, _) :: ad5) := N9); clear hn9); (try dsimp only); (try k_fold))
  k_with "call ref" => (k_here; (with_reducible show wpAny _ _ (call (Value.ref 287) _) _ _ _); k_dflt (refine' Mine.CzMC.use (Mine.c_told_letter _ _ _ _ _ _ hXl7 hXo7 hb6 hd6) (hp := trivial) (ret := ?_)); intro r9 ad9 h9 tk9 ho9 hn9 F9 N9; k_dflt ((obtain ⟨D4, T4, e4, k4, tw4, er4, ea4⟩ := ho9); subst er4; subst ea4; (replace N9 : News _ _ _ ((T4, _) :: (D4, _) :: ad5) := N9); clear hn9); (try dsimp only); (try k_fold))
  k_with "call ref" => (k_here; (with_reducible show wpAny _ _ (call (Value.ref 287) _) _ _ _); k_dflt (refine' Mine.CzMC.use (Mine.c_told_ok _ _ _ _ _ _ hXl7 hXo7 hb6 hd6) (hp := trivial) (ret := ?_)); intro r9 ad9 h9 tk9 ho9 hn9 F9 N9; k_dflt ((obtain ⟨D4, T4, ys4, e4, k4, tw4, ad4, er4, ea4, hap4, hA4⟩ := ho9); subst er4; subst ea4; (replace N9 : News _ _ _ ((T4, _) :: (D4, _) :: (ad4 ++ ad5)) := N9); (have hF4 : ∀ q ∈ ad5, q.1 ≠ D4 := fun q hq => hn9 _ (List.Mem.tail _ (List.Mem.head _)) q hq); clear hn9); (try dsimp only); (try k_fold))
  k_with "compareOp NotEq ref ref" => (k_here; (with_reducible show wpAny _ _ (compareOp CmpOp.NotEq (Value.ref D4) (Value.ref D5)) _ _ _); (rename News _ _ _ _ => kN9); k_dflt (refine' Mine.ne_lists12 kN9 ?ma ?mb hA4 (fun p hp => by (repeat (first | exact hp | exact List.mem_append.mpr (.inl hp) | refine List.mem_append.mpr (.inr ?_) | refine List.Mem.tail _ ?_))) (hA5 hw6) (fun p hp => by (repeat (first | exact hp | refine List.mem_append.mpr (.inr ?_) | refine List.Mem.tail _ ?_))) (Mine.letters_kqd hXo7) ?ni7 ?_; (case ma => (repeat (first | exact hD5 | exact List.Mem.head _ | refine List.mem_append.mpr (.inr ?_) | refine List.Mem.tail _ ?_))); (case mb => (repeat (first | exact hD5 | exact List.Mem.head _ | refine List.mem_append.mpr (.inr ?_) | refine List.Mem.tail _ ?_))); (case ni7 => first | ke_room | ktr_units)))
  k_with "call ref" => (k_here; (with_reducible show wpAny _ _ (call (Value.ref 297) _) _ _ _); k_dflt (refine' Mine.Cv.use (Mine.c_kinds _ _ _ _ D4 ys4 (Mine.lettersOf X7) e4 (fun d hd => Mine.letT_mem hXl7 hXo7 hb6 hd) (Mine.letters_le12 hXl7)) (hp := ?kP) (ret := ?_); (case kP => exact ⟨by (repeat (first | exact hD5 | exact List.Mem.head _ | refine List.mem_append.mpr (.inr ?_) | refine List.Mem.tail _ ?_)), hA4.mono (fun p hp => by (repeat (first | exact hp | exact List.mem_append.mpr (.inl hp) | refine List.mem_append.mpr (.inr ?_) | refine List.Mem.tail _ ?_)))⟩)); intro r9 h9 tk9 ho9 F9 N9; k_dflt (subst ho9); (try dsimp only); (try k_fold))
  k_with "call ref" => (k_here; (with_reducible show wpAny _ _ (call (Value.ref 181) _) _ _ _); k_dflt (refine' Mine.Cm.use (Mine.c_read_ok _ _ _ _ _ _ hXl7 hXo7 hb6 hd6) (hp := ?kP) (ret := ?_); (case kP => trivial)); intro r9 ad9 h9 tk9 ho9 hn9 F9 N9; k_dflt ((obtain ⟨D3, ys3, e3, ag3, er3, ea3, hap3, hA3⟩ := ho9); subst er3; subst ea3; (replace N9 : News _ _ _ ((D3, _) :: (ag3 ++ _)) := N9); clear hn9); (try dsimp only); (try k_fold))
  k_with "call ref" => (k_here; (with_reducible show wpAny _ _ (call (Value.ref 181) _) _ _ _); (have hq4 := hF4); clear hq4; k_dflt (refine' Mine.Cm.use (Mine.c_read_ok _ _ _ _ _ _ hXl7 hXo7 hb6 hd6) (hp := ?kP) (ret := ?_); (case kP => trivial)); intro r9 ad9 h9 tk9 ho9 hn9 F9 N9; k_dflt ((obtain ⟨D3, ys3, e3, ag3, er3, ea3, hap3, hA3⟩ := ho9); subst er3; subst ea3; (replace N9 : News _ _ _ ((D3, _) :: (ag3 ++ _)) := N9); (replace N9 := Mine.news_rd (d4 := (D4, ({ cls := .type "list", data := .seq (List.toArray ys4) e4 } : Obj))) (ad := ad5) N9 (by (repeat (first | exact hD5 | exact List.Mem.head _ | refine List.mem_append.mpr (.inr ?_) | refine List.Mem.tail _ ?_)); done) (fun p hp => by (repeat (first | exact hp | refine List.mem_append.mpr (.inr ?_) | refine List.Mem.tail _ ?_))))); (try dsimp only); (try k_fold))
  k_with "call builtin:list.clear" => (k_here; (with_reducible show wpAny _ _ (call (Value.builtin _) [Value.ref _]) _ _ _); (rename News _ _ _ _ => kN9); (rename Fr _ _ _ _ => kF9); k_dflt (refine' Mine.clear12 (its := ys4.toArray) (n := e4) kF9 kN9 ?qm ((D3, ({ cls := .type "list", data := .seq (List.toArray ys3) e3 } : Obj)) :: (ag3 ++ ad5)) ?qs ?qn ?qz ?_; (case qm => (repeat (first | exact hD5 | exact List.Mem.head _ | refine List.mem_append.mpr (.inr ?_) | refine List.Mem.tail _ ?_))); (case qs => exact fun p hp => List.Mem.tail _ hp); (case qn => exact Mine.ne_clr (fun p hp => Ne.symm (hn9 p hp (D4, ({ cls := .type "list", data := .seq (List.toArray ys4) e4 } : Obj)) (by (repeat (first | exact hD5 | exact List.Mem.head _ | refine List.mem_append.mpr (.inr ?_) | refine List.Mem.tail _ ?_))))) hF4); (case qz => (rw [List.size_toArray, hA4.length, sizeLine_eq]; exact Nat.le_trans (Mine.letters_le12 hXl7) (by decide)))); intro h5 F5 N5; clear hn9 hF4; (try dsimp only); (try k_fold))
  k_with "compareOp Eq ref ref" => (k_here; (with_reducible show wpAny _ _ (compareOp CmpOp.Eq (Value.ref D3) (Value.ref D5)) _ _ _); (rename News _ _ _ _ => kN9); k_dflt (refine' Mine.eq_lists12 kN9 ?ma ?mb hA3 (fun p hp => by (repeat (first | exact hp | exact List.mem_append.mpr (.inl hp) | refine List.mem_append.mpr (.inr ?_) | refine List.Mem.tail _ ?_))) (hA5 hw6) (fun p hp => by (repeat (first | exact hp | refine List.mem_append.mpr (.inr ?_) | refine List.Mem.tail _ ?_))) (Mine.letters_kqd hXo7) ?ni7 ?_; (case ma => (repeat (first | exact hD5 | exact List.Mem.head _ | refine List.mem_append.mpr (.inr ?_) | refine List.Mem.tail _ ?_))); (case mb => (repeat (first | exact hD5 | exact List.Mem.head _ | refine List.mem_append.mpr (.inr ?_) | refine List.Mem.tail _ ?_))); (case ni7 => first | ke_room | ktr_units)))
  k_go0
  (all_goals try k_fold)
  k_steps
  (rename News _ _ _ _ => kN8)
  (rename IntsAre _ (List.take _ _) => hI8)
  k_dflt (refine Mine.SrcU.ledger (by rfl) (by k_asm) kN8 (List.Mem.head _) (by rw [List.size_toArray, hI8.length, List.length_take, sizeLine_eq]; omega) ?_)
  intro g9
  refine Mine.rest_txts12 125 (.inr ⟨_, List.Mem.head _, rfl, _, rfl⟩) ?_ ?_
  · intro i8 v8 zs8 I8 oI8 C8 oC8 D8 m8 h8 tk8 E8 hi8 hv8 hC8 hx8 F8 N8 off8 ne88
    obtain ⟨c8, t8, rfl, hc8⟩ := Mine.cell_item hI8 (by assumption) hv8
    have hc88 : Mine.CellOk c8 ∧ True := ⟨hc8, trivial⟩
    clear kN8
    k_steps
    all_goals first | (refine Mine.CompTurn.intro (by k_asm) (by k_asm) _ ?cS ?cO trivial ⟨rfl, Mine.textLe_of hl8 hs8⟩; (case cS => first | exact fun _ h => h | kst_inAny); (case cO => assumption))
  · intro zs7 hl7 hx7
    intro D6 h7 tk7 F7 N7 o7
    have hlen7 : zs7.length ≤ 30 := by rw [hl7, List.size_toArray, hI8.length, List.length_take]; omega
    have lD6 := Mine.off1_mem o7
    clear kN8
    k_steps
  namespace Mine
def hd12.tw10053695651653971116 : Unit := ()
def hd12.tw10117244845011476849 : Unit := ()
def hd12.tw10213561231508879268 : Unit := ()
def hd12.tw10226550323409333441 : Unit := ()
def hd12.tw10250953506595406497 : Unit := ()
def hd12.tw10256443147770640191 : Unit := ()
def hd12.tw10379239989986916594 : Unit := ()
def hd12.tw10440706434850694973 : Unit := ()
def hd12.tw10479443014068064465 : Unit := ()
def hd12.tw10536819775549209584 : Unit := ()
def hd12.tw10554161822551691550 : Unit := ()
def hd12.tw10579430899939791128 : Unit := ()
def hd12.tw10678571643626356459 : Unit := ()
def hd12.tw10757267496750418357 : Unit := ()
def hd12.tw10807685637523774857 : Unit := ()
def hd12.tw11074662659791705324 : Unit := ()
def hd12.tw11162231929788324460 : Unit := ()
def hd12.tw1119252850305714025 : Unit := ()
def hd12.tw11213036385367715487 : Unit := ()
def hd12.tw11267123266179528565 : Unit := ()
def hd12.tw11317322460700619374 : Unit := ()
def hd12.tw11319507205715836035 : Unit := ()
def hd12.tw11389647000708871061 : Unit := ()
def hd12.tw11423349211138806154 : Unit := ()
def hd12.tw11458174655321700383 : Unit := ()
def hd12.tw11507575673303366020 : Unit := ()
def hd12.tw1154166517084302705 : Unit := ()
def hd12.tw11552882082596690260 : Unit := ()
def hd12.tw11552883852242461832 : Unit := ()
def hd12.tw1158269626984968038 : Unit := ()
def hd12.tw11594857458824489372 : Unit := ()
def hd12.tw11658871656360504793 : Unit := ()
def hd12.tw11669339819619369883 : Unit := ()
def hd12.tw11675864841989007327 : Unit := ()
def hd12.tw11778493787451852390 : Unit := ()
def hd12.tw1186072161986401905 : Unit := ()
def hd12.tw1187071434940497850 : Unit := ()
def hd12.tw11883055755383119660 : Unit := ()
def hd12.tw11886244056495162045 : Unit := ()
def hd12.tw1200733887361805620 : Unit := ()
def hd12.tw12009556129295662850 : Unit := ()
def hd12.tw12017847086195241929 : Unit := ()
def hd12.tw12025945667098175747 : Unit := ()
def hd12.tw12035130331659798484 : Unit := ()
def hd12.tw12078406273045663132 : Unit := ()
def hd12.tw12095271799866928456 : Unit := ()
def hd12.tw12166828378703035580 : Unit := ()
def hd12.tw12168484977822471394 : Unit := ()
def hd12.tw12205502792858092748 : Unit := ()
def hd12.tw12226009533214897103 : Unit := ()
def hd12.tw1224030519351353730 : Unit := ()
def hd12.tw12249165194507039711 : Unit := ()
def hd12.tw12260348157739252152 : Unit := ()
def hd12.tw12297968721933599708 : Unit := ()
def hd12.tw12495325648406476001 : Unit := ()
def hd12.tw12539237363889642072 : Unit := ()
def hd12.tw12552862209836015625 : Unit := ()
def hd12.tw12564145320762040536 : Unit := ()
def hd12.tw12584057841858305538 : Unit := ()
def hd12.tw12962107360851506573 : Unit := ()
def hd12.tw12965239858326796726 : Unit := ()
def hd12.tw13126526868575515844 : Unit := ()
def hd12.tw13268634044445897369 : Unit := ()
def hd12.tw13308032431355548503 : Unit := ()
def hd12.tw13418260063029152171 : Unit := ()
def hd12.tw13440602934364477182 : Unit := ()
def hd12.tw13458401801798597911 : Unit := ()
def hd12.tw13525084918378162209 : Unit := ()
def hd12.tw13592541005672276482 : Unit := ()
def hd12.tw13629224854961480088 : Unit := ()
def hd12.tw13647138217091478454 : Unit := ()
def hd12.tw13657059065731061128 : Unit := ()
def hd12.tw13701290072526265429 : Unit := ()
def hd12.tw13713160569484720275 : Unit := ()
def hd12.tw1388218142117182225 : Unit := ()
def hd12.tw13887453371213690431 : Unit := ()
def hd12.tw13913895741733877914 : Unit := ()
def hd12.tw13956479346875988843 : Unit := ()
def hd12.tw14042610914960977418 : Unit := ()
def hd12.tw14084496155533563094 : Unit := ()
def hd12.tw1409238044500518584 : Unit := ()
def hd12.tw14108561356333832952 : Unit := ()
def hd12.tw14266208555849013925 : Unit := ()
def hd12.tw14306242997151777619 : Unit := ()
def hd12.tw14381801142679954874 : Unit := ()
def hd12.tw14445382711238411375 : Unit := ()
def hd12.tw14814212432847593797 : Unit := ()
def hd12.tw14856989739135927692 : Unit := ()
def hd12.tw14872977496704284061 : Unit := ()
def hd12.tw14893870667261952261 : Unit := ()
def hd12.tw14896998157710041885 : Unit := ()
def hd12.tw14903356334701191320 : Unit := ()
def hd12.tw14925237000672638527 : Unit := ()
def hd12.tw14949973658574184308 : Unit := ()
def hd12.tw14956428775747936747 : Unit := ()
def hd12.tw14979044662656165230 : Unit := ()
def hd12.tw14984415473038454081 : Unit := ()
def hd12.tw15018805009649338816 : Unit := ()
def hd12.tw15066022206156301234 : Unit := ()
def hd12.tw15092266425399268141 : Unit := ()
def hd12.tw15176705878667031402 : Unit := ()
def hd12.tw1522654419791861544 : Unit := ()
def hd12.tw15241124496302687375 : Unit := ()
def hd12.tw15245438016903138704 : Unit := ()
def hd12.tw15272759285953104837 : Unit := ()
def hd12.tw15295782545518451100 : Unit := ()
def hd12.tw15338783055739719302 : Unit := ()
def hd12.tw15405613305905800912 : Unit := ()
def hd12.tw15443817601350616989 : Unit := ()
def hd12.tw15546027992547563645 : Unit := ()
def hd12.tw15557506464355483388 : Unit := ()
def hd12.tw15589860598166998001 : Unit := ()
def hd12.tw156071221099408025 : Unit := ()
def hd12.tw15712841186590817589 : Unit := ()
def hd12.tw15761898972369724476 : Unit := ()
def hd12.tw15801776525565525478 : Unit := ()
def hd12.tw15855989541743301774 : Unit := ()
def hd12.tw15940671342844979294 : Unit := ()
def hd12.tw1594316694285837294 : Unit := ()
def hd12.tw15963563597438971154 : Unit := ()
def hd12.tw15964782765017763785 : Unit := ()
def hd12.tw16019537264176075282 : Unit := ()
def hd12.tw16021222818300332229 : Unit := ()
def hd12.tw16072023461963939222 : Unit := ()
def hd12.tw16173013243356553642 : Unit := ()
def hd12.tw16231599101528221180 : Unit := ()
def hd12.tw16237922112401844277 : Unit := ()
def hd12.tw16285564748861141182 : Unit := ()
def hd12.tw16401785166020819396 : Unit := ()
def hd12.tw16471615926354510787 : Unit := ()
def hd12.tw16527052383707271606 : Unit := ()
def hd12.tw16641917592531649712 : Unit := ()
def hd12.tw16705671180084396146 : Unit := ()
def hd12.tw1672450818009425966 : Unit := ()
def hd12.tw1675335533611703889 : Unit := ()
def hd12.tw16791325250444920088 : Unit := ()
def hd12.tw16843959233286844110 : Unit := ()
def hd12.tw1684514876398414775 : Unit := ()
def hd12.tw16862134537258768716 : Unit := ()
def hd12.tw16868598327966867287 : Unit := ()
def hd12.tw16971553551223608690 : Unit := ()
def hd12.tw17013734174856906303 : Unit := ()
def hd12.tw17070956635665301639 : Unit := ()
def hd12.tw17083955805749637000 : Unit := ()
def hd12.tw17118441997317111149 : Unit := ()
def hd12.tw17149533365879900445 : Unit := ()
def hd12.tw17154036372335187710 : Unit := ()
def hd12.tw17156219352860576601 : Unit := ()
def hd12.tw17186528013423342892 : Unit := ()
def hd12.tw17425524620342688470 : Unit := ()
def hd12.tw17736345922271617420 : Unit := ()
def hd12.tw17736895359910589429 : Unit := ()
def hd12.tw17787118090094894099 : Unit := ()
def hd12.tw17798857469544114167 : Unit := ()
def hd12.tw17816808687706761040 : Unit := ()
def hd12.tw18154400273612877186 : Unit := ()
def hd12.tw18182648622497633117 : Unit := ()
def hd12.tw18366956692535055028 : Unit := ()
def hd12.tw18379371928064489921 : Unit := ()
def hd12.tw18428321539065669646 : Unit := ()
def hd12.tw18439851168887216434 : Unit := ()
def hd12.tw1871086357341660486 : Unit := ()
def hd12.tw191204789382631375 : Unit := ()
def hd12.tw1969814991873576498 : Unit := ()
def hd12.tw1970858488080380060 : Unit := ()
def hd12.tw2017278938823966680 : Unit := ()
def hd12.tw2024546598254249949 : Unit := ()
def hd12.tw2074879321312506082 : Unit := ()
def hd12.tw2075803102132619832 : Unit := ()
def hd12.tw2167263427934137374 : Unit := ()
def hd12.tw220507706866234703 : Unit := ()
def hd12.tw2258807577629905923 : Unit := ()
def hd12.tw2268185318837051435 : Unit := ()
def hd12.tw2390476399507877135 : Unit := ()
def hd12.tw2392293472388836407 : Unit := ()
def hd12.tw2633653141551303980 : Unit := ()
def hd12.tw2687219887175223186 : Unit := ()
def hd12.tw2790234063304210179 : Unit := ()
def hd12.tw2800858135644918417 : Unit := ()
def hd12.tw2817987846253810591 : Unit := ()
def hd12.tw2888303227315600398 : Unit := ()
def hd12.tw2941550048532029065 : Unit := ()
def hd12.tw2963171798785834740 : Unit := ()
def hd12.tw3007545169942952540 : Unit := ()
def hd12.tw3012649716850786181 : Unit := ()
def hd12.tw3030778394707548315 : Unit := ()
def hd12.tw3112621824072223971 : Unit := ()
def hd12.tw3238592494166913136 : Unit := ()
def hd12.tw32838018817526524 : Unit := ()
def hd12.tw3306194802444922359 : Unit := ()
def hd12.tw3379132105825324611 : Unit := ()
def hd12.tw3436626434521493665 : Unit := ()
def hd12.tw348620264672261544 : Unit := ()
def hd12.tw354929022194378734 : Unit := ()
def hd12.tw3571799618030020890 : Unit := ()
def hd12.tw3573656465272299216 : Unit := ()
def hd12.tw3650742962101056254 : Unit := ()
def hd12.tw3737147668365544816 : Unit := ()
def hd12.tw3832138576920391960 : Unit := ()
def hd12.tw3844199808561233401 : Unit := ()
def hd12.tw3972818835039610281 : Unit := ()
def hd12.tw398355788444370867 : Unit := ()
def hd12.tw3987434187996607563 : Unit := ()
def hd12.tw404779611771790510 : Unit := ()
def hd12.tw4098943830280973816 : Unit := ()
def hd12.tw4159019762891897220 : Unit := ()
def hd12.tw4370153764359523677 : Unit := ()
def hd12.tw4409545600590898442 : Unit := ()
def hd12.tw4464681409180709444 : Unit := ()
def hd12.tw4473858932602741912 : Unit := ()
def hd12.tw4530362966989954805 : Unit := ()
def hd12.tw4627841831555356847 : Unit := ()
def hd12.tw465958246219706238 : Unit := ()
def hd12.tw4671966168220853810 : Unit := ()
def hd12.tw4708143900455558399 : Unit := ()
def hd12.tw4743138384086938743 : Unit := ()
def hd12.tw4747096594385058828 : Unit := ()
def hd12.tw4748015673927942470 : Unit := ()
def hd12.tw4796998158100920031 : Unit := ()
def hd12.tw4854891114143960068 : Unit := ()
def hd12.tw4870894392095356993 : Unit := ()
def hd12.tw4908434641185116302 : Unit := ()
def hd12.tw4935998383645906636 : Unit := ()
def hd12.tw4951860490734713050 : Unit := ()
def hd12.tw4981163293527217040 : Unit := ()
def hd12.tw5068092818789989674 : Unit := ()
def hd12.tw519413015170185639 : Unit := ()
def hd12.tw5204676169996411446 : Unit := ()
def hd12.tw521893163782983264 : Unit := ()
def hd12.tw5314528603247528838 : Unit := ()
def hd12.tw5368844774270201426 : Unit := ()
def hd12.tw545753011056829714 : Unit := ()
def hd12.tw5562668798965947930 : Unit := ()
def hd12.tw5606431604595017914 : Unit := ()
def hd12.tw5729376766487081357 : Unit := ()
def hd12.tw5805675469125377677 : Unit := ()
def hd12.tw5897312350214338136 : Unit := ()
def hd12.tw5955683570586700573 : Unit := ()
def hd12.tw6064202068629892100 : Unit := ()
def hd12.tw6160800103022959989 : Unit := ()
def hd12.tw6218932318408021373 : Unit := ()
def hd12.tw622101130644899278 : Unit := ()
def hd12.tw6272904284140647420 : Unit := ()
def hd12.tw6535259769237242449 : Unit := ()
def hd12.tw6599887956938040856 : Unit := ()
def hd12.tw6630875685610141886 : Unit := ()
def hd12.tw665492552453236423 : Unit := ()
def hd12.tw6786259369385548555 : Unit := ()
def hd12.tw6902290250652484993 : Unit := ()
def hd12.tw695747009088531626 : Unit := ()
def hd12.tw7003543047943516164 : Unit := ()
def hd12.tw7055017424374424855 : Unit := ()
def hd12.tw7098176274838383286 : Unit := ()
def hd12.tw7112519148225204072 : Unit := ()
def hd12.tw711596187339659394 : Unit := ()
def hd12.tw7180543808758902951 : Unit := ()
def hd12.tw7211101885568624871 : Unit := ()
def hd12.tw7212169844232499960 : Unit := ()
def hd12.tw7254591323667716073 : Unit := ()
def hd12.tw7298426686281782254 : Unit := ()
def hd12.tw7308360856886737143 : Unit := ()
def hd12.tw7328765222703307501 : Unit := ()
def hd12.tw739663312299187856 : Unit := ()
def hd12.tw7459691931110920612 : Unit := ()
def hd12.tw7479464404894950740 : Unit := ()
def hd12.tw7485552502249796010 : Unit := ()
def hd12.tw7510983750076697662 : Unit := ()
def hd12.tw7511171548986089760 : Unit := ()
def hd12.tw751427506851509485 : Unit := ()
def hd12.tw7580101685718801394 : Unit := ()
def hd12.tw7735189905668809629 : Unit := ()
def hd12.tw7767919609033220923 : Unit := ()
def hd12.tw7853184156155382899 : Unit := ()
def hd12.tw7969535305792874562 : Unit := ()
def hd12.tw7979177888080503784 : Unit := ()
def hd12.tw8018010327610416910 : Unit := ()
def hd12.tw8152670441007797275 : Unit := ()
def hd12.tw817322960145463220 : Unit := ()
def hd12.tw8194200812444770199 : Unit := ()
def hd12.tw8208592094964200409 : Unit := ()
def hd12.tw8325685233779300365 : Unit := ()
def hd12.tw8360886548945220929 : Unit := ()
def hd12.tw8448301500558972933 : Unit := ()
def hd12.tw8497863787043543684 : Unit := ()
def hd12.tw8669974561846009761 : Unit := ()
def hd12.tw8685261823553283597 : Unit := ()
def hd12.tw8706976298275275312 : Unit := ()
def hd12.tw8774417313752260206 : Unit := ()
def hd12.tw8786893749548370086 : Unit := ()
def hd12.tw8801785172932096682 : Unit := ()
def hd12.tw8973768640494428020 : Unit := ()
def hd12.tw902478254774390964 : Unit := ()
def hd12.tw9033769620805434314 : Unit := ()
def hd12.tw9078338301898960678 : Unit := ()
def hd12.tw9131699328630522789 : Unit := ()
def hd12.tw9189268641612086892 : Unit := ()
def hd12.tw9216296015445896005 : Unit := ()
def hd12.tw9232378437024687111 : Unit := ()
def hd12.tw9327365258124789769 : Unit := ()
def hd12.tw9452704763621281530 : Unit := ()
def hd12.tw9463629817860440748 : Unit := ()
def hd12.tw949907991701000487 : Unit := ()
def hd12.tw9619714393288129402 : Unit := ()
def hd12.tw9707393352039662871 : Unit := ()
def hd12.tw9732079137472016357 : Unit := ()
def hd12.tw9737145093627127736 : Unit := ()
def hd12.tw9816826298125815093 : Unit := ()
def hd12.tw9844377396812029171 : Unit := ()
def hd12.tw9868890345114623593 : Unit := ()
def hd12.tw9928619473030651757 : Unit := ()
def hd12.tw9942283687669911329 : Unit := ()
def hd12.tw9972990709019222845 : Unit := ()
set_option Elab.async true in
theorem hd12 : PySem.Challenge.rw_uf050027_12.Holds := by
  w_on
  o_law
  o_head (kHook k12.heap_1 [2, 3, 15, 22, 23, 24, 25, 28, 35, 36, 37, 40, 47, 48, 49, 52, 59, 60, 61, 64, 71, 72, 73, 76, 83, 84, 85, 88, 95, 96, 97, 100, 107, 108, 109, 112, 119, 120, 121, 124, 131, 132, 133, 136, 143, 144, 145, 148, 150, 151, 153, 154, 155, 158, 159, 160, 163, 164, 165, 167, 168, 170, 171, 172, 175, 176, 177, 180, 181, 182, 184, 185, 187, 188, 189, 191, 192, 194, 195, 196, 198, 199, 201, 202, 203, 205, 206, 208, 209, 210, 212, 213, 215, 216, 217, 219, 220, 222, 223, 224, 227, 228, 229, 231, 232, 234, 235, 236, 238, 239, 241, 242, 243, 245, 246, 248, 249, 250, 252, 253, 255, 256, 257, 259, 260, 262, 263, 264, 266, 267, 269, 270, 271, 274, 275, 276, 279, 280, 281, 283, 284, 286, 287, 288, 291, 292, 293, 296, 297, 298, 301, 302] kas12)
  (case hw => w_witness2)
  exact walk12 _ _ (by rfl)
end Mine
theorem PySem.Challenge.cw_uf050027_12_holds : PySem.Challenge.rw_uf050027_12.Holds :=
  Mine.hd12
