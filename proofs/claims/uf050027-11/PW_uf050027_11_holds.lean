import PyProof.Rows.All
import Wide.All
import OpenK.AllK
import Wide.FinOn
import PySem.Challenge.RW_uf050027_11
open PySem PySem.W PyProof.Rows
set_option Elab.async false
set_option maxRecDepth 100000
set_option maxHeartbeats 0
namespace Mine
open_top hd11 for PySem.Challenge.rw_uf050027_11
end Mine
namespace Mine
def mix (c k : Int) : Int := Int.fmod (Int.fmod ((c + 7919 * k + 1) * 48271) 1000003 * Int.fmod ((c + 7919 * k + 1) * 48271) 1000003) 999983
theorem mix_bd (c k : Int) : 0 ≤ mix c k ∧ mix c k < 999983 := by
  unfold mix
  generalize Int.fmod ((c + 7919 * k + 1) * 48271) 1000003 * Int.fmod ((c + 7919 * k + 1) * 48271) 1000003 = x
  exact ⟨Int.fmod_nonneg_of_pos x (by decide), Int.fmod_lt_of_pos x (by decide)⟩
def big (c k : Int) : Int :=
  if Int.fmod (mix c (k + 90)) 4 = 0 then Int.fmod (mix c k) 30
  else if Int.fmod (mix c (k + 90)) 4 = 1 then Int.fmod (mix c k) 3000
  else if Int.fmod (mix c (k + 90)) 4 = 2 then
    (if Int.fmod (mix c k) 4 = 0 then 0 else if Int.fmod (mix c k) 4 = 1 then 1 else if Int.fmod (mix c k) 4 = 2 then 1000000000000 else 999999999999)
  else Int.fmod (mix c k * 1000003 + mix c (k + 50)) 1000000000001
theorem big_bd (c k : Int) : 0 ≤ big c k ∧ big c k ≤ 1000000000000 := by
  unfold big
  have h1 := Int.fmod_nonneg_of_pos (mix c k) (show (0 : Int) < 30 by decide)
  have h2 := Int.fmod_lt_of_pos (mix c k) (show (0 : Int) < 30 by decide)
  have h3 := Int.fmod_nonneg_of_pos (mix c k) (show (0 : Int) < 3000 by decide)
  have h4 := Int.fmod_lt_of_pos (mix c k) (show (0 : Int) < 3000 by decide)
  have h5 := Int.fmod_nonneg_of_pos (mix c k * 1000003 + mix c (k + 50)) (show (0 : Int) < 1000000000001 by decide)
  have h6 := Int.fmod_lt_of_pos (mix c k * 1000003 + mix c (k + 50)) (show (0 : Int) < 1000000000001 by decide)
  (repeat' split) <;> omega
def off (c : Int) : Int := [0, 0, 1, 999, Int.fmod (mix c 70) 30, Int.fmod (mix c 71) 1000].getD (Int.fmod c 6).toNat 0
theorem off_bd (c : Int) : 0 ≤ off c ∧ off c ≤ 999 := by
  unfold off
  have h1 := Int.fmod_nonneg_of_pos (mix c 70) (show (0 : Int) < 30 by decide)
  have h2 := Int.fmod_lt_of_pos (mix c 70) (show (0 : Int) < 30 by decide)
  have h3 := Int.fmod_nonneg_of_pos (mix c 71) (show (0 : Int) < 1000 by decide)
  have h4 := Int.fmod_lt_of_pos (mix c 71) (show (0 : Int) < 1000 by decide)
  generalize (Int.fmod c 6).toNat = i
  match i with
  | 0 => simp
  | 1 => simp
  | 2 => simp
  | 3 => simp
  | 4 => simp; omega
  | 5 => simp; omega
  | n + 6 => simp
def sl (p o : Int) : Int := Int.fdiv (p * o + 999) 1000
theorem fdiv_lo (x : Int) : Int.fdiv x 1000 * 1000 ≤ x ∧ x < Int.fdiv x 1000 * 1000 + 1000 := by
  rw [Int.fdiv_eq_ediv_of_nonneg x (by decide)]
  omega
theorem sl_up (p o : Int) (h : Int.fdiv (p * o) 1000 * 1000 < p * o) : Int.fdiv (p * o) 1000 + 1 = sl p o := by
  unfold sl
  have h1 := fdiv_lo (p * o)
  have h2 := fdiv_lo (p * o + 999)
  omega
theorem sl_same (p o : Int) (h : ¬ Int.fdiv (p * o) 1000 * 1000 < p * o) : Int.fdiv (p * o) 1000 = sl p o := by
  unfold sl
  have h1 := fdiv_lo (p * o)
  have h2 := fdiv_lo (p * o + 999)
  omega
theorem sl_own (p o : Int) : Int.fdiv (p * o + 1000 - 1) 1000 = sl p o := by
  unfold sl
  rw [show p * o + 1000 - 1 = p * o + 999 by omega]
end Mine
namespace Mine
open PySem PySem.W PyProof.Rows
/-- what a call of a def of the text tells: it ends, hands back R, and leaves the frame and the ledger -/
def Ct (prog : Program) (w : World) (K : Frag) (p : Program) (loose : List Str) (mean : ExcName → Option Value) (mg mb : Str → Option Value) (f : Addr) (sz : Nat) (vs : List Value) (P : Prop) (R : Tok → Value) : Prop :=
  ∀ (dp un : Nat) (gd : Option (List Code)) (cn : Str) (cs : Scope) (a : Addr) (ccd : Value) (cl : List (Str × Addr)) (outer : List Env) (A₀ : Around) (base h₀ : Heap) (L : Addr) (m : Str → Option Value) (news : List (Addr × Obj)) (s : Shared) (Q E : Value → Shared → Prop),
    Below A₀ base outer h₀ → Fr h₀ L s.heap m → K.In h₀ → News h₀ L s.heap news → Top p loose mean mg mb h₀ → cs.kind = .function → dp + sz < recursionLimit → un + 8 * sz < cLine →
    (∀ (t : Tok) (h' : Heap) (tk' : Nat), P → Fr h₀ L h' m → News h₀ L h' news → Q (R t) { s with heap := h', toks := tk' }) →
    wpAny (model prog w) (ktrTop dp un gd cn cs L a ccd cl outer) (call (.ref f) vs) Q E s
theorem Ct.use {prog : Program} {w : World} {K : Frag} {p : Program} {loose : List Str} {mean : ExcName → Option Value} {mg mb : Str → Option Value} {f : Addr} {sz : Nat} {vs : List Value} {P : Prop} {R : Tok → Value} (C : Ct prog w K p loose mean mg mb f sz vs P R)
    {dp un : Nat} {gd : Option (List Code)} {cn : Str} {cs : Scope} {a : Addr} {ccd : Value} {cl : List (Str × Addr)} {outer : List Env} {A₀ : Around} {base h₀ : Heap} {L : Addr} {m : Str → Option Value} {news : List (Addr × Obj)} {s : Shared} {Q E : Value → Shared → Prop}
    (B : Below A₀ base outer h₀ := by k_asm) (F : Fr h₀ L s.heap m := by k_asm) (X : K.In h₀ := by k_asm) (N : News h₀ L s.heap news := by k_asm) (T : Top p loose mean mg mb h₀ := by k_asm) (hk : cs.kind = .function := by first | exact rfl | assumption) (hd : dp + sz < recursionLimit := by first | assumption | omega | ktr_room) (hu : un + 8 * sz < cLine := by first | assumption | omega | ktr_units)
    (ret : ∀ (t : Tok) (h' : Heap) (tk' : Nat), P → Fr h₀ L h' m → News h₀ L h' news → Q (R t) { s with heap := h', toks := tk' }) :
    wpAny (model prog w) (ktrTop dp un gd cn cs L a ccd cl outer) (call (.ref f) vs) Q E s := C _ _ _ _ _ _ _ _ _ _ _ _ _ _ _ _ _ _ B F X N T hk hd hu ret
theorem ct_retI {h₀ h' : Heap} {L : Addr} {m : Str → Option Value} {news : List (Addr × Obj)} {s : Shared} {Q : Value → Shared → Prop} {t : Tok} {tk' : Nat} {P : Prop} {x y : Int}
    (hret : ∀ (t : Tok) (h' : Heap) (tk' : Nat), P → Fr h₀ L h' m → News h₀ L h' news → Q (.int x t) { s with heap := h', toks := tk' }) (hP : P) (e : y = x) (F : Fr h₀ L h' m) (N : News h₀ L h' news) : Q (.int y t) { s with heap := h', toks := tk' } := by
  subst e
  exact hret t h' tk' hP F N
def CellOk (c : Int) : Prop := Builtin.Int.intBits c ≤ 1100000
theorem CellOk.bits {c : Int} {P : Prop} (h : CellOk c ∧ P) : Builtin.Int.intBits c ≤ 1100000 := h.1
theorem cellOk_of {c : Int} {n : Nat} (h : Builtin.Int.intBits c ≤ n) (hn : n ≤ 1100000) : CellOk c := Nat.le_trans h hn
end Mine
local macro_rules | `(tactic| bits_by_make) => `(tactic| exact Mine.CellOk.bits (by assumption))
local macro_rules | `(tactic| l_fact) => `(tactic| ((with_reducible refine And.intro (a := Mine.CellOk _) ?_ ?_); (focus (first | exact And.left (by assumption) | exact Mine.cellOk_of (by bits_by_make) (by decide))); (focus (first | omega | (k_fmods; omega) | (kmn_bounds; omega)))))
local macro_rules | `(tactic| walk_at $s:str) => `(tactic| k_extra $s)
namespace Mine
abbrev Con (w : World) (mean : ExcName → Option Value) (mg mb : Str → Option Value) (f : Addr) (sz : Nat) (vs : List Value) (P : Prop) (R : Tok → Value) : Prop :=
  Ct PySem.Challenge.rw_uf050027_11.row.prog w (hd11.heap_39 w.params) hd11.view_39 (looseW hd11.view_39 []) mean mg mb f sz vs P R
end Mine
namespace Mine
theorem c_lmix (w : World) (mean : ExcName → Option Value) (mg mb : Str → Option Value) (x0 x1 : Int) (tx0 tx1 : Tok) (hpre : (fun c k => CellOk c ∧ 0 ≤ k ∧ k ≤ 1000) x0 x1 := by first | trivial | ((try dsimp only); first | assumption | omega | l_fact)) : Con w mean mg mb 40 1 [.int x0 tx0, .int x1 tx1] ((fun c k => 0 ≤ mix c k ∧ mix c k < 999983) x0 x1) (fun t => .int (mix x0 x1) t) := by
  unfold Con Ct
  k_fill
  w_top off
  intro dp un gd cn cs a ccd cl outer A₀ base h₀ L m news s Q E B F X N T hk hd hu hret
  refine wpAny_call ?_
  k_dflt cell_enter
  k_with_none
  k_steps
  all_goals (refine' ct_retI hret ?e1 ?e2 ?e3 ?e4; (case e3 => k_asm); (case e4 => first | k_asm | (refine' cb_drop ?cbN ?cbS; (case cbN => assumption); (case cbS => kcj_all))); (case e1 => exact mix_bd _ _); (case e2 => rfl))
end Mine
namespace Mine
theorem c_lbig (w : World) (mean : ExcName → Option Value) (mg mb : Str → Option Value) (x0 x1 : Int) (tx0 tx1 : Tok) (hpre : (fun c k => CellOk c ∧ 0 ≤ k ∧ k ≤ 500) x0 x1 := by first | trivial | ((try dsimp only); first | assumption | omega | l_fact)) : Con w mean mg mb 47 2 [.int x0 tx0, .int x1 tx1] ((fun c k => 0 ≤ big c k ∧ big c k ≤ 1000000000000) x0 x1) (fun t => .int (big x0 x1) t) := by
  unfold Con Ct
  k_fill
  w_top off
  intro dp un gd cn cs a ccd cl outer A₀ base h₀ L m news s Q E B F X N T hk hd hu hret
  refine wpAny_call ?_
  k_dflt cell_enter
  k_with_none
  k_with "call ref" => (k_here; (with_reducible show wpAny _ _ (call (Value.ref 40) _) _ _ _); k_dflt (refine Mine.Ct.use (Mine.c_lmix _ _ _ _ _ _ _ _) (ret := ?_)); intro t9 h9 tk9 P9 F9 N9; (try dsimp only); (try k_fold))
  k_steps
  all_goals (refine' ct_retI hret ?e1 ?e2 ?e3 ?e4; (case e3 => k_asm); (case e4 => first | k_asm | (refine' cb_drop ?cbN ?cbS; (case cbN => assumption); (case cbS => kcj_all))); (case e1 => exact big_bd _ _); (case e2 => (unfold big; cb_eq)))
end Mine
namespace Mine
open PySem PySem.W PyProof.Rows
/-- a call hands back a value of which Out is told; the ledger is as it was -/
def Cv (prog : Program) (w : World) (K : Frag) (p : Program) (loose : List Str) (mean : ExcName → Option Value) (mg mb : Str → Option Value) (f : Addr) (sz : Nat) (vs : List Value) (P : List (Addr × Obj) → Prop) (Out : Value → Prop) : Prop :=
  ∀ (dp un : Nat) (gd : Option (List Code)) (cn : Str) (cs : Scope) (a : Addr) (ccd : Value) (cl : List (Str × Addr)) (outer : List Env) (A₀ : Around) (base h₀ : Heap) (L : Addr) (m : Str → Option Value) (news : List (Addr × Obj)) (s : Shared) (Q E : Value → Shared → Prop),
    Below A₀ base outer h₀ → Fr h₀ L s.heap m → K.In h₀ → News h₀ L s.heap news → Top p loose mean mg mb h₀ → cs.kind = .function → dp + sz < recursionLimit → un + 8 * sz < cLine → P news →
    (∀ (r : Value) (h' : Heap) (tk' : Nat), Out r → Fr h₀ L h' m → News h₀ L h' news → Q r { s with heap := h', toks := tk' }) →
    wpAny (model prog w) (ktrTop dp un gd cn cs L a ccd cl outer) (call (.ref f) vs) Q E s
theorem Cv.use {prog : Program} {w : World} {K : Frag} {p : Program} {loose : List Str} {mean : ExcName → Option Value} {mg mb : Str → Option Value} {f : Addr} {sz : Nat} {vs : List Value} {P : List (Addr × Obj) → Prop} {Out : Value → Prop} (C : Cv prog w K p loose mean mg mb f sz vs P Out)
    {dp un : Nat} {gd : Option (List Code)} {cn : Str} {cs : Scope} {a : Addr} {ccd : Value} {cl : List (Str × Addr)} {outer : List Env} {A₀ : Around} {base h₀ : Heap} {L : Addr} {m : Str → Option Value} {news : List (Addr × Obj)} {s : Shared} {Q E : Value → Shared → Prop}
    (B : Below A₀ base outer h₀ := by k_asm) (F : Fr h₀ L s.heap m := by k_asm) (X : K.In h₀ := by k_asm) (N : News h₀ L s.heap news := by k_asm) (T : Top p loose mean mg mb h₀ := by k_asm) (hk : cs.kind = .function := by first | exact rfl | assumption) (hd : dp + sz < recursionLimit := by first | assumption | omega | ktr_room) (hu : un + 8 * sz < cLine := by first | assumption | omega | ktr_units) (hp : P news := by first | trivial | k_mem)
    (ret : ∀ (r : Value) (h' : Heap) (tk' : Nat), Out r → Fr h₀ L h' m → News h₀ L h' news → Q r { s with heap := h', toks := tk' }) :
    wpAny (model prog w) (ktrTop dp un gd cn cs L a ccd cl outer) (call (.ref f) vs) Q E s := C _ _ _ _ _ _ _ _ _ _ _ _ _ _ _ _ _ _ B F X N T hk hd hu hp ret
/-- a text of so many signs at most -/
def TextLe (n : Nat) (r : Value) : Prop := ∃ (x : Str) (t : Tok), r = .str x t ∧ x.length ≤ n ∧ PyData.strOk x = true
end Mine
namespace Mine
open PySem PySem.W PyProof.Rows
theorem textLe_of {n : Nat} {x : Str} {t : Tok} (h : x.length ≤ n) (ho : PyData.strOk x = true) : TextLe n (.str x t) := ⟨x, t, rfl, h, ho⟩
theorem strOk_append {x y : Str} (hx : PyData.strOk x = true) (hy : PyData.strOk y = true) : PyData.strOk (x ++ y) = true := by
  unfold PyData.strOk at *
  show (x.cps ++ y.cps).all _ = true
  rw [Array.all_append, hx, hy]; rfl
theorem strOk_mem {x : Str} (hx : PyData.strOk x = true) {c : Nat} (h : c ∈ x.cps) : c < 0x110000 := by
  unfold PyData.strOk at hx
  simpa using (Array.all_eq_true_iff_forall_mem.mp hx) c h
theorem strOk_slice {x : Str} (hx : PyData.strOk x = true) (l u : Option Int) : PyData.strOk (Txt.slice x l u) = true := by
  unfold Txt.slice
  split
  · exact hx
  · unfold PyData.strOk
    rw [Array.all_eq_true_iff_forall_mem]
    intro c hc
    obtain ⟨i, _, hi⟩ := List.mem_filterMap.mp (List.mem_toArray.mp hc)
    simpa using strOk_mem hx (Array.mem_of_getElem? hi)
theorem strOk_item {x : Str} (hx : PyData.strOk x = true) (i : Int) : PyData.strOk (Txt.item x i) = true := by
  unfold Txt.item Txt.charAt
  unfold PyData.strOk
  cases h : (seqIndex? i x.length).bind (x.cps[·]?) with
  | none => simp
  | some c =>
    have : c < 0x110000 := by
      cases hs : seqIndex? i x.length with
      | none => rw [hs] at h; cases h
      | some k => rw [hs] at h; exact strOk_mem hx (Array.mem_of_getElem? h)
    simp [this]
theorem len_item1 (x : Str) (i : Int) : (Txt.item x i).length = 1 := rfl
theorem textAll_nil {n : Nat} : ∀ v ∈ ([] : List Value), TextLe n v := fun _ h => nomatch h
theorem textAll_cons {n : Nat} {v : Value} {r : List Value} (h : TextLe n v) (hr : ∀ v ∈ r, TextLe n v) : ∀ u ∈ v :: r, TextLe n u := fun u hu => by
  rcases List.mem_cons.mp hu with rfl | hu
  · exact h
  · exact hr u hu
/-- an item of a list of texts, none longer than n: some text, no longer -/
theorem item_texts {prog : Program} {w : World} {A : Around} {E : Value → Shared → Prop} {s : Shared} {value slice : PySem.Expr} {l : Addr} {vs : List Value} {k : Int} {u : Tok} {Q : Value → Shared → Prop} (n : Nat) (hl : s.heap.IsList l vs.toArray)
    (h0 : 0 ≤ k ∧ k < vs.length) (hfit : k < 2 ^ 63) (ht : ∀ v ∈ vs, TextLe n v) (h : ∀ x t, (x.length ≤ n ∧ PyData.strOk x = true) → Q (.str x t) s)
    (hs : subscripted slice false (.ref l) (.int k u) = operate [.ref l, .int k u] (getItem (.ref l) (.int k u)) := by with_unfolding_all rfl) :
    wpAny (model prog w) A (subscriptTail value slice (.ref l) (.int k u)) Q E s := by
  have hlt : k.toNat < vs.length := by omega
  obtain ⟨x, t, e, hx⟩ := ht _ (List.getElem_mem hlt)
  exact tail_any hl.typeIs slot_list_getitem.lookup (wpAny_getItem_list hl h0.1 hfit (x := .str x t) (by rw [List.getElem?_toArray, List.getElem?_eq_getElem hlt, e]) (h x t hx)) hs
end Mine
namespace Mine
open PySem PySem.W PyProof.Rows
theorem three_ok {x y z : Str} {a b c n : Nat} (hx : x.length ≤ a) (hy : y.length ≤ b) (hz : z.length ≤ c) (h : a + b + c ≤ n) : (x ++ y ++ z).length ≤ n := by
  rw [Str.length_append, Str.length_append]; omega
theorem two_ok {x y : Str} {a b n : Nat} (hx : x.length ≤ a) (hy : y.length ≤ b) (h : a + b ≤ n) : (x ++ y).length ≤ n := by
  rw [Str.length_append]; omega
/-- an int, neither end too far -/
def IntLe (b : Int) (r : Value) : Prop := ∃ (i : Int) (t : Tok), r = .int i t ∧ -b ≤ i ∧ i ≤ b
theorem getD_bd {l : List Int} {lo hi : Int} (h0 : lo ≤ 0 ∧ 0 ≤ hi) (h : ∀ x ∈ l, lo ≤ x ∧ x ≤ hi) (i : Nat) : lo ≤ l.getD i 0 ∧ l.getD i 0 ≤ hi := by
  by_cases hi' : i < l.length
  · rw [List.getD_eq_getElem?_getD, List.getElem?_eq_getElem hi', Option.getD_some]
    exact h _ (List.getElem_mem hi')
  · rw [List.getD_eq_getElem?_getD, List.getElem?_eq_none (by omega), Option.getD_none]
    exact h0
end Mine
namespace Mine
theorem c_word (w : World) (mean : ExcName → Option Value) (mg mb : Str → Option Value) (c n : Int) (tc tn : Tok) (hc : CellOk c ∧ 0 ≤ n ∧ n ≤ 13 := by first | trivial | ((try dsimp only); first | assumption | omega | l_fact)) :
    Cv PySem.Challenge.rw_uf050027_11.row.prog w (hd11.heap_39 w.params) hd11.view_39 (looseW hd11.view_39 []) mean mg mb 54 2 [.int c tc, .int n tn] (fun _ => True) (TextLe n.toNat) := by
  unfold Cv
  k_fill
  w_top off
  intro dp un gd cn cs a ccd cl outer A₀ base h₀ L m news s Q E B F X N T hk hd hu hP hret
  refine wpAny_call ?_
  k_dflt cell_enter
  k_with_none
  k_with "call ref" => (k_here; (with_reducible show wpAny _ _ (call (Value.ref 40) _) _ _ _); k_dflt (refine Mine.Ct.use (Mine.c_lmix _ _ _ _ _ _ _ _) (ret := ?_)); intro t9 h9 tk9 P9 F9 N9; (try dsimp only); (try k_fold))
  k_with "call ref" => (k_here; (with_reducible show wpAny _ _ (call (Value.ref 47) _) _ _ _); k_dflt (refine Mine.Ct.use (Mine.c_lbig _ _ _ _ _ _ _ _) (ret := ?_)); intro t9 h9 tk9 P9 F9 N9; (try dsimp only); (try k_fold))
  k_with "state" => (first | exact ⟨⟨rfl, by decide⟩, by decide +kernel⟩ | (refine ⟨⟨?sa, ?sc⟩, ?sb⟩; (case sa => (rw [Str.length_append, Mine.len_item1, List.length_append, List.length_cons, List.length_nil]; omega)); (case sc => (rw [List.length_append, List.length_cons, List.length_nil]; omega)); (case sb => exact Mine.strOk_append (by assumption) (Mine.strOk_item (by decide +kernel) _))))
  k_with "pyIter ref" => k_state (fun pre w => (w.length = pre.length ∧ pre.length ≤ 13) ∧ PyData.strOk w = true) "_law_word_here"
  k_steps
  k_with_none
  all_goals (refine' hret _ _ _ ⟨_, _, rfl, ?q1⟩ ?q2 ?q3; (case q2 => k_asm); (case q3 => first | k_asm | (refine' cb_drop ?cbN ?cbS; (case cbN => assumption); (case cbS => kcj_all))); (case q1 => (refine ⟨?_, by assumption⟩; simp only [rangeKs_length] at *; omega)))

end Mine
namespace Mine
open PySem PySem.W PyProof.Rows PySem.Spec PySem.Calls PyProof.Rows.LCg PyProof.Rows.LCt
section
variable {prog : Program} {w : World} {A : Around} {E : Value → Shared → Prop} {s : Shared} {h₀ : Heap} {L : Addr} {m : Str → Option Value} {env : Env}
/-- a turn of a comprehension is through (the walk stops here) -/
def CompTurn (h₀ : Heap) (L : Addr) (m : Str → Option Value) (s₁ : Shared) (I : Addr) (oI : Obj) (C : Addr) (oC : Obj) (D : Addr) (oD : Obj) (S : List (Addr × Obj) → Prop) (rest : Value → List (Addr × Obj) → Prop) (y : Value) (s₂ : Shared) : Prop :=
  LCg.CompEnd h₀ L m s₁ I oI C oC D oD S rest y s₂
theorem CompTurn.intro {I C D : Addr} {s₁ : Shared} {oI oC oD : Obj} {S : List (Addr × Obj) → Prop} {rest : Value → List (Addr × Obj) → Prop} {y : Value} {h' : Heap} {tk : Nat} {all : List (Addr × Obj)}
    (F : Fr h₀ L h' m) (N : News h₀ L h' all) (news' : List (Addr × Obj)) (sub : ∀ p ∈ (I, oI) :: (C, oC) :: (D, oD) :: news', p ∈ all) (off : Off3 I C D news') (hS : S news') (r : rest y news') :
    CompTurn h₀ L m s₁ I oI C oC D oD S rest y { s₁ with heap := h', toks := tk } := CompEnd.intro F N news' sub off hS r
theorem rest_inv {elt : Expr} {x : Str} {scope : Scope} {cl : List (Str × Addr)} {S : List (Addr × Obj) → Prop} {P : Nat → Value → Prop} {Fin : List Value → List (Addr × Obj) → Prop} {n : Nat} {news : List (Addr × Obj)}
    (Inv : Nat → List Value → List (Addr × Obj) → Prop) (h0 : Inv 0 [] news)
    (turn : ∀ i ys nw v I oI C oC D m₂ h tk (E' : Value → Shared → Prop), i < n → Inv i ys nw → P i v → NsObj oC m₂ → m₂ x = some v → Fr h₀ L h m → News h₀ L h ((I, oI) :: (C, oC) :: (D, lst ys) :: nw) → Off3 I C D nw → ((@Ne Nat I C) ∧ (@Ne Nat I D) ∧ (@Ne Nat C D)) →
      wpAny (model prog w) A (eval elt (compEnvC scope cl C env)) (CompTurn h₀ L m { s with heap := h, toks := tk } I oI C oC D (lst ys) S (fun y nw' => Inv (i + 1) (ys ++ [y]) nw')) E' { s with heap := h, toks := tk })
    (fin : ∀ ys nw, Inv n ys nw → Fin ys nw) : CompRest prog w A h₀ L m env elt x scope cl s S P Fin n 0 [] news := by
  have key : ∀ (j i : Nat) (ys : List Value) (nw : List (Addr × Obj)), i + j = n → Inv i ys nw → CompRest prog w A h₀ L m env elt x scope cl s S P Fin j i ys nw := by
    intro j
    induction j with
    | zero =>
      intro i ys nw hi hv
      have e : i = n := by omega
      subst e
      exact CompRest.zero (fin ys nw hv)
    | succ j ih =>
      intro i ys nw hi hv
      refine CompRest.succ ?_
      intro v I oI C oC D m₂ h tk E' hP hC hx F N off ne
      refine wpAny_mono (turn i ys nw v I oI C oC D m₂ h tk E' (by omega) hv hP hC hx F N off ne) (fun y s₂ hq => ?_) fun _ _ e => e
      obtain ⟨h', tk', nw', e, F', N', off', hS, r⟩ := hq
      exact ⟨h', tk', nw', e, F', N', off', hS, ih (i + 1) _ nw' (by omega) r⟩
  exact key n 0 [] news (by omega) h0
theorem restT_inv {ct elt : Expr} {x : Str} {scope : Scope} {cl : List (Str × Addr)} {S : List (Addr × Obj) → Prop} {P : Nat → Value → Prop} {Fin : List Value → List (Addr × Obj) → Prop} {n : Nat} {news : List (Addr × Obj)}
    (Inv : Nat → List Value → List (Addr × Obj) → Prop) (h0 : Inv 0 [] news)
    (turn : ∀ i ys nw v I oI C oC D m₂ h tk (E' : Value → Shared → Prop), i < n → Inv i ys nw → P i v → NsObj oC m₂ → m₂ x = some v → Fr h₀ L h m → News h₀ L h ((I, oI) :: (C, oC) :: (D, lst ys) :: nw) → Off3 I C D nw → ((@Ne Nat I C) ∧ (@Ne Nat I D) ∧ (@Ne Nat C D)) →
      wpAny (model prog w) A (isTrue ct (compEnvC scope cl C env) (eval ct (compEnvC scope cl C env))) (fun ok s' => if ok = true then
        wpAny (model prog w) A (eval elt (compEnvC scope cl C env)) (CompTurn h₀ L m { s with heap := h, toks := tk } I oI C oC D (lst ys) S (fun y nw' => Inv (i + 1) (ys ++ [y]) nw')) E' s'
        else CompTurn h₀ L m { s with heap := h, toks := tk } I oI C oC D (lst ys) S (fun _ nw' => Inv (i + 1) ys nw') Value.none s') E' { s with heap := h, toks := tk })
    (fin : ∀ ys nw, Inv n ys nw → Fin ys nw) : CompRestT prog w A h₀ L m env ct elt x scope cl s S P Fin n 0 [] news := by
  have key : ∀ (j i : Nat) (ys : List Value) (nw : List (Addr × Obj)), i + j = n → Inv i ys nw → CompRestT prog w A h₀ L m env ct elt x scope cl s S P Fin j i ys nw := by
    intro j
    induction j with
    | zero =>
      intro i ys nw hi hv
      have e : i = n := by omega
      subst e
      exact CompRestT.zero (fin ys nw hv)
    | succ j ih =>
      intro i ys nw hi hv
      refine CompRestT.succ ?_
      intro v I oI C oC D m₂ h tk E' hP hC hx F N off ne
      refine wpAny_mono (turn i ys nw v I oI C oC D m₂ h tk E' (by omega) hv hP hC hx F N off ne) (fun ok s' hq => ?_) fun _ _ e => e
      cases ok with
      | true =>
        rw [if_pos rfl] at hq ⊢
        refine wpAny_mono hq (fun y s₂ hq => ?_) fun _ _ e => e
        obtain ⟨h', tk', nw', e, F', N', off', hS, r⟩ := hq
        exact ⟨h', tk', nw', e, F', N', off', hS, ih (i + 1) _ nw' (by omega) r⟩
      | false =>
        rw [if_neg (by decide)] at hq ⊢
        obtain ⟨h', tk', nw', e, F', N', off', hS, r⟩ := hq
        exact ⟨h', tk', nw', e, F', N', off', hS, ih (i + 1) _ nw' (by omega) r⟩
  exact key n 0 [] news (by omega) h0
theorem striter_st {I : Addr} {k : String} {tx : Str} {t : Tok} : ∀ i (h h' : Heap) (o : Obj) (nw : List (Addr × Obj)), h.IsStrIter I k tx t i → h.get? I = some o → h'.get? I = some o → (∀ b o, h₀.get? b = some o → h'.get? b = some o) → News h₀ L h' nw → True → h'.IsStrIter I k tx t i :=
  fun i h h' o nw st e e' _ _ _ => by obtain ⟨o', q, r⟩ := st; rw [e] at q; cases q; exact ⟨o, e', r⟩
/-- the source of a comprehension is a text -/
def SrcS (prog : Program) (w : World) (A : Around) (h₀ : Heap) (L : Addr) (m : Str → Option Value) (R : Shared → Str → List (Addr × Obj) → Prop) (xv : Value) (s₁ : Shared) : Prop :=
  ∃ tx t news, xv = .str tx t ∧ A.handled = none ∧ Fr h₀ L s₁.heap m ∧ News h₀ L s₁.heap news ∧ tx.cps.size ≤ sizeLine ∧ ∀ s₂ : Shared, (∃ h, s₂ = { s₁ with heap := h }) → R s₂ tx news
theorem SrcS.intro {R : Shared → Str → List (Addr × Obj) → Prop} {tx : Str} {t : Tok} {s₁ : Shared} {news : List (Addr × Obj)} (hh : A.handled = none) (F : Fr h₀ L s₁.heap m) (N : News h₀ L s₁.heap news) (hsz : tx.length ≤ sizeLine) (h : ∀ g, R { s₁ with heap := g } tx news) : SrcS prog w A h₀ L m R (.str tx t) s₁ :=
  ⟨tx, t, news, rfl, hh, F, N, hsz, fun _ ⟨g, e⟩ => e ▸ h g⟩
/-- a comprehension over a text -/
theorem ListComp_S {elt iter : Expr} {x : Str} {px : Pos} {scope : Scope} {cl : List (Str × Addr)} {pos : Pos} {Q : Value → Shared → Prop} (_F₀ : Fr h₀ L s.heap m)
    (hclos : closureFor scope env = pure cl) (hcell : ∀ y ∈ scope.names, y.2 ≠ .cell) (hkind : scope.kind = .function)
    (hnames : ∀ y ∈ scope.names, y.2 = .local → scope.names.lookup y.1 = some .local) (hx : scope.names.lookup x = some .local)
    (h : wpAny (model prog w) A (eval iter env) (SrcS prog w A h₀ L m (fun s₂ tx news => CompRest prog w A h₀ L m env elt x scope cl s₂ (fun _ => True) (SignAt tx) (FinE h₀ L m s₂ Q) tx.cps.size 0 [] news)) E s)
    (hs : ∀ x, foldedSetIterable iter env x = pure x := by intro _; rfl) :
    wpAny (model prog w) A (eval (.ListComp elt [⟨.Name x px, iter, [], 0⟩] scope pos) env) Q E s := by
  rw [eval_ListComp]
  refine wpAny_comprehension_free (use := none) rfl hs hclos hkind hnames (wpAny_mono h (fun xv s₁ h₁ => ?_) fun _ _ e => e)
  obtain ⟨tx, t, news, rfl, hh, F, N, hsz, R⟩ := h₁
  cases ha : tx.cps.all (· < 128)
  · refine wpAny_pyIter_wide ha ?_
    refine block_U (Walks.strWide hh s₁.heap.objs.size tx t) hsz (fun i h st => by obtain ⟨o, e, _⟩ := st; exact ⟨o, e⟩) striter_st hcell hkind hx ⟨_, Heap.get?_push_size _ rfl, rfl, rfl⟩ (fun b hb => ?_)
      (F.keeps fun _ _ e => Heap.get?_push_of_some _ e) (N.grown fun _ _ e => Heap.get?_push_of_some _ e) (Nat.ne_of_lt F.ns.lt) (next_is_new F) (fun p hp => Nat.ne_of_lt (Heap.lt_size (N p hp).1)) trivial (R _ ⟨_, rfl⟩) ?_
    · rw [List.mem_singleton.mp hb]
      show s₁.heap.objs.size < (s₁.heap.push _).objs.size
      rw [Heap.size_push]; exact Nat.lt_succ_self _
    · intro D C h tk m' ys news' F' N' o1 hn hC₀ hD₀ hCL hDL hCD offC fin
      refine ⟨m', hn, fun h'' hs'' => fin D h'' tk (F'.change hs'' hCL hC₀) (fun p hp => ?_) o1⟩
      refine ⟨hs''.extBut _ _ ?_ (N' p hp).1, (N' p hp).2⟩
      rcases List.mem_cons.mp hp with rfl | hp
      · exact Ne.symm hCD
      · exact offC p hp
  · refine wpAny_pyIter_ascii ha ?_
    refine block_U (Walks.strAscii hh s₁.heap.objs.size tx t) hsz (fun i h st => by obtain ⟨o, e, _⟩ := st; exact ⟨o, e⟩) striter_st hcell hkind hx ⟨_, Heap.get?_push_size _ rfl, rfl, rfl⟩ (fun b hb => ?_)
      (F.keeps fun _ _ e => Heap.get?_push_of_some _ e) (N.grown fun _ _ e => Heap.get?_push_of_some _ e) (Nat.ne_of_lt F.ns.lt) (next_is_new F) (fun p hp => Nat.ne_of_lt (Heap.lt_size (N p hp).1)) trivial (R _ ⟨_, rfl⟩) ?_
    · rw [List.mem_singleton.mp hb]
      show s₁.heap.objs.size < (s₁.heap.push _).objs.size
      rw [Heap.size_push]; exact Nat.lt_succ_self _
    · intro D C h tk m' ys news' F' N' o1 hn hC₀ hD₀ hCL hDL hCD offC fin
      refine ⟨m', hn, fun h'' hs'' => fin D h'' tk (F'.change hs'' hCL hC₀) (fun p hp => ?_) o1⟩
      refine ⟨hs''.extBut _ _ ?_ (N' p hp).1, (N' p hp).2⟩
      rcases List.mem_cons.mp hp with rfl | hp
      · exact Ne.symm hCD
      · exact offC p hp
/-- a comprehension over a text, with a test -/
theorem ListComp_ST {ct elt iter : Expr} {x : Str} {px : Pos} {scope : Scope} {cl : List (Str × Addr)} {pos : Pos} {Q : Value → Shared → Prop} (_F₀ : Fr h₀ L s.heap m)
    (hclos : closureFor scope env = pure cl) (hcell : ∀ y ∈ scope.names, y.2 ≠ .cell) (hkind : scope.kind = .function)
    (hnames : ∀ y ∈ scope.names, y.2 = .local → scope.names.lookup y.1 = some .local) (hx : scope.names.lookup x = some .local)
    (h : wpAny (model prog w) A (eval iter env) (SrcS prog w A h₀ L m (fun s₂ tx news => CompRestT prog w A h₀ L m env ct elt x scope cl s₂ (fun _ => True) (SignAt tx) (FinE h₀ L m s₂ Q) tx.cps.size 0 [] news)) E s)
    (hs : ∀ x, foldedSetIterable iter env x = pure x := by intro _; rfl) :
    wpAny (model prog w) A (eval (.ListComp elt [⟨.Name x px, iter, [ct], 0⟩] scope pos) env) Q E s := by
  rw [eval_ListComp]
  refine wpAny_comprehension_free (use := none) rfl hs hclos hkind hnames (wpAny_mono h (fun xv s₁ h₁ => ?_) fun _ _ e => e)
  obtain ⟨tx, t, news, rfl, hh, F, N, hsz, R⟩ := h₁
  cases ha : tx.cps.all (· < 128)
  · refine wpAny_pyIter_wide ha ?_
    refine block_T (Walks.strWide hh s₁.heap.objs.size tx t) hsz (fun i h st => by obtain ⟨o, e, _⟩ := st; exact ⟨o, e⟩) striter_st hcell hkind hx ⟨_, Heap.get?_push_size _ rfl, rfl, rfl⟩ (fun b hb => ?_)
      (F.keeps fun _ _ e => Heap.get?_push_of_some _ e) (N.grown fun _ _ e => Heap.get?_push_of_some _ e) (Nat.ne_of_lt F.ns.lt) (next_is_new F) (fun p hp => Nat.ne_of_lt (Heap.lt_size (N p hp).1)) trivial (R _ ⟨_, rfl⟩) ?_
    · rw [List.mem_singleton.mp hb]
      show s₁.heap.objs.size < (s₁.heap.push _).objs.size
      rw [Heap.size_push]; exact Nat.lt_succ_self _
    · intro D C h tk m' ys news' F' N' o1 hn hC₀ hD₀ hCL hDL hCD offC fin
      refine ⟨m', hn, fun h'' hs'' => fin D h'' tk (F'.change hs'' hCL hC₀) (fun p hp => ?_) o1⟩
      refine ⟨hs''.extBut _ _ ?_ (N' p hp).1, (N' p hp).2⟩
      rcases List.mem_cons.mp hp with rfl | hp
      · exact Ne.symm hCD
      · exact offC p hp
  · refine wpAny_pyIter_ascii ha ?_
    refine block_T (Walks.strAscii hh s₁.heap.objs.size tx t) hsz (fun i h st => by obtain ⟨o, e, _⟩ := st; exact ⟨o, e⟩) striter_st hcell hkind hx ⟨_, Heap.get?_push_size _ rfl, rfl, rfl⟩ (fun b hb => ?_)
      (F.keeps fun _ _ e => Heap.get?_push_of_some _ e) (N.grown fun _ _ e => Heap.get?_push_of_some _ e) (Nat.ne_of_lt F.ns.lt) (next_is_new F) (fun p hp => Nat.ne_of_lt (Heap.lt_size (N p hp).1)) trivial (R _ ⟨_, rfl⟩) ?_
    · rw [List.mem_singleton.mp hb]
      show s₁.heap.objs.size < (s₁.heap.push _).objs.size
      rw [Heap.size_push]; exact Nat.lt_succ_self _
    · intro D C h tk m' ys news' F' N' o1 hn hC₀ hD₀ hCL hDL hCD offC fin
      refine ⟨m', hn, fun h'' hs'' => fin D h'' tk (F'.change hs'' hCL hC₀) (fun p hp => ?_) o1⟩
      refine ⟨hs''.extBut _ _ ?_ (N' p hp).1, (N' p hp).2⟩
      rcases List.mem_cons.mp hp with rfl | hp
      · exact Ne.symm hCD
      · exact offC p hp
theorem bools_snoc {b : Bool} : ∀ {vs : List Value} {bs : List Bool}, LSm.BoolsAre vs bs → LSm.BoolsAre (vs ++ [.bool b]) (bs ++ [b])
  | _, _, .nil => .cons b .nil
  | _, _, .cons c r => .cons c (bools_snoc r)
theorem sign_take {tx : Str} {i : Nat} {c : Nat} (h : tx.cps[i]? = some c) : tx.cps.toList.take (i + 1) = tx.cps.toList.take i ++ [c] := by
  rw [List.take_add_one]
  have : tx.cps.toList[i]? = some c := by simpa using h
  rw [this]; rfl
theorem sign_all {tx : Str} : tx.cps.toList.take tx.cps.size = tx.cps.toList := by
  rw [← Array.length_toList]; exact List.take_length
/-- bools by the signs of a text -/
theorem signs_bool {elt : Expr} {x : Str} {scope : Scope} {cl : List (Str × Addr)} {Fin : List Value → List (Addr × Obj) → Prop} {tx : Str} {news : List (Addr × Obj)} (f : Nat → Bool)
    (turn : ∀ c u ys I oI C oC D m₂ h tk (E' : Value → Shared → Prop), NsObj oC m₂ → m₂ x = some (.str ⟨#[c]⟩ u) → Fr h₀ L h m → News h₀ L h ((I, oI) :: (C, oC) :: (D, lst ys) :: news) → Off3 I C D news → ((@Ne Nat I C) ∧ (@Ne Nat I D) ∧ (@Ne Nat C D)) →
      wpAny (model prog w) A (eval elt (compEnvC scope cl C env)) (CompTurn h₀ L m { s with heap := h, toks := tk } I oI C oC D (lst ys) (fun _ => True) (fun y nw' => nw' = news ∧ y = .bool (f c))) E' { s with heap := h, toks := tk })
    (fin : ∀ ys, LSm.BoolsAre ys (tx.cps.toList.map f) → Fin ys news) : CompRest prog w A h₀ L m env elt x scope cl s (fun _ => True) (SignAt tx) Fin tx.cps.size 0 [] news := by
  refine rest_inv (fun i ys nw => nw = news ∧ LSm.BoolsAre ys ((tx.cps.toList.take i).map f)) ⟨rfl, .nil⟩ ?_ ?_
  · rintro i ys nw v I oI C oC D m₂ h tk E' hi ⟨rfl, hb⟩ ⟨c, u, hc, rfl⟩ hC hx F N off ne
    refine wpAny_mono (turn c u ys I oI C oC D m₂ h tk E' hC hx F N off ne) (fun y s₂ hq => ?_) fun _ _ e => e
    obtain ⟨h', tk', nw', e, F', N', off', hS, hn, hy⟩ := hq
    subst hn hy
    refine ⟨h', tk', _, e, F', N', off', hS, rfl, ?_⟩
    rw [sign_take hc, List.map_append]
    exact bools_snoc hb
  · rintro ys nw ⟨rfl, hb⟩
    rw [sign_all] at hb
    exact fin ys hb
/-- the signs of a text that a test does not leave out -/
theorem signs_filter {ct elt : Expr} {x : Str} {scope : Scope} {cl : List (Str × Addr)} {Fin : List Value → List (Addr × Obj) → Prop} {tx : Str} {news : List (Addr × Obj)} (f : Nat → Bool) (hok : PyData.strOk tx = true)
    (turn : ∀ c u ys I oI C oC D m₂ h tk (E' : Value → Shared → Prop), NsObj oC m₂ → m₂ x = some (.str ⟨#[c]⟩ u) → Fr h₀ L h m → News h₀ L h ((I, oI) :: (C, oC) :: (D, lst ys) :: news) → Off3 I C D news → ((@Ne Nat I C) ∧ (@Ne Nat I D) ∧ (@Ne Nat C D)) →
      wpAny (model prog w) A (isTrue ct (compEnvC scope cl C env) (eval ct (compEnvC scope cl C env))) (fun ok s' => if ok = true then
        wpAny (model prog w) A (eval elt (compEnvC scope cl C env)) (CompTurn h₀ L m { s with heap := h, toks := tk } I oI C oC D (lst ys) (fun _ => True) (fun y nw' => nw' = news ∧ (∃ u, y = .str ⟨#[c]⟩ u) ∧ f c = false)) E' s'
        else CompTurn h₀ L m { s with heap := h, toks := tk } I oI C oC D (lst ys) (fun _ => True) (fun _ nw' => nw' = news ∧ f c = true) Value.none s') E' { s with heap := h, toks := tk })
    (fin : ∀ ys ds, DatAll [] ys ds → (∀ d ∈ ds, kqdOk 8 d = true) → (ds = [] ↔ tx.cps.toList.all f = true) → Fin ys news) : CompRestT prog w A h₀ L m env ct elt x scope cl s (fun _ => True) (SignAt tx) Fin tx.cps.size 0 [] news := by
  refine restT_inv (fun i ys nw => nw = news ∧ ∃ ds, DatAll [] ys ds ∧ (∀ d ∈ ds, kqdOk 8 d = true) ∧ (ds = [] ↔ (tx.cps.toList.take i).all f = true)) ⟨rfl, [], .nil, (fun _ h => nomatch h), by simp⟩ ?_ ?_
  · rintro i ys nw v I oI C oC D m₂ h tk E' hi ⟨rfl, ds, hd, hk, he⟩ ⟨c, u, hc, rfl⟩ hC hx F N off ne
    refine wpAny_mono (turn c u ys I oI C oC D m₂ h tk E' hC hx F N off ne) (fun ok s' hq => ?_) fun _ _ e => e
    cases ok with
    | true =>
      rw [if_pos rfl] at hq ⊢
      refine wpAny_mono hq (fun y s₂ hq => ?_) fun _ _ e => e
      obtain ⟨h', tk', nw', e, F', N', off', hS, hn, ⟨u', hy⟩, hf⟩ := hq
      subst hn hy
      refine ⟨h', tk', _, e, F', N', off', hS, rfl, ds ++ [.str ⟨#[c]⟩], hd.append (.one (.str _ _)), fun d hd' => ?_, ?_⟩
      · rcases List.mem_append.mp hd' with h1 | h1
        · exact hk d h1
        · rw [List.mem_singleton.mp h1]
          show PyData.strOk ⟨#[c]⟩ = true
          have hm : c ∈ tx.cps := Array.mem_of_getElem? hc
          have := (Array.all_eq_true_iff_forall_mem.mp hok) c hm
          simpa [PyData.strOk] using this
      · rw [sign_take hc, List.all_append]
        simp [hf]
    | false =>
      rw [if_neg (by decide)] at hq ⊢
      obtain ⟨h', tk', nw', e, F', N', off', hS, hn, hf⟩ := hq
      subst hn
      refine ⟨h', tk', _, e, F', N', off', hS, rfl, ds, hd, hk, ?_⟩
      rw [sign_take hc, List.all_append, he]
      simp [hf]
  · rintro ys nw ⟨rfl, ds, hd, hk, he⟩
    rw [sign_all] at he
    exact fin ys ds hd hk he
end
end Mine
namespace Mine
open PySem PySem.W PyProof.Rows PySem.Spec PySem.Calls
section
variable {prog : Program} {w : World} {A : Around} {E : Value → Shared → Prop} {s : Shared} {env : Env} {h₀ : Heap} {target : Expr} {body : List Stmt} {Q : Flow → Shared → Prop}
/-- a turn of a loop is through (the walk stops here) -/
def LoopTurn (h₀ : Heap) (L : Addr) (s₁ : Shared) (I : Addr) (o : Obj) (rest : (Str → Option Value) → List (Addr × Obj) → Prop) (Q : Flow → Shared → Prop) (f : Flow) (s₂ : Shared) : Prop :=
  UnrPostW h₀ L s₁ [(I, o)] rest Q f s₂
/-- what stands between two turns -/
def Between {σ : Type} (ps : σ → List (Str × Value)) (stored : List Str) (m₀ : Str → Option Value) (ax : Addr) (lo : Obj) (I : Addr) (Inv : σ → List (Addr × Obj) → Prop) (m : Str → Option Value) (nw : List (Addr × Obj)) : Prop :=
  (ax, lo) ∈ nw ∧ (∀ p ∈ nw, p.1 ≠ I) ∧ ∃ c, (∀ p ∈ ps c, m p.1 = some p.2) ∧ (∀ z, (∀ p ∈ ps c, z ≠ p.1) → stored.contains z = false → m z = m₀ z) ∧ Inv c nw
theorem LoopTurn.ret {L I : Addr} {s₁ : Shared} {o : Obj} {rest : (Str → Option Value) → List (Addr × Obj) → Prop} {v : Value} {s₂ : Shared} (h : Q (.ret v) s₂) : LoopTurn h₀ L s₁ I o rest Q (.ret v) s₂ := h
theorem LoopTurn.next {σ : Type} {ps : σ → List (Str × Value)} {stored : List Str} {m₀ : Str → Option Value} {ax : Addr} {lo : Obj} {L I : Addr} {o : Obj} {Inv : σ → List (Addr × Obj) → Prop} {s₁ : Shared} {h' : Heap} {tk : Nat} {m' : Str → Option Value} {all : List (Addr × Obj)} (c : σ) (nw' : List (Addr × Obj))
    (F : Fr h₀ L h' m') (N : News h₀ L h' all) (hI : (I, o) ∈ all) (sub : ∀ p ∈ nw', p ∈ all) (hax : (ax, lo) ∈ nw') (off : ∀ p ∈ nw', p.1 ≠ I) (hk : ∀ p ∈ ps c, m' p.1 = some p.2) (hr : ∀ z, (∀ p ∈ ps c, z ≠ p.1) → stored.contains z = false → m' z = m₀ z) (hv : Inv c nw') :
    LoopTurn h₀ L s₁ I o (Between ps stored m₀ ax lo I Inv) Q .next { s₁ with heap := h', toks := tk } :=
  ⟨h', tk, m', nw', rfl, F, fun p hp => by
    rcases List.mem_append.mp hp with hp | hp
    · rw [List.mem_singleton.mp hp]; exact N _ hI
    · exact N p (sub p hp), fun p hp q hq => by rw [List.mem_singleton.mp hq]; exact off p hp, hax, off, c, hk, hr, hv⟩
theorem LoopTurn.cont {σ : Type} {ps : σ → List (Str × Value)} {stored : List Str} {m₀ : Str → Option Value} {ax : Addr} {lo : Obj} {L I : Addr} {o : Obj} {Inv : σ → List (Addr × Obj) → Prop} {s₁ s₂ : Shared} (h : LoopTurn h₀ L s₁ I o (Between ps stored m₀ ax lo I Inv) Q .next s₂) :
    LoopTurn h₀ L s₁ I o (Between ps stored m₀ ax lo I Inv) Q .cont s₂ := h
theorem between_fr {L : Addr} {h : Heap} {ps : List (Str × Value)} {stored : List Str} {m₀ m₁ : Str → Option Value} (h1 : ∀ p ∈ ps, m₁ p.1 = some p.2) (h2 : ∀ z, (∀ p ∈ ps, z ≠ p.1) → stored.contains z = false → m₁ z = m₀ z)
    (F : Fr h₀ L h m₁) : Fr h₀ L h (kstB (fun z => if stored.contains z then m₁ z else m₀ z) ps) := by
  have em : kstB (fun z => if stored.contains z then m₁ z else m₀ z) ps = m₁ := by
    funext y
    refine kstB_eq h1 fun hn => ?_
    by_cases hc : stored.contains y = true
    · rw [if_pos hc]
    · rw [if_neg hc]
      exact (h2 y hn (by simpa using hc)).symm
  rw [em]
  exact F
/-- a loop over a list of the ledger, by what holds between its turns -/
theorem loop_list {σ : Type} {ax : Addr} {lo : Obj} {vs : List Value} {n : Nat} {m₀ : Str → Option Value} {news : List (Addr × Obj)} (ps : σ → List (Str × Value)) (stored : List Str) (Inv : Nat → σ → List (Addr × Obj) → Prop) (c₀ : σ)
    (hh : A.handled = none) (F : Fr h₀ env.locals s.heap m₀) (N : News h₀ env.locals s.heap news) (hm : (ax, lo) ∈ news) (hc : lo.cls = .type "list") (hd : lo.data = .seq vs.toArray n)
    (hk : ∀ p ∈ ps c₀, m₀ p.1 = some p.2) (h0 : Inv 0 c₀ news)
    (turn : ∀ i v c nw (u : Str → Option Value) I o h tk, vs[i]? = some v → Inv i c nw → (ax, lo) ∈ nw → (∀ p ∈ nw, p.1 ≠ I) → o.cls = .type "list_iterator" → Fr h₀ env.locals h (kstB (fun z => if stored.contains z then u z else m₀ z) (ps c)) → News h₀ env.locals h ((I, o) :: nw) →
      wpAny (model prog w) A (assign target env v) (fun _ s₂ => wpAny (model prog w) A (execs body env) (LoopTurn h₀ env.locals { s with heap := h, toks := tk } I o (Between ps stored m₀ ax lo I (Inv (i + 1))) Q) E s₂) E { s with heap := h, toks := tk })
    (done : ∀ c nw (u : Str → Option Value) h tk, Inv vs.length c nw → (ax, lo) ∈ nw → Fr h₀ env.locals h (kstB (fun z => if stored.contains z then u z else m₀ z) (ps c)) → News h₀ env.locals h nw → Q .next { s with heap := h, toks := tk }) :
    wpAny (model prog w) A (pyIter (.ref ax)) (fun it s₂ => TurnsAt prog w A h₀ env target body Q E it s₂) E s := by
  refine iter_listTurns hh F N hm hc hd fun I hI => ?_
  have key : ∀ (xs : List Value) (i : Nat) (m : Str → Option Value) (nw : List (Addr × Obj)), vs.drop i = xs → i ≤ vs.length → Between ps stored m₀ ax lo I (Inv i) m nw →
      ItemsRest prog w A E h₀ env target body Q s [(I, "list_iterator")] [(ax, lo)] (xs.map .val) m nw := by
    intro xs
    induction xs with
    | nil =>
      intro i m nw hx hi hb
      obtain ⟨hax, hne, c, h1, h2, hv⟩ := hb
      have e : i = vs.length := by
        have := congrArg List.length hx
        rw [List.length_drop, List.length_nil] at this
        omega
      subst e
      exact ItemsRest.zero fun h tk F' N' => done c nw m h tk hv hax (between_fr h1 h2 F') N'
    | cons v r ih =>
      intro i m nw hx hi hb
      obtain ⟨hax, hne, c, h1, h2, hv⟩ := hb
      have hlt : i < vs.length := by
        have := congrArg List.length hx
        rw [List.length_drop, List.length_cons] at this
        omega
      have hvi : vs[i]? = some v := by
        rw [List.drop_eq_getElem_cons hlt] at hx
        rw [List.getElem?_eq_getElem hlt]
        exact congrArg some (List.cons.inj hx).1
      have hr : vs.drop (i + 1) = r := by
        rw [List.drop_eq_getElem_cons hlt] at hx
        exact (List.cons.inj hx).2
      refine ItemsRest.val fun h tk F' => AllObj.cons fun o ho => AllObj.nil fun N' => ?_
      refine wpAny_mono (turn i v c nw m I o h tk hvi hv hax hne ho (between_fr h1 h2 F') N') (fun _ s₂ q => wpAny_mono q (fun f s₃ p => ?_) fun _ _ e => e) fun _ _ e => e
      have fin : ∀ s₃, UnrEndW h₀ env.locals { s with heap := h, toks := tk } [(I, o)] (Between ps stored m₀ ax lo I (Inv (i + 1))) s₃ →
          UnrEndW h₀ env.locals { s with heap := h, toks := tk } [(I, o)] (fun m' n' => SubL [(ax, lo)] n' ∧ ItemsRest prog w A E h₀ env target body Q s [(I, "list_iterator")] [(ax, lo)] (r.map .val) m' n') s₃ := by
        rintro s₃ ⟨h', tk', m', nw', e, F₃, N₃, off, b⟩
        exact ⟨h', tk', m', nw', e, F₃, N₃, off, And.intro b.1 trivial, ih (i + 1) m' nw' hr hlt b⟩
      cases f with
      | ret v => exact p
      | brk => exact p
      | next => exact fin _ p
      | cont => exact fin _ p
  exact key vs 0 m₀ news (List.drop_zero) (Nat.zero_le _) ⟨hm, fun p hp => Nat.ne_of_lt (hI p hp), c₀, hk, fun _ _ _ => rfl, h0⟩
/-- a loop over a tuple of the ledger, by what holds between its turns -/
theorem loop_tup {σ : Type} {ax : Addr} {lo : Obj} {vs : List Value} {n : Nat} {m₀ : Str → Option Value} {news : List (Addr × Obj)} (ps : σ → List (Str × Value)) (stored : List Str) (Inv : Nat → σ → List (Addr × Obj) → Prop) (c₀ : σ)
    (hh : A.handled = none) (F : Fr h₀ env.locals s.heap m₀) (N : News h₀ env.locals s.heap news) (hm : (ax, lo) ∈ news) (hc : lo.cls = .type "tuple") (hd : lo.data = .seq vs.toArray n)
    (hk : ∀ p ∈ ps c₀, m₀ p.1 = some p.2) (h0 : Inv 0 c₀ news)
    (turn : ∀ i v c nw (u : Str → Option Value) I o h tk, vs[i]? = some v → Inv i c nw → (ax, lo) ∈ nw → (∀ p ∈ nw, p.1 ≠ I) → o.cls = .type "tuple_iterator" → Fr h₀ env.locals h (kstB (fun z => if stored.contains z then u z else m₀ z) (ps c)) → News h₀ env.locals h ((I, o) :: nw) →
      wpAny (model prog w) A (assign target env v) (fun _ s₂ => wpAny (model prog w) A (execs body env) (LoopTurn h₀ env.locals { s with heap := h, toks := tk } I o (Between ps stored m₀ ax lo I (Inv (i + 1))) Q) E s₂) E { s with heap := h, toks := tk })
    (done : ∀ c nw (u : Str → Option Value) h tk, Inv vs.length c nw → (ax, lo) ∈ nw → Fr h₀ env.locals h (kstB (fun z => if stored.contains z then u z else m₀ z) (ps c)) → News h₀ env.locals h nw → Q .next { s with heap := h, toks := tk }) :
    wpAny (model prog w) A (pyIter (.ref ax)) (fun it s₂ => TurnsAt prog w A h₀ env target body Q E it s₂) E s := by
  refine iter_tupTurns hh F N hm hc hd fun I hI => ?_
  have key : ∀ (xs : List Value) (i : Nat) (m : Str → Option Value) (nw : List (Addr × Obj)), vs.drop i = xs → i ≤ vs.length → Between ps stored m₀ ax lo I (Inv i) m nw →
      ItemsRest prog w A E h₀ env target body Q s [(I, "tuple_iterator")] [(ax, lo)] (xs.map .val) m nw := by
    intro xs
    induction xs with
    | nil =>
      intro i m nw hx hi hb
      obtain ⟨hax, hne, c, h1, h2, hv⟩ := hb
      have e : i = vs.length := by
        have := congrArg List.length hx
        rw [List.length_drop, List.length_nil] at this
        omega
      subst e
      exact ItemsRest.zero fun h tk F' N' => done c nw m h tk hv hax (between_fr h1 h2 F') N'
    | cons v r ih =>
      intro i m nw hx hi hb
      obtain ⟨hax, hne, c, h1, h2, hv⟩ := hb
      have hlt : i < vs.length := by
        have := congrArg List.length hx
        rw [List.length_drop, List.length_cons] at this
        omega
      have hvi : vs[i]? = some v := by
        rw [List.drop_eq_getElem_cons hlt] at hx
        rw [List.getElem?_eq_getElem hlt]
        exact congrArg some (List.cons.inj hx).1
      have hr : vs.drop (i + 1) = r := by
        rw [List.drop_eq_getElem_cons hlt] at hx
        exact (List.cons.inj hx).2
      refine ItemsRest.val fun h tk F' => AllObj.cons fun o ho => AllObj.nil fun N' => ?_
      refine wpAny_mono (turn i v c nw m I o h tk hvi hv hax hne ho (between_fr h1 h2 F') N') (fun _ s₂ q => wpAny_mono q (fun f s₃ p => ?_) fun _ _ e => e) fun _ _ e => e
      have fin : ∀ s₃, UnrEndW h₀ env.locals { s with heap := h, toks := tk } [(I, o)] (Between ps stored m₀ ax lo I (Inv (i + 1))) s₃ →
          UnrEndW h₀ env.locals { s with heap := h, toks := tk } [(I, o)] (fun m' n' => SubL [(ax, lo)] n' ∧ ItemsRest prog w A E h₀ env target body Q s [(I, "tuple_iterator")] [(ax, lo)] (r.map .val) m' n') s₃ := by
        rintro s₃ ⟨h', tk', m', nw', e, F₃, N₃, off, b⟩
        exact ⟨h', tk', m', nw', e, F₃, N₃, off, And.intro b.1 trivial, ih (i + 1) m' nw' hr hlt b⟩
      cases f with
      | ret v => exact p
      | brk => exact p
      | next => exact fin _ p
      | cont => exact fin _ p
  exact key vs 0 m₀ news (List.drop_zero) (Nat.zero_le _) ⟨hm, fun p hp => Nat.ne_of_lt (hI p hp), c₀, hk, fun _ _ _ => rfl, h0⟩
/-- between two turns the ledger is as it was, so are all names but the stored ones -/
def Still {σ : Type} (ps : σ → List (Str × Value)) (stored : List Str) (m₀ : Str → Option Value) (news : List (Addr × Obj)) (P : σ → Prop) (m : Str → Option Value) (nw : List (Addr × Obj)) : Prop :=
  nw = news ∧ ∃ c, (∀ p ∈ ps c, m p.1 = some p.2) ∧ (∀ z, (∀ p ∈ ps c, z ≠ p.1) → stored.contains z = false → m z = m₀ z) ∧ P c
theorem LoopTurn.still {σ : Type} {ps : σ → List (Str × Value)} {stored : List Str} {m₀ : Str → Option Value} {L I : Addr} {o : Obj} {news : List (Addr × Obj)} {P : σ → Prop} {s₁ : Shared} {h' : Heap} {tk : Nat} {m' : Str → Option Value} {all : List (Addr × Obj)} (c : σ)
    (F : Fr h₀ L h' m') (N : News h₀ L h' all) (hI : (I, o) ∈ all) (sub : ∀ p ∈ news, p ∈ all) (off : ∀ p ∈ news, p.1 ≠ I) (hk : ∀ p ∈ ps c, m' p.1 = some p.2) (hr : ∀ z, (∀ p ∈ ps c, z ≠ p.1) → stored.contains z = false → m' z = m₀ z) (hv : P c) :
    LoopTurn h₀ L s₁ I o (Still ps stored m₀ news P) Q .next { s₁ with heap := h', toks := tk } :=
  ⟨h', tk, m', news, rfl, F, fun p hp => by
    rcases List.mem_append.mp hp with hp | hp
    · rw [List.mem_singleton.mp hp]; exact N _ hI
    · exact N p (sub p hp), fun p hp q hq => by rw [List.mem_singleton.mp hq]; exact off p hp, rfl, c, hk, hr, hv⟩
theorem still_post {σ : Type} {ps : σ → List (Str × Value)} {stored : List Str} {m₀ : Str → Option Value} {L I ax : Addr} {lo : Obj} {o : Obj} {news : List (Addr × Obj)} {P : σ → Prop} {s₁ : Shared} {f : Flow} {s₂ : Shared} (hm : (ax, lo) ∈ news) (off : ∀ p ∈ news, p.1 ≠ I)
    (h : LoopTurn h₀ L s₁ I o (Still ps stored m₀ news P) Q f s₂) : LoopTurn h₀ L s₁ I o (Between ps stored m₀ ax lo I (fun c nw => nw = news ∧ P c)) Q f s₂ := by
  have key : UnrEndW h₀ L s₁ [(I, o)] (Still ps stored m₀ news P) s₂ → UnrEndW h₀ L s₁ [(I, o)] (Between ps stored m₀ ax lo I (fun c nw => nw = news ∧ P c)) s₂ := by
    rintro ⟨h', tk, m', nw', e, F, N, off', hn, c, h1, h2, h3⟩
    subst hn
    exact ⟨h', tk, m', nw', e, F, N, off', hm, off, c, h1, h2, rfl, h3⟩
  cases f with
  | ret v => exact h
  | brk => exact h
  | next => exact key h
  | cont => exact key h
/-- over a tuple of ints -/
theorem loop_tupI {σ : Type} {ax : Addr} {lo : Obj} {vs : List Value} {ns : List Int} {n : Nat} {m₀ : Str → Option Value} {news : List (Addr × Obj)} (ps : σ → List (Str × Value)) (stored : List Str) (P : List Int → σ → Prop) (c₀ : σ) (hi : IntsAre vs ns)
    (hh : A.handled = none) (F : Fr h₀ env.locals s.heap m₀) (N : News h₀ env.locals s.heap news) (hm : (ax, lo) ∈ news) (hc : lo.cls = .type "tuple") (hd : lo.data = .seq vs.toArray n)
    (hk : ∀ p ∈ ps c₀, m₀ p.1 = some p.2) (h0 : P [] c₀)
    (turn : ∀ pre k post t c (u : Str → Option Value) I o h tk, ns = pre ++ k :: post → P pre c → (∀ p ∈ news, p.1 ≠ I) → o.cls = .type "tuple_iterator" → Fr h₀ env.locals h (kstB (fun z => if stored.contains z then u z else m₀ z) (ps c)) → News h₀ env.locals h ((I, o) :: news) →
      wpAny (model prog w) A (assign target env (.int k t)) (fun _ s₂ => wpAny (model prog w) A (execs body env) (LoopTurn h₀ env.locals { s with heap := h, toks := tk } I o (Still ps stored m₀ news (P (pre ++ [k]))) Q) E s₂) E { s with heap := h, toks := tk })
    (done : ∀ c (u : Str → Option Value) h tk, P ns c → Fr h₀ env.locals h (kstB (fun z => if stored.contains z then u z else m₀ z) (ps c)) → News h₀ env.locals h news → Q .next { s with heap := h, toks := tk }) :
    wpAny (model prog w) A (pyIter (.ref ax)) (fun it s₂ => TurnsAt prog w A h₀ env target body Q E it s₂) E s := by
  have hl := hi.length
  refine loop_tup ps stored (fun i c nw => nw = news ∧ P (ns.take i) c) c₀ hh F N hm hc hd hk ⟨rfl, by simpa using h0⟩ ?_ ?_
  · rintro i v c nw u I o h tk hv ⟨rfl, hp⟩ hax hne ho F' N'
    obtain ⟨k, t, e, hkk⟩ := IntsAre.at hi i v hv
    subst e
    have hs : ns.take (i + 1) = ns.take i ++ [k] := by simp [List.take_add_one, hkk]
    have e : ns = ns.take i ++ k :: ns.drop (i + 1) := by
      have ht := List.take_append_drop (i + 1) ns
      rw [hs, List.append_assoc] at ht
      exact ht.symm
    rw [hs]
    exact wpAny_mono (turn _ k _ t c u I o h tk e hp hne ho F' N') (fun _ s₂ q => wpAny_mono q (fun f s₃ p => still_post hax hne p) fun _ _ e => e) fun _ _ e => e
  · rintro c nw u h tk ⟨rfl, hp⟩ hax F' N'
    rw [hl, List.take_length] at hp
    exact done c u h tk hp F' N'
/-- over a list of data -/
theorem loop_listD {σ : Type} {ax : Addr} {lo : Obj} {vs : List Value} {ds : List Dat} {n : Nat} {m₀ : Str → Option Value} {news : List (Addr × Obj)} (ps : σ → List (Str × Value)) (stored : List Str) (P : List Dat → σ → Prop) (c₀ : σ) (hi : DatAll news vs ds)
    (hh : A.handled = none) (F : Fr h₀ env.locals s.heap m₀) (N : News h₀ env.locals s.heap news) (hm : (ax, lo) ∈ news) (hc : lo.cls = .type "list") (hd : lo.data = .seq vs.toArray n)
    (hk : ∀ p ∈ ps c₀, m₀ p.1 = some p.2) (h0 : P [] c₀)
    (turn : ∀ pre d post v c (u : Str → Option Value) I o h tk, ds = pre ++ d :: post → d ∈ ds → DatIn news v d → P pre c → (∀ p ∈ news, p.1 ≠ I) → o.cls = .type "list_iterator" → Fr h₀ env.locals h (kstB (fun z => if stored.contains z then u z else m₀ z) (ps c)) → News h₀ env.locals h ((I, o) :: news) →
      wpAny (model prog w) A (assign target env v) (fun _ s₂ => wpAny (model prog w) A (execs body env) (LoopTurn h₀ env.locals { s with heap := h, toks := tk } I o (Still ps stored m₀ news (P (pre ++ [d]))) Q) E s₂) E { s with heap := h, toks := tk })
    (done : ∀ c (u : Str → Option Value) h tk, P ds c → Fr h₀ env.locals h (kstB (fun z => if stored.contains z then u z else m₀ z) (ps c)) → News h₀ env.locals h news → Q .next { s with heap := h, toks := tk }) :
    wpAny (model prog w) A (pyIter (.ref ax)) (fun it s₂ => TurnsAt prog w A h₀ env target body Q E it s₂) E s := by
  have hl := hi.length
  refine loop_list ps stored (fun i c nw => nw = news ∧ P (ds.take i) c) c₀ hh F N hm hc hd hk ⟨rfl, by simpa using h0⟩ ?_ ?_
  · rintro i v c nw u I o h tk hv ⟨rfl, hp⟩ hax hne ho F' N'
    have hlt : i < ds.length := by
      rw [← hl]
      exact (List.getElem?_eq_some_iff.mp hv).1
    obtain ⟨v', hv', hD⟩ := hi.get hlt
    rw [hv] at hv'
    cases hv'
    have hs : ds.take (i + 1) = ds.take i ++ [ds[i]] := by rw [List.take_succ_eq_append_getElem hlt]
    have e : ds = ds.take i ++ ds[i] :: ds.drop (i + 1) := by
      have ht := List.take_append_drop (i + 1) ds
      rw [hs, List.append_assoc] at ht
      exact ht.symm
    rw [hs]
    exact wpAny_mono (turn _ ds[i] _ v c u I o h tk e (List.getElem_mem hlt) hD hp hne ho F' N') (fun _ s₂ q => wpAny_mono q (fun f s₃ p => still_post hax hne p) fun _ _ e => e) fun _ _ e => e
  · rintro c nw u h tk ⟨rfl, hp⟩ hax F' N'
    rw [hl, List.take_length] at hp
    exact done c u h tk hp F' N'
end
end Mine
namespace Mine
open PySem PySem.W PyProof.Rows PySem.Spec PySem.Calls
section
variable {prog : Program} {w : World} {A : Around} {E : Value → Shared → Prop} {s : Shared} {env : Env} {h₀ : Heap} {x : Str} {px : Pos} {body : List Stmt} {Q : Flow → Shared → Prop}
theorem iter_rangeTurns {r : Addr} {a b : Int} {t u v : Tok} {n : Nat} {m₀ : Str → Option Value} {news : List (Addr × Obj)}
    (hh : A.handled = none) (F : Fr h₀ env.locals s.heap m₀) (N : News h₀ env.locals s.heap news) (hr : IsRange s.heap r a b 1 t u v) (hsm : Builtin.Range.small a b 1 = true) (hn : Builtin.Range.rangeSize a b 1 = ((n : Nat) : Int))
    (rest₀ : ∀ I : Addr, (∀ p ∈ news, p.1 < I) → ItemsRest prog w A E h₀ env (.Name x px) body Q s [(I, "range_iterator")] [] ((rangeKs a n).map fun k => .tok fun t => .int k t) m₀ news) :
    wpAny (model prog w) A (pyIter (.ref r)) (fun it s₂ => TurnsAt prog w A h₀ env (.Name x px) body Q E it s₂) E s := by
  refine wpAny_pyIter_range hr hsm ?_
  refine ktu_core (tk0 := s.toks) (keep := []) (KTurns.ofWalks (LCg.range_walks hh a n).bound fun i v s Q E st q => wpAny_pure q) (by rw [List.length_map, rangeKs_length]) (fun i v h hp => ?_) (fun i h st => ?_) (fun b hb => ?_) (fun b hb => by simpa using hb) (fun b hb => .inl (by simpa using hb)) ?_ (fun p hp hI => ?_) ?_ (F.push _) (fun p hp => ⟨Heap.get?_push_of_some _ (N p hp).1, (N p hp).2⟩) trivial (rest₀ s.heap.objs.size fun p hp => Heap.lt_size (N p hp).1)
  · obtain ⟨hi, t', e⟩ := hp
    exact ⟨.tok fun t => .int (a + (i : Int)) t, by simp [rangeKs, hi], t', e⟩
  · exact ⟨[(s.heap.objs.size, _)], ⟨⟨rfl, rfl⟩, trivial⟩, fun p hp => by rw [List.mem_singleton.mp hp]; exact st⟩
  · have hb' : b = s.heap.objs.size := by simpa using hb
    rw [hb']
    exact ⟨List.mem_cons_self .., next_is_new F⟩
  · intro hI
    have e := List.mem_singleton.mp hI
    exact absurd F.ns.lt (e ▸ Nat.lt_irrefl _)
  · exact absurd (Heap.lt_size (N p hp).1) ((List.mem_singleton.mp hI) ▸ Nat.lt_irrefl _)
  · show IsRangeIter _ _ _ _ _
    rw [hn]
    simpa using Heap.get?_push_size _ rfl
/-- what stands between two turns over a range -/
def BetweenR {σ : Type} (ps : σ → List (Str × Value)) (stored : List Str) (m₀ : Str → Option Value) (I : Addr) (Inv : σ → List (Addr × Obj) → Prop) (m : Str → Option Value) (nw : List (Addr × Obj)) : Prop :=
  (∀ p ∈ nw, p.1 ≠ I) ∧ ∃ c, (∀ p ∈ ps c, m p.1 = some p.2) ∧ (∀ z, (∀ p ∈ ps c, z ≠ p.1) → stored.contains z = false → m z = m₀ z) ∧ Inv c nw
theorem LoopTurn.nextR {σ : Type} {ps : σ → List (Str × Value)} {stored : List Str} {m₀ : Str → Option Value} {L I : Addr} {o : Obj} {Inv : σ → List (Addr × Obj) → Prop} {s₁ : Shared} {h' : Heap} {tk : Nat} {m' : Str → Option Value} {all : List (Addr × Obj)} (c : σ) (nw' : List (Addr × Obj))
    (F : Fr h₀ L h' m') (N : News h₀ L h' all) (hI : (I, o) ∈ all) (sub : ∀ p ∈ nw', p ∈ all) (off : ∀ p ∈ nw', p.1 ≠ I) (hk : ∀ p ∈ ps c, m' p.1 = some p.2) (hr : ∀ z, (∀ p ∈ ps c, z ≠ p.1) → stored.contains z = false → m' z = m₀ z) (hv : Inv c nw') :
    LoopTurn h₀ L s₁ I o (BetweenR ps stored m₀ I Inv) Q .next { s₁ with heap := h', toks := tk } :=
  ⟨h', tk, m', nw', rfl, F, fun p hp => by
    rcases List.mem_append.mp hp with hp | hp
    · rw [List.mem_singleton.mp hp]; exact N _ hI
    · exact N p (sub p hp), fun p hp q hq => by rw [List.mem_singleton.mp hq]; exact off p hp, off, c, hk, hr, hv⟩
/-- a loop over a range, by what holds between its turns -/
theorem loop_range {σ : Type} {r : Addr} {a b : Int} {t u v : Tok} {n : Nat} {m₀ : Str → Option Value} {news : List (Addr × Obj)} (ps : σ → List (Str × Value)) (stored : List Str) (Inv : Nat → σ → List (Addr × Obj) → Prop) (c₀ : σ)
    (hh : A.handled = none) (F : Fr h₀ env.locals s.heap m₀) (N : News h₀ env.locals s.heap news) (hr : IsRange s.heap r a b 1 t u v) (hsm : Builtin.Range.small a b 1 = true) (hn : Builtin.Range.rangeSize a b 1 = ((n : Nat) : Int))
    (hk : ∀ p ∈ ps c₀, m₀ p.1 = some p.2) (h0 : Inv 0 c₀ news)
    (turn : ∀ (i : Nat) t c nw (u : Str → Option Value) I o h tk, i < n → Inv i c nw → (∀ p ∈ nw, p.1 ≠ I) → o.cls = .type "range_iterator" → Fr h₀ env.locals h (kstB (fun z => if stored.contains z then u z else m₀ z) (ps c)) → News h₀ env.locals h ((I, o) :: nw) →
      wpAny (model prog w) A (assign (.Name x px) env (.int (a + (i : Int)) t)) (fun _ s₂ => wpAny (model prog w) A (execs body env) (LoopTurn h₀ env.locals { s with heap := h, toks := tk } I o (BetweenR ps stored m₀ I (Inv (i + 1))) Q) E s₂) E { s with heap := h, toks := tk })
    (done : ∀ c nw (u : Str → Option Value) h tk, Inv n c nw → Fr h₀ env.locals h (kstB (fun z => if stored.contains z then u z else m₀ z) (ps c)) → News h₀ env.locals h nw → Q .next { s with heap := h, toks := tk }) :
    wpAny (model prog w) A (pyIter (.ref r)) (fun it s₂ => TurnsAt prog w A h₀ env (.Name x px) body Q E it s₂) E s := by
  refine iter_rangeTurns hh F N hr hsm hn fun I hI => ?_
  have key : ∀ (xs : List Int) (i : Nat) (m : Str → Option Value) (nw : List (Addr × Obj)), (rangeKs a n).drop i = xs → i ≤ n → BetweenR ps stored m₀ I (Inv i) m nw →
      ItemsRest prog w A E h₀ env (.Name x px) body Q s [(I, "range_iterator")] [] (xs.map fun k => .tok fun t => .int k t) m nw := by
    intro xs
    induction xs with
    | nil =>
      intro i m nw hx hi hb
      obtain ⟨hne, c, h1, h2, hv⟩ := hb
      have e : i = n := by
        have := congrArg List.length hx
        rw [List.length_drop, List.length_nil, rangeKs_length] at this
        omega
      subst e
      exact ItemsRest.zero fun h tk F' N' => done c nw m h tk hv (between_fr h1 h2 F') N'
    | cons k r ih =>
      intro i m nw hx hi hb
      obtain ⟨hne, c, h1, h2, hv⟩ := hb
      have hlt' : i < (rangeKs a n).length := by
        have := congrArg List.length hx
        rw [List.length_drop, List.length_cons] at this
        omega
      have hlt : i < n := by rw [rangeKs_length] at hlt'; exact hlt'
      have hki : k = a + (i : Int) := by
        rw [List.drop_eq_getElem_cons hlt'] at hx
        have := (List.cons.inj hx).1
        simpa [rangeKs] using this.symm
      have hr' : (rangeKs a n).drop (i + 1) = r := by
        rw [List.drop_eq_getElem_cons hlt'] at hx
        exact (List.cons.inj hx).2
      subst hki
      refine ItemsRest.tok fun t h tk F' => AllObj.cons fun o ho => AllObj.nil fun N' => ?_
      refine wpAny_mono (turn i t c nw m I o h tk hlt hv hne ho (between_fr h1 h2 F') N') (fun _ s₂ q => wpAny_mono q (fun f s₃ p => ?_) fun _ _ e => e) fun _ _ e => e
      have fin : ∀ s₃, UnrEndW h₀ env.locals { s with heap := h, toks := tk } [(I, o)] (BetweenR ps stored m₀ I (Inv (i + 1))) s₃ →
          UnrEndW h₀ env.locals { s with heap := h, toks := tk } [(I, o)] (fun m' n' => SubL [] n' ∧ ItemsRest prog w A E h₀ env (.Name x px) body Q s [(I, "range_iterator")] [] (r.map fun k => .tok fun t => .int k t) m' n') s₃ := by
        rintro s₃ ⟨h', tk', m', nw', e, F₃, N₃, off, b⟩
        exact ⟨h', tk', m', nw', e, F₃, N₃, off, trivial, ih (i + 1) m' nw' hr' hlt b⟩
      cases f with
      | ret v => exact p
      | brk => exact p
      | next => exact fin _ p
      | cont => exact fin _ p
  exact key (rangeKs a n) 0 m₀ news (List.drop_zero) (Nat.zero_le _) ⟨fun p hp => Nat.ne_of_lt (hI p hp), c₀, hk, fun _ _ _ => rfl, h0⟩
end
end Mine
namespace Mine
open PySem PySem.W PyProof.Rows PySem.Spec PySem.Calls PyProof.Rows.LCg PyProof.Rows.LCt
section
variable {prog : Program} {w : World} {A : Around} {E : Value → Shared → Prop} {s : Shared} {h₀ : Heap} {L : Addr} {m : Str → Option Value} {env : Env}
/-- the source of a comprehension (the walk stops here) -/
def SrcU (prog : Program) (w : World) (A : Around) (h₀ : Heap) (L : Addr) (m : Str → Option Value) (env : Env) (elt : Expr) (x : Str) (scope : Scope) (cl : List (Str × Addr)) (Fin : Shared → List Value → List (Addr × Obj) → Prop) (xv : Value) (s₁ : Shared) : Prop :=
  CompSrc prog w A h₀ L m env elt x scope cl Fin xv s₁
theorem SrcU.ledger {elt : Expr} {x : Str} {scope : Scope} {cl : List (Str × Addr)} {Fin : Shared → List Value → List (Addr × Obj) → Prop} {ax : Addr} {its : Array Value} {k : Nat} {news : List (Addr × Obj)} {s₁ : Shared}
    (hh : A.handled = none) (F : Fr h₀ L s₁.heap m) (N : News h₀ L s₁.heap news) (hm : (ax, ({ cls := .type "list", data := .seq its k } : Obj)) ∈ news) (hsz : its.size ≤ sizeLine)
    (h : ∀ g, CompRest prog w A h₀ L m env elt x scope cl { s₁ with heap := g } (SrcAt h₀ ax its) (fun i v => its[i]? = some v) (Fin { s₁ with heap := g }) its.size 0 [] news) :
    SrcU prog w A h₀ L m env elt x scope cl Fin (.ref ax) s₁ := CompSrc.ledger hh F N hm hsz h
theorem SrcU.range {elt : Expr} {x : Str} {scope : Scope} {cl : List (Str × Addr)} {Fin : Shared → List Value → List (Addr × Obj) → Prop} {r : Addr} {a b : Int} {t u v : Tok} {n : Nat} {news : List (Addr × Obj)} {s₁ : Shared}
    (hh : A.handled = none) (F : Fr h₀ L s₁.heap m) (N : News h₀ L s₁.heap news) (hr : IsRange s₁.heap r a b 1 t u v) (hsm : Builtin.Range.small a b 1 = true) (hn : Builtin.Range.rangeSize a b 1 = ((n : Nat) : Int)) (hsz : n ≤ sizeLine)
    (h : ∀ g, CompRest prog w A h₀ L m env elt x scope cl { s₁ with heap := g } (fun _ => True) (fun i v => ∃ t, v = .int (a + (i : Int)) t) (Fin { s₁ with heap := g }) n 0 [] news) :
    SrcU prog w A h₀ L m env elt x scope cl Fin (.ref r) s₁ := CompSrc.range hh F N hr hsm hn hsz h
theorem ListComp_V {elt iter : Expr} {x : Str} {px : Pos} {scope : Scope} {cl : List (Str × Addr)} {pos : Pos} {Q : Value → Shared → Prop} (F₀ : Fr h₀ L s.heap m)
    (hclos : closureFor scope env = pure cl) (hcell : ∀ y ∈ scope.names, y.2 ≠ .cell) (hkind : scope.kind = .function)
    (hnames : ∀ y ∈ scope.names, y.2 = .local → scope.names.lookup y.1 = some .local) (hx : scope.names.lookup x = some .local)
    (h : wpAny (model prog w) A (eval iter env) (SrcU prog w A h₀ L m env elt x scope cl (fun s₂ => FinE h₀ L m s₂ Q)) E s)
    (hs : ∀ x, foldedSetIterable iter env x = pure x := by intro _; rfl) :
    wpAny (model prog w) A (eval (.ListComp elt [⟨.Name x px, iter, [], 0⟩] scope pos) env) Q E s := ListComp_U F₀ hclos hcell hkind hnames hx h hs
theorem Assign_ListComp_V {elt iter : Expr} {x y : Str} {px py : Pos} {scope : Scope} {cl : List (Str × Addr)} {pos spos : Pos} {Q : Flow → Shared → Prop} (F₀ : Fr h₀ L s.heap m) (hLe : env.locals = L)
    (hsw : swapsWith (.ListComp elt [⟨.Name x px, iter, [], 0⟩] scope pos) (some (.Name y py)) spos.line env = pure true)
    (hclos : closureFor scope env = pure cl) (hcell : ∀ z ∈ scope.names, z.2 ≠ .cell) (hkind : scope.kind = .function)
    (hnames : ∀ z ∈ scope.names, z.2 = .local → scope.names.lookup z.1 = some .local) (hx : scope.names.lookup x = some .local)
    (hy : env.kindOf y = some .local) (hp : (env.scope.kind == .class || (env.scope.kind == .module && env.locals != env.globals)) = false)
    (h : wpAny (model prog w) A (eval iter env) (SrcU prog w A h₀ L m env elt x scope cl (fun s₂ => FinA h₀ L m s₂ y Q)) E s)
    (hs : ∀ x, foldedSetIterable iter env x = pure x := by intro _; rfl) :
    wpAny (model prog w) A (exec (.Assign [.Name y py] (.ListComp elt [⟨.Name x px, iter, [], 0⟩] scope pos) spos) env) Q E s := Assign_ListComp_U F₀ hLe hsw hclos hcell hkind hnames hx hy hp h hs
end
end Mine
namespace Mine
open PySem PySem.W PyProof.Rows PySem.Spec PySem.Calls PyProof.Rows.LCg PyProof.Rows.LCt
section
variable {prog : Program} {w : World} {A : Around} {E : Value → Shared → Prop} {s : Shared} {h₀ : Heap} {L : Addr} {m : Str → Option Value} {env : Env}
def TupAt (ax : Addr) (its : Array Value) (nw : List (Addr × Obj)) : Prop := ∃ o, (ax, o) ∈ nw ∧ o.cls = .type "tuple" ∧ ∃ n, o.data = .seq its n
theorem TupAt.tup {h : Heap} {ax : Addr} {its : Array Value} {nw : List (Addr × Obj)} (x : TupAt ax its nw) (N : News h₀ L h nw) : h.IsTuple ax its := by
  obtain ⟨o, hm, hc, n, hd⟩ := x
  exact ⟨o, (N _ hm).1, hc, n, hd⟩
def SrcT (prog : Program) (w : World) (A : Around) (h₀ : Heap) (L : Addr) (m : Str → Option Value) (R : Shared → Addr → Array Value → List (Addr × Obj) → Prop) (xv : Value) (s₁ : Shared) : Prop :=
  ∃ ax its news, xv = .ref ax ∧ A.handled = none ∧ Fr h₀ L s₁.heap m ∧ News h₀ L s₁.heap news ∧ TupAt ax its news ∧ its.size ≤ sizeLine ∧ ∀ s₂ : Shared, (∃ h, s₂ = { s₁ with heap := h }) → R s₂ ax its news
theorem SrcT.intro {R : Shared → Addr → Array Value → List (Addr × Obj) → Prop} {ax : Addr} {its : Array Value} {k : Nat} {s₁ : Shared} {news : List (Addr × Obj)} (hh : A.handled = none) (F : Fr h₀ L s₁.heap m) (N : News h₀ L s₁.heap news) (hm : (ax, ({ cls := .type "tuple", data := .seq its k } : Obj)) ∈ news) (hsz : its.size ≤ sizeLine) (h : ∀ g, R { s₁ with heap := g } ax its news) : SrcT prog w A h₀ L m R (.ref ax) s₁ :=
  ⟨ax, its, news, rfl, hh, F, N, ⟨_, hm, rfl, _, rfl⟩, hsz, fun _ ⟨g, e⟩ => e ▸ h g⟩
theorem tupiter_st {ax I : Addr} {its : Array Value} : ∀ i (h h' : Heap) (o : Obj) (nw : List (Addr × Obj)), (h.IsTupleIter I ax i ∧ h.IsTuple ax its) → h.get? I = some o → h'.get? I = some o → (∀ b o, h₀.get? b = some o → h'.get? b = some o) → News h₀ L h' nw → TupAt ax its nw → (h'.IsTupleIter I ax i ∧ h'.IsTuple ax its) :=
  fun i h h' o nw st e e' k N S => ⟨by obtain ⟨o', q, r⟩ := st.1; rw [e] at q; cases q; exact ⟨o, e', r⟩, S.tup N⟩
/-- a comprehension over a tuple -/
theorem ListComp_Tu {elt iter : Expr} {x : Str} {px : Pos} {scope : Scope} {cl : List (Str × Addr)} {pos : Pos} {Q : Value → Shared → Prop} (_F₀ : Fr h₀ L s.heap m)
    (hclos : closureFor scope env = pure cl) (hcell : ∀ y ∈ scope.names, y.2 ≠ .cell) (hkind : scope.kind = .function)
    (hnames : ∀ y ∈ scope.names, y.2 = .local → scope.names.lookup y.1 = some .local) (hx : scope.names.lookup x = some .local)
    (h : wpAny (model prog w) A (eval iter env) (SrcT prog w A h₀ L m (fun s₂ ax its news => CompRest prog w A h₀ L m env elt x scope cl s₂ (TupAt ax its) (fun i v => its[i]? = some v) (FinE h₀ L m s₂ Q) its.size 0 [] news)) E s)
    (hs : ∀ x, foldedSetIterable iter env x = pure x := by intro _; rfl) :
    wpAny (model prog w) A (eval (.ListComp elt [⟨.Name x px, iter, [], 0⟩] scope pos) env) Q E s := by
  rw [eval_ListComp]
  refine wpAny_comprehension_free (use := none) rfl hs hclos hkind hnames (wpAny_mono h (fun xv s₁ h₁ => ?_) fun _ _ e => e)
  obtain ⟨ax, its, news, rfl, hh, F, N, S, hsz, R⟩ := h₁
  have hl := S.tup N
  have hlt : ax < s₁.heap.objs.size := by obtain ⟨_, e, _⟩ := hl; exact Heap.lt_size e
  refine wpAny_pyIter_tuple hl ?_
  have up : ∀ b o, s₁.heap.get? b = some o → (s₁.heap.push { cls := .type "tuple_iterator", data := .fields #[.ref ax, .int 0 0] }).get? b = some o := fun b o e => Heap.get?_push_of_some _ e
  refine block_U (Walks.tuple hh s₁.heap.objs.size ax (Nat.ne_of_lt hlt) its) hsz (fun i h st => by obtain ⟨o, e, _⟩ := st.1; exact ⟨o, e⟩) tupiter_st hcell hkind hx ⟨⟨_, Heap.get?_push_size _ rfl, rfl, rfl⟩, hl.at fun o e => Heap.get?_push_of_some _ e⟩ (fun b hb => ?_)
    (F.keeps up) (N.grown up) (Nat.ne_of_lt F.ns.lt) (next_is_new F) (fun p hp => Nat.ne_of_lt (Heap.lt_size (N p hp).1)) S (R _ ⟨_, rfl⟩) ?_
  · show b < (s₁.heap.push _).objs.size
    rw [Heap.size_push]
    rcases List.mem_cons.mp hb with rfl | hb
    · exact Nat.lt_succ_self _
    · rw [List.mem_singleton.mp hb]; exact Nat.lt_succ_of_lt hlt
  · intro D C h tk m' ys news' F' N' o1 hn hC₀ hD₀ hCL hDL hCD offC fin
    refine ⟨m', hn, fun h'' hs'' => fin D h'' tk (F'.change hs'' hCL hC₀) (fun p hp => ?_) o1⟩
    refine ⟨hs''.extBut _ _ ?_ (N' p hp).1, (N' p hp).2⟩
    rcases List.mem_cons.mp hp with rfl | hp
    · exact Ne.symm hCD
    · exact offC p hp
/-- bools by the ints of a tuple -/
theorem tup_bool {elt : Expr} {x : Str} {scope : Scope} {cl : List (Str × Addr)} {Fin : List Value → List (Addr × Obj) → Prop} {S : List (Addr × Obj) → Prop} {vs : List Value} {ns : List Int} {news : List (Addr × Obj)} (f : Int → Bool) (hi : IntsAre vs ns) (hS : S news)
    (turn : ∀ k u ys I oI C oC D m₂ h tk (E' : Value → Shared → Prop), NsObj oC m₂ → m₂ x = some (.int k u) → Fr h₀ L h m → News h₀ L h ((I, oI) :: (C, oC) :: (D, lst ys) :: news) → Off3 I C D news → ((@Ne Nat I C) ∧ (@Ne Nat I D) ∧ (@Ne Nat C D)) →
      wpAny (model prog w) A (eval elt (compEnvC scope cl C env)) (CompTurn h₀ L m { s with heap := h, toks := tk } I oI C oC D (lst ys) (fun _ => True) (fun y nw' => nw' = news ∧ y = .bool (f k))) E' { s with heap := h, toks := tk })
    (fin : ∀ ys, LSm.BoolsAre ys (ns.map f) → Fin ys news) : CompRest prog w A h₀ L m env elt x scope cl s S (fun i v => vs.toArray[i]? = some v) Fin vs.toArray.size 0 [] news := by
  have hl := hi.length
  refine rest_inv (fun i ys nw => nw = news ∧ LSm.BoolsAre ys ((ns.take i).map f)) ⟨rfl, .nil⟩ ?_ ?_
  · rintro i ys nw v I oI C oC D m₂ h tk E' hlt ⟨rfl, hb⟩ hv hC hx F N off ne
    obtain ⟨k, u, e, hk⟩ := IntsAre.at hi i v (by simpa using hv)
    subst e
    refine wpAny_mono (turn k u ys I oI C oC D m₂ h tk E' hC hx F N off ne) (fun y s₂ hq => ?_) fun _ _ e => e
    obtain ⟨h', tk', nw', e, F', N', off', _, hn, hy⟩ := hq
    subst hn hy
    refine ⟨h', tk', _, e, F', N', off', hS, rfl, ?_⟩
    rw [show ns.take (i + 1) = ns.take i ++ [k] by simp [List.take_add_one, hk], List.map_append]
    exact bools_snoc hb
  · rintro ys nw ⟨rfl, hb⟩
    rw [List.size_toArray, hl, List.take_length] at hb
    exact fin ys hb
end
end Mine
namespace Mine
open PySem PySem.W PyProof.Rows
/-- a call makes objects and hands back a value of which Out is told; the ledger grows -/
def Cm (prog : Program) (w : World) (K : Frag) (p : Program) (loose : List Str) (mean : ExcName → Option Value) (mg mb : Str → Option Value) (f : Addr) (sz : Nat) (vs : List Value) (P : Heap → List (Addr × Obj) → Prop) (Out : Value → List (Addr × Obj) → Prop) : Prop :=
  ∀ (dp un : Nat) (gd : Option (List Code)) (cn : Str) (cs : Scope) (a : Addr) (ccd : Value) (cl : List (Str × Addr)) (outer : List Env) (A₀ : Around) (base h₀ : Heap) (L : Addr) (m : Str → Option Value) (news : List (Addr × Obj)) (s : Shared) (Q E : Value → Shared → Prop),
    Below A₀ base outer h₀ → Fr h₀ L s.heap m → K.In h₀ → News h₀ L s.heap news → Top p loose mean mg mb h₀ → cs.kind = .function → dp + sz < recursionLimit → un + 8 * sz < cLine → P h₀ news →
    (∀ (r : Value) (add : List (Addr × Obj)) (h' : Heap) (tk' : Nat), Out r add → (∀ p ∈ add, ∀ q ∈ news, q.1 ≠ p.1) → Fr h₀ L h' m → News h₀ L h' (add ++ news) → Q r { s with heap := h', toks := tk' }) →
    wpAny (model prog w) (ktrTop dp un gd cn cs L a ccd cl outer) (call (.ref f) vs) Q E s
theorem Cm.use {prog : Program} {w : World} {K : Frag} {p : Program} {loose : List Str} {mean : ExcName → Option Value} {mg mb : Str → Option Value} {f : Addr} {sz : Nat} {vs : List Value} {P : Heap → List (Addr × Obj) → Prop} {Out : Value → List (Addr × Obj) → Prop} (C : Cm prog w K p loose mean mg mb f sz vs P Out)
    {dp un : Nat} {gd : Option (List Code)} {cn : Str} {cs : Scope} {a : Addr} {ccd : Value} {cl : List (Str × Addr)} {outer : List Env} {A₀ : Around} {base h₀ : Heap} {L : Addr} {m : Str → Option Value} {news : List (Addr × Obj)} {s : Shared} {Q E : Value → Shared → Prop}
    (B : Below A₀ base outer h₀ := by k_asm) (F : Fr h₀ L s.heap m := by k_asm) (X : K.In h₀ := by k_asm) (N : News h₀ L s.heap news := by k_asm) (T : Top p loose mean mg mb h₀ := by k_asm) (hk : cs.kind = .function := by first | exact rfl | assumption) (hd : dp + sz < recursionLimit := by first | assumption | omega | ktr_room) (hu : un + 8 * sz < cLine := by first | assumption | omega | ktr_units) (hp : P h₀ news := by first | trivial | k_mem)
    (ret : ∀ (r : Value) (add : List (Addr × Obj)) (h' : Heap) (tk' : Nat), Out r add → (∀ p ∈ add, ∀ q ∈ news, q.1 ≠ p.1) → Fr h₀ L h' m → News h₀ L h' (add ++ news) → Q r { s with heap := h', toks := tk' }) :
    wpAny (model prog w) (ktrTop dp un gd cn cs L a ccd cl outer) (call (.ref f) vs) Q E s := C _ _ _ _ _ _ _ _ _ _ _ _ _ _ _ _ _ _ B F X N T hk hd hu hp ret
/-- a list of texts of the ledger -/
def TextsAt (L : List (Addr × Obj)) (D : Addr) (n k : Nat) : Prop := ∃ ys xs, (D, LCg.lst ys) ∈ L ∧ StrsAre ys xs ∧ xs.length = k ∧ ∀ x ∈ xs, x.length ≤ n ∧ PyData.strOk x = true
theorem TextsAt.mono {L L' : List (Addr × Obj)} {D : Addr} {n k : Nat} (h : TextsAt L D n k) (hs : ∀ p ∈ L, p ∈ L') : TextsAt L' D n k := by
  obtain ⟨ys, xs, hm, r⟩ := h
  exact ⟨ys, xs, hs _ hm, r⟩
theorem dat_pair {nw : List (Addr × Obj)} {v : Value} {x : Str} {d : Dat} (h : DatIn nw v (.tuple [.str x, d])) : ∃ a n t u, v = .ref a ∧ (a, ({ cls := .type "tuple", data := .seq #[.str x t, u] n } : Obj)) ∈ nw ∧ DatIn nw u d := by
  cases h with
  | tuple hm r =>
    cases r with
    | cons h1 r =>
      cases h1
      cases r with
      | cons h2 r => cases r; exact ⟨_, _, _, _, rfl, hm, h2⟩
theorem dat_two {nw : List (Addr × Obj)} {v : Value} {a b : Int} (h : DatIn nw v (.tuple [.int a, .int b])) : ∃ ad n t u, v = .ref ad ∧ (ad, ({ cls := .type "tuple", data := .seq #[.int a t, .int b u] n } : Obj)) ∈ nw := by
  cases h with
  | tuple hm r =>
    cases r with
    | cons h1 r =>
      cases h1
      cases r with
      | cons h2 r => cases h2; cases r; exact ⟨_, _, _, _, rfl, hm⟩
theorem dat_three {nw : List (Addr × Obj)} {v : Value} {a b c : Int} (h : DatIn nw v (.tuple [.int a, .int b, .int c])) : ∃ ad n t u w, v = .ref ad ∧ (ad, ({ cls := .type "tuple", data := .seq #[.int a t, .int b u, .int c w] n } : Obj)) ∈ nw := by
  cases h with
  | tuple hm r =>
    cases r with
    | cons h1 r =>
      cases h1
      cases r with
      | cons h2 r =>
        cases h2
        cases r with
        | cons h3 r => cases h3; cases r; exact ⟨_, _, _, _, _, rfl, hm⟩
theorem dat_letter {nw : List (Addr × Obj)} {v : Value} {x : Str} {a b c d : Int} (h : DatIn nw v (.tuple [.str x, .int a, .int b, .int c, .int d])) : ∃ ad n t t1 t2 t3 t4, v = .ref ad ∧ (ad, ({ cls := .type "tuple", data := .seq #[.str x t, .int a t1, .int b t2, .int c t3, .int d t4] n } : Obj)) ∈ nw := by
  cases h with
  | tuple hm r =>
    cases r with
    | cons h1 r =>
      cases h1
      cases r with
      | cons h2 r =>
        cases h2
        cases r with
        | cons h3 r =>
          cases h3
          cases r with
          | cons h4 r =>
            cases h4
            cases r with
            | cons h5 r => cases h5; cases r; exact ⟨_, _, _, _, _, _, _, rfl, hm⟩
theorem dat_at {nw : List (Addr × Obj)} {vs : List Value} {ds : List Dat} (h : DatAll nw vs ds) {i : Nat} {v : Value} (hv : vs[i]? = some v) : ∃ d, ds[i]? = some d ∧ d ∈ ds ∧ DatIn nw v d := by
  have hl := h.length
  have hi : i < ds.length := by
    rw [← hl]
    exact (List.getElem?_eq_some_iff.mp hv).1
  obtain ⟨u, hu, hd⟩ := h.get hi
  rw [hv] at hu
  cases hu
  exact ⟨ds[i], List.getElem?_eq_getElem hi, List.getElem_mem hi, hd⟩
/-- ledger work: what is in the tail of a grown ledger -/
theorem sub_mid {α : Type} {a b c : List α} : ∀ p ∈ b ++ (a ++ c), p ∈ a ++ (b ++ c) := fun p hp => by
  simp only [List.mem_append] at hp ⊢
  rcases hp with h | h | h
  · exact .inr (.inl h)
  · exact .inl h
  · exact .inr (.inr h)
theorem sub_three {α : Type} {x y z : α} {add nw : List α} : ∀ p ∈ x :: y :: z :: (add ++ nw), p ∈ add ++ x :: y :: z :: nw := fun p hp => by
  simp only [List.mem_cons, List.mem_append] at hp ⊢
  rcases hp with h | h | h | h | h
  · exact .inr (.inl h)
  · exact .inr (.inr (.inl h))
  · exact .inr (.inr (.inr (.inl h)))
  · exact .inl h
  · exact .inr (.inr (.inr (.inr h)))
theorem off_three {I C D : Addr} {oI oC oD : Obj} {add nw : List (Addr × Obj)} (off : LCg.Off3 I C D nw) (hlt : ∀ p ∈ add, ∀ q ∈ (I, oI) :: (C, oC) :: (D, oD) :: nw, q.1 ≠ p.1) : LCg.Off3 I C D (add ++ nw) :=
  LCg.Off3.of fun p hp => by
    rcases List.mem_append.mp hp with h | h
    · exact ⟨Ne.symm (hlt p h _ (.head _)), Ne.symm (hlt p h _ (.tail _ (.head _))), Ne.symm (hlt p h _ (.tail _ (.tail _ (.head _))))⟩
    · exact off.mem p h
theorem off1_mem {D : Addr} : ∀ {l : List (Addr × Obj)}, LCg.Off1 D l → ∀ p ∈ l, p.1 ≠ D
  | [], _, _, h => nomatch h
  | _ :: _, x, p, h => by
    rcases List.mem_cons.mp h with rfl | h
    · exact x.1
    · exact off1_mem x.2 p h
theorem allLt_mem {d : Addr} : ∀ {l : List (Addr × Obj)}, AllLt d l → ∀ p ∈ l, p.1 < d
  | [], _, _, h => nomatch h
  | _ :: _, x, p, h => by
    rcases List.mem_cons.mp h with rfl | h
    · exact x.1
    · exact allLt_mem x.2 p h
theorem ne_above {d e : Nat} {l : List (Addr × Obj)} (h : ∀ p ∈ l, p.1 < d) (hle : d ≤ e) : ∀ p ∈ l, p.1 ≠ e := fun p hp q => by
  have := h p hp
  rw [q] at this
  exact Nat.lt_irrefl _ (Nat.lt_of_lt_of_le this hle)
theorem srcAt_mono {h₀ : Heap} {ax : Addr} {its : Array Value} {nw nw' : List (Addr × Obj)} (h : LCg.SrcAt h₀ ax its nw) (hs : ∀ p ∈ nw, p ∈ nw') : LCg.SrcAt h₀ ax its nw' := by
  rcases h with h | ⟨o, hm, r⟩
  · exact .inl h
  · exact .inr ⟨o, hs _ hm, r⟩
end Mine
namespace Mine
open PySem PySem.W PyProof.Rows PyProof.Rows.LCg
/-- each element is such a value, the ledger is as it was -/
theorem rest_each {prog : Program} {w : World} {A : Around} {s : Shared} {h₀ : Heap} {L : Addr} {m : Str → Option Value} {env : Env} {elt : Expr} {x : Str} {scope : Scope} {cl : List (Str × Addr)} {S : List (Addr × Obj) → Prop} {P : Nat → Value → Prop} {Fin : List Value → List (Addr × Obj) → Prop} {n : Nat} {news : List (Addr × Obj)}
    (V : Value → Prop) (hS : S news)
    (turn : ∀ i ys v I oI C oC D m₂ h tk (E' : Value → Shared → Prop), i < n → P i v → NsObj oC m₂ → m₂ x = some v → Fr h₀ L h m → News h₀ L h ((I, oI) :: (C, oC) :: (D, lst ys) :: news) → Off3 I C D news → ((@Ne Nat I C) ∧ (@Ne Nat I D) ∧ (@Ne Nat C D)) →
      wpAny (model prog w) A (eval elt (compEnvC scope cl C env)) (CompTurn h₀ L m { s with heap := h, toks := tk } I oI C oC D (lst ys) (fun _ => True) (fun y nw' => nw' = news ∧ V y)) E' { s with heap := h, toks := tk })
    (fin : ∀ ys, ys.length = n → (∀ v ∈ ys, V v) → Fin ys news) : CompRest prog w A h₀ L m env elt x scope cl s S P Fin n 0 [] news := by
  refine rest_inv (fun i ys nw => nw = news ∧ ys.length = i ∧ ∀ v ∈ ys, V v) ⟨rfl, rfl, fun _ h => nomatch h⟩ ?_ ?_
  · rintro i ys nw v I oI C oC D m₂ h tk E' hi ⟨rfl, hl, hb⟩ hv hC hx F N off ne
    refine wpAny_mono (turn i ys v I oI C oC D m₂ h tk E' hi hv hC hx F N off ne) (fun y s₂ hq => ?_) fun _ _ e => e
    obtain ⟨h', tk', nw', e, F', N', off', _, hn, hy⟩ := hq
    subst hn
    refine ⟨h', tk', _, e, F', N', off', hS, rfl, by rw [List.length_append, List.length_singleton, hl], fun u hu => ?_⟩
    rcases List.mem_append.mp hu with hu | hu
    · exact hb u hu
    · rw [List.mem_singleton.mp hu]; exact hy
  · rintro ys nw ⟨rfl, hl, hb⟩
    exact fin ys hl hb
theorem texts_of {n : Nat} : ∀ {ys : List Value}, (∀ v ∈ ys, TextLe n v) → ∃ xs, StrsAre ys xs ∧ xs.length = ys.length ∧ ∀ x ∈ xs, x.length ≤ n ∧ PyData.strOk x = true
  | [], _ => ⟨[], .nil, rfl, fun _ h => nomatch h⟩
  | v :: r, h => by
    obtain ⟨x, t, e, hl⟩ := h v (.head _)
    subst e
    obtain ⟨xs, hs, hn, hb⟩ := texts_of (ys := r) fun u hu => h u (.tail _ hu)
    refine ⟨x :: xs, .cons x t hs, by rw [List.length_cons, List.length_cons, hn], fun y hy => ?_⟩
    rcases List.mem_cons.mp hy with rfl | hy
    · exact hl
    · exact hb y hy
theorem fdiv_b {i : Nat} (h : i < 42) : 0 ≤ Int.fdiv (0 + (i : Int)) 26 ∧ Int.fdiv (0 + (i : Int)) 26 < 2 := by
  rw [Int.fdiv_eq_ediv_of_nonneg _ (by decide)]; omega
theorem fmod11 (c : Int) : 0 ≤ c.fmod 11 ∧ c.fmod 11 < 11 := ⟨Int.fmod_nonneg_of_pos c (by decide), Int.fmod_lt_of_pos c (by decide)⟩
/-- a name: a text with a sign and another text within -/
theorem name_ok {x y z : Str} {c : Int} {l u : Option Int} {l' u' : Option Int} {i : Int} {t : Tok} (hx : x.length ≤ (c.fmod 11).toNat) (ox : PyData.strOk x = true) (oy : PyData.strOk y = true) (hz : z.length ≤ 1 ∧ PyData.strOk z = true) :
    TextLe 24 (.str (Txt.slice x l u ++ Txt.item y i ++ z ++ Txt.slice x l' u') t) := by
  have hc := fmod11 c
  have h1 := Txt.slice_le x l u
  have h2 := Txt.slice_le x l' u'
  refine textLe_of ?_ (strOk_append (strOk_append (strOk_append (strOk_slice ox _ _) (strOk_item oy _)) hz.2) (strOk_slice ox _ _))
  rw [Str.length_append, Str.length_append, Str.length_append, len_item1]
  omega
/-- a letter: a name, two counts, two ends -/
def LetterOk (d : Dat) : Prop := ∃ x se ba lo hi, d = .tuple [.str x, .int se, .int ba, .int lo, .int hi] ∧ (x.length ≤ 24 ∧ PyData.strOk x = true) ∧ (0 ≤ se ∧ se ≤ ba ∧ ba ≤ 2000000000000) ∧ 0 ≤ lo ∧ lo ≤ hi ∧ hi ≤ 2000000000000
theorem letter_dat {L : List (Addr × Obj)} {a : Addr} {n : Nat} {x : Str} {se ba lo hi : Int} {t t1 t2 t3 t4 : Tok} (hm : (a, ({ cls := .type "tuple", data := .seq #[.str x t, .int se t1, .int ba t2, .int lo t3, .int hi t4] n } : Obj)) ∈ L)
    (hx : x.length ≤ 24 ∧ PyData.strOk x = true) (h1 : 0 ≤ se ∧ se ≤ ba ∧ ba ≤ 2000000000000) (h2 : 0 ≤ lo ∧ lo ≤ hi ∧ hi ≤ 2000000000000) : ∃ d, DatIn L (.ref a) d ∧ LetterOk d :=
  ⟨_, .tuple (vs := [.str x t, .int se t1, .int ba t2, .int lo t3, .int hi t4]) hm (.cons (.str _ _) (.cons (.int _ _) (.cons (.int _ _) (.cons (.int _ _) (.cons (.int _ _) .nil))))), x, se, ba, lo, hi, rfl, hx, h1, h2⟩
theorem item_name {prog : Program} {w : World} {A : Around} {E : Value → Shared → Prop} {s : Shared} {value slice : PySem.Expr} {h₀ : Heap} {L l : Addr} {news : List (Addr × Obj)} {ys : List Value} {xs : List Str} {k : Int} {u : Tok} {Q : Value → Shared → Prop} (N : News h₀ L s.heap news) (hm : (l, LCg.lst ys) ∈ news) (hs : StrsAre ys xs)
    (h0 : 0 ≤ k ∧ k < (xs.length : Int)) (hfit : k < 2 ^ 63) (h : ∀ x t, x ∈ xs → Q (.str x t) s)
    (hq : subscripted slice false (.ref l) (.int k u) = operate [.ref l, .int k u] (getItem (.ref l) (.int k u)) := by with_unfolding_all rfl) :
    wpAny (model prog w) A (subscriptTail value slice (.ref l) (.int k u)) Q E s :=
  KTb.item_list (News.isList N hm) hs h0.1 h0.2 hfit (fun t hlt => h _ t (by rw [List.getD_eq_getElem?_getD, List.getElem?_eq_getElem hlt, Option.getD_some]; exact List.getElem_mem hlt)) hq
/-- an item of a written list of ints, by its least and its greatest -/
theorem item_bd {prog : Program} {w : World} {A : Around} {E : Value → Shared → Prop} {s : Shared} {value slice : PySem.Expr} {l : Addr} {vs : List Value} {ns : List Int} {k : Int} {u : Tok} {Q : Value → Shared → Prop} (lo hi : Int) (hl : s.heap.IsList l vs.toArray) (hi' : IntsAre vs ns) (hb : ∀ n ∈ ns, lo ≤ n ∧ n ≤ hi)
    (h0 : 0 ≤ k ∧ k < (ns.length : Int)) (hfit : k < 2 ^ 63) (h : ∀ t x, (lo ≤ x ∧ x ≤ hi) → Q (.int x t) s)
    (hs : subscripted slice false (.ref l) (.int k u) = operate [.ref l, .int k u] (getItem (.ref l) (.int k u)) := by with_unfolding_all rfl) :
    wpAny (model prog w) A (subscriptTail value slice (.ref l) (.int k u)) Q E s := by
  have hlt : k.toNat < ns.length := by omega
  obtain ⟨t, hx⟩ := hi'.get k.toNat ns[k.toNat] (List.getElem?_eq_getElem hlt)
  exact tail_any hl.typeIs slot_list_getitem.lookup (wpAny_getItem_list hl h0.1 hfit (by simpa using hx) (h t _ (hb _ (List.getElem_mem hlt)))) hs
theorem letter_ret {h₀ h' : Heap} {L : Addr} {m : Str → Option Value} {news rest : List (Addr × Obj)} {s : Shared} {Q : Value → Shared → Prop} {tk' : Nat} {D : Addr} {n : Nat} {x : Str} {se ba lo hi : Int} {t t1 t2 t3 t4 : Tok}
    (hret : ∀ (r : Value) (add : List (Addr × Obj)) (h' : Heap) (tk' : Nat), (∃ d, DatIn add r d ∧ LetterOk d) → (∀ p ∈ add, ∀ q ∈ news, q.1 ≠ p.1) → Fr h₀ L h' m → News h₀ L h' (add ++ news) → Q r { s with heap := h', toks := tk' })
    (N : News h₀ L h' ((D, ({ cls := .type "tuple", data := .seq #[.str x t, .int se t1, .int ba t2, .int lo t3, .int hi t4] n } : Obj)) :: rest)) (F : Fr h₀ L h' m) (sub : ∀ p ∈ news, p ∈ rest) (lt : AllLt D news)
    (hx : x.length ≤ 24 ∧ PyData.strOk x = true) (h1 : 0 ≤ se ∧ se ≤ ba ∧ ba ≤ 2000000000000) (h2 : 0 ≤ lo ∧ lo ≤ hi ∧ hi ≤ 2000000000000) : Q (.ref D) { s with heap := h', toks := tk' } := by
  refine hret (.ref D) [(D, ({ cls := .type "tuple", data := .seq #[.str x t, .int se t1, .int ba t2, .int lo t3, .int hi t4] n } : Obj))] h' tk' (letter_dat (.head _) hx h1 h2) (fun p hp q hq => ?_) F fun p hp => ?_
  · rw [List.mem_singleton.mp hp]
    exact Nat.ne_of_lt (allLt_mem lt q hq)
  · rcases List.mem_append.mp hp with hp | hp
    · rw [List.mem_singleton.mp hp]; exact N _ (.head _)
    · exact N p (.tail _ (sub p hp))
theorem fmb (a b : Int) (h : 0 < b) : 0 ≤ a.fmod b ∧ a.fmod b < b := ⟨Int.fmod_nonneg_of_pos a h, Int.fmod_lt_of_pos a h⟩
end Mine
section
local macro_rules | `(tactic| k_all) => `(tactic| exact Mine.ne_above (by assumption) (by omega))
namespace Mine
theorem c_names (w : World) (mean : ExcName → Option Value) (mg mb : Str → Option Value) (c : Int) (tc : Tok) (hc : CellOk c ∧ (0 : Int) ≤ 0) :
    Cm PySem.Challenge.rw_uf050027_11.row.prog w (hd11.heap_39 w.params) hd11.view_39 (looseW hd11.view_39 []) mean mg mb 59 3 [.int c tc] (fun _ _ => True) (fun r L => ∃ D, r = .ref D ∧ TextsAt L D 24 42) := by
  unfold Cm
  k_fill
  w_top off
  intro dp un gd cn cs a ccd cl outer A₀ base h₀ L m news s Q E B F X N T hk hd hu hP hret
  refine wpAny_call ?_
  k_dflt (refine' code_defC ?k1 ?k2 ?k3 ?k4 ?k5 ?kA ?kF ?kK ?k6 ?k7 ?k8 ?k9 ?kB ?kD ?_ ?c2 ?c3 ?c4; (case kA => exact rfl); (case kF => exact rfl); (case kK => assumption); (case k1 => k_asm); (case k2 => k_asm); (case k3 => k_asm); (case k4 => k_asm); (case k5 => k_asm); (case k6 => k_is); (case k7 => k_is); (case k8 => ktr_room); (case k9 => exact BindsTo.of_eq rfl); (case kB => exact rfl); (case kD => decide +kernel); (case c2 => exact rfl); (case c3 => exact rfl); (case c4 => exact rfl); k_whole; intro g' L' h' tk' cells' FG' F' N' Y' B' X' T' l1; (try k_lt l1); k_cells Y'; (try simp only [List.cons_append, List.nil_append] at N'); (try dsimp only); (try k_lift B'); (try k_fold))
  k_with_none
  k_with "call ref" => (k_here; (with_reducible show wpAny _ _ (call (Value.ref 40) _) _ _ _); k_dflt (refine Mine.Ct.use (Mine.c_lmix _ _ _ _ _ _ _ _) (ret := ?_)); intro t9 h9 tk9 P9 F9 N9; (try dsimp only); (try k_fold))
  k_with "call ref" => (k_here; (with_reducible show wpAny _ _ (call (Value.ref 47) _) _ _ _); k_dflt (refine Mine.Ct.use (Mine.c_lbig _ _ _ _ _ _ _ _) (ret := ?_)); intro t9 h9 tk9 P9 F9 N9; (try dsimp only); (try k_fold))
  k_with "call ref" => (k_here; (with_reducible show wpAny _ _ (call (Value.ref 54) _) _ _ _); k_dflt (refine Mine.Cv.use (Mine.c_word _ _ _ _ _ _ _ _) (ret := ?_)); intro r9 h9 tk9 ho9 F9 N9; k_dflt ((obtain ⟨x9, v9, e9, hl9, hs9⟩ := ho9); subst e9); (try dsimp only); (try k_fold))
  k_with "eval ListComp" => (k_here; k_dflt (refine Mine.ListComp_V (by k_asm) (by with_unfolding_all rfl) (by decide) (by rfl) (by decide) (by rfl) ?_))
  k_steps
  refine SrcU.range (n := 42) (by rfl) (by k_asm) (by k_asm) (by assumption) (by decide) (by rfl) (by decide) ?_
  intro g9
  refine rest_each (TextLe 24) trivial ?_ ?_
  · intro i ys v I oI C oC D m₂ h tk E' hi hv hC hx F' N' off ne
    obtain ⟨t9, rfl⟩ := hv
    k_with "subscriptTail List cons BinOp ref int" => (k_here; (with_reducible show wpAny _ _ (subscriptTail _ _ (Value.ref _) (Value.int _ _)) _ _ _); k_dflt (refine' Mine.item_texts 1 ?k1 ?k2 ?k3 ?k4 ?_; (case k1 => is_list); (case k2 => exact ⟨(Mine.fdiv_b hi).1, by simpa using (Mine.fdiv_b hi).2⟩); (case k3 => (have hb9 := (Mine.fdiv_b hi).2; omega)); (case k4 => exact Mine.textAll_cons (Mine.textLe_of (by decide) (by decide +kernel)) (Mine.textAll_cons (Mine.textLe_of (by decide) (by decide +kernel)) Mine.textAll_nil)); k_whole); intro z9 tz9 hz9)
    k_steps
    all_goals first | (refine CompTurn.intro (by k_asm) (by k_asm) _ ?cS ?cO trivial ⟨rfl, name_ok (by assumption) (by assumption) (by decide +kernel) (by assumption)⟩; (case cS => first | exact fun _ h => h | kst_inAny); (case cO => assumption))
  · intro ys hl hb
    obtain ⟨xs, hs, hn, hx⟩ := texts_of hb
    intro D h tk F' N' o1
    k_steps
    refine hret (.ref D) [(D, LCg.lst ys)] h tk ⟨D, rfl, ys, xs, .head _, hs, by rw [hn, hl], hx⟩ (fun p hp q hq => by rw [List.mem_singleton.mp hp]; exact off1_mem o1 q (.tail _ (.tail _ (.tail _ hq)))) (by k_asm) ?_
    rename News h₀ L _ _ => kN9
    intro p hp
    refine kN9 p ?_
    rcases List.mem_append.mp hp with hp | hp
    · rw [List.mem_singleton.mp hp]; exact .head _
    · exact .tail _ (.tail _ (.tail _ (.tail _ hp)))

end Mine
end
section
local macro_rules | `(tactic| k_all) => `(tactic| exact Mine.ne_above (by assumption) (by omega))
namespace Mine
open PySem PySem.W PyProof.Rows
theorem two_of {v : List Value} {n : List Int} {a b : Int} (hi : IntsAre v n) (hp : n.Perm [a, b]) (hb : (n.getD (Int.toNat 0) 0 = a ∨ n.getD (Int.toNat 0) 0 = b) ∧ n.getD (Int.toNat 0) 0 ≤ a ∧ n.getD (Int.toNat 0) 0 ≤ b) :
    ∃ x y t u, v = [.int x t, .int y u] ∧ n = [x, y] ∧ (x = a ∧ y = b ∨ x = b ∧ y = a) ∧ x ≤ y := by
  have hl := hp.length_eq
  cases hi with
  | nil => simp at hl
  | cons x t r =>
    cases r with
    | nil => simp at hl
    | cons y u r =>
      cases r with
      | cons z _ _ => simp at hl
      | nil =>
        have hb' : (x = a ∨ x = b) ∧ x ≤ a ∧ x ≤ b := hb
        have hm : (x = a ∧ y = b) ∨ (x = b ∧ y = a) := by
          rcases hb'.1 with e | e
          · subst e
            exact .inl ⟨rfl, by simpa using (List.perm_cons x).mp hp⟩
          · subst e
            have := (List.perm_cons x).mp (hp.trans (List.Perm.swap x a []))
            exact .inr ⟨rfl, by simpa using this⟩
        refine ⟨x, y, t, u, rfl, rfl, hm, ?_⟩
        rcases hm with ⟨_, e⟩ | ⟨_, e⟩ <;> rw [e]
        · exact hb'.2.2
        · exact hb'.2.1
end Mine
namespace Mine
open PySem PySem.W PyProof.Rows
theorem item_four {prog : Program} {w : World} {A : Around} {E : Value → Shared → Prop} {s : Shared} {value slice : PySem.Expr} {l : Addr} {vs : List Value} {a b c d : Int} {k : Int} {u : Tok} {Q : Value → Shared → Prop} (hl : s.heap.IsList l vs.toArray) (hi : IntsAre vs [a, b, c, d])
    (h0 : 0 ≤ k ∧ k < 4) (h : ∀ t x, (x = a ∨ x = b ∨ x = c ∨ x = d) → Q (.int x t) s)
    (hs : subscripted slice false (.ref l) (.int k u) = operate [.ref l, .int k u] (getItem (.ref l) (.int k u)) := by with_unfolding_all rfl) :
    wpAny (model prog w) A (subscriptTail value slice (.ref l) (.int k u)) Q E s := by
  obtain ⟨t, hx⟩ := hi.get k.toNat _ (ints_getD h0.1 (by simpa using h0.2))
  refine tail_any hl.typeIs slot_list_getitem.lookup (wpAny_getItem_list hl h0.1 (by omega) (by simpa using hx) (h t _ ?_)) hs
  rcases (show k = 0 ∨ k = 1 ∨ k = 2 ∨ k = 3 by omega) with e | e | e | e <;> subst e <;> simp
end Mine
namespace Mine
theorem c_letter (w : World) (mean : ExcName → Option Value) (mg mb : Str → Option Value) (c many : Int) (D : Addr) (tc tm : Tok) (hc : CellOk c ∧ 1 ≤ many ∧ many ≤ 42) :
    Cm PySem.Challenge.rw_uf050027_11.row.prog w (hd11.heap_39 w.params) hd11.view_39 (looseW hd11.view_39 []) mean mg mb 66 3 [.int c tc, .ref D, .int many tm] (fun _ news => TextsAt news D 24 42) (fun r L => ∃ d, DatIn L r d ∧ LetterOk d) := by
  unfold Cm
  k_fill
  w_top off
  intro dp un gd cn cs a ccd cl outer A₀ base h₀ L m news s Q E B F X N T hk hd hu hP hret
  obtain ⟨ys, xs, hm, hs, hl, hx⟩ := hP
  refine wpAny_call ?_
  k_dflt cell_enter
  k_with_none
  k_with "call ref" => (k_here; (with_reducible show wpAny _ _ (call (Value.ref 40) _) _ _ _); k_dflt (refine Mine.Ct.use (Mine.c_lmix _ _ _ _ _ _ _ _) (ret := ?_)); intro t9 h9 tk9 P9 F9 N9; (try dsimp only); (try k_fold))
  k_with "call ref" => (k_here; (with_reducible show wpAny _ _ (call (Value.ref 47) _) _ _ _); k_dflt (refine Mine.Ct.use (Mine.c_lbig _ _ _ _ _ _ _ _) (ret := ?_)); intro t9 h9 tk9 P9 F9 N9; (try dsimp only); (try k_fold))
  k_with "call ref" => (k_here; (with_reducible show wpAny _ _ (call (Value.ref 54) _) _ _ _); k_dflt (refine Mine.Cv.use (Mine.c_word _ _ _ _ _ _ _ _) (ret := ?_)); intro r9 h9 tk9 ho9 F9 N9; k_dflt ((obtain ⟨x9, v9, e9, hl9, hs9⟩ := ho9); subst e9); (try dsimp only); (try k_fold))
  k_with "assign Tuple cons ref" => (k_here; (with_reducible rename List.Perm _ [_, _] => pmX); (obtain ⟨x9, y9, t9, u9, ev9, en9, hc9, hl9⟩ := Mine.two_of (by assumption) pmX (by assumption)); subst ev9; subst en9)
  k_with "subscriptTail List cons BinOp ref int" => (k_here; (with_reducible show wpAny _ _ (subscriptTail _ _ (Value.ref _) (Value.int _ _)) _ _ _); (try k_fmods); k_dflt (refine' Mine.item_four ?k1 ?k2 ?k3 ?_; (case k1 => is_list); (case k2 => l_ints); (case k3 => omega); k_whole); intro _ _ hFour)
  k_with "subscriptTail Name Name ref int" => (k_here; (with_reducible show wpAny _ _ (subscriptTail _ _ (Value.ref _) (Value.int _ _)) _ _ _); k_dflt (refine' Mine.item_name ?k1 ?k2 hs ?k3 ?k4 ?_; (case k1 => k_asm); (case k2 => (repeat (first | exact hm | refine List.Mem.tail _ ?_))); (case k3 => (have hb9 := Int.fmod_nonneg_of_pos (mix c 0) (show (0 : Int) < many by omega); have hb8 := Int.fmod_lt_of_pos (mix c 0) (show (0 : Int) < many by omega); omega)); (case k4 => (have hb8 := Int.fmod_lt_of_pos (mix c 0) (show (0 : Int) < many by omega); omega)); k_whole); intro x9 tx9 hx9)
  k_with "subscriptTail List cons BinOp ref int" => (k_here; (with_reducible show wpAny _ _ (subscriptTail _ _ (Value.ref _) (Value.int _ _)) _ _ _); (try k_fmods); k_dflt (first | (refine' Mine.item_bd 1 60 ?k1 ?k2 ?k3 ?k4 ?k5 ?_; (case k1 => is_list); (case k2 => l_ints); (case k3 => decide); (case k4 => (simp only [List.length_cons, List.length_nil]; omega)); (case k5 => omega); k_whole) | (refine' Mine.item_bd 0 600 ?k1 ?k2 ?k3 ?k4 ?k5 ?_; (case k1 => is_list); (case k2 => l_ints); (case k3 => decide); (case k4 => (simp only [List.length_cons, List.length_nil]; omega)); (case k5 => omega); k_whole)); intro t8 d9 hd9; (try (have hm9 := Int.fmod_nonneg_of_pos (mix c 2) (show (0 : Int) < d9 by omega); have hm8 := Int.fmod_lt_of_pos (mix c 2) (show (0 : Int) < d9 by omega))))
  k_steps
  all_goals first | (refine letter_ret hret (by assumption) (by k_asm) ?_ (by first | tbn_find | exact allLt_of (by assumption)) (hx _ (by assumption)) ?_ ?_ <;> (first | (have f1 := fmb (mix c 4) 80 (by decide); have f2 := fmb (mix c 4) 6 (by decide); have f3 := fmb (mix c 5) 100 (by decide); have f4 := fmb (mix c 5) 4 (by decide); have f5 := fmb (mix c 1) 1000 (by decide); omega) | (intro p9 hp9; (repeat (first | exact hp9 | refine List.Mem.tail _ ?_)))))

end Mine
end
namespace Mine
open PySem PySem.W PyProof.Rows
def numT (i : Int) : Str := Str.ofString (toString i)
/-- a letter's row, as the program writes it -/
def rowT (x : Str) (se ba lo hi : Int) : Str := x ++ Str.ofString " sent " ++ numT se ++ Str.ofString " back " ++ numT ba ++ Str.ofString " swears " ++ numT lo ++ Str.ofString " to " ++ numT hi ++ Str.ofString "\n"
theorem numT_len {i : Int} (h0 : 0 ≤ i) (h : i ≤ 2000000000000) : (numT i).length ≤ 13 := toString_length_le h0 (by decide) (by omega)
end Mine
namespace Mine
open PySem PySem.W PyProof.Rows PyProof.Rows.LCg
def rowD : Dat → Str
  | .tuple [.str x, .int se, .int ba, .int lo, .int hi] => rowT x se ba lo hi
  | _ => Str.empty
def rowsT (ds : List Dat) : Str := Txt.join (Str.ofString "") (ds.map rowD)
theorem rowT_len {x : Str} {se ba lo hi : Int} (hx : x.length ≤ 24) (h1 : 0 ≤ se ∧ se ≤ ba ∧ ba ≤ 2000000000000) (h2 : 0 ≤ lo ∧ lo ≤ hi ∧ hi ≤ 2000000000000) : (rowT x se ba lo hi).length ≤ 110 := by
  have a1 := numT_len (i := se) (by omega) (by omega)
  have a2 := numT_len (i := ba) (by omega) (by omega)
  have a3 := numT_len (i := lo) (by omega) (by omega)
  have a4 := numT_len (i := hi) (by omega) (by omega)
  unfold rowT
  simp only [Str.length_append]
  have b1 : (Str.ofString " sent ").length = 6 := by decide
  have b2 : (Str.ofString " back ").length = 6 := by decide
  have b3 : (Str.ofString " swears ").length = 8 := by decide
  have b4 : (Str.ofString " to ").length = 4 := by decide
  have b5 : (Str.ofString "\n").length = 1 := by decide
  omega
theorem rowD_len {d : Dat} (h : LetterOk d) : (rowD d).length ≤ 110 := by
  obtain ⟨x, se, ba, lo, hi, rfl, hx, h1, h2⟩ := h
  exact rowT_len hx.1 h1 h2
theorem strs_snoc {y : Str} {t : Tok} : ∀ {vs : List Value} {ys : List Str}, StrsAre vs ys → StrsAre (vs ++ [.str y t]) (ys ++ [y])
  | _, _, .nil => .cons y t .nil
  | _, _, .cons z u r => .cons z u (strs_snoc r)
/-- texts by the data of a list -/
theorem rest_texts {prog : Program} {w : World} {A : Around} {s : Shared} {h₀ : Heap} {L : Addr} {m : Str → Option Value} {env : Env} {elt : Expr} {x : Str} {scope : Scope} {cl : List (Str × Addr)} {S : List (Addr × Obj) → Prop} {Fin : List Value → List (Addr × Obj) → Prop} {vs : List Value} {ds : List Dat} {news n₁ : List (Addr × Obj)}
    (f : Dat → Str) (hD : DatAll n₁ vs ds) (hS : S news)
    (turn : ∀ d v ys I oI C oC D m₂ h tk (E' : Value → Shared → Prop), d ∈ ds → DatIn n₁ v d → NsObj oC m₂ → m₂ x = some v → Fr h₀ L h m → News h₀ L h ((I, oI) :: (C, oC) :: (D, lst ys) :: news) → Off3 I C D news → ((@Ne Nat I C) ∧ (@Ne Nat I D) ∧ (@Ne Nat C D)) →
      wpAny (model prog w) A (eval elt (compEnvC scope cl C env)) (CompTurn h₀ L m { s with heap := h, toks := tk } I oI C oC D (lst ys) (fun _ => True) (fun y nw' => nw' = news ∧ ∃ t, y = .str (f d) t)) E' { s with heap := h, toks := tk })
    (fin : ∀ ys, StrsAre ys (ds.map f) → Fin ys news) : CompRest prog w A h₀ L m env elt x scope cl s S (fun i v => vs.toArray[i]? = some v) Fin vs.toArray.size 0 [] news := by
  have hl := hD.length
  refine rest_inv (fun i ys nw => nw = news ∧ StrsAre ys ((ds.take i).map f)) ⟨rfl, .nil⟩ ?_ ?_
  · rintro i ys nw v I oI C oC D m₂ h tk E' hlt ⟨rfl, hb⟩ hv hC hx F N off ne
    obtain ⟨d, hd, hm, hI⟩ := dat_at hD (i := i) (by simpa using hv)
    refine wpAny_mono (turn d v ys I oI C oC D m₂ h tk E' hm hI hC hx F N off ne) (fun y s₂ hq => ?_) fun _ _ e => e
    obtain ⟨h', tk', nw', e, F', N', off', _, hn, t, hy⟩ := hq
    subst hn hy
    refine ⟨h', tk', _, e, F', N', off', hS, rfl, ?_⟩
    rw [show ds.take (i + 1) = ds.take i ++ [d] by simp [List.take_add_one, hd], List.map_append]
    exact strs_snoc hb
  · rintro ys nw ⟨rfl, hb⟩
    rw [List.size_toArray, hl, List.take_length] at hb
    exact fin ys hb
theorem emp_app (x : Str) : Str.ofString "" ++ x = x := by
  have e : Str.ofString "" = (⟨#[]⟩ : Str) := by decide
  rw [e]
  show (⟨#[] ++ x.cps⟩ : Str) = x
  rw [Array.empty_append]
theorem app_emp (x : Str) : x ++ Str.ofString "" = x := by
  have e : Str.ofString "" = (⟨#[]⟩ : Str) := by decide
  rw [e]
  show (⟨x.cps ++ #[]⟩ : Str) = x
  rw [Array.append_empty]
theorem app_assoc (x y z : Str) : x ++ y ++ z = x ++ (y ++ z) := by
  show (⟨x.cps ++ y.cps ++ z.cps⟩ : Str) = ⟨x.cps ++ (y.cps ++ z.cps)⟩
  rw [Array.append_assoc]
theorem join_snoc : ∀ (l : List Str) (y : Str), Str.join (Str.ofString "") (l ++ [y]) = Str.join (Str.ofString "") l ++ y
  | [], y => by
    show y = Str.empty ++ y
    have e : Str.empty = Str.ofString "" := by decide
    rw [e, emp_app]
  | [x], y => by
    show x ++ Str.ofString "" ++ y = x ++ y
    rw [app_emp]
  | x :: z :: r, y => by
    have ih := join_snoc (z :: r) y
    show x ++ Str.ofString "" ++ Str.join (Str.ofString "") (z :: r ++ [y]) = x ++ Str.ofString "" ++ Str.join (Str.ofString "") (z :: r) ++ y
    rw [ih]
    simp only [app_assoc]
theorem rows_snoc (ds : List Dat) (d : Dat) : rowsT (ds ++ [d]) = rowsT ds ++ rowD d := by
  show Builtin.Str.glued _ _ = Builtin.Str.glued _ _ ++ _
  rw [StrLaws.glued_eq_join, StrLaws.glued_eq_join, List.map_append, List.map_cons, List.map_nil, join_snoc]
theorem rows_nil : rowsT [] = Str.ofString "" := by decide
end Mine
namespace Mine
open PySem PySem.W PyProof.Rows PyProof.Rows.LCg
theorem rows_len : ∀ (n : Nat) (ds : List Dat), ds.length = n → (∀ d ∈ ds, LetterOk d) → (rowsT ds).length ≤ 110 * n
  | 0, ds, h, _ => by
    rw [List.length_eq_zero_iff.mp h, rows_nil]
    decide
  | n + 1, ds, h, hok => by
    rcases List.eq_nil_or_concat ds with rfl | ⟨pre, d, rfl⟩
    · cases h
    · rw [List.concat_eq_append] at h hok ⊢
      rw [List.length_append, List.length_singleton] at h
      have ih := rows_len n pre (by omega) fun y hy => hok y (List.mem_append.mpr (.inl hy))
      have hd := rowD_len (hok d (List.mem_append.mpr (.inr (.head _))))
      rw [rows_snoc, Str.length_append]
      omega
theorem pre_len {ds pre post : List Dat} {d : Dat} {x : Str} (e : ds = pre ++ d :: post) (hl : ds.length ≤ 200) (hok : ∀ d ∈ ds, LetterOk d) (hx : x = rowsT pre) : x.length ≤ 22000 := by
  have h := rows_len pre.length pre rfl fun y hy => hok y (by rw [e]; exact List.mem_append.mpr (.inl hy))
  rw [e, List.length_append] at hl
  rw [hx]
  omega
end Mine
namespace Mine
open PySem PySem.W PyProof.Rows PyProof.Rows.LCg
theorem letter_kqd {d : Dat} (h : LetterOk d) : kqdOk 8 d = true := by
  obtain ⟨x, se, ba, lo, hi, rfl, hx, _, _⟩ := h
  simp only [kqdOk, List.all_cons, List.all_nil, Bool.and_true]
  exact hx.2
theorem num_len {i : Int} (h0 : 0 ≤ i) (h : i ≤ 2000000000000) : (Str.ofString (toString i)).length ≤ 13 := numT_len h0 h
theorem word_lens : (Str.ofString " sent ").length = 6 ∧ (Str.ofString " back ").length = 6 ∧ (Str.ofString " swears ").length = 8 ∧ (Str.ofString " to ").length = 4 ∧ (Str.ofString "\n").length = 1 ∧ Str.empty.length = 0 := by decide
theorem row_more {x y : Str} {pre : List Dat} {se ba lo hi : Int} (h : x = rowsT pre) :
    x ++ (Str.empty ++ y ++ Str.ofString " sent " ++ Str.ofString (toString se) ++ Str.ofString " back " ++ Str.ofString (toString ba) ++ Str.ofString " swears " ++ Str.ofString (toString lo) ++ Str.ofString " to " ++ Str.ofString (toString hi)) ++ Str.ofString "\n" = rowsT (pre ++ [.tuple [.str y, .int se, .int ba, .int lo, .int hi]]) := by
  rw [rows_snoc, h]
  show _ = _ ++ rowT y se ba lo hi
  have e : Str.empty = Str.ofString "" := by decide
  rw [e, emp_app]
  unfold rowT numT
  simp only [app_assoc]
end Mine
section
local macro_rules | `(tactic| k_mem) => `(tactic| assumption)
namespace Mine
theorem c_row (w : World) (mean : ExcName → Option Value) (mg mb : Str → Option Value) (S : Addr) (x : Str) (se ba lo hi : Int) (tx ta tb tc td : Tok) (cc : Nat) (hx : x.length ≤ 24) (h1 : 0 ≤ se ∧ se ≤ ba ∧ ba ≤ 2000000000000) (h2 : 0 ≤ lo ∧ lo ≤ hi ∧ hi ≤ 2000000000000) :
    Cv PySem.Challenge.rw_uf050027_11.row.prog w (hd11.heap_39 w.params) hd11.view_39 (looseW hd11.view_39 []) mean mg mb 21 2 [.ref S] (fun news => (S, ({ cls := .type "tuple", data := .seq #[.str x tx, .int se ta, .int ba tb, .int lo tc, .int hi td] cc } : Obj)) ∈ news) (fun r => ∃ t, r = .str (rowT x se ba lo hi) t) := by
  unfold Cv
  k_fill
  w_top off
  intro dp un gd cn cs a ccd cl outer A₀ base h₀ L m news s Q E B F X N T hk hd hu hP hret
  refine wpAny_call ?_
  k_dflt cell_enter
  k_with_none
  k_steps
  k_with_none
  all_goals (refine' hret _ _ _ ⟨_, rfl⟩ ?q2 ?q3; (case q2 => k_asm); (case q3 => first | k_asm | (refine' cb_drop ?cbN ?cbS; (case cbN => assumption); (case cbS => kcj_all))))

end Mine
end
namespace Mine
theorem c_written (w : World) (mean : ExcName → Option Value) (mg mb : Str → Option Value) (ax : Addr) (vs : List Value) (ds : List Dat) (k : Nat) (hok : ∀ d ∈ ds, LetterOk d) (hlen : ds.length ≤ 200) :
    Cv PySem.Challenge.rw_uf050027_11.row.prog w (hd11.heap_39 w.params) hd11.view_39 (looseW hd11.view_39 []) mean mg mb 26 6 [.ref ax] (fun news => (ax, ({ cls := .type "list", data := .seq vs.toArray k } : Obj)) ∈ news ∧ DatAll news vs ds) (fun r => ∃ t, r = .str (rowsT ds) t) := by
  unfold Cv
  k_fill
  w_top off
  intro dp un gd cn cs a ccd cl outer A₀ base h₀ L m news s Q E B F X N T hk hd hu hP hret
  obtain ⟨hm, hD⟩ := hP
  refine wpAny_call ?_
  k_dflt cell_enter
  k_with_none
  k_with "eval ListComp" => (k_here; k_dflt (refine Mine.ListComp_V (by k_asm) (by with_unfolding_all rfl) (by decide) (by rfl) (by decide) (by rfl) ?_))
  k_steps
  refine SrcU.ledger (by rfl) (by k_asm) (by k_asm) hm (by rw [List.size_toArray, hD.length, sizeLine_eq]; omega) ?_
  intro g9
  refine rest_texts rowD hD (.inr ⟨_, hm, rfl, _, rfl⟩) ?_ ?_
  · intro d v ys I oI C oC D m₂ h tk E' hdm hI hC hx F' N' off ne
    obtain ⟨x, se, ba, lo, hi, rfl, hxx, h1, h2⟩ := hok d hdm
    obtain ⟨a9, n9, t0, t1, t2, t3, t4, rfl, hm9⟩ := dat_letter hI
    k_with "call ref" => (k_here; (with_reducible show wpAny _ _ (call (Value.ref 21) _) _ _ _); k_dflt (refine' Mine.Cv.use (Mine.c_row _ _ _ _ _ _ _ _ _ _ _ _ _ _ _ _ ?h0 ?h1 ?h2) (hp := ?kP) (ret := ?_); (case kP => (show _ ∈ _; (repeat (first | assumption | refine List.Mem.tail _ ?_)))); (case h0 => exact hxx.1); (case h1 => exact h1); (case h2 => exact h2)); intro r9 h9 tk9 ho9 F9 N9; k_dflt ((obtain ⟨t9, e9⟩ := ho9); subst e9); (try dsimp only); (try k_fold))
    k_steps
    all_goals (refine CompTurn.intro (by k_asm) (by k_asm) _ ?cS ?cO trivial ⟨rfl, _, rfl⟩; (case cS => first | exact fun _ h => h | kst_inAny); (case cO => assumption))
  · intro ys hs
    intro D h tk F' N' o1
    k_with "call builtin:str.join" => (k_here; k_dflt (refine join_list (News.isList (by k_asm) (List.Mem.head _)) hs (by have hb9 := sumLen_le_of_bound rowD 110 ds (fun d hm => rowD_len (hok d hm)); rw [List.length_map, show (Str.ofString "").length = 0 by decide]; omega) ?_); intro tj9 kj9)
    k_steps
    all_goals (refine' hret _ _ _ ⟨_, rfl⟩ ?q2 ?q3; (case q2 => k_asm); (case q3 => (intro p hp; rename News h₀ L _ _ => kN9; exact kN9 p (.tail _ hp))))
end Mine
namespace Mine
open PySem PySem.W PyProof.Rows PyProof.Rows.LCg
/-- of what a call made, the list of texts alone is kept -/
theorem texts_one {h₀ h : Heap} {L D : Addr} {n k : Nat} {ad cells : List (Addr × Obj)} (ht : TextsAt ad D n k) (hn : ∀ p ∈ ad, ∀ q ∈ cells, q.1 ≠ p.1) (N : News h₀ L h (ad ++ cells)) :
    ∃ ys xs, News h₀ L h ((D, lst ys) :: cells) ∧ (∀ q ∈ cells, @Ne Nat q.1 D) ∧ StrsAre ys xs ∧ xs.length = k ∧ ∀ x ∈ xs, x.length ≤ n ∧ PyData.strOk x = true := by
  obtain ⟨ys, xs, hm, hs, hl, hx⟩ := ht
  refine ⟨ys, xs, fun p hp => ?_, fun q hq => hn _ hm q hq, hs, hl, hx⟩
  rcases List.mem_cons.mp hp with rfl | hp
  · exact N _ (List.mem_append.mpr (.inl hm))
  · exact N p (List.mem_append.mpr (.inr hp))
/-- data made by a comprehension, the ledger grows -/
theorem rest_data {prog : Program} {w : World} {A : Around} {s : Shared} {h₀ : Heap} {L : Addr} {m : Str → Option Value} {env : Env} {elt : Expr} {x : Str} {scope : Scope} {cl : List (Str × Addr)} {S : List (Addr × Obj) → Prop} {P : Nat → Value → Prop} {Fin : List Value → List (Addr × Obj) → Prop} {n : Nat} {news : List (Addr × Obj)}
    (V : Nat → Dat → Prop) (hS : ∀ nw, (∀ p ∈ news, p ∈ nw) → S nw)
    (turn : ∀ i v ys nw I oI C oC D m₂ h tk (E' : Value → Shared → Prop), i < n → P i v → (∀ p ∈ news, p ∈ nw) → NsObj oC m₂ → m₂ x = some v → Fr h₀ L h m → News h₀ L h ((I, oI) :: (C, oC) :: (D, lst ys) :: nw) → Off3 I C D nw → ((@Ne Nat I C) ∧ (@Ne Nat I D) ∧ (@Ne Nat C D)) →
      wpAny (model prog w) A (eval elt (compEnvC scope cl C env)) (CompTurn h₀ L m { s with heap := h, toks := tk } I oI C oC D (lst ys) (fun _ => True) (fun y nw' => (∀ p ∈ nw, p ∈ nw') ∧ ∃ d, DatIn nw' y d ∧ V i d)) E' { s with heap := h, toks := tk })
    (fin : ∀ ys nw ds, (∀ p ∈ news, p ∈ nw) → DatAll nw ys ds → ds.length = n → (∀ d ∈ ds, ∃ i, V i d) → Fin ys nw) : CompRest prog w A h₀ L m env elt x scope cl s S P Fin n 0 [] news := by
  refine rest_inv (fun i ys nw => (∀ p ∈ news, p ∈ nw) ∧ ∃ ds, DatAll nw ys ds ∧ ds.length = i ∧ ∀ d ∈ ds, ∃ i, V i d) ⟨fun _ h => h, [], .nil, rfl, fun _ h => nomatch h⟩ ?_ ?_
  · rintro i ys nw v I oI C oC D m₂ h tk E' hi ⟨hs, ds, hD, hl, hb⟩ hv hC hx F N off ne
    refine wpAny_mono (turn i v ys nw I oI C oC D m₂ h tk E' hi hv hs hC hx F N off ne) (fun y s₂ hq => ?_) fun _ _ e => e
    obtain ⟨h', tk', nw', e, F', N', off', _, hn, d, hd, hV⟩ := hq
    refine ⟨h', tk', _, e, F', N', off', hS _ fun p hp => hn p (hs p hp), fun p hp => hn p (hs p hp), ds ++ [d], (hD.mono hn).append (.cons hd .nil), by rw [List.length_append, List.length_singleton, hl], fun u hu => ?_⟩
    rcases List.mem_append.mp hu with hu | hu
    · exact hb u hu
    · rw [List.mem_singleton.mp hu]; exact ⟨i, hV⟩
  · rintro ys nw ⟨hs, ds, hD, hl, hb⟩
    exact fin ys nw ds hs hD hl hb
theorem turn_made {h₀ h' : Heap} {L I C D : Addr} {m : Str → Option Value} {s₁ : Shared} {oI oC oD : Obj} {tk : Nat} {add nw : List (Addr × Obj)} {y : Value} {V : Dat → Prop}
    (F : Fr h₀ L h' m) (N : News h₀ L h' (add ++ (I, oI) :: (C, oC) :: (D, oD) :: nw)) (off : Off3 I C D nw) (hn : ∀ p ∈ add, ∀ q ∈ (I, oI) :: (C, oC) :: (D, oD) :: nw, q.1 ≠ p.1) (hd : ∃ d, DatIn add y d ∧ V d) :
    CompTurn h₀ L m s₁ I oI C oC D oD (fun _ => True) (fun y nw' => (∀ p ∈ nw, p ∈ nw') ∧ ∃ d, DatIn nw' y d ∧ V d) y { s₁ with heap := h', toks := tk } :=
  CompTurn.intro F N (add ++ nw) sub_three (off_three off hn) trivial ⟨fun _ hp => List.mem_append.mpr (.inr hp), let ⟨d, h1, h2⟩ := hd; ⟨d, h1.mono fun _ hp => List.mem_append.mpr (.inl hp), h2⟩⟩
theorem cell_item {vs : List Value} {ns : List Int} {a b i : Nat} {v : Value} (hi : IntsAre vs (List.take a (List.drop b ns))) (hl : PyData.layable0 (.list (ns.map .int)) = true) (hv : vs.toArray[i]? = some v) : ∃ c t, v = .int c t ∧ CellOk c := by
  have hv' : vs[i]? = some v := by simpa using hv
  have hlt : i < (List.take a (List.drop b ns)).length := by
    rw [← hi.length]
    exact (List.getElem?_eq_some_iff.mp hv').1
  obtain ⟨t, hx⟩ := hi.get i _ (List.getElem?_eq_getElem hlt)
  rw [hv'] at hx
  cases hx
  exact ⟨_, t, rfl, cellOk_of (intBits_le_of_item (List.mem_of_mem_drop (List.mem_of_mem_take (List.getElem_mem hlt))) hl) (by decide)⟩
end Mine
namespace Mine
open PySem PySem.W PyProof.Rows PyProof.Rows.LCg
theorem still_text {y : Str} {stored : List Str} {m₀ : Str → Option Value} {h₀ : Heap} {L I : Addr} {o : Obj} {news : List (Addr × Obj)} {P : Str × Tok → Prop} {s₁ : Shared} {h' : Heap} {tk : Nat} {m' : Str → Option Value} {all : List (Addr × Obj)} {Q : Flow → Shared → Prop} {x : Str} {t : Tok}
    (F : Fr h₀ L h' m') (N : News h₀ L h' all) (hk : m' y = some (.str x t)) (hI : (I, o) ∈ all) (sub : ∀ p ∈ news, p ∈ all) (off : ∀ p ∈ news, p.1 ≠ I) (hr : ∀ z, z ≠ y → stored.contains z = false → m' z = m₀ z) (hv : P (x, t)) :
    LoopTurn h₀ L s₁ I o (Still (fun c : Str × Tok => [(y, Value.str c.1 c.2)]) stored m₀ news P) Q .next { s₁ with heap := h', toks := tk } :=
  LoopTurn.still (x, t) F N hI sub off (List.forall_mem_cons.mpr ⟨hk, List.forall_mem_nil _⟩) (fun z hz hc => hr z (hz _ (.head _)) hc) hv
end Mine
section
local macro_rules | `(tactic| k_mem) => `(tactic| ((repeat (first | assumption | refine List.Mem.tail _ ?_)); done))
set_option rowWalk.seconds 0 in
theorem PySem.Challenge.cw_uf050027_11_holds : PySem.Challenge.rw_uf050027_11.Holds :=
  Mine.hd11 (by
  k_with_none
  k_with "call ref" => (k_here; (with_reducible show wpAny _ _ (call (Value.ref 40) _) _ _ _); k_dflt (refine Mine.Ct.use (Mine.c_lmix _ _ _ _ _ _ _ _) (ret := ?_)); intro t9 h9 tk9 P9 F9 N9; (try dsimp only); (try k_fold))
  k_with "call ref" => (k_here; (with_reducible show wpAny _ _ (call (Value.ref 47) _) _ _ _); k_dflt (refine Mine.Ct.use (Mine.c_lbig _ _ _ _ _ _ _ _) (ret := ?_)); intro t9 h9 tk9 P9 F9 N9; (try dsimp only); (try k_fold))
  k_with "call ref" => (k_here; (with_reducible show wpAny _ _ (call (Value.ref 59) _) _ _ _); k_dflt (refine' Mine.Cm.use (Mine.c_names _ _ _ _ _ _ ?kp0) (hp := ?kP) (ret := ?_); (case kP => trivial); (case kp0 => first | trivial | ((try dsimp only); first | assumption | omega | l_fact))); intro r9 ad9 h9 tk9 ho9 hn9 F9 N9; k_dflt ((obtain ⟨D9, e9, ht9⟩ := ho9); subst e9; (obtain ⟨ys9, xs9, N8, ne9, hs9, hl9, hx9⟩ := Mine.texts_one ht9 hn9 N9); clear N9 ht9 hn9; (have ne8 := ne9 _ (.head _)); (have ne7 := ne9 _ (.tail _ (.head _))); dsimp only at ne8 ne7; clear ne9); (try dsimp only); (try k_fold))
  k_with "call ref" => (k_here; (with_reducible show wpAny _ _ (call (Value.ref 66) _) _ _ _); k_dflt (refine' Mine.Cm.use (Mine.c_letter _ _ _ _ _ _ _ _ _ ?kp0) (hp := ?kP) (ret := ?_); (case kP => exact ⟨_, _, by k_mem, hs9, hl9, hx9⟩); (case kp0 => first | trivial | ((try dsimp only); first | assumption | omega | l_fact))); intro r9 ad9 h9 tk9 ho9 hn9 F9 N9; skip; (try dsimp only); (try k_fold))
  k_with "exec For Tuple Name cons nil" => (k_here; (rename Fr _ _ _ _ => lF'); (with_unfolding_all refine' For_turns lF' ?_; k_whole))
  k_with "le" => (k_here; (with_reducible show PySem.Str.length _ ≤ _); k_dflt (rw [sizeLine_eq]; (simp only [Str.length_append]); omega))
  k_with "joinParts" => (k_here; (first | (with_reducible show wpAny _ _ (joinParts _ []) _ _ _) | (with_reducible show wpAny _ _ (joinParts _ (evalEach [] _)) _ _ _)); k_dflt (refine joinParts_nil ?_ (by rw [sizeLine_eq]; (simp only [Str.length_append]); omega)))
  k_with "binaryOp Add str str" => (k_here; (with_reducible show wpAny _ _ (binaryOp Operator.Add (Value.str _ _) (Value.str _ _)) _ _ _); k_dflt (refine add_str ?_ (by rw [sizeLine_eq]; (simp only [Str.length_append]); omega)); intro _ _)
  k_with "call type:list" => (k_here; (with_reducible show wpAny _ _ (call (Value.type _) [Value.ref _]) _ _ _); k_dflt (refine' kup_listOf ?F ?N (List.Mem.head _) rfl ?_ ?z; (case F => k_asm); (case N => k_asm); (case z => (show ys7.length ≤ _; rw [hD7.length, sizeLine_eq]; omega))); intro H6 c6 h6 F6 N6 l16)
  k_with "call ref" => (k_here; (with_reducible show wpAny _ _ (call (Value.ref 26) _) _ _ _); k_dflt (refine' Mine.Cv.use (Mine.c_written _ _ _ _ _ _ ds7 _ hok7 hlen7) (hp := ⟨List.Mem.head _, hD7.mono fun _ h => .tail _ (.tail _ h)⟩) (ret := ?_)); intro r9 h9 tk9 ho9 F9 N9; k_dflt ((obtain ⟨t9, e9⟩ := ho9); subst e9); (try dsimp only); (try k_fold))
  k_with "compareOp Eq ref ref" => (k_here; (with_reducible show wpAny _ _ (compareOp CmpOp.Eq (Value.ref _) (Value.ref _)) _ _ _); (rename News _ _ _ _ => kN9); k_dflt (refine' kqd_eq kN9 (List.Mem.head _) rfl rfl hD7 (fun _ h => .tail _ (.tail _ h)) (List.Mem.tail _ (List.Mem.head _)) rfl rfl hD7 (fun _ h => .tail _ (.tail _ h)) (fun d h => Mine.letter_kqd (hok7 d h)) (fun d h => Mine.letter_kqd (hok7 d h)) ?n ?_; (case n => first | ke_room | ktr_units)); (try simp only [eq_self, decide_true, Bool.not_true]))
  k_with "exec Assign cons ListComp" => (k_here; k_dflt (refine Mine.Assign_ListComp_V (by k_asm) (by rfl) (by with_unfolding_all rfl) (by with_unfolding_all rfl) (by decide) (by rfl) (by decide) (by rfl) (by rfl) (by rfl) ?_))
  k_go0
  (all_goals try k_fold)
  k_steps
  all_goals ((rename News _ _ _ _ => kN8); k_dflt (refine Mine.SrcU.ledger (by rfl) (by k_asm) kN8 (by k_mem) (by rw [List.size_toArray, (by assumption : IntsAre _ (List.take _ _)).length, List.length_take, sizeLine_eq]; omega) ?_); intro g9; refine Mine.rest_data (fun _ d => Mine.LetterOk d) (fun nw hs => .inr ⟨_, hs _ (.head _), rfl, _, rfl⟩) ?_ ?_)
  iterate 2
    focus
      intro i8 v8 ys8 nw8 I8 oI8 C8 oC8 D8 m8 h8 tk8 E8 hi8 hv8 hs8 hC8 hx8 F8 N8 off8 ne88
      obtain ⟨c8, t8, rfl, hc8⟩ := Mine.cell_item (by assumption) (by assumption) hv8
      have q1 := hs8 _ (.head _)
      have q2 := hs8 _ (.tail _ (.head _))
      have q3 := hs8 _ (.tail _ (.tail _ (.head _)))
      have q4 := hs8 _ (.tail _ (.tail _ (.tail _ (.head _))))
      clear kN8
      k_steps
      all_goals exact Mine.turn_made (by k_asm) (by assumption) off8 (by assumption) (by assumption)
    focus
      intro ys7 nw7 ds7 hs7 hD7 hl7 hok7
      intro D7 h7 tk7 F7 N7 o7
      replace hok7 : ∀ d ∈ ds7, Mine.LetterOk d := fun d h => let ⟨_, q⟩ := hok7 d h; q
      have hlen7 : ds7.length ≤ 200 := by rw [hl7, List.size_toArray, (by assumption : IntsAre _ (List.take _ _)).length, List.length_take]; omega
      have q1 := hs7 _ (.head _)
      have q2 := hs7 _ (.tail _ (.head _))
      have q3 := hs7 _ (.tail _ (.tail _ (.head _)))
      have q4 := hs7 _ (.tail _ (.tail _ (.tail _ (.head _))))
      clear kN8
      k_steps
      all_goals first
        | (
          (rename News _ _ _ _ => kN8)
          k_dflt (refine Mine.SrcU.range (n := 200) (by rfl) (by k_asm) kN8 (by assumption) (by decide) (by rfl) (by decide) ?_)
          intro g9
          refine Mine.rest_data (fun _ d => Mine.LetterOk d) (fun nw hs => trivial) ?_ ?_
          focus
            intro i8 v8 ys8 nw8 I8 oI8 C8 oC8 D8 m8 h8 tk8 E8 hi8 hv8 hs8 hC8 hx8 F8 N8 off8 ne88
            obtain ⟨t8, rfl⟩ := hv8
            have hi88 : (0 : Int) ≤ 0 + (i8 : Int) ∧ 0 + (i8 : Int) < 200 := by omega
            have q2 := hs8 _ (.tail _ q2)
            have q3 := hs8 _ (.tail _ q3)
            have q4 := hs8 _ (.tail _ q4)
            clear N7 kN8
            k_steps
            all_goals exact Mine.turn_made (by k_asm) (by assumption) off8 (by assumption) (by assumption)
      
          focus
            intro ys7 nw7 ds7 hs7 hD7 hl7 hok7
            intro D7 h7 tk7 F7 N7 o7
            replace hok7 : ∀ d ∈ ds7, Mine.LetterOk d := fun d h => let ⟨_, q⟩ := hok7 d h; q
            have hlen7 : ds7.length ≤ 200 := by omega
            clear kN8
            k_steps
      )
        | skip
      all_goals (
        (rename Fr _ _ _ _ => lF')
        (rename News _ _ _ _ => lN')
        k_dflt (refine' Mine.loop_listD (σ := Str × Tok) (fun c => [(Str.ofString "_law_due", Value.str c.1 c.2)]) [Str.ofString "_law_name", Str.ofString "_law_sent", Str.ofString "_law_back", Str.ofString "_law_low", Str.ofString "_law_high"] (fun pre c => c.1 = Mine.rowsT pre) (Str.ofString "", _) (hD7.mono fun _ h => .tail _ h) (by rfl) lF' lN' (.head _) rfl rfl (List.forall_mem_cons.mpr ⟨rfl, List.forall_mem_nil _⟩) Mine.rows_nil.symm ?_ ?_)
        (all_goals (clear lF' lN'))
        focus
          intro pre8 d8 post8 v8 c8 u8 I8 o8 h8 tk8 e8 hd8 hI8 hP8 hne8 ho8 F8 N8
          obtain ⟨x8, tx8⟩ := c8
          dsimp only at hP8 F8
          have hl8 := Mine.pre_len e8 hlen7 hok7 hP8
          obtain ⟨y8, se8, ba8, lo8, hi8, rfl, hxx8, h18, h28⟩ := hok7 d8 hd8
          obtain ⟨hxl8, hxo8⟩ := hxx8
          obtain ⟨w1, w2, w3, w4, w5, w6⟩ := Mine.word_lens
          have n1 := Mine.num_len (i := se8) (by omega) (by omega)
          have n2 := Mine.num_len (i := ba8) (by omega) (by omega)
          have n3 := Mine.num_len (i := lo8) (by omega) (by omega)
          have n4 := Mine.num_len (i := hi8) (by omega) (by omega)
          obtain ⟨a8, n8, t0, t1, t2, t3, t4, rfl, hm8⟩ := Mine.dat_letter hI8
          k_steps
          all_goals ((rename Fr _ _ _ _ => lF8); (rename News _ _ _ _ => lN8); k_dflt (refine' Mine.still_text lF8 lN8 ?lK (List.Mem.head _) (fun p hp => List.Mem.tail _ hp) ?lO ?lR ?lP; (case lK => first | exact if_pos rfl | exact rfl); (case lO => assumption); (case lP => exact Mine.row_more hP8); (case lR => (intro z h4 h3; (simp only [List.contains_cons, List.contains_nil, Bool.or_false, Bool.or_eq_false_iff, beq_eq_false_iff_ne, ne_eq] at h3 h4); (simp [h3, h4, kstB]; done)))))
        focus
          intro c8 u8 h8 tk8 hP8 F8 N8
          obtain ⟨x8, tx8⟩ := c8
          dsimp only at hP8 F8
          subst hP8
          have hl8 := Mine.rows_len _ ds7 rfl hok7
          k_steps
          all_goals (try k_data)
          all_goals w_report)
)
end
