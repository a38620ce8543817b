import PyProof.Rows.All
import Wide.All
import OpenK.AllK
import Wide.FinOn
import PySem.Challenge.RW_uf050027_02
open PySem PySem.W PyProof.Rows
set_option Elab.async false
set_option maxRecDepth 100000
set_option maxHeartbeats 0
namespace Mine
open_top hd02 for PySem.Challenge.rw_uf050027_02
end Mine
namespace Mine
def mix (c k : Int) : Int := Int.fmod (Int.fmod ((c + 7919 * k + 1) * 48271) 1000003 * Int.fmod ((c + 7919 * k + 1) * 48271) 1000003) 999983
theorem mix_bd (c k : Int) : 0 ≤ mix c k ∧ mix c k < 999983 := by
  unfold mix
  generalize Int.fmod ((c + 7919 * k + 1) * 48271) 1000003 * Int.fmod ((c + 7919 * k + 1) * 48271) 1000003 = x
  exact ⟨Int.fmod_nonneg_of_pos x (by decide), Int.fmod_lt_of_pos x (by decide)⟩
def big (c k : Int) : Int :=
  if Int.fmod (mix c (k + 90)) 4 = 0 then Int.fmod (mix c k) 30
  else if Int.fmod (mix c (k + 90)) 4 = 1 then Int.fmod (mix c k) 3000
  else if Int.fmod (mix c (k + 90)) 4 = 2 then
    (if Int.fmod (mix c k) 4 = 0 then 0 else if Int.fmod (mix c k) 4 = 1 then 1 else if Int.fmod (mix c k) 4 = 2 then 1000000000000 else 999999999999)
  else Int.fmod (mix c k * 1000003 + mix c (k + 50)) 1000000000001
theorem big_bd (c k : Int) : 0 ≤ big c k ∧ big c k ≤ 1000000000000 := by
  unfold big
  have h1 := Int.fmod_nonneg_of_pos (mix c k) (show (0 : Int) < 30 by decide)
  have h2 := Int.fmod_lt_of_pos (mix c k) (show (0 : Int) < 30 by decide)
  have h3 := Int.fmod_nonneg_of_pos (mix c k) (show (0 : Int) < 3000 by decide)
  have h4 := Int.fmod_lt_of_pos (mix c k) (show (0 : Int) < 3000 by decide)
  have h5 := Int.fmod_nonneg_of_pos (mix c k * 1000003 + mix c (k + 50)) (show (0 : Int) < 1000000000001 by decide)
  have h6 := Int.fmod_lt_of_pos (mix c k * 1000003 + mix c (k + 50)) (show (0 : Int) < 1000000000001 by decide)
  (repeat' split) <;> omega
end Mine
namespace Mine
open PySem PySem.W PyProof.Rows
/-- what a call of a def of the text tells: it ends, hands back R, and leaves the frame and the ledger -/
def Ct (prog : Program) (w : World) (K : Frag) (p : Program) (loose : List Str) (mean : ExcName → Option Value) (mg mb : Str → Option Value) (f : Addr) (sz : Nat) (vs : List Value) (P : Prop) (R : Tok → Value) : Prop :=
  ∀ (dp un : Nat) (gd : Option (List Code)) (cn : Str) (cs : Scope) (a : Addr) (ccd : Value) (cl : List (Str × Addr)) (outer : List Env) (A₀ : Around) (base h₀ : Heap) (L : Addr) (m : Str → Option Value) (news : List (Addr × Obj)) (s : Shared) (Q E : Value → Shared → Prop),
    Below A₀ base outer h₀ → Fr h₀ L s.heap m → K.In h₀ → News h₀ L s.heap news → Top p loose mean mg mb h₀ → cs.kind = .function → dp + sz < recursionLimit → un + 8 * sz < cLine →
    (∀ (t : Tok) (h' : Heap) (tk' : Nat), P → Fr h₀ L h' m → News h₀ L h' news → Q (R t) { s with heap := h', toks := tk' }) →
    wpAny (model prog w) (ktrTop dp un gd cn cs L a ccd cl outer) (call (.ref f) vs) Q E s
theorem Ct.use {prog : Program} {w : World} {K : Frag} {p : Program} {loose : List Str} {mean : ExcName → Option Value} {mg mb : Str → Option Value} {f : Addr} {sz : Nat} {vs : List Value} {P : Prop} {R : Tok → Value} (C : Ct prog w K p loose mean mg mb f sz vs P R)
    {dp un : Nat} {gd : Option (List Code)} {cn : Str} {cs : Scope} {a : Addr} {ccd : Value} {cl : List (Str × Addr)} {outer : List Env} {A₀ : Around} {base h₀ : Heap} {L : Addr} {m : Str → Option Value} {news : List (Addr × Obj)} {s : Shared} {Q E : Value → Shared → Prop}
    (B : Below A₀ base outer h₀ := by k_asm) (F : Fr h₀ L s.heap m := by k_asm) (X : K.In h₀ := by k_asm) (N : News h₀ L s.heap news := by k_asm) (T : Top p loose mean mg mb h₀ := by k_asm) (hk : cs.kind = .function := by first | exact rfl | assumption) (hd : dp + sz < recursionLimit := by first | assumption | omega | ktr_room) (hu : un + 8 * sz < cLine := by first | assumption | omega | ktr_units)
    (ret : ∀ (t : Tok) (h' : Heap) (tk' : Nat), P → Fr h₀ L h' m → News h₀ L h' news → Q (R t) { s with heap := h', toks := tk' }) :
    wpAny (model prog w) (ktrTop dp un gd cn cs L a ccd cl outer) (call (.ref f) vs) Q E s := C _ _ _ _ _ _ _ _ _ _ _ _ _ _ _ _ _ _ B F X N T hk hd hu ret
theorem ct_retI {h₀ h' : Heap} {L : Addr} {m : Str → Option Value} {news : List (Addr × Obj)} {s : Shared} {Q : Value → Shared → Prop} {t : Tok} {tk' : Nat} {P : Prop} {x y : Int}
    (hret : ∀ (t : Tok) (h' : Heap) (tk' : Nat), P → Fr h₀ L h' m → News h₀ L h' news → Q (.int x t) { s with heap := h', toks := tk' }) (hP : P) (e : y = x) (F : Fr h₀ L h' m) (N : News h₀ L h' news) : Q (.int y t) { s with heap := h', toks := tk' } := by
  subst e
  exact hret t h' tk' hP F N
def CellOk (c : Int) : Prop := Builtin.Int.intBits c ≤ 1100000
theorem CellOk.bits {c : Int} {P : Prop} (h : CellOk c ∧ P) : Builtin.Int.intBits c ≤ 1100000 := h.1
theorem cellOk_of {c : Int} {n : Nat} (h : Builtin.Int.intBits c ≤ n) (hn : n ≤ 1100000) : CellOk c := Nat.le_trans h hn
end Mine
local macro_rules | `(tactic| bits_by_make) => `(tactic| exact Mine.CellOk.bits (by assumption))
local macro_rules | `(tactic| l_fact) => `(tactic| ((with_reducible refine And.intro (a := Mine.CellOk _) ?_ ?_); (focus (first | exact And.left (by assumption) | exact Mine.cellOk_of (by bits_by_make) (by decide))); (focus (first | omega | (k_fmods; omega) | (kmn_bounds; omega)))))
local macro_rules | `(tactic| walk_at $s:str) => `(tactic| k_extra $s)
namespace Mine
abbrev Con (w : World) (mean : ExcName → Option Value) (mg mb : Str → Option Value) (f : Addr) (sz : Nat) (vs : List Value) (P : Prop) (R : Tok → Value) : Prop :=
  Ct PySem.Challenge.rw_uf050027_02.row.prog w (hd02.heap_39 w.params) hd02.view_39 (looseW hd02.view_39 []) mean mg mb f sz vs P R
end Mine
namespace Mine
theorem c_lmix (w : World) (mean : ExcName → Option Value) (mg mb : Str → Option Value) (x0 x1 : Int) (tx0 tx1 : Tok) (hpre : (fun c k => CellOk c ∧ 0 ≤ k ∧ k ≤ 1000) x0 x1 := by first | trivial | ((try dsimp only); first | assumption | omega | l_fact)) : Con w mean mg mb 178 1 [.int x0 tx0, .int x1 tx1] ((fun c k => 0 ≤ mix c k ∧ mix c k < 999983) x0 x1) (fun t => .int (mix x0 x1) t) := by
  unfold Con Ct
  k_fill
  w_top off
  intro dp un gd cn cs a ccd cl outer A₀ base h₀ L m news s Q E B F X N T hk hd hu hret
  refine wpAny_call ?_
  k_dflt cell_enter
  k_with_none
  k_steps
  all_goals (refine' ct_retI hret ?e1 ?e2 ?e3 ?e4; (case e3 => k_asm); (case e4 => first | k_asm | (refine' cb_drop ?cbN ?cbS; (case cbN => assumption); (case cbS => kcj_all))); (case e1 => exact mix_bd _ _); (case e2 => rfl))
end Mine
namespace Mine
theorem c_lbig (w : World) (mean : ExcName → Option Value) (mg mb : Str → Option Value) (x0 x1 : Int) (tx0 tx1 : Tok) (hpre : (fun c k => CellOk c ∧ 0 ≤ k ∧ k ≤ 500) x0 x1 := by first | trivial | ((try dsimp only); first | assumption | omega | l_fact)) : Con w mean mg mb 185 2 [.int x0 tx0, .int x1 tx1] ((fun c k => 0 ≤ big c k ∧ big c k ≤ 1000000000000) x0 x1) (fun t => .int (big x0 x1) t) := by
  unfold Con Ct
  k_fill
  w_top off
  intro dp un gd cn cs a ccd cl outer A₀ base h₀ L m news s Q E B F X N T hk hd hu hret
  refine wpAny_call ?_
  k_dflt cell_enter
  k_with_none
  k_with "call ref" => (k_here; (with_reducible show wpAny _ _ (call (Value.ref 178) _) _ _ _); k_dflt (refine Mine.Ct.use (Mine.c_lmix _ _ _ _ _ _ _ _) (ret := ?_)); intro t9 h9 tk9 P9 F9 N9; (try dsimp only); (try k_fold))
  k_steps
  all_goals (refine' ct_retI hret ?e1 ?e2 ?e3 ?e4; (case e3 => k_asm); (case e4 => first | k_asm | (refine' cb_drop ?cbN ?cbS; (case cbN => assumption); (case cbS => kcj_all))); (case e1 => exact big_bd _ _); (case e2 => (unfold big; cb_eq)))
end Mine
namespace Mine
open PySem PySem.W PyProof.Rows
/-- a call hands back a value of which Out is told; the ledger is as it was -/
def Cv (prog : Program) (w : World) (K : Frag) (p : Program) (loose : List Str) (mean : ExcName → Option Value) (mg mb : Str → Option Value) (f : Addr) (sz : Nat) (vs : List Value) (P : List (Addr × Obj) → Prop) (Out : Value → Prop) : Prop :=
  ∀ (dp un : Nat) (gd : Option (List Code)) (cn : Str) (cs : Scope) (a : Addr) (ccd : Value) (cl : List (Str × Addr)) (outer : List Env) (A₀ : Around) (base h₀ : Heap) (L : Addr) (m : Str → Option Value) (news : List (Addr × Obj)) (s : Shared) (Q E : Value → Shared → Prop),
    Below A₀ base outer h₀ → Fr h₀ L s.heap m → K.In h₀ → News h₀ L s.heap news → Top p loose mean mg mb h₀ → cs.kind = .function → dp + sz < recursionLimit → un + 8 * sz < cLine → P news →
    (∀ (r : Value) (h' : Heap) (tk' : Nat), Out r → Fr h₀ L h' m → News h₀ L h' news → Q r { s with heap := h', toks := tk' }) →
    wpAny (model prog w) (ktrTop dp un gd cn cs L a ccd cl outer) (call (.ref f) vs) Q E s
theorem Cv.use {prog : Program} {w : World} {K : Frag} {p : Program} {loose : List Str} {mean : ExcName → Option Value} {mg mb : Str → Option Value} {f : Addr} {sz : Nat} {vs : List Value} {P : List (Addr × Obj) → Prop} {Out : Value → Prop} (C : Cv prog w K p loose mean mg mb f sz vs P Out)
    {dp un : Nat} {gd : Option (List Code)} {cn : Str} {cs : Scope} {a : Addr} {ccd : Value} {cl : List (Str × Addr)} {outer : List Env} {A₀ : Around} {base h₀ : Heap} {L : Addr} {m : Str → Option Value} {news : List (Addr × Obj)} {s : Shared} {Q E : Value → Shared → Prop}
    (B : Below A₀ base outer h₀ := by k_asm) (F : Fr h₀ L s.heap m := by k_asm) (X : K.In h₀ := by k_asm) (N : News h₀ L s.heap news := by k_asm) (T : Top p loose mean mg mb h₀ := by k_asm) (hk : cs.kind = .function := by first | exact rfl | assumption) (hd : dp + sz < recursionLimit := by first | assumption | omega | ktr_room) (hu : un + 8 * sz < cLine := by first | assumption | omega | ktr_units) (hp : P news := by first | trivial | k_mem)
    (ret : ∀ (r : Value) (h' : Heap) (tk' : Nat), Out r → Fr h₀ L h' m → News h₀ L h' news → Q r { s with heap := h', toks := tk' }) :
    wpAny (model prog w) (ktrTop dp un gd cn cs L a ccd cl outer) (call (.ref f) vs) Q E s := C _ _ _ _ _ _ _ _ _ _ _ _ _ _ _ _ _ _ B F X N T hk hd hu hp ret
/-- a text of so many signs at most -/
def TextLe (n : Nat) (r : Value) : Prop := ∃ (x : Str) (t : Tok), r = .str x t ∧ x.length ≤ n ∧ PyData.strOk x = true
end Mine
namespace Mine
open PySem PySem.W PyProof.Rows
theorem textLe_of {n : Nat} {x : Str} {t : Tok} (h : x.length ≤ n) (ho : PyData.strOk x = true) : TextLe n (.str x t) := ⟨x, t, rfl, h, ho⟩
theorem strOk_append {x y : Str} (hx : PyData.strOk x = true) (hy : PyData.strOk y = true) : PyData.strOk (x ++ y) = true := by
  unfold PyData.strOk at *
  show (x.cps ++ y.cps).all _ = true
  rw [Array.all_append, hx, hy]; rfl
theorem strOk_mem {x : Str} (hx : PyData.strOk x = true) {c : Nat} (h : c ∈ x.cps) : c < 0x110000 := by
  unfold PyData.strOk at hx
  simpa using (Array.all_eq_true_iff_forall_mem.mp hx) c h
theorem strOk_slice {x : Str} (hx : PyData.strOk x = true) (l u : Option Int) : PyData.strOk (Txt.slice x l u) = true := by
  unfold Txt.slice
  split
  · exact hx
  · unfold PyData.strOk
    rw [Array.all_eq_true_iff_forall_mem]
    intro c hc
    obtain ⟨i, _, hi⟩ := List.mem_filterMap.mp (List.mem_toArray.mp hc)
    simpa using strOk_mem hx (Array.mem_of_getElem? hi)
theorem strOk_item {x : Str} (hx : PyData.strOk x = true) (i : Int) : PyData.strOk (Txt.item x i) = true := by
  unfold Txt.item Txt.charAt
  unfold PyData.strOk
  cases h : (seqIndex? i x.length).bind (x.cps[·]?) with
  | none => simp
  | some c =>
    have : c < 0x110000 := by
      cases hs : seqIndex? i x.length with
      | none => rw [hs] at h; cases h
      | some k => rw [hs] at h; exact strOk_mem hx (Array.mem_of_getElem? h)
    simp [this]
theorem len_item1 (x : Str) (i : Int) : (Txt.item x i).length = 1 := rfl
theorem textAll_nil {n : Nat} : ∀ v ∈ ([] : List Value), TextLe n v := fun _ h => nomatch h
theorem textAll_cons {n : Nat} {v : Value} {r : List Value} (h : TextLe n v) (hr : ∀ v ∈ r, TextLe n v) : ∀ u ∈ v :: r, TextLe n u := fun u hu => by
  rcases List.mem_cons.mp hu with rfl | hu
  · exact h
  · exact hr u hu
/-- an item of a list of texts, none longer than n: some text, no longer -/
theorem item_texts {prog : Program} {w : World} {A : Around} {E : Value → Shared → Prop} {s : Shared} {value slice : PySem.Expr} {l : Addr} {vs : List Value} {k : Int} {u : Tok} {Q : Value → Shared → Prop} (n : Nat) (hl : s.heap.IsList l vs.toArray)
    (h0 : 0 ≤ k ∧ k < vs.length) (hfit : k < 2 ^ 63) (ht : ∀ v ∈ vs, TextLe n v) (h : ∀ x t, (x.length ≤ n ∧ PyData.strOk x = true) → Q (.str x t) s)
    (hs : subscripted slice false (.ref l) (.int k u) = operate [.ref l, .int k u] (getItem (.ref l) (.int k u)) := by with_unfolding_all rfl) :
    wpAny (model prog w) A (subscriptTail value slice (.ref l) (.int k u)) Q E s := by
  have hlt : k.toNat < vs.length := by omega
  obtain ⟨x, t, e, hx⟩ := ht _ (List.getElem_mem hlt)
  exact tail_any hl.typeIs slot_list_getitem.lookup (wpAny_getItem_list hl h0.1 hfit (x := .str x t) (by rw [List.getElem?_toArray, List.getElem?_eq_getElem hlt, e]) (h x t hx)) hs
end Mine
namespace Mine
open PySem PySem.W PyProof.Rows
theorem three_ok {x y z : Str} {a b c n : Nat} (hx : x.length ≤ a) (hy : y.length ≤ b) (hz : z.length ≤ c) (h : a + b + c ≤ n) : (x ++ y ++ z).length ≤ n := by
  rw [Str.length_append, Str.length_append]; omega
theorem two_ok {x y : Str} {a b n : Nat} (hx : x.length ≤ a) (hy : y.length ≤ b) (h : a + b ≤ n) : (x ++ y).length ≤ n := by
  rw [Str.length_append]; omega
/-- an int, neither end too far -/
def IntLe (b : Int) (r : Value) : Prop := ∃ (i : Int) (t : Tok), r = .int i t ∧ -b ≤ i ∧ i ≤ b
theorem getD_bd {l : List Int} {lo hi : Int} (h0 : lo ≤ 0 ∧ 0 ≤ hi) (h : ∀ x ∈ l, lo ≤ x ∧ x ≤ hi) (i : Nat) : lo ≤ l.getD i 0 ∧ l.getD i 0 ≤ hi := by
  by_cases hi' : i < l.length
  · rw [List.getD_eq_getElem?_getD, List.getElem?_eq_getElem hi', Option.getD_some]
    exact h _ (List.getElem_mem hi')
  · rw [List.getD_eq_getElem?_getD, List.getElem?_eq_none (by omega), Option.getD_none]
    exact h0
end Mine
namespace Mine
theorem c_word (w : World) (mean : ExcName → Option Value) (mg mb : Str → Option Value) (c n : Int) (tc tn : Tok) (hc : CellOk c ∧ 0 ≤ n ∧ n ≤ 13 := by first | trivial | ((try dsimp only); first | assumption | omega | l_fact)) :
    Cv PySem.Challenge.rw_uf050027_02.row.prog w (hd02.heap_39 w.params) hd02.view_39 (looseW hd02.view_39 []) mean mg mb 199 2 [.int c tc, .int n tn] (fun _ => True) (TextLe n.toNat) := by
  unfold Cv
  k_fill
  w_top off
  intro dp un gd cn cs a ccd cl outer A₀ base h₀ L m news s Q E B F X N T hk hd hu hP hret
  refine wpAny_call ?_
  k_dflt cell_enter
  k_with_none
  k_with "call ref" => (k_here; (with_reducible show wpAny _ _ (call (Value.ref 178) _) _ _ _); k_dflt (refine Mine.Ct.use (Mine.c_lmix _ _ _ _ _ _ _ _) (ret := ?_)); intro t9 h9 tk9 P9 F9 N9; (try dsimp only); (try k_fold))
  k_with "call ref" => (k_here; (with_reducible show wpAny _ _ (call (Value.ref 185) _) _ _ _); k_dflt (refine Mine.Ct.use (Mine.c_lbig _ _ _ _ _ _ _ _) (ret := ?_)); intro t9 h9 tk9 P9 F9 N9; (try dsimp only); (try k_fold))
  k_with "state" => (first | exact ⟨⟨rfl, by decide⟩, by decide +kernel⟩ | (refine ⟨⟨?sa, ?sc⟩, ?sb⟩; (case sa => (rw [Str.length_append, Mine.len_item1, List.length_append, List.length_cons, List.length_nil]; omega)); (case sc => (rw [List.length_append, List.length_cons, List.length_nil]; omega)); (case sb => exact Mine.strOk_append (by assumption) (Mine.strOk_item (by decide +kernel) _))))
  k_with "pyIter ref" => k_state (fun pre w => (w.length = pre.length ∧ pre.length ≤ 13) ∧ PyData.strOk w = true) "_law_word_here"
  k_steps
  k_with_none
  all_goals (refine' hret _ _ _ ⟨_, _, rfl, ?q1⟩ ?q2 ?q3; (case q2 => k_asm); (case q3 => first | k_asm | (refine' cb_drop ?cbN ?cbS; (case cbN => assumption); (case cbS => kcj_all))); (case q1 => (refine ⟨?_, by assumption⟩; simp only [rangeKs_length] at *; omega)))

end Mine
namespace Mine
open PySem PySem.W PyProof.Rows
theorem fmod_b (c : Int) : 0 ≤ c.fmod 12 ∧ c.fmod 12 < 12 := ⟨Int.fmod_nonneg_of_pos c (by decide), Int.fmod_lt_of_pos c (by decide)⟩
theorem two_ok12 {x y : Str} {c : Int} (hx : x.length ≤ (1 + c.fmod 12).toNat) (hy : y.length ≤ (1 + c.fmod 12).toNat) : (x ++ y).length ≤ 26 := by
  have := fmod_b c
  exact two_ok hx hy (by omega)
end Mine
namespace Mine
theorem c_name (w : World) (mean : ExcName → Option Value) (mg mb : Str → Option Value) (c : Int) (tc : Tok) (hc : CellOk c ∧ (0 : Int) ≤ 0 := by first | trivial | ((try dsimp only); first | assumption | omega | l_fact)) :
    Cv PySem.Challenge.rw_uf050027_02.row.prog w (hd02.heap_39 w.params) hd02.view_39 (looseW hd02.view_39 []) mean mg mb 213 3 [.int c tc] (fun _ => True) (TextLe 26) := by
  unfold Cv
  k_fill
  w_top off
  intro dp un gd cn cs a ccd cl outer A₀ base h₀ L m news s Q E B F X N T hk hd hu hP hret
  refine wpAny_call ?_
  k_dflt cell_enter
  k_with_none
  k_with "call ref" => (k_here; (with_reducible show wpAny _ _ (call (Value.ref 178) _) _ _ _); k_dflt (refine Mine.Ct.use (Mine.c_lmix _ _ _ _ _ _ _ _) (ret := ?_)); intro t9 h9 tk9 P9 F9 N9; (try dsimp only); (try k_fold))
  k_with "call ref" => (k_here; (with_reducible show wpAny _ _ (call (Value.ref 185) _) _ _ _); k_dflt (refine Mine.Ct.use (Mine.c_lbig _ _ _ _ _ _ _ _) (ret := ?_)); intro t9 h9 tk9 P9 F9 N9; (try dsimp only); (try k_fold))
  k_with "call ref" => (k_here; (with_reducible show wpAny _ _ (call (Value.ref 199) _) _ _ _); k_dflt (refine Mine.Cv.use (Mine.c_word _ _ _ _ _ _ _ _) (ret := ?_)); intro r9 h9 tk9 ho9 F9 N9; k_dflt ((obtain ⟨x9, v9, e9, hl9, hs9⟩ := ho9); subst e9); (try dsimp only); (try k_fold))
  k_with "subscriptTail List cons BinOp ref int" => (k_here; (with_reducible show wpAny _ _ (subscriptTail _ _ (Value.ref _) (Value.int _ _)) _ _ _); (try k_fmods); k_dflt (refine' Mine.item_texts 26 ?k1 ?k2 ?k3 ?k4 ?_; (case k1 => is_list); (case k2 => (simp only [List.length_cons, List.length_nil]; omega)); (case k3 => omega); (case k4 => (repeat' (first | exact Mine.textAll_nil | refine Mine.textAll_cons ?_ ?_)); (all_goals (refine Mine.textLe_of ?_ ?_)); (all_goals (first | assumption | exact Mine.strOk_append (by assumption) (by assumption) | exact Mine.two_ok12 (by assumption) (by assumption) | omega | decide +kernel))); k_whole); intro _ _ hTx)
  k_steps
  k_with_none
  all_goals (refine' hret _ _ _ ⟨_, _, rfl, ?q1⟩ ?q2 ?q3; (case q2 => k_asm); (case q3 => first | k_asm | (refine' cb_drop ?cbN ?cbS; (case cbN => assumption); (case cbS => kcj_all))); (case q1 => (first | assumption | (refine ⟨?_, by assumption⟩; have hb9 := fmod_b c; omega) | (have hb9 := fmod_b c; exact ⟨three_ok (Txt.slice_le _ _ _) (Nat.le_of_eq (len_item1 _ _)) (Txt.slice_le _ _ _) (by omega), strOk_append (strOk_append (strOk_slice (by assumption) _ _) (strOk_item (by decide +kernel) _)) (strOk_slice (by assumption) _ _)⟩))))

end Mine
namespace Mine
open PySem PySem.W PyProof.Rows
theorem ct_retB {h₀ h' : Heap} {L : Addr} {m : Str → Option Value} {news : List (Addr × Obj)} {s : Shared} {Q : Value → Shared → Prop} {tk' : Nat} {P : Prop} {x y : Bool}
    (hret : ∀ (t : Tok) (h' : Heap) (tk' : Nat), P → Fr h₀ L h' m → News h₀ L h' news → Q (.bool x) { s with heap := h', toks := tk' }) (hP : P) (e : y = x) (F : Fr h₀ L h' m) (N : News h₀ L h' news) : Q (.bool y) { s with heap := h', toks := tk' } := by
  subst e
  exact hret 0 h' tk' hP F N
def within (x l m : Int) : Bool := decide (l ≤ x) && decide (x ≤ m)
/-- whether a sign is one of a text's -/
def inT (x : Str) (c : Nat) : Bool := !(Builtin.Str.occurrences x ⟨#[c]⟩ 0 x.length 1).isEmpty
def SMALL : Str := Str.ofString "abcdefghijklmnopqrstuvwxyz"
def nameOk (x : Str) : Bool := (decide (1 ≤ x.length) && decide (x.length ≤ 12)) && x.cps.toList.all (inT SMALL)
def dueT (x : Str) (a b c d : Int) : Str :=
  if nameOk x = false then Str.ofString "name"
  else if (within a 0 1000000000000 && within b 0 1000000000000 && within c 0 1000000000000 && within d 0 1000000000000) = false then Str.ofString "letter"
  else if a > b ∨ c > d then Str.ofString "letter" else Str.ofString ""
end Mine
namespace Mine
open PySem PySem.W PyProof.Rows
theorem nameOk_len {x : Str} (h : x.length < 1 ∨ 12 < x.length) : nameOk x = false := by
  unfold nameOk
  rcases h with h | h
  · rw [decide_eq_false (show ¬ 1 ≤ x.length by omega)]; rfl
  · rw [decide_eq_false (show ¬ x.length ≤ 12 by omega)]; simp
theorem nameOk_sign {x : Str} {ds : List Dat} (he : ds = [] ↔ x.cps.toList.all (inT SMALL) = true) (h : ¬ ds = []) : nameOk x = false := by
  unfold nameOk
  rw [Bool.eq_false_iff.mpr fun q => h (he.mpr q)]; simp
theorem nameOk_yes {x : Str} {ds : List Dat} (h1 : 1 ≤ x.length) (h2 : x.length ≤ 12) (he : ds = [] ↔ x.cps.toList.all (inT SMALL) = true) (h : ds = []) : nameOk x = true := by
  unfold nameOk
  rw [decide_eq_true h1, decide_eq_true h2, he.mp h]; rfl
theorem dueT_name {x : Str} {a b c d : Int} (h : nameOk x = false) : Str.ofString "name" = dueT x a b c d := by unfold dueT; rw [if_pos h]
theorem dueT_l {x : Str} {a b c d : Int} (h : nameOk x = true) (h2 : a < 0 ∨ 1000000000000 < a ∨ b < 0 ∨ 1000000000000 < b ∨ c < 0 ∨ 1000000000000 < c ∨ d < 0 ∨ 1000000000000 < d ∨ b < a ∨ d < c) : Str.ofString "letter" = dueT x a b c d := by
  unfold dueT
  rw [if_neg (by rw [h]; decide)]
  by_cases hw : (within a 0 1000000000000 && within b 0 1000000000000 && within c 0 1000000000000 && within d 0 1000000000000) = false
  · rw [if_pos hw]
  · rw [if_neg hw]
    have hw' : (within a 0 1000000000000 && within b 0 1000000000000 && within c 0 1000000000000 && within d 0 1000000000000) = true := (Bool.not_eq_false _).mp hw
    unfold within at hw'
    simp only [Bool.and_eq_true, decide_eq_true_eq] at hw'
    rw [if_pos (by omega)]
theorem dueT_e {x : Str} {a b c d : Int} (h : nameOk x = true) (h2 : (0 ≤ a ∧ a ≤ 1000000000000) ∧ (0 ≤ b ∧ b ≤ 1000000000000) ∧ (0 ≤ c ∧ c ≤ 1000000000000) ∧ (0 ≤ d ∧ d ≤ 1000000000000) ∧ a ≤ b ∧ c ≤ d) : Str.ofString "" = dueT x a b c d := by
  unfold dueT within
  rw [if_neg (by rw [h]; decide), if_neg (by simp; omega), if_neg (by omega)]
theorem eq_self {prog : Program} {w : World} {A : Around} {E : Value → Shared → Prop} {s : Shared} {h₀ : Heap} {L : Addr} {news : List (Addr × Obj)} {v : Value} {d : Dat} {Q : Value → Shared → Prop} (N : News h₀ L s.heap news) (D : DatIn news v d) (hk : kqdOk 8 d = true) (hu : A.units + 64 < cLine) (h : Q (.bool true) s) : wpAny (model prog w) A (compareOp .Eq v v) Q E s := by
  obtain ⟨as, ra⟩ := kqd_in N 8 D hk
  have la := kqd_lay 8 d hk
  have e : PyData.eqv (kqdP d) (kqdP d) = true := (kqd_eqv 8 d d 8 hk hk).mpr rfl
  have sh : SeqAt.shaped (kqdP d) = true := by
    unfold SeqAt.shaped; rw [la.1, Bool.true_and]; exact decide_eq_true (Nat.le_trans la.2 (by decide))
  exact eq_dataH ra ra sh sh hu (by rw [e]; exact h)
end Mine
namespace Mine
open PySem PySem.W PyProof.Rows
theorem inT_no {c : Nat} (h : (Builtin.Str.occurrences (Str.ofString "abcdefghijklmnopqrstuvwxyz") { cps := #[c] } 0 (Str.ofString "abcdefghijklmnopqrstuvwxyz").length 1).isEmpty = true) : inT SMALL c = false := by
  unfold inT SMALL; rw [h]; rfl
theorem inT_yes {c : Nat} (h : (Builtin.Str.occurrences (Str.ofString "abcdefghijklmnopqrstuvwxyz") { cps := #[c] } 0 (Str.ofString "abcdefghijklmnopqrstuvwxyz").length 1).isEmpty = false) : inT SMALL c = true := by
  unfold inT SMALL; rw [h]; rfl
open Classical in
theorem ne_nil {prog : Program} {w : World} {A : Around} {E : Value → Shared → Prop} {s : Shared} {h₀ : Heap} {L a b : Addr} {news : List (Addr × Obj)} {oa ob : Obj} {xs : List Value} {ka kb : Nat} {ds : List Dat} {Q : Value → Shared → Prop} (N : News h₀ L s.heap news) (ma : (a, oa) ∈ news) (ca : oa.cls = .type "list") (da : oa.data = .seq xs.toArray ka) (Da : DatAll [] xs ds)
    (mb : (b, ob) ∈ news) (cb : ob.cls = .type "list") (db : ob.data = .seq ([] : List Value).toArray kb) (ha : ∀ d ∈ ds, kqdOk 8 d = true) (hu : A.units + 64 < cLine) (h : Q (.bool (!decide (ds = []))) s) : wpAny (model prog w) A (compareOp .NotEq (.ref a) (.ref b)) Q E s :=
  kqd_ne (n₁ := []) (n₂ := []) N ma ca da Da (fun _ h => nomatch h) mb cb db .nil (fun _ h => nomatch h) ha (fun _ h => nomatch h) hu h
end Mine
namespace Mine
open PySem PySem.W PyProof.Rows
theorem tup_from1 {prog : Program} {w : World} {A : Around} {E : Value → Shared → Prop} {s : Shared} {h₀ : Heap} {L t : Addr} {m : Str → Option Value} {news : List (Addr × Obj)} {value slice : PySem.Expr} {v0 v1 v2 v3 v4 : Value} {n : Nat} {u : Tok} {Q : Value → Shared → Prop}
    (F : Fr h₀ L s.heap m) (N : News h₀ L s.heap news) (hm : (t, ({ cls := .type "tuple", data := .seq #[v0, v1, v2, v3, v4] n } : Obj)) ∈ news)
    (h : ∀ D h', Fr h₀ L h' m → News h₀ L h' ((D, { cls := .type "tuple", data := .seq #[v1, v2, v3, v4] }) :: news) → (∀ p ∈ news, p.1 < D) → Q (.ref D) { s with heap := h' })
    (hs : subscripted slice false (.ref t) (.ref s.heap.objs.size) = operate [.ref s.heap.objs.size, .ref t] (getItem (.ref t) (.ref s.heap.objs.size)) := by with_unfolding_all rfl)
    (hg : ∀ r, letTemporaryGo value (.ref t) r = pure () := by intro _; with_unfolding_all rfl) :
    wpAny (model prog w) A (subscriptTail value slice (.ref t) (.ref s.heap.objs.size)) Q E { s with heap := s.heap.push { cls := .type "slice", data := .fields #[.int 1 u, .none, .none] } } :=
  slice_tuple_from (a := 1) F N (News.isTup N hm) (by decide) (by show 1 ≤ 5; decide) (fun h' F' N' => h _ h' F' N' fun p hp => Nat.lt_succ_of_lt (Heap.lt_size (N p hp).1)) hs hg (by show 5 ≤ sizeLine; rw [sizeLine_eq]; decide)
end Mine
namespace Mine
open PySem PySem.W PyProof.Rows
theorem dueT_w {x : Str} {a b c d : Int} (hn : nameOk x = true) (hw : (within a 0 1000000000000 && (within b 0 1000000000000 && (within c 0 1000000000000 && within d 0 1000000000000))) = false) : Str.ofString "letter" = dueT x a b c d := by
  unfold dueT
  rw [if_neg (by rw [hn]; decide), if_pos (by rw [Bool.and_assoc, Bool.and_assoc]; exact hw)]
theorem dueT_o {x : Str} {a b c d : Int} (hn : nameOk x = true) (hw : (within a 0 1000000000000 && (within b 0 1000000000000 && (within c 0 1000000000000 && within d 0 1000000000000))) = true) (h : b < a ∨ d < c) : Str.ofString "letter" = dueT x a b c d := by
  unfold dueT
  rw [if_neg (by rw [hn]; decide), if_neg (by rw [Bool.and_assoc, Bool.and_assoc, hw]; decide), if_pos (by omega)]
theorem dueT_k {x : Str} {a b c d : Int} (hn : nameOk x = true) (hw : (within a 0 1000000000000 && (within b 0 1000000000000 && (within c 0 1000000000000 && within d 0 1000000000000))) = true) (h1 : a ≤ b) (h2 : c ≤ d) : Str.ofString "" = dueT x a b c d := by
  unfold dueT
  rw [if_neg (by rw [hn]; decide), if_neg (by rw [Bool.and_assoc, Bool.and_assoc, hw]; decide), if_neg (by omega)]
end Mine
namespace Mine
open PySem PySem.W PyProof.Rows
theorem pow24 {prog : Program} {w : World} {A : Around} {E : Value → Shared → Prop} {s : Shared} {t u : Tok} {Q : Value → Shared → Prop} (h : Q (.int 1000000000000000000000000 s.toks) { s with toks := s.toks + 1 }) : wpAny (model prog w) A (binaryOp .Pow (.int 10 t) (.int 24 u)) Q E s :=
  pow_int_small (by decide) (by decide) (by decide) (by rw [show (10 : Int) ^ (24 : Int).toNat = 1000000000000000000000000 by decide]; exact h)
theorem pow12 {prog : Program} {w : World} {A : Around} {E : Value → Shared → Prop} {s : Shared} {t u : Tok} {Q : Value → Shared → Prop} (h : Q (.int 1000000000000 s.toks) { s with toks := s.toks + 1 }) : wpAny (model prog w) A (binaryOp .Pow (.int 10 t) (.int 12 u)) Q E s :=
  pow_int_small (by decide) (by decide) (by decide) (by rw [show (10 : Int) ^ (12 : Int).toNat = 1000000000000 by decide]; exact h)
theorem bits24 : Builtin.Int.intBits 1000000000000000000000000 ≤ 100 := by decide +kernel
end Mine
local macro_rules | `(tactic| bits_by_make) => `(tactic| exact Mine.bits24)
namespace Mine
theorem c_other (w : World) (mean : ExcName → Option Value) (mg mb : Str → Option Value) (c : Int) (tc : Tok) (hc : CellOk c ∧ (0 : Int) ≤ 0 := by first | trivial | ((try dsimp only); first | assumption | omega | l_fact)) :
    Cv PySem.Challenge.rw_uf050027_02.row.prog w (hd02.heap_39 w.params) hd02.view_39 (looseW hd02.view_39 []) mean mg mb 206 3 [.int c tc] (fun _ => True) (IntLe 10000000000000000000000000000000) := by
  unfold Cv
  k_fill
  w_top off
  intro dp un gd cn cs a ccd cl outer A₀ base h₀ L m news s Q E B F X N T hk hd hu hP hret
  refine wpAny_call ?_
  k_dflt cell_enter
  k_with_none
  k_with "binaryOp Pow int int" => (k_here; (first | (with_reducible refine Mine.pow24 ?_) | (with_reducible refine Mine.pow12 ?_)))
  k_with "call ref" => (k_here; (with_reducible show wpAny _ _ (call (Value.ref 178) _) _ _ _); k_dflt (refine Mine.Ct.use (Mine.c_lmix _ _ _ _ _ _ _ _) (ret := ?_)); intro t9 h9 tk9 P9 F9 N9; (try dsimp only); (try k_fold))
  k_with "call ref" => (k_here; (with_reducible show wpAny _ _ (call (Value.ref 185) _) _ _ _); k_dflt (refine Mine.Ct.use (Mine.c_lbig _ _ _ _ _ _ _ _) (ret := ?_)); intro t9 h9 tk9 P9 F9 N9; (try dsimp only); (try k_fold))
  k_steps
  k_with_none
  all_goals (refine' hret _ _ _ ⟨_, _, rfl, ?q1⟩ ?q2 ?q3; (case q2 => k_asm); (case q3 => first | k_asm | (refine' cb_drop ?cbN ?cbS; (case cbN => assumption); (case cbS => kcj_all))); (case q1 => (refine getD_bd ⟨by decide, by decide⟩ ?_ _; have m1 := mix_bd c 30; have m2 := mix_bd c 31; have m3 := big_bd c 32; simp only [List.forall_mem_cons, List.not_mem_nil, false_implies, implies_true, and_true]; omega)))

end Mine
namespace Mine
open PySem PySem.W PyProof.Rows PySem.Spec PySem.Calls PyProof.Rows.LCg PyProof.Rows.LCt
section
variable {prog : Program} {w : World} {A : Around} {E : Value → Shared → Prop} {s : Shared} {h₀ : Heap} {L : Addr} {m : Str → Option Value} {env : Env}
/-- a turn of a comprehension is through (the walk stops here) -/
def CompTurn (h₀ : Heap) (L : Addr) (m : Str → Option Value) (s₁ : Shared) (I : Addr) (oI : Obj) (C : Addr) (oC : Obj) (D : Addr) (oD : Obj) (S : List (Addr × Obj) → Prop) (rest : Value → List (Addr × Obj) → Prop) (y : Value) (s₂ : Shared) : Prop :=
  LCg.CompEnd h₀ L m s₁ I oI C oC D oD S rest y s₂
theorem CompTurn.intro {I C D : Addr} {s₁ : Shared} {oI oC oD : Obj} {S : List (Addr × Obj) → Prop} {rest : Value → List (Addr × Obj) → Prop} {y : Value} {h' : Heap} {tk : Nat} {all : List (Addr × Obj)}
    (F : Fr h₀ L h' m) (N : News h₀ L h' all) (news' : List (Addr × Obj)) (sub : ∀ p ∈ (I, oI) :: (C, oC) :: (D, oD) :: news', p ∈ all) (off : Off3 I C D news') (hS : S news') (r : rest y news') :
    CompTurn h₀ L m s₁ I oI C oC D oD S rest y { s₁ with heap := h', toks := tk } := CompEnd.intro F N news' sub off hS r
theorem rest_inv {elt : Expr} {x : Str} {scope : Scope} {cl : List (Str × Addr)} {S : List (Addr × Obj) → Prop} {P : Nat → Value → Prop} {Fin : List Value → List (Addr × Obj) → Prop} {n : Nat} {news : List (Addr × Obj)}
    (Inv : Nat → List Value → List (Addr × Obj) → Prop) (h0 : Inv 0 [] news)
    (turn : ∀ i ys nw v I oI C oC D m₂ h tk (E' : Value → Shared → Prop), i < n → Inv i ys nw → P i v → NsObj oC m₂ → m₂ x = some v → Fr h₀ L h m → News h₀ L h ((I, oI) :: (C, oC) :: (D, lst ys) :: nw) → Off3 I C D nw → ((@Ne Nat I C) ∧ (@Ne Nat I D) ∧ (@Ne Nat C D)) →
      wpAny (model prog w) A (eval elt (compEnvC scope cl C env)) (CompTurn h₀ L m { s with heap := h, toks := tk } I oI C oC D (lst ys) S (fun y nw' => Inv (i + 1) (ys ++ [y]) nw')) E' { s with heap := h, toks := tk })
    (fin : ∀ ys nw, Inv n ys nw → Fin ys nw) : CompRest prog w A h₀ L m env elt x scope cl s S P Fin n 0 [] news := by
  have key : ∀ (j i : Nat) (ys : List Value) (nw : List (Addr × Obj)), i + j = n → Inv i ys nw → CompRest prog w A h₀ L m env elt x scope cl s S P Fin j i ys nw := by
    intro j
    induction j with
    | zero =>
      intro i ys nw hi hv
      have e : i = n := by omega
      subst e
      exact CompRest.zero (fin ys nw hv)
    | succ j ih =>
      intro i ys nw hi hv
      refine CompRest.succ ?_
      intro v I oI C oC D m₂ h tk E' hP hC hx F N off ne
      refine wpAny_mono (turn i ys nw v I oI C oC D m₂ h tk E' (by omega) hv hP hC hx F N off ne) (fun y s₂ hq => ?_) fun _ _ e => e
      obtain ⟨h', tk', nw', e, F', N', off', hS, r⟩ := hq
      exact ⟨h', tk', nw', e, F', N', off', hS, ih (i + 1) _ nw' (by omega) r⟩
  exact key n 0 [] news (by omega) h0
theorem restT_inv {ct elt : Expr} {x : Str} {scope : Scope} {cl : List (Str × Addr)} {S : List (Addr × Obj) → Prop} {P : Nat → Value → Prop} {Fin : List Value → List (Addr × Obj) → Prop} {n : Nat} {news : List (Addr × Obj)}
    (Inv : Nat → List Value → List (Addr × Obj) → Prop) (h0 : Inv 0 [] news)
    (turn : ∀ i ys nw v I oI C oC D m₂ h tk (E' : Value → Shared → Prop), i < n → Inv i ys nw → P i v → NsObj oC m₂ → m₂ x = some v → Fr h₀ L h m → News h₀ L h ((I, oI) :: (C, oC) :: (D, lst ys) :: nw) → Off3 I C D nw → ((@Ne Nat I C) ∧ (@Ne Nat I D) ∧ (@Ne Nat C D)) →
      wpAny (model prog w) A (isTrue ct (compEnvC scope cl C env) (eval ct (compEnvC scope cl C env))) (fun ok s' => if ok = true then
        wpAny (model prog w) A (eval elt (compEnvC scope cl C env)) (CompTurn h₀ L m { s with heap := h, toks := tk } I oI C oC D (lst ys) S (fun y nw' => Inv (i + 1) (ys ++ [y]) nw')) E' s'
        else CompTurn h₀ L m { s with heap := h, toks := tk } I oI C oC D (lst ys) S (fun _ nw' => Inv (i + 1) ys nw') Value.none s') E' { s with heap := h, toks := tk })
    (fin : ∀ ys nw, Inv n ys nw → Fin ys nw) : CompRestT prog w A h₀ L m env ct elt x scope cl s S P Fin n 0 [] news := by
  have key : ∀ (j i : Nat) (ys : List Value) (nw : List (Addr × Obj)), i + j = n → Inv i ys nw → CompRestT prog w A h₀ L m env ct elt x scope cl s S P Fin j i ys nw := by
    intro j
    induction j with
    | zero =>
      intro i ys nw hi hv
      have e : i = n := by omega
      subst e
      exact CompRestT.zero (fin ys nw hv)
    | succ j ih =>
      intro i ys nw hi hv
      refine CompRestT.succ ?_
      intro v I oI C oC D m₂ h tk E' hP hC hx F N off ne
      refine wpAny_mono (turn i ys nw v I oI C oC D m₂ h tk E' (by omega) hv hP hC hx F N off ne) (fun ok s' hq => ?_) fun _ _ e => e
      cases ok with
      | true =>
        rw [if_pos rfl] at hq ⊢
        refine wpAny_mono hq (fun y s₂ hq => ?_) fun _ _ e => e
        obtain ⟨h', tk', nw', e, F', N', off', hS, r⟩ := hq
        exact ⟨h', tk', nw', e, F', N', off', hS, ih (i + 1) _ nw' (by omega) r⟩
      | false =>
        rw [if_neg (by decide)] at hq ⊢
        obtain ⟨h', tk', nw', e, F', N', off', hS, r⟩ := hq
        exact ⟨h', tk', nw', e, F', N', off', hS, ih (i + 1) _ nw' (by omega) r⟩
  exact key n 0 [] news (by omega) h0
theorem striter_st {I : Addr} {k : String} {tx : Str} {t : Tok} : ∀ i (h h' : Heap) (o : Obj) (nw : List (Addr × Obj)), h.IsStrIter I k tx t i → h.get? I = some o → h'.get? I = some o → (∀ b o, h₀.get? b = some o → h'.get? b = some o) → News h₀ L h' nw → True → h'.IsStrIter I k tx t i :=
  fun i h h' o nw st e e' _ _ _ => by obtain ⟨o', q, r⟩ := st; rw [e] at q; cases q; exact ⟨o, e', r⟩
/-- the source of a comprehension is a text -/
def SrcS (prog : Program) (w : World) (A : Around) (h₀ : Heap) (L : Addr) (m : Str → Option Value) (R : Shared → Str → List (Addr × Obj) → Prop) (xv : Value) (s₁ : Shared) : Prop :=
  ∃ tx t news, xv = .str tx t ∧ A.handled = none ∧ Fr h₀ L s₁.heap m ∧ News h₀ L s₁.heap news ∧ tx.cps.size ≤ sizeLine ∧ ∀ s₂ : Shared, (∃ h, s₂ = { s₁ with heap := h }) → R s₂ tx news
theorem SrcS.intro {R : Shared → Str → List (Addr × Obj) → Prop} {tx : Str} {t : Tok} {s₁ : Shared} {news : List (Addr × Obj)} (hh : A.handled = none) (F : Fr h₀ L s₁.heap m) (N : News h₀ L s₁.heap news) (hsz : tx.length ≤ sizeLine) (h : ∀ g, R { s₁ with heap := g } tx news) : SrcS prog w A h₀ L m R (.str tx t) s₁ :=
  ⟨tx, t, news, rfl, hh, F, N, hsz, fun _ ⟨g, e⟩ => e ▸ h g⟩
/-- a comprehension over a text -/
theorem ListComp_S {elt iter : Expr} {x : Str} {px : Pos} {scope : Scope} {cl : List (Str × Addr)} {pos : Pos} {Q : Value → Shared → Prop} (_F₀ : Fr h₀ L s.heap m)
    (hclos : closureFor scope env = pure cl) (hcell : ∀ y ∈ scope.names, y.2 ≠ .cell) (hkind : scope.kind = .function)
    (hnames : ∀ y ∈ scope.names, y.2 = .local → scope.names.lookup y.1 = some .local) (hx : scope.names.lookup x = some .local)
    (h : wpAny (model prog w) A (eval iter env) (SrcS prog w A h₀ L m (fun s₂ tx news => CompRest prog w A h₀ L m env elt x scope cl s₂ (fun _ => True) (SignAt tx) (FinE h₀ L m s₂ Q) tx.cps.size 0 [] news)) E s)
    (hs : ∀ x, foldedSetIterable iter env x = pure x := by intro _; rfl) :
    wpAny (model prog w) A (eval (.ListComp elt [⟨.Name x px, iter, [], 0⟩] scope pos) env) Q E s := by
  rw [eval_ListComp]
  refine wpAny_comprehension_free (use := none) rfl hs hclos hkind hnames (wpAny_mono h (fun xv s₁ h₁ => ?_) fun _ _ e => e)
  obtain ⟨tx, t, news, rfl, hh, F, N, hsz, R⟩ := h₁
  cases ha : tx.cps.all (· < 128)
  · refine wpAny_pyIter_wide ha ?_
    refine block_U (Walks.strWide hh s₁.heap.objs.size tx t) hsz (fun i h st => by obtain ⟨o, e, _⟩ := st; exact ⟨o, e⟩) striter_st hcell hkind hx ⟨_, Heap.get?_push_size _ rfl, rfl, rfl⟩ (fun b hb => ?_)
      (F.keeps fun _ _ e => Heap.get?_push_of_some _ e) (N.grown fun _ _ e => Heap.get?_push_of_some _ e) (Nat.ne_of_lt F.ns.lt) (next_is_new F) (fun p hp => Nat.ne_of_lt (Heap.lt_size (N p hp).1)) trivial (R _ ⟨_, rfl⟩) ?_
    · rw [List.mem_singleton.mp hb]
      show s₁.heap.objs.size < (s₁.heap.push _).objs.size
      rw [Heap.size_push]; exact Nat.lt_succ_self _
    · intro D C h tk m' ys news' F' N' o1 hn hC₀ hD₀ hCL hDL hCD offC fin
      refine ⟨m', hn, fun h'' hs'' => fin D h'' tk (F'.change hs'' hCL hC₀) (fun p hp => ?_) o1⟩
      refine ⟨hs''.extBut _ _ ?_ (N' p hp).1, (N' p hp).2⟩
      rcases List.mem_cons.mp hp with rfl | hp
      · exact Ne.symm hCD
      · exact offC p hp
  · refine wpAny_pyIter_ascii ha ?_
    refine block_U (Walks.strAscii hh s₁.heap.objs.size tx t) hsz (fun i h st => by obtain ⟨o, e, _⟩ := st; exact ⟨o, e⟩) striter_st hcell hkind hx ⟨_, Heap.get?_push_size _ rfl, rfl, rfl⟩ (fun b hb => ?_)
      (F.keeps fun _ _ e => Heap.get?_push_of_some _ e) (N.grown fun _ _ e => Heap.get?_push_of_some _ e) (Nat.ne_of_lt F.ns.lt) (next_is_new F) (fun p hp => Nat.ne_of_lt (Heap.lt_size (N p hp).1)) trivial (R _ ⟨_, rfl⟩) ?_
    · rw [List.mem_singleton.mp hb]
      show s₁.heap.objs.size < (s₁.heap.push _).objs.size
      rw [Heap.size_push]; exact Nat.lt_succ_self _
    · intro D C h tk m' ys news' F' N' o1 hn hC₀ hD₀ hCL hDL hCD offC fin
      refine ⟨m', hn, fun h'' hs'' => fin D h'' tk (F'.change hs'' hCL hC₀) (fun p hp => ?_) o1⟩
      refine ⟨hs''.extBut _ _ ?_ (N' p hp).1, (N' p hp).2⟩
      rcases List.mem_cons.mp hp with rfl | hp
      · exact Ne.symm hCD
      · exact offC p hp
/-- a comprehension over a text, with a test -/
theorem ListComp_ST {ct elt iter : Expr} {x : Str} {px : Pos} {scope : Scope} {cl : List (Str × Addr)} {pos : Pos} {Q : Value → Shared → Prop} (_F₀ : Fr h₀ L s.heap m)
    (hclos : closureFor scope env = pure cl) (hcell : ∀ y ∈ scope.names, y.2 ≠ .cell) (hkind : scope.kind = .function)
    (hnames : ∀ y ∈ scope.names, y.2 = .local → scope.names.lookup y.1 = some .local) (hx : scope.names.lookup x = some .local)
    (h : wpAny (model prog w) A (eval iter env) (SrcS prog w A h₀ L m (fun s₂ tx news => CompRestT prog w A h₀ L m env ct elt x scope cl s₂ (fun _ => True) (SignAt tx) (FinE h₀ L m s₂ Q) tx.cps.size 0 [] news)) E s)
    (hs : ∀ x, foldedSetIterable iter env x = pure x := by intro _; rfl) :
    wpAny (model prog w) A (eval (.ListComp elt [⟨.Name x px, iter, [ct], 0⟩] scope pos) env) Q E s := by
  rw [eval_ListComp]
  refine wpAny_comprehension_free (use := none) rfl hs hclos hkind hnames (wpAny_mono h (fun xv s₁ h₁ => ?_) fun _ _ e => e)
  obtain ⟨tx, t, news, rfl, hh, F, N, hsz, R⟩ := h₁
  cases ha : tx.cps.all (· < 128)
  · refine wpAny_pyIter_wide ha ?_
    refine block_T (Walks.strWide hh s₁.heap.objs.size tx t) hsz (fun i h st => by obtain ⟨o, e, _⟩ := st; exact ⟨o, e⟩) striter_st hcell hkind hx ⟨_, Heap.get?_push_size _ rfl, rfl, rfl⟩ (fun b hb => ?_)
      (F.keeps fun _ _ e => Heap.get?_push_of_some _ e) (N.grown fun _ _ e => Heap.get?_push_of_some _ e) (Nat.ne_of_lt F.ns.lt) (next_is_new F) (fun p hp => Nat.ne_of_lt (Heap.lt_size (N p hp).1)) trivial (R _ ⟨_, rfl⟩) ?_
    · rw [List.mem_singleton.mp hb]
      show s₁.heap.objs.size < (s₁.heap.push _).objs.size
      rw [Heap.size_push]; exact Nat.lt_succ_self _
    · intro D C h tk m' ys news' F' N' o1 hn hC₀ hD₀ hCL hDL hCD offC fin
      refine ⟨m', hn, fun h'' hs'' => fin D h'' tk (F'.change hs'' hCL hC₀) (fun p hp => ?_) o1⟩
      refine ⟨hs''.extBut _ _ ?_ (N' p hp).1, (N' p hp).2⟩
      rcases List.mem_cons.mp hp with rfl | hp
      · exact Ne.symm hCD
      · exact offC p hp
  · refine wpAny_pyIter_ascii ha ?_
    refine block_T (Walks.strAscii hh s₁.heap.objs.size tx t) hsz (fun i h st => by obtain ⟨o, e, _⟩ := st; exact ⟨o, e⟩) striter_st hcell hkind hx ⟨_, Heap.get?_push_size _ rfl, rfl, rfl⟩ (fun b hb => ?_)
      (F.keeps fun _ _ e => Heap.get?_push_of_some _ e) (N.grown fun _ _ e => Heap.get?_push_of_some _ e) (Nat.ne_of_lt F.ns.lt) (next_is_new F) (fun p hp => Nat.ne_of_lt (Heap.lt_size (N p hp).1)) trivial (R _ ⟨_, rfl⟩) ?_
    · rw [List.mem_singleton.mp hb]
      show s₁.heap.objs.size < (s₁.heap.push _).objs.size
      rw [Heap.size_push]; exact Nat.lt_succ_self _
    · intro D C h tk m' ys news' F' N' o1 hn hC₀ hD₀ hCL hDL hCD offC fin
      refine ⟨m', hn, fun h'' hs'' => fin D h'' tk (F'.change hs'' hCL hC₀) (fun p hp => ?_) o1⟩
      refine ⟨hs''.extBut _ _ ?_ (N' p hp).1, (N' p hp).2⟩
      rcases List.mem_cons.mp hp with rfl | hp
      · exact Ne.symm hCD
      · exact offC p hp
theorem bools_snoc {b : Bool} : ∀ {vs : List Value} {bs : List Bool}, LSm.BoolsAre vs bs → LSm.BoolsAre (vs ++ [.bool b]) (bs ++ [b])
  | _, _, .nil => .cons b .nil
  | _, _, .cons c r => .cons c (bools_snoc r)
theorem sign_take {tx : Str} {i : Nat} {c : Nat} (h : tx.cps[i]? = some c) : tx.cps.toList.take (i + 1) = tx.cps.toList.take i ++ [c] := by
  rw [List.take_add_one]
  have : tx.cps.toList[i]? = some c := by simpa using h
  rw [this]; rfl
theorem sign_all {tx : Str} : tx.cps.toList.take tx.cps.size = tx.cps.toList := by
  rw [← Array.length_toList]; exact List.take_length
/-- bools by the signs of a text -/
theorem signs_bool {elt : Expr} {x : Str} {scope : Scope} {cl : List (Str × Addr)} {Fin : List Value → List (Addr × Obj) → Prop} {tx : Str} {news : List (Addr × Obj)} (f : Nat → Bool)
    (turn : ∀ c u ys I oI C oC D m₂ h tk (E' : Value → Shared → Prop), NsObj oC m₂ → m₂ x = some (.str ⟨#[c]⟩ u) → Fr h₀ L h m → News h₀ L h ((I, oI) :: (C, oC) :: (D, lst ys) :: news) → Off3 I C D news → ((@Ne Nat I C) ∧ (@Ne Nat I D) ∧ (@Ne Nat C D)) →
      wpAny (model prog w) A (eval elt (compEnvC scope cl C env)) (CompTurn h₀ L m { s with heap := h, toks := tk } I oI C oC D (lst ys) (fun _ => True) (fun y nw' => nw' = news ∧ y = .bool (f c))) E' { s with heap := h, toks := tk })
    (fin : ∀ ys, LSm.BoolsAre ys (tx.cps.toList.map f) → Fin ys news) : CompRest prog w A h₀ L m env elt x scope cl s (fun _ => True) (SignAt tx) Fin tx.cps.size 0 [] news := by
  refine rest_inv (fun i ys nw => nw = news ∧ LSm.BoolsAre ys ((tx.cps.toList.take i).map f)) ⟨rfl, .nil⟩ ?_ ?_
  · rintro i ys nw v I oI C oC D m₂ h tk E' hi ⟨rfl, hb⟩ ⟨c, u, hc, rfl⟩ hC hx F N off ne
    refine wpAny_mono (turn c u ys I oI C oC D m₂ h tk E' hC hx F N off ne) (fun y s₂ hq => ?_) fun _ _ e => e
    obtain ⟨h', tk', nw', e, F', N', off', hS, hn, hy⟩ := hq
    subst hn hy
    refine ⟨h', tk', _, e, F', N', off', hS, rfl, ?_⟩
    rw [sign_take hc, List.map_append]
    exact bools_snoc hb
  · rintro ys nw ⟨rfl, hb⟩
    rw [sign_all] at hb
    exact fin ys hb
/-- the signs of a text that a test does not leave out -/
theorem signs_filter {ct elt : Expr} {x : Str} {scope : Scope} {cl : List (Str × Addr)} {Fin : List Value → List (Addr × Obj) → Prop} {tx : Str} {news : List (Addr × Obj)} (f : Nat → Bool) (hok : PyData.strOk tx = true)
    (turn : ∀ c u ys I oI C oC D m₂ h tk (E' : Value → Shared → Prop), NsObj oC m₂ → m₂ x = some (.str ⟨#[c]⟩ u) → Fr h₀ L h m → News h₀ L h ((I, oI) :: (C, oC) :: (D, lst ys) :: news) → Off3 I C D news → ((@Ne Nat I C) ∧ (@Ne Nat I D) ∧ (@Ne Nat C D)) →
      wpAny (model prog w) A (isTrue ct (compEnvC scope cl C env) (eval ct (compEnvC scope cl C env))) (fun ok s' => if ok = true then
        wpAny (model prog w) A (eval elt (compEnvC scope cl C env)) (CompTurn h₀ L m { s with heap := h, toks := tk } I oI C oC D (lst ys) (fun _ => True) (fun y nw' => nw' = news ∧ (∃ u, y = .str ⟨#[c]⟩ u) ∧ f c = false)) E' s'
        else CompTurn h₀ L m { s with heap := h, toks := tk } I oI C oC D (lst ys) (fun _ => True) (fun _ nw' => nw' = news ∧ f c = true) Value.none s') E' { s with heap := h, toks := tk })
    (fin : ∀ ys ds, DatAll [] ys ds → (∀ d ∈ ds, kqdOk 8 d = true) → (ds = [] ↔ tx.cps.toList.all f = true) → Fin ys news) : CompRestT prog w A h₀ L m env ct elt x scope cl s (fun _ => True) (SignAt tx) Fin tx.cps.size 0 [] news := by
  refine restT_inv (fun i ys nw => nw = news ∧ ∃ ds, DatAll [] ys ds ∧ (∀ d ∈ ds, kqdOk 8 d = true) ∧ (ds = [] ↔ (tx.cps.toList.take i).all f = true)) ⟨rfl, [], .nil, (fun _ h => nomatch h), by simp⟩ ?_ ?_
  · rintro i ys nw v I oI C oC D m₂ h tk E' hi ⟨rfl, ds, hd, hk, he⟩ ⟨c, u, hc, rfl⟩ hC hx F N off ne
    refine wpAny_mono (turn c u ys I oI C oC D m₂ h tk E' hC hx F N off ne) (fun ok s' hq => ?_) fun _ _ e => e
    cases ok with
    | true =>
      rw [if_pos rfl] at hq ⊢
      refine wpAny_mono hq (fun y s₂ hq => ?_) fun _ _ e => e
      obtain ⟨h', tk', nw', e, F', N', off', hS, hn, ⟨u', hy⟩, hf⟩ := hq
      subst hn hy
      refine ⟨h', tk', _, e, F', N', off', hS, rfl, ds ++ [.str ⟨#[c]⟩], hd.append (.one (.str _ _)), fun d hd' => ?_, ?_⟩
      · rcases List.mem_append.mp hd' with h1 | h1
        · exact hk d h1
        · rw [List.mem_singleton.mp h1]
          show PyData.strOk ⟨#[c]⟩ = true
          have hm : c ∈ tx.cps := Array.mem_of_getElem? hc
          have := (Array.all_eq_true_iff_forall_mem.mp hok) c hm
          simpa [PyData.strOk] using this
      · rw [sign_take hc, List.all_append]
        simp [hf]
    | false =>
      rw [if_neg (by decide)] at hq ⊢
      obtain ⟨h', tk', nw', e, F', N', off', hS, hn, hf⟩ := hq
      subst hn
      refine ⟨h', tk', _, e, F', N', off', hS, rfl, ds, hd, hk, ?_⟩
      rw [sign_take hc, List.all_append, he]
      simp [hf]
  · rintro ys nw ⟨rfl, ds, hd, hk, he⟩
    rw [sign_all] at he
    exact fin ys ds hd hk he
end
end Mine
namespace Mine
open PySem PySem.W PyProof.Rows PySem.Spec PySem.Calls
section
variable {prog : Program} {w : World} {A : Around} {E : Value → Shared → Prop} {s : Shared} {env : Env} {h₀ : Heap} {target : Expr} {body : List Stmt} {Q : Flow → Shared → Prop}
/-- a turn of a loop is through (the walk stops here) -/
def LoopTurn (h₀ : Heap) (L : Addr) (s₁ : Shared) (I : Addr) (o : Obj) (rest : (Str → Option Value) → List (Addr × Obj) → Prop) (Q : Flow → Shared → Prop) (f : Flow) (s₂ : Shared) : Prop :=
  UnrPostW h₀ L s₁ [(I, o)] rest Q f s₂
/-- what stands between two turns -/
def Between {σ : Type} (ps : σ → List (Str × Value)) (stored : List Str) (m₀ : Str → Option Value) (ax : Addr) (lo : Obj) (I : Addr) (Inv : σ → List (Addr × Obj) → Prop) (m : Str → Option Value) (nw : List (Addr × Obj)) : Prop :=
  (ax, lo) ∈ nw ∧ (∀ p ∈ nw, p.1 ≠ I) ∧ ∃ c, (∀ p ∈ ps c, m p.1 = some p.2) ∧ (∀ z, (∀ p ∈ ps c, z ≠ p.1) → stored.contains z = false → m z = m₀ z) ∧ Inv c nw
theorem LoopTurn.ret {L I : Addr} {s₁ : Shared} {o : Obj} {rest : (Str → Option Value) → List (Addr × Obj) → Prop} {v : Value} {s₂ : Shared} (h : Q (.ret v) s₂) : LoopTurn h₀ L s₁ I o rest Q (.ret v) s₂ := h
theorem between_fr {L : Addr} {h : Heap} {ps : List (Str × Value)} {stored : List Str} {m₀ m₁ : Str → Option Value} (h1 : ∀ p ∈ ps, m₁ p.1 = some p.2) (h2 : ∀ z, (∀ p ∈ ps, z ≠ p.1) → stored.contains z = false → m₁ z = m₀ z)
    (F : Fr h₀ L h m₁) : Fr h₀ L h (kstB (fun z => if stored.contains z then m₁ z else m₀ z) ps) := by
  have em : kstB (fun z => if stored.contains z then m₁ z else m₀ z) ps = m₁ := by
    funext y
    refine kstB_eq h1 fun hn => ?_
    by_cases hc : stored.contains y = true
    · rw [if_pos hc]
    · rw [if_neg hc]
      exact (h2 y hn (by simpa using hc)).symm
  rw [em]
  exact F
/-- a loop over a tuple of the ledger, by what holds between its turns -/
theorem loop_tup {σ : Type} {ax : Addr} {lo : Obj} {vs : List Value} {n : Nat} {m₀ : Str → Option Value} {news : List (Addr × Obj)} (ps : σ → List (Str × Value)) (stored : List Str) (Inv : Nat → σ → List (Addr × Obj) → Prop) (c₀ : σ)
    (hh : A.handled = none) (F : Fr h₀ env.locals s.heap m₀) (N : News h₀ env.locals s.heap news) (hm : (ax, lo) ∈ news) (hc : lo.cls = .type "tuple") (hd : lo.data = .seq vs.toArray n)
    (hk : ∀ p ∈ ps c₀, m₀ p.1 = some p.2) (h0 : Inv 0 c₀ news)
    (turn : ∀ i v c nw (u : Str → Option Value) I o h tk, vs[i]? = some v → Inv i c nw → (ax, lo) ∈ nw → (∀ p ∈ nw, p.1 ≠ I) → o.cls = .type "tuple_iterator" → Fr h₀ env.locals h (kstB (fun z => if stored.contains z then u z else m₀ z) (ps c)) → News h₀ env.locals h ((I, o) :: nw) →
      wpAny (model prog w) A (assign target env v) (fun _ s₂ => wpAny (model prog w) A (execs body env) (LoopTurn h₀ env.locals { s with heap := h, toks := tk } I o (Between ps stored m₀ ax lo I (Inv (i + 1))) Q) E s₂) E { s with heap := h, toks := tk })
    (done : ∀ c nw (u : Str → Option Value) h tk, Inv vs.length c nw → (ax, lo) ∈ nw → Fr h₀ env.locals h (kstB (fun z => if stored.contains z then u z else m₀ z) (ps c)) → News h₀ env.locals h nw → Q .next { s with heap := h, toks := tk }) :
    wpAny (model prog w) A (pyIter (.ref ax)) (fun it s₂ => TurnsAt prog w A h₀ env target body Q E it s₂) E s := by
  refine iter_tupTurns hh F N hm hc hd fun I hI => ?_
  have key : ∀ (xs : List Value) (i : Nat) (m : Str → Option Value) (nw : List (Addr × Obj)), vs.drop i = xs → i ≤ vs.length → Between ps stored m₀ ax lo I (Inv i) m nw →
      ItemsRest prog w A E h₀ env target body Q s [(I, "tuple_iterator")] [(ax, lo)] (xs.map .val) m nw := by
    intro xs
    induction xs with
    | nil =>
      intro i m nw hx hi hb
      obtain ⟨hax, hne, c, h1, h2, hv⟩ := hb
      have e : i = vs.length := by
        have := congrArg List.length hx
        rw [List.length_drop, List.length_nil] at this
        omega
      subst e
      exact ItemsRest.zero fun h tk F' N' => done c nw m h tk hv hax (between_fr h1 h2 F') N'
    | cons v r ih =>
      intro i m nw hx hi hb
      obtain ⟨hax, hne, c, h1, h2, hv⟩ := hb
      have hlt : i < vs.length := by
        have := congrArg List.length hx
        rw [List.length_drop, List.length_cons] at this
        omega
      have hvi : vs[i]? = some v := by
        rw [List.drop_eq_getElem_cons hlt] at hx
        rw [List.getElem?_eq_getElem hlt]
        exact congrArg some (List.cons.inj hx).1
      have hr : vs.drop (i + 1) = r := by
        rw [List.drop_eq_getElem_cons hlt] at hx
        exact (List.cons.inj hx).2
      refine ItemsRest.val fun h tk F' => AllObj.cons fun o ho => AllObj.nil fun N' => ?_
      refine wpAny_mono (turn i v c nw m I o h tk hvi hv hax hne ho (between_fr h1 h2 F') N') (fun _ s₂ q => wpAny_mono q (fun f s₃ p => ?_) fun _ _ e => e) fun _ _ e => e
      have fin : ∀ s₃, UnrEndW h₀ env.locals { s with heap := h, toks := tk } [(I, o)] (Between ps stored m₀ ax lo I (Inv (i + 1))) s₃ →
          UnrEndW h₀ env.locals { s with heap := h, toks := tk } [(I, o)] (fun m' n' => SubL [(ax, lo)] n' ∧ ItemsRest prog w A E h₀ env target body Q s [(I, "tuple_iterator")] [(ax, lo)] (r.map .val) m' n') s₃ := by
        rintro s₃ ⟨h', tk', m', nw', e, F₃, N₃, off, b⟩
        exact ⟨h', tk', m', nw', e, F₃, N₃, off, And.intro b.1 trivial, ih (i + 1) m' nw' hr hlt b⟩
      cases f with
      | ret v => exact p
      | brk => exact p
      | next => exact fin _ p
      | cont => exact fin _ p
  exact key vs 0 m₀ news (List.drop_zero) (Nat.zero_le _) ⟨hm, fun p hp => Nat.ne_of_lt (hI p hp), c₀, hk, fun _ _ _ => rfl, h0⟩
/-- between two turns the ledger is as it was, so are all names but the stored ones -/
def Still {σ : Type} (ps : σ → List (Str × Value)) (stored : List Str) (m₀ : Str → Option Value) (news : List (Addr × Obj)) (P : σ → Prop) (m : Str → Option Value) (nw : List (Addr × Obj)) : Prop :=
  nw = news ∧ ∃ c, (∀ p ∈ ps c, m p.1 = some p.2) ∧ (∀ z, (∀ p ∈ ps c, z ≠ p.1) → stored.contains z = false → m z = m₀ z) ∧ P c
theorem LoopTurn.still {σ : Type} {ps : σ → List (Str × Value)} {stored : List Str} {m₀ : Str → Option Value} {L I : Addr} {o : Obj} {news : List (Addr × Obj)} {P : σ → Prop} {s₁ : Shared} {h' : Heap} {tk : Nat} {m' : Str → Option Value} {all : List (Addr × Obj)} (c : σ)
    (F : Fr h₀ L h' m') (N : News h₀ L h' all) (hI : (I, o) ∈ all) (sub : ∀ p ∈ news, p ∈ all) (off : ∀ p ∈ news, p.1 ≠ I) (hk : ∀ p ∈ ps c, m' p.1 = some p.2) (hr : ∀ z, (∀ p ∈ ps c, z ≠ p.1) → stored.contains z = false → m' z = m₀ z) (hv : P c) :
    LoopTurn h₀ L s₁ I o (Still ps stored m₀ news P) Q .next { s₁ with heap := h', toks := tk } :=
  ⟨h', tk, m', news, rfl, F, fun p hp => by
    rcases List.mem_append.mp hp with hp | hp
    · rw [List.mem_singleton.mp hp]; exact N _ hI
    · exact N p (sub p hp), fun p hp q hq => by rw [List.mem_singleton.mp hq]; exact off p hp, rfl, c, hk, hr, hv⟩
theorem still_post {σ : Type} {ps : σ → List (Str × Value)} {stored : List Str} {m₀ : Str → Option Value} {L I ax : Addr} {lo : Obj} {o : Obj} {news : List (Addr × Obj)} {P : σ → Prop} {s₁ : Shared} {f : Flow} {s₂ : Shared} (hm : (ax, lo) ∈ news) (off : ∀ p ∈ news, p.1 ≠ I)
    (h : LoopTurn h₀ L s₁ I o (Still ps stored m₀ news P) Q f s₂) : LoopTurn h₀ L s₁ I o (Between ps stored m₀ ax lo I (fun c nw => nw = news ∧ P c)) Q f s₂ := by
  have key : UnrEndW h₀ L s₁ [(I, o)] (Still ps stored m₀ news P) s₂ → UnrEndW h₀ L s₁ [(I, o)] (Between ps stored m₀ ax lo I (fun c nw => nw = news ∧ P c)) s₂ := by
    rintro ⟨h', tk, m', nw', e, F, N, off', hn, c, h1, h2, h3⟩
    subst hn
    exact ⟨h', tk, m', nw', e, F, N, off', hm, off, c, h1, h2, rfl, h3⟩
  cases f with
  | ret v => exact h
  | brk => exact h
  | next => exact key h
  | cont => exact key h
/-- over a tuple of ints -/
theorem loop_tupI {σ : Type} {ax : Addr} {lo : Obj} {vs : List Value} {ns : List Int} {n : Nat} {m₀ : Str → Option Value} {news : List (Addr × Obj)} (ps : σ → List (Str × Value)) (stored : List Str) (P : List Int → σ → Prop) (c₀ : σ) (hi : IntsAre vs ns)
    (hh : A.handled = none) (F : Fr h₀ env.locals s.heap m₀) (N : News h₀ env.locals s.heap news) (hm : (ax, lo) ∈ news) (hc : lo.cls = .type "tuple") (hd : lo.data = .seq vs.toArray n)
    (hk : ∀ p ∈ ps c₀, m₀ p.1 = some p.2) (h0 : P [] c₀)
    (turn : ∀ pre k post t c (u : Str → Option Value) I o h tk, ns = pre ++ k :: post → P pre c → (∀ p ∈ news, p.1 ≠ I) → o.cls = .type "tuple_iterator" → Fr h₀ env.locals h (kstB (fun z => if stored.contains z then u z else m₀ z) (ps c)) → News h₀ env.locals h ((I, o) :: news) →
      wpAny (model prog w) A (assign target env (.int k t)) (fun _ s₂ => wpAny (model prog w) A (execs body env) (LoopTurn h₀ env.locals { s with heap := h, toks := tk } I o (Still ps stored m₀ news (P (pre ++ [k]))) Q) E s₂) E { s with heap := h, toks := tk })
    (done : ∀ c (u : Str → Option Value) h tk, P ns c → Fr h₀ env.locals h (kstB (fun z => if stored.contains z then u z else m₀ z) (ps c)) → News h₀ env.locals h news → Q .next { s with heap := h, toks := tk }) :
    wpAny (model prog w) A (pyIter (.ref ax)) (fun it s₂ => TurnsAt prog w A h₀ env target body Q E it s₂) E s := by
  have hl := hi.length
  refine loop_tup ps stored (fun i c nw => nw = news ∧ P (ns.take i) c) c₀ hh F N hm hc hd hk ⟨rfl, by simpa using h0⟩ ?_ ?_
  · rintro i v c nw u I o h tk hv ⟨rfl, hp⟩ hax hne ho F' N'
    obtain ⟨k, t, e, hkk⟩ := IntsAre.at hi i v hv
    subst e
    have hs : ns.take (i + 1) = ns.take i ++ [k] := by simp [List.take_add_one, hkk]
    have e : ns = ns.take i ++ k :: ns.drop (i + 1) := by
      have ht := List.take_append_drop (i + 1) ns
      rw [hs, List.append_assoc] at ht
      exact ht.symm
    rw [hs]
    exact wpAny_mono (turn _ k _ t c u I o h tk e hp hne ho F' N') (fun _ s₂ q => wpAny_mono q (fun f s₃ p => still_post hax hne p) fun _ _ e => e) fun _ _ e => e
  · rintro c nw u h tk ⟨rfl, hp⟩ hax F' N'
    rw [hl, List.take_length] at hp
    exact done c u h tk hp F' N'
end
end Mine
namespace Mine
open PySem PySem.W PyProof.Rows PySem.Spec PySem.Calls
section
variable {prog : Program} {w : World} {A : Around} {E : Value → Shared → Prop} {s : Shared} {env : Env} {h₀ : Heap} {x : Str} {px : Pos} {body : List Stmt} {Q : Flow → Shared → Prop}
end
end Mine
namespace Mine
open PySem PySem.W PyProof.Rows PySem.Spec PySem.Calls PyProof.Rows.LCg PyProof.Rows.LCt
section
variable {prog : Program} {w : World} {A : Around} {E : Value → Shared → Prop} {s : Shared} {h₀ : Heap} {L : Addr} {m : Str → Option Value} {env : Env}
/-- the source of a comprehension (the walk stops here) -/
def SrcU (prog : Program) (w : World) (A : Around) (h₀ : Heap) (L : Addr) (m : Str → Option Value) (env : Env) (elt : Expr) (x : Str) (scope : Scope) (cl : List (Str × Addr)) (Fin : Shared → List Value → List (Addr × Obj) → Prop) (xv : Value) (s₁ : Shared) : Prop :=
  CompSrc prog w A h₀ L m env elt x scope cl Fin xv s₁
theorem SrcU.range {elt : Expr} {x : Str} {scope : Scope} {cl : List (Str × Addr)} {Fin : Shared → List Value → List (Addr × Obj) → Prop} {r : Addr} {a b : Int} {t u v : Tok} {n : Nat} {news : List (Addr × Obj)} {s₁ : Shared}
    (hh : A.handled = none) (F : Fr h₀ L s₁.heap m) (N : News h₀ L s₁.heap news) (hr : IsRange s₁.heap r a b 1 t u v) (hsm : Builtin.Range.small a b 1 = true) (hn : Builtin.Range.rangeSize a b 1 = ((n : Nat) : Int)) (hsz : n ≤ sizeLine)
    (h : ∀ g, CompRest prog w A h₀ L m env elt x scope cl { s₁ with heap := g } (fun _ => True) (fun i v => ∃ t, v = .int (a + (i : Int)) t) (Fin { s₁ with heap := g }) n 0 [] news) :
    SrcU prog w A h₀ L m env elt x scope cl Fin (.ref r) s₁ := CompSrc.range hh F N hr hsm hn hsz h
theorem ListComp_V {elt iter : Expr} {x : Str} {px : Pos} {scope : Scope} {cl : List (Str × Addr)} {pos : Pos} {Q : Value → Shared → Prop} (F₀ : Fr h₀ L s.heap m)
    (hclos : closureFor scope env = pure cl) (hcell : ∀ y ∈ scope.names, y.2 ≠ .cell) (hkind : scope.kind = .function)
    (hnames : ∀ y ∈ scope.names, y.2 = .local → scope.names.lookup y.1 = some .local) (hx : scope.names.lookup x = some .local)
    (h : wpAny (model prog w) A (eval iter env) (SrcU prog w A h₀ L m env elt x scope cl (fun s₂ => FinE h₀ L m s₂ Q)) E s)
    (hs : ∀ x, foldedSetIterable iter env x = pure x := by intro _; rfl) :
    wpAny (model prog w) A (eval (.ListComp elt [⟨.Name x px, iter, [], 0⟩] scope pos) env) Q E s := ListComp_U F₀ hclos hcell hkind hnames hx h hs
end
end Mine
namespace Mine
open PySem PySem.W PyProof.Rows PySem.Spec PySem.Calls PyProof.Rows.LCg PyProof.Rows.LCt
section
variable {prog : Program} {w : World} {A : Around} {E : Value → Shared → Prop} {s : Shared} {h₀ : Heap} {L : Addr} {m : Str → Option Value} {env : Env}
def TupAt (ax : Addr) (its : Array Value) (nw : List (Addr × Obj)) : Prop := ∃ o, (ax, o) ∈ nw ∧ o.cls = .type "tuple" ∧ ∃ n, o.data = .seq its n
theorem TupAt.tup {h : Heap} {ax : Addr} {its : Array Value} {nw : List (Addr × Obj)} (x : TupAt ax its nw) (N : News h₀ L h nw) : h.IsTuple ax its := by
  obtain ⟨o, hm, hc, n, hd⟩ := x
  exact ⟨o, (N _ hm).1, hc, n, hd⟩
def SrcT (prog : Program) (w : World) (A : Around) (h₀ : Heap) (L : Addr) (m : Str → Option Value) (R : Shared → Addr → Array Value → List (Addr × Obj) → Prop) (xv : Value) (s₁ : Shared) : Prop :=
  ∃ ax its news, xv = .ref ax ∧ A.handled = none ∧ Fr h₀ L s₁.heap m ∧ News h₀ L s₁.heap news ∧ TupAt ax its news ∧ its.size ≤ sizeLine ∧ ∀ s₂ : Shared, (∃ h, s₂ = { s₁ with heap := h }) → R s₂ ax its news
theorem SrcT.intro {R : Shared → Addr → Array Value → List (Addr × Obj) → Prop} {ax : Addr} {its : Array Value} {k : Nat} {s₁ : Shared} {news : List (Addr × Obj)} (hh : A.handled = none) (F : Fr h₀ L s₁.heap m) (N : News h₀ L s₁.heap news) (hm : (ax, ({ cls := .type "tuple", data := .seq its k } : Obj)) ∈ news) (hsz : its.size ≤ sizeLine) (h : ∀ g, R { s₁ with heap := g } ax its news) : SrcT prog w A h₀ L m R (.ref ax) s₁ :=
  ⟨ax, its, news, rfl, hh, F, N, ⟨_, hm, rfl, _, rfl⟩, hsz, fun _ ⟨g, e⟩ => e ▸ h g⟩
theorem tupiter_st {ax I : Addr} {its : Array Value} : ∀ i (h h' : Heap) (o : Obj) (nw : List (Addr × Obj)), (h.IsTupleIter I ax i ∧ h.IsTuple ax its) → h.get? I = some o → h'.get? I = some o → (∀ b o, h₀.get? b = some o → h'.get? b = some o) → News h₀ L h' nw → TupAt ax its nw → (h'.IsTupleIter I ax i ∧ h'.IsTuple ax its) :=
  fun i h h' o nw st e e' k N S => ⟨by obtain ⟨o', q, r⟩ := st.1; rw [e] at q; cases q; exact ⟨o, e', r⟩, S.tup N⟩
/-- a comprehension over a tuple -/
theorem ListComp_Tu {elt iter : Expr} {x : Str} {px : Pos} {scope : Scope} {cl : List (Str × Addr)} {pos : Pos} {Q : Value → Shared → Prop} (_F₀ : Fr h₀ L s.heap m)
    (hclos : closureFor scope env = pure cl) (hcell : ∀ y ∈ scope.names, y.2 ≠ .cell) (hkind : scope.kind = .function)
    (hnames : ∀ y ∈ scope.names, y.2 = .local → scope.names.lookup y.1 = some .local) (hx : scope.names.lookup x = some .local)
    (h : wpAny (model prog w) A (eval iter env) (SrcT prog w A h₀ L m (fun s₂ ax its news => CompRest prog w A h₀ L m env elt x scope cl s₂ (TupAt ax its) (fun i v => its[i]? = some v) (FinE h₀ L m s₂ Q) its.size 0 [] news)) E s)
    (hs : ∀ x, foldedSetIterable iter env x = pure x := by intro _; rfl) :
    wpAny (model prog w) A (eval (.ListComp elt [⟨.Name x px, iter, [], 0⟩] scope pos) env) Q E s := by
  rw [eval_ListComp]
  refine wpAny_comprehension_free (use := none) rfl hs hclos hkind hnames (wpAny_mono h (fun xv s₁ h₁ => ?_) fun _ _ e => e)
  obtain ⟨ax, its, news, rfl, hh, F, N, S, hsz, R⟩ := h₁
  have hl := S.tup N
  have hlt : ax < s₁.heap.objs.size := by obtain ⟨_, e, _⟩ := hl; exact Heap.lt_size e
  refine wpAny_pyIter_tuple hl ?_
  have up : ∀ b o, s₁.heap.get? b = some o → (s₁.heap.push { cls := .type "tuple_iterator", data := .fields #[.ref ax, .int 0 0] }).get? b = some o := fun b o e => Heap.get?_push_of_some _ e
  refine block_U (Walks.tuple hh s₁.heap.objs.size ax (Nat.ne_of_lt hlt) its) hsz (fun i h st => by obtain ⟨o, e, _⟩ := st.1; exact ⟨o, e⟩) tupiter_st hcell hkind hx ⟨⟨_, Heap.get?_push_size _ rfl, rfl, rfl⟩, hl.at fun o e => Heap.get?_push_of_some _ e⟩ (fun b hb => ?_)
    (F.keeps up) (N.grown up) (Nat.ne_of_lt F.ns.lt) (next_is_new F) (fun p hp => Nat.ne_of_lt (Heap.lt_size (N p hp).1)) S (R _ ⟨_, rfl⟩) ?_
  · show b < (s₁.heap.push _).objs.size
    rw [Heap.size_push]
    rcases List.mem_cons.mp hb with rfl | hb
    · exact Nat.lt_succ_self _
    · rw [List.mem_singleton.mp hb]; exact Nat.lt_succ_of_lt hlt
  · intro D C h tk m' ys news' F' N' o1 hn hC₀ hD₀ hCL hDL hCD offC fin
    refine ⟨m', hn, fun h'' hs'' => fin D h'' tk (F'.change hs'' hCL hC₀) (fun p hp => ?_) o1⟩
    refine ⟨hs''.extBut _ _ ?_ (N' p hp).1, (N' p hp).2⟩
    rcases List.mem_cons.mp hp with rfl | hp
    · exact Ne.symm hCD
    · exact offC p hp
/-- bools by the ints of a tuple -/
theorem tup_bool {elt : Expr} {x : Str} {scope : Scope} {cl : List (Str × Addr)} {Fin : List Value → List (Addr × Obj) → Prop} {S : List (Addr × Obj) → Prop} {vs : List Value} {ns : List Int} {news : List (Addr × Obj)} (f : Int → Bool) (hi : IntsAre vs ns) (hS : S news)
    (turn : ∀ k u ys I oI C oC D m₂ h tk (E' : Value → Shared → Prop), NsObj oC m₂ → m₂ x = some (.int k u) → Fr h₀ L h m → News h₀ L h ((I, oI) :: (C, oC) :: (D, lst ys) :: news) → Off3 I C D news → ((@Ne Nat I C) ∧ (@Ne Nat I D) ∧ (@Ne Nat C D)) →
      wpAny (model prog w) A (eval elt (compEnvC scope cl C env)) (CompTurn h₀ L m { s with heap := h, toks := tk } I oI C oC D (lst ys) (fun _ => True) (fun y nw' => nw' = news ∧ y = .bool (f k))) E' { s with heap := h, toks := tk })
    (fin : ∀ ys, LSm.BoolsAre ys (ns.map f) → Fin ys news) : CompRest prog w A h₀ L m env elt x scope cl s S (fun i v => vs.toArray[i]? = some v) Fin vs.toArray.size 0 [] news := by
  have hl := hi.length
  refine rest_inv (fun i ys nw => nw = news ∧ LSm.BoolsAre ys ((ns.take i).map f)) ⟨rfl, .nil⟩ ?_ ?_
  · rintro i ys nw v I oI C oC D m₂ h tk E' hlt ⟨rfl, hb⟩ hv hC hx F N off ne
    obtain ⟨k, u, e, hk⟩ := IntsAre.at hi i v (by simpa using hv)
    subst e
    refine wpAny_mono (turn k u ys I oI C oC D m₂ h tk E' hC hx F N off ne) (fun y s₂ hq => ?_) fun _ _ e => e
    obtain ⟨h', tk', nw', e, F', N', off', _, hn, hy⟩ := hq
    subst hn hy
    refine ⟨h', tk', _, e, F', N', off', hS, rfl, ?_⟩
    rw [show ns.take (i + 1) = ns.take i ++ [k] by simp [List.take_add_one, hk], List.map_append]
    exact bools_snoc hb
  · rintro ys nw ⟨rfl, hb⟩
    rw [List.size_toArray, hl, List.take_length] at hb
    exact fin ys hb
end
end Mine
namespace Mine
theorem c_within (w : World) (mean : ExcName → Option Value) (mg mb : Str → Option Value) (x l m : Int) (tx tl tm : Tok) : Con w mean mg mb 154 1 [.int x tx, .int l tl, .int m tm] True (fun _ => .bool (within x l m)) := by
  unfold Con Ct
  k_fill
  w_top off
  intro dp un gd cn cs a ccd cl outer A₀ base h₀ L m news s Q E B F X N T hk hd hu hret
  refine wpAny_call ?_
  k_dflt cell_enter
  k_with_none
  k_steps
  all_goals (refine' ct_retB hret trivial ?e2 ?e3 ?e4; (case e3 => k_asm); (case e4 => first | k_asm | (refine' cb_drop ?cbN ?cbS; (case cbN => assumption); (case cbS => kcj_all))); (case e2 => (first | rfl | (unfold Mine.within; rw [Bool.eq_iff_iff]; simp; omega) | (rw [Bool.eq_iff_iff]; simp; omega))))
end Mine
local macro_rules | `(tactic| lsm_bools) => `(tactic| assumption)
namespace Mine
theorem c_isname (w : World) (mean : ExcName → Option Value) (mg mb : Str → Option Value) (x : Str) (tx : Tok) (hx : x.length ≤ 100000 := by first | trivial | ((try dsimp only); first | assumption | omega | l_fact)) : Con w mean mg mb 159 1 [.str x tx] True (fun _ => .bool (nameOk x)) := by
  unfold Con Ct
  k_fill
  w_top off
  intro dp un gd cn cs a ccd cl outer A₀ base h₀ L m news s Q E B F X N T hk hd hu hret
  refine wpAny_call ?_
  k_dflt cell_enter
  k_with_none
  k_with "eval ListComp" => (k_here; k_dflt (refine Mine.ListComp_S (by k_asm) (by with_unfolding_all rfl) (by decide) (by rfl) (by decide) (by rfl) ?_))
  k_with "SrcS" => (k_dflt (refine Mine.SrcS.intro (by rfl) (by k_asm) (by k_asm) (by rw [sizeLine_eq]; omega) ?_); intro g9; refine Mine.signs_bool (Mine.inT Mine.SMALL) ?_ ?_)
  k_steps
  all_goals first | (refine' CompTurn.intro ?cF ?cN news ?cS ?cO trivial ?cR; (case cF => k_asm); (case cN => k_asm); (case cR => exact ⟨rfl, rfl⟩); (case cS => first | exact fun _ h => h | kst_inAny); (case cO => assumption)) | (refine' ct_retB hret trivial ?e2 ?e3 ?e4; (case e3 => k_asm); (case e4 => first | k_asm | (refine' cb_drop ?cbN ?cbS; (case cbN => assumption); (case cbS => kcj_all))); (case e2 => (unfold nameOk; first | (rw [decide_eq_true (show 1 ≤ x.length by omega), decide_eq_true (show x.length ≤ 12 by omega)]; rfl) | (rw [decide_eq_false (show ¬ 1 ≤ x.length by omega)]; rfl) | (rw [decide_eq_false (show ¬ x.length ≤ 12 by omega)]; simp))))
end Mine
namespace Mine
def InAll (l : List Int) : Prop := ∀ k ∈ l, 0 ≤ k ∧ k ≤ 1000000000000
theorem inAll_snoc {l : List Int} {k : Int} (h : InAll l) (hk : 0 ≤ k ∧ k ≤ 1000000000000) : InAll (l ++ [k]) := fun j hj => by
  rcases List.mem_append.mp hj with hj | hj
  · exact h j hj
  · rw [List.mem_singleton.mp hj]; exact hk
theorem inAll_four {a b c d : Int} (h : InAll [a, b, c, d]) : (0 ≤ a ∧ a ≤ 1000000000000) ∧ (0 ≤ b ∧ b ≤ 1000000000000) ∧ (0 ≤ c ∧ c ≤ 1000000000000) ∧ (0 ≤ d ∧ d ≤ 1000000000000) :=
  ⟨h a (by simp), h b (by simp), h c (by simp), h d (by simp)⟩
theorem bad_four {a b c d k : Int} {pre post : List Int} (e : [a, b, c, d] = pre ++ k :: post) (hk : k < 0 ∨ 1000000000000 < k) : a < 0 ∨ 1000000000000 < a ∨ b < 0 ∨ 1000000000000 < b ∨ c < 0 ∨ 1000000000000 < c ∨ d < 0 ∨ 1000000000000 < d ∨ b < a ∨ d < c := by
  have hm : k ∈ [a, b, c, d] := by rw [e]; simp
  simp only [List.mem_cons, List.not_mem_nil, or_false] at hm
  omega
end Mine
section
local macro_rules | `(tactic| k_mem) => `(tactic| assumption)
namespace Mine
theorem c_due (w : World) (mean : ExcName → Option Value) (mg mb : Str → Option Value) (S : Addr) (x : Str) (a b c d : Int) (tx ta tb tc td : Tok) (cc : Nat) (hx : x.length ≤ 26) (hok : PyData.strOk x = true) :
    Cv PySem.Challenge.rw_uf050027_02.row.prog w (hd02.heap_39 w.params) hd02.view_39 (looseW hd02.view_39 []) mean mg mb 218 12 [.ref S] (fun news => (S, ({ cls := .type "tuple", data := .seq #[.str x tx, .int a ta, .int b tb, .int c tc, .int d td] cc } : Obj)) ∈ news) (fun r => ∃ t, r = .str (dueT x a b c d) t) := by
  unfold Cv
  k_fill
  w_top off
  intro dp un gd cn cs a ccd cl outer A₀ base h₀ L m news s Q E B F X N T hk hd hu hP hret
  refine wpAny_call ?_
  k_dflt cell_enter
  k_with_none
  k_with "eval ListComp" => (k_here; k_dflt (refine Mine.ListComp_ST (by k_asm) (by with_unfolding_all rfl) (by decide) (by rfl) (by decide) (by rfl) ?_))
  k_with "SrcS" => (k_dflt (refine Mine.SrcS.intro (by rfl) (by k_asm) (by k_asm) (by rw [sizeLine_eq]; omega) ?_); intro g9; refine Mine.signs_filter (Mine.inT Mine.SMALL) (by assumption) ?_ ?_)
  k_with "compareOp NotEq ref ref" => (k_here; (with_reducible show wpAny _ _ (compareOp CmpOp.NotEq (Value.ref _) (Value.ref _)) _ _ _); k_dflt (refine' Mine.ne_nil ?N ?a ?b ?c ?d ?f ?g ?i ?l ?n ?_; (case N => k_asm); (case a => k_mem); (case b => rfl); (case c => rfl); (case d => with_reducible assumption); (case f => k_mem); (case g => rfl); (case i => rfl); (case l => assumption); (case n => first | ke_room | ((simp only [units_in1, units_deeper, Around.mark_units, cLine] at *); omega) | (show _ + 64 < _; omega)); k_whole))
  k_with "subscriptTail Name Slice ref ref" => (k_here; (with_reducible show wpAny _ _ (subscriptTail _ (PySem.Expr.Slice _ none none _) (Value.ref _) (Value.ref _)) _ _ _); k_dflt (refine' Mine.tup_from1 ?F ?N ?m ?_ ?s ?g; (case F => k_asm); (case N => k_asm); (case m => k_mem); (case s => with_unfolding_all rfl); (case g => (intro _; with_unfolding_all rfl))); intro D' h' F' N' l1; (try k_lt l1))
  k_with "exec For Name Subscript cons nil" => (k_here; (rename Fr _ _ _ _ => lF'); (with_unfolding_all refine' For_turns lF' ?_; k_whole))
  k_with "binaryOp Pow int int" => (k_here; (first | (with_reducible refine Mine.pow24 ?_) | (with_reducible refine Mine.pow12 ?_)))
  k_with "pyIter ref" => (k_here; (with_reducible show wpAny _ _ (pyIter (Value.ref _)) (fun it s₂ => TurnsAt _ _ _ _ _ _ _ _ _ it s₂) _ _); (rename Fr _ _ _ _ => lF'); (rename News _ _ _ _ => lN'); k_dflt (refine' Mine.loop_tupI (σ := Unit) (fun _ => []) [Str.ofString "_law_number"] (fun pre _ => Mine.InAll pre) () (IntsAre.cons _ _ (IntsAre.cons _ _ (IntsAre.cons _ _ (IntsAre.cons _ _ IntsAre.nil)))) (by rfl) lF' lN' (by k_mem) rfl rfl (List.forall_mem_nil _) (fun _ h => nomatch h) ?_ ?_); (all_goals (try clear lF' lN')))
  k_with "LoopTurn" => (with_reducible refine Mine.LoopTurn.ret ?_)
  k_steps
  k_with_none
  all_goals first | (refine' hret _ _ _ ⟨_, congrArg (fun y => Value.str y _) ?q1⟩ ?q2 ?q3; (case q2 => k_asm); (case q3 => first | k_asm | (refine' cb_drop ?cbN ?cbS; (case cbN => assumption); (case cbS => kcj_all))); (case q1 => (first | exact dueT_name (nameOk_len (by omega)) | exact dueT_name (nameOk_sign (by assumption) (by assumption)) | exact dueT_l (nameOk_yes (by omega) (by omega) (by assumption) (by assumption)) (bad_four (by assumption) (by omega)) | exact dueT_l (nameOk_yes (by omega) (by omega) (by assumption) (by assumption)) (by omega) | exact dueT_e (nameOk_yes (by omega) (by omega) (by assumption) (by assumption)) (by have h9 := inAll_four (by assumption); omega)))) | (refine' CompTurn.intro ?cF ?cN news ?cS ?cO trivial ?cR; (case cF => k_asm); (case cN => k_asm); (case cR => (first | exact ⟨rfl, ⟨_, rfl⟩, inT_no (by assumption)⟩ | exact ⟨rfl, inT_yes (by assumption)⟩)); (case cS => first | exact fun _ h => h | kst_inAny); (case cO => assumption)) | (refine' LoopTurn.still () ?lF ?lN ?lI ?lS ?lO ?lK ?lR ?lP; (case lF => k_asm); (case lN => k_asm); (case lI => first | exact List.Mem.head _ | k_mem); (case lS => first | exact fun p hp => List.Mem.tail _ hp | kst_inAny); (case lO => assumption); (case lK => exact List.forall_mem_nil _); (case lR => (intro z h2 h3; (simp only [List.contains_cons, List.contains_nil, Bool.or_false, Bool.or_eq_false_iff, beq_eq_false_iff_ne, ne_eq] at h3); first | (simp [h3, kstB]; done))); (case lP => exact inAll_snoc (by assumption) (by omega)))

end Mine
end
namespace Mine
section
open PySem PySem.W PyProof.Rows PySem.Spec PySem.Calls
/-- an exception's object: its class is known, its dict is not asked -/
def ExcAt (x D : Addr) (h : Heap) : Prop := ∃ ox : Obj, h.get? x = some ox ∧ ox.cls = .ref D
theorem ExcAt.type {x D : Addr} {M : Model} {h : Heap} (I : ExcAt x D h) : Looks M h (typeOf (.ref x)) (.ref D) := by
  obtain ⟨ox, hx, hc⟩ := I
  exact hc ▸ (Looks.ld hx).andThen .now
variable {prog : Program} {w : World} {A : Around} {E : Value → Shared → Prop} {s : Shared} {K : Frag} {x D : Addr}
theorem exc_find {M : Model} {h : Heap} (X : K.In h) (ha : findIn K (.ref D) "__class__" = some (some (.builtin "object.__class__"))) (hn : specialIn K (.builtin "object.__class__") "__get__" = some (some (.builtin "getset_descriptor.__get__")))
    (htk : takesIn K (.builtin "object.__class__") = some true) : Looks M h (Builtin.ObjectAttr.find (.ref x) (.ref D) "__class__") (.bind (.builtin "getset_descriptor.__get__") (.builtin "object.__class__")) := by
  have L1 := looks_findIn (M := M) X ha
  have L2 : Looks M h (Builtin.ObjectAttr.getOf (some (.builtin "object.__class__"))) (some (.builtin "getset_descriptor.__get__")) := looks_specialIn X hn
  have L3 := looks_takesIn (M := M) X htk
  exact L1.andThen (L2.andThen ((show Looks M h (Builtin.ObjectAttr.dataDescriptor? (some (.builtin "object.__class__")) (some (.builtin "getset_descriptor.__get__"))) (some (.builtin "getset_descriptor.__get__", .builtin "object.__class__")) from L3.andThen .now).andThen (Looks.tag .now)))
theorem exc_classGet {R : Result → Shared → Prop} {tp : Value} (X : K.In s.heap) (I : ExcAt x D s.heap) (hm : mroIn K D (.type "object") = some true)
    (h : R (.ok (.ret (.ref D))) s) : codeAny (model prog w) A (.call (.builtin "getset_descriptor.__get__") ⟨[.builtin "object.__class__", .ref x, tp], []⟩) R s := by
  obtain ⟨hh, g, dr, t, os⟩ := s
  have L0 := I.type (M := model prog w)
  have L1 := looks_mroIn (M := model prog w) X hm
  refine codeAny_call_builtin KF.slot_gs.plain KF.entry_gs (KF.slot_gs.check _ _ _ _ _ _ _ _ KF.type_class (KF.args_gs _ _ _) ?_)
  unfold Builtin.«getset_descriptor.__get__» Builtin.Getset_descriptor.descrGet
  rw [dga_obj]
  refine wpAny_bind (wpAny_pure ?_)
  unfold Builtin.Getset_descriptor.descrGetter Builtin.Getset_descriptor.descrCheckInstance Builtin.Getset_descriptor.descrNameAndClass isInstance
  simp only [KF.owner_class]
  repeat lk
  refine ⟨Code.quiet_builtin _ (by decide +kernel), codeAny_builtin KF.entry_class ?_⟩
  unfold Builtin.«object.__class__» shownTypeOf
  repeat lk
  exact h
theorem exc_entry {tk : Tok} {Q : Fin → Shared → Prop} (X : K.In s.heap) (I : ExcAt x D s.heap)
    (ha : findIn K (.ref D) "__class__" = some (some (.builtin "object.__class__"))) (hn : specialIn K (.builtin "object.__class__") "__get__" = some (some (.builtin "getset_descriptor.__get__"))) (htk : takesIn K (.builtin "object.__class__") = some true)
    (hm : mroIn K D (.type "object") = some true) (h : Q (.done (.ret (.ref D))) s) :
    wpAny (model prog w) A (Builtin.«object.__getattribute__» ⟨[.ref x, .str "__class__" tk], []⟩) Q E s := by
  obtain ⟨hh, g, d, t, os⟩ := s
  have L0 := I.type (M := model prog w)
  have L1 := exc_find (x := x) (M := model prog w) X ha hn htk
  unfold Builtin.«object.__getattribute__»
  repeat lk
  show wpAny _ _ (run (.call (.builtin "getset_descriptor.__get__") ⟨[.builtin "object.__class__", .ref x, .ref D], []⟩)) _ _ _
  refine wpAny_run (exc_classGet X I hm ?_)
  show wpAny _ _ (pure (Value.ref D)) _ _ _
  exact wpAny_pure (wpAny_pure h)
theorem exc_check {tk : Tok} {Q : Unit → Shared → Prop} (X : K.In s.heap) (I : ExcAt x D s.heap) (hb : mroIn K D (.type "BaseException") = some true) (h : Q () s) :
    wpAny (model prog w) A (checkBuiltinCall "BaseException.__getattribute__" ⟨[.ref x, .str "__class__" tk], []⟩) Q E s := by
  obtain ⟨hh, g, d, t, os⟩ := s
  have L0 := I.type (M := model prog w)
  have L1 := looks_mroIn (M := model prog w) X hb
  have hk : builtinKind "BaseException.__getattribute__" = some .slot := by decide +kernel
  have hsplit : splitId "BaseException.__getattribute__" = some ("BaseException", "__getattribute__") := by decide +kernel
  have ha := F.args_bexc_ga (.ref x) (.str "__class__" tk)
  simp only [checkBuiltinCall, hk, hsplit]
  unfold isInstance
  repeat lk
  exact h
theorem exc_class {Q : Option Value → Shared → Prop} (X : K.In s.heap) (I : ExcAt x D s.heap) (hga : findIn K (.ref D) "__getattribute__" = some (some (.builtin "BaseException.__getattribute__"))) (hgt : findIn K (.ref D) "__getattr__" = some none)
    (ha : findIn K (.ref D) "__class__" = some (some (.builtin "object.__class__"))) (hn : specialIn K (.builtin "object.__class__") "__get__" = some (some (.builtin "getset_descriptor.__get__"))) (htk : takesIn K (.builtin "object.__class__") = some true)
    (hm : mroIn K D (.type "object") = some true) (hb : mroIn K D (.type "BaseException") = some true)
    (h : Q (some (.ref D)) { s with toks := s.toks + 1 }) : wpAny (model prog w) A (getAttr? (.ref x) "__class__") Q E s := by
  obtain ⟨hh, g, d, t, os⟩ := s
  have L0 := I.type (M := model prog w)
  have L1 := looks_findIn (M := model prog w) X hga
  have L2 := looks_findIn (M := model prog w) X hgt
  unfold getAttr? getAttrBy? getAttrBy
  refine wpAny_bind (wpAny_mkText (wpAny_bind (wpAny_attempt (wpAny_holding (wpAny_bind (L0.at (wpAny_bind (L1.at ?_))))))))
  show wpAny _ _ (getAttrByItsOwn _ _ _ _ _ _) _ _ _
  unfold getAttrByItsOwn hookBefore
  refine wpAny_bind (L2.at (wpAny_bind (wpAny_attempt (wpAny_holding ?_))))
  show wpAny _ _ (boundAndCalled _ _ _) _ _ _
  unfold boundAndCalled
  have hbs : bindSpecial (.builtin "BaseException.__getattribute__") (.ref x) = pure (.builtin "BaseException.__getattribute__", [.ref x]) := by
    have hop : withoutEnding? "BaseException.__getattribute__" "#opaque" = none := by decide +kernel
    have hdat : withoutEnding? "BaseException.__getattribute__" "#data" = none := by decide +kernel
    have hk : builtinKind "BaseException.__getattribute__" = some .slot := by decide +kernel
    simp only [bindSpecial, typeOf, builtinType, hop, hdat, hk]; rfl
  rw [hbs]
  have hpl : plainId "BaseException.__getattribute__" = true := by decide +kernel
  refine wpAny_bind (wpAny_pure (wpAny_call (codeAny_call_builtin hpl F.entry_bexc_ga (exc_check (s := ⟨hh, g, d, t + 1, os⟩) X I hb (exc_entry (s := ⟨hh, g, d, t + 1, os⟩) X I ha hn htk hm ?_)))))
  show wpAny _ _ (handedOut (Value.ref D)) _ _ _
  exact handed_on rfl (wpAny_pure h)
theorem exc_kit (hga : findIn K (.ref D) "__getattribute__" = some (some (.builtin "BaseException.__getattribute__"))) (hgt : findIn K (.ref D) "__getattr__" = some none)
    (ha : findIn K (.ref D) "__class__" = some (some (.builtin "object.__class__"))) (hn : specialIn K (.builtin "object.__class__") "__get__" = some (some (.builtin "getset_descriptor.__get__"))) (htk : takesIn K (.builtin "object.__class__") = some true)
    (hcl : isClsIn K D = true) (hm : mroIn K D (.type "object") = some true) (hb : mroIn K D (.type "BaseException") = some true) :
    KitX K (.ref x) (.ref D) (ExcAt x D) where
  ty := fun M h X I => I.type
  it := fun M h X _ => by
    unfold isClsIn at hcl
    unfold clsIn at hcl
    split at hcl
    · rename_i c' d' cd' sl' ho
      intro A' Q' E' s' k q
      unfold isType loadHead
      exact wpAny_bind (wpAny_loadPart (k _ _ (X _ _ ho)) (wpAny_pure q))
    · cases hcl
  ne := fun h tp dd its n sl X htp => by
    unfold isClsIn at hcl
    unfold clsIn at hcl
    split at hcl
    · rename_i c' d' cd' sl' ho
      refine Bool.eq_false_iff.mpr fun q => ?_
      have e := Value.ref.inj (beq_iff_eq.mp q)
      have := X _ _ ho
      rw [e, htp] at this
      cases this
    · cases hcl
  ca := fun {_ _ _ _ _ s} X I h => exc_class X I hga hgt ha hn htk hm hb h
/-- isinstance of an exception that the ledger holds -/
theorem exc_isi {Q : Value → Shared → Prop} {c : Value} {b : Bool} {h₀ : Heap} {L : Addr} {news : List (Addr × Obj)} {oe : Obj} (N : News h₀ L s.heap news) (he : (x, oe) ∈ news) (hc : oe.cls = .ref D) (X : K.In s.heap)
    (hga : findIn K (.ref D) "__getattribute__" = some (some (.builtin "BaseException.__getattribute__"))) (hgt : findIn K (.ref D) "__getattr__" = some none)
    (ha : findIn K (.ref D) "__class__" = some (some (.builtin "object.__class__"))) (hn : specialIn K (.builtin "object.__class__") "__get__" = some (some (.builtin "getset_descriptor.__get__"))) (htk : takesIn K (.builtin "object.__class__") = some true)
    (hcl : isClsIn K D = true) (hm : mroIn K D (.type "object") = some true) (hb : mroIn K D (.type "BaseException") = some true) (ee : kitOne K (.ref D) c = some b) (h : ∀ tk, Q (.bool b) { s with toks := tk }) :
    wpAny (model prog w) A (call (.builtin "isinstance") [.ref x, c]) Q E s :=
  kia_one (exc_kit hga hgt ha hn htk hcl hm hb) X ⟨oe, (N _ he).1, hc⟩ ee (by intro q; cases q) h
end
end Mine
namespace Mine
open PySem PySem.W PyProof.Rows
/-- as Ct, with a fact of the ledger ahead -/
def Ck (prog : Program) (w : World) (K : Frag) (p : Program) (loose : List Str) (mean : ExcName → Option Value) (mg mb : Str → Option Value) (f : Addr) (sz : Nat) (vs : List Value) (P : List (Addr × Obj) → Prop) (R : Tok → Value) : Prop :=
  ∀ (hdl : Option Value) (dp un : Nat) (gd : Option (List Code)) (cn : Str) (cs : Scope) (a : Addr) (ccd : Value) (cl : List (Str × Addr)) (outer : List Env) (A₀ : Around) (base h₀ : Heap) (L : Addr) (m : Str → Option Value) (news : List (Addr × Obj)) (s : Shared) (Q E : Value → Shared → Prop),
    Below A₀ base outer h₀ → Fr h₀ L s.heap m → K.In h₀ → News h₀ L s.heap news → Top p loose mean mg mb h₀ → cs.kind = .function → dp + sz < recursionLimit → un + 8 * sz < cLine → P news →
    (∀ (t : Tok) (h' : Heap) (tk' : Nat), Fr h₀ L h' m → News h₀ L h' news → Q (R t) { s with heap := h', toks := tk' }) →
    wpAny (model prog w) { ktrTop dp un gd cn cs L a ccd cl outer with handled := hdl } (call (.ref f) vs) Q E s
theorem Ck.use {prog : Program} {w : World} {K : Frag} {p : Program} {loose : List Str} {mean : ExcName → Option Value} {mg mb : Str → Option Value} {f : Addr} {sz : Nat} {vs : List Value} {P : List (Addr × Obj) → Prop} {R : Tok → Value} (C : Ck prog w K p loose mean mg mb f sz vs P R)
    {hdl : Option Value} {dp un : Nat} {gd : Option (List Code)} {cn : Str} {cs : Scope} {a : Addr} {ccd : Value} {cl : List (Str × Addr)} {outer : List Env} {A₀ : Around} {base h₀ : Heap} {L : Addr} {m : Str → Option Value} {news : List (Addr × Obj)} {s : Shared} {Q E : Value → Shared → Prop}
    (B : Below A₀ base outer h₀ := by k_asm) (F : Fr h₀ L s.heap m := by k_asm) (X : K.In h₀ := by k_asm) (N : News h₀ L s.heap news := by k_asm) (T : Top p loose mean mg mb h₀ := by k_asm) (hk : cs.kind = .function := by first | exact rfl | assumption) (hd : dp + sz < recursionLimit := by first | assumption | omega | ktr_room) (hu : un + 8 * sz < cLine := by first | assumption | omega | ktr_units) (hp : P news := by first | trivial | k_mem)
    (ret : ∀ (t : Tok) (h' : Heap) (tk' : Nat), Fr h₀ L h' m → News h₀ L h' news → Q (R t) { s with heap := h', toks := tk' }) :
    wpAny (model prog w) { ktrTop dp un gd cn cs L a ccd cl outer with handled := hdl } (call (.ref f) vs) Q E s := C _ _ _ _ _ _ _ _ _ _ _ _ _ _ _ _ _ _ _ B F X N T hk hd hu hp ret
theorem ck_retS {h₀ h' : Heap} {L : Addr} {m : Str → Option Value} {news : List (Addr × Obj)} {s : Shared} {Q : Value → Shared → Prop} {t : Tok} {tk' : Nat} {x y : Str}
    (hret : ∀ (t : Tok) (h' : Heap) (tk' : Nat), Fr h₀ L h' m → News h₀ L h' news → Q (.str x t) { s with heap := h', toks := tk' }) (e : y = x) (F : Fr h₀ L h' m) (N : News h₀ L h' news) : Q (.str y t) { s with heap := h', toks := tk' } := by
  subst e
  exact hret t h' tk' F N
end Mine
namespace Mine
section
open PySem PySem.W PyProof.Rows PySem.SeqAt
variable {prog : Program} {w : World} {A : Around} {E : Value → Shared → Prop} {s : Shared}
def isB : Value → Bool
  | .bool _ => true
  | _ => false
def isT : Value → Bool
  | .bool b => b
  | _ => false
theorem isT_eq {v : Value} (h : isB v = true) (A : Around) (s : Shared) : EqAt A s v (.bool true) (isT v) := by
  cases v <;> first | (rename_i b; have e := EqAt.bool_bool (A := A) (s := s) b true; cases b <;> exact e) | cases h
/-- how often True stands in a list of bools -/
theorem count_true {l : Addr} {vs : List Value} {n : Nat} {Q : Value → Shared → Prop} (hl : s.heap.IsList l vs.toArray) (hb : vs.all isB = true) (hn : vs.countP isT = n) {z : Int} (hz : ((n : Nat) : Int) = z)
    (h : Q (.int z s.toks) { s with toks := s.toks + 1 }) : wpAny (model prog w) A (call (.builtin "list.count") [.ref l, .bool true]) Q E s := by
  subst hz
  subst hn
  obtain ⟨⟨cls, dd, data, sl⟩, ho, hc, n, hd⟩ := id hl
  simp only at hc hd
  subst hc hd
  exact call_meets PySem.F.slot_list_count ⟨_, ho, rfl⟩ PySem.F.entry_list_count (PySem.F.args_list_count_2 _ _) (list_countAt l vs.toArray n dd sl (.bool true) isT)
    ⟨ho, fun y hy => isT_eq (List.all_eq_true.mp hb y (by simpa using hy)) _ _, h⟩
/-- where it stands first -/
def firstT : List Value → Nat → Bool
  | [], _ => false
  | v :: _, 0 => isT v
  | v :: r, j + 1 => !isT v && firstT r j
theorem firstT_at : ∀ {vs : List Value} {j : Nat}, firstT vs j = true → ∃ hj : j < vs.length, isT vs[j] = true ∧ ∀ m (hm : m < vs.length), m < j → isT vs[m] = false
  | [], j, h => by cases j <;> cases h
  | v :: r, 0, h => ⟨Nat.succ_pos _, h, fun m _ hlt => absurd hlt (Nat.not_lt_zero _)⟩
  | v :: r, j + 1, h => by
    simp only [firstT, Bool.and_eq_true, Bool.not_eq_true'] at h
    obtain ⟨hj, h1, h2⟩ := firstT_at h.2
    refine ⟨Nat.succ_lt_succ hj, h1, fun m hm hlt => ?_⟩
    cases m with
    | zero => exact h.1
    | succ m => exact h2 m (Nat.lt_of_succ_lt_succ hm) (Nat.lt_of_succ_lt_succ hlt)
theorem index_true {l : Addr} {vs : List Value} {j : Nat} {Q : Value → Shared → Prop} (hl : s.heap.IsList l vs.toArray) (hb : vs.all isB = true) (hj : firstT vs j = true) (hs : j < 1000) {z : Int} (hz : ((j : Nat) : Int) = z)
    (h : Q (.int z s.toks) { s with toks := s.toks + 1 }) : wpAny (model prog w) A (call (.builtin "list.index") [.ref l, .bool true]) Q E s := by
  subst hz
  obtain ⟨⟨cls, dd, data, sl⟩, ho, hc, n, hd⟩ := id hl
  simp only at hc hd
  subst hc hd
  obtain ⟨hlt, h1, h2⟩ := firstT_at hj
  exact call_meets PySem.F.slot_list_index ⟨_, ho, rfl⟩ PySem.F.entry_list_index (PySem.F.args_list_index_2 _ _)
    (list_indexAt l vs.toArray n dd sl (.bool true) isT j (by simpa using hlt) (by omega) (by simpa using h1) (fun m hm hlt' => by simpa using h2 m (by simpa using hm) hlt')) ⟨ho, fun y hy => isT_eq (List.all_eq_true.mp hb y (by simpa using hy)) _ _, h⟩
end
end Mine
local macro_rules | `(tactic| walk_at "call builtin:list.index") => `(tactic| (k_here; (with_reducible show wpAny _ _ (call (Value.builtin _) [Value.ref _, Value.bool _]) _ _ _); k_dflt (first
  | (refine' Mine.index_true (j := 0) ?k1 ?k2 ?k3 (by decide) (z := 0) (by rfl) ?_; (case k1 => is_list); (case k2 => rfl); (case k3 => rfl))
  | (refine' Mine.index_true (j := 1) ?k1 ?k2 ?k3 (by decide) (z := 1) (by rfl) ?_; (case k1 => is_list); (case k2 => rfl); (case k3 => rfl))
  | (refine' Mine.index_true (j := 2) ?k1 ?k2 ?k3 (by decide) (z := 2) (by rfl) ?_; (case k1 => is_list); (case k2 => rfl); (case k3 => rfl))
  | (refine' Mine.index_true (j := 3) ?k1 ?k2 ?k3 (by decide) (z := 3) (by rfl) ?_; (case k1 => is_list); (case k2 => rfl); (case k3 => rfl))
  | (refine' Mine.index_true (j := 6) ?k1 ?k2 ?k3 (by decide) (z := 6) (by rfl) ?_; (case k1 => is_list); (case k2 => rfl); (case k3 => rfl))
  | (refine' Mine.index_true (j := 9) ?k1 ?k2 ?k3 (by decide) (z := 9) (by rfl) ?_; (case k1 => is_list); (case k2 => rfl); (case k3 => rfl)))))
namespace Mine
theorem ite_nt {P Q : Prop} (h : Q) : if (!true) = true then P else Q := by simpa using h
theorem ite_nf {P Q : Prop} (h : P) : if (!false) = true then P else Q := by simpa using h
end Mine
namespace Mine
theorem ite_f {P Q : Prop} (h : Q) : if false = true then P else Q := by simpa using h
theorem ite_t {P Q : Prop} (h : P) : if true = true then P else Q := by simpa using h
end Mine
namespace Mine
theorem c_kind_name (w : World) (mean : ExcName → Option Value) (mg mb : Str → Option Value) (e : Addr) (oe : Obj) (hc : oe.cls = .ref 37) :
    Ck PySem.Challenge.rw_uf050027_02.row.prog w (hd02.heap_39 w.params) hd02.view_39 (looseW hd02.view_39 []) mean mg mb 192 1 [.ref e] (fun news => (e, oe) ∈ news) (fun t => .str (Str.ofString "name") t) := by
  unfold Ck
  k_fill
  w_top off
  intro hdl dp un gd cn cs a ccd cl outer A₀ base h₀ L m news s Q E B F X N T hk hd hu he hret
  refine wpAny_call ?_
  k_dflt cell_enter
  k_with_none
  k_with "call builtin:isinstance" => (k_here; (with_reducible show wpAny _ _ (call (Value.builtin "isinstance") [Value.ref _, _]) _ _ _); k_dflt (refine' Mine.exc_isi ?N ?he ?hc ?X ?a1 ?a2 ?a3 ?a4 ?a5 ?a6 ?a7 ?a8 ?ee ?_; (case N => k_asm); (case hc => assumption); (case he => repeat (first | assumption | refine List.mem_cons_of_mem _ ?_)); (case X => k_in); (case a1 => k_is); (case a2 => k_is); (case a3 => k_is); (case a4 => k_is); (case a5 => k_is); (case a6 => k_is); (case a7 => k_is); (case a8 => k_is); (case ee => kit_is)); intro _)
  k_with "call builtin:list.count" => (k_here; (with_reducible show wpAny _ _ (call (Value.builtin _) [Value.ref _, Value.bool _]) _ _ _); k_dflt (refine' Mine.count_true (n := 1) ?k1 ?k2 ?k3 (z := 1) (by rfl) ?_; (case k1 => is_list); (case k2 => rfl); (case k3 => rfl)))
  k_with "ite" => ((with_reducible show ite ((!true) = true) _ _); refine Mine.ite_nt ?_)
  k_with "ite" => ((with_reducible show ite ((!false) = true) _ _); refine Mine.ite_nf ?_)
  k_with "ite" => ((with_reducible show ite (false = true) _ _); refine Mine.ite_f ?_)
  k_with "ite" => ((with_reducible show ite (true = true) _ _); refine Mine.ite_t ?_)
  k_steps
  all_goals (refine' ck_retS hret ?e2 ?e3 ?e4; (case e3 => k_asm); (case e4 => first | k_asm | (refine' cb_drop ?cbN ?cbS; (case cbN => assumption); (case cbS => kcj_all))); (case e2 => rfl))
theorem u_kind_name {w : World} {mean : ExcName → Option Value} {mg mb : Str → Option Value} {e t₁ : Addr} {n₂ : List (Addr × Obj)} {vs : List Value} (G : Got n₂ e t₁ (.ref 37) vs)
    {hdl : Option Value} {dp un : Nat} {gd : Option (List Code)} {cn : Str} {cs : Scope} {a : Addr} {ccd : Value} {cl : List (Str × Addr)} {outer : List Env} {A₀ : Around} {base h₀ : Heap} {L : Addr} {m : Str → Option Value} {news : List (Addr × Obj)} {s : Shared} {Q E : Value → Shared → Prop}
    (N₂ : News h₀ L s.heap n₂) (B : Below A₀ base outer h₀) (F : Fr h₀ L s.heap m) (X : (hd02.heap_39 w.params).In h₀) (N : News h₀ L s.heap news) (T : Top hd02.view_39 (looseW hd02.view_39 []) mean mg mb h₀) (hk : cs.kind = .function) (hd : dp + 1 < recursionLimit) (hu : un + 8 * 1 < cLine)
    (ret : ∀ (t : Tok) (h' : Heap) (tk' : Nat), Fr h₀ L h' m → News h₀ L h' news → Q (.str (Str.ofString "name") t) { s with heap := h', toks := tk' }) :
    wpAny (model PySem.Challenge.rw_uf050027_02.row.prog w) { ktrTop dp un gd cn cs L a ccd cl outer with handled := hdl } (call (.ref 192) [.ref e]) Q E s := by
  obtain ⟨oe, ot, ws, nt, h1, _, hc, _⟩ := G
  exact (c_kind_name w mean mg mb e oe hc).use B F X (N₂.append N) T hk hd hu (List.mem_append.mpr (.inl h1)) fun t h' tk' F' N' => ret t h' tk' F' fun p hp => N' p (List.mem_append.mpr (.inr hp))
end Mine
namespace Mine
theorem c_kind_letter (w : World) (mean : ExcName → Option Value) (mg mb : Str → Option Value) (e : Addr) (oe : Obj) (hc : oe.cls = .ref 49) :
    Ck PySem.Challenge.rw_uf050027_02.row.prog w (hd02.heap_39 w.params) hd02.view_39 (looseW hd02.view_39 []) mean mg mb 192 1 [.ref e] (fun news => (e, oe) ∈ news) (fun t => .str (Str.ofString "letter") t) := by
  unfold Ck
  k_fill
  w_top off
  intro hdl dp un gd cn cs a ccd cl outer A₀ base h₀ L m news s Q E B F X N T hk hd hu he hret
  refine wpAny_call ?_
  k_dflt cell_enter
  k_with_none
  k_with "call builtin:isinstance" => (k_here; (with_reducible show wpAny _ _ (call (Value.builtin "isinstance") [Value.ref _, _]) _ _ _); k_dflt (refine' Mine.exc_isi ?N ?he ?hc ?X ?a1 ?a2 ?a3 ?a4 ?a5 ?a6 ?a7 ?a8 ?ee ?_; (case N => k_asm); (case hc => assumption); (case he => repeat (first | assumption | refine List.mem_cons_of_mem _ ?_)); (case X => k_in); (case a1 => k_is); (case a2 => k_is); (case a3 => k_is); (case a4 => k_is); (case a5 => k_is); (case a6 => k_is); (case a7 => k_is); (case a8 => k_is); (case ee => kit_is)); intro _)
  k_with "call builtin:list.count" => (k_here; (with_reducible show wpAny _ _ (call (Value.builtin _) [Value.ref _, Value.bool _]) _ _ _); k_dflt (refine' Mine.count_true (n := 1) ?k1 ?k2 ?k3 (z := 1) (by rfl) ?_; (case k1 => is_list); (case k2 => rfl); (case k3 => rfl)))
  k_with "ite" => ((with_reducible show ite ((!true) = true) _ _); refine Mine.ite_nt ?_)
  k_with "ite" => ((with_reducible show ite ((!false) = true) _ _); refine Mine.ite_nf ?_)
  k_with "ite" => ((with_reducible show ite (false = true) _ _); refine Mine.ite_f ?_)
  k_with "ite" => ((with_reducible show ite (true = true) _ _); refine Mine.ite_t ?_)
  k_steps
  all_goals (refine' ck_retS hret ?e2 ?e3 ?e4; (case e3 => k_asm); (case e4 => first | k_asm | (refine' cb_drop ?cbN ?cbS; (case cbN => assumption); (case cbS => kcj_all))); (case e2 => rfl))
theorem u_kind_letter {w : World} {mean : ExcName → Option Value} {mg mb : Str → Option Value} {e t₁ : Addr} {n₂ : List (Addr × Obj)} {vs : List Value} (G : Got n₂ e t₁ (.ref 49) vs)
    {hdl : Option Value} {dp un : Nat} {gd : Option (List Code)} {cn : Str} {cs : Scope} {a : Addr} {ccd : Value} {cl : List (Str × Addr)} {outer : List Env} {A₀ : Around} {base h₀ : Heap} {L : Addr} {m : Str → Option Value} {news : List (Addr × Obj)} {s : Shared} {Q E : Value → Shared → Prop}
    (N₂ : News h₀ L s.heap n₂) (B : Below A₀ base outer h₀) (F : Fr h₀ L s.heap m) (X : (hd02.heap_39 w.params).In h₀) (N : News h₀ L s.heap news) (T : Top hd02.view_39 (looseW hd02.view_39 []) mean mg mb h₀) (hk : cs.kind = .function) (hd : dp + 1 < recursionLimit) (hu : un + 8 * 1 < cLine)
    (ret : ∀ (t : Tok) (h' : Heap) (tk' : Nat), Fr h₀ L h' m → News h₀ L h' news → Q (.str (Str.ofString "letter") t) { s with heap := h', toks := tk' }) :
    wpAny (model PySem.Challenge.rw_uf050027_02.row.prog w) { ktrTop dp un gd cn cs L a ccd cl outer with handled := hdl } (call (.ref 192) [.ref e]) Q E s := by
  obtain ⟨oe, ot, ws, nt, h1, _, hc, _⟩ := G
  exact (c_kind_letter w mean mg mb e oe hc).use B F X (N₂.append N) T hk hd hu (List.mem_append.mpr (.inl h1)) fun t h' tk' F' N' => ret t h' tk' F' fun p hp => N' p (List.mem_append.mpr (.inr hp))
end Mine
namespace Mine
open PySem PySem.W PyProof.Rows
section
variable {prog : Program} {w : World} {A₀ A : Around} {s : Shared} {base h₀ : Heap} {L a : Addr} {m : Str → Option Value} {cn : Str} {cs : Scope} {ccd : Value} {news : List (Addr × Obj)} {K : Frag} {p : Program} {loose : List Str} {mean : ExcName → Option Value} {mg mb : Str → Option Value}
    {R : Result → Shared → Prop} {name qual : Str} {params : Arguments} {body : List Stmt} {scope : Scope} {dV kV doc pm cdv ct oc : Value} {an od : Option Addr} {osl : Array (Option Value)} {f : Addr} {args : Args} {binds : List (Str × Value)}
theorem frames_one : [envOfC cn cs L a ccd].filterMap (·.frame) = [L] := rfl
/-- the frame of a law with cells stands below -/
theorem belowC {h : Heap} (B : Below A₀ base [] h₀) (F : Fr h₀ L h m) (hck : cs.kind = .function) : h.FunFrames base [envOfC cn cs L a ccd] := by
  have hnew : base.get? L = none := by
    cases hq : base.get? L with
    | none => rfl
    | some o => exact absurd (Nat.lt_of_lt_of_le (Heap.lt_size (B.stays L o hq)) F.above) (Nat.lt_irrefl _)
  exact .cons (by show cs.kind ≠ .module; rw [hck]; decide) rfl F.ns hnew (B.frames.of_keeps fun b o e _ => ⟨o, F.keep b o e, rfl⟩)
/-- a def with a try inside, called out of a law's frame that has cells -/
theorem defS0C (B : Below A₀ base [] h₀) (F : Fr h₀ L s.heap m) (X₀ : K.In h₀) (N : News h₀ L s.heap news) (T : Top p loose mean mg mb h₀) (hA : A.frames = some [envOfC cn cs L a ccd])
    (ho : K.lookup f = some ⟨oc, od, .func (fnOf name qual params body scope dV kV doc pm an cdv ct), osl⟩) (hcd : codeIn K cdv qual = true) (hroom : A.depth < recursionLimit)
    (hbind : BindsTo s (fnOf name qual params body scope dV kV doc pm an cdv ct) args binds) (hloc : ∀ y ∈ binds, scope.names.lookup y.1 = some .local)
    (h : ∀ g L' h₁, Fr h₀ L g m → Fr g L' h₁ (fun y => binds.reverse.lookup y) → News g L' h₁ news → Below A base [envOfC cn cs L a ccd] g → K.In g → Top p loose mean mg mb g → KtsDicts ([envOfC cn cs L a ccd].filterMap (·.frame)) g →
      wpAny (model prog w) (A.deeper (envOf qual scope L' f cdv)) (execs body (envOf qual scope L' f cdv))
        (fun fl s' => LeaveS0 ([envOfC cn cs L a ccd].filterMap (·.frame)) h₀ L m g R (match fl with | .ret v => v | _ => .none) s')
        (fun e s' => wpAny (model prog w) (A.deeper (envOf qual scope L' f cdv)) (leaving (envOf qual scope L' f cdv) e) (fun _ s'' => R (.error e) s'') (fun e' s'' => R (.error e') s'') s')
        { s with heap := h₁, toks := s.toks + binds.length })
    (hck : cs.kind = .function) (hco : scope.isCoroutine = false) (hgen : scope.isGenerator = false) (hk : scope.kind = .function)
    (hcell : ∀ x ∈ scope.names, x.2 ≠ .cell) : codeAny (model prog w) A (.call (.ref f) args) R s := by
  have apart : ∀ b o, h₀.get? b = some o → b ∉ news.map (·.1) := fun b o e q => by
    obtain ⟨r, hr, rfl⟩ := List.mem_map.mp q
    rw [(N r hr).2.2] at e; cases e
  have stay : h₀.StaysIn (hideAll s.heap (news.map (·.1))) := fun b o e => hideAll_get _ (F.keep b o e) (apart b o e)
  have own : L ∉ news.map (·.1) := fun q => by
    obtain ⟨r, hr, e⟩ := List.mem_map.mp q
    exact (N r hr).2.1 e
  obtain ⟨oL, es, ep, hL, hLd, hLk, hLf⟩ := id F.ns
  have hLg := hideAll_get (news.map (·.1)) hL own
  have low : Below A base [envOfC cn cs L a ccd] (hideAll s.heap (news.map (·.1))) := ⟨hA, fun b o e => stay b o (B.stays b o e), funFrames_hideAll (belowC B F hck) fun env he b hb hf => by
    cases he with
    | head => exact own ((Option.some.inj hf : L = b) ▸ hb)
    | tail _ he => cases he⟩
  have X := X₀.keeps F.keep
  refine codeAny_call_def (fd := fnOf name qual params body scope dV kV doc pm an cdv ct) (body := body) (binds := binds) hroom (X _ _ ho) rfl (T.nolimit.keeps F.keep) (codeRec_of X hcd) rfl hbind hcell hloc (fun h₁ hns hk₁ => ?_) hco hgen hk
  refine wpAny_mono (h _ s.heap.objs.size h₁ ⟨⟨oL, es, ep, hLg, hLd, hLk, hLf⟩, stay, F.above⟩ ⟨hns, fun b o e => hk₁ b o (of_hideAll _ e), Nat.le_of_eq (hideAll_size _ _)⟩
    (fun r hr => ⟨hk₁ _ _ (N r hr).1, Nat.ne_of_lt (Heap.lt_size (N r hr).1), hideAll_none _ (List.mem_map_of_mem hr)⟩) low (X₀.keeps stay) (T.keeps stay) (fun b hb => by
      rw [frames_one] at hb
      rw [List.mem_singleton.mp hb]
      exact ⟨oL, es, ep, hLg, hLd⟩)) (fun fl s' hl => ?_) fun _ _ y => y
  obtain ⟨g', L', m', news', T', F', N', k⟩ := hl
  have nL₀ : h₀.get? L = none := kts_self F
  obtain ⟨sl, hs⟩ := T'.up hLg
  refine k ⟨⟨_, es, ep, F'.keep _ _ hs, hLd, hLk, hLf⟩, fun b o e => F'.keep b o (T'.other b o (stay b o e) (fun q => by
    rw [frames_one] at q
    rw [List.mem_singleton.mp q, nL₀] at e
    cases e)), F.above⟩ fun r hr => ⟨(N' r hr).1, fun q => ?_, ?_⟩
  · have := (N' r hr).2.2; rw [q, hs] at this; cases this
  · cases q : h₀.get? r.1 with
    | none => rfl
    | some o =>
      obtain ⟨sl', hs'⟩ := T'.up (stay _ _ q)
      have := (N' r hr).2.2
      rw [hs'] at this
      cases this
end
/-- a call out of a law's frame with cells that hands back a value -/
def CzC (prog : Program) (w : World) (K : Frag) (p : Program) (loose : List Str) (mean : ExcName → Option Value) (mg mb : Str → Option Value) (f : Addr) (vs : List Value) (P : List (Addr × Obj) → Prop) (R : Tok → Value) : Prop :=
  ∀ (cn : Str) (cs : Scope) (a : Addr) (ccd : Value) (A₀ : Around) (base h₀ : Heap) (L : Addr) (m : Str → Option Value) (news : List (Addr × Obj)) (s : Shared) (Q E : Value → Shared → Prop),
    Below A₀ base [] h₀ → Fr h₀ L s.heap m → K.In h₀ → News h₀ L s.heap news → Top p loose mean mg mb h₀ → K.In base → Top p loose mean mg mb base → cs.kind = .function → P news →
    (∀ (t : Tok) (h' : Heap) (tk' : Nat), Fr h₀ L h' m → News h₀ L h' news → Q (R t) { s with heap := h', toks := tk' }) →
    wpAny (model prog w) (callerA.deeper (envOfC cn cs L a ccd)) (call (.ref f) vs) Q E s
theorem CzC.use {prog : Program} {w : World} {K : Frag} {p : Program} {loose : List Str} {mean : ExcName → Option Value} {mg mb : Str → Option Value} {f : Addr} {vs : List Value} {P : List (Addr × Obj) → Prop} {R : Tok → Value} (C : CzC prog w K p loose mean mg mb f vs P R)
    {cn : Str} {cs : Scope} {a : Addr} {ccd : Value} {A₀ : Around} {base h₀ : Heap} {L : Addr} {m : Str → Option Value} {news : List (Addr × Obj)} {s : Shared} {Q E : Value → Shared → Prop}
    (B : Below A₀ base [] h₀ := by k_asm) (F : Fr h₀ L s.heap m := by k_asm) (X : K.In h₀ := by k_asm) (N : News h₀ L s.heap news := by k_asm) (T : Top p loose mean mg mb h₀ := by k_asm) (XB : K.In base := by assumption) (TB : Top p loose mean mg mb base := by assumption) (hk : cs.kind = .function := by first | exact rfl | assumption) (hp : P news := by first | trivial | k_mem)
    (ret : ∀ (t : Tok) (h' : Heap) (tk' : Nat), Fr h₀ L h' m → News h₀ L h' news → Q (R t) { s with heap := h', toks := tk' }) :
    wpAny (model prog w) (callerA.deeper (envOfC cn cs L a ccd)) (call (.ref f) vs) Q E s := C _ _ _ _ _ _ _ _ _ _ _ _ _ B F X N T XB TB hk hp ret
end Mine
namespace Mine
open PySem PySem.W PyProof.Rows
/-- isinstance of a made tuple, list against its own built-in class -/
theorem isi_tuple {prog : Program} {w : World} {A : Around} {E : Value → Shared → Prop} {s : Shared} {K : Frag} {Q : Value → Shared → Prop} {h₀ : Heap} {L x : Addr} {news : List (Addr × Obj)} {o : Obj} (N : News h₀ L s.heap news) (hm : (x, o) ∈ news) (hc : o.cls = .type "tuple") (X : K.In s.heap)
    (ee : kitOne K (.type "tuple") (.type "tuple") = some true) (h : ∀ tk, Q (.bool true) { s with toks := tk }) : wpAny (model prog w) A (call (.builtin "isinstance") [.ref x, .type "tuple"]) Q E s :=
  kia_one kitx_tuple X ⟨o, (N _ hm).1, hc⟩ ee (by intro q; cases q) h
theorem isi_list {prog : Program} {w : World} {A : Around} {E : Value → Shared → Prop} {s : Shared} {K : Frag} {Q : Value → Shared → Prop} {h₀ : Heap} {L x : Addr} {news : List (Addr × Obj)} {o : Obj} (N : News h₀ L s.heap news) (hm : (x, o) ∈ news) (hc : o.cls = .type "list") (X : K.In s.heap)
    (ee : kitOne K (.type "list") (.type "list") = some true) (h : ∀ tk, Q (.bool true) { s with toks := tk }) : wpAny (model prog w) A (call (.builtin "isinstance") [.ref x, .type "list"]) Q E s :=
  kia_one kitx_list X ⟨o, (N _ hm).1, hc⟩ ee (by intro q; cases q) h
end Mine
section
local macro_rules | `(tactic| k_mem) => `(tactic| assumption)
namespace Mine
theorem c_told (w : World) (mean : ExcName → Option Value) (mg mb : Str → Option Value) (S : Addr) (x : Str) (a b c d : Int) (tx ta tb tc td : Tok) (cc : Nat) (hx : x.length ≤ 26) (hok : PyData.strOk x = true) :
    CzC PySem.Challenge.rw_uf050027_02.row.prog w (hd02.heap_39 w.params) hd02.view_39 (looseW hd02.view_39 []) mean mg mb 225 [.ref S] (fun news => (S, ({ cls := .type "tuple", data := .seq #[.str x tx, .int a ta, .int b tb, .int c tc, .int d td] cc } : Obj)) ∈ news) (fun t => .str (dueT x a b c d) t) := by
  unfold CzC
  k_fill
  w_top off
  intro cn cs a ccd A₀ base h₀ L m news s Q E B F X N T XB TB hk hP hret
  refine wpAny_call ?_
  k_dflt (refine' Mine.defS0C ?k1 ?k2 ?k3 ?k4 ?k5 ?kA ?k6 ?k7 ?k8 ?k9 ?kB ?_ ?cK ?c2 ?c3 ?c4 ?c5; (case kA => exact rfl); (case k2 => k_asm); (case k1 => k_asm); (case k3 => k_asm); (case k4 => k_asm); (case k5 => k_asm); (case k6 => k_is); (case k7 => k_is); (case k8 => k_room); (case k9 => first | exact binds_K (by k_in) rfl (by k_is) rfl rfl rfl | exact BindsTo.of_eq rfl); (case kB => exact locs rfl); (case cK => assumption); (case c2 => exact rfl); (case c3 => exact rfl); (case c4 => exact rfl); (case c5 => decide); k_whole; intro g' L' h' FG' F' N' B' X' T' D'; (try dsimp only); (try k_lift B'); (try k_fold))
  k_with_none
  k_with "ite" => ((with_reducible show ite ((!true) = true) _ _); refine Mine.ite_nt ?_)
  k_with "ite" => ((with_reducible show ite ((!false) = true) _ _); refine Mine.ite_nf ?_)
  k_with "ite" => ((with_reducible show ite (false = true) _ _); refine Mine.ite_f ?_)
  k_with "ite" => ((with_reducible show ite (true = true) _ _); refine Mine.ite_t ?_)
  k_with "call builtin:isinstance" => (k_here; (with_reducible show wpAny _ _ (call (Value.builtin "isinstance") [Value.ref _, Value.type "tuple"]) _ _ _); k_dflt (refine' Mine.isi_tuple ?N ?hm ?hc ?X ?ee ?_; (case N => k_asm); (case hm => k_mem); (case hc => exact rfl); (case X => k_in); (case ee => exact rfl)); intro _)
  k_with "call builtin:isinstance" => (k_here; (with_reducible show wpAny _ _ (call (Value.builtin "isinstance") [Value.ref _, Value.type "list"]) _ _ _); k_dflt (refine' Mine.isi_list ?N ?hm ?hc ?X ?ee ?_; (case N => k_asm); (case hm => k_mem); (case hc => exact rfl); (case X => k_in); (case ee => exact rfl)); intro _)
  k_with "call ref" => (k_here; (with_reducible show wpAny _ _ (call (Value.ref 154) _) _ _ _); k_dflt (refine Mine.Ct.use (Mine.c_within _ _ _ _ _ _ _ _ _ _) (ret := ?_)); intro t9 h9 tk9 P9 F9 N9; (try dsimp only); (try k_fold))
  k_with "call ref" => (k_here; (with_reducible show wpAny _ _ (call (Value.ref 159) _) _ _ _); k_dflt (refine Mine.Ct.use (Mine.c_isname _ _ _ _ _ _) (ret := ?_)); intro t9 h9 tk9 P9 F9 N9; (try dsimp only); (try k_fold))
  k_with "call ref" => (k_here; (with_reducible show wpAny _ _ (call (Value.ref 192) [Value.ref _]) _ _ _); (with_reducible rename Got _ _ _ (Value.ref 37) _ => gtX); k_dflt (refine' Mine.u_kind_name gtX ?k0 ?k1 ?k2 ?k3 ?k4 ?k5 ?kK ?kd ?ku ?_; (case k0 => assumption); (case k1 => k_asm); (case k2 => k_asm); (case k3 => k_asm); (case k4 => k_asm); (case k5 => k_asm); (case kK => first | exact rfl | assumption); (case kd => first | assumption | omega | ktr_room); (case ku => first | assumption | omega | ktr_units)); intro t9 h9 tk9 F9 N9; (try dsimp only); (try k_fold))
  k_with "call ref" => (k_here; (with_reducible show wpAny _ _ (call (Value.ref 192) [Value.ref _]) _ _ _); (with_reducible rename Got _ _ _ (Value.ref 49) _ => gtX); k_dflt (refine' Mine.u_kind_letter gtX ?k0 ?k1 ?k2 ?k3 ?k4 ?k5 ?kK ?kd ?ku ?_; (case k0 => assumption); (case k1 => k_asm); (case k2 => k_asm); (case k3 => k_asm); (case k4 => k_asm); (case k5 => k_asm); (case kK => first | exact rfl | assumption); (case kd => first | assumption | omega | ktr_room); (case ku => first | assumption | omega | ktr_units)); intro t9 h9 tk9 F9 N9; (try dsimp only); (try k_fold))
  k_with "subscriptTail Name Slice ref ref" => (k_here; (with_reducible show wpAny _ _ (subscriptTail _ (PySem.Expr.Slice _ none none _) (Value.ref _) (Value.ref _)) _ _ _); k_dflt (refine' Mine.tup_from1 ?F ?N ?m ?_ ?s ?g; (case F => k_asm); (case N => k_asm); (case m => k_mem); (case s => with_unfolding_all rfl); (case g => (intro _; with_unfolding_all rfl))); intro D' h' F' N' l1; (try k_lt l1))
  k_with "eval ListComp" => (k_here; k_dflt (refine Mine.ListComp_Tu (by k_asm) (by with_unfolding_all rfl) (by decide) (by rfl) (by decide) (by rfl) ?_))
  k_with "SrcT" => (k_dflt (refine Mine.SrcT.intro (by rfl) (by k_asm) (by k_asm) (by k_mem) (by exact Nat.le_of_ble_eq_true rfl) ?_); intro g9; k_dflt (refine Mine.tup_bool (fun k => Mine.within k 0 1000000000000) (IntsAre.cons _ _ (IntsAre.cons _ _ (IntsAre.cons _ _ (IntsAre.cons _ _ IntsAre.nil)))) ⟨_, by k_mem, rfl, _, rfl⟩ ?_ ?_))
  k_with "compareOp Eq ref ref" => (k_here; (with_reducible show wpAny _ _ (compareOp CmpOp.Eq (Value.ref _) (Value.ref _)) _ _ _); k_dflt (refine' Mine.eq_self ?N ?D ?k ?u ?_; (case N => k_asm); (case D => exact DatIn.tuple (by k_mem) (DatAll.cons (DatIn.str _ _) (DatAll.cons (DatIn.int _ _) (DatAll.cons (DatIn.int _ _) (DatAll.cons (DatIn.int _ _) (DatAll.cons (DatIn.int _ _) DatAll.nil)))))); (case k => (simp only [kqdOk, List.all_cons, List.all_nil, Bool.and_true]; assumption)); (case u => first | ke_room | (simp only [units_in1, units_deeper, Around.mark_units, cLine] at *; omega)); k_whole))
  k_steps
  all_goals first | (refine' ck_retS hret ?e2 ?e3 ?e4; (case e3 => k_asm); (case e4 => first | k_asm | (refine' cb_drop ?cbN ?cbS; (case cbN => assumption); (case cbS => kcj_all))); (case e2 => (first | exact dueT_name (by assumption) | exact dueT_w (by assumption) (by assumption) | exact dueT_o (by assumption) (by assumption) (by omega) | exact dueT_k (by assumption) (by assumption) (by omega) (by omega)))) | (refine CompTurn.intro (by k_asm) (by k_asm) _ ?cS ?cO trivial ⟨rfl, rfl⟩; (case cS => first | exact fun _ h => h | kst_inAny); (case cO => assumption))
end Mine
end
namespace Mine
open PySem PySem.W PyProof.Rows
theorem two_of {v : List Value} {n : List Int} {a b : Int} (hi : IntsAre v n) (hp : n.Perm [a, b]) (hb : (n.getD (Int.toNat 0) 0 = a ∨ n.getD (Int.toNat 0) 0 = b) ∧ n.getD (Int.toNat 0) 0 ≤ a ∧ n.getD (Int.toNat 0) 0 ≤ b) :
    ∃ x y t u, v = [.int x t, .int y u] ∧ n = [x, y] ∧ (x = a ∧ y = b ∨ x = b ∧ y = a) ∧ x ≤ y := by
  have hl := hp.length_eq
  cases hi with
  | nil => simp at hl
  | cons x t r =>
    cases r with
    | nil => simp at hl
    | cons y u r =>
      cases r with
      | cons z _ _ => simp at hl
      | nil =>
        have hb' : (x = a ∨ x = b) ∧ x ≤ a ∧ x ≤ b := hb
        have hm : (x = a ∧ y = b) ∨ (x = b ∧ y = a) := by
          rcases hb'.1 with e | e
          · subst e
            exact .inl ⟨rfl, by simpa using (List.perm_cons x).mp hp⟩
          · subst e
            have := (List.perm_cons x).mp (hp.trans (List.Perm.swap x a []))
            exact .inr ⟨rfl, by simpa using this⟩
        refine ⟨x, y, t, u, rfl, rfl, hm, ?_⟩
        rcases hm with ⟨_, e⟩ | ⟨_, e⟩ <;> rw [e]
        · exact hb'.2.2
        · exact hb'.2.1
end Mine
set_option rowWalk.seconds 0 in
theorem PySem.Challenge.cw_uf050027_02_holds : PySem.Challenge.rw_uf050027_02.Holds := by
  k_with_none
  k_with "eval ListComp" => (k_here; k_dflt (refine Mine.ListComp_V (by k_asm) (by with_unfolding_all rfl) (by decide) (by rfl) (by decide) (by rfl) ?_))
  k_with "SrcU" => (k_dflt (refine Mine.SrcU.range (n := 2) (by rfl) (by k_asm) (by k_asm) (by assumption) (by decide) (by rfl) (by decide) ?_); intro g9)
  k_with "call ref" => (k_here; (with_reducible show wpAny _ _ (call (Value.ref 178) _) _ _ _); k_dflt (refine Mine.Ct.use (Mine.c_lmix _ _ _ _ _ _ _ _) (ret := ?_)); intro t9 h9 tk9 P9 F9 N9; (try dsimp only); (try k_fold))
  k_with "call ref" => (k_here; (with_reducible show wpAny _ _ (call (Value.ref 185) _) _ _ _); k_dflt (refine Mine.Ct.use (Mine.c_lbig _ _ _ _ _ _ _ _) (ret := ?_)); intro t9 h9 tk9 P9 F9 N9; (try dsimp only); (try k_fold))
  k_with "assign Tuple cons ref" => (k_here; (with_reducible rename List.Perm _ [_, _] => pmX); (obtain ⟨x9, y9, t9, u9, ev9, en9, hc9, hl9⟩ := Mine.two_of (by assumption) pmX (by assumption)); subst ev9; subst en9)
  k_with "call ref" => (k_here; (with_reducible show wpAny _ _ (call (Value.ref 213) _) _ _ _); k_dflt (refine Mine.Cv.use (Mine.c_name _ _ _ _ _ _) (ret := ?_)); intro r9 h9 tk9 ho9 F9 N9; k_dflt ((obtain ⟨x9, v9, e9, hl9, hs9⟩ := ho9); subst e9); (try dsimp only); (try k_fold))
  k_with "call ref" => (k_here; (with_reducible show wpAny _ _ (call (Value.ref 206) _) _ _ _); k_dflt (refine Mine.Cv.use (Mine.c_other _ _ _ _ _ _) (ret := ?_)); intro r9 h9 tk9 ho9 F9 N9; k_dflt ((obtain ⟨x9, v9, e9, hl9⟩ := ho9); subst e9); (try dsimp only); (try k_fold))
  k_with "call ref" => (k_here; (with_reducible show wpAny _ _ (call (Value.ref 218) _) _ _ _); k_dflt (refine' Mine.Cv.use (Mine.c_due _ _ _ _ _ _ _ _ _ _ _ _ _ _ _ _ ?h1 ?h2) (hp := ?kP) (ret := ?_); (case kP => k_mem); (case h1 => assumption); (case h2 => assumption)); intro r9 h9 tk9 ho9 F9 N9; k_dflt ((obtain ⟨t9, e9⟩ := ho9); subst e9); (try dsimp only); (try k_fold))
  k_with "call ref" => (k_here; (with_reducible show wpAny _ _ (call (Value.ref 225) _) _ _ _); k_dflt (refine' Mine.CzC.use (Mine.c_told _ _ _ _ _ _ _ _ _ _ _ _ _ _ _ _ ?h1 ?h2) (hp := ?kP) (ret := ?_); (case kP => k_mem); (case h1 => assumption); (case h2 => assumption)); intro t9 h9 tk9 F9 N9; (try dsimp only); (try k_fold))
  k_with "pyIter ref" => k_state (fun pre numbers => numbers.length = 4) "_law_numbers"
  exact Mine.hd02 (by k_go)
