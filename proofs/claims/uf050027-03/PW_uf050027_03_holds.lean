import PyProof.Rows.All
import Wide.All
import OpenK.AllK
import Wide.FinOn
import PySem.Challenge.RW_uf050027_03
open PySem PySem.W PyProof.Rows
set_option Elab.async false
set_option maxRecDepth 100000
set_option maxHeartbeats 0
namespace Mine
open_top hd03 for PySem.Challenge.rw_uf050027_03
end Mine
namespace Mine
def mix (c k : Int) : Int := Int.fmod (Int.fmod ((c + 7919 * k + 1) * 48271) 1000003 * Int.fmod ((c + 7919 * k + 1) * 48271) 1000003) 999983
theorem mix_bd (c k : Int) : 0 ≤ mix c k ∧ mix c k < 999983 := by
  unfold mix
  generalize Int.fmod ((c + 7919 * k + 1) * 48271) 1000003 * Int.fmod ((c + 7919 * k + 1) * 48271) 1000003 = x
  exact ⟨Int.fmod_nonneg_of_pos x (by decide), Int.fmod_lt_of_pos x (by decide)⟩
def big (c k : Int) : Int :=
  if Int.fmod (mix c (k + 90)) 4 = 0 then Int.fmod (mix c k) 30
  else if Int.fmod (mix c (k + 90)) 4 = 1 then Int.fmod (mix c k) 3000
  else if Int.fmod (mix c (k + 90)) 4 = 2 then
    (if Int.fmod (mix c k) 4 = 0 then 0 else if Int.fmod (mix c k) 4 = 1 then 1 else if Int.fmod (mix c k) 4 = 2 then 1000000000000 else 999999999999)
  else Int.fmod (mix c k * 1000003 + mix c (k + 50)) 1000000000001
theorem big_bd (c k : Int) : 0 ≤ big c k ∧ big c k ≤ 1000000000000 := by
  unfold big
  have h1 := Int.fmod_nonneg_of_pos (mix c k) (show (0 : Int) < 30 by decide)
  have h2 := Int.fmod_lt_of_pos (mix c k) (show (0 : Int) < 30 by decide)
  have h3 := Int.fmod_nonneg_of_pos (mix c k) (show (0 : Int) < 3000 by decide)
  have h4 := Int.fmod_lt_of_pos (mix c k) (show (0 : Int) < 3000 by decide)
  have h5 := Int.fmod_nonneg_of_pos (mix c k * 1000003 + mix c (k + 50)) (show (0 : Int) < 1000000000001 by decide)
  have h6 := Int.fmod_lt_of_pos (mix c k * 1000003 + mix c (k + 50)) (show (0 : Int) < 1000000000001 by decide)
  (repeat' split) <;> omega
def off (c : Int) : Int := [0, 0, 1, 999, Int.fmod (mix c 70) 30, Int.fmod (mix c 71) 1000].getD (Int.fmod c 6).toNat 0
theorem off_bd (c : Int) : 0 ≤ off c ∧ off c ≤ 999 := by
  unfold off
  have h1 := Int.fmod_nonneg_of_pos (mix c 70) (show (0 : Int) < 30 by decide)
  have h2 := Int.fmod_lt_of_pos (mix c 70) (show (0 : Int) < 30 by decide)
  have h3 := Int.fmod_nonneg_of_pos (mix c 71) (show (0 : Int) < 1000 by decide)
  have h4 := Int.fmod_lt_of_pos (mix c 71) (show (0 : Int) < 1000 by decide)
  generalize (Int.fmod c 6).toNat = i
  match i with
  | 0 => simp
  | 1 => simp
  | 2 => simp
  | 3 => simp
  | 4 => simp; omega
  | 5 => simp; omega
  | n + 6 => simp
def sl (p o : Int) : Int := Int.fdiv (p * o + 999) 1000
theorem fdiv_lo (x : Int) : Int.fdiv x 1000 * 1000 ≤ x ∧ x < Int.fdiv x 1000 * 1000 + 1000 := by
  rw [Int.fdiv_eq_ediv_of_nonneg x (by decide)]
  omega
theorem sl_up (p o : Int) (h : Int.fdiv (p * o) 1000 * 1000 < p * o) : Int.fdiv (p * o) 1000 + 1 = sl p o := by
  unfold sl
  have h1 := fdiv_lo (p * o)
  have h2 := fdiv_lo (p * o + 999)
  omega
theorem sl_same (p o : Int) (h : ¬ Int.fdiv (p * o) 1000 * 1000 < p * o) : Int.fdiv (p * o) 1000 = sl p o := by
  unfold sl
  have h1 := fdiv_lo (p * o)
  have h2 := fdiv_lo (p * o + 999)
  omega
theorem sl_own (p o : Int) : Int.fdiv (p * o + 1000 - 1) 1000 = sl p o := by
  unfold sl
  rw [show p * o + 1000 - 1 = p * o + 999 by omega]
end Mine
namespace Mine
open PySem PySem.W PyProof.Rows
/-- what a call of a def of the text tells: it ends, hands back R, and leaves the frame and the ledger -/
def Ct (prog : Program) (w : World) (K : Frag) (p : Program) (loose : List Str) (mean : ExcName → Option Value) (mg mb : Str → Option Value) (f : Addr) (sz : Nat) (vs : List Value) (P : Prop) (R : Tok → Value) : Prop :=
  ∀ (dp un : Nat) (gd : Option (List Code)) (cn : Str) (cs : Scope) (a : Addr) (ccd : Value) (cl : List (Str × Addr)) (outer : List Env) (A₀ : Around) (base h₀ : Heap) (L : Addr) (m : Str → Option Value) (news : List (Addr × Obj)) (s : Shared) (Q E : Value → Shared → Prop),
    Below A₀ base outer h₀ → Fr h₀ L s.heap m → K.In h₀ → News h₀ L s.heap news → Top p loose mean mg mb h₀ → cs.kind = .function → dp + sz < recursionLimit → un + 8 * sz < cLine →
    (∀ (t : Tok) (h' : Heap) (tk' : Nat), P → Fr h₀ L h' m → News h₀ L h' news → Q (R t) { s with heap := h', toks := tk' }) →
    wpAny (model prog w) (ktrTop dp un gd cn cs L a ccd cl outer) (call (.ref f) vs) Q E s
theorem Ct.use {prog : Program} {w : World} {K : Frag} {p : Program} {loose : List Str} {mean : ExcName → Option Value} {mg mb : Str → Option Value} {f : Addr} {sz : Nat} {vs : List Value} {P : Prop} {R : Tok → Value} (C : Ct prog w K p loose mean mg mb f sz vs P R)
    {dp un : Nat} {gd : Option (List Code)} {cn : Str} {cs : Scope} {a : Addr} {ccd : Value} {cl : List (Str × Addr)} {outer : List Env} {A₀ : Around} {base h₀ : Heap} {L : Addr} {m : Str → Option Value} {news : List (Addr × Obj)} {s : Shared} {Q E : Value → Shared → Prop}
    (B : Below A₀ base outer h₀ := by k_asm) (F : Fr h₀ L s.heap m := by k_asm) (X : K.In h₀ := by k_asm) (N : News h₀ L s.heap news := by k_asm) (T : Top p loose mean mg mb h₀ := by k_asm) (hk : cs.kind = .function := by first | exact rfl | assumption) (hd : dp + sz < recursionLimit := by first | assumption | omega | ktr_room) (hu : un + 8 * sz < cLine := by first | assumption | omega | ktr_units)
    (ret : ∀ (t : Tok) (h' : Heap) (tk' : Nat), P → Fr h₀ L h' m → News h₀ L h' news → Q (R t) { s with heap := h', toks := tk' }) :
    wpAny (model prog w) (ktrTop dp un gd cn cs L a ccd cl outer) (call (.ref f) vs) Q E s := C _ _ _ _ _ _ _ _ _ _ _ _ _ _ _ _ _ _ B F X N T hk hd hu ret
theorem ct_retI {h₀ h' : Heap} {L : Addr} {m : Str → Option Value} {news : List (Addr × Obj)} {s : Shared} {Q : Value → Shared → Prop} {t : Tok} {tk' : Nat} {P : Prop} {x y : Int}
    (hret : ∀ (t : Tok) (h' : Heap) (tk' : Nat), P → Fr h₀ L h' m → News h₀ L h' news → Q (.int x t) { s with heap := h', toks := tk' }) (hP : P) (e : y = x) (F : Fr h₀ L h' m) (N : News h₀ L h' news) : Q (.int y t) { s with heap := h', toks := tk' } := by
  subst e
  exact hret t h' tk' hP F N
def CellOk (c : Int) : Prop := Builtin.Int.intBits c ≤ 1100000
theorem CellOk.bits {c : Int} {P : Prop} (h : CellOk c ∧ P) : Builtin.Int.intBits c ≤ 1100000 := h.1
theorem cellOk_of {c : Int} {n : Nat} (h : Builtin.Int.intBits c ≤ n) (hn : n ≤ 1100000) : CellOk c := Nat.le_trans h hn
end Mine
local macro_rules | `(tactic| bits_by_make) => `(tactic| exact Mine.CellOk.bits (by assumption))
local macro_rules | `(tactic| l_fact) => `(tactic| ((with_reducible refine And.intro (a := Mine.CellOk _) ?_ ?_); (focus (first | exact And.left (by assumption) | exact Mine.cellOk_of (by bits_by_make) (by decide))); (focus (first | omega | (k_fmods; omega) | (kmn_bounds; omega)))))
local macro_rules | `(tactic| walk_at $s:str) => `(tactic| k_extra $s)
namespace Mine
abbrev Con (w : World) (mean : ExcName → Option Value) (mg mb : Str → Option Value) (f : Addr) (sz : Nat) (vs : List Value) (P : Prop) (R : Tok → Value) : Prop :=
  Ct PySem.Challenge.rw_uf050027_03.row.prog w (hd03.heap_39 w.params) hd03.view_39 (looseW hd03.view_39 []) mean mg mb f sz vs P R
end Mine
namespace Mine
theorem c_lmix (w : World) (mean : ExcName → Option Value) (mg mb : Str → Option Value) (x0 x1 : Int) (tx0 tx1 : Tok) (hpre : (fun c k => CellOk c ∧ 0 ≤ k ∧ k ≤ 1000) x0 x1 := by first | trivial | ((try dsimp only); first | assumption | omega | l_fact)) : Con w mean mg mb 196 1 [.int x0 tx0, .int x1 tx1] ((fun c k => 0 ≤ mix c k ∧ mix c k < 999983) x0 x1) (fun t => .int (mix x0 x1) t) := by
  unfold Con Ct
  k_fill
  w_top off
  intro dp un gd cn cs a ccd cl outer A₀ base h₀ L m news s Q E B F X N T hk hd hu hret
  refine wpAny_call ?_
  k_dflt cell_enter
  k_with_none
  k_steps
  all_goals (refine' ct_retI hret ?e1 ?e2 ?e3 ?e4; (case e3 => k_asm); (case e4 => first | k_asm | (refine' cb_drop ?cbN ?cbS; (case cbN => assumption); (case cbS => kcj_all))); (case e1 => exact mix_bd _ _); (case e2 => rfl))
end Mine
namespace Mine
theorem c_lbig (w : World) (mean : ExcName → Option Value) (mg mb : Str → Option Value) (x0 x1 : Int) (tx0 tx1 : Tok) (hpre : (fun c k => CellOk c ∧ 0 ≤ k ∧ k ≤ 500) x0 x1 := by first | trivial | ((try dsimp only); first | assumption | omega | l_fact)) : Con w mean mg mb 203 2 [.int x0 tx0, .int x1 tx1] ((fun c k => 0 ≤ big c k ∧ big c k ≤ 1000000000000) x0 x1) (fun t => .int (big x0 x1) t) := by
  unfold Con Ct
  k_fill
  w_top off
  intro dp un gd cn cs a ccd cl outer A₀ base h₀ L m news s Q E B F X N T hk hd hu hret
  refine wpAny_call ?_
  k_dflt cell_enter
  k_with_none
  k_with "call ref" => (k_here; (with_reducible show wpAny _ _ (call (Value.ref 196) _) _ _ _); k_dflt (refine Mine.Ct.use (Mine.c_lmix _ _ _ _ _ _ _ _) (ret := ?_)); intro t9 h9 tk9 P9 F9 N9; (try dsimp only); (try k_fold))
  k_steps
  all_goals (refine' ct_retI hret ?e1 ?e2 ?e3 ?e4; (case e3 => k_asm); (case e4 => first | k_asm | (refine' cb_drop ?cbN ?cbS; (case cbN => assumption); (case cbS => kcj_all))); (case e1 => exact big_bd _ _); (case e2 => (unfold big; cb_eq)))
end Mine
namespace Mine
theorem c_loff (w : World) (mean : ExcName → Option Value) (mg mb : Str → Option Value) (x0 : Int) (tx0 : Tok) (hpre : (fun c => CellOk c ∧ (0 : Int) ≤ 0) x0 := by first | trivial | ((try dsimp only); first | assumption | omega | l_fact)) : Con w mean mg mb 210 2 [.int x0 tx0] ((fun c => 0 ≤ off c ∧ off c ≤ 999) x0) (fun t => .int (off x0) t) := by
  unfold Con Ct
  k_fill
  w_top off
  intro dp un gd cn cs a ccd cl outer A₀ base h₀ L m news s Q E B F X N T hk hd hu hret
  refine wpAny_call ?_
  k_dflt cell_enter
  k_with_none
  k_with "call ref" => (k_here; (with_reducible show wpAny _ _ (call (Value.ref 196) _) _ _ _); k_dflt (refine Mine.Ct.use (Mine.c_lmix _ _ _ _ _ _ _ _) (ret := ?_)); intro t9 h9 tk9 P9 F9 N9; (try dsimp only); (try k_fold))
  k_with "call ref" => (k_here; (with_reducible show wpAny _ _ (call (Value.ref 203) _) _ _ _); k_dflt (refine Mine.Ct.use (Mine.c_lbig _ _ _ _ _ _ _ _) (ret := ?_)); intro t9 h9 tk9 P9 F9 N9; (try dsimp only); (try k_fold))
  k_steps
  all_goals (refine' ct_retI hret ?e1 ?e2 ?e3 ?e4; (case e3 => k_asm); (case e4 => first | k_asm | (refine' cb_drop ?cbN ?cbS; (case cbN => assumption); (case cbS => kcj_all))); (case e1 => exact off_bd _); (case e2 => rfl))
end Mine
namespace Mine
theorem c_slack (w : World) (mean : ExcName → Option Value) (mg mb : Str → Option Value) (x0 x1 : Int) (tx0 tx1 : Tok) (hpre : (fun p o => -100000000000000000 ≤ p ∧ p ≤ 100000000000000000 ∧ -100000000000000000 ≤ o ∧ o ≤ 100000000000000000) x0 x1 := by first | trivial | ((try dsimp only); first | assumption | omega | l_fact)) : Con w mean mg mb 168 1 [.int x0 tx0, .int x1 tx1] (True) (fun t => .int (sl x0 x1) t) := by
  unfold Con Ct
  k_fill
  w_top off
  intro dp un gd cn cs a ccd cl outer A₀ base h₀ L m news s Q E B F X N T hk hd hu hret
  refine wpAny_call ?_
  k_dflt cell_enter
  k_with_none
  k_with "call ref" => (k_here; (with_reducible show wpAny _ _ (call (Value.ref 196) _) _ _ _); k_dflt (refine Mine.Ct.use (Mine.c_lmix _ _ _ _ _ _ _ _) (ret := ?_)); intro t9 h9 tk9 P9 F9 N9; (try dsimp only); (try k_fold))
  k_with "call ref" => (k_here; (with_reducible show wpAny _ _ (call (Value.ref 203) _) _ _ _); k_dflt (refine Mine.Ct.use (Mine.c_lbig _ _ _ _ _ _ _ _) (ret := ?_)); intro t9 h9 tk9 P9 F9 N9; (try dsimp only); (try k_fold))
  k_with "call ref" => (k_here; (with_reducible show wpAny _ _ (call (Value.ref 210) _) _ _ _); k_dflt (refine Mine.Ct.use (Mine.c_loff _ _ _ _ _ _) (ret := ?_)); intro t9 h9 tk9 P9 F9 N9; (try dsimp only); (try k_fold))
  k_steps
  all_goals (refine' ct_retI hret ?e1 ?e2 ?e3 ?e4; (case e3 => k_asm); (case e4 => first | k_asm | (refine' cb_drop ?cbN ?cbS; (case cbN => assumption); (case cbS => kcj_all))); (case e1 => trivial); (case e2 => exact sl_own _ _))
end Mine
namespace Mine
theorem c_lslack (w : World) (mean : ExcName → Option Value) (mg mb : Str → Option Value) (x0 x1 : Int) (tx0 tx1 : Tok) (hpre : (fun p o => -100000000000000000 ≤ p ∧ p ≤ 100000000000000000 ∧ -100000000000000000 ≤ o ∧ o ≤ 100000000000000000) x0 x1 := by first | trivial | ((try dsimp only); first | assumption | omega | l_fact)) : Con w mean mg mb 217 1 [.int x0 tx0, .int x1 tx1] (True) (fun t => .int (sl x0 x1) t) := by
  unfold Con Ct
  k_fill
  w_top off
  intro dp un gd cn cs a ccd cl outer A₀ base h₀ L m news s Q E B F X N T hk hd hu hret
  refine wpAny_call ?_
  k_dflt cell_enter
  k_with_none
  k_with "call ref" => (k_here; (with_reducible show wpAny _ _ (call (Value.ref 196) _) _ _ _); k_dflt (refine Mine.Ct.use (Mine.c_lmix _ _ _ _ _ _ _ _) (ret := ?_)); intro t9 h9 tk9 P9 F9 N9; (try dsimp only); (try k_fold))
  k_with "call ref" => (k_here; (with_reducible show wpAny _ _ (call (Value.ref 203) _) _ _ _); k_dflt (refine Mine.Ct.use (Mine.c_lbig _ _ _ _ _ _ _ _) (ret := ?_)); intro t9 h9 tk9 P9 F9 N9; (try dsimp only); (try k_fold))
  k_with "call ref" => (k_here; (with_reducible show wpAny _ _ (call (Value.ref 210) _) _ _ _); k_dflt (refine Mine.Ct.use (Mine.c_loff _ _ _ _ _ _) (ret := ?_)); intro t9 h9 tk9 P9 F9 N9; (try dsimp only); (try k_fold))
  k_with "call ref" => (k_here; (with_reducible show wpAny _ _ (call (Value.ref 168) _) _ _ _); k_dflt (refine Mine.Ct.use (Mine.c_slack _ _ _ _ _ _ _ _) (ret := ?_)); intro t9 h9 tk9 P9 F9 N9; (try dsimp only); (try k_fold))
  k_steps
  all_goals (refine' ct_retI hret ?e1 ?e2 ?e3 ?e4; (case e3 => k_asm); (case e4 => first | k_asm | (refine' cb_drop ?cbN ?cbS; (case cbN => assumption); (case cbS => kcj_all))); (case e1 => trivial); (case e2 => first | exact sl_up _ _ (by assumption) | exact sl_same _ _ (by assumption) | exact sl_up _ _ (by simpa using by assumption) | exact sl_same _ _ (by simpa using by assumption)))
end Mine
namespace Mine
section
open PySem PySem.W PyProof.Rows PySem.Spec PySem.Calls
/-- an exception's object: its class is known, its dict is not asked -/
def ExcAt (x D : Addr) (h : Heap) : Prop := ∃ ox : Obj, h.get? x = some ox ∧ ox.cls = .ref D
theorem ExcAt.type {x D : Addr} {M : Model} {h : Heap} (I : ExcAt x D h) : Looks M h (typeOf (.ref x)) (.ref D) := by
  obtain ⟨ox, hx, hc⟩ := I
  exact hc ▸ (Looks.ld hx).andThen .now
variable {prog : Program} {w : World} {A : Around} {E : Value → Shared → Prop} {s : Shared} {K : Frag} {x D : Addr}
theorem exc_find {M : Model} {h : Heap} (X : K.In h) (ha : findIn K (.ref D) "__class__" = some (some (.builtin "object.__class__"))) (hn : specialIn K (.builtin "object.__class__") "__get__" = some (some (.builtin "getset_descriptor.__get__")))
    (htk : takesIn K (.builtin "object.__class__") = some true) : Looks M h (Builtin.ObjectAttr.find (.ref x) (.ref D) "__class__") (.bind (.builtin "getset_descriptor.__get__") (.builtin "object.__class__")) := by
  have L1 := looks_findIn (M := M) X ha
  have L2 : Looks M h (Builtin.ObjectAttr.getOf (some (.builtin "object.__class__"))) (some (.builtin "getset_descriptor.__get__")) := looks_specialIn X hn
  have L3 := looks_takesIn (M := M) X htk
  exact L1.andThen (L2.andThen ((show Looks M h (Builtin.ObjectAttr.dataDescriptor? (some (.builtin "object.__class__")) (some (.builtin "getset_descriptor.__get__"))) (some (.builtin "getset_descriptor.__get__", .builtin "object.__class__")) from L3.andThen .now).andThen (Looks.tag .now)))
theorem exc_classGet {R : Result → Shared → Prop} {tp : Value} (X : K.In s.heap) (I : ExcAt x D s.heap) (hm : mroIn K D (.type "object") = some true)
    (h : R (.ok (.ret (.ref D))) s) : codeAny (model prog w) A (.call (.builtin "getset_descriptor.__get__") ⟨[.builtin "object.__class__", .ref x, tp], []⟩) R s := by
  obtain ⟨hh, g, dr, t, os⟩ := s
  have L0 := I.type (M := model prog w)
  have L1 := looks_mroIn (M := model prog w) X hm
  refine codeAny_call_builtin KF.slot_gs.plain KF.entry_gs (KF.slot_gs.check _ _ _ _ _ _ _ _ KF.type_class (KF.args_gs _ _ _) ?_)
  unfold Builtin.«getset_descriptor.__get__» Builtin.Getset_descriptor.descrGet
  rw [dga_obj]
  refine wpAny_bind (wpAny_pure ?_)
  unfold Builtin.Getset_descriptor.descrGetter Builtin.Getset_descriptor.descrCheckInstance Builtin.Getset_descriptor.descrNameAndClass isInstance
  simp only [KF.owner_class]
  repeat lk
  refine ⟨Code.quiet_builtin _ (by decide +kernel), codeAny_builtin KF.entry_class ?_⟩
  unfold Builtin.«object.__class__» shownTypeOf
  repeat lk
  exact h
theorem exc_entry {tk : Tok} {Q : Fin → Shared → Prop} (X : K.In s.heap) (I : ExcAt x D s.heap)
    (ha : findIn K (.ref D) "__class__" = some (some (.builtin "object.__class__"))) (hn : specialIn K (.builtin "object.__class__") "__get__" = some (some (.builtin "getset_descriptor.__get__"))) (htk : takesIn K (.builtin "object.__class__") = some true)
    (hm : mroIn K D (.type "object") = some true) (h : Q (.done (.ret (.ref D))) s) :
    wpAny (model prog w) A (Builtin.«object.__getattribute__» ⟨[.ref x, .str "__class__" tk], []⟩) Q E s := by
  obtain ⟨hh, g, d, t, os⟩ := s
  have L0 := I.type (M := model prog w)
  have L1 := exc_find (x := x) (M := model prog w) X ha hn htk
  unfold Builtin.«object.__getattribute__»
  repeat lk
  show wpAny _ _ (run (.call (.builtin "getset_descriptor.__get__") ⟨[.builtin "object.__class__", .ref x, .ref D], []⟩)) _ _ _
  refine wpAny_run (exc_classGet X I hm ?_)
  show wpAny _ _ (pure (Value.ref D)) _ _ _
  exact wpAny_pure (wpAny_pure h)
theorem exc_check {tk : Tok} {Q : Unit → Shared → Prop} (X : K.In s.heap) (I : ExcAt x D s.heap) (hb : mroIn K D (.type "BaseException") = some true) (h : Q () s) :
    wpAny (model prog w) A (checkBuiltinCall "BaseException.__getattribute__" ⟨[.ref x, .str "__class__" tk], []⟩) Q E s := by
  obtain ⟨hh, g, d, t, os⟩ := s
  have L0 := I.type (M := model prog w)
  have L1 := looks_mroIn (M := model prog w) X hb
  have hk : builtinKind "BaseException.__getattribute__" = some .slot := by decide +kernel
  have hsplit : splitId "BaseException.__getattribute__" = some ("BaseException", "__getattribute__") := by decide +kernel
  have ha := F.args_bexc_ga (.ref x) (.str "__class__" tk)
  simp only [checkBuiltinCall, hk, hsplit]
  unfold isInstance
  repeat lk
  exact h
theorem exc_class {Q : Option Value → Shared → Prop} (X : K.In s.heap) (I : ExcAt x D s.heap) (hga : findIn K (.ref D) "__getattribute__" = some (some (.builtin "BaseException.__getattribute__"))) (hgt : findIn K (.ref D) "__getattr__" = some none)
    (ha : findIn K (.ref D) "__class__" = some (some (.builtin "object.__class__"))) (hn : specialIn K (.builtin "object.__class__") "__get__" = some (some (.builtin "getset_descriptor.__get__"))) (htk : takesIn K (.builtin "object.__class__") = some true)
    (hm : mroIn K D (.type "object") = some true) (hb : mroIn K D (.type "BaseException") = some true)
    (h : Q (some (.ref D)) { s with toks := s.toks + 1 }) : wpAny (model prog w) A (getAttr? (.ref x) "__class__") Q E s := by
  obtain ⟨hh, g, d, t, os⟩ := s
  have L0 := I.type (M := model prog w)
  have L1 := looks_findIn (M := model prog w) X hga
  have L2 := looks_findIn (M := model prog w) X hgt
  unfold getAttr? getAttrBy? getAttrBy
  refine wpAny_bind (wpAny_mkText (wpAny_bind (wpAny_attempt (wpAny_holding (wpAny_bind (L0.at (wpAny_bind (L1.at ?_))))))))
  show wpAny _ _ (getAttrByItsOwn _ _ _ _ _ _) _ _ _
  unfold getAttrByItsOwn hookBefore
  refine wpAny_bind (L2.at (wpAny_bind (wpAny_attempt (wpAny_holding ?_))))
  show wpAny _ _ (boundAndCalled _ _ _) _ _ _
  unfold boundAndCalled
  have hbs : bindSpecial (.builtin "BaseException.__getattribute__") (.ref x) = pure (.builtin "BaseException.__getattribute__", [.ref x]) := by
    have hop : withoutEnding? "BaseException.__getattribute__" "#opaque" = none := by decide +kernel
    have hdat : withoutEnding? "BaseException.__getattribute__" "#data" = none := by decide +kernel
    have hk : builtinKind "BaseException.__getattribute__" = some .slot := by decide +kernel
    simp only [bindSpecial, typeOf, builtinType, hop, hdat, hk]; rfl
  rw [hbs]
  have hpl : plainId "BaseException.__getattribute__" = true := by decide +kernel
  refine wpAny_bind (wpAny_pure (wpAny_call (codeAny_call_builtin hpl F.entry_bexc_ga (exc_check (s := ⟨hh, g, d, t + 1, os⟩) X I hb (exc_entry (s := ⟨hh, g, d, t + 1, os⟩) X I ha hn htk hm ?_)))))
  show wpAny _ _ (handedOut (Value.ref D)) _ _ _
  exact handed_on rfl (wpAny_pure h)
theorem exc_kit (hga : findIn K (.ref D) "__getattribute__" = some (some (.builtin "BaseException.__getattribute__"))) (hgt : findIn K (.ref D) "__getattr__" = some none)
    (ha : findIn K (.ref D) "__class__" = some (some (.builtin "object.__class__"))) (hn : specialIn K (.builtin "object.__class__") "__get__" = some (some (.builtin "getset_descriptor.__get__"))) (htk : takesIn K (.builtin "object.__class__") = some true)
    (hcl : isClsIn K D = true) (hm : mroIn K D (.type "object") = some true) (hb : mroIn K D (.type "BaseException") = some true) :
    KitX K (.ref x) (.ref D) (ExcAt x D) where
  ty := fun M h X I => I.type
  it := fun M h X _ => by
    unfold isClsIn at hcl
    unfold clsIn at hcl
    split at hcl
    · rename_i c' d' cd' sl' ho
      intro A' Q' E' s' k q
      unfold isType loadHead
      exact wpAny_bind (wpAny_loadPart (k _ _ (X _ _ ho)) (wpAny_pure q))
    · cases hcl
  ne := fun h tp dd its n sl X htp => by
    unfold isClsIn at hcl
    unfold clsIn at hcl
    split at hcl
    · rename_i c' d' cd' sl' ho
      refine Bool.eq_false_iff.mpr fun q => ?_
      have e := Value.ref.inj (beq_iff_eq.mp q)
      have := X _ _ ho
      rw [e, htp] at this
      cases this
    · cases hcl
  ca := fun {_ _ _ _ _ s} X I h => exc_class X I hga hgt ha hn htk hm hb h
/-- isinstance of an exception that the ledger holds -/
theorem exc_isi {Q : Value → Shared → Prop} {c : Value} {b : Bool} {h₀ : Heap} {L : Addr} {news : List (Addr × Obj)} {oe : Obj} (N : News h₀ L s.heap news) (he : (x, oe) ∈ news) (hc : oe.cls = .ref D) (X : K.In s.heap)
    (hga : findIn K (.ref D) "__getattribute__" = some (some (.builtin "BaseException.__getattribute__"))) (hgt : findIn K (.ref D) "__getattr__" = some none)
    (ha : findIn K (.ref D) "__class__" = some (some (.builtin "object.__class__"))) (hn : specialIn K (.builtin "object.__class__") "__get__" = some (some (.builtin "getset_descriptor.__get__"))) (htk : takesIn K (.builtin "object.__class__") = some true)
    (hcl : isClsIn K D = true) (hm : mroIn K D (.type "object") = some true) (hb : mroIn K D (.type "BaseException") = some true) (ee : kitOne K (.ref D) c = some b) (h : ∀ tk, Q (.bool b) { s with toks := tk }) :
    wpAny (model prog w) A (call (.builtin "isinstance") [.ref x, c]) Q E s :=
  kia_one (exc_kit hga hgt ha hn htk hcl hm hb) X ⟨oe, (N _ he).1, hc⟩ ee (by intro q; cases q) h
end
end Mine
namespace Mine
open PySem PySem.W PyProof.Rows
/-- as Ct, with a fact of the ledger ahead -/
def Ck (prog : Program) (w : World) (K : Frag) (p : Program) (loose : List Str) (mean : ExcName → Option Value) (mg mb : Str → Option Value) (f : Addr) (sz : Nat) (vs : List Value) (P : List (Addr × Obj) → Prop) (R : Tok → Value) : Prop :=
  ∀ (hdl : Option Value) (dp un : Nat) (gd : Option (List Code)) (cn : Str) (cs : Scope) (a : Addr) (ccd : Value) (cl : List (Str × Addr)) (outer : List Env) (A₀ : Around) (base h₀ : Heap) (L : Addr) (m : Str → Option Value) (news : List (Addr × Obj)) (s : Shared) (Q E : Value → Shared → Prop),
    Below A₀ base outer h₀ → Fr h₀ L s.heap m → K.In h₀ → News h₀ L s.heap news → Top p loose mean mg mb h₀ → cs.kind = .function → dp + sz < recursionLimit → un + 8 * sz < cLine → P news →
    (∀ (t : Tok) (h' : Heap) (tk' : Nat), Fr h₀ L h' m → News h₀ L h' news → Q (R t) { s with heap := h', toks := tk' }) →
    wpAny (model prog w) { ktrTop dp un gd cn cs L a ccd cl outer with handled := hdl } (call (.ref f) vs) Q E s
theorem Ck.use {prog : Program} {w : World} {K : Frag} {p : Program} {loose : List Str} {mean : ExcName → Option Value} {mg mb : Str → Option Value} {f : Addr} {sz : Nat} {vs : List Value} {P : List (Addr × Obj) → Prop} {R : Tok → Value} (C : Ck prog w K p loose mean mg mb f sz vs P R)
    {hdl : Option Value} {dp un : Nat} {gd : Option (List Code)} {cn : Str} {cs : Scope} {a : Addr} {ccd : Value} {cl : List (Str × Addr)} {outer : List Env} {A₀ : Around} {base h₀ : Heap} {L : Addr} {m : Str → Option Value} {news : List (Addr × Obj)} {s : Shared} {Q E : Value → Shared → Prop}
    (B : Below A₀ base outer h₀ := by k_asm) (F : Fr h₀ L s.heap m := by k_asm) (X : K.In h₀ := by k_asm) (N : News h₀ L s.heap news := by k_asm) (T : Top p loose mean mg mb h₀ := by k_asm) (hk : cs.kind = .function := by first | exact rfl | assumption) (hd : dp + sz < recursionLimit := by first | assumption | omega | ktr_room) (hu : un + 8 * sz < cLine := by first | assumption | omega | ktr_units) (hp : P news := by first | trivial | k_mem)
    (ret : ∀ (t : Tok) (h' : Heap) (tk' : Nat), Fr h₀ L h' m → News h₀ L h' news → Q (R t) { s with heap := h', toks := tk' }) :
    wpAny (model prog w) { ktrTop dp un gd cn cs L a ccd cl outer with handled := hdl } (call (.ref f) vs) Q E s := C _ _ _ _ _ _ _ _ _ _ _ _ _ _ _ _ _ _ _ B F X N T hk hd hu hp ret
theorem ck_retS {h₀ h' : Heap} {L : Addr} {m : Str → Option Value} {news : List (Addr × Obj)} {s : Shared} {Q : Value → Shared → Prop} {t : Tok} {tk' : Nat} {x y : Str}
    (hret : ∀ (t : Tok) (h' : Heap) (tk' : Nat), Fr h₀ L h' m → News h₀ L h' news → Q (.str x t) { s with heap := h', toks := tk' }) (e : y = x) (F : Fr h₀ L h' m) (N : News h₀ L h' news) : Q (.str y t) { s with heap := h', toks := tk' } := by
  subst e
  exact hret t h' tk' F N
end Mine
namespace Mine
section
open PySem PySem.W PyProof.Rows PySem.SeqAt
variable {prog : Program} {w : World} {A : Around} {E : Value → Shared → Prop} {s : Shared}
def isB : Value → Bool
  | .bool _ => true
  | _ => false
def isT : Value → Bool
  | .bool b => b
  | _ => false
theorem isT_eq {v : Value} (h : isB v = true) (A : Around) (s : Shared) : EqAt A s v (.bool true) (isT v) := by
  cases v <;> first | (rename_i b; have e := EqAt.bool_bool (A := A) (s := s) b true; cases b <;> exact e) | cases h
/-- how often True stands in a list of bools -/
theorem count_true {l : Addr} {vs : List Value} {n : Nat} {Q : Value → Shared → Prop} (hl : s.heap.IsList l vs.toArray) (hb : vs.all isB = true) (hn : vs.countP isT = n) {z : Int} (hz : ((n : Nat) : Int) = z)
    (h : Q (.int z s.toks) { s with toks := s.toks + 1 }) : wpAny (model prog w) A (call (.builtin "list.count") [.ref l, .bool true]) Q E s := by
  subst hz
  subst hn
  obtain ⟨⟨cls, dd, data, sl⟩, ho, hc, n, hd⟩ := id hl
  simp only at hc hd
  subst hc hd
  exact call_meets PySem.F.slot_list_count ⟨_, ho, rfl⟩ PySem.F.entry_list_count (PySem.F.args_list_count_2 _ _) (list_countAt l vs.toArray n dd sl (.bool true) isT)
    ⟨ho, fun y hy => isT_eq (List.all_eq_true.mp hb y (by simpa using hy)) _ _, h⟩
/-- where it stands first -/
def firstT : List Value → Nat → Bool
  | [], _ => false
  | v :: _, 0 => isT v
  | v :: r, j + 1 => !isT v && firstT r j
theorem firstT_at : ∀ {vs : List Value} {j : Nat}, firstT vs j = true → ∃ hj : j < vs.length, isT vs[j] = true ∧ ∀ m (hm : m < vs.length), m < j → isT vs[m] = false
  | [], j, h => by cases j <;> cases h
  | v :: r, 0, h => ⟨Nat.succ_pos _, h, fun m _ hlt => absurd hlt (Nat.not_lt_zero _)⟩
  | v :: r, j + 1, h => by
    simp only [firstT, Bool.and_eq_true, Bool.not_eq_true'] at h
    obtain ⟨hj, h1, h2⟩ := firstT_at h.2
    refine ⟨Nat.succ_lt_succ hj, h1, fun m hm hlt => ?_⟩
    cases m with
    | zero => exact h.1
    | succ m => exact h2 m (Nat.lt_of_succ_lt_succ hm) (Nat.lt_of_succ_lt_succ hlt)
theorem index_true {l : Addr} {vs : List Value} {j : Nat} {Q : Value → Shared → Prop} (hl : s.heap.IsList l vs.toArray) (hb : vs.all isB = true) (hj : firstT vs j = true) (hs : j < 1000) {z : Int} (hz : ((j : Nat) : Int) = z)
    (h : Q (.int z s.toks) { s with toks := s.toks + 1 }) : wpAny (model prog w) A (call (.builtin "list.index") [.ref l, .bool true]) Q E s := by
  subst hz
  obtain ⟨⟨cls, dd, data, sl⟩, ho, hc, n, hd⟩ := id hl
  simp only at hc hd
  subst hc hd
  obtain ⟨hlt, h1, h2⟩ := firstT_at hj
  exact call_meets PySem.F.slot_list_index ⟨_, ho, rfl⟩ PySem.F.entry_list_index (PySem.F.args_list_index_2 _ _)
    (list_indexAt l vs.toArray n dd sl (.bool true) isT j (by simpa using hlt) (by omega) (by simpa using h1) (fun m hm hlt' => by simpa using h2 m (by simpa using hm) hlt')) ⟨ho, fun y hy => isT_eq (List.all_eq_true.mp hb y (by simpa using hy)) _ _, h⟩
end
end Mine
local macro_rules | `(tactic| walk_at "call builtin:list.index") => `(tactic| (k_here; (with_reducible show wpAny _ _ (call (Value.builtin _) [Value.ref _, Value.bool _]) _ _ _); k_dflt (first
  | (refine' Mine.index_true (j := 0) ?k1 ?k2 ?k3 (by decide) (z := 0) (by rfl) ?_; (case k1 => is_list); (case k2 => rfl); (case k3 => rfl))
  | (refine' Mine.index_true (j := 1) ?k1 ?k2 ?k3 (by decide) (z := 1) (by rfl) ?_; (case k1 => is_list); (case k2 => rfl); (case k3 => rfl))
  | (refine' Mine.index_true (j := 2) ?k1 ?k2 ?k3 (by decide) (z := 2) (by rfl) ?_; (case k1 => is_list); (case k2 => rfl); (case k3 => rfl))
  | (refine' Mine.index_true (j := 3) ?k1 ?k2 ?k3 (by decide) (z := 3) (by rfl) ?_; (case k1 => is_list); (case k2 => rfl); (case k3 => rfl))
  | (refine' Mine.index_true (j := 6) ?k1 ?k2 ?k3 (by decide) (z := 6) (by rfl) ?_; (case k1 => is_list); (case k2 => rfl); (case k3 => rfl))
  | (refine' Mine.index_true (j := 9) ?k1 ?k2 ?k3 (by decide) (z := 9) (by rfl) ?_; (case k1 => is_list); (case k2 => rfl); (case k3 => rfl)))))
namespace Mine
theorem ite_nt {P Q : Prop} (h : Q) : if (!true) = true then P else Q := by simpa using h
theorem ite_nf {P Q : Prop} (h : P) : if (!false) = true then P else Q := by simpa using h
end Mine
namespace Mine
theorem ite_f {P Q : Prop} (h : Q) : if false = true then P else Q := by simpa using h
theorem ite_t {P Q : Prop} (h : P) : if true = true then P else Q := by simpa using h
end Mine
namespace Mine
theorem c_kind_off (w : World) (mean : ExcName → Option Value) (mg mb : Str → Option Value) (e : Addr) (oe : Obj) (hc : oe.cls = .ref 61) :
    Ck PySem.Challenge.rw_uf050027_03.row.prog w (hd03.heap_39 w.params) hd03.view_39 (looseW hd03.view_39 []) mean mg mb 231 1 [.ref e] (fun news => (e, oe) ∈ news) (fun t => .str (Str.ofString "off") t) := by
  unfold Ck
  k_fill
  w_top off
  intro hdl dp un gd cn cs a ccd cl outer A₀ base h₀ L m news s Q E B F X N T hk hd hu he hret
  refine wpAny_call ?_
  k_dflt cell_enter
  k_with_none
  k_with "call builtin:isinstance" => (k_here; (with_reducible show wpAny _ _ (call (Value.builtin "isinstance") [Value.ref _, _]) _ _ _); k_dflt (refine' Mine.exc_isi ?N ?he ?hc ?X ?a1 ?a2 ?a3 ?a4 ?a5 ?a6 ?a7 ?a8 ?ee ?_; (case N => k_asm); (case hc => assumption); (case he => repeat (first | assumption | refine List.mem_cons_of_mem _ ?_)); (case X => k_in); (case a1 => k_is); (case a2 => k_is); (case a3 => k_is); (case a4 => k_is); (case a5 => k_is); (case a6 => k_is); (case a7 => k_is); (case a8 => k_is); (case ee => kit_is)); intro _)
  k_with "call builtin:list.count" => (k_here; (with_reducible show wpAny _ _ (call (Value.builtin _) [Value.ref _, Value.bool _]) _ _ _); k_dflt (refine' Mine.count_true (n := 1) ?k1 ?k2 ?k3 (z := 1) (by rfl) ?_; (case k1 => is_list); (case k2 => rfl); (case k3 => rfl)))
  k_with "ite" => ((with_reducible show ite ((!true) = true) _ _); refine Mine.ite_nt ?_)
  k_with "ite" => ((with_reducible show ite ((!false) = true) _ _); refine Mine.ite_nf ?_)
  k_with "ite" => ((with_reducible show ite (false = true) _ _); refine Mine.ite_f ?_)
  k_with "ite" => ((with_reducible show ite (true = true) _ _); refine Mine.ite_t ?_)
  k_steps
  all_goals (refine' ck_retS hret ?e2 ?e3 ?e4; (case e3 => k_asm); (case e4 => first | k_asm | (refine' cb_drop ?cbN ?cbS; (case cbN => assumption); (case cbS => kcj_all))); (case e2 => rfl))
theorem u_kind_off {w : World} {mean : ExcName → Option Value} {mg mb : Str → Option Value} {e t₁ : Addr} {n₂ : List (Addr × Obj)} {vs : List Value} (G : Got n₂ e t₁ (.ref 61) vs)
    {hdl : Option Value} {dp un : Nat} {gd : Option (List Code)} {cn : Str} {cs : Scope} {a : Addr} {ccd : Value} {cl : List (Str × Addr)} {outer : List Env} {A₀ : Around} {base h₀ : Heap} {L : Addr} {m : Str → Option Value} {news : List (Addr × Obj)} {s : Shared} {Q E : Value → Shared → Prop}
    (N₂ : News h₀ L s.heap n₂) (B : Below A₀ base outer h₀) (F : Fr h₀ L s.heap m) (X : (hd03.heap_39 w.params).In h₀) (N : News h₀ L s.heap news) (T : Top hd03.view_39 (looseW hd03.view_39 []) mean mg mb h₀) (hk : cs.kind = .function) (hd : dp + 1 < recursionLimit) (hu : un + 8 * 1 < cLine)
    (ret : ∀ (t : Tok) (h' : Heap) (tk' : Nat), Fr h₀ L h' m → News h₀ L h' news → Q (.str (Str.ofString "off") t) { s with heap := h', toks := tk' }) :
    wpAny (model PySem.Challenge.rw_uf050027_03.row.prog w) { ktrTop dp un gd cn cs L a ccd cl outer with handled := hdl } (call (.ref 231) [.ref e]) Q E s := by
  obtain ⟨oe, ot, ws, nt, h1, _, hc, _⟩ := G
  exact (c_kind_off w mean mg mb e oe hc).use B F X (N₂.append N) T hk hd hu (List.mem_append.mpr (.inl h1)) fun t h' tk' F' N' => ret t h' tk' F' fun p hp => N' p (List.mem_append.mpr (.inr hp))
end Mine
namespace Mine
theorem c_kind_early (w : World) (mean : ExcName → Option Value) (mg mb : Str → Option Value) (e : Addr) (oe : Obj) (hc : oe.cls = .ref 73) :
    Ck PySem.Challenge.rw_uf050027_03.row.prog w (hd03.heap_39 w.params) hd03.view_39 (looseW hd03.view_39 []) mean mg mb 231 1 [.ref e] (fun news => (e, oe) ∈ news) (fun t => .str (Str.ofString "early") t) := by
  unfold Ck
  k_fill
  w_top off
  intro hdl dp un gd cn cs a ccd cl outer A₀ base h₀ L m news s Q E B F X N T hk hd hu he hret
  refine wpAny_call ?_
  k_dflt cell_enter
  k_with_none
  k_with "call builtin:isinstance" => (k_here; (with_reducible show wpAny _ _ (call (Value.builtin "isinstance") [Value.ref _, _]) _ _ _); k_dflt (refine' Mine.exc_isi ?N ?he ?hc ?X ?a1 ?a2 ?a3 ?a4 ?a5 ?a6 ?a7 ?a8 ?ee ?_; (case N => k_asm); (case hc => assumption); (case he => repeat (first | assumption | refine List.mem_cons_of_mem _ ?_)); (case X => k_in); (case a1 => k_is); (case a2 => k_is); (case a3 => k_is); (case a4 => k_is); (case a5 => k_is); (case a6 => k_is); (case a7 => k_is); (case a8 => k_is); (case ee => kit_is)); intro _)
  k_with "call builtin:list.count" => (k_here; (with_reducible show wpAny _ _ (call (Value.builtin _) [Value.ref _, Value.bool _]) _ _ _); k_dflt (refine' Mine.count_true (n := 1) ?k1 ?k2 ?k3 (z := 1) (by rfl) ?_; (case k1 => is_list); (case k2 => rfl); (case k3 => rfl)))
  k_with "ite" => ((with_reducible show ite ((!true) = true) _ _); refine Mine.ite_nt ?_)
  k_with "ite" => ((with_reducible show ite ((!false) = true) _ _); refine Mine.ite_nf ?_)
  k_with "ite" => ((with_reducible show ite (false = true) _ _); refine Mine.ite_f ?_)
  k_with "ite" => ((with_reducible show ite (true = true) _ _); refine Mine.ite_t ?_)
  k_steps
  all_goals (refine' ck_retS hret ?e2 ?e3 ?e4; (case e3 => k_asm); (case e4 => first | k_asm | (refine' cb_drop ?cbN ?cbS; (case cbN => assumption); (case cbS => kcj_all))); (case e2 => rfl))
theorem u_kind_early {w : World} {mean : ExcName → Option Value} {mg mb : Str → Option Value} {e t₁ : Addr} {n₂ : List (Addr × Obj)} {vs : List Value} (G : Got n₂ e t₁ (.ref 73) vs)
    {hdl : Option Value} {dp un : Nat} {gd : Option (List Code)} {cn : Str} {cs : Scope} {a : Addr} {ccd : Value} {cl : List (Str × Addr)} {outer : List Env} {A₀ : Around} {base h₀ : Heap} {L : Addr} {m : Str → Option Value} {news : List (Addr × Obj)} {s : Shared} {Q E : Value → Shared → Prop}
    (N₂ : News h₀ L s.heap n₂) (B : Below A₀ base outer h₀) (F : Fr h₀ L s.heap m) (X : (hd03.heap_39 w.params).In h₀) (N : News h₀ L s.heap news) (T : Top hd03.view_39 (looseW hd03.view_39 []) mean mg mb h₀) (hk : cs.kind = .function) (hd : dp + 1 < recursionLimit) (hu : un + 8 * 1 < cLine)
    (ret : ∀ (t : Tok) (h' : Heap) (tk' : Nat), Fr h₀ L h' m → News h₀ L h' news → Q (.str (Str.ofString "early") t) { s with heap := h', toks := tk' }) :
    wpAny (model PySem.Challenge.rw_uf050027_03.row.prog w) { ktrTop dp un gd cn cs L a ccd cl outer with handled := hdl } (call (.ref 231) [.ref e]) Q E s := by
  obtain ⟨oe, ot, ws, nt, h1, _, hc, _⟩ := G
  exact (c_kind_early w mean mg mb e oe hc).use B F X (N₂.append N) T hk hd hu (List.mem_append.mpr (.inl h1)) fun t h' tk' F' N' => ret t h' tk' F' fun p hp => N' p (List.mem_append.mpr (.inr hp))
end Mine
namespace Mine
open PySem PySem.W PyProof.Rows
/-- a call out of the law's own frame that hands back a value -/
def Cz (prog : Program) (w : World) (K : Frag) (p : Program) (loose : List Str) (mean : ExcName → Option Value) (mg mb : Str → Option Value) (f : Addr) (vs : List Value) (P : List (Addr × Obj) → Prop) (R : Tok → Value) : Prop :=
  ∀ (cn : Str) (cs : Scope) (a : Addr) (ccd : Value) (A₀ : Around) (base h₀ : Heap) (L : Addr) (m : Str → Option Value) (news : List (Addr × Obj)) (s : Shared) (Q E : Value → Shared → Prop),
    Below A₀ base [] h₀ → Fr h₀ L s.heap m → K.In h₀ → News h₀ L s.heap news → Top p loose mean mg mb h₀ → K.In base → Top p loose mean mg mb base → cs.kind = .function → P news →
    (∀ (t : Tok) (h' : Heap) (tk' : Nat), Fr h₀ L h' m → News h₀ L h' news → Q (R t) { s with heap := h', toks := tk' }) →
    wpAny (model prog w) (callerA.deeper (envOf cn cs L a ccd)) (call (.ref f) vs) Q E s
theorem Cz.use {prog : Program} {w : World} {K : Frag} {p : Program} {loose : List Str} {mean : ExcName → Option Value} {mg mb : Str → Option Value} {f : Addr} {vs : List Value} {P : List (Addr × Obj) → Prop} {R : Tok → Value} (C : Cz prog w K p loose mean mg mb f vs P R)
    {cn : Str} {cs : Scope} {a : Addr} {ccd : Value} {A₀ : Around} {base h₀ : Heap} {L : Addr} {m : Str → Option Value} {news : List (Addr × Obj)} {s : Shared} {Q E : Value → Shared → Prop}
    (B : Below A₀ base [] h₀ := by k_asm) (F : Fr h₀ L s.heap m := by k_asm) (X : K.In h₀ := by k_asm) (N : News h₀ L s.heap news := by k_asm) (T : Top p loose mean mg mb h₀ := by k_asm) (XB : K.In base := by assumption) (TB : Top p loose mean mg mb base := by assumption) (hk : cs.kind = .function := by first | exact rfl | assumption) (hp : P news := by first | trivial | k_mem)
    (ret : ∀ (t : Tok) (h' : Heap) (tk' : Nat), Fr h₀ L h' m → News h₀ L h' news → Q (R t) { s with heap := h', toks := tk' }) :
    wpAny (model prog w) (callerA.deeper (envOf cn cs L a ccd)) (call (.ref f) vs) Q E s := C _ _ _ _ _ _ _ _ _ _ _ _ _ B F X N T XB TB hk hp ret
/-- the same, a new pair handed back -/
def Cz2 (prog : Program) (w : World) (K : Frag) (p : Program) (loose : List Str) (mean : ExcName → Option Value) (mg mb : Str → Option Value) (f : Addr) (vs : List Value) (P : List (Addr × Obj) → Prop) (R₁ R₂ : Tok → Value) (Fc : Prop) : Prop :=
  ∀ (cn : Str) (cs : Scope) (a : Addr) (ccd : Value) (A₀ : Around) (base h₀ : Heap) (L : Addr) (m : Str → Option Value) (news : List (Addr × Obj)) (s : Shared) (Q E : Value → Shared → Prop),
    Below A₀ base [] h₀ → Fr h₀ L s.heap m → K.In h₀ → News h₀ L s.heap news → Top p loose mean mg mb h₀ → K.In base → Top p loose mean mg mb base → cs.kind = .function → P news →
    (∀ (D : Addr) (t₁ t₂ : Tok) (c : Nat) (h' : Heap) (tk' : Nat), Fc → Fr h₀ L h' m → News h₀ L h' ((D, ({ cls := .type "tuple", data := .seq #[R₁ t₁, R₂ t₂] c } : Obj)) :: news) → (∀ p ∈ news, p.1 < D) → Q (.ref D) { s with heap := h', toks := tk' }) →
    wpAny (model prog w) (callerA.deeper (envOf cn cs L a ccd)) (call (.ref f) vs) Q E s
theorem Cz2.use {prog : Program} {w : World} {K : Frag} {p : Program} {loose : List Str} {mean : ExcName → Option Value} {mg mb : Str → Option Value} {f : Addr} {vs : List Value} {P : List (Addr × Obj) → Prop} {R₁ R₂ : Tok → Value} {Fc : Prop} (C : Cz2 prog w K p loose mean mg mb f vs P R₁ R₂ Fc)
    {cn : Str} {cs : Scope} {a : Addr} {ccd : Value} {A₀ : Around} {base h₀ : Heap} {L : Addr} {m : Str → Option Value} {news : List (Addr × Obj)} {s : Shared} {Q E : Value → Shared → Prop}
    (B : Below A₀ base [] h₀ := by k_asm) (F : Fr h₀ L s.heap m := by k_asm) (X : K.In h₀ := by k_asm) (N : News h₀ L s.heap news := by k_asm) (T : Top p loose mean mg mb h₀ := by k_asm) (XB : K.In base := by assumption) (TB : Top p loose mean mg mb base := by assumption) (hk : cs.kind = .function := by first | exact rfl | assumption) (hp : P news := by first | trivial | k_mem)
    (ret : ∀ (D : Addr) (t₁ t₂ : Tok) (c : Nat) (h' : Heap) (tk' : Nat), Fc → Fr h₀ L h' m → News h₀ L h' ((D, ({ cls := .type "tuple", data := .seq #[R₁ t₁, R₂ t₂] c } : Obj)) :: news) → (∀ p ∈ news, p.1 < D) → Q (.ref D) { s with heap := h', toks := tk' }) :
    wpAny (model prog w) (callerA.deeper (envOf cn cs L a ccd)) (call (.ref f) vs) Q E s := C _ _ _ _ _ _ _ _ _ _ _ _ _ B F X N T XB TB hk hp ret
theorem cz_ret2 {h₀ h' : Heap} {L D : Addr} {m : Str → Option Value} {news all : List (Addr × Obj)} {s : Shared} {Q : Value → Shared → Prop} {R₁ R₂ : Tok → Value} {Fc : Prop} {v₁ v₂ : Value} {t₁ t₂ : Tok} {c : Nat} {tk' : Nat}
    (hret : ∀ (D : Addr) (t₁ t₂ : Tok) (c : Nat) (h' : Heap) (tk' : Nat), Fc → Fr h₀ L h' m → News h₀ L h' ((D, ({ cls := .type "tuple", data := .seq #[R₁ t₁, R₂ t₂] c } : Obj)) :: news) → (∀ p ∈ news, p.1 < D) → Q (.ref D) { s with heap := h', toks := tk' })
    (F : Fr h₀ L h' m) (NM : News h₀ L h' all ∧ (D, ({ cls := .type "tuple", data := .seq #[v₁, v₂] c } : Obj)) ∈ all) (hn : ∀ p ∈ news, p ∈ all) (hl : ∀ p ∈ news, p.1 < D) (e₁ : v₁ = R₁ t₁) (e₂ : v₂ = R₂ t₂) (hf : Fc) : Q (.ref D) { s with heap := h', toks := tk' } := by
  subst e₁ e₂
  refine hret D t₁ t₂ c h' tk' hf F (fun p hp => ?_) hl
  rcases List.mem_cons.mp hp with rfl | hp
  · exact NM.1 _ NM.2
  · exact NM.1 p (hn p hp)
theorem item_two {prog : Program} {w : World} {A : Around} {E : Value → Shared → Prop} {s : Shared} {value slice : PySem.Expr} {l : Addr} {vs : List Value} {a b : Int} {k : Int} {u : Tok} {Q : Value → Shared → Prop} (hl : s.heap.IsList l vs.toArray) (hi : IntsAre vs [a, b])
    (h0 : 0 ≤ k ∧ k < 2) (h : ∀ t x, (k = 0 ∧ x = a ∨ k = 1 ∧ x = b) → Q (.int x t) s)
    (hs : subscripted slice false (.ref l) (.int k u) = operate [.ref l, .int k u] (getItem (.ref l) (.int k u)) := by with_unfolding_all rfl) :
    wpAny (model prog w) A (subscriptTail value slice (.ref l) (.int k u)) Q E s := by
  obtain ⟨t, hx⟩ := hi.get k.toNat _ (ints_getD h0.1 (by simpa using h0.2))
  refine tail_any hl.typeIs slot_list_getitem.lookup (wpAny_getItem_list hl h0.1 (by omega) (by simpa using hx) (h t _ ?_)) hs
  rcases (show k = 0 ∨ k = 1 by omega) with e | e <;> subst e <;> simp
end Mine
section
local macro_rules | `(tactic| k_mem) => `(tactic| assumption)
namespace Mine
theorem c_told_ok (w : World) (mean : ExcName → Option Value) (mg mb : Str → Option Value) (S : Addr) (nm : Value) (se ba lo hi now o : Int) (t₁ t₂ t₃ t₄ tn to : Tok) (c : Nat) (ho : 0 ≤ o ∧ o ≤ 999) (hp : ba ≤ now ∧ now ≤ 10000000000000 ∧ 0 ≤ se ∧ 0 ≤ ba ∧ se ≤ 1000000000000 ∧ ba ≤ 1000000000000) :
    Cz2 PySem.Challenge.rw_uf050027_03.row.prog w (hd03.heap_39 w.params) hd03.view_39 (looseW hd03.view_39 []) mean mg mb 245 [.ref S, .int now tn, .int o to] (fun news => (S, ({ cls := .type "tuple", data := .seq #[nm, .int se t₁, .int ba t₂, .int lo t₃, .int hi t₄] c } : Obj)) ∈ news) (fun t => .int (lo + now - ba - sl (now - ba) o) t) (fun t => .int (hi + now - se + sl (now - se) o) t) True := by
  unfold Cz2
  k_fill
  w_top off
  intro cn cs a ccd A₀ base h₀ L m news s Q E B F X N T XB TB hk hP hret
  refine wpAny_call ?_
  k_dflt (refine' code_defS0 ?k1 ?k2 ?k3 ?k4 ?k5 ?kA ?k6 ?k7 ?k8 ?k9 ?kB ?_ ?cK ?c2 ?c3 ?c4 ?c5; (case kA => exact rfl); (case k2 => k_asm); (case k1 => k_asm); (case k3 => k_asm); (case k4 => k_asm); (case k5 => k_asm); (case k6 => k_is); (case k7 => k_is); (case k8 => k_room); (case k9 => first | exact binds_K (by k_in) rfl (by k_is) rfl rfl rfl | exact BindsTo.of_eq rfl); (case kB => exact locs rfl); (case cK => assumption); (case c2 => exact rfl); (case c3 => exact rfl); (case c4 => exact rfl); (case c5 => decide); k_whole; intro g' L' h' FG' F' N' B' X' T' D'; (try dsimp only); (try k_lift B'); (try k_fold))
  k_with_none
  k_with "call ref" => (k_here; (with_reducible show wpAny _ _ (call (Value.ref 196) _) _ _ _); k_dflt (refine Mine.Ct.use (Mine.c_lmix _ _ _ _ _ _ _ _) (ret := ?_)); intro t9 h9 tk9 P9 F9 N9; (try dsimp only); (try k_fold))
  k_with "call ref" => (k_here; (with_reducible show wpAny _ _ (call (Value.ref 203) _) _ _ _); k_dflt (refine Mine.Ct.use (Mine.c_lbig _ _ _ _ _ _ _ _) (ret := ?_)); intro t9 h9 tk9 P9 F9 N9; (try dsimp only); (try k_fold))
  k_with "call ref" => (k_here; (with_reducible show wpAny _ _ (call (Value.ref 210) _) _ _ _); k_dflt (refine Mine.Ct.use (Mine.c_loff _ _ _ _ _ _) (ret := ?_)); intro t9 h9 tk9 P9 F9 N9; (try dsimp only); (try k_fold))
  k_with "call ref" => (k_here; (with_reducible show wpAny _ _ (call (Value.ref 168) _) _ _ _); k_dflt (refine Mine.Ct.use (Mine.c_slack _ _ _ _ _ _ _ _) (ret := ?_)); intro t9 h9 tk9 P9 F9 N9; (try dsimp only); (try k_fold))
  k_with "call ref" => (k_here; (with_reducible show wpAny _ _ (call (Value.ref 217) _) _ _ _); k_dflt (refine Mine.Ct.use (Mine.c_lslack _ _ _ _ _ _ _ _) (ret := ?_)); intro t9 h9 tk9 P9 F9 N9; (try dsimp only); (try k_fold))
  k_with "ite" => ((with_reducible show ite ((!true) = true) _ _); refine Mine.ite_nt ?_)
  k_with "ite" => ((with_reducible show ite ((!false) = true) _ _); refine Mine.ite_nf ?_)
  k_with "ite" => ((with_reducible show ite (false = true) _ _); refine Mine.ite_f ?_)
  k_with "ite" => ((with_reducible show ite (true = true) _ _); refine Mine.ite_t ?_)
  k_with "call ref" => (k_here; (with_reducible show wpAny _ _ (call (Value.ref 231) [Value.ref _]) _ _ _); (with_reducible rename Got _ _ _ (Value.ref 61) _ => gtX); k_dflt (refine' Mine.u_kind_off gtX ?k0 ?k1 ?k2 ?k3 ?k4 ?k5 ?kK ?kd ?ku ?_; (case k0 => assumption); (case k1 => k_asm); (case k2 => k_asm); (case k3 => k_asm); (case k4 => k_asm); (case k5 => k_asm); (case kK => first | exact rfl | assumption); (case kd => first | assumption | omega | ktr_room); (case ku => first | assumption | omega | ktr_units)); intro t9 h9 tk9 F9 N9; (try dsimp only); (try k_fold))
  k_with "call ref" => (k_here; (with_reducible show wpAny _ _ (call (Value.ref 231) [Value.ref _]) _ _ _); (with_reducible rename Got _ _ _ (Value.ref 73) _ => gtX); k_dflt (refine' Mine.u_kind_early gtX ?k0 ?k1 ?k2 ?k3 ?k4 ?k5 ?kK ?kd ?ku ?_; (case k0 => assumption); (case k1 => k_asm); (case k2 => k_asm); (case k3 => k_asm); (case k4 => k_asm); (case k5 => k_asm); (case kK => first | exact rfl | assumption); (case kd => first | assumption | omega | ktr_room); (case ku => first | assumption | omega | ktr_units)); intro t9 h9 tk9 F9 N9; (try dsimp only); (try k_fold))
  k_steps
  all_goals (refine' cz_ret2 hret ?F ?NM ?hn ?hl ?q1 ?q2 ?qf; (case F => k_asm); (case NM => (refine ⟨by k_asm, ?_⟩; k_mem)); (case hn => first | exact fun _ h => h | kcj_all); (case hl => assumption); (case q1 => first | rfl | (exfalso; omega)); (case q2 => first | rfl | (exfalso; omega)); (case qf => trivial); (all_goals (first | exact (0 : Nat) | skip)))
end Mine
namespace Mine
theorem c_told_early (w : World) (mean : ExcName → Option Value) (mg mb : Str → Option Value) (S : Addr) (nm : Value) (se ba lo hi now o : Int) (t₁ t₂ t₃ t₄ tn to : Tok) (c : Nat) (ho : 0 ≤ o ∧ o ≤ 999) (hp : now < ba) :
    Cz PySem.Challenge.rw_uf050027_03.row.prog w (hd03.heap_39 w.params) hd03.view_39 (looseW hd03.view_39 []) mean mg mb 245 [.ref S, .int now tn, .int o to] (fun news => (S, ({ cls := .type "tuple", data := .seq #[nm, .int se t₁, .int ba t₂, .int lo t₃, .int hi t₄] c } : Obj)) ∈ news) (fun t => .str (Str.ofString "early") t) := by
  unfold Cz
  k_fill
  w_top off
  intro cn cs a ccd A₀ base h₀ L m news s Q E B F X N T XB TB hk hP hret
  refine wpAny_call ?_
  k_dflt (refine' code_defS0 ?k1 ?k2 ?k3 ?k4 ?k5 ?kA ?k6 ?k7 ?k8 ?k9 ?kB ?_ ?cK ?c2 ?c3 ?c4 ?c5; (case kA => exact rfl); (case k2 => k_asm); (case k1 => k_asm); (case k3 => k_asm); (case k4 => k_asm); (case k5 => k_asm); (case k6 => k_is); (case k7 => k_is); (case k8 => k_room); (case k9 => first | exact binds_K (by k_in) rfl (by k_is) rfl rfl rfl | exact BindsTo.of_eq rfl); (case kB => exact locs rfl); (case cK => assumption); (case c2 => exact rfl); (case c3 => exact rfl); (case c4 => exact rfl); (case c5 => decide); k_whole; intro g' L' h' FG' F' N' B' X' T' D'; (try dsimp only); (try k_lift B'); (try k_fold))
  k_with_none
  k_with "call ref" => (k_here; (with_reducible show wpAny _ _ (call (Value.ref 196) _) _ _ _); k_dflt (refine Mine.Ct.use (Mine.c_lmix _ _ _ _ _ _ _ _) (ret := ?_)); intro t9 h9 tk9 P9 F9 N9; (try dsimp only); (try k_fold))
  k_with "call ref" => (k_here; (with_reducible show wpAny _ _ (call (Value.ref 203) _) _ _ _); k_dflt (refine Mine.Ct.use (Mine.c_lbig _ _ _ _ _ _ _ _) (ret := ?_)); intro t9 h9 tk9 P9 F9 N9; (try dsimp only); (try k_fold))
  k_with "call ref" => (k_here; (with_reducible show wpAny _ _ (call (Value.ref 210) _) _ _ _); k_dflt (refine Mine.Ct.use (Mine.c_loff _ _ _ _ _ _) (ret := ?_)); intro t9 h9 tk9 P9 F9 N9; (try dsimp only); (try k_fold))
  k_with "call ref" => (k_here; (with_reducible show wpAny _ _ (call (Value.ref 168) _) _ _ _); k_dflt (refine Mine.Ct.use (Mine.c_slack _ _ _ _ _ _ _ _) (ret := ?_)); intro t9 h9 tk9 P9 F9 N9; (try dsimp only); (try k_fold))
  k_with "call ref" => (k_here; (with_reducible show wpAny _ _ (call (Value.ref 217) _) _ _ _); k_dflt (refine Mine.Ct.use (Mine.c_lslack _ _ _ _ _ _ _ _) (ret := ?_)); intro t9 h9 tk9 P9 F9 N9; (try dsimp only); (try k_fold))
  k_with "ite" => ((with_reducible show ite ((!true) = true) _ _); refine Mine.ite_nt ?_)
  k_with "ite" => ((with_reducible show ite ((!false) = true) _ _); refine Mine.ite_nf ?_)
  k_with "ite" => ((with_reducible show ite (false = true) _ _); refine Mine.ite_f ?_)
  k_with "ite" => ((with_reducible show ite (true = true) _ _); refine Mine.ite_t ?_)
  k_with "call ref" => (k_here; (with_reducible show wpAny _ _ (call (Value.ref 231) [Value.ref _]) _ _ _); (with_reducible rename Got _ _ _ (Value.ref 61) _ => gtX); k_dflt (refine' Mine.u_kind_off gtX ?k0 ?k1 ?k2 ?k3 ?k4 ?k5 ?kK ?kd ?ku ?_; (case k0 => assumption); (case k1 => k_asm); (case k2 => k_asm); (case k3 => k_asm); (case k4 => k_asm); (case k5 => k_asm); (case kK => first | exact rfl | assumption); (case kd => first | assumption | omega | ktr_room); (case ku => first | assumption | omega | ktr_units)); intro t9 h9 tk9 F9 N9; (try dsimp only); (try k_fold))
  k_with "call ref" => (k_here; (with_reducible show wpAny _ _ (call (Value.ref 231) [Value.ref _]) _ _ _); (with_reducible rename Got _ _ _ (Value.ref 73) _ => gtX); k_dflt (refine' Mine.u_kind_early gtX ?k0 ?k1 ?k2 ?k3 ?k4 ?k5 ?kK ?kd ?ku ?_; (case k0 => assumption); (case k1 => k_asm); (case k2 => k_asm); (case k3 => k_asm); (case k4 => k_asm); (case k5 => k_asm); (case kK => first | exact rfl | assumption); (case kd => first | assumption | omega | ktr_room); (case ku => first | assumption | omega | ktr_units)); intro t9 h9 tk9 F9 N9; (try dsimp only); (try k_fold))
  k_steps
  all_goals (refine' ck_retS hret ?e2 ?e3 ?e4; (case e3 => k_asm); (case e4 => first | k_asm | (refine' cb_drop ?cbN ?cbS; (case cbN => assumption); (case cbS => kcj_all))); (case e2 => rfl))
end Mine
namespace Mine
theorem c_told_off (w : World) (mean : ExcName → Option Value) (mg mb : Str → Option Value) (v : Value) (p o : Int) (tp to : Tok) (ho : o < 0 ∨ 999 < o) :
    Cz PySem.Challenge.rw_uf050027_03.row.prog w (hd03.heap_39 w.params) hd03.view_39 (looseW hd03.view_39 []) mean mg mb 245 [v, .int p tp, .int o to] (fun _ => True) (fun t => .str (Str.ofString "off") t) := by
  unfold Cz
  k_fill
  w_top off
  intro cn cs a ccd A₀ base h₀ L m news s Q E B F X N T XB TB hk hP hret
  refine wpAny_call ?_
  k_dflt (refine' code_defS0 ?k1 ?k2 ?k3 ?k4 ?k5 ?kA ?k6 ?k7 ?k8 ?k9 ?kB ?_ ?cK ?c2 ?c3 ?c4 ?c5; (case kA => exact rfl); (case k2 => k_asm); (case k1 => k_asm); (case k3 => k_asm); (case k4 => k_asm); (case k5 => k_asm); (case k6 => k_is); (case k7 => k_is); (case k8 => k_room); (case k9 => first | exact binds_K (by k_in) rfl (by k_is) rfl rfl rfl | exact BindsTo.of_eq rfl); (case kB => exact locs rfl); (case cK => assumption); (case c2 => exact rfl); (case c3 => exact rfl); (case c4 => exact rfl); (case c5 => decide); k_whole; intro g' L' h' FG' F' N' B' X' T' D'; (try dsimp only); (try k_lift B'); (try k_fold))
  k_with_none
  k_with "call ref" => (k_here; (with_reducible show wpAny _ _ (call (Value.ref 196) _) _ _ _); k_dflt (refine Mine.Ct.use (Mine.c_lmix _ _ _ _ _ _ _ _) (ret := ?_)); intro t9 h9 tk9 P9 F9 N9; (try dsimp only); (try k_fold))
  k_with "call ref" => (k_here; (with_reducible show wpAny _ _ (call (Value.ref 203) _) _ _ _); k_dflt (refine Mine.Ct.use (Mine.c_lbig _ _ _ _ _ _ _ _) (ret := ?_)); intro t9 h9 tk9 P9 F9 N9; (try dsimp only); (try k_fold))
  k_with "call ref" => (k_here; (with_reducible show wpAny _ _ (call (Value.ref 210) _) _ _ _); k_dflt (refine Mine.Ct.use (Mine.c_loff _ _ _ _ _ _) (ret := ?_)); intro t9 h9 tk9 P9 F9 N9; (try dsimp only); (try k_fold))
  k_with "call ref" => (k_here; (with_reducible show wpAny _ _ (call (Value.ref 168) _) _ _ _); k_dflt (refine Mine.Ct.use (Mine.c_slack _ _ _ _ _ _ _ _) (ret := ?_)); intro t9 h9 tk9 P9 F9 N9; (try dsimp only); (try k_fold))
  k_with "call ref" => (k_here; (with_reducible show wpAny _ _ (call (Value.ref 217) _) _ _ _); k_dflt (refine Mine.Ct.use (Mine.c_lslack _ _ _ _ _ _ _ _) (ret := ?_)); intro t9 h9 tk9 P9 F9 N9; (try dsimp only); (try k_fold))
  k_with "ite" => ((with_reducible show ite ((!true) = true) _ _); refine Mine.ite_nt ?_)
  k_with "ite" => ((with_reducible show ite ((!false) = true) _ _); refine Mine.ite_nf ?_)
  k_with "ite" => ((with_reducible show ite (false = true) _ _); refine Mine.ite_f ?_)
  k_with "ite" => ((with_reducible show ite (true = true) _ _); refine Mine.ite_t ?_)
  k_with "call ref" => (k_here; (with_reducible show wpAny _ _ (call (Value.ref 231) [Value.ref _]) _ _ _); (with_reducible rename Got _ _ _ (Value.ref 61) _ => gtX); k_dflt (refine' Mine.u_kind_off gtX ?k0 ?k1 ?k2 ?k3 ?k4 ?k5 ?kK ?kd ?ku ?_; (case k0 => assumption); (case k1 => k_asm); (case k2 => k_asm); (case k3 => k_asm); (case k4 => k_asm); (case k5 => k_asm); (case kK => first | exact rfl | assumption); (case kd => first | assumption | omega | ktr_room); (case ku => first | assumption | omega | ktr_units)); intro t9 h9 tk9 F9 N9; (try dsimp only); (try k_fold))
  k_with "call ref" => (k_here; (with_reducible show wpAny _ _ (call (Value.ref 231) [Value.ref _]) _ _ _); (with_reducible rename Got _ _ _ (Value.ref 73) _ => gtX); k_dflt (refine' Mine.u_kind_early gtX ?k0 ?k1 ?k2 ?k3 ?k4 ?k5 ?kK ?kd ?ku ?_; (case k0 => assumption); (case k1 => k_asm); (case k2 => k_asm); (case k3 => k_asm); (case k4 => k_asm); (case k5 => k_asm); (case kK => first | exact rfl | assumption); (case kd => first | assumption | omega | ktr_room); (case ku => first | assumption | omega | ktr_units)); intro t9 h9 tk9 F9 N9; (try dsimp only); (try k_fold))
  k_steps
  all_goals (refine' ck_retS hret ?e2 ?e3 ?e4; (case e3 => k_asm); (case e4 => first | k_asm | (refine' cb_drop ?cbN ?cbS; (case cbN => assumption); (case cbS => kcj_all))); (case e2 => rfl))
end Mine
end
namespace Mine
open PySem PySem.W PyProof.Rows
/-- isinstance of a made tuple, list against its own built-in class -/
theorem isi_tuple {prog : Program} {w : World} {A : Around} {E : Value → Shared → Prop} {s : Shared} {K : Frag} {Q : Value → Shared → Prop} {h₀ : Heap} {L x : Addr} {news : List (Addr × Obj)} {o : Obj} (N : News h₀ L s.heap news) (hm : (x, o) ∈ news) (hc : o.cls = .type "tuple") (X : K.In s.heap)
    (ee : kitOne K (.type "tuple") (.type "tuple") = some true) (h : ∀ tk, Q (.bool true) { s with toks := tk }) : wpAny (model prog w) A (call (.builtin "isinstance") [.ref x, .type "tuple"]) Q E s :=
  kia_one kitx_tuple X ⟨o, (N _ hm).1, hc⟩ ee (by intro q; cases q) h
theorem isi_list {prog : Program} {w : World} {A : Around} {E : Value → Shared → Prop} {s : Shared} {K : Frag} {Q : Value → Shared → Prop} {h₀ : Heap} {L x : Addr} {news : List (Addr × Obj)} {o : Obj} (N : News h₀ L s.heap news) (hm : (x, o) ∈ news) (hc : o.cls = .type "list") (X : K.In s.heap)
    (ee : kitOne K (.type "list") (.type "list") = some true) (h : ∀ tk, Q (.bool true) { s with toks := tk }) : wpAny (model prog w) A (call (.builtin "isinstance") [.ref x, .type "list"]) Q E s :=
  kia_one kitx_list X ⟨o, (N _ hm).1, hc⟩ ee (by intro q; cases q) h
end Mine
namespace Mine
open PySem PySem.W PyProof.Rows
theorem two_of {v : List Value} {n : List Int} {a b : Int} (hi : IntsAre v n) (hp : n.Perm [a, b]) (hb : (n.getD (Int.toNat 0) 0 = a ∨ n.getD (Int.toNat 0) 0 = b) ∧ n.getD (Int.toNat 0) 0 ≤ a ∧ n.getD (Int.toNat 0) 0 ≤ b) :
    ∃ x y t u, v = [.int x t, .int y u] ∧ n = [x, y] ∧ (x = a ∧ y = b ∨ x = b ∧ y = a) ∧ x ≤ y := by
  have hl := hp.length_eq
  cases hi with
  | nil => simp at hl
  | cons x t r =>
    cases r with
    | nil => simp at hl
    | cons y u r =>
      cases r with
      | cons z _ _ => simp at hl
      | nil =>
        have hb' : (x = a ∨ x = b) ∧ x ≤ a ∧ x ≤ b := hb
        have hm : (x = a ∧ y = b) ∨ (x = b ∧ y = a) := by
          rcases hb'.1 with e | e
          · subst e
            exact .inl ⟨rfl, by simpa using (List.perm_cons x).mp hp⟩
          · subst e
            have := (List.perm_cons x).mp (hp.trans (List.Perm.swap x a []))
            exact .inr ⟨rfl, by simpa using this⟩
        refine ⟨x, y, t, u, rfl, rfl, hm, ?_⟩
        rcases hm with ⟨_, e⟩ | ⟨_, e⟩ <;> rw [e]
        · exact hb'.2.2
        · exact hb'.2.1
end Mine
namespace Mine
open PySem PySem.W PyProof.Rows
theorem item_four {prog : Program} {w : World} {A : Around} {E : Value → Shared → Prop} {s : Shared} {value slice : PySem.Expr} {l : Addr} {vs : List Value} {a b c d : Int} {k : Int} {u : Tok} {Q : Value → Shared → Prop} (hl : s.heap.IsList l vs.toArray) (hi : IntsAre vs [a, b, c, d])
    (h0 : 0 ≤ k ∧ k < 4) (h : ∀ t x, (x = a ∨ x = b ∨ x = c ∨ x = d) → Q (.int x t) s)
    (hs : subscripted slice false (.ref l) (.int k u) = operate [.ref l, .int k u] (getItem (.ref l) (.int k u)) := by with_unfolding_all rfl) :
    wpAny (model prog w) A (subscriptTail value slice (.ref l) (.int k u)) Q E s := by
  obtain ⟨t, hx⟩ := hi.get k.toNat _ (ints_getD h0.1 (by simpa using h0.2))
  refine tail_any hl.typeIs slot_list_getitem.lookup (wpAny_getItem_list hl h0.1 (by omega) (by simpa using hx) (h t _ ?_)) hs
  rcases (show k = 0 ∨ k = 1 ∨ k = 2 ∨ k = 3 by omega) with e | e | e | e <;> subst e <;> simp
end Mine
set_option rowWalk.seconds 0 in
theorem PySem.Challenge.cw_uf050027_03_holds : PySem.Challenge.rw_uf050027_03.Holds := by
  k_with_none
  k_with "call ref" => (k_here; (with_reducible show wpAny _ _ (call (Value.ref 196) _) _ _ _); k_dflt (refine Mine.Ct.use (Mine.c_lmix _ _ _ _ _ _ _ _) (ret := ?_)); intro t9 h9 tk9 P9 F9 N9; (try dsimp only); (try k_fold))
  k_with "call ref" => (k_here; (with_reducible show wpAny _ _ (call (Value.ref 203) _) _ _ _); k_dflt (refine Mine.Ct.use (Mine.c_lbig _ _ _ _ _ _ _ _) (ret := ?_)); intro t9 h9 tk9 P9 F9 N9; (try dsimp only); (try k_fold))
  k_with "call ref" => (k_here; (with_reducible show wpAny _ _ (call (Value.ref 210) _) _ _ _); k_dflt (refine Mine.Ct.use (Mine.c_loff _ _ _ _ _ _) (ret := ?_)); intro t9 h9 tk9 P9 F9 N9; (try dsimp only); (try k_fold))
  k_with "call ref" => (k_here; (with_reducible show wpAny _ _ (call (Value.ref 168) _) _ _ _); k_dflt (refine Mine.Ct.use (Mine.c_slack _ _ _ _ _ _ _ _) (ret := ?_)); intro t9 h9 tk9 P9 F9 N9; (try dsimp only); (try k_fold))
  k_with "call ref" => (k_here; (with_reducible show wpAny _ _ (call (Value.ref 217) _) _ _ _); k_dflt (refine Mine.Ct.use (Mine.c_lslack _ _ _ _ _ _ _ _) (ret := ?_)); intro t9 h9 tk9 P9 F9 N9; (try dsimp only); (try k_fold))
  k_with "ite" => ((with_reducible show ite ((!true) = true) _ _); refine Mine.ite_nt ?_)
  k_with "ite" => ((with_reducible show ite ((!false) = true) _ _); refine Mine.ite_nf ?_)
  k_with "ite" => ((with_reducible show ite (false = true) _ _); refine Mine.ite_f ?_)
  k_with "ite" => ((with_reducible show ite (true = true) _ _); refine Mine.ite_t ?_)
  k_with "subscriptTail List cons BinOp ref int" => (k_here; (with_reducible show wpAny _ _ (subscriptTail _ _ (Value.ref _) (Value.int _ _)) _ _ _); (try k_fmods); k_dflt (refine' Mine.item_two ?k1 ?k2 ?k3 ?_; (case k1 => is_list); (case k2 => l_ints); (case k3 => omega); k_whole); intro _ _ hTwo)
  k_with "subscriptTail List cons Call ref int" => (k_here; (with_reducible show wpAny _ _ (subscriptTail _ _ (Value.ref _) (Value.int _ _)) _ _ _); (try k_fmods); k_dflt (refine' Mine.item_two ?k1 ?k2 ?k3 ?_; (case k1 => is_list); (case k2 => l_ints); (case k3 => omega); k_whole); intro _ _ hTwo)
  k_with "call ref" => (k_here; (with_reducible show wpAny _ _ (call (Value.ref 245) _) _ _ _); k_dflt (refine' Mine.Cz2.use (Mine.c_told_ok _ _ _ _ _ _ _ _ _ _ _ _ _ _ _ _ _ _ _ ?hh0 ?hh1) (hp := ?kP) (ret := ?_); (case kP => k_mem); (case hh0 => first | trivial | ((try dsimp only); first | assumption | omega | l_fact)); (case hh1 => first | trivial | ((try dsimp only); first | assumption | omega | l_fact))); (intro D9 t9 u9 c9 h9 tk9 P9 F9 N9 l1; (try k_lt l1)); (try dsimp only); (try k_fold))
  k_with "call ref" => (k_here; (with_reducible show wpAny _ _ (call (Value.ref 245) _) _ _ _); k_dflt (refine' Mine.Cz.use (Mine.c_told_early _ _ _ _ _ _ _ _ _ _ _ _ _ _ _ _ _ _ _ ?hh0 ?hh1) (hp := ?kP) (ret := ?_); (case kP => k_mem); (case hh0 => first | trivial | ((try dsimp only); first | assumption | omega | l_fact)); (case hh1 => first | trivial | ((try dsimp only); first | assumption | omega | l_fact))); intro t9 h9 tk9 F9 N9; (try dsimp only); (try k_fold))
  k_with "call ref" => (k_here; (with_reducible show wpAny _ _ (call (Value.ref 245) _) _ _ _); k_dflt (refine' Mine.Cz.use (Mine.c_told_off _ _ _ _ _ _ _ _ _ ?hh0) (hp := ?kP) (ret := ?_); (case kP => trivial); (case hh0 => first | trivial | ((try dsimp only); first | assumption | omega | l_fact))); intro t9 h9 tk9 F9 N9; (try dsimp only); (try k_fold))
  k_with "call builtin:isinstance" => (k_here; (with_reducible show wpAny _ _ (call (Value.builtin "isinstance") [Value.ref _, Value.type "tuple"]) _ _ _); k_dflt (refine' Mine.isi_tuple ?N ?hm ?hc ?X ?ee ?_; (case N => k_asm); (case hm => k_mem); (case hc => exact rfl); (case X => k_in); (case ee => exact rfl)); intro _)
  k_with "call builtin:isinstance" => (k_here; (with_reducible show wpAny _ _ (call (Value.builtin "isinstance") [Value.ref _, Value.type "list"]) _ _ _); k_dflt (refine' Mine.isi_list ?N ?hm ?hc ?X ?ee ?_; (case N => k_asm); (case hm => k_mem); (case hc => exact rfl); (case X => k_in); (case ee => exact rfl)); intro _)
  k_with "assign Tuple cons ref" => (k_here; (with_reducible rename List.Perm _ [_, _] => pmX); (obtain ⟨x9, y9, t9, u9, ev9, en9, hc9, hl9⟩ := Mine.two_of (by assumption) pmX (by assumption)); subst ev9; subst en9)
  k_with "subscriptTail List cons BinOp ref int" => (k_here; (with_reducible show wpAny _ _ (subscriptTail _ _ (Value.ref _) (Value.int _ _)) _ _ _); (try k_fmods); k_dflt (refine' Mine.item_four ?k1 ?k2 ?k3 ?_; (case k1 => is_list); (case k2 => l_ints); (case k3 => omega); k_whole); intro _ _ hFour)
  k_with "table" => skip
  exact Mine.hd03 (by k_go)
