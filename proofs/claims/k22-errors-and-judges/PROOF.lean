import PyProof.Rows.All
import Wide.All
import OpenK.AllK
import Wide.FinOn
import HandS.Evl
import PyProof.ReprRoads
import PyProof.Rows.Digits
import HandS.TupMul
import HandS.Walk
import PyProof.ReprReads
import HandS.Base
import HandS.Call
import HandS.List
import HandS.Comp
import HandS.Iter
import HandS.Zip
import HandS.TupAny
import HandS.Style
import HandS.IsInst
import HandS.NoneIn
import HandS.Exc
import HandS.Words
import HandS.WordsExc
import HandS.Defaults
import HandS.Lambda
import KE.KExcSuper
import KE.KSuper
import KE.KExcInit
import HandS.ExcInit
import HandS.FStr
import HandS.ExcSuper
import HandS.ExcOwn
import HandS.TryMany
import HandS.ExcField
import HandS.Ends
import HandS.EndBits
import HandS.Head2
import HandS.HeadEnd
import HandS.HeadHook2
import HandS.HeadHook4
import HandS.Codes
import PyProof.ExcBaseAll.IndexError
import PyProof.ExcBaseAll.ArithmeticError
import HandS.NestedK
import PyProof.ReprBulk
import PySem.Challenge.RW_fairoffers_k22_errors_and_judges_of_numb
import KE.KStateDown
set_option Elab.async false
set_option linter.all false
section -- FoRepr
set_option Elab.async false
set_option linter.all false
set_option maxRecDepth 100000
set_option maxHeartbeats 1000000
/-! FoRepr: repr of lists and tuples whose integers have up to 4300 digits. -/
namespace Fo
open PySem PyProof.Rows
mutual
def shb : PyData → Bool
  | .int i => decide (i.natAbs < 10 ^ 4300)
  | .list xs => shbs xs
  | .tuple xs => shbs xs
  | .dict _ => false
  | .none => true
  | .bool _ => true
  | .str _ => true
def shbs : List PyData → Bool
  | [] => true
  | x :: xs => shb x && shbs xs
end
/-- what repr shows: an integer alone has the kit's bound -/
def rok : PyData → Bool
  | .int i => decide (i.natAbs.log2 < 1920)
  | .dict _ => false
  | d => shb d
section
variable {prog : Program} {w : World} {h0 : Heap}
theorem repr_bigInt {A : Around} {E : Value → Shared → Prop} {s : Shared} {i : Int} {t : Tok} {Q : Value → Shared → Prop} (nd : s.heap.NoDigits) (hi : i.natAbs < 10 ^ 4300) (q : Q (.str (toString i) s.toks) { s with toks := s.toks + 1 }) :
    wpAny (model prog w) A (call (.builtin "int.__repr__") [.int i t]) Q E s := by
  refine wpAny_call_entry F.slot_int_repr (typeIs_int s i t) F.entry_int_repr ?_ (F.args_int_repr_1 (.int i t))
  unfold Builtin.«int.__repr__»
  show wpAny _ _ (do let lim ← Builtin.overDigitLimit? i; _) _ _ s
  exact wpAny_bind (overDigitLimit_any nd (fun lt => wpAny_bind (wpAny_mkStr (wpAny_pure ⟨_, rfl, q⟩) (int_text_fits10 lt))) fun ge => absurd hi (Nat.not_lt.mpr ge))
theorem reprObj_bigInt {A : Around} {E : Value → Shared → Prop} {s : Shared} {i : Int} {t : Tok} {Q : Value → Shared → Prop} (nd : s.heap.NoDigits) (hi : i.natAbs < 10 ^ 4300) (q : Q (.str (toString i) s.toks) { s with toks := s.toks + 1 }) :
    wpAny (model prog w) A (pyReprObj (.int i t)) Q E s := by
  have off : [Value.int i t].any Value.onHeap = false := rfl
  unfold pyReprObj
  simp only [cRoomFor, off, Bool.false_eq_true, if_false, pure_bind]
  refine wpAny_bind (wpAny_specialOf (name := Str.ofString "__repr__") (typeIs_int s i t) F.slot_int_repr.lookup ?_)
  refine wpAny_bind (m := callSpecialIfBound? (.int i t) (Str.ofString "__repr__")) (wpAny_callSpecialIfBound?_slot (name := Str.ofString "__repr__") (typeIs_int s i t) F.slot_int_repr (repr_bigInt nd hi ?_))
  exact wpAny_bind (wpAny_isInstance (T := "str") (b := true) rfl isSubtype_str_str (wpAny_pure q))
theorem reprK_bigInt (nd : h0.NoDigits) {i : Int} {t : Tok} (hi : i.natAbs < 10 ^ 4300) (as : List Addr) (d : Nat) : ReprK prog w as h0 d (.int i t) (toString i) := by
  intro base hb A g E s Q _ _ _ hk hQ
  have hb2 : base ≤ sizeLine := by omega
  rw [pyReprUnder_leaf (v := .int i t) hb2 (fun _ e => nomatch e)]
  unfold pyRepr
  exact wpAny_bind (reprObj_bigInt (nd.keeps hk) hi (wpAny_pure (hQ s.heap _ fun _ _ e => e)))
mutual
theorem rk_reads (nd : h0.NoDigits) : ∀ {v : Value} {d : PyData} {as : List Addr}, Reads h0 v d as → shb d = true → d.shown.length ≤ sizeLine → ∃ bs, ReadAtMost h0 d.depth bs ∧ ReprK prog w bs h0 d.depth v d.shown
  | _, _, _, .none, _, _ => ⟨[], fun _ h => (nomatch h), by rw [PyData.shown_none]; exact .of_is ReprIs.none _ _ _⟩
  | _, _, _, .bool b, _, _ => ⟨[], fun _ h => (nomatch h), by rw [PyData.shown_bool]; exact .of_is (ReprIs.bool b) _ _ _⟩
  | _, _, _, .int i t, sh, _ => ⟨[], fun _ h => (nomatch h), by rw [PyData.shown_int]; exact reprK_bigInt nd (by simpa only [shb, decide_eq_true_eq] using sh) _ _⟩
  | _, _, _, .str x t, _, sz => ⟨[], fun _ h => (nomatch h), by rw [PyData.shown_str]; exact .of_is (ReprIs.str x t (by rw [PyData.shown_str] at sz; exact sz)) _ _ _⟩
  | _, _, _, .list (a := a) (vs := vs) (xs := xs) h1 h2 h3 h4, sh, sz => by
    have sz2 : (listText (PyData.shownAll xs)).length ≤ sizeLine := by simp only [PyData.shown] at sz; exact sz
    obtain ⟨bs, hb, hk⟩ := rk_readsAll nd h4 (by simpa only [shb, decide_eq_true_eq] using sh) fun t ht => Nat.le_trans (listText_mem_le ht) sz2
    have r : Reads h0 (.ref a) (.list xs) _ := .list h1 h2 h3 h4
    have out : a ∉ bs := not_mem_of_deeper r (by simp only [PyData.depth]; omega) hb
    refine ⟨a :: bs, ReadAtMost.cons r (by simp only [PyData.depth]; omega) hb, ?_⟩
    simp only [PyData.depth, PyData.shown]
    obtain ⟨l⟩ := vs
    cases l with
    | nil =>
      have h5 : ReadsAll h0 [] xs _ := h4
      cases h5
      simp only [PyData.shownAll, listText_nil]
      exact ReprK.listEmpty h1 h2 h3
    | cons y l => exact ReprK.list h1 h2 h3 out (by simpa using hk.length_eq) fun i z e => hk.item i z (by simpa using e)
  | _, _, _, .tuple (a := a) (xs := xs) h1 h2 h3 h4, sh, sz => by
    have sz2 : (tupleText (PyData.shownAll xs)).length ≤ sizeLine := by simp only [PyData.shown] at sz; exact sz
    obtain ⟨bs, hb, hk⟩ := rk_readsAll nd h4 (by simpa only [shb, decide_eq_true_eq] using sh) fun t ht => Nat.le_trans (tupleText_mem_le ht) sz2
    have r : Reads h0 (.ref a) (.tuple xs) _ := .tuple h1 h2 h3 h4
    have out : a ∉ bs := not_mem_of_deeper r (by simp only [PyData.depth]; omega) hb
    refine ⟨a :: bs, ReadAtMost.cons r (by simp only [PyData.depth]; omega) hb, ?_⟩
    simp only [PyData.depth, PyData.shown]
    exact ReprK.tuple h1 h2 h3 out hk
  | _, _, _, .dict _ _ _ _ _, sh, _ => by (simp only [shb] at sh; cases sh)
theorem rk_readsAll (nd : h0.NoDigits) : ∀ {vs : List Value} {ds : List PyData} {as : List Addr}, ReadsAll h0 vs ds as → shbs ds = true → (∀ t ∈ PyData.shownAll ds, t.length ≤ sizeLine) →
    ∃ bs, ReadAtMost h0 (PyData.depthAll ds) bs ∧ ReprAllK prog w bs h0 (PyData.depthAll ds) vs (PyData.shownAll ds)
  | _, _, _, .nil, _, _ => ⟨[], fun _ h => (nomatch h), by simp only [PyData.shownAll]; exact .nil⟩
  | _, _, _, .cons (d := d) (ds := ds) r rs, sh, sz => by
    have sh2 : shb d = true ∧ shbs ds = true := by simpa only [shbs, Bool.and_eq_true] using sh
    obtain ⟨b1, q1, k1⟩ := rk_reads nd r sh2.1 (sz _ (by simp only [PyData.shownAll]; exact List.mem_cons_self))
    obtain ⟨b2, q2, k2⟩ := rk_readsAll nd rs sh2.2 fun t ht => sz t (by simp only [PyData.shownAll]; exact List.mem_cons_of_mem _ ht)
    refine ⟨b1 ++ b2, fun b hm => ?_, ?_⟩
    · simp only [PyData.depthAll]
      rcases List.mem_append.mp hm with z | z
      · obtain ⟨e1, e2, e3, e4⟩ := q1 b z
        exact ⟨e1, e2, e3, Nat.le_trans e4 (Nat.le_max_left _ _)⟩
      · obtain ⟨e1, e2, e3, e4⟩ := q2 b z
        exact ⟨e1, e2, e3, Nat.le_trans e4 (Nat.le_max_right _ _)⟩
    · simp only [PyData.depthAll, PyData.shownAll]
      refine .cons ((k1.more fun b z => List.mem_append_left _ z).level_le (Nat.le_max_left _ _)) ?_
      exact k2.more_le (fun b z => List.mem_append_right _ z) (Nat.le_max_right _ _)
end
theorem call_reprBig {A : Around} {E : Value → Shared → Prop} {s : Shared} {a : Addr} {d : PyData} {as : List Addr} {Q : Value → Shared → Prop} (nd : s.heap.NoDigits) (r : Reads s.heap (.ref a) d as) (sh : shb d = true) (hg : A.guards = some []) (hu : A.units + (d.depth + 1) < cLine)
    (hQ : ∀ h' u tk, (∀ b o, s.heap.get? b = some o → h'.get? b = some o) → Q (.str d.shown u) { s with heap := h', toks := tk }) (sz : d.shown.length ≤ sizeLine) : wpAny (model prog w) A (call (.builtin "repr") [.ref a]) Q E s := by
  have hu1 : A.units + 1 < cLine := by omega
  have same : ∀ b o, s.heap.get? b = some o → s.heap.get? b = some o := fun _ _ e => e
  cases r with
  | list h1 h2 h3 h4 =>
    rename_i o vs n xs bs0
    have sz2 : (listText (PyData.shownAll xs)).length ≤ sizeLine := by simp only [PyData.shown] at sz; exact sz
    obtain ⟨bs, hb, hk⟩ := rk_readsAll (prog := prog) (w := w) nd h4 (by simpa only [shb, decide_eq_true_eq] using sh) fun t ht => Nat.le_trans (listText_mem_le ht) sz2
    have out : a ∉ bs := not_mem_of_deeper (.list h1 h2 h3 h4) (by simp only [PyData.depth]; omega) hb
    simp only [PyData.depth] at hu
    simp only [PyData.shown] at hQ
    refine call_repr_slot hu1 ⟨o, h1, h2⟩ F.slot_list_repr.toG ?_
    obtain ⟨l⟩ := vs
    cases l with
    | nil =>
      have h5 : ReadsAll s.heap [] xs _ := h4
      cases h5
      simp only [PyData.shownAll, listText_nil] at hQ
      exact call_list_repr_empty ⟨o, h1, h2⟩ h1 h3 ⟨_, _, rfl, hQ s.heap _ _ same⟩
    | cons y l => exact call_list_reprK h1 h2 h3 out (by simpa using hk.length_eq) (fun i z e => hk.item i z (by simpa using e)) hg (fun b _ => Clear.nil b) (by show A.units + 1 + _ < cLine; omega) same (fun h' u tk k => ⟨_, _, rfl, hQ h' u tk k⟩) sz2
  | tuple h1 h2 h3 h4 =>
    rename_i o vs n xs
    have sz2 : (tupleText (PyData.shownAll xs)).length ≤ sizeLine := by simp only [PyData.shown] at sz; exact sz
    obtain ⟨bs, hb, hk⟩ := rk_readsAll (prog := prog) (w := w) nd h4 (by simpa only [shb, decide_eq_true_eq] using sh) fun t ht => Nat.le_trans (tupleText_mem_le ht) sz2
    have out : a ∉ bs := not_mem_of_deeper (.tuple h1 h2 h3 h4) (by simp only [PyData.depth]; omega) hb
    simp only [PyData.depth] at hu
    simp only [PyData.shown] at hQ
    refine call_repr_slot hu1 ⟨o, h1, h2⟩ F.slot_tuple_repr ?_
    exact call_tuple_reprK h1 h2 h3 out hk hg (fun b _ => Clear.nil b) (by show A.units + 1 + _ < cLine; omega) same (fun h' u tk k => ⟨_, _, rfl, hQ h' u tk k⟩) sz2
  | dict _ _ _ _ _ => (simp only [shb] at sh; cases sh)
end
end Fo
end -- FoRepr

section -- FoTup
set_option Elab.async false
set_option linter.all false
set_option maxRecDepth 100000
set_option maxHeartbeats 2000000
/-! FoTup: a tuple times an integer, whatever the integer. -/
namespace Fo
open PySem PySem.Spec PyProof.Rows L2
theorem mul_same (l : Addr) (items : Array Value) (n : Nat) (dd : Option Addr) (sl : Array (Option Value)) (x : Int) (u : Tok) (c0 : (decide (x < -(2 ^ 63)) || decide (x ≥ 2 ^ 63)) = false) (c1 : (items.isEmpty || x == 1) = true) :
    Meets (Builtin.«tuple.__mul__» ⟨[.ref l, .int x u], []⟩) (fun _ R s => s.heap.get? l = some { cls := .type "tuple", dict := dd, data := .seq items n, slots := sl } ∧ R (.ok (.ret (Value.ref l))) s) :=
  .of_wp fun prog w A R s h => by
    obtain ⟨hp, g, d, tk, os⟩ := s
    obtain ⟨hl, h⟩ := h
    have f1 := AutoSeq1.idx_int
    wp_walk using wpAny_loadPart' hl
    repeat (first
      | (refine wpAny_ite_false (decide_eq_false (by rw [c0]; exact Bool.false_ne_true)) ?_; wp_walk using wpAny_loadPart' hl)
      | (refine wpAny_ite_true (decide_eq_true (by rw [c1])) ?_; wp_walk using wpAny_loadPart' hl))
    exact ⟨_, rfl, h⟩
theorem mul_none (l : Addr) (items : Array Value) (n : Nat) (dd : Option Addr) (sl : Array (Option Value)) (x : Int) (u : Tok) (c0 : (decide (x < -(2 ^ 63)) || decide (x ≥ 2 ^ 63)) = false) (c1 : (items.isEmpty || x == 1) = false) (c2 : (decide (x ≤ 0) || items.isEmpty) = true) :
    Meets (Builtin.«tuple.__mul__» ⟨[.ref l, .int x u], []⟩) (fun _ R s => s.heap.get? l = some { cls := .type "tuple", dict := dd, data := .seq items n, slots := sl } ∧
      R (.ok (.ret (Value.ref s.heap.objs.size))) { s with heap := s.heap.push { cls := Value.type "tuple", data := Data.seq #[] }, toks := s.toks }) :=
  .of_wp fun prog w A R s h => by
    obtain ⟨hp, g, d, tk, os⟩ := s
    obtain ⟨hl, h⟩ := h
    have f1 := AutoSeq1.idx_int
    wp_walk using wpAny_loadPart' hl
    repeat (first
      | (refine wpAny_ite_false (decide_eq_false (by rw [c0]; exact Bool.false_ne_true)) ?_; wp_walk using wpAny_loadPart' hl)
      | (refine wpAny_ite_false (decide_eq_false (by rw [c1]; exact Bool.false_ne_true)) ?_; wp_walk using wpAny_loadPart' hl)
      | (refine wpAny_ite_true (decide_eq_true (by rw [c2])) ?_; wp_walk using wpAny_loadPart' hl))
    exact ⟨_, rfl, h⟩
/-- a tuple times an integer -/
def rMulT (K : PySem.W.Frag) : R2 := fun x y H Q => ∃ l k xs, x = .ref l ∧ y = .int k ∧ SqT K H l xs ∧ -1000 ≤ k ∧ k ≤ 1000 ∧ xs.length ≤ 1000 ∧
  ((k = 1 ∨ xs = []) → Q (.ref l) H) ∧ (k ≤ 0 → xs ≠ [] → ∀ p, H p = none → Q (.ref p) (upd H p (.tup []))) ∧ (2 ≤ k → xs ≠ [] → ∀ p, H p = none → Q (.ref p) (upd H p (.tup (List.replicate k.toNat xs).flatten)))
theorem op_mulT {X : Cx} : OpR X (binaryOp .Mult) (rMulT X.K) := by
  intro pins s σ H x y v u Q I rx ry h
  obtain ⟨l, k, xs, e1, e2, hT, k1, k2, hz, q1, q2, q3⟩ := h
  by_cases c : 2 ≤ k ∧ xs ≠ []
  · exact op_repT pins s σ H x y v u Q I rx ry ⟨l, k, xs, e1, e2, hT, c.2, c.1, k2, hz, q3 c.1 c.2⟩
  subst e1 e2
  cases rx
  obtain ⟨t, rfl⟩ := ry
  obtain ⟨its, r, ⟨⟨cls, dd, data, sl⟩, ho, hc, n, hd⟩, hs⟩ := I.tuple hT
  simp only at hc hd
  subst hc hd
  have hle : its.length = xs.length := r.length.symm
  have c0 : (decide (k < -(2 ^ 63)) || decide (k ≥ 2 ^ 63)) = false := by
    rw [decide_eq_false (by omega), decide_eq_false (by omega)]
    rfl
  have hxi : its.toArray.isEmpty = decide (xs = []) := by
    cases its with
    | nil =>
      have : xs = [] := List.eq_nil_of_length_eq_zero hle.symm
      rw [this]
      rfl
    | cons a b =>
      have : xs ≠ [] := fun z => by
        rw [z] at hle
        cases hle
      rw [decide_eq_false this]
      rfl
  by_cases d : k = 1 ∨ xs = []
  · have c1 : (its.toArray.isEmpty || k == 1) = true := by
      rw [hxi]
      rcases d with d | d
      · subst d
        rw [Bool.or_eq_true]
        exact .inr rfl
      · rw [decide_eq_true d]
        rfl
    refine wpAny_binaryOp_repeat_ref (T := "tuple") (U := "int") (by decide) ⟨_, ho, rfl⟩ (fun s' => typeIs_int s' k t) noFill_tuple_mul F.fills_int_mul F.slot_int_rmul repeat_tuple F.slot_int_index.lookup
      (call_meets F.slot_int_rmul (typeIs_int s k t) F.entry_int_rmul (F.args_int_rmul_2 (.int k t) _) (int_rmul_tuple k t l its.toArray n dd sl)
        ⟨ho, rfl, ⟨_, ho, rfl⟩, call_meets F.slot_tuple_mul ⟨_, ho, rfl⟩ F.entry_tuple_mul (F.args_tuple_mul_2 (.ref l) _) (mul_same l its.toArray n dd sl k t c0 c1) ⟨ho, ?_⟩⟩)
    exact ⟨.ref l, H, I, rfl, q1 d⟩
  · have nx : xs ≠ [] := fun z => d (.inr z)
    have nk : k ≠ 1 := fun z => d (.inl z)
    have k0 : k ≤ 0 := by
      have : ¬ 2 ≤ k := fun z => c ⟨z, nx⟩
      omega
    have c1 : (its.toArray.isEmpty || k == 1) = false := by
      rw [hxi, decide_eq_false nx, Bool.false_or]
      exact beq_eq_false_iff_ne.mpr nk
    have c2 : (decide (k ≤ 0) || its.toArray.isEmpty) = true := by
      rw [decide_eq_true k0]
      rfl
    refine wpAny_binaryOp_repeat_ref (T := "tuple") (U := "int") (by decide) ⟨_, ho, rfl⟩ (fun s' => typeIs_int s' k t) noFill_tuple_mul F.fills_int_mul F.slot_int_rmul repeat_tuple F.slot_int_index.lookup
      (call_meets F.slot_int_rmul (typeIs_int s k t) F.entry_int_rmul (F.args_int_rmul_2 (.int k t) _) (int_rmul_tuple k t l its.toArray n dd sl)
        ⟨ho, rfl, ⟨_, ho, rfl⟩, call_meets F.slot_tuple_mul ⟨_, ho, rfl⟩ F.entry_tuple_mul (F.args_tuple_mul_2 (.ref l) _) (mul_none l its.toArray n dd sl k t c0 c1 c2) ⟨ho, ?_⟩⟩)
    refine ⟨.ref s.heap.objs.size, _, I.laid (t' := s.toks) (o := .tup []) (fun b ob q => Heap.get?_push_of_some _ q) (Nat.le_refl _) ?_, rfl, q2 k0 nx _ (I.hok.fresh (Nat.le_refl _))⟩
    exact ⟨Nat.zero_le _, [], .nil, IsTup.new _ _⟩
end Fo
end -- FoTup

section -- FoCore
set_option Elab.async false
set_option linter.all false
/-! FoCore: a small language over the rows' syntax: values, a store of cells, what a term gives. No heap of the model here. -/
namespace Fo
open PySem

/-- a value: data that never changes -/
inductive PV where
  | non | bl (b : Bool) | int (i : Int) | str (x : Str)
  | tup (xs : List PV) | lst (xs : List PV) | fz (xs : List PV) | dic (kvs : List (Int × Int))
  | fn (f : Nat) | lam (j : Nat) (cs : List PV)
/-- what a slot holds: data, or a cell of the store -/
inductive SV where
  | d (v : PV) | r (l : Nat) | ls
inductive FV where
  | v (x : PV) | m (xs : List PV)
inductive Cell where
  | lst (xs : List PV) | obj (c : Nat) (fs : List (Nat × FV)) | dead
abbrev Store := List Cell
/-- an exception: its class (by number), what it keeps -/
structure Exc where
  c : Nat
  p : Option PV
inductive Res (α : Type) where
  | ok (a : α) (st : Store)
  | ex (x : Exc) (st : Store)
abbrev M (α : Type) := Store → Option (Res α)
section
variable {α β γ : Type}
def ok (a : α) : M α := fun st => some (.ok a st)
def stk : M α := fun _ => none
def bnd (m : M α) (k : α → M β) : M β := fun st => match m st with
  | some (.ok a st') => k a st'
  | some (.ex x st') => some (.ex x st')
  | none => none
/-- no exception leaves -/
def nox (m : M α) : M α := fun st => match m st with
  | some (.ok a st') => some (.ok a st')
  | _ => none
def ofO : Option α → M α
  | some a => ok a
  | none => stk
theorem bnd_ok {m : M α} {k : α → M β} {st st' : Store} {a : α} (h : m st = some (.ok a st')) : bnd m k st = k a st' := by
  unfold bnd
  rw [h]
theorem bnd_ex {m : M α} {k : α → M β} {st st' : Store} {x : Exc} (h : m st = some (.ex x st')) : bnd m k st = some (.ex x st') := by
  unfold bnd
  rw [h]
theorem ok_bnd (a : α) (k : α → M β) : bnd (ok a) k = k a := by rfl
theorem ok_at (a : α) (st : Store) : ok a st = some (.ok a st) := by rfl
end

/-! ### terms -/
inductive Op2 where
  | add | sub | mul | fdiv | mod | pow
inductive Cm where
  | eq | ne | lt | le | gt | ge | isn | notn | isb | notb | mem | nmem
/-- a target: a name, some names -/
inductive Tg where
  | n (i : Nat) | t (is : List Nat)
inductive Ty where
  | int | bool | str | tup | list
inductive Bi where
  | len | abs | int | max2 | min2 | tuple | list | all | any | repr
/-- what an except clause of a law's _law_word hands back: a text; a text and the repr of what the error keeps; that, in a list -/
inductive Hk where
  | s (x : String) | r (x : String) | l
  deriving DecidableEq
/-- a law's _law_word: its clauses, what it hands back where nothing is raised (none: the call's own value) -/
structure Wd where
  hs : List (Nat × Hk)
  fine : Option String
  deriving DecidableEq
/-- a constant of the module -/
inductive GC where
  | i (i : Int) | s (x : String) | p (a b : Int)
  deriving DecidableEq
def GC.val : GC → PV
  | .i z => .int z
  | .s z => .str (Str.ofString z)
  | .p a b => .tup [.int a, .int b]
mutual
inductive E where
  | slot (i : Nat) | non | bl (b : Bool) | int (i : Int) | str (x : String)
  | glob (x : String) (c : GC) | fnv (f : Nat)
  | dic0 | dic1 (k v : Int)
  | tup (es : Es) | star (a : E) (es : Es) | lst (es : Es)
  | bin (o : Op2) (a b : E) | neg (a : E) | not (a : E)
  | cmp (o : Cm) (a b : E) | chain (o o' : Cm) (a b c : E)
  | and (a b : E) | or (a b : E) | one (a : E) | ifx (t a b : E)
  | ix (a b : E) | cut (a : E) (lo hi : Oe) | rev (a : E)
  | call (f : Nat) (es : Es) (ds : List Int) | callv (i : Nat) (es : Es)
  | bi (b : Bi) (es : Es) | isi (a : E) (t : Ty)
  | lc (w : W) (tg : Tg) (c : Oe) (e : E)
  | frz (i : Nat)
  | word (x : String) (w : Wd) (b : E) | words (x : String) (w : Wd) (i c : Nat) (bs : Es)
inductive Es where
  | nil | cons (e : E) (es : Es)
inductive Oe where
  | no | ye (e : E)
inductive W where
  | rng1 (a : E) | rng2 (a b : E) | over (a : E) | zip (a b : E) | enum (a : E) | chars (a : E)
end
mutual
inductive S where
  | set (i : Nat) (e : E) | new (i : Nat) (e : E) | par (i j : Nat) (a b : E) | par3 (i j l : Nat) (a b c : E) | unp (is : List Nat) (e : E)
  | seti (a b e : E) | ifs (t : E) (a b : Ss) | for (tg : Tg) (w : W) (b : Ss) | whl (t : E) (b : Ss)
  | ret (e : E) | retC (i : Nat) | app (i : Nat) (e : E) | ex (e : E) | pass | cont | never
  | lams (i : Nat) | rai (c : Nat) (x : String) | rac (c : Nat) (e : E)
inductive Ss where
  | nil | cons (s : S) (ss : Ss)
end
/-- a def: its name, its names by slot (parameters first), how many parameters, its body -/
structure Fn where
  name : String
  N : List String
  np : Nat
  body : Ss

/-! ### what operations give -/
mutual
def PV.dat : PV → Option PyData
  | .non => some .none
  | .bl b => some (.bool b)
  | .int i => some (.int i)
  | .str x => some (.str x)
  | .tup xs => (PV.dats xs).map .tuple
  | .lst xs => (PV.dats xs).map .list
  | _ => none
def PV.dats : List PV → Option (List PyData)
  | [] => some []
  | x :: xs => match x.dat, PV.dats xs with
    | some d, some ds => some (d :: ds)
    | _, _ => none
end
abbrev Slots := List (Option SV)
def asD : SV → M PV
  | .d v => ok v
  | _ => stk
def asI : SV → M Int
  | .d (.int i) => ok i
  | _ => stk
def asB : SV → M Bool
  | .d (.bl b) => ok b
  | _ => stk
/-- data, or what stands in a list's cell -/
def rd : SV → M PV
  | .d v => ok v
  | .r l => fun st => match st[l]? with
    | some (.lst xs) => some (.ok (.lst xs) st)
    | _ => none
  | .ls => stk
/-- the items of a list or a tuple -/
def items : PV → Option (List PV)
  | .tup xs => some xs
  | .lst xs => some xs
  | .fz xs => some xs
  | _ => none
def mulOk (i j : Int) : Bool := decide (i.natAbs.log2 + j.natAbs.log2 < 100000000)
def powOk (i j : Int) : Bool := decide (0 ≤ j) && decide ((i.natAbs.log2 + 1) * j.toNat ≤ 100000000)
def lim : Nat := 16777216
def op2v : Op2 → PV → PV → Option PV
  | .add, .int i, .int j => some (.int (i + j))
  | .sub, .int i, .int j => some (.int (i - j))
  | .mul, .int i, .int j => if mulOk i j then some (.int (i * j)) else none
  | .mul, .tup xs, .int k => if -1000 ≤ k ∧ k ≤ 1000 ∧ xs.length ≤ 1000 then some (.tup (List.replicate k.toNat xs).flatten) else none
  | .mul, .lst xs, .int k => if -1000 ≤ k ∧ k ≤ 1000 ∧ xs.length ≤ 1000 then some (.lst (List.replicate k.toNat xs).flatten) else none
  | .fdiv, .int i, .int j => if j ≠ 0 then some (.int (i.fdiv j)) else none
  | .mod, .int i, .int j => if j ≠ 0 then some (.int (i.fmod j)) else none
  | .pow, .int i, .int j => if powOk i j then some (.int (i ^ j.toNat)) else none
  | .add, .tup xs, .tup ys => if xs.length + ys.length ≤ lim then some (.tup (xs ++ ys)) else none
  | .add, .lst xs, .lst ys => if xs.length + ys.length ≤ lim then some (.lst (xs ++ ys)) else none
  | .add, .str x, .str y => if x.length + y.length ≤ lim then some (.str (x ++ y)) else none
  | _, _, _ => none
def op2 (o : Op2) (x y : SV) : M PV := bnd (rd x) fun x => bnd (rd y) fun y => ofO (op2v o x y)
def eqvD (x y : PV) : Option Bool := match x.dat, y.dat with
  | some d, some e => if SeqAt.shaped d = true ∧ SeqAt.shaped e = true then some (PyData.eqv d e) else none
  | _, _ => none
def eqv : PV → PV → Option Bool
  | .str a, .str b => some (decide (a = b))
  | x, y => eqvD x y
def isn : PV → Bool
  | .non => true
  | _ => false
def cmpv : Cm → PV → PV → Option Bool
  | .eq, x, y => eqv x y
  | .ne, x, y => (eqv x y).map (!·)
  | .lt, .int i, .int j => some (decide (i < j))
  | .le, .int i, .int j => some (decide (i ≤ j))
  | .gt, .int i, .int j => some (decide (j < i))
  | .ge, .int i, .int j => some (decide (j ≤ i))
  | .lt, .str a, .str b => some (decide (a.cps.toList < b.cps.toList))
  | .le, .str a, .str b => some (!decide (b.cps.toList < a.cps.toList))
  | .mem, .str a, .str b => some (!(Builtin.Str.occurrences b a 0 b.length 1).isEmpty)
  | .nmem, .str a, .str b => some (!(!(Builtin.Str.occurrences b a 0 b.length 1).isEmpty))
  | .isn, x, .non => some (isn x)
  | .notn, x, .non => some (!isn x)
  | _, _, _ => none
def cmp2 (o : Cm) (x y : SV) : M Bool := bnd (rd x) fun x => bnd (rd y) fun y => ofO (cmpv o x y)
def ixv : PV → PV → Option PV
  | .tup xs, .int i => L2.atI xs i
  | .lst xs, .int i => L2.atI xs i
  | .fz xs, .int i => L2.atI xs i
  | .str z, .int i => if z.length ≤ lim then (L2.atI z.cps.toList i).map fun c => .str ⟨#[c]⟩ else none
  | _, _ => none
/-- a text's letters -/
def chars : PV → Option (List PV)
  | .str z => some (z.cps.toList.map fun c => .str ⟨#[c]⟩)
  | _ => none
def ix2 (x y : SV) : M PV := bnd (rd x) fun x => bnd (rd y) fun y => ofO (ixv x y)
def tyOk : Ty → PV → Option Bool
  | _, .non => some false
  | t, .bl _ => some (match t with | .bool => true | .int => true | _ => false)
  | t, .int _ => some (match t with | .int => true | _ => false)
  | t, .str _ => some (match t with | .str => true | _ => false)
  | t, .tup _ => some (match t with | .tup => true | _ => false)
  | t, .lst _ => some (match t with | .list => true | _ => false)
  | _, .dic _ => some false
  | _, _ => none
def bls : List PV → Option (List Bool)
  | [] => some []
  | .bl b :: xs => (bls xs).map (b :: ·)
  | _ => none
/-- a dict of ints, as data -/
def dicD (kvs : List (Int × Int)) : PyData := .dict (kvs.map fun p => (.int p.1, .int p.2))
def dicOk (kvs : List (Int × Int)) (n : Nat) : Bool := (dicD kvs).showable && (decide ((dicD kvs).shown.length + n ≤ lim) && decide ((dicD kvs).depth ≤ 64))
def reprD (v : PV) : Option PV := match v.dat with
  | some d => if rok d = true ∧ d.shown.length ≤ lim ∧ d.depth ≤ 64 then some (.str d.shown) else none
  | none => none
def reprv : PV → Option PV
  | .dic kvs => if dicOk kvs 0 = true then some (.str (dicD kvs).shown) else none
  | v => reprD v
def biv : Bi → List PV → Option PV
  | .len, [.str z] => if z.length ≤ lim then some (.int z.length) else none
  | .len, [.tup xs] => some (.int xs.length)
  | .len, [.lst xs] => some (.int xs.length)
  | .len, [.fz xs] => some (.int xs.length)
  | .abs, [.int i] => some (.int (if i < 0 then -i else i))
  | .int, [.int i] => some (.int i)
  | .int, [.bl b] => some (.int (if b then 1 else 0))
  | .max2, [.int i, .int j] => some (.int (if j > i then j else i))
  | .min2, [.int i, .int j] => some (.int (if j < i then j else i))
  | .tuple, [.tup xs] => some (.tup xs)
  | .tuple, [.lst xs] => some (.tup xs)
  | .list, [.tup xs] => some (.lst xs)
  | .list, [.lst xs] => some (.lst xs)
  | .all, [.lst ys] => (bls ys).map fun bs => .bl (bs.all id)
  | .any, [.lst ys] => (bls ys).map fun bs => .bl (bs.any id)
  | .repr, [v] => reprv v
  | _, _ => none
def rdAll : List SV → M (List PV)
  | [] => ok []
  | x :: xs => bnd (rd x) fun v => bnd (rdAll xs) fun vs => ok (v :: vs)
def biOf (b : Bi) (xs : List SV) : M PV := bnd (rdAll xs) fun vs => ofO (biv b vs)
def cutL (xs : List PV) (lo hi : Option Int) : List PV := (xs.drop (HT.sIx xs.length 0 lo)).take (HT.sIx xs.length xs.length hi - HT.sIx xs.length 0 lo)
def cutv (lo hi : Option Int) : PV → Option PV
  | .tup xs => some (.tup (cutL xs lo hi))
  | .lst xs => some (.lst (cutL xs lo hi))
  | _ => none
def revv : PV → Option PV
  | .lst xs => some (.lst xs.reverse)
  | _ => none
def rngOf (i j : Int) : Option (List PV) := if -(2 ^ 62) ≤ i ∧ i < 2 ^ 62 ∧ -(2 ^ 62) ≤ j ∧ j < 2 ^ 62 then some ((List.range (j - i).toNat).map fun k => .int (i + (k : Nat))) else none
def bindT (tg : Tg) (v : PV) (sl : Slots) : Option Slots := match tg, v with
  | .n i, v => some (sl.set i (some (.d v)))
  | .t is, .tup xs => if xs.length = is.length then some ((is.zip xs).foldl (fun s p => s.set p.1 (some (.d p.2))) sl) else none
  | .t is, .lst xs => if xs.length = is.length then some ((is.zip xs).foldl (fun s p => s.set p.1 (some (.d p.2))) sl) else none
  | _, _ => none
def zipv : PV → PV → Option (List PV)
  | .tup xs, .tup ys => some (List.zipWith (fun a b => .tup [a, b]) xs ys)
  | .lst xs, .lst ys => some (List.zipWith (fun a b => .tup [a, b]) xs ys)
  | _, _ => none
def enumv : PV → Option (List PV)
  | .lst xs => some ((xs.zipIdx).map fun p => .tup [.int (p.2 : Nat), p.1])
  | _ => none
/-- a list's loop: what is kept is appended -/
def lcGo (sl : Slots) (tg : Tg) (c : Slots → M Bool) (e : Slots → M PV) : List PV → List PV → M (List PV)
  | [], acc => ok acc
  | x :: xs, acc => match bindT tg x sl with
    | none => stk
    | some sl' => bnd (c sl') fun b => if b then bnd (e sl') fun y => lcGo sl tg c e xs (acc ++ [y]) else lcGo sl tg c e xs acc
abbrev Cl := Nat → List SV → M SV
def frzOf (sl : Slots) (i : Nat) : M PV := fun st => match sl[i]? with
  | some (some (.r l)) => (match st[l]? with
    | some (.lst xs) => some (.ok (.lst xs) (st.set l .dead))
    | _ => none)
  | _ => none
inductive Out where
  | nx (sl : Slots) | rt (v : SV) | ct (sl : Slots)
/-- what a clause hands back -/
def hkv : Hk → Option PV → Option PV
  | .s x, _ => some (.str (Str.ofString x))
  | .r x, some v => match reprv v with
    | some (.str t) => if (Str.ofString x).length + t.length ≤ lim then some (.str (Str.ofString x ++ t)) else none
    | _ => none
  | .l, some v => some (.lst [v])
  | _, none => none
/-- the word of a call -/
def wordOf (w : Wd) (m : M SV) : M SV := fun st => match m st with
  | some (.ok v st') => (match w.fine with
    | some s => some (.ok (.d (.str (Str.ofString s))) st')
    | none => (match v with
      | .d u => some (.ok (.d u) st')
      | _ => none))
  | some (.ex x st') => (match w.hs.find? fun h => h.1 == x.c with
    | some h => (match hkv h.2 x.p with
      | some v => some (.ok (.d v) st')
      | none => none)
    | none => none)
  | none => none
/-- an error that keeps v is made: its message shows v -/
def raiseD (v : PV) : Bool := match v with
  | .dic kvs => dicOk kvs 100
  | v => (match v.dat with
    | some d => d.showable && (!d.hasDict && (decide (d.depth ≤ 64) && decide (d.shown.length + 100 ≤ lim)))
    | none => false)
def raiseV (c : Nat) (v : PV) : M Out := fun st => if c = 901 then (if raiseD v = true then some (.ex ⟨c, some v⟩ st) else none) else some (.ex ⟨c, some v⟩ st)
mutual
def evE (cl : Cl) : E → Slots → M SV
  | .slot i, sl => match sl[i]? with
    | some (some (.d v)) => ok (.d v)
    | some (some (.r l)) => ok (.r l)
    | _ => stk
  | .non, _ => ok (.d .non)
  | .bl b, _ => ok (.d (.bl b))
  | .int i, _ => ok (.d (.int i))
  | .str x, _ => ok (.d (.str (Str.ofString x)))
  | .glob _ c, _ => ok (.d c.val)
  | .fnv f, _ => ok (.d (.fn f))
  | .dic0, _ => ok (.d (.dic []))
  | .dic1 k v, _ => ok (.d (.dic [(k, v)]))
  | .tup es, sl => bnd (evs cl es sl) fun vs => bnd (dAll vs) fun xs => ok (.d (.tup xs))
  | .lst es, sl => bnd (evs cl es sl) fun vs => bnd (dAll vs) fun xs => ok (.d (.lst xs))
  | .star a es, sl => bnd (evE cl a sl) fun v => bnd (rd v) fun v => bnd (ofO (items v)) fun xs => bnd (evs cl es sl) fun vs => bnd (dAll vs) fun ys => if xs.length + ys.length ≤ lim then ok (.d (.tup (xs ++ ys))) else stk
  | .bin o a b, sl => bnd (evE cl a sl) fun x => bnd (evE cl b sl) fun y => bnd (op2 o x y) fun z => ok (.d z)
  | .neg a, sl => bnd (evE cl a sl) fun x => bnd (asI x) fun i => ok (.d (.int (-i)))
  | .not a, sl => bnd (evE cl a sl) fun x => bnd (asB x) fun b => ok (.d (.bl (!b)))
  | .cmp o a b, sl => bnd (evE cl a sl) fun x => bnd (evE cl b sl) fun y => bnd (cmp2 o x y) fun b => ok (.d (.bl b))
  | .chain o o' a b c, sl => bnd (evE cl a sl) fun x => bnd (evE cl b sl) fun y => bnd (cmp2 o x y) fun k =>
      if k then bnd (evE cl c sl) fun z => bnd (cmp2 o' y z) fun k' => ok (.d (.bl k')) else ok (.d (.bl false))
  | .and a b, sl => bnd (evE cl a sl) fun x => bnd (asB x) fun k => if k then evE cl b sl else ok (.d (.bl false))
  | .or a b, sl => bnd (evE cl a sl) fun x => bnd (asB x) fun k => if k then ok (.d (.bl true)) else evE cl b sl
  | .one a, sl => evE cl a sl
  | .ifx t a b, sl => bnd (evE cl t sl) fun x => bnd (asB x) fun k => if k then evE cl a sl else evE cl b sl
  | .ix a b, sl => bnd (evE cl a sl) fun x => bnd (evE cl b sl) fun y => bnd (ix2 x y) fun z => ok (.d z)
  | .cut a lo hi, sl => bnd (evE cl a sl) fun x => bnd (evO cl lo sl) fun l => bnd (evO cl hi sl) fun h => bnd (rd x) fun v => bnd (ofO (cutv l h v)) fun z => ok (.d z)
  | .rev a, sl => bnd (evE cl a sl) fun x => bnd (rd x) fun v => bnd (ofO (revv v)) fun z => ok (.d z)
  | .call f es ds, sl => bnd (evs cl es sl) fun vs => cl f (vs ++ ds.map fun i => .d (.int i))
  | .callv i es, sl => match sl[i]? with
    | some (some (.d (.fn f))) => bnd (evs cl es sl) fun vs => cl f vs
    | some (some (.d (.lam j cs))) => bnd (evs cl es sl) fun vs => cl j (cs.map .d ++ vs)
    | _ => stk
  | .bi b es, sl => bnd (evs cl es sl) fun vs => bnd (biOf b vs) fun z => ok (.d z)
  | .isi a t, sl => bnd (evE cl a sl) fun x => bnd (asD x) fun v => bnd (ofO (tyOk t v)) fun b => ok (.d (.bl b))
  | .lc w tg c e, sl => bnd (evW cl w sl) fun xs => if xs.length ≤ lim then bnd (nox (lcGo sl tg (evC cl c) (fun s => bnd (evE cl e s) asD) xs [])) fun ys => ok (.d (.lst ys)) else stk
  | .frz i, sl => bnd (frzOf sl i) fun v => ok (.d v)
  | .word _ w b, sl => wordOf w (evE cl b sl)
  | .words _ w i _ bs, sl => match sl[i]? with
    | some (some .ls) => bnd (evWs cl w bs sl) fun ys => ok (.d (.lst ys))
    | _ => stk
def evs (cl : Cl) : Es → Slots → M (List SV)
  | .nil, _ => ok []
  | .cons e es, sl => bnd (evE cl e sl) fun v => bnd (evs cl es sl) fun vs => ok (v :: vs)
def evO (cl : Cl) : Oe → Slots → M (Option Int)
  | .no, _ => ok none
  | .ye e, sl => bnd (evE cl e sl) fun x => bnd (asI x) fun i => ok (some i)
def evC (cl : Cl) : Oe → Slots → M Bool
  | .no, _ => ok true
  | .ye e, sl => bnd (evE cl e sl) asB
def evW (cl : Cl) : W → Slots → M (List PV)
  | .rng1 a, sl => bnd (evE cl a sl) fun x => bnd (asI x) fun j => ofO (rngOf 0 j)
  | .rng2 a b, sl => bnd (evE cl a sl) fun x => bnd (evE cl b sl) fun y => bnd (asI x) fun i => bnd (asI y) fun j => ofO (rngOf i j)
  | .over a, sl => bnd (evE cl a sl) fun x => bnd (asD x) fun v => ofO (items v)
  | .zip a b, sl => bnd (evE cl a sl) fun x => bnd (evE cl b sl) fun y => bnd (asD x) fun x => bnd (asD y) fun y => ofO (zipv x y)
  | .enum a, sl => bnd (evE cl a sl) fun x => bnd (asD x) fun v => ofO (enumv v)
  | .chars a, sl => bnd (evE cl a sl) fun x => bnd (asD x) fun v => ofO (chars v)
def evWs (cl : Cl) (w : Wd) : Es → Slots → M (List PV)
  | .nil, _ => ok []
  | .cons b bs, sl => bnd (wordOf w (evE cl b sl)) fun v => bnd (asD v) fun y => bnd (evWs cl w bs sl) fun ys => ok (y :: ys)
def dAll : List SV → M (List PV)
  | [] => ok []
  | .d v :: vs => bnd (dAll vs) fun xs => ok (v :: xs)
  | _ :: _ => stk
end

/-! ### statements, defs -/
def forGo (tg : Tg) (b : Slots → M Out) : List PV → Slots → M Out
  | [], sl => ok (.nx sl)
  | x :: xs, sl => match bindT tg x sl with
    | none => stk
    | some sl' => bnd (b sl') fun o => match o with
      | .nx s => forGo tg b xs s
      | .ct s => forGo tg b xs s
      | .rt v => ok (.rt v)
def whlGo (t : Slots → M Bool) (b : Slots → M Out) : Nat → Slots → M Out
  | 0, _ => stk
  | n + 1, sl => bnd (t sl) fun k => if k then bnd (b sl) fun o => match o with
      | .nx s => whlGo t b n s
      | .ct s => whlGo t b n s
      | .rt v => ok (.rt v)
    else ok (.nx sl)
def cellSet (l : Nat) (f : List PV → Option (List PV)) : M Unit := fun st => match st[l]? with
  | some (.lst xs) => (match f xs with
    | some ys => some (.ok () (st.set l (.lst ys)))
    | none => none)
  | _ => none
def cellOf : SV → M Nat
  | .r l => fun st => match st[l]? with
    | some (.lst _) => some (.ok l st)
    | _ => none
  | _ => stk
/-- turns of a while -/
def fuel : Nat := 2 ^ 250
mutual
def evS (cl : Cl) : S → Slots → M Out
  | .set i e, sl => bnd (evE cl e sl) fun v => ok (.nx (sl.set i (some v)))
  | .new i e, sl => bnd (evE cl e sl) fun v => match v with
    | .d (.lst xs) => fun st => some (.ok (.nx (sl.set i (some (.r st.length)))) (st ++ [.lst xs]))
    | _ => stk
  | .par i j a b, sl => bnd (evE cl a sl) fun x => bnd (evE cl b sl) fun y => ok (.nx ((sl.set i (some x)).set j (some y)))
  | .par3 i j l a b c, sl => bnd (evE cl a sl) fun x => bnd (evE cl b sl) fun y => bnd (evE cl c sl) fun z => ok (.nx (((sl.set i (some x)).set j (some y)).set l (some z)))
  | .unp is e, sl => bnd (evE cl e sl) fun x => bnd (asD x) fun v => bnd (ofO (bindT (.t is) v sl)) fun s => ok (.nx s)
  | .seti a b e, sl => bnd (evE cl e sl) fun x => bnd (asD x) fun v => bnd (evE cl a sl) fun o => bnd (evE cl b sl) fun y => bnd (asI y) fun i => match o with
    | .r l => bnd (cellSet l fun xs => (L2.ixN xs.length i).map fun j => xs.set j v) fun _ => ok (.nx sl)
    | _ => stk
  | .ifs t a b, sl => bnd (evE cl t sl) fun x => bnd (asB x) fun k => if k then evSs cl a sl else evSs cl b sl
  | .for tg w b, sl => bnd (evW cl w sl) fun xs => forGo tg (evSs cl b) xs sl
  | .whl t b, sl => whlGo (fun s => bnd (evE cl t s) asB) (evSs cl b) fuel sl
  | .ret e, sl => bnd (evE cl e sl) fun v => ok (.rt v)
  | .app i e, sl => bnd (evE cl (.slot i) sl) fun o => bnd (cellOf o) fun l => bnd (evE cl e sl) fun x => bnd (asD x) fun v =>
      bnd (cellSet l fun xs => if xs.length < lim then some (xs ++ [v]) else none) fun _ => ok (.nx sl)
  | .retC i, sl => match sl[i]? with
    | some (some (.r l)) => ok (.rt (.r l))
    | _ => stk
  | .ex e, sl => bnd (evE cl e sl) fun _ => ok (.nx sl)
  | .pass, sl => ok (.nx sl)
  | .cont, sl => ok (.ct sl)
  | .never, _ => stk
  | .lams i, sl => ok (.nx (sl.set i (some .ls)))
  | .rai c _, _ => fun st => some (.ex ⟨c, none⟩ st)
  | .rac c e, sl => bnd (evE cl e sl) fun x => bnd (asD x) fun v => raiseV c v
def evSs (cl : Cl) : Ss → Slots → M Out
  | .nil, sl => ok (.nx sl)
  | .cons s ss, sl => bnd (evS cl s sl) fun o => match o with
    | .nx s' => evSs cl ss s'
    | o => ok o
end
/-- what a def hands back: data; a list of its own is handed over -/
def fin (n : Nat) : SV → M SV
  | .d v => fun st => some (.ok (.d v) (st.take n))
  | .r l => fun st => if l < n then none else match st[l]? with
    | some (.lst xs) => some (.ok (.d (.lst xs)) (st.take n))
    | _ => none
  | .ls => fun _ => none
def run (cl : Cl) (fn : Fn) (args : List SV) : M SV := fun st => if args.length = fn.np then
    match evSs cl fn.body (args.map some ++ List.replicate (fn.N.length - args.length) none) st with
    | some (.ok (.rt v) st') => fin st.length v st'
    | some (.ok (.nx _) st') => fin st.length (.d .non) st'
    | some (.ex x st') => some (.ex x (st'.take st.length))
    | _ => none
  else none
def callF (tbl : Nat → Option Fn) : Nat → Cl
  | 0, _, _ => stk
  | n + 1, f, args => match tbl f with
    | some fn => run (callF tbl n) fn args
    | none => stk
end Fo
end -- FoCore

section -- FoRep
set_option Elab.async false
set_option linter.all false
set_option maxRecDepth 100000
set_option maxHeartbeats 1000000
/-! FoRep: how values, cells and slots stand in the abstract heap; what a term's reading is. -/
namespace Fo
open PySem L2 Evl

theorem lim_eq : lim = sizeLine := sizeLine_eq.symm
def dkv (kvs : List (Int × Int)) : List (L2.Key × V) := kvs.map fun p => (.inl p.1, .int p.2)
mutual
inductive Rep (K : PySem.W.Frag) (ad : Nat → Option Addr) (F : Hp) : PV → V → Prop
  | non : Rep K ad F .non .non
  | bl (b : Bool) : Rep K ad F (.bl b) (.bl b)
  | int (i : Int) : Rep K ad F (.int i) (.int i)
  | str (x : Str) : Rep K ad F (.str x) (.str x)
  | tup {a : Addr} {vs : List V} {xs : List PV} : SqT K F a vs → vs.length ≤ lim → RepA K ad F xs vs → Rep K ad F (.tup xs) (.ref a)
  | lst {a : Addr} {vs : List V} {xs : List PV} : F a = some (.lst vs) → vs.length ≤ lim → RepA K ad F xs vs → Rep K ad F (.lst xs) (.ref a)
  | fz {a : Addr} {vs : List V} {xs : List PV} : SqL K F a vs → vs.length ≤ lim → RepA K ad F xs vs → Rep K ad F (.fz xs) (.ref a)
  | fn {f : Nat} {a : Addr} : ad f = some a → Rep K ad F (.fn f) (.ref a)
  | dic {a : Addr} {kvs : List (Int × Int)} : F a = some (.dK (dkv kvs)) → Rep K ad F (.dic kvs) (.ref a)
inductive RepA (K : PySem.W.Frag) (ad : Nat → Option Addr) (F : Hp) : List PV → List V → Prop
  | nil : RepA K ad F [] []
  | cons {x : PV} {v : V} {xs : List PV} {vs : List V} : Rep K ad F x v → RepA K ad F xs vs → RepA K ad F (x :: xs) (v :: vs)
end
section
variable {K : PySem.W.Frag} {ad : Nat → Option Addr} {F F' H H' : Hp}
mutual
theorem Rep.mono (e : Ex F F') : ∀ (x : PV) (v : V), Rep K ad F x v → Rep K ad F' x v
  | .non, _, h => by cases h; exact .non
  | .bl _, _, h => by cases h; exact .bl _
  | .int _, _, h => by cases h; exact .int _
  | .str _, _, h => by cases h; exact .str _
  | .tup xs, _, h => by
    cases h with
    | tup a b c => exact .tup (ex_t e a) b (RepA.mono e xs _ c)
  | .lst xs, _, h => by
    cases h with
    | lst a b c => exact .lst (e _ _ a) b (RepA.mono e xs _ c)
  | .fz xs, _, h => by
    cases h with
    | fz a b c => exact .fz (ex_l e a) b (RepA.mono e xs _ c)
  | .dic _, _, h => by
    cases h with
    | dic a => exact .dic (e _ _ a)
  | .fn _, _, h => by
    cases h with
    | fn a => exact .fn a
  | .lam _ _, _, h => by cases h
theorem RepA.mono (e : Ex F F') : ∀ (xs : List PV) (vs : List V), RepA K ad F xs vs → RepA K ad F' xs vs
  | [], _, h => by cases h; exact .nil
  | x :: xs, _, h => by
    cases h with
    | cons a b => exact .cons (Rep.mono e x _ a) (RepA.mono e xs _ b)
end
theorem RepA.len : ∀ {xs : List PV} {vs : List V}, RepA K ad F xs vs → xs.length = vs.length
  | [], _, h => by cases h; rfl
  | _ :: _, _, h => by
    cases h with
    | cons a b => exact congrArg (· + 1) b.len
theorem RepA.get : ∀ {xs : List PV} {vs : List V} {i : Nat} {x : PV}, RepA K ad F xs vs → xs[i]? = some x → ∃ v, vs[i]? = some v ∧ Rep K ad F x v
  | [], _, _, _, _, e => by simp at e
  | _ :: _, _, i, _, h, e => by
    cases h with
    | cons a b =>
      cases i with
      | zero => simp at e; subst e; exact ⟨_, rfl, a⟩
      | succ i =>
        obtain ⟨v, h1, h2⟩ := b.get (i := i) (by simpa using e)
        exact ⟨v, by simpa using h1, h2⟩
theorem RepA.getV : ∀ {xs : List PV} {vs : List V} {i : Nat} {v : V}, RepA K ad F xs vs → vs[i]? = some v → ∃ x, xs[i]? = some x ∧ Rep K ad F x v
  | [], _, _, _, h, e => by cases h; simp at e
  | _ :: _, _, i, _, h, e => by
    cases h with
    | cons a b =>
      cases i with
      | zero => simp at e; subst e; exact ⟨_, rfl, a⟩
      | succ i =>
        obtain ⟨v, h1, h2⟩ := b.getV (i := i) (by simpa using e)
        exact ⟨v, by simpa using h1, h2⟩
theorem RepA.app : ∀ {xs ys : List PV} {vs ws : List V}, RepA K ad F xs vs → RepA K ad F ys ws → RepA K ad F (xs ++ ys) (vs ++ ws)
  | [], _, _, _, h, q => by cases h; exact q
  | _ :: _, _, _, _, h, q => by
    cases h with
    | cons a b => exact .cons a (b.app q)
theorem RepA.take : ∀ {xs : List PV} {vs : List V} (n : Nat), RepA K ad F xs vs → RepA K ad F (xs.take n) (vs.take n)
  | _, _, 0, _ => .nil
  | [], _, _ + 1, h => by cases h; exact .nil
  | _ :: _, _, n + 1, h => by
    cases h with
    | cons a b => exact .cons a (RepA.take n b)
theorem RepA.drop : ∀ {xs : List PV} {vs : List V} (n : Nat), RepA K ad F xs vs → RepA K ad F (xs.drop n) (vs.drop n)
  | _, _, 0, h => h
  | [], _, _ + 1, h => by cases h; exact .nil
  | _ :: _, _, n + 1, h => by
    cases h with
    | cons a b => exact RepA.drop n b
theorem RepA.rev {xs : List PV} {vs : List V} (h : RepA K ad F xs vs) : RepA K ad F xs.reverse vs.reverse := by
  induction xs generalizing vs with
  | nil => cases h; exact .nil
  | cons x xs ih =>
    cases h with
    | cons a b =>
      rw [List.reverse_cons, List.reverse_cons]
      exact (ih b).app (.cons a .nil)
theorem RepA.set : ∀ {xs : List PV} {vs : List V} (i : Nat) {x : PV} {v : V}, Rep K ad F x v → RepA K ad F xs vs → RepA K ad F (xs.set i x) (vs.set i v)
  | [], _, _, _, _, _, h => by cases h; exact .nil
  | _ :: _, _, i, _, _, r, h => by
    cases h with
    | cons a b =>
      cases i with
      | zero => exact .cons r b
      | succ i => exact .cons a (RepA.set i r b)
mutual
theorem Rep.dp (e : Ex F H) : ∀ (x : PV) (v : V) (d : PyData), Rep K ad F x v → x.dat = some d → Dp K H v d
  | .non, _, _, h, q => by cases h; simp [PV.dat] at q; subst q; exact .non
  | .bl _, _, _, h, q => by cases h; simp [PV.dat] at q; subst q; exact .bl _
  | .int _, _, _, h, q => by cases h; simp [PV.dat] at q; subst q; exact .int _
  | .str _, _, _, h, q => by cases h; simp [PV.dat] at q; subst q; exact .str _
  | .tup xs, _, _, h, q => by
    cases h with
    | tup a b c =>
      simp only [PV.dat, Option.map_eq_some_iff] at q
      obtain ⟨ds, q1, q2⟩ := q
      subst q2
      exact .tup (ex_t e a) (RepA.dp e xs _ _ c q1)
  | .lst xs, _, _, h, q => by
    cases h with
    | lst a b c =>
      simp only [PV.dat, Option.map_eq_some_iff] at q
      obtain ⟨ds, q1, q2⟩ := q
      subst q2
      exact .lst (SqL.of (e _ _ a)) (RepA.dp e xs _ _ c q1)
  | .fz _, _, _, _, q => by simp [PV.dat] at q
  | .dic _, _, _, _, q => by simp [PV.dat] at q
  | .fn _, _, _, _, q => by simp [PV.dat] at q
  | .lam _ _, _, _, _, q => by simp [PV.dat] at q
theorem RepA.dp (e : Ex F H) : ∀ (xs : List PV) (vs : List V) (ds : List PyData), RepA K ad F xs vs → PV.dats xs = some ds → DpAll K H vs ds
  | [], _, _, h, q => by cases h; simp [PV.dats] at q; subst q; exact .nil
  | x :: xs, _, _, h, q => by
    cases h with
    | cons a b =>
      simp only [PV.dats] at q
      split at q
      · rename_i d ds q1 q2
        cases q
        exact .cons (Rep.dp e x _ _ a q1) (RepA.dp e xs _ _ b q2)
      · cases q
end
end

/-! ### cells, slots -/
/-- what is known of the abstract heap: what is frozen, the cells' addresses -/
structure G where
  F : Hp
  r : List (List Addr)
  p : List (Addr × HO)
/-- a lambda's words -/
structure LamD where
  q : Str
  params : Arguments
  body : Expr
  scope : Scope
  cl : List (Str × Addr)
def LamO (f : Addr) (d : LamD) (pm : Value) (c' : Addr) (ctv : Value) : HO := .ext fun h => h.get? f = some (PySem.W.kla_obj "<lambda>" d.q d.params d.body d.scope d.cl pm c' ctv)
/-- the def at hand: the name of its lambdas, its cells, the lists of lambdas by slot -/
structure Lm where
  q : Str
  cells : List (Str × Addr)
  at_ : Nat → Option (List Expr)
def LamAt (F : Hp) (lm : Lm) : Expr → Addr → Prop
  | .Lambda params body scope _, a => ∃ pm c' ctv, F a = some (LamO a ⟨lm.q, params, body, scope, cloFrom lm.cells scope.names []⟩ pm c' ctv) ∧ F c' = some (LamX.CodeO c' lm.q)
  | _, _ => False
inductive LamAll (F : Hp) (lm : Lm) : List Expr → List V → Prop
  | nil : LamAll F lm [] []
  | cons {e : Expr} {a : Addr} {es : List Expr} {vs : List V} : LamAt F lm e a → LamAll F lm es vs → LamAll F lm (e :: es) (.ref a :: vs)
/-- the tables of code objects of the defs that make lambdas: by ad, at 10000 and on -/
def lamNames : List Str := ["_law_right", "law", "_law_sizes_right", "_law_alone_right", "_law_errors_right"]
def lamQ (i : Nat) : Str := (lamNames.getD i "") ++ ".<locals>.<lambda>"
/-- an address that is neither frozen nor a cell's nor guarded -/
def Free (g : G) (a : Addr) : Prop := g.F a = none ∧ a ∉ g.r.flatten ∧ ∀ q ∈ g.p, q.1 ≠ a
section
variable (K : PySem.W.Frag) (ad : Nat → Option Addr)
inductive CellR (F H : Hp) : Cell → List Addr → Prop
  | lst {a : Addr} {vs : List V} {xs : List PV} : H a = some (.lst vs) → vs.length ≤ lim → RepA K ad F xs vs → CellR F H (.lst xs) [a]
  | dead : CellR F H .dead []
structure OK (g : G) (H : Hp) (st : Store) : Prop where
  ex : Ex g.F H
  len : g.r.length = st.length
  cell : ∀ (l : Nat) (c : Cell) (as : List Addr), st[l]? = some c → g.r[l]? = some as → CellR K ad g.F H c as
  nd : g.r.flatten.Nodup
  dj : ∀ a ∈ g.r.flatten, g.F a = none
  pr : ∀ q ∈ g.p, H q.1 = some q.2 ∧ g.F q.1 = none ∧ q.1 ∉ g.r.flatten
  nt : ∀ a ps, g.F a ≠ some (.tbl ps)
  np : ∀ q ∈ g.p, ∃ xs, q.2 = .lst xs
  tb : ∀ i P, i < lamNames.length → ad (10000 + i) = some P → LamX.TabS H P (lamQ i)
structure Le (g g' : G) : Prop where
  ex : Ex g.F g'.F
  len : g.r.length ≤ g'.r.length
  ent : ∀ (l : Nat) (a : Addr) (as : List Addr), l < g.r.length → g'.r[l]? = some (a :: as) → g.r[l]? = some (a :: as)
  pp : g'.p = g.p
def RepS (g : G) : SV → V → Prop
  | .d v, w => Rep K ad g.F v w
  | .r l, w => l < g.r.length ∧ ∀ (a : Addr) (as : List Addr), g.r[l]? = some (a :: as) → w = .ref a
  | .ls, _ => False
/-- what a slot holds -/
def RepV (lm : Lm) (g : G) (i : Nat) : SV → V → Prop
  | .ls, w => ∀ es, lm.at_ i = some es → ∃ p vs, w = .ref p ∧ g.F p = some (.lst vs) ∧ LamAll g.F lm es vs
  | v, w => RepS K ad g v w
def RepSl (lm : Lm) (g : G) (sl : Slots) (σ : L2.St) : Prop := sl.length = σ.length ∧ ∀ (i : Nat) (v : SV), sl[i]? = some (some v) → ∃ w, σ[i]? = some (some w) ∧ RepV K ad lm g i v w
inductive RepSs (g : G) : List SV → List V → Prop
  | nil : RepSs g [] []
  | cons {x : SV} {v : V} {xs : List SV} {vs : List V} : RepS K ad g x v → RepSs g xs vs → RepSs g (x :: xs) (v :: vs)
end
section
variable {K : PySem.W.Frag} {ad : Nat → Option Addr} {lm : Lm} {F F' H H' : Hp} {g g' g'' : G} {st st' : Store}
theorem Le.refl (g : G) : Le g g := ⟨Ex.refl _, Nat.le_refl _, fun _ _ _ _ h => h, rfl⟩
theorem Le.trans (a : Le g g') (b : Le g' g'') : Le g g'' :=
  ⟨a.ex.trans b.ex, Nat.le_trans a.len b.len, fun l x as h q => a.ent l x as h (b.ent l x as (Nat.lt_of_lt_of_le h a.len) q), b.pp.trans a.pp⟩
theorem RepS.mono {x : SV} {v : V} (l : Le g g') (h : RepS K ad g x v) : RepS K ad g' x v := by
  cases x with
  | d x => exact Rep.mono l.ex x v h
  | r n => exact ⟨Nat.lt_of_lt_of_le h.1 l.len, fun a as q => h.2 a as (l.ent n a as h.1 q)⟩
  | ls => exact h
theorem LamAt.mono {F F' : Hp} (e : Ex F F') : ∀ {x : Expr} {a : Addr}, LamAt F lm x a → LamAt F' lm x a := fun {x a} h => by
  unfold LamAt at *
  split at h
  · obtain ⟨pm, c', ctv, h1, h2⟩ := h
    exact ⟨pm, c', ctv, e _ _ h1, e _ _ h2⟩
  · exact h.elim
theorem LamAll.mono {F F' : Hp} (e : Ex F F') : ∀ {es : List Expr} {vs : List V}, LamAll F lm es vs → LamAll F' lm es vs
  | _, _, .nil => .nil
  | _, _, .cons a b => .cons (a.mono e) (LamAll.mono e b)
theorem RepS.v {x : SV} {v : V} {i : Nat} (h : RepS K ad g x v) : RepV K ad lm g i x v := by
  cases x with
  | d x => exact h
  | r n => exact h
  | ls => exact h.elim
theorem RepV.mono {x : SV} {v : V} {i : Nat} (l : Le g g') (h : RepV K ad lm g i x v) : RepV K ad lm g' i x v := by
  cases x with
  | d x => exact RepS.mono (K := K) (ad := ad) (x := .d x) l h
  | r n => exact RepS.mono (K := K) (ad := ad) (x := .r n) l h
  | ls =>
    intro es he
    obtain ⟨p, vs, h1, h2, h3⟩ := h es he
    exact ⟨p, vs, h1, l.ex _ _ h2, h3.mono l.ex⟩
theorem RepSl.mono {sl : Slots} {σ : L2.St} (l : Le g g') (h : RepSl K ad lm g sl σ) : RepSl K ad lm g' sl σ :=
  ⟨h.1, fun i v e => let ⟨w, a, b⟩ := h.2 i v e; ⟨w, a, b.mono l⟩⟩
theorem RepSs.mono (l : Le g g') : ∀ {xs : List SV} {vs : List V}, RepSs K ad g xs vs → RepSs K ad g' xs vs
  | _, _, .nil => .nil
  | _, _, .cons a b => .cons (a.mono l) (RepSs.mono l b)
theorem RepSs.len : ∀ {xs : List SV} {vs : List V}, RepSs K ad g xs vs → xs.length = vs.length
  | _, _, .nil => rfl
  | _, _, .cons _ b => congrArg (· + 1) b.len
theorem RepSs.app : ∀ {xs ys : List SV} {vs ws : List V}, RepSs K ad g xs vs → RepSs K ad g ys ws → RepSs K ad g (xs ++ ys) (vs ++ ws)
  | _, _, _, _, .nil, q => q
  | _, _, _, _, .cons a b, q => .cons a (b.app q)
theorem RepSl.set {sl : Slots} {σ : L2.St} {x : SV} {v : V} (i : Nat) (h : RepSl K ad lm g sl σ) (r : RepS K ad g x v) : RepSl K ad lm g (sl.set i (some x)) (σ.set i (some v)) := by
  refine ⟨by rw [List.length_set, List.length_set, h.1], fun j y e => ?_⟩
  by_cases hj : i = j
  · subst hj
    by_cases hl : i < sl.length
    · rw [List.getElem?_set_self hl] at e
      cases e
      exact ⟨v, List.getElem?_set_self (by rw [← h.1]; exact hl), r.v⟩
    · rw [List.getElem?_eq_none (by rw [List.length_set]; omega)] at e
      cases e
  · rw [List.getElem?_set_ne hj] at e ⊢
    exact h.2 j y e
theorem CellR.ext {c : Cell} {as : List Addr} (e : Ex F F') (e2 : ∀ a ∈ as, H' a = H a) (h : CellR K ad F H c as) : CellR K ad F' H' c as := by
  cases h with
  | lst a b d => exact .lst (by rw [e2 _ (by simp)]; exact a) b (RepA.mono e _ _ d)
  | dead => exact .dead
theorem CellR.there {c : Cell} {as : List Addr} (h : CellR K ad F H c as) : ∀ a ∈ as, H a ≠ none := by
  cases h with
  | lst a b d =>
    intro z hz q
    have e := List.mem_singleton.mp hz
    rw [e, a] at q
    cases q
  | dead => intro _ h; cases h
theorem mem_flat {l : List (List Addr)} {a : Addr} (h : a ∈ l.flatten) : ∃ (i : Nat) (as : List Addr), l[i]? = some as ∧ a ∈ as := by
  obtain ⟨as, h1, h2⟩ := List.mem_flatten.mp h
  obtain ⟨i, hi, e⟩ := List.mem_iff_getElem.mp h1
  exact ⟨i, as, by rw [List.getElem?_eq_getElem hi, e], h2⟩
theorem OK.there (o : OK K ad g H st) {a : Addr} (h : a ∈ g.r.flatten) : H a ≠ none := by
  obtain ⟨i, as, h1, h2⟩ := mem_flat h
  have hi : i < st.length := by rw [← o.len]; exact (List.getElem?_eq_some_iff.mp h1).1
  exact (o.cell i _ as (List.getElem?_eq_getElem hi) h1).there a h2
theorem OK.notin (o : OK K ad g H st) {a : Addr} (h : H a = none) : a ∉ g.r.flatten := fun q => o.there q h
theorem OK.fnone (o : OK K ad g H st) {a : Addr} (h : H a = none) : g.F a = none := by
  cases e : g.F a with
  | none => rfl
  | some u => rw [o.ex a u e] at h; cases h
theorem OK.ext (o : OK K ad g H st) (e : Ex H H') : OK K ad g H' st where
  ex := o.ex.trans e
  len := o.len
  cell := fun l c as h1 h2 => by
    have q := o.cell l c as h1 h2
    refine q.ext (Ex.refl _) fun a ha => ?_
    cases h : H a with
    | none => exact absurd h (q.there a ha)
    | some u => exact e a u h
  nd := o.nd
  dj := o.dj
  pr := fun q hq => let ⟨a, b, c⟩ := o.pr q hq; ⟨e _ _ a, b, c⟩
  nt := o.nt
  np := o.np
  tb := fun i P hi hP => (o.tb i P hi hP).ext e
theorem codeO_lst {c : Addr} {q : Str} (xs : List V) : LamX.CodeO c q ≠ .lst xs := fun z => by
  unfold LamX.CodeO at z
  cases z
theorem TabS.lst {P a : Addr} {q : Str} {xs ys : List V} (h : H a = some (.lst xs)) (t : LamX.TabS H P q) : LamX.TabS (upd H a (.lst ys)) P q := by
  obtain ⟨ps, t1, t2, t3⟩ := t
  refine ⟨ps, ?_, t2, fun pos cv hc => ?_⟩
  · rw [upd_ne (fun z : P = a => by rw [z, h] at t1; cases t1)]
    exact t1
  · obtain ⟨c, e1, e2⟩ := t3 pos cv hc
    exact ⟨c, e1, by rw [upd_ne (fun z : c = a => by rw [z, h] at e2; exact codeO_lst _ (Option.some.inj e2).symm)]; exact e2⟩
theorem OK.free (o : OK K ad g H st) {a : Addr} (h : H a = none) : Free g a :=
  ⟨o.fnone h, o.notin h, fun q hq z => by rw [← z, (o.pr q hq).1] at h; cases h⟩
/-- p is frozen -/
theorem OK.froz (o : OK K ad g H st) {p : Addr} {u : HO} (h : H p = some u) (fr : Free g p) (hu : ∀ ps, u ≠ .tbl ps := by (intro _ z; cases z)) : OK K ad ⟨upd g.F p u, g.r, g.p⟩ H st ∧ Le g ⟨upd g.F p u, g.r, g.p⟩ := by
  have hn := fr.2.1
  have e1 : Ex g.F (upd g.F p u) := fun a v q => by
    by_cases z : a = p
    · subst z
      rw [o.ex a v q] at h
      cases h
      exact upd_same
    · rw [upd_ne z]; exact q
  refine ⟨⟨fun a v q => ?_, o.len, fun l c as h1 h2 => (o.cell l c as h1 h2).ext e1 fun _ _ => rfl, o.nd, fun a ha => ?_, fun q hq => ⟨(o.pr q hq).1, ?_, (o.pr q hq).2.2⟩, fun a ps q => ?_, o.np, o.tb⟩, ⟨e1, Nat.le_refl _, fun _ _ _ _ q => q, rfl⟩⟩
  rotate_left 3
  · have q : upd g.F p u a = some (.tbl ps) := q
    by_cases z : a = p
    · subst z
      rw [upd_same] at q
      exact hu ps (Option.some.inj q)
    · rw [upd_ne z] at q
      exact o.nt a ps q
  rotate_left 2
  · show upd g.F p u q.1 = none
    rw [upd_ne (fr.2.2 q hq)]
    exact (o.pr q hq).2.1
  · by_cases z : a = p
    · subst z
      have q' : upd g.F a u a = some v := q
      rw [upd_same] at q'
      rw [h, q']
    · have q' : upd g.F p u a = some v := q
      rw [upd_ne z] at q'
      exact o.ex a v q'
  · show upd g.F p u a = none
    rw [upd_ne (fun z : a = p => hn (by rw [← z]; exact ha))]
    exact o.dj a ha
/-- a new cell -/
theorem OK.new (o : OK K ad g H st) {p : Addr} {vs : List V} {xs : List PV} (h : H p = some (.lst vs)) (fr : Free g p) (hl : vs.length ≤ lim) (r : RepA K ad g.F xs vs) :
    OK K ad ⟨g.F, g.r ++ [[p]], g.p⟩ H (st ++ [.lst xs]) ∧ Le g ⟨g.F, g.r ++ [[p]], g.p⟩ := by
  have hf := fr.1
  have hn := fr.2.1
  refine ⟨⟨o.ex, by simp [o.len], fun l c as h1 h2 => ?_, ?_, fun a ha => ?_, fun q hq => ⟨(o.pr q hq).1, (o.pr q hq).2.1, fun z => ?_⟩, o.nt, o.np, o.tb⟩, ⟨Ex.refl _, by simp, fun l a as h1 h2 => ?_, rfl⟩⟩
  rotate_left 3
  · have z : q.1 ∈ (g.r ++ [[p]]).flatten := z
    rw [List.flatten_append, List.mem_append] at z
    rcases z with z | z
    · exact (o.pr q hq).2.2 z
    · simp at z
      exact fr.2.2 q hq z
  · have h2 : (g.r ++ [[p]])[l]? = some (a :: as) := h2
    rw [List.getElem?_append_left h1] at h2
    exact h2
  · by_cases z : l < st.length
    · rw [List.getElem?_append_left z] at h1
      rw [List.getElem?_append_left (by rw [o.len]; exact z)] at h2
      exact o.cell l c as h1 h2
    · rw [List.getElem?_append_right (by omega)] at h1
      rw [List.getElem?_append_right (by rw [o.len]; omega), o.len] at h2
      cases e : l - st.length with
      | zero =>
        rw [e] at h1 h2
        simp at h1 h2
        subst h1 h2
        exact .lst h hl r
      | succ k => rw [e] at h1; simp at h1
  · show (g.r ++ [[p]]).flatten.Nodup
    rw [List.flatten_append, List.nodup_append]
    refine ⟨o.nd, by simp, fun a ha b hb e => ?_⟩
    simp at hb
    subst e hb
    exact hn ha
  · have ha : a ∈ (g.r ++ [[p]]).flatten := ha
    rw [List.flatten_append, List.mem_append] at ha
    rcases ha with ha | ha
    · exact o.dj a ha
    · simp at ha
      subst ha
      exact hf
theorem flat_set_nil {l : List (List Addr)} {i : Nat} {a : Addr} (h : a ∈ (l.set i []).flatten) : a ∈ l.flatten := by
  obtain ⟨as, h1, h2⟩ := List.mem_flatten.mp h
  rcases List.mem_or_eq_of_mem_set h1 with z | z
  · exact List.mem_flatten.mpr ⟨as, z, h2⟩
  · rw [z] at h2; cases h2
theorem nodup_flat_at : ∀ {l : List (List Addr)} {i j : Nat} {as bs : List Addr} {a : Addr}, l.flatten.Nodup → l[i]? = some as → l[j]? = some bs → a ∈ as → a ∈ bs → i = j
  | [], i, _, _, _, _, _, h, _, _, _ => by simp at h
  | x :: l, i, j, as, bs, a, nd, h1, h2, m1, m2 => by
    rw [List.flatten_cons, List.nodup_append] at nd
    obtain ⟨n1, n2, n3⟩ := nd
    have inn : ∀ {k : Nat} {cs : List Addr}, l[k]? = some cs → a ∈ cs → a ∈ l.flatten := fun e m => List.mem_flatten.mpr ⟨_, List.mem_of_getElem? e, m⟩
    cases i with
    | zero =>
      cases j with
      | zero => rfl
      | succ j =>
        simp at h1 h2
        subst h1
        exact absurd rfl (n3 a m1 a (inn h2 m2))
    | succ i =>
      cases j with
      | zero =>
        simp at h1 h2
        subst h2
        exact absurd rfl (n3 a m2 a (inn h1 m1))
      | succ j =>
        simp at h1 h2
        exact congrArg (· + 1) (nodup_flat_at n2 h1 h2 m1 m2)
theorem nodup_set_nil : ∀ {l : List (List Addr)} (i : Nat), l.flatten.Nodup → (l.set i []).flatten.Nodup
  | [], _, h => h
  | x :: l, 0, h => by
    rw [List.flatten_cons, List.nodup_append] at h
    rw [List.set_cons_zero, List.flatten_cons, List.nil_append]
    exact h.2.1
  | x :: l, i + 1, h => by
    rw [List.flatten_cons, List.nodup_append] at h
    rw [List.set_cons_succ, List.flatten_cons, List.nodup_append]
    exact ⟨h.1, nodup_set_nil i h.2.1, fun a ha b hb => h.2.2 a ha b (flat_set_nil hb)⟩
/-- a cell is written -/
theorem OK.set (o : OK K ad g H st) {l : Nat} {a : Addr} {vs : List V} {xs : List PV} {c : Cell} (h1 : st[l]? = some c) (h2 : g.r[l]? = some [a]) (hl : vs.length ≤ lim) (r : RepA K ad g.F xs vs) :
    OK K ad g (upd H a (.lst vs)) (st.set l (.lst xs)) where
  ex := fun b v q => by
    rw [upd_ne]
    · exact o.ex b v q
    · intro z
      subst z
      rw [o.dj b (List.mem_flatten.mpr ⟨_, List.mem_of_getElem? h2, by simp⟩)] at q
      cases q
  len := by rw [List.length_set]; exact o.len
  cell := fun k c' as e1 e2 => by
    by_cases z : l = k
    · subst z
      rw [List.getElem?_set_self (List.getElem?_eq_some_iff.mp h1).1] at e1
      rw [h2] at e2
      cases e1
      cases e2
      exact .lst upd_same hl r
    · rw [List.getElem?_set_ne z] at e1
      refine (o.cell k c' as e1 e2).ext (Ex.refl _) fun b hb => upd_ne fun y => ?_
      subst y
      exact z (nodup_flat_at o.nd h2 e2 (by simp) hb)
  nd := o.nd
  dj := o.dj
  pr := fun q hq => by
    obtain ⟨p1, p2, p3⟩ := o.pr q hq
    refine ⟨?_, p2, p3⟩
    rw [upd_ne (fun z : q.1 = a => p3 (by rw [z]; exact List.mem_flatten.mpr ⟨_, List.mem_of_getElem? h2, by simp⟩))]
    exact p1
  nt := o.nt
  np := o.np
  tb := fun i P hi hP => by
    have q := o.cell l c [a] h1 h2
    cases q with
    | lst a' _ _ => exact TabS.lst a' (o.tb i P hi hP)
/-- a cell is frozen -/
theorem OK.frz (o : OK K ad g H st) {l : Nat} {a : Addr} {vs : List V} {c : Cell} (h1 : st[l]? = some c) (h2 : g.r[l]? = some [a]) (h : H a = some (.lst vs)) :
    OK K ad ⟨upd g.F a (.lst vs), g.r.set l [], g.p⟩ H (st.set l .dead) ∧ Le g ⟨upd g.F a (.lst vs), g.r.set l [], g.p⟩ := by
  have hf : g.F a = none := o.dj a (List.mem_flatten.mpr ⟨_, List.mem_of_getElem? h2, by simp⟩)
  have e1 : Ex g.F (upd g.F a (.lst vs)) := Ex.new hf
  have hll : l < g.r.length := (List.getElem?_eq_some_iff.mp h2).1
  have nin : a ∉ (g.r.set l []).flatten := fun q => by
    obtain ⟨i, as, q1, q2⟩ := mem_flat q
    by_cases z : l = i
    · subst z
      rw [List.getElem?_set_self hll] at q1
      cases q1
      cases q2
    · rw [List.getElem?_set_ne z] at q1
      exact z (nodup_flat_at o.nd h2 q1 (by simp) q2)
  refine ⟨⟨fun b v q => ?_, by simp [o.len], fun k c' as q1 q2 => ?_, nodup_set_nil l o.nd, fun b hb => ?_, fun q hq => ⟨(o.pr q hq).1, ?_, fun z => (o.pr q hq).2.2 (flat_set_nil z)⟩, fun b ps q => ?_, o.np, o.tb⟩, ⟨e1, by simp, fun k b as q1 q2 => ?_, rfl⟩⟩
  rotate_left 4
  · have q : upd g.F a (.lst vs) b = some (.tbl ps) := q
    by_cases z : b = a
    · rw [z, upd_same] at q
      cases q
    · rw [upd_ne z] at q
      exact o.nt b ps q
  rotate_right 1
  · show upd g.F a (.lst vs) q.1 = none
    rw [upd_ne (fun z : q.1 = a => (o.pr q hq).2.2 (by rw [z]; exact List.mem_flatten.mpr ⟨_, List.mem_of_getElem? h2, by simp⟩))]
    exact (o.pr q hq).2.1
  · have q2 : (g.r.set l [])[k]? = some (b :: as) := q2
    by_cases z : l = k
    · subst z
      rw [List.getElem?_set_self hll] at q2
      cases q2
    · rw [List.getElem?_set_ne z] at q2
      exact q2
  · by_cases z : b = a
    · subst z
      have q' : upd g.F b (.lst vs) b = some v := q
      rw [upd_same] at q'
      rw [h, q']
    · have q' : upd g.F a (.lst vs) b = some v := q
      rw [upd_ne z] at q'
      exact o.ex b v q'
  · have q2 : (g.r.set l [])[k]? = some as := q2
    by_cases z : l = k
    · subst z
      rw [List.getElem?_set_self (List.getElem?_eq_some_iff.mp h1).1] at q1
      rw [List.getElem?_set_self hll] at q2
      cases q1
      cases q2
      exact .dead
    · rw [List.getElem?_set_ne z] at q1 q2
      exact (o.cell k c' as q1 q2).ext e1 fun _ _ => rfl
  · show upd g.F a (.lst vs) b = none
    have hb : b ∈ (g.r.set l []).flatten := hb
    rw [upd_ne (fun z : b = a => nin (by rw [← z]; exact hb))]
    exact o.dj b (flat_set_nil hb)
/-- the cells of a def that is left are dropped -/
theorem OK.take (o : OK K ad g H st) (n : Nat) : OK K ad ⟨g.F, g.r.take n, g.p⟩ H (st.take n) where
  ex := o.ex
  len := by simp [o.len]
  cell := fun l c as h1 h2 => by
    have h2 : (g.r.take n)[l]? = some as := h2
    rw [List.getElem?_take] at h1 h2
    split at h1
    · rename_i z
      rw [if_pos z] at h2
      exact o.cell l c as h1 h2
    · cases h1
  nd := by
    have e : g.r.flatten = (g.r.take n).flatten ++ (g.r.drop n).flatten := by rw [← List.flatten_append, List.take_append_drop]
    have := o.nd
    rw [e, List.nodup_append] at this
    exact this.1
  dj := fun a ha => o.dj a (by
    have e : g.r.flatten = (g.r.take n).flatten ++ (g.r.drop n).flatten := by rw [← List.flatten_append, List.take_append_drop]
    rw [e]
    exact List.mem_append_left _ ha)
  pr := fun q hq => ⟨(o.pr q hq).1, (o.pr q hq).2.1, fun z => (o.pr q hq).2.2 (by
    have e : g.r.flatten = (g.r.take n).flatten ++ (g.r.drop n).flatten := by rw [← List.flatten_append, List.take_append_drop]
    rw [e]
    exact List.mem_append_left _ z)⟩
  nt := o.nt
  np := o.np
  tb := o.tb
theorem Le.take (l : Le g g') : Le g ⟨g'.F, g'.r.take g.r.length, g'.p⟩ :=
  ⟨l.ex, by simp [l.len], fun k a as h q => l.ent k a as h (by
    have q : (g'.r.take g.r.length)[k]? = some (a :: as) := q
    rw [List.getElem?_take, if_pos h] at q
    exact q), l.pp⟩
/-- an address is guarded while a term runs -/
theorem OK.guard (o : OK K ad g H st) {p : Addr} {u : HO} (h : H p = some u) (fr : Free g p) (hu : ∃ xs, u = .lst xs := by (exact ⟨_, rfl⟩)) : OK K ad ⟨g.F, g.r, (p, u) :: g.p⟩ H st where
  ex := o.ex
  len := o.len
  cell := o.cell
  nd := o.nd
  dj := o.dj
  pr := fun q hq => by
    rcases List.mem_cons.mp hq with e | e
    · subst e
      exact ⟨h, fr.1, fr.2.1⟩
    · exact o.pr q e
  nt := o.nt
  np := fun q hq => by
    rcases List.mem_cons.mp hq with e | e
    · subst e
      exact hu
    · exact o.np q e
  tb := o.tb
theorem OK.unguard {p : List (Addr × HO)} {q : Addr × HO} (o : OK K ad g H st) (e : g.p = q :: p) : OK K ad ⟨g.F, g.r, p⟩ H st :=
  ⟨o.ex, o.len, o.cell, o.nd, o.dj, fun z hz => o.pr z (by rw [e]; exact List.mem_cons_of_mem _ hz), o.nt, fun z hz => o.np z (by rw [e]; exact List.mem_cons_of_mem _ hz), o.tb⟩
end
end Fo
end -- FoRep

section -- FoExpr
set_option Elab.async false
set_option linter.all false
set_option maxRecDepth 100000
set_option maxHeartbeats 1000000
/-! FoExpr: the readings of terms, and that the rules' readings follow from them. -/
namespace Fo
open PySem L2 Evl
theorem PEimp {X : Cx} {e : Expr} {t t' : TE} (h : PE X e t) (i : ∀ σ H Q, t' σ H Q → t σ H Q) : PE X e t' :=
  ⟨fun pins s σ H Q I q => h.run pins s σ H Q I (i σ H Q q)⟩
theorem PTimp {X : Cx} {e : Expr} {t t' : TT} (h : PT X e t) (i : ∀ σ H Q, t' σ H Q → t σ H Q) : PT X e t' :=
  ⟨fun pins s σ H Q I q => h.run pins s σ H Q I (i σ H Q q)⟩
theorem PAimp {X : Cx} {es : List Expr} {t t' : TA} (h : PA X es t) (i : ∀ σ H Q, t' σ H Q → t σ H Q) : PA X es t' :=
  ⟨fun p pins s σ H Q I q => h.run p pins s σ H Q I (i σ H Q q)⟩
/-! ### ends of runs -/
section
variable {α β γ : Type}
def Fin (r : Option (Res α)) (P : α → Store → Prop) (W : Exc → Store → Prop) : Prop := match r with
  | some (.ok a st) => P a st
  | some (.ex x st) => W x st
  | none => False
theorem Fin.bnd {m : M α} {k : α → M β} {st : Store} {P : β → Store → Prop} {W : Exc → Store → Prop} (h : Fin (bnd m k st) P W) : Fin (m st) (fun a st' => Fin (k a st') P W) W := by
  unfold Fo.bnd at h
  cases e : m st with
  | none => rw [e] at h; exact h
  | some r =>
    rw [e] at h
    cases r with
    | ok a st' => exact h
    | ex x st' => exact h
theorem Fin.imp {r : Option (Res α)} {P P' : α → Store → Prop} {W W' : Exc → Store → Prop} (h : Fin r P W) (p : ∀ a st, P a st → P' a st) (w : ∀ x st, W x st → W' x st) : Fin r P' W' := by
  cases r with
  | none => exact h
  | some r =>
    cases r with
    | ok a st => exact p a st h
    | ex x st => exact w x st h
theorem bnd_assoc (m : M α) (f : α → M β) (k : β → M γ) : bnd (bnd m f) k = bnd m fun a => bnd (f a) k := by
  funext st
  unfold bnd
  cases m st with
  | none => rfl
  | some r => cases r <;> rfl
theorem Fin.ofO {o : Option α} {k : α → M β} {st : Store} {P : β → Store → Prop} {W : Exc → Store → Prop} (h : Fin (Fo.bnd (Fo.ofO o) k st) P W) : ∃ a, o = some a ∧ Fin (k a st) P W := by
  cases o with
  | none => exact h.elim
  | some a => exact ⟨a, rfl, h⟩
theorem Fin.asD {x : SV} {k : PV → M β} {st : Store} {P : β → Store → Prop} {W : Exc → Store → Prop} (h : Fin (Fo.bnd (Fo.asD x) k st) P W) : ∃ v, x = .d v ∧ Fin (k v st) P W := by
  cases x with
  | d v => exact ⟨v, rfl, h⟩
  | r l => exact h.elim
  | ls => exact h.elim
theorem Fin.asI {x : SV} {k : Int → M β} {st : Store} {P : β → Store → Prop} {W : Exc → Store → Prop} (h : Fin (Fo.bnd (Fo.asI x) k st) P W) : ∃ i, x = .d (.int i) ∧ Fin (k i st) P W := by
  cases x with
  | d v =>
    cases v with
    | int i => exact ⟨i, rfl, h⟩
    | _ => exact h.elim
  | r l => exact h.elim
  | ls => exact h.elim
theorem Fin.asB {x : SV} {k : Bool → M β} {st : Store} {P : β → Store → Prop} {W : Exc → Store → Prop} (h : Fin (Fo.bnd (Fo.asB x) k st) P W) : ∃ b, x = .d (.bl b) ∧ Fin (k b st) P W := by
  cases x with
  | d v =>
    cases v with
    | bl b => exact ⟨b, rfl, h⟩
    | _ => exact h.elim
  | r l => exact h.elim
  | ls => exact h.elim
end
/-! ### what may be read now -/
inductive RepH (K : PySem.W.Frag) (ad : Nat → Option Addr) (F H : Hp) : PV → V → Prop
  | of {x : PV} {v : V} : Rep K ad F x v → RepH K ad F H x v
  | cell {a : Addr} {vs : List V} {xs : List PV} : H a = some (.lst vs) → vs.length ≤ lim → RepA K ad F xs vs → RepH K ad F H (.lst xs) (.ref a)
section
variable {K : PySem.W.Frag} {ad : Nat → Option Addr} {lm : Lm} {F F' H H' : Hp} {g g0 g1 g' g'' : G} {st st' : Store} {w : V}
theorem RepH.int {i : Int} (h : RepH K ad F H (.int i) w) : w = .int i := by
  cases h with
  | of h => cases h; rfl
theorem RepH.bl {i : Bool} (h : RepH K ad F H (.bl i) w) : w = .bl i := by
  cases h with
  | of h => cases h; rfl
theorem RepH.str {i : Str} (h : RepH K ad F H (.str i) w) : w = .str i := by
  cases h with
  | of h => cases h; rfl
theorem RepH.non (h : RepH K ad F H .non w) : w = .non := by
  cases h with
  | of h => cases h; rfl
theorem RepH.tup {xs : List PV} (e : Ex F H) (h : RepH K ad F H (.tup xs) w) : ∃ a vs, w = .ref a ∧ SqT K H a vs ∧ vs.length ≤ lim ∧ RepA K ad F xs vs := by
  cases h with
  | of h =>
    cases h with
    | tup a b c => exact ⟨_, _, rfl, ex_t e a, b, c⟩
theorem RepH.lst {xs : List PV} (e : Ex F H) (h : RepH K ad F H (.lst xs) w) : ∃ a vs, w = .ref a ∧ H a = some (.lst vs) ∧ vs.length ≤ lim ∧ RepA K ad F xs vs := by
  cases h with
  | of h =>
    cases h with
    | lst a b c => exact ⟨_, _, rfl, e _ _ a, b, c⟩
  | cell a b c => exact ⟨_, _, rfl, a, b, c⟩
theorem RepH.fz {xs : List PV} (e : Ex F H) (h : RepH K ad F H (.fz xs) w) : ∃ a vs, w = .ref a ∧ SqL K H a vs ∧ vs.length ≤ lim ∧ RepA K ad F xs vs := by
  cases h with
  | of h =>
    cases h with
    | fz a b c => exact ⟨_, _, rfl, ex_l e a, b, c⟩
theorem RepH.dp {x : PV} {d : PyData} (e : Ex F H) (h : RepH K ad F H x w) (q : x.dat = some d) : Dp K H w d := by
  cases h with
  | of h => exact Rep.dp e x w d h q
  | cell a b c =>
    simp only [PV.dat, Option.map_eq_some_iff] at q
    obtain ⟨ds, q1, q2⟩ := q
    subst q2
    exact .lst (SqL.of a) (RepA.dp e _ _ _ c q1)
theorem Fin.rd {β : Type} {x : SV} {k : PV → M β} {P : β → Store → Prop} {W : Exc → Store → Prop} (o : OK K ad g H st) (r : RepS K ad g x w) (h : Fin (Fo.bnd (Fo.rd x) k st) P W) : ∃ v, Fo.rd x st = some (.ok v st) ∧ RepH K ad g.F H v w ∧ Fin (k v st) P W := by
  cases x with
  | d v => exact ⟨v, rfl, .of r, h⟩
  | ls => exact r.elim
  | r l =>
    cases e : st[l]? with
    | none =>
      have z : Fo.rd (.r l) st = none := by unfold Fo.rd; simp only [e]
      unfold Fo.bnd at h
      rw [z] at h
      exact h.elim
    | some c =>
      cases c with
      | lst xs =>
        have z : Fo.rd (.r l) st = some (.ok (.lst xs) st) := by unfold Fo.rd; simp only [e]
        rw [bnd_ok z] at h
        have hl : l < g.r.length := by rw [o.len]; exact (List.getElem?_eq_some_iff.mp e).1
        have q := o.cell l _ _ e (List.getElem?_eq_getElem hl)
        have q2 := r.2
        rw [List.getElem?_eq_getElem hl] at q2
        generalize g.r[l] = as at q q2
        cases q with
        | lst a b c =>
          rw [q2 _ _ rfl]
          exact ⟨_, z, .cell a b c, h⟩
      | obj c fs =>
        have z : Fo.rd (.r l) st = none := by unfold Fo.rd; simp only [e]
        unfold Fo.bnd at h
        rw [z] at h
        exact h.elim
      | dead =>
        have z : Fo.rd (.r l) st = none := by unfold Fo.rd; simp only [e]
        unfold Fo.bnd at h
        rw [z] at h
        exact h.elim
/-! ### exceptions, readings -/
def attrOf (c : Nat) : Str := if c = 901 then "given" else if c = 902 then "reason" else ""
def RepX (K : PySem.W.Frag) (ad : Nat → Option Addr) (g : G) (H : Hp) (x : Exc) (cls : Value) (d : Option Addr) : Prop :=
  ∃ C, ad x.c = some C ∧ cls = .ref C ∧ match x.p with
    | none => True
    | some v => ∃ dd fs w, d = some dd ∧ H dd = some (.xd fs) ∧ fs.lookup (attrOf x.c) = some w ∧ Rep K ad g.F v w
variable (K ad lm)
def Wx (g : G) (E : XK) : Exc → Store → Prop := fun x st' => ∀ g' H' cls d, Le g g' → OK K ad g' H' st' → RepX K ad g' H' x cls d → E cls d H'
def Px (g : G) (Q : VK) : SV → Store → Prop := fun v st' => ∀ g' H' w, Le g g' → OK K ad g' H' st' → RepS K ad g' v w → Q w H'
def tEv (E : XK) (m : Slots → M SV) : TE := fun σ H Q => ∃ g sl st, OK K ad g H st ∧ RepSl K ad lm g sl σ ∧ Fin (m sl st) (Px K ad g Q) (Wx K ad g E)
/-- a new list, not frozen yet -/
def Pf (g : G) (Q : VK) : SV → Store → Prop := fun v st' => ∃ xs, v = .d (.lst xs) ∧ ∀ g' H' p vs, Le g g' → OK K ad g' H' st' → H' p = some (.lst vs) → Free g' p → vs.length ≤ lim → RepA K ad g'.F xs vs → Q (.ref p) H'
def tFr (E : XK) (m : Slots → M SV) : TE := fun σ H Q => ∃ g sl st, OK K ad g H st ∧ RepSl K ad lm g sl σ ∧ Fin (m sl st) (Pf K ad g Q) (Wx K ad g E)
/-- arguments -/
def Pa (g : G) (Q : List V → Hp → Prop) : List SV → Store → Prop := fun vs st' => ∀ g' H' ws, Le g g' → OK K ad g' H' st' → RepSs K ad g' vs ws → Q ws H'
def tAv (E : XK) (m : Slots → M (List SV)) : TA := fun σ H Q => ∃ g sl st, OK K ad g H st ∧ RepSl K ad lm g sl σ ∧ Fin (m sl st) (Pa K ad g Q) (Wx K ad g E)
/-- tests -/
def Pt (g : G) (Q : Bool → Hp → Prop) : Bool → Store → Prop := fun b st' => ∀ g' H', Le g g' → OK K ad g' H' st' → Q b H'
def tTv (E : XK) (m : Slots → M Bool) : TT := fun σ H Q => ∃ g sl st, OK K ad g H st ∧ RepSl K ad lm g sl σ ∧ Fin (m sl st) (Pt K ad g Q) (Wx K ad g E)
variable {K ad lm}
theorem Wx.mono {E : XK} (l : Le g g') {x : Exc} {st : Store} (h : Wx K ad g E x st) : Wx K ad g' E x st := fun g2 H' cls d l2 o r => h g2 H' cls d (l.trans l2) o r
/-- the first part runs, then what follows -/
theorem ev_bind {β : Type} {E : XK} {m : Slots → M SV} {k : SV → M β} {sl : Slots} {σ : L2.St} {P : β → Store → Prop} {Q : VK} (l0 : Le g0 g) (o : OK K ad g H st) (rs : RepSl K ad lm g sl σ) (h : Fin (bnd (m sl) k st) P (Wx K ad g0 E))
    (next : ∀ v st1 g1 H1 w, Le g0 g1 → Le g g1 → OK K ad g1 H1 st1 → RepSl K ad lm g1 sl σ → RepS K ad g1 v w → Fin (k v st1) P (Wx K ad g0 E) → Q w H1) : tEv K ad lm E m σ H Q :=
  ⟨g, sl, st, o, rs, h.bnd.imp (fun v st1 hk g' H' w le o' r => next v st1 g' H' w (l0.trans le) le o' (rs.mono le) r hk) fun x st1 hw => hw.mono l0⟩
theorem av_bind {β : Type} {E : XK} {m : Slots → M (List SV)} {k : List SV → M β} {sl : Slots} {σ : L2.St} {P : β → Store → Prop} {Q : List V → Hp → Prop} (l0 : Le g0 g) (o : OK K ad g H st) (rs : RepSl K ad lm g sl σ) (h : Fin (bnd (m sl) k st) P (Wx K ad g0 E))
    (next : ∀ v st1 g1 H1 w, Le g0 g1 → Le g g1 → OK K ad g1 H1 st1 → RepSl K ad lm g1 sl σ → RepSs K ad g1 v w → Fin (k v st1) P (Wx K ad g0 E) → Q w H1) : tAv K ad lm E m σ H Q :=
  ⟨g, sl, st, o, rs, h.bnd.imp (fun v st1 hk g' H' w le o' r => next v st1 g' H' w (l0.trans le) le o' (rs.mono le) r hk) fun x st1 hw => hw.mono l0⟩
theorem tv_bind {β : Type} {E : XK} {m : Slots → M Bool} {k : Bool → M β} {sl : Slots} {σ : L2.St} {P : β → Store → Prop} {Q : Bool → Hp → Prop} (l0 : Le g0 g) (o : OK K ad g H st) (rs : RepSl K ad lm g sl σ) (h : Fin (bnd (m sl) k st) P (Wx K ad g0 E))
    (next : ∀ v st1 g1 H1, Le g0 g1 → Le g g1 → OK K ad g1 H1 st1 → RepSl K ad lm g1 sl σ → Fin (k v st1) P (Wx K ad g0 E) → Q v H1) : tTv K ad lm E m σ H Q :=
  ⟨g, sl, st, o, rs, h.bnd.imp (fun v st1 hk g' H' le o' => next v st1 g' H' (l0.trans le) le o' (rs.mono le) hk) fun x st1 hw => hw.mono l0⟩
/-- a new frozen object -/
theorem OK.lay (o : OK K ad g H st) {p : Addr} (hp : H p = none) (u : HO) (hu : ∀ ps, u ≠ .tbl ps := by (intro _ z; cases z)) : OK K ad ⟨upd g.F p u, g.r, g.p⟩ (upd H p u) st ∧ Le g ⟨upd g.F p u, g.r, g.p⟩ :=
  (o.ext (Ex.new hp)).froz upd_same (o.free hp) hu
theorem Rep.tupNew {p : Addr} {vs : List V} {xs : List PV} (hl : vs.length ≤ lim) (e : Ex F F') (r : RepA K ad F xs vs) (h : F' p = some (.tup vs)) : Rep K ad F' (.tup xs) (.ref p) := .tup (SqT.of h) hl (RepA.mono e _ _ r)
theorem Rep.lstNew {p : Addr} {vs : List V} {xs : List PV} (hl : vs.length ≤ lim) (e : Ex F F') (r : RepA K ad F xs vs) (h : F' p = some (.lst vs)) : Rep K ad F' (.lst xs) (.ref p) := .lst h hl (RepA.mono e _ _ r)
/-- what a new tuple, a new list asks: the end for data -/
theorem fin_tup {E : XK} {Q : VK} (l0 : Le g0 g) (o : OK K ad g H st) {vs : List V} {xs : List PV} (hl : vs.length ≤ lim) (r : RepA K ad g.F xs vs) (h : Fin (ok (SV.d (.tup xs)) st) (Px K ad g0 Q) (Wx K ad g0 E)) {p : Addr} (hp : H p = none) :
    Q (.ref p) (upd H p (.tup vs)) := by
  obtain ⟨o2, l2⟩ := o.lay hp (.tup vs)
  exact h _ _ _ (l0.trans l2) o2 (Rep.tupNew hl l2.ex r upd_same)
theorem fin_lst {E : XK} {Q : VK} (l0 : Le g0 g) (o : OK K ad g H st) {vs : List V} {xs : List PV} (hl : vs.length ≤ lim) (r : RepA K ad g.F xs vs) (h : Fin (ok (SV.d (.lst xs)) st) (Px K ad g0 Q) (Wx K ad g0 E)) {p : Addr} (hp : H p = none) :
    Q (.ref p) (upd H p (.lst vs)) := by
  obtain ⟨o2, l2⟩ := o.lay hp (.lst vs)
  exact h _ _ _ (l0.trans l2) o2 (Rep.lstNew hl l2.ex r upd_same)
/-- a new list not frozen: from a reading of data -/
theorem fr_of {X : Cx} {e : Expr} {E : XK} {m : Slots → M SV} (hv : ∀ sl st v st', m sl st = some (.ok v st') → ∃ xs, v = .d (.lst xs)) (h : PE X e (tFr K ad lm E m)) : PE X e (tEv K ad lm E m) := by
  refine PEimp h fun σ H Q q => ?_
  obtain ⟨g, sl, st, o, rs, f⟩ := q
  refine ⟨g, sl, st, o, rs, ?_⟩
  cases em : m sl st with
  | none => rw [em] at f; exact f
  | some r =>
    rw [em] at f
    cases r with
    | ex x s => exact f
    | ok v s =>
      obtain ⟨xs, ev⟩ := hv sl st v s em
      refine ⟨xs, ev, fun g' H' p vs le o' hp fr hl r => ?_⟩
      obtain ⟨o2, l2⟩ := o'.froz hp fr
      have f : Px K ad g Q v s := f
      rw [ev] at f
      exact f _ _ _ (le.trans l2) o2 (Rep.lstNew hl l2.ex r upd_same)
end
/-! ### names, constants -/
section
variable {K : PySem.W.Frag} {ad : Nat → Option Addr} {lm : Lm} {Ek : XK} {X : Cx} {cl : Cl} {pos : Pos}
theorem s_slot {i : Nat} {x : Str} (hN : X.N[i]? = some x) (hv : Vis X.env.scope x) (hd : (x == ("__debug__" : Str)) = false) (hcd : (x == ("__classdict__" : Str)) = false) : PE X (.Name x pos) (tEv X.K ad lm Ek (evE cl (.slot i))) := by
  refine PEimp (pe_var hN hv hd hcd) fun σ H Q q => ?_
  obtain ⟨g, sl, st, o, rs, f⟩ := q
  unfold evE at f
  cases e : sl[i]? with
  | none => rw [e] at f; exact f.elim
  | some u =>
    cases u with
    | none => rw [e] at f; exact f.elim
    | some v =>
      rw [e] at f
      obtain ⟨w, h1, h2⟩ := rs.2 i v e
      cases v with
      | d x => exact ⟨w, h1, f g H w (Le.refl g) o h2⟩
      | r n => exact ⟨w, h1, f g H w (Le.refl g) o h2⟩
      | ls => exact f.elim
theorem tC_of {v : PV} {w : V} (r : ∀ F, Rep K ad F v w) {m : Slots → M SV} (hm : ∀ sl, m sl = ok (.d v)) : ∀ σ H Q, tEv K ad lm Ek m σ H Q → tC w σ H Q := fun σ H Q q => by
  obtain ⟨g, sl, st, o, rs, f⟩ := q
  rw [hm] at f
  exact f g H w (Le.refl g) o (r g.F)
theorem s_non {j} : PE X (.Constant .none j pos) (tEv K ad lm Ek (evE cl .non)) := PEimp pe_non (tC_of (fun _ => .non) fun _ => by unfold evE; rfl)
theorem s_bl {b j} : PE X (.Constant (.bool b) j pos) (tEv K ad lm Ek (evE cl (.bl b))) := PEimp pe_bl (tC_of (fun _ => .bl b) fun _ => by unfold evE; rfl)
theorem s_int {i j} : PE X (.Constant (.int i) j pos) (tEv K ad lm Ek (evE cl (.int i))) := PEimp pe_int (tC_of (fun _ => .int i) fun _ => by unfold evE; rfl)
theorem s_str {x : String} {j} : PE X (.Constant (.str (Str.ofString x)) j pos) (tEv K ad lm Ek (evE cl (.str x))) := PEimp pe_str (tC_of (fun _ => .str _) fun _ => by unfold evE; rfl)
theorem s_glob {x : String} {c : GC} {u : Value} {w : V} (hg : Gl X (Str.ofString x)) (hm : X.mg (Str.ofString x) = some u) (r : RelV w u) (rep : ∀ F, Rep K ad F c.val w) (hd : (Str.ofString x == ("__debug__" : Str)) = false) :
    PE X (.Name (Str.ofString x) pos) (tEv K ad lm Ek (evE cl (.glob x c))) := PEimp (pe_glob hg hm r hd) (tC_of rep fun _ => by unfold evE; rfl)
theorem s_fnv {x : Str} {f : Nat} {a : Addr} (hg : Gl X x) (hm : X.mg x = some (.ref a)) (ha : ad f = some a) (hd : (x == ("__debug__" : Str)) = false) :
    PE X (.Name x pos) (tEv K ad lm Ek (evE cl (.fnv f))) := PEimp (pe_glob (v := .ref a) hg hm rfl hd) (tC_of (fun _ => .fn ha) fun _ => by unfold evE; rfl)
/-! ### arguments, displays -/
theorem s_anil : PA X [] (tAv K ad lm Ek (evs cl .nil)) := PAimp pa_nil fun σ H Q q => by
  obtain ⟨g, sl, st, o, rs, f⟩ := q
  unfold evs at f
  exact f g H [] (Le.refl g) o .nil
theorem s_acons {e : Expr} {es : List Expr} {ie : E} {ies : Es} (he : PE X e (tEv K ad lm Ek (evE cl ie))) (hes : PA X es (tAv K ad lm Ek (evs cl ies))) (hs : starEach (e :: es) X.env = (false, eval e X.env) :: starEach es X.env) :
    PA X (e :: es) (tAv K ad lm Ek (evs cl (.cons ie ies))) := by
  refine PAimp (pa_cons he hes hs) fun σ H Q q => ?_
  obtain ⟨g, sl, st, o, rs, f⟩ := q
  unfold evs at f
  refine ev_bind (Le.refl g) o rs f fun v st1 g1 H1 w l0 l1 o1 rs1 r1 f1 => ?_
  refine av_bind l0 o1 rs1 f1 fun vs st2 g2 H2 ws l0' l2 o2 rs2 r2 f2 => ?_
  exact f2 g2 H2 _ l0' o2 (.cons (r1.mono l2) r2)
theorem Fin.dAll {β : Type} {g : G} {P : β → Store → Prop} {W : Exc → Store → Prop} : ∀ {vs : List SV} {ws : List V} {st : Store} {k : List PV → M β}, RepSs K ad g vs ws → Fin (Fo.bnd (Fo.dAll vs) k st) P W → ∃ xs, vs = xs.map .d ∧ RepA K ad g.F xs ws ∧ Fin (k xs st) P W
  | [], _, _, _, r, h => by cases r; exact ⟨[], rfl, .nil, h⟩
  | .d v :: vs, _, st, k, r, h => by
    cases r with
    | cons a b =>
      unfold Fo.dAll at h
      rw [bnd_assoc] at h
      obtain ⟨xs, e, r2, h2⟩ := Fin.dAll b h
      exact ⟨v :: xs, by rw [e]; rfl, .cons a r2, h2⟩
  | .r l :: vs, _, _, _, _, h => by
    unfold Fo.dAll at h
    exact h.elim
  | .ls :: vs, _, _, _, _, h => by
    unfold Fo.dAll at h
    exact h.elim
theorem len_small {xs : List V} {n : Nat} (h : xs.length ≤ n) (hn : n ≤ 1000) : xs.length ≤ sizeLine := by
  have : sizeLine = 16777216 := sizeLine_eq
  omega
def Es.len : Es → Nat
  | .nil => 0
  | .cons _ es => es.len + 1
theorem evs_len {cl : Cl} : ∀ {es : Es} {sl : Slots} {st st' : Store} {vs : List SV}, evs cl es sl st = some (.ok vs st') → vs.length = es.len
  | .nil, _, _, _, _, h => by
    unfold evs ok at h
    cases h
    rfl
  | .cons e es, sl, st, st', vs, h => by
    unfold evs at h
    cases q : evE cl e sl st with
    | none => unfold bnd at h; rw [q] at h; cases h
    | some r =>
      cases r with
      | ex x s => rw [bnd_ex q] at h; cases h
      | ok v s =>
        rw [bnd_ok q] at h
        cases q2 : evs cl es sl s with
        | none => unfold bnd at h; rw [q2] at h; cases h
        | some r2 =>
          cases r2 with
          | ex x s2 => rw [bnd_ex q2] at h; cases h
          | ok us s2 =>
            rw [bnd_ok q2] at h
            unfold ok at h
            cases h
            show us.length + 1 = es.len + 1
            rw [evs_len q2]
theorem Fin.len {cl : Cl} {es : Es} {sl : Slots} {st : Store} {P : List SV → Store → Prop} {W : Exc → Store → Prop} (h : Fin (evs cl es sl st) P W) : Fin (evs cl es sl st) (fun vs st' => vs.length = es.len ∧ P vs st') W := by
  cases q : evs cl es sl st with
  | none => rw [q] at h; exact h
  | some r =>
    rw [q] at h
    cases r with
    | ex x s => exact h
    | ok vs s => exact ⟨evs_len q, h⟩
theorem s_tup {es : List Expr} {ies : Es} {x1} (hes : PA X es (tAv K ad lm Ek (evs cl ies))) (hn : ies.len ≤ 1000) : PE X (.Tuple es x1 pos) (tEv K ad lm Ek (evE cl (.tup ies))) := by
  refine PEimp (pe_tup hes) fun σ H Q q => ?_
  obtain ⟨g, sl, st, o, rs, f⟩ := q
  unfold evE at f
  refine ⟨g, sl, st, o, rs, (Fin.len f.bnd).imp (fun vs st1 hk g1 H1 ws l1 o1 r1 => ?_) fun _ _ w => w⟩
  obtain ⟨hl, hk⟩ := hk
  obtain ⟨xs, e, r2, f2⟩ := Fin.dAll r1 hk
  have hw : ws.length ≤ 1000 := by rw [← r1.len, hl]; exact hn
  exact ⟨len_small hw (Nat.le_refl _), fun p hp => fin_tup l1 o1 (Nat.le_trans hw (by decide)) r2 f2 hp⟩
theorem s_dic0 : PE X (.Dict [] [] pos) (tEv X.K ad lm Ek (evE cl .dic0)) := by
  refine PEimp pe_dnewK fun σ H Q q => ?_
  obtain ⟨g, sl, st, o, rs, f⟩ := q
  unfold evE at f
  intro p hp
  obtain ⟨o2, l2⟩ := o.lay hp (.dK [])
  exact f _ _ _ l2 o2 (.dic (kvs := []) upd_same)
theorem s_dic1 {k v : Int} {t t' : Nat} {p1 p2 : Pos} : PE X (.Dict [some (.Constant (.int k) t p1)] [.Constant (.int v) t' p2] pos) (tEv X.K ad lm Ek (evE cl (.dic1 k v))) := by
  refine PEimp (pe_disp (pps_cons pe_int pe_int pps_nil) rfl rfl (by simp) (by simp)) fun σ H Q q => ?_
  obtain ⟨g, sl, st, o, rs, f⟩ := q
  unfold evE at f
  intro p hp
  refine ⟨upd_same, [(.inl k, .int v)], rfl, by simp, ?_⟩
  have e : upd (upd H p (.dK [])) p (.dK (mergeK [] [(.inl k, .int v)])) = upd H p (.dK (dkv [(k, v)])) := upd_upd
  rw [e]
  obtain ⟨o2, l2⟩ := o.lay hp (.dK (dkv [(k, v)]))
  exact f _ _ _ l2 o2 (.dic (kvs := [(k, v)]) upd_same)
theorem s_lst {es : List Expr} {ies : Es} (hes : PA X es (tAv K ad lm Ek (evs cl ies))) (hn : ies.len ≤ 1000) : PE X (.List es pos) (tFr K ad lm Ek (evE cl (.lst ies))) := by
  refine PEimp (pe_lst hes) fun σ H Q q => ?_
  obtain ⟨g, sl, st, o, rs, f⟩ := q
  unfold evE at f
  refine ⟨g, sl, st, o, rs, (Fin.len f.bnd).imp (fun vs st1 hk g1 H1 ws l1 o1 r1 => ?_) fun _ _ w => w⟩
  obtain ⟨hl, hk⟩ := hk
  obtain ⟨xs, e, r2, f2⟩ := Fin.dAll r1 hk
  have hw : ws.length ≤ 1000 := by rw [← r1.len, hl]; exact hn
  refine ⟨len_small hw (Nat.le_refl _), fun p hp => ?_⟩
  obtain ⟨xs', e1, f3⟩ := f2
  cases e1
  exact f3 g1 _ p ws l1 (o1.ext (Ex.new hp)) upd_same (o1.free hp) (Nat.le_trans hw (by decide)) r2
end
end Fo
end -- FoExpr

section -- FoOps
set_option Elab.async false
set_option linter.all false
set_option maxRecDepth 100000
set_option maxHeartbeats 1000000
/-! FoOps: operators, comparisons, tests, subscripts, built-ins. -/
namespace Fo
open PySem L2 Evl PyProof.Rows
section
variable {K : PySem.W.Frag} {ad : Nat → Option Addr} {lm : Lm} {Ek : XK} {X : Cx} {cl : Cl} {pos : Pos} {g g0 g1 : G} {H H1 : Hp} {st st1 : Store}
/-! ### two operands -/
theorem op2_inv {β : Type} {o : Op2} {x y : SV} {w1 w2 : V} {k : PV → M β} {P : β → Store → Prop} {W : Exc → Store → Prop} (ho : OK K ad g H st) (r1 : RepS K ad g x w1) (r2 : RepS K ad g y w2) (h : Fin (bnd (op2 o x y) k st) P W) :
    ∃ a b z, RepH K ad g.F H a w1 ∧ RepH K ad g.F H b w2 ∧ op2v o a b = some z ∧ Fin (k z st) P W := by
  unfold op2 at h
  rw [bnd_assoc] at h
  obtain ⟨a, _, ra, h⟩ := Fin.rd ho r1 h
  rw [bnd_assoc] at h
  obtain ⟨b, _, rb, h⟩ := Fin.rd ho r2 h
  obtain ⟨z, e, h⟩ := Fin.ofO h
  exact ⟨a, b, z, ra, rb, e, h⟩
theorem cmp2_inv {β : Type} {o : Cm} {x y : SV} {w1 w2 : V} {k : Bool → M β} {P : β → Store → Prop} {W : Exc → Store → Prop} (ho : OK K ad g H st) (r1 : RepS K ad g x w1) (r2 : RepS K ad g y w2) (h : Fin (bnd (cmp2 o x y) k st) P W) :
    ∃ a b z, RepH K ad g.F H a w1 ∧ RepH K ad g.F H b w2 ∧ cmpv o a b = some z ∧ Fin (k z st) P W := by
  unfold cmp2 at h
  rw [bnd_assoc] at h
  obtain ⟨a, _, ra, h⟩ := Fin.rd ho r1 h
  rw [bnd_assoc] at h
  obtain ⟨b, _, rb, h⟩ := Fin.rd ho r2 h
  obtain ⟨z, e, h⟩ := Fin.ofO h
  exact ⟨a, b, z, ra, rb, e, h⟩
def opA : Op2 → Operator
  | .add => .Add | .sub => .Sub | .mul => .Mult | .fdiv => .FloorDiv | .mod => .Mod | .pow => .Pow
def rStrA : R2 := fun x y H Q => ∃ i j, x = .str i ∧ y = .str j ∧ i.length + j.length ≤ sizeLine ∧ Q (.str (i ++ j)) H
def op2R (K : PySem.W.Frag) : Op2 → R2
  | .add => fun x y H Q => rI0 (fun i j => .int (i + j)) x y H Q ∨ (rCatA K x y H Q ∨ (rCat x y H Q ∨ rStrA x y H Q))
  | .sub => rI0 fun i j => .int (i - j)
  | .mul => fun x y H Q => rI (fun i j => mulOk i j = true) (fun i j => .int (i * j)) x y H Q ∨ (rMulT K x y H Q ∨ rRep x y H Q)
  | .fdiv => rI (fun _ j => j ≠ 0) fun i j => .int (i.fdiv j)
  | .mod => rI (fun _ j => j ≠ 0) fun i j => .int (i.fmod j)
  | .pow => rI (fun i j => powOk i j = true) fun i j => .int (i ^ j.toNat)
theorem bits_log2 (x : Int) : Builtin.Int.intBits x ≤ x.natAbs.log2 + 1 := by
  unfold Builtin.Int.intBits
  by_cases h : x = 0
  · subst h; decide
  · split <;> omega
theorem mulOk_fits {i j : Int} (h : mulOk i j = true) : IntMulOk i j := by
  have h3 : i.natAbs.log2 + j.natAbs.log2 < 100000000 := of_decide_eq_true h
  have b1 := bits_log2 i
  have b2 := bits_log2 j
  intro z
  have z2 := (Bool.and_eq_true_iff.mp z).2
  unfold Builtin.Int.intTooBig at z2
  have z3 := of_decide_eq_true z2
  have hb : (bitsLine : Int) = 134217728 := by decide
  rw [hb] at z3
  omega
/-- divisions of any size -/
def Big (X : Cx) : Prop := ∀ (pins : List (Addr × Obj)) (σ : L2.St) (H : Hp) (s : Shared), Inv X pins σ H s → PylongRoom (model X.prog X.w) X.A s
/-- a frame of a plain def runs -/
def Frm (A : Around) : Prop := ∃ (e : PySem.Env) (l : List PySem.Env), A.frames = some (e :: l) ∧ e.scope.isGenerator = false ∧ e.scope.isCoroutine = false ∧ e.builtins = builtinsNs ∧ e.globals = mainGlobals
theorem big_of (sr : X.base.NoSeer) (ht : X.prog.given.tree = none) (fr : Frm X.A) (dp : X.A.depth + Builtin.pylongFrames < recursionLimit) : Big X := fun pins σ H s I => by
  obtain ⟨e, l, f1, f2, f3, f4, f5⟩ := fr
  exact PylongRoom.of I.nolimit dp (SeerAt.of (sr.keeps I.bk) ht f1 f2 f3 f4 f5)
theorem op_fdivB (pr : Big X) : OpR X (binaryOp .FloorDiv) (rI (fun _ j => j ≠ 0) fun i j => .int (i.fdiv j)) := by
  intro pins s σ H x y v u Q I rx ry h
  obtain ⟨i, j, rfl, rfl, hc, q⟩ := h
  obtain ⟨t, rfl⟩ := rx
  obtain ⟨t', rfl⟩ := ry
  exact floordiv_int hc ⟨.int _, H, I.tok _, ⟨_, rfl⟩, q⟩ (.inr (pr _ _ _ _ I))
theorem op2_op (pr : Big X) (o : Op2) : OpR X (binaryOp (opA o)) (op2R X.K o) := by
  cases o with
  | add => exact OpR.or op_add (OpR.or op_catA (OpR.or op_cat op_add_str))
  | sub => exact op_sub
  | mul => exact OpR.or (opI fun _ _ _ _ _ _ _ hc q => mul_int q (mulOk_fits hc)) (OpR.or op_mulT op_rep)
  | fdiv => exact op_fdivB pr
  | mod => exact op_modN
  | pow =>
    refine opI fun i j _ _ _ _ _ hc q => ?_
    have h1 : (decide (0 ≤ j) && decide ((i.natAbs.log2 + 1) * j.toNat ≤ 100000000)) = true := hc
    rw [Bool.and_eq_true] at h1
    have j0 := of_decide_eq_true h1.1
    have h2 := of_decide_eq_true h1.2
    refine pow_int j0 ?_ q
    have b := bits_log2 i
    have e : (Builtin.Int.intBits i : Int) * j ≤ ((i.natAbs.log2 + 1 : Nat) : Int) * j := Int.mul_le_mul_of_nonneg_right (by omega) j0
    have e2 : ((i.natAbs.log2 + 1 : Nat) : Int) * j = (((i.natAbs.log2 + 1) * j.toNat : Nat) : Int) := by
      rw [Int.natCast_mul, Int.toNat_of_nonneg j0]
    have e3 : (2 : Int) ^ 27 = 134217728 := by decide
    rw [e3]
    omega
theorem RepA.rep {F : Hp} {xs : List PV} {vs : List V} (h : RepA K ad F xs vs) : ∀ n : Nat, RepA K ad F (List.replicate n xs).flatten (List.replicate n vs).flatten
  | 0 => .nil
  | n + 1 => by
    rw [List.replicate_succ, List.replicate_succ, List.flatten_cons, List.flatten_cons]
    exact h.app (RepA.rep h n)
theorem flat_len {α : Type} (xs : List α) : ∀ n : Nat, (List.replicate n xs).flatten.length = n * xs.length
  | 0 => by simp
  | n + 1 => by rw [List.replicate_succ, List.flatten_cons, List.length_append, flat_len xs n, Nat.succ_mul, Nat.add_comm]
theorem flat_nil {α : Type} : ∀ n : Nat, (List.replicate n ([] : List α)).flatten = []
  | 0 => rfl
  | n + 1 => by rw [List.replicate_succ, List.flatten_cons, flat_nil n]; rfl
theorem op2_ok (o : Op2) {Q : VK} {W : Exc → Store → Prop} {a b z : PV} {w1 w2 : V} (l0 : Le g0 g) (ho : OK K ad g H st) (r1 : RepH K ad g.F H a w1) (r2 : RepH K ad g.F H b w2) (e : op2v o a b = some z) (h : Fin (ok (SV.d z) st) (Px K ad g0 Q) (Wx K ad g0 Ek)) :
    op2R K o w1 w2 H Q := by
  have q : ∀ w, Rep K ad g.F z w → Q w H := fun w r => h g H w l0 ho r
  unfold op2v at e
  split at e
  · cases e
    exact .inl ⟨_, _, r1.int, r2.int, q _ (.int _)⟩
  · cases e
    exact ⟨_, _, r1.int, r2.int, q _ (.int _)⟩
  · split at e
    · rename_i c
      cases e
      exact .inl ⟨_, _, r1.int, r2.int, c, q _ (.int _)⟩
    · cases e
  · rename_i xs k
    split at e
    · rename_i c
      cases e
      obtain ⟨p1, v1, e1, s1, n1, a1⟩ := r1.tup ho.ex
      have hl := a1.len
      refine .inr (.inl ⟨p1, k, v1, e1, r2.int, s1, c.1, c.2.1, by rw [← hl]; exact c.2.2, fun z => ?_, fun z1 z2 p hp => ?_, fun z1 z2 p hp => ?_⟩)
      · have ez : (List.replicate k.toNat xs).flatten = xs := by
          rcases z with z | z
          · rw [z]
            show (List.replicate 1 xs).flatten = xs
            simp
          · have : xs = [] := List.eq_nil_of_length_eq_zero (by rw [hl, z]; rfl)
            rw [this, flat_nil]
        rw [ez] at q
        subst e1
        refine q _ ?_
        cases r1 with
        | of r => exact r
      · have ez : (List.replicate k.toNat xs).flatten = [] := by
          rw [show k.toNat = 0 by omega]
          rfl
        rw [ez] at h
        exact fin_tup l0 ho (Nat.zero_le _) .nil h hp
      · refine fin_tup l0 ho ?_ (RepA.rep a1 k.toNat) h hp
        rw [flat_len, ← hl]
        have : k.toNat * xs.length ≤ 1000 * 1000 := Nat.mul_le_mul (by omega) c.2.2
        exact Nat.le_trans this (show 1000 * 1000 ≤ lim from by decide)
    · cases e
  · rename_i xs k
    split at e
    · rename_i c
      cases e
      obtain ⟨p1, v1, e1, s1, n1, a1⟩ := r1.lst ho.ex
      have hl := a1.len
      have hm : k.toNat * xs.length ≤ 1000 * 1000 := Nat.mul_le_mul (by omega) c.2.2
      have b1 : -(2 ^ 63) ≤ (-1000 : Int) := by decide
      have b2 : (1000 : Int) < 2 ^ 63 := by decide
      refine .inr (.inr ⟨p1, k, v1, e1, r2.int, s1, Int.le_trans b1 c.1, Int.lt_of_le_of_lt c.2.1 b2, ?_, fun p hp => ?_⟩)
      · rw [← lim_eq, ← hl, Nat.mul_comm]
        exact Nat.le_trans hm (show 1000 * 1000 ≤ lim from by decide)
      · refine fin_lst l0 ho ?_ (RepA.rep a1 k.toNat) h hp
        rw [flat_len, ← hl]
        exact Nat.le_trans hm (show 1000 * 1000 ≤ lim from by decide)
    · cases e
  · split at e
    · rename_i c
      cases e
      exact ⟨_, _, r1.int, r2.int, c, q _ (.int _)⟩
    · cases e
  · split at e
    · rename_i c
      cases e
      exact ⟨_, _, r1.int, r2.int, c, q _ (.int _)⟩
    · cases e
  · split at e
    · rename_i c
      cases e
      exact ⟨_, _, r1.int, r2.int, c, q _ (.int _)⟩
    · cases e
  · rename_i xs ys
    split at e
    · rename_i c
      cases e
      obtain ⟨p1, v1, e1, s1, n1, a1⟩ := r1.tup ho.ex
      obtain ⟨p2, v2, e2, s2, n2, a2⟩ := r2.tup ho.ex
      have c' : v1.length + v2.length ≤ lim := by rw [← a1.len, ← a2.len]; exact c
      refine .inr (.inl ⟨p1, p2, v1, v2, e1, e2, s1, s2, by rw [← lim_eq]; exact c', fun z1 => ?_, fun _ z2 => ?_, fun _ _ p hp => ?_⟩)
      · subst z1
        cases a1
        subst e2
        refine q _ ?_
        cases r2 with
        | of r => exact r
      · subst z2
        cases a2
        rw [List.append_nil] at q
        subst e1
        refine q _ ?_
        cases r1 with
        | of r => exact r
      · exact fin_tup l0 ho (by rw [List.length_append]; exact c') (a1.app a2) h hp
    · cases e
  · rename_i xs ys
    split at e
    · rename_i c
      cases e
      obtain ⟨p1, v1, e1, s1, n1, a1⟩ := r1.lst ho.ex
      obtain ⟨p2, v2, e2, s2, n2, a2⟩ := r2.lst ho.ex
      have c' : v1.length + v2.length ≤ lim := by rw [← a1.len, ← a2.len]; exact c
      exact .inr (.inr (.inl ⟨p1, p2, v1, v2, e1, e2, s1, s2, by rw [← lim_eq]; exact c', fun p hp => fin_lst l0 ho (by rw [List.length_append]; exact c') (a1.app a2) h hp⟩))
    · cases e
  · split at e
    · rename_i c
      cases e
      exact .inr (.inr (.inr ⟨_, _, r1.str, r2.str, by rw [← lim_eq]; exact c, q _ (.str _)⟩))
    · cases e
  · cases e
variable {a b c : Expr} {ia ib ic : E}
theorem s_bin (pr : Big X) (o : Op2) (ha : PE X a (tEv X.K ad lm Ek (evE cl ia))) (hb : PE X b (tEv X.K ad lm Ek (evE cl ib))) : PE X (.BinOp a (opA o) b pos) (tEv X.K ad lm Ek (evE cl (.bin o ia ib))) := by
  refine PEimp (pe_op (op2_op pr o) ha hb) fun σ H Q q => ?_
  obtain ⟨g, sl, st, ho, rs, f⟩ := q
  unfold evE at f
  refine ev_bind (Le.refl g) ho rs f fun x st1 g1 H1 w1 l0 l1 o1 rs1 r1 f1 => ?_
  refine ev_bind l0 o1 rs1 f1 fun y st2 g2 H2 w2 l0' l2 o2 rs2 r2 f2 => ?_
  obtain ⟨u, v, z, h1, h2, e, f3⟩ := op2_inv o2 (r1.mono l2) r2 f2
  exact op2_ok o (W := Wx X.K ad g Ek) l0' o2 h1 h2 e f3
/-- a list that a sum makes -/
theorem s_addF (pr : Big X) (ha : PE X a (tEv X.K ad lm Ek (evE cl ia))) (hb : PE X b (tEv X.K ad lm Ek (evE cl ib))) (hl : True) : PE X (.BinOp a .Add b pos) (tFr X.K ad lm Ek (evE cl (.bin .add ia ib))) := by
  refine PEimp (pe_op (op2_op pr .add) ha hb) fun σ H Q q => ?_
  obtain ⟨g, sl, st, ho, rs, f⟩ := q
  unfold evE at f
  refine ev_bind (Le.refl g) ho rs f fun x st1 g1 H1 w1 l0 l1 o1 rs1 r1 f1 => ?_
  refine ev_bind l0 o1 rs1 f1 fun y st2 g2 H2 w2 l0' l2 o2 rs2 r2 f2 => ?_
  obtain ⟨u, v, z, h1, h2, e, f3⟩ := op2_inv o2 (r1.mono l2) r2 f2
  obtain ⟨zs, ez, f4⟩ : Pf X.K ad g Q (.d z) st2 := f3
  cases ez
  have key : ∃ xs ys, u = .lst xs ∧ v = .lst ys ∧ xs.length + ys.length ≤ lim ∧ zs = xs ++ ys := by
    cases u <;> cases v <;> simp only [op2v, reduceCtorEq] at e
    all_goals first
      | (cases e; done)
      | (split at e <;> (cases e; done))
      | (split at e
         · rename_i c
           cases e
           exact ⟨_, _, rfl, rfl, c, rfl⟩
         · cases e)
  obtain ⟨xs, ys, rfl, rfl, c, rfl⟩ := key
  obtain ⟨p1, v1, e1, s1, n1, a1⟩ := h1.lst o2.ex
  obtain ⟨p2, v2, e2, s2, n2, a2⟩ := h2.lst o2.ex
  have c' : v1.length + v2.length ≤ lim := by rw [← a1.len, ← a2.len]; exact c
  exact .inr (.inr (.inl ⟨p1, p2, v1, v2, e1, e2, s1, s2, by rw [← lim_eq]; exact c', fun p hp => f4 g2 _ p _ l0' (o2.ext (Ex.new hp)) upd_same (o2.free hp) (by rw [List.length_append]; exact c') (a1.app a2)⟩))
theorem s_neg (ha : PE X a (tEv X.K ad lm Ek (evE cl ia))) : PE X (.UnaryOp .USub a pos) (tEv X.K ad lm Ek (evE cl (.neg ia))) := by
  refine PEimp (pe_un un_neg ha) fun σ H Q q => ?_
  obtain ⟨g, sl, st, ho, rs, f⟩ := q
  unfold evE at f
  refine ev_bind (Le.refl g) ho rs f fun x st1 g1 H1 w1 l0 l1 o1 rs1 r1 f1 => ?_
  obtain ⟨i, e, f2⟩ := Fin.asI f1
  subst e
  cases r1
  exact ⟨i, rfl, f2 g1 H1 _ l0 o1 (.int _)⟩
theorem s_not (ha : PE X a (tEv X.K ad lm Ek (evE cl ia))) : PE X (.UnaryOp .Not a pos) (tEv X.K ad lm Ek (evE cl (.not ia))) := by
  refine PEimp (pe_not ha) fun σ H Q q => ?_
  obtain ⟨g, sl, st, ho, rs, f⟩ := q
  unfold evE at f
  refine ev_bind (Le.refl g) ho rs f fun x st1 g1 H1 w1 l0 l1 o1 rs1 r1 f1 => ?_
  obtain ⟨i, e, f2⟩ := Fin.asB f1
  subst e
  cases r1
  exact ⟨i, rfl, f2 g1 H1 _ l0 o1 (.bl _)⟩
/-! ### comparisons -/
def cmA : Cm → CmpOp
  | .eq => .Eq | .ne => .NotEq | .lt => .Lt | .le => .LtE | .gt => .Gt | .ge => .GtE | .isn => .Is | .notn => .IsNot | .isb => .Is | .notb => .IsNot | .mem => .In | .nmem => .NotIn
def rLtS : R2 := fun x y H Q => ∃ i j, x = .str i ∧ y = .str j ∧ Q (.bl (decide (i.cps.toList < j.cps.toList))) H
def rLeS : R2 := fun x y H Q => ∃ i j, x = .str i ∧ y = .str j ∧ Q (.bl (!decide (j.cps.toList < i.cps.toList))) H
theorem op_leS : OpR X (compareOp .LtE) rLeS := by
  intro pins s σ H x y v u Q I rx ry h
  obtain ⟨i, j, e1, e2, q⟩ := h
  subst e1 e2
  obtain ⟨t, rfl⟩ := rx
  obtain ⟨t', rfl⟩ := ry
  exact PySem.P.le_str ⟨.bl _, H, I, rfl, q⟩
def cmR (K : PySem.W.Frag) : Cm → R2
  | .eq => fun x y H Q => rEqD K x y H Q ∨ rEq x y H Q
  | .ne => fun x y H Q => rNeD K x y H Q ∨ rNe x y H Q
  | .lt => fun x y H Q => rI0 (fun i j => .bl (decide (i < j))) x y H Q ∨ rLtS x y H Q
  | .le => fun x y H Q => rI0 (fun i j => .bl (decide (i ≤ j))) x y H Q ∨ rLeS x y H Q
  | .mem => fun x y H Q => ∃ i j, x = .str i ∧ y = .str j ∧ Q (.bl (!(Builtin.Str.occurrences j i 0 j.length 1).isEmpty)) H
  | .nmem => fun x y H Q => ∃ i j, x = .str i ∧ y = .str j ∧ Q (.bl (!(!(Builtin.Str.occurrences j i 0 j.length 1).isEmpty))) H
  | .gt => rI0 fun i j => .bl (decide (j < i)) | .ge => rI0 fun i j => .bl (decide (j ≤ i))
  | .isn => fun x y H Q => y = .non ∧ Q (.bl (decide (x = .non))) H
  | .notn => fun x y H Q => y = .non ∧ Q (.bl (!decide (x = .non))) H
  | _ => fun _ _ _ _ => False
theorem cm_op (hu : X.A.units + 64 < cLine) (o : Cm) : OpR X (compareOp (cmA o)) (cmR X.K o) := by
  cases o with
  | eq => exact OpR.or (op_eqD hu) op_eq
  | ne => exact OpR.or (op_neD hu) op_ne
  | lt => exact OpR.or op_lt op_lt_str
  | le => exact OpR.or op_le op_leS
  | mem => exact op_in_str
  | nmem => exact op_notin_str
  | gt => exact op_gt
  | ge => exact op_ge
  | isn => exact op_isN
  | notn => exact op_notN
  | _ => exact fun _ _ _ _ _ _ _ _ _ _ _ _ h => h.elim
theorem eqvD_inv {a b : PV} {k : Bool} (h : eqvD a b = some k) : ∃ d e, a.dat = some d ∧ b.dat = some e ∧ SeqAt.shaped d = true ∧ SeqAt.shaped e = true ∧ k = PyData.eqv d e := by
  unfold eqvD at h
  split at h
  · rename_i d e h1 h2
    split at h
    · rename_i c
      cases h
      exact ⟨d, e, h1, h2, c.1, c.2, rfl⟩
    · cases h
  · cases h
theorem eqv_inv {a b : PV} {k : Bool} (h : eqv a b = some k) : (∃ x y, a = .str x ∧ b = .str y ∧ k = decide (x = y)) ∨ eqvD a b = some k := by
  unfold eqv at h
  split at h
  · cases h
    exact .inl ⟨_, _, rfl, rfl, rfl⟩
  · exact .inr h
theorem isn_dec {a : PV} {w : V} (r : RepH K ad g.F H a w) : decide (w = .non) = isn a := by
  cases r with
  | of r => cases r <;> rfl
  | cell a b c => rfl
theorem cm_ok (o : Cm) {Q : VK} {a b : PV} {k : Bool} {w1 w2 : V} (ho : OK K ad g H st) (r1 : RepH K ad g.F H a w1) (r2 : RepH K ad g.F H b w2) (e : cmpv o a b = some k) (h : Q (.bl k) H) : cmR K o w1 w2 H Q := by
  unfold cmpv at e
  split at e
  · rcases eqv_inv e with ⟨x, y, e1, e2, e3⟩ | e
    · subst e1 e2 e3
      rw [r1.str, r2.str]
      refine .inr ⟨rfl, ?_⟩
      rw [show decide (V.str x = V.str y) = decide (x = y) from decide_eq_decide.mpr ⟨fun z => by cases z; rfl, fun z => by rw [z]⟩]
      exact h
    · obtain ⟨d, e', h1, h2, s1, s2, rfl⟩ := eqvD_inv e
      exact .inl ⟨d, e', r1.dp ho.ex h1, r2.dp ho.ex h2, s1, s2, h⟩
  · obtain ⟨k', e2, e3⟩ := Option.map_eq_some_iff.mp e
    subst e3
    rcases eqv_inv e2 with ⟨x, y, z1, z2, z3⟩ | e2
    · subst z1 z2 z3
      rw [r1.str, r2.str]
      refine .inr ⟨rfl, ?_⟩
      rw [show decide (V.str x = V.str y) = decide (x = y) from decide_eq_decide.mpr ⟨fun z => by cases z; rfl, fun z => by rw [z]⟩]
      exact h
    · obtain ⟨d, e', h1, h2, s1, s2, rfl⟩ := eqvD_inv e2
      exact .inl ⟨d, e', r1.dp ho.ex h1, r2.dp ho.ex h2, s1, s2, h⟩
  · cases e; exact .inl ⟨_, _, r1.int, r2.int, h⟩
  · cases e; exact .inl ⟨_, _, r1.int, r2.int, h⟩
  · cases e; exact ⟨_, _, r1.int, r2.int, h⟩
  · cases e; exact ⟨_, _, r1.int, r2.int, h⟩
  · cases e; exact .inr ⟨_, _, r1.str, r2.str, h⟩
  · cases e; exact .inr ⟨_, _, r1.str, r2.str, h⟩
  · cases e; exact ⟨_, _, r1.str, r2.str, h⟩
  · cases e; exact ⟨_, _, r1.str, r2.str, h⟩
  · cases e; exact ⟨r2.non, by rw [isn_dec r1]; exact h⟩
  · cases e; exact ⟨r2.non, by rw [isn_dec r1]; exact h⟩
  · cases e
theorem cmp_read (o : Cm) {σ : L2.St} {H : Hp} {Q : VK} (ta : True) (h : tEv X.K ad lm Ek (evE cl (.cmp o ia ib)) σ H Q) : tOp (cmR X.K o) (tEv X.K ad lm Ek (evE cl ia)) (tEv X.K ad lm Ek (evE cl ib)) σ H Q := by
  obtain ⟨g, sl, st, ho, rs, f⟩ := h
  unfold evE at f
  refine ev_bind (Le.refl g) ho rs f fun x st1 g1 H1 w1 l0 l1 o1 rs1 r1 f1 => ?_
  refine ev_bind l0 o1 rs1 f1 fun y st2 g2 H2 w2 l0' l2 o2 rs2 r2 f2 => ?_
  obtain ⟨u, v, z, h1, h2, e, f3⟩ := cmp2_inv o2 (r1.mono l2) r2 f2
  exact cm_ok o o2 h1 h2 e (f3 g2 H2 _ l0' o2 (.bl _))
theorem s_cmp (hu : X.A.units + 64 < cLine) (o : Cm) (ha : PE X a (tEv X.K ad lm Ek (evE cl ia))) (hb : PE X b (tEv X.K ad lm Ek (evE cl ib))) (hm : behindInMarks (cmA o) b = false) :
    PE X (.Compare a [cmA o] [b] pos) (tEv X.K ad lm Ek (evE cl (.cmp o ia ib))) :=
  PEimp (pe_cmpR (cm_op hu o) ha hb hm) fun σ H Q q => cmp_read o trivial q
abbrev tBv (K : PySem.W.Frag) (ad : Nat → Option Addr) (lm : Lm) (Ek : XK) (cl : Cl) (i : E) : TT := tTv K ad lm Ek fun sl => bnd (evE cl i sl) asB
/-- a test's reading from a value's -/
theorem test_of {i : E} {σ : L2.St} {H : Hp} {Q : Bool → Hp → Prop} (h : tBv K ad lm Ek cl i σ H Q) : tEv K ad lm Ek (evE cl i) σ H fun x H' => ∃ k, x = .bl k ∧ Q k H' := by
  obtain ⟨g, sl, st, ho, rs, f⟩ := h
  refine ev_bind (Le.refl g) ho rs f fun x st1 g1 H1 w1 l0 l1 o1 rs1 r1 f1 => ?_
  have f1 : Fin (bnd (asB x) ok st1) (Pt K ad g Q) (Wx K ad g Ek) := by
    have e : bnd (asB x) ok = asB x := by
      funext s
      unfold bnd
      cases asB x s with
      | none => rfl
      | some r => cases r <;> rfl
    rw [e]
    exact f1
  obtain ⟨k, e, f2⟩ := Fin.asB f1
  subst e
  cases r1
  exact ⟨k, rfl, f2 g1 H1 l0 o1⟩
theorem t_cmp (hu : X.A.units + 64 < cLine) (o : Cm) (ha : PE X a (tEv X.K ad lm Ek (evE cl ia))) (hb : PE X b (tEv X.K ad lm Ek (evE cl ib))) (hm : behindInMarks (cmA o) b = false) :
    PT X (.Compare a [cmA o] [b] pos) (tBv X.K ad lm Ek cl (.cmp o ia ib)) :=
  PTimp (pt_cmpR (cm_op hu o) ha hb hm) fun σ H Q q => cmp_read o trivial (test_of q)
theorem chain_read (o o' : Cm) {σ : L2.St} {H : Hp} {Q : VK} (h : tEv X.K ad lm Ek (evE cl (.chain o o' ia ib ic)) σ H Q) :
    tChain (cmR X.K o) (cmR X.K o') (tEv X.K ad lm Ek (evE cl ia)) (tEv X.K ad lm Ek (evE cl ib)) (tEv X.K ad lm Ek (evE cl ic)) σ H Q := by
  obtain ⟨g, sl, st, ho, rs, f⟩ := h
  unfold evE at f
  refine ev_bind (Le.refl g) ho rs f fun x st1 g1 H1 w1 l0 l1 o1 rs1 r1 f1 => ?_
  refine ev_bind l0 o1 rs1 f1 fun y st2 g2 H2 w2 l0' l2 o2 rs2 r2 f2 => ?_
  obtain ⟨u, v, k, h1, h2, e, f3⟩ := cmp2_inv o2 (r1.mono l2) r2 f2
  refine cm_ok o o2 h1 h2 e ⟨k, rfl, ?_⟩
  cases k with
  | true =>
    rw [if_pos rfl] at f3 ⊢
    refine ev_bind l0' o2 rs2 f3 fun z st3 g3 H3 w3 l0'' l3 o3 rs3 r3 f4 => ?_
    obtain ⟨u', v', k', h1', h2', e', f5⟩ := cmp2_inv o3 (r2.mono l3) r3 f4
    exact cm_ok o' o3 h1' h2' e' (f5 g3 H3 _ l0'' o3 (.bl _))
  | false =>
    rw [if_neg Bool.false_ne_true] at f3 ⊢
    exact f3 g2 H2 _ l0' o2 (.bl _)
theorem s_chain (hu : X.A.units + 64 < cLine) (o o' : Cm) (ha : PE X a (tEv X.K ad lm Ek (evE cl ia))) (hb : PE X b (tEv X.K ad lm Ek (evE cl ib))) (hc : PE X c (tEv X.K ad lm Ek (evE cl ic))) (hm : lastMarks [cmA o, cmA o'] [b, c] = false) :
    PE X (.Compare a [cmA o, cmA o'] [b, c] pos) (tEv X.K ad lm Ek (evE cl (.chain o o' ia ib ic))) :=
  PEimp (pe_chain (cm_op hu o) (cm_op hu o') ha hb hc hm) fun σ H Q q => chain_read o o' q
theorem t_chain (hu : X.A.units + 64 < cLine) (o o' : Cm) (ha : PE X a (tEv X.K ad lm Ek (evE cl ia))) (hb : PE X b (tEv X.K ad lm Ek (evE cl ib))) (hc : PE X c (tEv X.K ad lm Ek (evE cl ic))) (hm : lastMarks [cmA o, cmA o'] [b, c] = false) :
    PT X (.Compare a [cmA o, cmA o'] [b, c] pos) (tBv X.K ad lm Ek cl (.chain o o' ia ib ic)) :=
  PTimp (pt_chain (cm_op hu o) (cm_op hu o') ha hb hc hm) fun σ H Q q => chain_read o o' (test_of q)
/-! ### and, or, not, if -/
theorem t_not (ha : PT X a (tBv X.K ad lm Ek cl ia)) : PT X (.UnaryOp .Not a pos) (tBv X.K ad lm Ek cl (.not ia)) := by
  refine PTimp (pt_not ha) fun σ H Q q => ?_
  obtain ⟨g, sl, st, ho, rs, f⟩ := q
  unfold evE at f
  refine ⟨g, sl, st, ho, rs, ?_⟩
  have e : bnd (bnd (evE cl ia sl) fun x => bnd (asB x) fun b => ok (SV.d (.bl (!b)))) asB = bnd (bnd (evE cl ia sl) asB) fun b => ok (!b) := by
    rw [bnd_assoc, bnd_assoc]
    congr 1
    funext x
    rw [bnd_assoc]
    congr 1
  have f : Fin (bnd (bnd (evE cl ia sl) fun x => bnd (asB x) fun b => ok (SV.d (.bl (!b)))) asB st) (Pt X.K ad g Q) (Wx X.K ad g Ek) := f
  rw [e] at f
  exact f.bnd.imp (fun b st1 h => h) fun _ _ w => w
def BoolOp1 : Bool → BoolOp
  | true => .And
  | false => .Or
variable {rest : List Expr} {p2 : Pos}
theorem s_and (ha : PE X a (tEv X.K ad lm Ek (evE cl ia))) (hb : PE X (.BoolOp .And (b :: rest) pos) (tEv X.K ad lm Ek (evE cl ib))) : PE X (.BoolOp .And (a :: b :: rest) pos) (tEv X.K ad lm Ek (evE cl (.and ia ib))) := by
  refine PEimp (pe_and ha hb) fun σ H Q q => ?_
  obtain ⟨g, sl, st, ho, rs, f⟩ := q
  unfold evE at f
  refine ev_bind (Le.refl g) ho rs f fun x st1 g1 H1 w1 l0 l1 o1 rs1 r1 f1 => ?_
  obtain ⟨k, e, f2⟩ := Fin.asB f1
  subst e
  cases r1
  refine ⟨k, rfl, ?_⟩
  cases k with
  | true =>
    rw [if_pos rfl] at f2 ⊢
    exact ⟨g1, sl, st1, o1, rs1, f2.imp (fun v s h g' H' w l => h g' H' w (l0.trans l)) fun x s w => w.mono l0⟩
  | false =>
    rw [if_neg Bool.false_ne_true] at f2 ⊢
    exact f2 g1 H1 _ l0 o1 (.bl _)
theorem s_or (ha : PE X a (tEv X.K ad lm Ek (evE cl ia))) (hb : PE X (.BoolOp .Or (b :: rest) pos) (tEv X.K ad lm Ek (evE cl ib))) : PE X (.BoolOp .Or (a :: b :: rest) pos) (tEv X.K ad lm Ek (evE cl (.or ia ib))) := by
  refine PEimp (pe_or ha hb) fun σ H Q q => ?_
  obtain ⟨g, sl, st, ho, rs, f⟩ := q
  unfold evE at f
  refine ev_bind (Le.refl g) ho rs f fun x st1 g1 H1 w1 l0 l1 o1 rs1 r1 f1 => ?_
  obtain ⟨k, e, f2⟩ := Fin.asB f1
  subst e
  cases r1
  refine ⟨k, rfl, ?_⟩
  cases k with
  | true =>
    rw [if_pos rfl] at f2 ⊢
    exact f2 g1 H1 _ l0 o1 (.bl _)
  | false =>
    rw [if_neg Bool.false_ne_true] at f2 ⊢
    exact ⟨g1, sl, st1, o1, rs1, f2.imp (fun v s h g' H' w l => h g' H' w (l0.trans l)) fun x s w => w.mono l0⟩
theorem s_one {op : BoolOp} (ha : PE X a (tEv X.K ad lm Ek (evE cl ia))) : PE X (.BoolOp op [a] pos) (tEv X.K ad lm Ek (evE cl (.one ia))) :=
  PEimp (pe_one ha) fun σ H Q q => by
    obtain ⟨g, sl, st, ho, rs, f⟩ := q
    unfold evE at f
    exact ⟨g, sl, st, ho, rs, f⟩
theorem t_one1 {op : BoolOp} (ha : PT X a (tBv X.K ad lm Ek cl ia)) : PW X (.BoolOp op [a] pos) (tBv X.K ad lm Ek cl (.one ia)) := by
  have h : PW X (.BoolOp op [a] pos) (tBv X.K ad lm Ek cl ia) := by
    cases op with
    | And => exact pw_and1 ha
    | Or => exact pw_or1 ha
  refine ⟨fun wh pins s σ H Q I q => h.run wh pins s σ H Q I ?_⟩
  obtain ⟨g, sl, st, ho, rs, f⟩ := q
  unfold evE at f
  exact ⟨g, sl, st, ho, rs, f⟩
theorem t_and (ha : PT X a (tBv X.K ad lm Ek cl ia)) (hb : PW X (.BoolOp .And (b :: rest) pos) (tBv X.K ad lm Ek cl ib)) : PW X (.BoolOp .And (a :: b :: rest) pos) (tBv X.K ad lm Ek cl (.and ia ib)) := by
  refine ⟨fun wh pins s σ H Q I q => (pw_and ha hb).run wh pins s σ H Q I ?_⟩
  obtain ⟨g, sl, st, ho, rs, f⟩ := q
  have e : bnd (evE cl (.and ia ib) sl) asB = bnd (bnd (evE cl ia sl) asB) fun k => if k = true then bnd (evE cl ib sl) asB else ok false := by
    rw [evE]
    rw [bnd_assoc, bnd_assoc]
    congr 1
    funext x
    rw [bnd_assoc]
    congr 1
    funext k
    cases k <;> rfl
  have f : Fin (bnd (evE cl _ sl) asB st) (Pt X.K ad g Q) (Wx X.K ad g Ek) := f
  rw [e] at f
  refine tv_bind (m := fun sl => bnd (evE cl ia sl) asB) (Le.refl g) ho rs f fun k st1 g1 H1 l0 l1 o1 rs1 f1 => ?_
  cases k with
  | true =>
    rw [if_pos rfl] at f1 ⊢
    exact ⟨g1, sl, st1, o1, rs1, f1.imp (fun v s h g' H' l => h g' H' (l0.trans l)) fun x s w => w.mono l0⟩
  | false =>
    rw [if_neg Bool.false_ne_true] at f1 ⊢
    exact f1 g1 H1 l0 o1
theorem t_or (ha : PT X a (tBv X.K ad lm Ek cl ia)) (hb : PW X (.BoolOp .Or (b :: rest) pos) (tBv X.K ad lm Ek cl ib)) : PW X (.BoolOp .Or (a :: b :: rest) pos) (tBv X.K ad lm Ek cl (.or ia ib)) := by
  refine ⟨fun wh pins s σ H Q I q => (pw_or ha hb).run wh pins s σ H Q I ?_⟩
  obtain ⟨g, sl, st, ho, rs, f⟩ := q
  have e : bnd (evE cl (.or ia ib) sl) asB = bnd (bnd (evE cl ia sl) asB) fun k => if k = true then ok true else bnd (evE cl ib sl) asB := by
    rw [evE]
    rw [bnd_assoc, bnd_assoc]
    congr 1
    funext x
    rw [bnd_assoc]
    congr 1
    funext k
    cases k <;> rfl
  have f : Fin (bnd (evE cl _ sl) asB st) (Pt X.K ad g Q) (Wx X.K ad g Ek) := f
  rw [e] at f
  refine tv_bind (m := fun sl => bnd (evE cl ia sl) asB) (Le.refl g) ho rs f fun k st1 g1 H1 l0 l1 o1 rs1 f1 => ?_
  cases k with
  | true =>
    rw [if_pos rfl] at f1 ⊢
    exact f1 g1 H1 l0 o1
  | false =>
    rw [if_neg Bool.false_ne_true] at f1 ⊢
    exact ⟨g1, sl, st1, o1, rs1, f1.imp (fun v s h g' H' l => h g' H' (l0.trans l)) fun x s w => w.mono l0⟩
theorem t_val {e : Expr} {ie : E} (h : PE X e (tEv X.K ad lm Ek (evE cl ie))) (he : ∀ whole, isTrue e X.env whole = (do let v ← whole; standAt e.pos; holding [v] (truthy v))) : PT X e (tBv X.K ad lm Ek cl ie) :=
  PTimp (pt_val h he) fun σ H Q q => test_of q
theorem s_ifx (ht : PT X c (tBv X.K ad lm Ek cl ic)) (ha : PE X a (tEv X.K ad lm Ek (evE cl ia))) (hb : PE X b (tEv X.K ad lm Ek (evE cl ib))) : PE X (.IfExp c a b pos) (tEv X.K ad lm Ek (evE cl (.ifx ic ia ib))) := by
  refine PEimp (pe_ifExp ht ha hb) fun σ H Q q => ?_
  obtain ⟨g, sl, st, ho, rs, f⟩ := q
  unfold evE at f
  rw [← bnd_assoc] at f
  refine tv_bind (m := fun sl => bnd (evE cl ic sl) asB) (Le.refl g) ho rs f fun k st1 g1 H1 l0 l1 o1 rs1 f1 => ?_
  cases k with
  | true =>
    rw [if_pos rfl] at f1 ⊢
    exact ⟨g1, sl, st1, o1, rs1, f1.imp (fun v s h g' H' w l => h g' H' w (l0.trans l)) fun x s w => w.mono l0⟩
  | false =>
    rw [if_neg Bool.false_ne_true] at f1 ⊢
    exact ⟨g1, sl, st1, o1, rs1, f1.imp (fun v s h g' H' w l => h g' H' w (l0.trans l)) fun x s w => w.mono l0⟩
/-! ### subscripts -/
theorem ix_ok {Q : VK} {a b z : PV} {w1 w2 : V} (ho : OK K ad g H st) (r1 : RepH K ad g.F H a w1) (r2 : RepH K ad g.F H b w2) (e : ixv a b = some z) (q : ∀ w, Rep K ad g.F z w → Q w H) : rIx K w1 w2 H Q := by
  have key : ∀ {xs : List PV} {vs : List V} {i : Int}, RepA K ad g.F xs vs → atI xs i = some z → ∃ w, atI vs i = some w ∧ Rep K ad g.F z w := fun {xs vs i} ra h => by
    unfold atI at h ⊢
    rw [← ra.len]
    cases hj : ixN xs.length i with
    | none => rw [hj] at h; cases h
    | some j =>
      rw [hj] at h
      obtain ⟨w, h1, h2⟩ := ra.get (i := j) h
      exact ⟨w, h1, h2⟩
  unfold ixv at e
  split at e
  · obtain ⟨p, vs, e1, s1, n1, a1⟩ := r1.tup ho.ex
    obtain ⟨w, h1, h2⟩ := key a1 e
    exact .inr (.inl ⟨p, vs, _, w, e1, r2.int, s1, h1, q w h2⟩)
  · obtain ⟨p, vs, e1, s1, n1, a1⟩ := r1.lst ho.ex
    obtain ⟨w, h1, h2⟩ := key a1 e
    exact .inl ⟨p, vs, _, w, e1, r2.int, SqL.of s1, h1, q w h2⟩
  · obtain ⟨p, vs, e1, s1, n1, a1⟩ := r1.fz ho.ex
    obtain ⟨w, h1, h2⟩ := key a1 e
    exact .inl ⟨p, vs, _, w, e1, r2.int, s1, h1, q w h2⟩
  · split at e
    · rename_i zz i c
      obtain ⟨cc, h1, h2⟩ := Option.map_eq_some_iff.mp e
      subst h2
      exact .inr (.inr ⟨_, i, cc, r1.str, r2.int, by rw [← lim_eq]; exact c, h1, q _ (.str _)⟩)
    · cases e
  · cases e
theorem s_ix (ha : PE X a (tEv X.K ad lm Ek (evE cl ia))) (hb : PE X b (tEv X.K ad lm Ek (evE cl ib))) (hs : PlainIx b) : PE X (.Subscript a b pos) (tEv X.K ad lm Ek (evE cl (.ix ia ib))) := by
  refine PEimp (pe_ix ix_seq ha hb hs) fun σ H Q q => ?_
  obtain ⟨g, sl, st, ho, rs, f⟩ := q
  unfold evE at f
  refine ev_bind (Le.refl g) ho rs f fun x st1 g1 H1 w1 l0 l1 o1 rs1 r1 f1 => ?_
  refine ev_bind l0 o1 rs1 f1 fun y st2 g2 H2 w2 l0' l2 o2 rs2 r2 f2 => ?_
  unfold ix2 at f2
  rw [bnd_assoc] at f2
  obtain ⟨u, _, h1, f2⟩ := Fin.rd o2 (r1.mono l2) f2
  rw [bnd_assoc] at f2
  obtain ⟨v, _, h2, f2⟩ := Fin.rd o2 r2 f2
  obtain ⟨z, e, f3⟩ := Fin.ofO f2
  exact ix_ok o2 h1 h2 e fun w r => f3 g2 H2 w l0' o2 r
theorem cut_len {xs : List PV} {vs : List V} {F : Hp} (h : RepA K ad F xs vs) (lo hi : Option Int) : RepA K ad F (cutL xs lo hi) (cutV vs lo hi) := by
  unfold cutL cutV
  rw [h.len]
  exact (h.drop _).take _
theorem s_po {o : Option Expr} {io : Oe} (h : match o, io with
    | none, .no => True
    | some e, .ye i => PE X e (tEv X.K ad lm Ek (evE cl i))
    | _, _ => False) : ∃ t : TO, PO X o t ∧ ∀ σ H Q g0 g sl st, Le g0 g → OK X.K ad g H st → RepSl X.K ad lm g sl σ → ∀ {β : Type} {k : Option Int → M β} {P : β → Store → Prop}, Fin (bnd (evO cl io sl) k st) P (Wx X.K ad g0 Ek) →
      (∀ v st1 g1 H1, Le g0 g1 → Le g g1 → OK X.K ad g1 H1 st1 → RepSl X.K ad lm g1 sl σ → Fin (k v st1) P (Wx X.K ad g0 Ek) → Q v H1) → t σ H Q := by
  cases o with
  | none =>
    cases io with
    | no =>
      refine ⟨tNoPart, po_none, fun σ H Q g0 g sl st l0 o rs {β k P} f nx => ?_⟩
      unfold evO at f
      exact nx none st g H l0 (Le.refl g) o rs f
    | ye i => exact h.elim
  | some e =>
    cases io with
    | no => exact h.elim
    | ye i =>
      refine ⟨tPart (tEv X.K ad lm Ek (evE cl i)), po_some h, fun σ H Q g0 g sl st l0 o rs {β k P} f nx => ?_⟩
      unfold evO at f
      rw [bnd_assoc] at f
      refine ev_bind l0 o rs f fun x st1 g1 H1 w1 l0 l1 o1 rs1 r1 f1 => ?_
      rw [bnd_assoc] at f1
      obtain ⟨j, e, f2⟩ := Fin.asI f1
      subst e
      cases r1
      exact ⟨j, rfl, nx (some j) st1 g1 H1 l0 l1 o1 rs1 f2⟩
theorem s_cut {lo hi : Option Expr} {il ih : Oe} {p2 : Pos} (ha : PE X a (tEv X.K ad lm Ek (evE cl ia))) (hl : match lo, il with
    | none, .no => True
    | some e, .ye i => PE X e (tEv X.K ad lm Ek (evE cl i))
    | _, _ => False) (hh : match hi, ih with
    | none, .no => True
    | some e, .ye i => PE X e (tEv X.K ad lm Ek (evE cl i))
    | _, _ => False) : PE X (.Subscript a (.Slice lo hi none p2) pos) (tEv X.K ad lm Ek (evE cl (.cut ia il ih))) := by
  obtain ⟨tl, pl, kl⟩ := s_po hl
  obtain ⟨th, ph, kh⟩ := s_po hh
  refine PEimp (pe_slice (SlR.or sl_tupA sl_list) ha pl ph) fun σ H Q q => ?_
  obtain ⟨g, sl, st, ho, rs, f⟩ := q
  unfold evE at f
  refine ev_bind (Le.refl g) ho rs f fun x st1 g1 H1 w1 l0 l1 o1 rs1 r1 f1 => ?_
  refine kl σ H1 _ g g1 sl st1 l0 o1 rs1 f1 fun v st2 g2 H2 l02 l2 o2 rs2 f2 => ?_
  refine kh σ H2 _ g g2 sl st2 l02 o2 rs2 f2 fun u st3 g3 H3 l03 l3 o3 rs3 f3 => ?_
  obtain ⟨y, _, h1, f4⟩ := Fin.rd o3 (r1.mono (l2.trans l3)) f3
  obtain ⟨z, e, f5⟩ := Fin.ofO f4
  unfold cutv at e
  split at e
  · rename_i xs _
    cases e
    obtain ⟨p, vs, e1, s1, n1, a1⟩ := h1.tup o3.ex
    subst e1
    refine .inl ⟨p, vs, rfl, s1, fun c => ?_, fun _ p hp => ?_⟩
    · refine f5 g3 H3 _ l03 o3 ?_
      have e2 : cutL xs v u = xs := by
        unfold cutL
        rw [a1.len, c.1, c.2, List.drop_zero, Nat.sub_zero, ← a1.len, List.take_length]
      rw [e2]
      cases h1 with
      | of r => exact r
    · exact fin_tup l03 o3 (Nat.le_trans (cutV_length _ _ _) n1) (cut_len a1 v u) f5 hp
  · rename_i xs
    cases e
    obtain ⟨p, vs, e1, s1, n1, a1⟩ := h1.lst o3.ex
    subst e1
    exact .inr ⟨p, vs, rfl, SqL.of s1, fun p hp => fin_lst l03 o3 (Nat.le_trans (cutV_length _ _ _) n1) (cut_len a1 v u) f5 hp⟩
  · cases e
theorem s_rev {k : Nat} {p1 p2 p3 : Pos} (ha : PE X a (tEv X.K ad lm Ek (evE cl ia))) : PE X (.Subscript a (.Slice none none (some (.UnaryOp .USub (.Constant (.int 1) k p1) p2)) p3) pos) (tEv X.K ad lm Ek (evE cl (.rev ia))) := by
  refine PEimp (pe_revL ha) fun σ H Q q => ?_
  obtain ⟨g, sl, st, ho, rs, f⟩ := q
  unfold evE at f
  refine ev_bind (Le.refl g) ho rs f fun x st1 g1 H1 w1 l0 l1 o1 rs1 r1 f1 => ?_
  obtain ⟨y, _, h1, f4⟩ := Fin.rd o1 r1 f1
  obtain ⟨z, e, f5⟩ := Fin.ofO f4
  unfold revv at e
  split at e
  · cases e
    obtain ⟨p, vs, e1, s1, n1, a1⟩ := h1.lst o1.ex
    exact ⟨p, vs, e1, SqL.of s1, fun p hp => fin_lst l0 o1 (by rw [List.length_reverse]; exact n1) a1.rev f5 hp⟩
  · cases e
end
end Fo
end -- FoOps

section -- FoBi
set_option Elab.async false
set_option linter.all false
set_option maxRecDepth 100000
set_option maxHeartbeats 1000000
/-! FoBi: built-ins by name, isinstance; what a def promises where no repr is under way, its call. -/
namespace Fo
open PySem L2 Evl PyProof.Rows
section
variable {K : PySem.W.Frag} {ad : Nat → Option Addr} {lm : Lm} {Ek : XK} {X : Cx} {cl : Cl} {pos : Pos} {g g0 g1 : G} {H H1 : Hp} {st st1 : Store}
mutual
theorem dat_nodict : ∀ (x : PV) (d : PyData), x.dat = some d → d.hasDict = false
  | .non, _, q => by simp [PV.dat] at q; subst q; simp only [PyData.hasDict]
  | .bl _, _, q => by simp [PV.dat] at q; subst q; simp only [PyData.hasDict]
  | .int _, _, q => by simp [PV.dat] at q; subst q; simp only [PyData.hasDict]
  | .str _, _, q => by simp [PV.dat] at q; subst q; simp only [PyData.hasDict]
  | .tup xs, _, q => by
    simp only [PV.dat, Option.map_eq_some_iff] at q
    obtain ⟨ds, q1, q2⟩ := q
    subst q2
    simp only [PyData.hasDict]
    exact dats_nodict xs ds q1
  | .lst xs, _, q => by
    simp only [PV.dat, Option.map_eq_some_iff] at q
    obtain ⟨ds, q1, q2⟩ := q
    subst q2
    simp only [PyData.hasDict]
    exact dats_nodict xs ds q1
  | .fz xs, _, q => by simp [PV.dat] at q
  | .dic _, _, q => by simp [PV.dat] at q
  | .fn _, _, q => by simp [PV.dat] at q
  | .lam _ _, _, q => by simp [PV.dat] at q
theorem dats_nodict : ∀ (xs : List PV) (ds : List PyData), PV.dats xs = some ds → PyData.hasDictAll ds = false
  | [], _, q => by simp [PV.dats] at q; subst q; simp only [PyData.hasDictAll]
  | x :: xs, _, q => by
    simp only [PV.dats] at q
    split at q
    · rename_i d ds q1 q2
      cases q
      simp only [PyData.hasDictAll]
      rw [dat_nodict x d q1, dats_nodict xs ds q2]
      rfl
    · cases q
end
theorem repr_inv {v : PV} {t : Str} (h : reprv v = some (.str t)) : (∃ kvs, v = .dic kvs ∧ dicOk kvs 0 = true ∧ t = (dicD kvs).shown) ∨ ∃ d, v.dat = some d ∧ rok d = true ∧ d.shown.length ≤ lim ∧ d.depth ≤ 64 ∧ t = d.shown := by
  unfold reprv at h
  split at h
  · split at h
    · rename_i c
      cases h
      exact .inl ⟨_, rfl, c, rfl⟩
    · cases h
  · unfold reprD at h
    split at h
    · rename_i d hd
      split at h
      · rename_i c
        cases h
        exact .inr ⟨d, hd, c.1, c.2.1, c.2.2, rfl⟩
      · cases h
    · cases h
/-- a dict of ints, read -/
theorem dic_reads {pins : List (Addr × Obj)} {σ : L2.St} {s : Shared} {a : Addr} {kvs : List (Int × Int)} (I : Inv X pins σ H s) (h : H a = some (.dK (dkv kvs))) : ∃ as, Reads s.heap (.ref a) (dicD kvs) as ∧ sysModules ∉ as := by
  obtain ⟨_, ns, vs, kv, o, es, ep, ha, hx, hd, _, pr, _⟩ := dk_of I.hok h
  have all : ∀ {es : List DictEntry} {vs : List (L2.Key × Value)} {kvs : List (Int × Int)}, Pairs (mixKind X.prog X.w) es vs → KV (dkv kvs) vs → ReadsAll s.heap (es.map (·.key)) ((kvs.map fun p => (PyData.int p.1, PyData.int p.2)).map (·.1)) [] ∧ ReadsAll s.heap (es.map (·.val)) ((kvs.map fun p => (PyData.int p.1, PyData.int p.2)).map (·.2)) [] := by
    intro es vs kvs pr
    induction pr generalizing kvs with
    | nil =>
      intro k
      cases kvs with
      | nil => exact ⟨.nil, .nil⟩
      | cons p r => cases k
    | @cons e kv es' kvs' h1 h2 _ ih =>
      intro k
      cases kvs with
      | nil => cases k
      | cons p r =>
        have k : KV ((.inl p.1, V.int p.2) :: dkv r) (kv :: kvs') := k
        cases k with
        | cons k1 k2 =>
          obtain ⟨i1, i2⟩ := ih k2
          obtain ⟨q1, t, q2⟩ := k1
          have h1 : keyIs kv.1 e.key = true := h1
          rw [← q1] at h1
          rcases keyIs_shape h1 with ⟨i, t', e1, e2⟩ | ⟨_, _, e1, _⟩
          · cases e1
            refine ⟨?_, ?_⟩
            · rw [List.map_cons, List.map_cons, List.map_cons, e2]
              exact ReadsAll.cons (as := []) (bs := []) (.int _ _) i1
            · rw [List.map_cons, List.map_cons, List.map_cons, h2, q2]
              exact ReadsAll.cons (as := []) (bs := []) (.int _ _) i2
          · cases e1
  obtain ⟨r1, r2⟩ := all pr kv
  refine ⟨_, Reads.dict ha hx.1 hd r1 r2, fun z => ?_⟩
  have z : sysModules = a := by simpa using z
  rw [z] at ns
  simp at ns
/-- repr of data -/
def rRepr (K : PySem.W.Frag) : List V → Hp → VK → Prop := fun xs H Q => (∃ a kvs, xs = [.ref a] ∧ H a = some (.dK (dkv kvs)) ∧ dicOk kvs 0 = true ∧ Q (.str (dicD kvs).shown) H) ∨ ∃ x d, xs = [x] ∧ Dp K H x d ∧ d.hasDict = false ∧ rok d = true ∧ d.shown.length ≤ sizeLine ∧ d.depth ≤ 64 ∧ Q (.str d.shown) H
theorem call_reprD (nd : X.base.NoDigits) (hg : X.A.guards = some []) (hu : X.A.units + 200 < cLine) : CallR X (.builtin "repr") (rRepr X.K) := by
  intro pins s σ H xs us Q I r h
  rcases h with ⟨a, kvs, rfl, ha, hk, q⟩ | h
  · obtain ⟨u, rfl, ru⟩ := vals1 r
    obtain rfl : u = Value.ref a := ru
    obtain ⟨as, rr, nm⟩ := dic_reads I ha
    unfold dicOk at hk
    rw [Bool.and_eq_true, Bool.and_eq_true, decide_eq_true_eq, decide_eq_true_eq] at hk
    obtain ⟨h1, h2, h3⟩ := hk
    exact repr_of_reads' rr h1 (fun _ => nm) hg (by omega) (fun _ _ e => e) (fun h' u tk hk => ⟨.str _, H, I.kept hk, ⟨_, rfl⟩, q⟩) (by rw [← lim_eq]; omega)
  obtain ⟨x, d, rfl, hd, hn, hs, hl, hp, q⟩ := h
  obtain ⟨u, rfl, ru⟩ := vals1 r
  cases hd with
  | non =>
    cases ru
    refine PySem.P.repr_of_none ⟨.str _, H, I.tok _, ⟨_, rfl⟩, ?_⟩
    simpa only [PyData.shown] using q
  | bl b =>
    cases ru
    refine PySem.P.repr_of_bool ⟨.str _, H, I.tok _, ⟨_, rfl⟩, ?_⟩
    simpa only [PyData.shown] using q
  | int i =>
    obtain ⟨t, rfl⟩ := ru
    have hs' : i.natAbs.log2 < 1920 := of_decide_eq_true hs
    refine PySem.P.repr_of_int hs' ⟨.str _, H, I.tok _, ⟨_, rfl⟩, ?_⟩
    simpa only [PyData.shown] using q
  | str y =>
    obtain ⟨t, rfl⟩ := ru
    have hl' : (reprText y).length ≤ sizeLine := by simpa only [PyData.shown] using hl
    refine PySem.P.repr_of_str ⟨.str _, H, I.tok _, ⟨_, rfl⟩, ?_⟩ hl'
    simpa only [PyData.shown] using q
  | lst a b =>
    have rv : RelV (.ref _) u := ru
    obtain ⟨as, rr⟩ := Dp.reads I _ _ _ (.lst a b) rv
    cases ru
    exact call_reprBig (nd.keeps I.bk) rr hs hg (by omega) (fun h' u tk hk => ⟨.str _, H, I.kept hk, ⟨_, rfl⟩, q⟩) hl
  | tup a b =>
    have rv : RelV (.ref _) u := ru
    obtain ⟨as, rr⟩ := Dp.reads I _ _ _ (.tup a b) rv
    cases ru
    exact call_reprBig (nd.keeps I.bk) rr hs hg (by omega) (fun h' u tk hk => ⟨.str _, H, I.kept hk, ⟨_, rfl⟩, q⟩) hl
/-! ### built-ins -/
def biN : Bi → String
  | .len => "len" | .abs => "abs" | .int => "int" | .max2 => "max" | .min2 => "min" | .tuple => "tuple" | .list => "list" | .all => "all" | .any => "any" | .repr => "repr"
/-- whether it is a class -/
def biT : Bi → Bool
  | .int => true | .tuple => true | .list => true
  | _ => false
def biV (b : Bi) : Value := if biT b then .type (biN b) else .builtin (biN b)
def biR (K : PySem.W.Frag) : Bi → List V → Hp → VK → Prop
  | .len => fun xs H Q => ∃ x n, xs = [x] ∧ LenV K x H n ∧ Q (.int n) H
  | .abs => fun xs H Q => ∃ i, xs = [.int i] ∧ Q (.int (if i < 0 then -i else i)) H
  | .int => fun xs H Q => (∃ i, xs = [.int i] ∧ Q (.int i) H) ∨ ∃ k, xs = [.bl k] ∧ Q (.int (if k then 1 else 0)) H
  | .max2 => fun xs H Q => ∃ i j, xs = [.int i, .int j] ∧ Q (.int (if j > i then j else i)) H
  | .min2 => fun xs H Q => ∃ i j, xs = [.int i, .int j] ∧ Q (.int (if j < i then j else i)) H
  | .tuple => fun xs H Q => ∃ p ys, xs = [.ref p] ∧ ((SqL K H p ys ∧ ∀ l, H l = none → Q (.ref l) (upd H l (.tup ys))) ∨ (SqT K H p ys ∧ Q (.ref p) H))
  | .list => fun xs H Q => ∃ p ys, xs = [.ref p] ∧ (SqL K H p ys ∨ SqT K H p ys) ∧ ∀ l, H l = none → Q (.ref l) (upd H l (.lst ys))
  | .all => rAll K
  | .any => rAny K
  | .repr => rRepr K
theorem bi_call (nd : X.base.NoDigits) (hc : X.calm = true) (hg : X.A.guards = some []) (hu : X.A.units + 200 < cLine) (b : Bi) : CallR X (biV b) (biR X.K b) := by
  cases b with
  | len => exact call_len
  | abs => exact call_abs
  | int => exact call_int1
  | max2 => exact call_max2 hc
  | min2 => exact call_min2 hc
  | tuple => exact call_tuple_of
  | list => exact call_list_of
  | all => exact cr_all hc
  | any => exact cr_any hc
  | repr => exact call_reprD nd hg hu
inductive RepHs (K : PySem.W.Frag) (ad : Nat → Option Addr) (F H : Hp) : List PV → List V → Prop
  | nil : RepHs K ad F H [] []
  | cons {x : PV} {v : V} {xs : List PV} {vs : List V} : RepH K ad F H x v → RepHs K ad F H xs vs → RepHs K ad F H (x :: xs) (v :: vs)
theorem Fin.rdAll {β : Type} {P : β → Store → Prop} {W : Exc → Store → Prop} : ∀ {xs : List SV} {ws : List V} {k : List PV → M β}, OK K ad g H st → RepSs K ad g xs ws → Fin (Fo.bnd (Fo.rdAll xs) k st) P W → ∃ vs, RepHs K ad g.F H vs ws ∧ Fin (k vs st) P W
  | [], _, k, _, r, h => by cases r; exact ⟨[], .nil, h⟩
  | x :: xs, _, k, o, r, h => by
    cases r with
    | cons a b =>
      unfold Fo.rdAll at h
      rw [bnd_assoc] at h
      obtain ⟨v, _, r1, h1⟩ := Fin.rd o a h
      rw [bnd_assoc] at h1
      obtain ⟨vs, r2, h2⟩ := Fin.rdAll o b h1
      exact ⟨v :: vs, .cons r1 r2, h2⟩
theorem RepHs.one {x : PV} {ws : List V} {F : Hp} (h : RepHs K ad F H [x] ws) : ∃ w, ws = [w] ∧ RepH K ad F H x w := by
  cases h with
  | cons a b => cases b; exact ⟨_, rfl, a⟩
theorem RepHs.two {x y : PV} {ws : List V} {F : Hp} (h : RepHs K ad F H [x, y] ws) : ∃ w w', ws = [w, w'] ∧ RepH K ad F H x w ∧ RepH K ad F H y w' := by
  cases h with
  | cons a b =>
    cases b with
    | cons c d => cases d; exact ⟨_, _, rfl, a, c⟩
theorem bls_ok {F : Hp} : ∀ {xs : List PV} {bs : List Bool} {vs : List V}, bls xs = some bs → RepA K ad F xs vs → vs = bs.map V.bl
  | [], _, _, e, r => by cases r; simp [bls] at e; subst e; rfl
  | x :: xs, _, _, e, r => by
    cases r with
    | cons a b =>
      cases x with
      | bl c =>
        simp only [bls, Option.map_eq_some_iff] at e
        obtain ⟨bs, e1, e2⟩ := e
        subst e2
        cases a
        rw [bls_ok e1 b]
        rfl
      | _ => simp [bls] at e
theorem bi_ok (b : Bi) {Q : VK} {vs : List PV} {ws : List V} {z : PV} (l0 : Le g0 g) (ho : OK K ad g H st) (r : RepHs K ad g.F H vs ws) (e : biv b vs = some z) (h : Fin (ok (SV.d z) st) (Px K ad g0 Q) (Wx K ad g0 Ek)) : biR K b ws H Q := by
  have q : ∀ w, Rep K ad g.F z w → Q w H := fun w r => h g H w l0 ho r
  unfold biv at e
  split at e
  · split at e
    · rename_i c
      cases e
      obtain ⟨w, rfl, r1⟩ := r.one
      rw [r1.str]
      exact ⟨_, _, rfl, ⟨by rw [← lim_eq]; exact c, rfl⟩, q _ (.int _)⟩
    · cases e
  · cases e
    obtain ⟨w, rfl, r1⟩ := r.one
    obtain ⟨p, v, e1, s1, n1, a1⟩ := r1.tup ho.ex
    subst e1
    exact ⟨_, _, rfl, .inr ⟨v, s1, a1.len⟩, q _ (.int _)⟩
  · cases e
    obtain ⟨w, rfl, r1⟩ := r.one
    obtain ⟨p, v, e1, s1, n1, a1⟩ := r1.lst ho.ex
    subst e1
    exact ⟨_, _, rfl, .inl ⟨v, SqL.of s1, a1.len⟩, q _ (.int _)⟩
  · cases e
    obtain ⟨w, rfl, r1⟩ := r.one
    obtain ⟨p, v, e1, s1, n1, a1⟩ := r1.fz ho.ex
    subst e1
    exact ⟨_, _, rfl, .inl ⟨v, s1, a1.len⟩, q _ (.int _)⟩
  · cases e
    obtain ⟨w, rfl, r1⟩ := r.one
    rw [r1.int]
    exact ⟨_, rfl, q _ (.int _)⟩
  · cases e
    obtain ⟨w, rfl, r1⟩ := r.one
    rw [r1.int]
    exact .inl ⟨_, rfl, q _ (.int _)⟩
  · cases e
    obtain ⟨w, rfl, r1⟩ := r.one
    rw [r1.bl]
    exact .inr ⟨_, rfl, q _ (.int _)⟩
  · cases e
    obtain ⟨w, w', rfl, r1, r2⟩ := r.two
    rw [r1.int, r2.int]
    exact ⟨_, _, rfl, q _ (.int _)⟩
  · cases e
    obtain ⟨w, w', rfl, r1, r2⟩ := r.two
    rw [r1.int, r2.int]
    exact ⟨_, _, rfl, q _ (.int _)⟩
  · cases e
    obtain ⟨w, rfl, r1⟩ := r.one
    obtain ⟨p, v, e1, s1, n1, a1⟩ := r1.tup ho.ex
    subst e1
    refine ⟨_, v, rfl, .inr ⟨s1, q _ ?_⟩⟩
    cases r1 with
    | of r => exact r
  · cases e
    obtain ⟨w, rfl, r1⟩ := r.one
    obtain ⟨p, v, e1, s1, n1, a1⟩ := r1.lst ho.ex
    subst e1
    exact ⟨_, v, rfl, .inl ⟨SqL.of s1, fun l hl => fin_tup l0 ho n1 a1 h hl⟩⟩
  · cases e
    obtain ⟨w, rfl, r1⟩ := r.one
    obtain ⟨p, v, e1, s1, n1, a1⟩ := r1.tup ho.ex
    subst e1
    exact ⟨_, v, rfl, .inr s1, fun l hl => fin_lst l0 ho n1 a1 h hl⟩
  · cases e
    obtain ⟨w, rfl, r1⟩ := r.one
    obtain ⟨p, v, e1, s1, n1, a1⟩ := r1.lst ho.ex
    subst e1
    exact ⟨_, v, rfl, .inl (SqL.of s1), fun l hl => fin_lst l0 ho n1 a1 h hl⟩
  · obtain ⟨w, rfl, r1⟩ := r.one
    obtain ⟨p, v, e1, s1, n1, a1⟩ := r1.lst ho.ex
    subst e1
    obtain ⟨bs, e2, e3⟩ := Option.map_eq_some_iff.mp e
    subst e3
    exact ⟨_, bs, rfl, SqL.of (by rw [← bls_ok e2 a1]; exact s1), q _ (.bl _)⟩
  · obtain ⟨w, rfl, r1⟩ := r.one
    obtain ⟨p, v, e1, s1, n1, a1⟩ := r1.lst ho.ex
    subst e1
    obtain ⟨bs, e2, e3⟩ := Option.map_eq_some_iff.mp e
    subst e3
    exact ⟨_, bs, rfl, SqL.of (by rw [← bls_ok e2 a1]; exact s1), q _ (.bl _)⟩
  · obtain ⟨w, rfl, r1⟩ := r.one
    unfold reprv at e
    split at e
    · split at e
      · rename_i kvs c
        cases e
        cases r1 with
        | of r1 =>
          cases r1 with
          | dic a => exact .inl ⟨_, kvs, rfl, ho.ex _ _ a, c, q _ (.str _)⟩
      · cases e
    unfold reprD at e
    split at e
    · rename_i d hd
      split at e
      · rename_i c
        cases e
        refine .inr ?_
        exact ⟨_, d, rfl, r1.dp ho.ex hd, dat_nodict _ _ hd, c.1, by rw [← lim_eq]; exact c.2.1, c.2.2, q _ (.str _)⟩
      · cases e
    · cases e
  · cases e
variable {e a : Expr} {es : List Expr} {ia : E} {ies : Es} {p : Pos}
theorem bi_boot (b : Bi) : bootBuiltins (Str.ofString (biN b)) = some (biV b) := by cases b <;> decide +kernel
theorem bi_names (b : Bi) : Str.ofString (biN b) ≠ "__name__" ∧ (Str.ofString (biN b) == ("__debug__" : Str)) = false := by cases b <;> decide +kernel
theorem bi_read (b : Bi) {σ : L2.St} {H : Hp} {Q : VK} (h : tEv K ad lm Ek (evE cl (.bi b ies)) σ H Q) : tCB (biR K b) (tAv K ad lm Ek (evs cl ies)) σ H Q := by
  obtain ⟨g, sl, st, ho, rs, f⟩ := h
  unfold evE at f
  refine av_bind (Le.refl g) ho rs f fun xs st1 g1 H1 ws l0 l1 o1 rs1 r1 f1 => ?_
  unfold biOf at f1
  rw [bnd_assoc] at f1
  obtain ⟨vs, r2, f2⟩ := Fin.rdAll o1 r1 f1
  obtain ⟨z, e, f3⟩ := Fin.ofO f2
  exact bi_ok b l0 o1 r2 e f3
theorem s_bi (nd : X.base.NoDigits) (hc : X.calm = true) (hgd : X.A.guards = some []) (hu : X.A.units + 200 < cLine) (b : Bi) (hg : Gl X (Str.ofString (biN b))) (hm : X.mg (Str.ofString (biN b)) = none) (ha : PA X (e :: es) (tAv X.K ad lm Ek (evs cl ies)))
    (he : starEach (e :: es) X.env = (false, eval e X.env) :: starEach es X.env) (hpl : (backTo pos (starEach es X.env)).any (·.1) = false) : PE X (.Call (.Name (Str.ofString (biN b)) p) (e :: es) [] pos) (tEv X.K ad lm Ek (evE cl (.bi b ies))) := by
  obtain ⟨n1, n2⟩ := bi_names b
  have hv := bi_boot b
  have hcall := bi_call nd hc hgd hu b
  unfold biV at hv hcall
  cases hb : biT b with
  | true =>
    rw [hb, if_pos rfl] at hv hcall
    exact PEimp (pe_callTy hcall hg hm hv ha n1 n2 he hpl) fun σ H Q q => bi_read b q
  | false =>
    rw [hb, if_neg Bool.false_ne_true] at hv hcall
    exact PEimp (pe_callB hcall hg hm hv ha n1 n2 he hpl) fun σ H Q q => bi_read b q
/-! ### isinstance -/
def tyN : Ty → String
  | .int => "int" | .bool => "bool" | .str => "str" | .tup => "tuple" | .list => "list"
def tyOf : PV → Option String
  | .dic _ => some "dict" | .non => some "NoneType" | .bl _ => some "bool" | .int _ => some "int" | .str _ => some "str" | .tup _ => some "tuple" | .lst _ => some "list"
  | _ => none
theorem tyOf_ok {x : PV} {w : V} {T : String} (ho : OK K ad g H st) (r : Rep K ad g.F x w) (h : tyOf x = some T) : TyX K H w (.type T) := by
  cases r with
  | non => cases h; exact .base .non
  | bl b => cases h; exact .base (.bl b)
  | int i => cases h; exact .base (.int i)
  | str x => cases h; exact .base (.str x)
  | tup a b c =>
    cases h
    rcases a with a | ⟨o, its, n, a1, a2, a3, a4, a5⟩
    · rcases a with a | ⟨o, a⟩
      · exact .base (.tup (ho.ex _ _ a))
      · exact .fTuple (ho.ex _ _ a)
    · exact .kTuple a1 a2
  | lst a b c => cases h; exact .base (.lst (ho.ex _ _ a))
  | fz a b c => cases h
  | fn a => cases h
  | dic a => cases h; exact .base (.dK (ho.ex _ _ a))
theorem ty_kit (t : Ty) (x : PV) (b : Bool) (h : tyOk t x = some b) : ∃ T, tyOf x = some T ∧ kitB T (tyN t) = some b := by
  cases x with
  | non => cases t <;> (cases h; exact ⟨_, rfl, by decide +kernel⟩)
  | bl _ => cases t <;> (cases h; exact ⟨_, rfl, by decide +kernel⟩)
  | int _ => cases t <;> (cases h; exact ⟨_, rfl, by decide +kernel⟩)
  | str _ => cases t <;> (cases h; exact ⟨_, rfl, by decide +kernel⟩)
  | tup _ => cases t <;> (cases h; exact ⟨_, rfl, by decide +kernel⟩)
  | lst _ => cases t <;> (cases h; exact ⟨_, rfl, by decide +kernel⟩)
  | dic _ => cases t <;> (cases h; exact ⟨_, rfl, by decide +kernel⟩)
  | _ => cases t <;> cases h
theorem ty_boot (t : Ty) : bootBuiltins (Str.ofString (tyN t)) = some (.type (tyN t)) := by cases t <;> decide +kernel
theorem ty_names (t : Ty) : Str.ofString (tyN t) ≠ "__name__" ∧ (Str.ofString (tyN t) == ("__debug__" : Str)) = false := by cases t <;> decide +kernel
theorem boot_isi : bootBuiltins ("isinstance" : Str) = some (.builtin "isinstance") := by decide +kernel
theorem s_isi (t : Ty) (hg : Gl X "isinstance") (hm : X.mg "isinstance" = none) (hg2 : Gl X (Str.ofString (tyN t))) (hm2 : X.mg (Str.ofString (tyN t)) = none) {p p2 : Pos} (ha : PE X a (tEv X.K ad lm Ek (evE cl ia)))
    (hs : starEach (a :: [.Name (Str.ofString (tyN t)) p2]) X.env = (false, eval a X.env) :: starEach [.Name (Str.ofString (tyN t)) p2] X.env) :
    PE X (.Call (.Name "isinstance" p) [a, .Name (Str.ofString (tyN t)) p2] [] pos) (tEv X.K ad lm Ek (evE cl (.isi ia t))) := by
  obtain ⟨n1, n2⟩ := ty_names t
  have pt : PE X (.Name (Str.ofString (tyN t)) p2) (tC (.ty (tyN t))) := pe_bltn hg2 hm2 (ty_boot t) rfl n1 n2
  refine PEimp (pe_callB call_isi hg hm boot_isi (pa_cons ha (pa_cons pt pa_nil rfl) hs) (by decide +kernel) (by decide +kernel) hs rfl) fun σ H Q q => ?_
  obtain ⟨g, sl, st, ho, rs, f⟩ := q
  unfold evE at f
  refine ev_bind (Le.refl g) ho rs f fun x st1 g1 H1 w1 l0 l1 o1 rs1 r1 f1 => ?_
  obtain ⟨v, e, f2⟩ := Fin.asD f1
  subst e
  obtain ⟨b, e, f3⟩ := Fin.ofO f2
  obtain ⟨T, h1, h2⟩ := ty_kit t v b e
  exact ⟨w1, .ty (tyN t), .type T, _, b, rfl, .ty _, tyOf_ok o1 r1 h1, kit_ty h2, f3 g1 H1 _ l0 o1 (.bl _)⟩
end
/-! ### what a def promises; its call -/
structure FnG (P : Program) (w : World) (K : PySem.W.Frag) (mg : Str → Option Value) (base : Heap) (CX : CXT) (k : Nat) (f : Addr) (fd : FuncData) (ps : List Str) (sp : Sp) : Prop where
  len : ∀ vs H Q E, sp vs H Q E → vs.length = ps.length
  go : ∀ (A : Around) (outer : List Env) (s : Shared) (H : Hp) (args : Args) (us : List Value) (vs : List V) (Q : VK) (E : XK), A.guards = some [] → Room k A → Env0 P w K mg base A outer s H → BindsTo s fd args (ps.zip us) → Vals vs us →
    sp vs H Q E → codeAny (model P w) A (.call (.ref f) args) (CR CX outer P w H s Q E) s
section
variable {X : Cx} {CX : CXT} {k : Nat} {f : Addr} {fd : FuncData} {ps : List Str} {sp : Sp} {dvs : List V} {ds : List Value} {E : XK} {x : Str} {p pos : Pos} {e : Expr} {es : List Expr} {t : TA}
theorem run_fnG {pins : List (Addr × Obj)} {σ : L2.St} {H : Hp} {s : Shared} {Q : VK} {us : List Value} {vs : List V} (F : FnG X.prog X.w X.K X.mg X.base CX k f fd ps sp) (hgd : X.A.guards = some []) (hr : Room k X.A) (hb : Binds X.K fd ps ds) (hd : Vals dvs ds)
    (hx : Passes CX X E) (I : Inv X pins σ H s) (r : Vals vs us) (h : sp (vs ++ dvs) H Q E) : wpAny (model X.prog X.w) X.A (call (.ref f) us) (EP X pins σ Q) X.xe s := by
  have rr : Vals (vs ++ dvs) (us ++ ds) := r.append hd
  have hn : (us ++ ds).length = ps.length := rr.length.symm.trans (F.len _ _ _ _ h)
  have run := F.go X.A X.stack s H ⟨us, []⟩ (us ++ ds) (vs ++ dvs) Q E hgd hr I.env0 (hb s us I.kIn hn) rr h
  refine wpAny_call (codeAny_mono run fun res s' hq => ?_)
  match res, hq with
  | .error e, hq => exact hx pins σ H s e s' I hq
  | .ok (.ret u), hq => exact I.after hq
/-- f(e, ..) -/
theorem pe_callG (F : FnG X.prog X.w X.K X.mg X.base CX k f fd ps sp) (hgd : X.A.guards = some []) (hr : Room k X.A) (hg : Gl X x) (hm : X.mg x = some (.ref f)) (hk : PySem.W.keepIn X.K (.ref f) = true) (hb : Binds X.K fd ps ds) (hd : Vals dvs ds) (hx : Passes CX X E)
    (ha : PA X (e :: es) t) (hdb : (x == ("__debug__" : Str)) = false) (he : starEach (e :: es) X.env = (false, eval e X.env) :: starEach es X.env) (hpl : (backTo pos (starEach es X.env)).any (·.1) = false) :
    PE X (.Call (.Name x p) (e :: es) [] pos) (tCall sp dvs E t) := ⟨fun pins s σ H Q I h =>
  wpAny_Call_Name_kw (ld_glob I hg hm (PySem.W.callWith_K (h₀ := X.base) I.ok.mod.kin hk (thn (ha.run pos pins s σ H _ I h) fun us s1 z =>
    let ⟨vs, H1, I1, r, q⟩ := z
    ⟨I1.kIn, run_fnG F hgd hr hb hd hx I1 r q⟩) he hpl) hdb)⟩
theorem pe_callG0 (F : FnG X.prog X.w X.K X.mg X.base CX k f fd ps sp) (hgd : X.A.guards = some []) (hr : Room k X.A) (hg : Gl X x) (hm : X.mg x = some (.ref f)) (hk : PySem.W.keepIn X.K (.ref f) = true) (hb : Binds X.K fd ps ds) (hd : Vals dvs ds) (hx : Passes CX X E)
    (hdb : (x == ("__debug__" : Str)) = false) : PE X (.Call (.Name x p) [] [] pos) (tCall sp dvs E tNil) := ⟨fun pins s σ H Q I h =>
  wpAny_Call_Name_kw (ld_glob I hg hm (PySem.W.callWith_K0 I.kIn hk (run_fnG (us := []) F hgd hr hb hd hx I .nil h)) hdb)⟩
end
end Fo
end -- FoBi

section -- FoWalk
set_option Elab.async false
set_option linter.all false
set_option maxRecDepth 100000
set_option maxHeartbeats 1000000
/-! FoWalk: what loops walk, targets, list comprehensions. -/
namespace Fo
open PySem L2 Evl PyProof.Rows
/-! ### targets -/
def gNames : List Nat → TGs
  | [] => gNil
  | i :: is => gCons (gName i) (gNames is)
def gRd (K : PySem.W.Frag) : Tg → TG
  | .n i => gName i
  | .t is => fun v σ H Q => gTup K is.length (gNames is) v σ H Q ∨ gUnl K is.length (gNames is) v σ H Q
section
variable {K : PySem.W.Frag} {ad : Nat → Option Addr} {lm : Lm} {Ek : XK} {X : Cx} {cl : Cl} {pos : Pos} {g g0 g1 : G} {H H1 : Hp} {st st1 : Store}
/-- the names of a target, by their slots -/
inductive Nms (X : Cx) : List Nat → List Expr → Prop
  | nil : Nms X [] []
  | cons {i : Nat} {x : Str} {p : Pos} {is : List Nat} {es : List Expr} : X.N[i]? = some x → Loc X.env.scope x → (X.fn x = true ∨ X.env.scope.names.lookup x = some .local) → Nms X is es → Nms X (i :: is) (.Name x p :: es)
theorem Nms.each {is : List Nat} {es : List Expr} (h : Nms X is es) : assignEach es X.env = es.map fun e => (false, assign e X.env) := by
  induction h with
  | nil => rfl
  | cons a b c d ih =>
    show (false, _) :: assignEach _ X.env = _
    rw [ih]
    rfl
theorem Nms.len {is : List Nat} {es : List Expr} (h : Nms X is es) : es.length = is.length := by
  induction h with
  | nil => rfl
  | cons a b c d ih => exact congrArg (· + 1) ih
theorem Nms.pgs (hN : X.N.Nodup) {is : List Nat} {es : List Expr} (h : Nms X is es) : PGs X es (gNames is) := by
  induction h with
  | nil => exact pgs_nil
  | cons a b c d ih => exact pgs_cons (pg_name hN a b c) ih rfl
theorem Nms.pg (hc : X.calm = true) (hN : X.N.Nodup) {is : List Nat} {es : List Expr} {k : Nat} (h : Nms X is es) : PG X (.Tuple es k pos) (gRd X.K (.t is)) := by
  have hn : (assignEach es X.env).length = is.length := by rw [h.each, List.length_map, h.len]
  have hst : (assignEach es X.env).findIdx? (·.1) = none := by
    rw [h.each, List.findIdx?_eq_none_iff]
    intro x hx
    obtain ⟨e, _, rfl⟩ := List.mem_map.mp hx
    rfl
  have p1 := pg_tup (k := k) (pos := pos) hc (h.pgs hN) hn hst
  have p2 := pg_unl (k := k) (pos := pos) hc (h.pgs hN) hn hst
  refine ⟨fun pins s σ H v u Q I r q => ?_⟩
  rcases q with q | q
  · exact p1.run pins s σ H v u Q I r q
  · exact p2.run pins s σ H v u Q I r q
theorem names_ok : ∀ {is : List Nat} {xs : List PV} {ws : List V} {sl : Slots} {σ : L2.St} {Q : L2.St → Hp → Prop}, xs.length = is.length → RepA K ad g.F xs ws → RepSl K ad lm g sl σ →
    (∀ σ', RepSl K ad lm g ((is.zip xs).foldl (fun s p => s.set p.1 (some (.d p.2))) sl) σ' → Q σ' H) → gNames is ws σ H Q
  | [], [], _, _, _, _, _, r, rs, q => by cases r; exact ⟨rfl, q _ rs⟩
  | i :: is, x :: xs, _, sl, σ, Q, hl, r, rs, q => by
    cases r with
    | cons a b => exact ⟨_, _, rfl, names_ok (Nat.succ.inj hl) b (rs.set (x := .d x) i a) q⟩
theorem bind_ok {tg : Tg} {x : PV} {w : V} {sl sl' : Slots} {σ : L2.St} {Q : L2.St → Hp → Prop} (o : OK K ad g H st) (e : bindT tg x sl = some sl') (r : Rep K ad g.F x w) (rs : RepSl K ad lm g sl σ)
    (q : ∀ σ', RepSl K ad lm g sl' σ' → Q σ' H) : gRd K tg w σ H Q := by
  unfold bindT at e
  split at e
  · cases e
    exact q _ (rs.set (x := .d _) _ r)
  · split at e
    · rename_i c
      cases e
      cases r with
      | tup a b d => exact .inl ⟨_, _, rfl, ex_t o.ex a, by rw [← d.len]; exact c, names_ok c d rs q⟩
    · cases e
  · split at e
    · rename_i c
      cases e
      cases r with
      | lst a b d => exact .inr ⟨_, _, rfl, SqL.of (o.ex _ _ a), by rw [← d.len]; exact c, names_ok c d rs q⟩
    · cases e
  · cases e
/-! ### what is walked -/
variable (K ad lm)
def ItemR (g : G) (H : Hp) (x : PV) (w : V) (H' : Hp) : Prop := (H' = H ∧ Rep K ad g.F x w) ∨ ∃ T ws ys, w = .ref T ∧ H T = none ∧ H' = upd H T (.tup ws) ∧ x = .tup ys ∧ RepA K ad g.F ys ws ∧ ws.length ≤ lim
def WkR (g : G) (J : It) (xs : List PV) : Prop := L2.Walk J xs.length (fun H => Ex g.F H) fun i H w H' => ∃ x, xs[i]? = some x ∧ ItemR K ad g H x w H'
def tWk (Ek : XK) (m : Slots → M (List PV)) : TI := fun σ H R => ∃ g sl st, OK K ad g H st ∧ RepSl K ad lm g sl σ ∧ Fin (m sl st) (fun xs st' => ∀ g' H' J, Le g g' → OK K ad g' H' st' → WkR K ad g' J xs → R J H') (Wx K ad g Ek)
variable {K ad lm}
theorem ItemR.get {x : PV} {w : V} {H' : Hp} (h : ItemR K ad g H x w H') (l : Ex g.F g1.F) (o : OK K ad g1 H st) : ∃ g2, Le g1 g2 ∧ OK K ad g2 H' st ∧ Rep K ad g2.F x w := by
  rcases h with ⟨e, r⟩ | ⟨T, ws, ys, e1, e2, e3, e4, r, hl⟩
  · subst e
    exact ⟨g1, Le.refl _, o, Rep.mono l _ _ r⟩
  · subst e1 e3 e4
    obtain ⟨o2, l2⟩ := o.lay e2 (.tup ws)
    exact ⟨_, l2, o2, .tup (SqT.of upd_same) hl (RepA.mono (l.trans l2.ex) _ _ r)⟩
theorem PIimp {tg iter : Expr} {t t' : TI} (h : PI X tg iter t) (i : ∀ σ H R, t' σ H R → t σ H R) : PI X tg iter t' :=
  ⟨fun pins s σ H R I q => h.run pins s σ H R I (i σ H R q)⟩
variable {tg a b : Expr} {ia ib : E} {p : Pos}
theorem wk_range {i j : Int} {xs : List PV} (h : rngOf i j = some xs) : (-(2 ^ 62) ≤ i ∧ i < 2 ^ 62 ∧ -(2 ^ 62) ≤ j ∧ j < 2 ^ 62) ∧ WkR K ad g (Itr i (j - i).toNat) xs := by
  unfold rngOf at h
  split at h
  · rename_i c
    cases h
    refine ⟨c, ?_⟩
    unfold WkR
    rw [List.length_map, List.length_range]
    refine walk_range.mono (fun _ _ => trivial) fun k H x H' hk _ y => ?_
    obtain ⟨y1, y2⟩ := y
    refine ⟨.int (i + (k : Nat)), ?_, .inl ⟨y1, by rw [y2]; exact .int _⟩⟩
    rw [List.getElem?_map, List.getElem?_range hk]
    rfl
  · cases h
theorem w_rng1 (hg : Gl X "range") (hm : X.mg "range" = none) (ha : PE X a (tEv X.K ad lm Ek (evE cl ia))) (hs : starEach [a] X.env = [(false, eval a X.env)]) :
    PI X tg (.Call (.Name "range" p) [a] [] pos) (tWk X.K ad lm Ek (evW cl (.rng1 ia))) := by
  refine PIimp (pi_range1 hg hm (pa_cons ha pa_nil hs) hs) fun σ H R q => ?_
  obtain ⟨g, sl, st, ho, rs, f⟩ := q
  unfold evW at f
  refine ev_bind (Le.refl g) ho rs f fun x st1 g1 H1 w1 l0 l1 o1 rs1 r1 f1 => ?_
  obtain ⟨j, e, f2⟩ := Fin.asI f1
  subst e
  cases r1
  cases hx : rngOf 0 j with
  | none => rw [hx] at f2; exact f2.elim
  | some xs =>
    rw [hx] at f2
    obtain ⟨c, w⟩ := wk_range (K := X.K) (ad := ad) (g := g1) hx
    rw [Int.sub_zero] at w
    exact ⟨j, rfl, c.2.2.1, c.2.2.2, f2 g1 H1 _ l0 o1 w⟩
theorem w_rng2 (hg : Gl X "range") (hm : X.mg "range" = none) (ha : PE X a (tEv X.K ad lm Ek (evE cl ia))) (hb : PE X b (tEv X.K ad lm Ek (evE cl ib))) (hs : starEach [a, b] X.env = [(false, eval a X.env), (false, eval b X.env)]) (hs2 : starEach [b] X.env = [(false, eval b X.env)]) :
    PI X tg (.Call (.Name "range" p) [a, b] [] pos) (tWk X.K ad lm Ek (evW cl (.rng2 ia ib))) := by
  refine PIimp (pi_range2 hg hm (pa_cons ha (pa_cons hb pa_nil hs2) (by rw [hs, hs2])) hs hs2) fun σ H R q => ?_
  obtain ⟨g, sl, st, ho, rs, f⟩ := q
  unfold evW at f
  refine ev_bind (Le.refl g) ho rs f fun x st1 g1 H1 w1 l0 l1 o1 rs1 r1 f1 => ?_
  refine ev_bind l0 o1 rs1 f1 fun y st2 g2 H2 w2 l0' l2 o2 rs2 r2 f2 => ?_
  obtain ⟨i, e, f3⟩ := Fin.asI f2
  subst e
  obtain ⟨j, e, f4⟩ := Fin.asI f3
  subst e
  cases r1
  cases r2
  cases hx : rngOf i j with
  | none => rw [hx] at f4; exact f4.elim
  | some xs =>
    rw [hx] at f4
    obtain ⟨c, w⟩ := wk_range (K := X.K) (ad := ad) (g := g2) hx
    exact ⟨i, j, rfl, c, f4 g2 H2 _ l0' o2 w⟩
/-- a list or a tuple, as it comes -/
def iAny (K : PySem.W.Frag) (tl : TE) : TI := fun σ H R => tl σ H fun x H1 => (∃ a xs, x = .ref a ∧ SqL K H1 a xs ∧ R (Itl K a) H1) ∨ ∃ a xs, x = .ref a ∧ SqT K H1 a xs ∧ R (Itt K a) H1
theorem new_it {pins : List (Addr × Obj)} {σ : L2.St} {H : Hp} {s : Shared} (I : Inv X pins σ H s) : ∀ b ∈ [s.heap.objs.size], FpOk X pins H b := fun b hb => by
  rw [List.mem_singleton.mp hb]
  exact I.fpOk (Nat.le_refl _) (I.hok.fresh (Nat.le_refl _))
theorem pi_any (ha : PE X a ta) : PI X tg a (iAny X.K ta) := by
  constructor
  intro pins s σ H R I h
  refine wpAny_mono (ha.run pins s σ H _ I h) (fun v s1 hv => ?_) fun _ _ z => z
  obtain ⟨x, H1, I1, r1, q⟩ := hv
  have push : ∀ o : Obj, Inv X pins σ H1 { s1 with heap := s1.heap.push o } := fun o => I1.kept (t' := s1.toks) fun b u e => Heap.get?_push_of_some _ e
  rcases q with ⟨a, xs, e, hq, q⟩ | ⟨a, xs, e, hq, q⟩
  · subst e
    cases r1
    obtain ⟨its, _, pl, _⟩ := I1.list hq
    exact wpAny_pyIter_list pl.isList ⟨_, [s1.heap.objs.size], _, Itl X.K a, H1, rfl, push _, turn_list a _, ⟨_, Heap.get?_push_size _ rfl, rfl, rfl⟩, new_it I1, q⟩
  · subst e
    cases r1
    obtain ⟨its, _, pt, _⟩ := I1.tuple hq
    exact wpAny_pyIter_tuple (show s1.heap.IsTuple a its.toArray from pt) ⟨_, [s1.heap.objs.size], _, Itt X.K a, H1, rfl, push _, turn_tuple a _, ⟨_, Heap.get?_push_size _ rfl, rfl, rfl⟩, new_it I1, q⟩
theorem wk_seq {J : It} {xs : List PV} {vs : List V} {Gd : Hp → Prop} (w : L2.Walk J vs.length Gd (YAt vs)) (hg : ∀ H, Ex g.F H → Gd H) (r : RepA K ad g.F xs vs) : WkR K ad g J xs := by
  unfold WkR
  rw [r.len]
  refine w.mono hg fun i H x H' hi _ y => ?_
  obtain ⟨y1, y2⟩ := y
  obtain ⟨z, h1, h2⟩ := r.getV y2
  exact ⟨z, h1, .inl ⟨y1, h2⟩⟩
theorem w_over (ha : PE X a (tEv X.K ad lm Ek (evE cl ia))) : PI X tg a (tWk X.K ad lm Ek (evW cl (.over ia))) := by
  refine PIimp (pi_any ha) fun σ H R q => ?_
  obtain ⟨g, sl, st, ho, rs, f⟩ := q
  unfold evW at f
  refine ev_bind (Le.refl g) ho rs f fun x st1 g1 H1 w1 l0 l1 o1 rs1 r1 f1 => ?_
  obtain ⟨v, e, f2⟩ := Fin.asD f1
  subst e
  cases hx : items v with
  | none => rw [hx] at f2; exact f2.elim
  | some xs =>
    rw [hx] at f2
    have r : Rep X.K ad g1.F v w1 := r1
    cases r with
    | tup a b c =>
      cases hx
      exact .inr ⟨_, _, rfl, ex_t o1.ex a, f2 g1 H1 _ l0 o1 (wk_seq (Gd := fun H => SqT X.K H _ _) walk_tup (fun H e => ex_t e a) c)⟩
    | lst a b c =>
      cases hx
      exact .inl ⟨_, _, rfl, SqL.of (o1.ex _ _ a), f2 g1 H1 _ l0 o1 (wk_seq (Gd := fun H => SqL X.K H _ _) walk_list (fun H e => SqL.of (e _ _ a)) c)⟩
    | fz a b c =>
      cases hx
      exact .inl ⟨_, _, rfl, ex_l o1.ex a, f2 g1 H1 _ l0 o1 (wk_seq (Gd := fun H => SqL X.K H _ _) walk_list (fun H e => ex_l e a) c)⟩
    | _ => cases hx
theorem w_chars (ha : PE X a (tEv X.K ad lm Ek (evE cl ia))) : PI X tg a (tWk X.K ad lm Ek (evW cl (.chars ia))) := by
  refine PIimp (pi_str ha) fun σ H R q => ?_
  obtain ⟨g, sl, st, ho, rs, f⟩ := q
  unfold evW at f
  refine ev_bind (Le.refl g) ho rs f fun x st1 g1 H1 w1 l0 l1 o1 rs1 r1 f1 => ?_
  obtain ⟨v, e, f2⟩ := Fin.asD f1
  subst e
  cases hx : chars v with
  | none => rw [hx] at f2; exact f2.elim
  | some xs =>
    rw [hx] at f2
    have r : Rep X.K ad g1.F v w1 := r1
    cases r with
    | str z =>
      cases hx
      refine ⟨z, rfl, f2 g1 H1 _ l0 o1 ?_⟩
      unfold WkR
      rw [List.length_map, Array.length_toList]
      refine walk_str.mono (fun _ _ => trivial) fun i H v H' hi _ y => ?_
      obtain ⟨y1, c, y2, y3⟩ := y
      subst y3
      refine ⟨.str ⟨#[c]⟩, ?_, .inl ⟨y1, .str _⟩⟩
      rw [List.getElem?_map, Array.getElem?_toList, y2]
      rfl
    | _ => cases hx
theorem walk_zipT {p q : Addr} {xs ys : List V} {n : Nat} (hn : n = min xs.length ys.length) : L2.Walk (RZ.ItzT K p q) n (fun H => SqT K H p xs ∧ SqT K H q ys) (YPair (fun i => xs[i]?) (fun i => ys[i]?)) := by
  subst hn
  refine ⟨fun i _ hi z => ?_, fun _ z => ⟨xs, ys, z.1, z.2, by omega⟩, fun i H v H' _ z y => ?_⟩
  · have h1 : i < xs.length := by omega
    have h2 : i < ys.length := by omega
    exact ⟨xs, ys, xs[i], ys[i], z.1, z.2, by simp [h1], by simp [h2]⟩
  · obtain ⟨T, x, z', h1, h2, h3, h4, h5⟩ := y
    exact ⟨T, x, z', h1, h2, h3, h4 xs z.1, h5 ys z.2⟩
theorem wk_pair {J : It} {xs ys : List PV} {vs ws : List V} {Gd : Hp → Prop} {n : Nat} (hn : n = min vs.length ws.length) (w : L2.Walk J n Gd (YPair (fun i => vs[i]?) (fun i => ws[i]?))) (hg : ∀ H, Ex g.F H → Gd H) (r : RepA K ad g.F xs vs) (r' : RepA K ad g.F ys ws) :
    WkR K ad g J (List.zipWith (fun a b => .tup [a, b]) xs ys) := by
  unfold WkR
  have e : (List.zipWith (fun a b : PV => PV.tup [a, b]) xs ys).length = n := by rw [List.length_zipWith, r.len, r'.len, hn]
  rw [e]
  refine w.mono hg fun i H x H' hi _ y => ?_
  obtain ⟨T, u, v, h1, h2, h3, h4, h5⟩ := y
  obtain ⟨x1, k1, k2⟩ := r.getV h4
  obtain ⟨y1, k3, k4⟩ := r'.getV h5
  refine ⟨.tup [x1, y1], ?_, .inr ⟨T, [u, v], [x1, y1], h1, h2, h3, rfl, .cons k2 (.cons k4 .nil), show 2 ≤ lim from by decide⟩⟩
  rw [List.getElem?_zipWith, k1, k3]
theorem w_zip {elts : List Expr} {kk : Nat} {tpos pos : Pos} (hg : Gl X "zip") (hm : X.mg "zip" = none) (ha : PE X a (tEv X.K ad lm Ek (evE cl ia))) (hb : PE X b (tEv X.K ad lm Ek (evE cl ib))) (hs : starEach [a, b] X.env = (false, eval a X.env) :: starEach [b] X.env) (hs2 : starEach [b] X.env = [(false, eval b X.env)]) :
    PI X (.Tuple elts kk tpos) (.Call (.Name "zip" p) [a, b] [] pos) (tWk X.K ad lm Ek (evW cl (.zip ia ib))) := by
  refine PIimp (RZ.pi_zipA hg hm (pa_cons ha (pa_cons hb pa_nil hs2) hs) hs (by rw [hs2]; rfl)) fun σ H R q => ?_
  obtain ⟨g, sl, st, ho, rs, f⟩ := q
  unfold evW at f
  refine ev_bind (Le.refl g) ho rs f fun x st1 g1 H1 w1 l0 l1 o1 rs1 r1 f1 => ?_
  refine ev_bind l0 o1 rs1 f1 fun y st2 g2 H2 w2 l0' l2 o2 rs2 r2 f2 => ?_
  obtain ⟨u, e, f3⟩ := Fin.asD f2
  subst e
  obtain ⟨v, e, f4⟩ := Fin.asD f3
  subst e
  have r1 : Rep X.K ad g2.F u w1 := Rep.mono l2.ex _ _ r1
  have r2 : Rep X.K ad g2.F v w2 := r2
  cases hz : zipv u v with
  | none => rw [hz] at f4; exact f4.elim
  | some zs =>
    rw [hz] at f4
    unfold zipv at hz
    split at hz
    · cases hz
      cases r1 with
      | tup a1 b1 c1 =>
        cases r2 with
        | tup a2 b2 c2 => exact ⟨_, _, _, _, rfl, .inr ⟨ex_t o2.ex a1, ex_t o2.ex a2, f4 g2 H2 _ l0' o2 (wk_pair rfl (walk_zipT rfl) (fun H e => ⟨ex_t e a1, ex_t e a2⟩) c1 c2)⟩⟩
    · cases hz
      cases r1 with
      | lst a1 b1 c1 =>
        cases r2 with
        | lst a2 b2 c2 => exact ⟨_, _, _, _, rfl, .inl ⟨SqL.of (o2.ex _ _ a1), SqL.of (o2.ex _ _ a2), f4 g2 H2 _ l0' o2 (wk_pair rfl (walk_zip rfl) (fun H e => ⟨SqL.of (e _ _ a1), SqL.of (e _ _ a2)⟩) c1 c2)⟩⟩
    · cases hz
theorem w_enum {elts : List Expr} {kk : Nat} {tpos pos : Pos} (hg : Gl X "enumerate") (hm : X.mg "enumerate" = none) (ha : PE X a (tEv X.K ad lm Ek (evE cl ia))) (hs : starEach [a] X.env = [(false, eval a X.env)]) :
    PI X (.Tuple elts kk tpos) (.Call (.Name "enumerate" p) [a] [] pos) (tWk X.K ad lm Ek (evW cl (.enum ia))) := by
  refine PIimp (pi_enum hg hm (pa_cons ha pa_nil hs) hs) fun σ H R q => ?_
  obtain ⟨g, sl, st, ho, rs, f⟩ := q
  unfold evW at f
  refine ev_bind (Le.refl g) ho rs f fun x st1 g1 H1 w1 l0 l1 o1 rs1 r1 f1 => ?_
  obtain ⟨u, e, f2⟩ := Fin.asD f1
  subst e
  cases hz : enumv u with
  | none => rw [hz] at f2; exact f2.elim
  | some zs =>
    rw [hz] at f2
    unfold enumv at hz
    split at hz
    · cases hz
      have r1 : Rep X.K ad g1.F _ w1 := r1
      cases r1 with
      | lst a1 b1 c1 =>
        refine ⟨_, _, rfl, SqL.of (o1.ex _ _ a1), f2 g1 H1 _ l0 o1 ?_⟩
        unfold WkR
        rw [List.length_map, List.length_zipIdx, c1.len]
        refine walk_enum.mono (fun H e => SqL.of (e _ _ a1)) fun i H x H' hi _ y => ?_
        obtain ⟨T, u, v, h1, h2, h3, h4, h5⟩ := y
        cases h4
        obtain ⟨y1, k3, k4⟩ := c1.getV h5
        refine ⟨.tup [.int (i : Nat), y1], ?_, .inr ⟨T, [.int (i : Nat), v], [.int (i : Nat), y1], h1, h2, h3, rfl, .cons (.int _) (.cons k4 .nil), show 2 ≤ lim from by decide⟩⟩
        rw [List.getElem?_map, List.getElem?_zipIdx, k3]
        simp
    · cases hz
/-! ### list comprehensions -/
def ownOf (N : List Str) : Tg → List (Str × Nat)
  | .n i => [((N[i]?).getD "", i)]
  | .t is => is.map fun i => ((N[i]?).getD "", i)
def tgIs : Tg → List Nat
  | .n i => [i]
  | .t is => is
theorem own_is (N : List Str) (t : Tg) : (ownOf N t).map (·.2) = tgIs t := by
  cases t with
  | n i => rfl
  | t is => simp [ownOf, tgIs, List.map_map, Function.comp_def]
theorem fold_len {is : List Nat} : ∀ {xs : List PV} {sl : Slots}, ((is.zip xs).foldl (fun s p => s.set p.1 (some (.d p.2))) sl).length = sl.length := by
  induction is with
  | nil => intro xs sl; rfl
  | cons i is ih =>
    intro xs sl
    cases xs with
    | nil => rfl
    | cons x xs =>
      show ((is.zip xs).foldl _ (sl.set i _)).length = _
      rw [ih, List.length_set]
theorem wipe_get {σ : L2.St} {i : Nat} : ∀ {vs : List Nat}, i ∉ vs → (wipe σ vs)[i]? = σ[i]?
  | [], _ => rfl
  | v :: vs, h => by
    unfold wipe
    rw [List.getElem?_set_ne (fun z => h (by simp [z]))]
    exact wipe_get fun z => h (List.mem_cons_of_mem _ z)
theorem wipe_at {σ : L2.St} {i : Nat} : ∀ {vs : List Nat}, i ∈ vs → i < σ.length → (wipe σ vs)[i]? = some none
  | v :: vs, h, hl => by
    unfold wipe
    by_cases e : v = i
    · subst e
      rw [List.getElem?_set_self (by rw [wipe_length]; exact hl)]
    · rw [List.getElem?_set_ne e]
      rcases List.mem_cons.mp h with z | z
      · exact absurd z.symm e
      · exact wipe_at z hl
/-- two maps of slots that differ at the block's own names alone are one when these are wiped -/
theorem wipe_ext {σ σ' : L2.St} {vs : List Nat} (hl : σ.length = σ'.length) (h : ∀ i, i ∉ vs → σ[i]? = σ'[i]?) : wipe σ vs = wipe σ' vs := by
  refine List.ext_getElem? fun i => ?_
  by_cases hi : i ∈ vs
  · by_cases hb : i < σ.length
    · rw [wipe_at hi hb, wipe_at hi (by rw [← hl]; exact hb)]
    · rw [List.getElem?_eq_none (by rw [wipe_length]; omega), List.getElem?_eq_none (by rw [wipe_length]; omega)]
  · rw [wipe_get hi, wipe_get hi]
    exact h i hi
/-- the same of a target's reading: outside of its names nothing changes -/
theorem names_out : ∀ {is : List Nat} {vs : List V} {σ : L2.St} {H : Hp} {Q : L2.St → Hp → Prop}, gNames is vs σ H Q → gNames is vs σ H fun σ' H' => σ'.length = σ.length ∧ (∀ i, i ∉ is → σ'[i]? = σ[i]?) ∧ Q σ' H'
  | [], _, _, _, _, h => ⟨h.1, rfl, fun _ _ => rfl, h.2⟩
  | j :: is, vs, σ, H, Q, h => by
    obtain ⟨v, r, e, q⟩ := h
    refine ⟨v, r, e, ?_⟩
    have := names_out (is := is) q
    refine names_imp this fun σ' H' z => ⟨by rw [z.1, List.length_set], fun i hi => ?_, z.2.2⟩
    rw [z.2.1 i (fun y => hi (List.mem_cons_of_mem _ y)), List.getElem?_set_ne (fun y => hi (by simp [y]))]
where
  names_imp {is : List Nat} {vs : List V} {σ : L2.St} {H : Hp} {Q Q' : L2.St → Hp → Prop} (h : gNames is vs σ H Q) (i : ∀ σ' H', Q σ' H' → Q' σ' H') : gNames is vs σ H Q' := by
    induction is generalizing vs σ with
    | nil => exact ⟨h.1, i _ _ h.2⟩
    | cons j is ih =>
      obtain ⟨v, r, e, q⟩ := h
      exact ⟨v, r, e, ih q⟩
theorem rd_out {tg : Tg} {v : V} {σ : L2.St} {H : Hp} {Q : L2.St → Hp → Prop} (h : gRd K tg v σ H Q) : gRd K tg v σ H fun σ' H' => σ'.length = σ.length ∧ (∀ i, i ∉ tgIs tg → σ'[i]? = σ[i]?) ∧ Q σ' H' := by
  cases tg with
  | n i => exact ⟨List.length_set, fun j hj => List.getElem?_set_ne fun z => hj (by simp [tgIs, z]), h⟩
  | t is =>
    rcases h with ⟨a, xs, e, s, hl, q⟩ | ⟨a, xs, e, s, hl, q⟩
    · exact .inl ⟨a, xs, e, s, hl, names_out q⟩
    · exact .inr ⟨a, xs, e, s, hl, names_out q⟩
theorem RepSl.wiped {sl : Slots} {σ : L2.St} (h : RepSl K ad lm g sl σ) (tg : Tg) (x : PV) (sl' : Slots) (e : bindT tg x sl = some sl') : ∃ sl0, bindT tg x sl0 = some sl' ∧ RepSl K ad lm g sl0 (wipe σ (tgIs tg)) := by
  -- the target's own slots are stored anyway
  have key : ∀ is : List Nat, RepSl K ad lm g (is.foldl (fun s i => s.set i none) sl) (wipe σ is.reverse) := by
    intro is
    refine ⟨?_, fun i v q => ?_⟩
    · rw [wipe_length, ← h.1]
      clear e h
      induction is generalizing sl with
      | nil => rfl
      | cons j is ih => rw [List.foldl_cons, ih, List.length_set]
    · have : sl[i]? = some (some v) ∧ i ∉ is := by
        clear e h
        induction is generalizing sl with
        | nil => exact ⟨q, by simp⟩
        | cons j is ih =>
          rw [List.foldl_cons] at q
          obtain ⟨q1, q2⟩ := ih q
          by_cases z : j = i
          · subst z
            by_cases hb : j < sl.length
            · rw [List.getElem?_set_self hb] at q1; cases q1
            · rw [List.getElem?_eq_none (by rw [List.length_set]; omega)] at q1; cases q1
          · rw [List.getElem?_set_ne z] at q1
            exact ⟨q1, by simp only [List.mem_cons, not_or]; exact ⟨fun y => z y.symm, q2⟩⟩
      obtain ⟨w, h1, h2⟩ := h.2 i v this.1
      exact ⟨w, by rw [wipe_get (by simpa using this.2)]; exact h1, h2⟩
  cases tg with
  | n i =>
    refine ⟨sl.set i none, ?_, key [i]⟩
    cases e
    show some ((sl.set i none).set i (some (.d x))) = _
    rw [List.set_set]
  | t is =>
    have k1 := key is.reverse
    rw [List.reverse_reverse] at k1
    have same : ∀ xs : List PV, xs.length = is.length → (is.zip xs).foldl (fun s p => s.set p.1 (some (SV.d p.2))) (is.reverse.foldl (fun s i => s.set i none) sl) = (is.zip xs).foldl (fun s p => s.set p.1 (some (SV.d p.2))) sl := by
      intro xs hl
      have gen : ∀ (js : List Nat) (ys : List PV) (s1 s2 : Slots), ys.length = js.length → s1.length = s2.length → (∀ i, i ∉ js → s1[i]? = s2[i]?) → (js.zip ys).foldl (fun s p => s.set p.1 (some (SV.d p.2))) s1 = (js.zip ys).foldl (fun s p => s.set p.1 (some (SV.d p.2))) s2 := by
        intro js
        induction js with
        | nil => intro ys s1 s2 _ hl hh; exact List.ext_getElem? fun i => hh i (by simp)
        | cons j js ih =>
          intro ys s1 s2 hy hl hh
          cases ys with
          | nil => cases hy
          | cons y ys =>
            refine ih ys (s1.set j _) (s2.set j _) (Nat.succ.inj hy) (by rw [List.length_set, List.length_set, hl]) fun i hi => ?_
            by_cases z : j = i
            · subst z
              by_cases hb : j < s1.length
              · rw [List.getElem?_set_self hb, List.getElem?_set_self (by rw [← hl]; exact hb)]
              · rw [List.getElem?_eq_none (by rw [List.length_set]; omega), List.getElem?_eq_none (by rw [List.length_set]; omega)]
            · rw [List.getElem?_set_ne z, List.getElem?_set_ne z]
              exact hh i (by simp only [List.mem_cons, not_or]; exact ⟨fun y => z y.symm, hi⟩)
      refine gen is xs _ _ hl ?_ fun i hi => ?_
      · generalize is.reverse = js
        clear k1 key e h
        induction js generalizing sl with
        | nil => rfl
        | cons j js ih => rw [List.foldl_cons, ih, List.length_set]
      · have hr : i ∉ is.reverse := by simpa using hi
        generalize is.reverse = js at hr
        clear k1 key e h
        induction js generalizing sl with
        | nil => rfl
        | cons j js ih =>
          rw [List.foldl_cons, ih (fun z => hr (List.mem_cons_of_mem _ z)), List.getElem?_set_ne (fun z => hr (by simp [z]))]
    refine ⟨_, ?_, k1⟩
    unfold bindT at e ⊢
    cases x with
    | tup xs =>
      dsimp only at e ⊢
      by_cases c : xs.length = is.length
      · rw [if_pos c] at e ⊢
        rw [same xs c]
        exact e
      · rw [if_neg c] at e; cases e
    | lst xs =>
      dsimp only at e ⊢
      by_cases c : xs.length = is.length
      · rw [if_pos c] at e ⊢
        rw [same xs c]
        exact e
      · rw [if_neg c] at e; cases e
    | _ => cases e
end
end Fo
end -- FoWalk

section -- FoLc
set_option Elab.async false
set_option linter.all false
set_option maxRecDepth 100000
set_option maxHeartbeats 1000000
/-! FoLc: list comprehensions. -/
namespace Fo
open PySem L2 Evl PyProof.Rows
section
variable {α β γ : Type}
theorem nox_bnd (m : M α) (k : α → M β) : nox (bnd m k) = bnd (nox m) fun a => nox (k a) := by
  funext st
  unfold nox bnd
  cases e : m st with
  | none => simp only [e]
  | some r => cases r <;> simp only [e]
theorem nox_ok (a : α) : nox (ok a) = ok a := rfl
theorem Fin.nox {m : M α} {k : α → M β} {st : Store} {P : β → Store → Prop} {W : Exc → Store → Prop} (h : Fin (Fo.bnd (Fo.nox m) k st) P W) : Fin (m st) (fun a st' => Fin (k a st') P W) fun _ _ => False := by
  unfold Fo.bnd Fo.nox at h
  cases e : m st with
  | none => rw [e] at h; exact h
  | some r =>
    rw [e] at h
    cases r with
    | ok a st' => exact h
    | ex x st' => exact h
end
section
variable {K : PySem.W.Frag} {ad : Nat → Option Addr} {lm : Lm} {Ek : XK} {X : Cx} {cl : Cl} {pos : Pos} {g g0 g1 : G} {H H1 : Hp} {st st1 : Store}
theorem OK.reguard {F : Hp} {r : List (List Addr)} {p : List (Addr × HO)} {D : Addr} {xs ys : List V} (o : OK K ad ⟨F, r, (D, .lst xs) :: p⟩ H st) (hD : ∀ q ∈ p, q.1 ≠ D) : OK K ad ⟨F, r, (D, .lst ys) :: p⟩ (upd H D (.lst ys)) st := by
  obtain ⟨p1, p2, p3⟩ := o.pr (D, .lst xs) List.mem_cons_self
  have p2 : F D = none := p2
  have p3 : D ∉ r.flatten := p3
  refine ⟨fun a v q => ?_, o.len, fun l c as h1 h2 => (o.cell l c as h1 h2).ext (Ex.refl _) fun a ha => upd_ne fun z => p3 ?_, o.nd, o.dj, fun q hq => ?_, o.nt, fun q hq => ?_, fun i P hi hP => TabS.lst p1 (o.tb i P hi hP)⟩
  rotate_right 1
  · rcases List.mem_cons.mp hq with e | e
    · subst e
      exact ⟨_, rfl⟩
    · exact o.np q (List.mem_cons_of_mem _ e)
  · have q : F a = some v := q
    rw [upd_ne (fun z : a = D => by rw [z, p2] at q; cases q)]
    exact o.ex a v q
  · rw [← z]
    exact List.mem_flatten.mpr ⟨_, List.mem_of_getElem? h2, ha⟩
  · rcases List.mem_cons.mp hq with e | e
    · subst e
      exact ⟨upd_same, p2, p3⟩
    · obtain ⟨q1, q2, q3⟩ := o.pr q (List.mem_cons_of_mem _ e)
      exact ⟨by rw [upd_ne (hD q e)]; exact q1, q2, q3⟩
theorem Le.guarded {F : Hp} {r : List (List Addr)} {p p' : List (Addr × HO)} {g' : G} (l : Le ⟨F, r, p⟩ g') : Le ⟨F, r, p'⟩ ⟨g'.F, g'.r, p'⟩ := ⟨l.ex, l.len, l.ent, rfl⟩
variable {elt tg iter : Expr} {ifs : List Expr} {scope : Scope} {w : W} {tgt : Tg} {c : Oe} {ie : E}
/-- a clause's tests -/
theorem tests_no : PTs X [] (tTv X.K ad lm E0 (evC cl .no)) := ⟨fun pins s σ H Q I q => pts_nil.run pins s σ H Q I (by
  obtain ⟨g, sl, st, ho, rs, f⟩ := q
  unfold evC at f
  exact f g H (Le.refl g) ho)⟩
theorem tests_one {e : Expr} {i : E} (h : PT X e (tBv X.K ad lm E0 cl i)) : PTs X [e] (tTv X.K ad lm E0 (evC cl (.ye i))) := ⟨fun pins s σ H Q I q => (pts_one h).run pins s σ H Q I (by
  obtain ⟨g, sl, st, ho, rs, f⟩ := q
  unfold evC at f
  exact ⟨g, sl, st, ho, rs, f⟩)⟩
/-- the reading of a comprehension from the evaluator's -/
theorem lc_read {N : List Str} {σ : L2.St} {Q : VK} (q : tFr K ad lm Ek (evE cl (.lc w tgt c ie)) σ H Q) :
    tLc (tWk K ad lm Ek (evW cl w)) (gRd K tgt) (tTv K ad lm E0 (evC cl c)) (tEv K ad lm E0 (evE cl ie)) ((ownOf N tgt).map (·.2)) σ H Q := by
  obtain ⟨g, sl, st, ho, rs, f⟩ := q
  unfold evE at f
  rw [own_is]
  refine ⟨g, sl, st, ho, rs, f.bnd.imp (fun xs st1 h g1 H1 J l1 o1 wk => ?_) fun _ _ w => w⟩
  intro D hD
  by_cases hl : xs.length ≤ lim
  case neg =>
    rw [if_neg hl] at h
    exact h.elim
  rw [if_pos hl] at h
  have rs1 := rs.mono l1
  have hDp : ∀ q ∈ g1.p, q.1 ≠ D := (o1.free hD).2.2
  let kk : List PV → M SV := fun ys => ok (.d (.lst ys))
  let go := lcGo sl tgt (evC cl c) (fun s => bnd (evE cl ie s) asD)
  let Pv : Nat → Hp → Prop := fun i H => ∃ g' st' acc vs, Le g1 g' ∧ OK K ad ⟨g'.F, g'.r, (D, .lst vs) :: g1.p⟩ H st' ∧ RepA K ad g'.F acc vs ∧ acc.length ≤ i ∧ Fin (bnd (nox (go (xs.drop i) acc)) kk st') (Pf K ad g Q) (Wx K ad g Ek)
  refine lc_it wk Pv ⟨g1, st1, [], [], Le.refl _, (o1.ext (Ex.new hD)).guard upd_same (o1.free hD), .nil, Nat.le_refl _, h⟩ ?_ ?_ ?_
  · rintro i H _ ⟨g', st', acc, vs, l2, o2, _⟩
    exact l2.ex.trans o2.ex
  · rintro i x H H' hi ⟨g', st', acc, vs, l2, o2, ra, hn, h2⟩ ⟨x', ex, it⟩
    have hdr : xs.drop i = x' :: xs.drop (i + 1) := by
      obtain ⟨hb, e⟩ := List.getElem?_eq_some_iff.mp ex
      rw [List.drop_eq_getElem_cons hb, e]
    obtain ⟨g3, l3, o3, rx⟩ := it.get (g1 := ⟨g'.F, g'.r, (D, .lst vs) :: g1.p⟩) l2.ex o2
    have rs3 : RepSl K ad lm g3 sl σ := by
      have m1 : RepSl K ad lm ⟨g'.F, g'.r, (D, .lst vs) :: g1.p⟩ sl σ := rs1.mono ⟨l2.ex, l2.len, l2.ent, rfl⟩ |> fun (z : RepSl K ad lm ⟨g'.F, g'.r, g1.p⟩ sl σ) => z
      exact m1.mono l3
    rw [hdr] at h2
    have h2 : Fin (bnd (nox (match bindT tgt x' sl with
      | none => stk
      | some sl' => bnd (evC cl c sl') fun b => if b = true then bnd (bnd (evE cl ie sl') asD) fun y => go (xs.drop (i + 1)) (acc ++ [y]) else go (xs.drop (i + 1)) acc)) kk st') (Pf K ad g Q) (Wx K ad g Ek) := h2
    cases hb : bindT tgt x' sl with
    | none =>
      rw [hb] at h2
      exact h2.elim
    | some sl' =>
      rw [hb] at h2
      obtain ⟨sl0, hb0, rs0⟩ := rs3.wiped tgt x' sl' hb
      have rd := rd_out (bind_ok o3 hb0 rx rs0 (Q := fun σ2 H2 => H2 = H' ∧ RepSl K ad lm g3 sl' σ2) fun σ2 r2 => ⟨rfl, r2⟩)
      refine rd_mono rd fun σ2 H2 z => ?_
      obtain ⟨z1, z2, z3, rs2⟩ := z
      subst z3
      refine ⟨?_, ?_⟩
      · rw [wipe_ext (σ := σ2) (σ' := σ) (by rw [z1, wipe_length]) fun j hj => by rw [z2 j hj, wipe_get hj]]
      rw [nox_bnd, bnd_assoc] at h2
      refine ⟨g3, sl', st', o3, rs2, (Fin.nox h2).imp (fun b st4 h4 g4 H4 l4 o4 => ?_) fun _ _ z => z.elim⟩
      have gp : g4.p = (D, .lst vs) :: g1.p := l4.pp.trans l3.pp
      have gD := o4.pr (D, .lst vs) (by rw [gp]; exact List.mem_cons_self)
      have l14 : Le g1 ⟨g4.F, g4.r, g1.p⟩ := l2.trans ⟨(l3.trans l4).ex, (l3.trans l4).len, (l3.trans l4).ent, l2.pp.symm⟩
      cases b with
      | false =>
        rw [if_neg Bool.false_ne_true] at h4
        have o4' : OK K ad ⟨g4.F, g4.r, (D, .lst vs) :: g1.p⟩ H4 st4 := by rw [← gp]; exact o4
        exact ⟨⟨g4.F, g4.r, g1.p⟩, st4, acc, vs, l14, o4', RepA.mono (l3.trans l4).ex _ _ ra, Nat.le_succ_of_le hn, h4⟩
      | true =>
        rw [if_pos rfl] at h4
        rw [nox_bnd, nox_bnd, bnd_assoc, bnd_assoc] at h4
        refine ⟨g4, sl', st4, o4, rs2.mono l4, (Fin.nox h4).imp (fun v st5 h5 g5 H5 wv l5 o5 r5 => ?_) fun _ _ z => z.elim⟩
        have h5 := Fin.nox h5
        cases v with
        | r l => exact h5.elim
        | ls => exact h5.elim
        | d y =>
          have h5 : Fin (bnd (nox (go (xs.drop (i + 1)) (acc ++ [y]))) kk st5) (Pf K ad g Q) (Wx K ad g Ek) := h5
          have gp5 : g5.p = (D, .lst vs) :: g1.p := l5.pp.trans gp
          have gD5 := o5.pr (D, .lst vs) (by rw [gp5]; exact List.mem_cons_self)
          have o5' : OK K ad ⟨g5.F, g5.r, (D, .lst vs) :: g1.p⟩ H5 st5 := by rw [← gp5]; exact o5
          have hlen : vs.length < sizeLine := by
            rw [← ra.len, ← lim_eq]
            have := Nat.lt_of_lt_of_le hi hl
            omega
          refine ⟨vs, gD5.1, hlen, ⟨g5.F, g5.r, g1.p⟩, st5, acc ++ [y], vs ++ [wv], ?_, o5'.reguard hDp, ?_, ?_, h5⟩
          · exact l14.trans ⟨l5.ex, l5.len, l5.ent, rfl⟩
          · exact (RepA.mono ((l3.trans l4).trans l5).ex _ _ ra).app (.cons r5 .nil)
          · rw [List.length_append]
            show acc.length + 1 ≤ i + 1
            omega
  · rintro H ⟨g', st', acc, vs, l2, o2, ra, hn, h2⟩
    rw [List.drop_length] at h2
    have h2 : Pf K ad g Q (.d (.lst acc)) st' := h2
    have gD := o2.pr (D, .lst vs) List.mem_cons_self
    have o2' : OK K ad ⟨g'.F, g'.r, g1.p⟩ H st' := o2.unguard rfl
    obtain ⟨acc', e1, h3⟩ := h2
    cases e1
    refine h3 ⟨g'.F, g'.r, g1.p⟩ H D vs (l1.trans (l2.trans ⟨Ex.refl _, Nat.le_refl _, fun _ _ _ _ q => q, l2.pp.symm⟩)) o2' gD.1 ⟨gD.2.1, gD.2.2, hDp⟩ ?_ ra
    rw [← ra.len]
    omega
where
  rd_mono {tg : Tg} {v : V} {σ : L2.St} {H : Hp} {Q Q' : L2.St → Hp → Prop} (h : gRd K tg v σ H Q) (i : ∀ σ' H', Q σ' H' → Q' σ' H') : gRd K tg v σ H Q' := by
    cases tg with
    | n j => exact i _ _ h
    | t is =>
      rcases h with ⟨a, xs, e, s, hl, q⟩ | ⟨a, xs, e, s, hl, q⟩
      · exact .inl ⟨a, xs, e, s, hl, names_out.names_imp q i⟩
      · exact .inr ⟨a, xs, e, s, hl, names_out.names_imp q i⟩
theorem s_lcF (hc : X.calm = true) (hN : X.N.Nodup) (hi : PI X tg iter (tWk X.K ad lm Ek (evW cl w))) (ok' : BlkOk X.N X.env.scope scope (ownOf X.N tgt))
    (hg : ∀ (s : Shared) (H : Hp) (C : Addr) (cls : List (Str × Addr)) (fp : List Addr), PG (X.blk s H scope (compEnvC scope cls C X.env) fp) tg (gRd X.K tgt))
    (ht : ∀ (s : Shared) (H : Hp) (C : Addr) (cls : List (Str × Addr)) (fp : List Addr), PTs (X.blk s H scope (compEnvC scope cls C X.env) fp) ifs (tTv X.K ad lm E0 (evC cl c)))
    (he : ∀ (s : Shared) (H : Hp) (C : Addr) (cls : List (Str × Addr)) (fp : List Addr), PE (X.blk s H scope (compEnvC scope cls C X.env) fp) elt (tEv X.K ad lm E0 (evE cl ie)))
    (hs : ∀ x, foldedSetIterable iter X.env x = pure x) : PE X (.ListComp elt [⟨tg, iter, ifs, 0⟩] scope pos) (tFr X.K ad lm Ek (evE cl (.lc w tgt c ie))) :=
  PEimp (pe_lc hc hN hi ok' hg ht he hs) fun σ H Q q => lc_read q
/-- name = [..] on one line -/
theorem s_setLc {i : Nat} {y : Str} {py spos : Pos} (hc : X.calm = true) (hN : X.N.Nodup) (hy : X.N[i]? = some y) (hyl : X.env.scope.names.lookup y = some .local) (hsw : swapsWith (.ListComp elt [⟨tg, iter, ifs, 0⟩] scope pos) (some (.Name y py)) spos.line X.env = pure true)
    (hi : PI X tg iter (tWk X.K ad lm Ek (evW cl w))) (ok' : BlkOk X.N X.env.scope scope (ownOf X.N tgt))
    (hg : ∀ (s : Shared) (H : Hp) (C : Addr) (cls : List (Str × Addr)) (fp : List Addr), PG (X.blk s H scope (compEnvC scope cls C X.env) fp) tg (gRd X.K tgt))
    (ht : ∀ (s : Shared) (H : Hp) (C : Addr) (cls : List (Str × Addr)) (fp : List Addr), PTs (X.blk s H scope (compEnvC scope cls C X.env) fp) ifs (tTv X.K ad lm E0 (evC cl c)))
    (he : ∀ (s : Shared) (H : Hp) (C : Addr) (cls : List (Str × Addr)) (fp : List Addr), PE (X.blk s H scope (compEnvC scope cls C X.env) fp) elt (tEv X.K ad lm E0 (evE cl ie)))
    (hs : ∀ x, foldedSetIterable iter X.env x = pure x) : PS X (.Assign [.Name y py] (.ListComp elt [⟨tg, iter, ifs, 0⟩] scope pos) spos) (tAsg (tFr X.K ad lm Ek (evE cl (.lc w tgt c ie))) (gName i)) :=
  ⟨fun pins s σ H D I q => (ps_setLc hc hN hy hyl hsw hi ok' hg ht he hs).run pins s σ H D I (lc_read q)⟩
end
end Fo
end -- FoLc

section -- FoStmt
set_option Elab.async false
set_option linter.all false
set_option maxRecDepth 100000
set_option maxHeartbeats 1000000
/-! FoStmt: statements. -/
namespace Fo
open PySem L2 Evl PyProof.Rows
theorem PSimp {X : Cx} {s : Stmt} {t t' : TS} (h : PS X s t) (i : ∀ D σ H, t' D σ H → t D σ H) : PS X s t' := ⟨fun pins st σ H D I q => h.run pins st σ H D I (i D σ H q)⟩
theorem PSsimp {X : Cx} {s : List Stmt} {t t' : TS} (h : PSs X s t) (i : ∀ D σ H, t' D σ H → t D σ H) : PSs X s t' := ⟨fun pins st σ H D I q => h.run pins st σ H D I (i D σ H q)⟩
section
variable (K : PySem.W.Frag) (ad : Nat → Option Addr) (lm : Lm)
def Prt (fr : Bool) (g : G) (Q : VK) : SV → Store → Prop
  | .r l, st' => Px K ad g Q (.r l) st'
  | .ls, _ => False
  | .d x, st' => if fr = true then Pf K ad g Q (.d x) st' else Px K ad g Q (.d x) st'
def Po (fr : Bool) (g : G) (D : Ends) : Out → Store → Prop
  | .nx sl, st' => ∀ g' H' σ', Le g g' → OK K ad g' H' st' → RepSl K ad lm g' sl σ' → D.nx σ' H'
  | .ct sl, st' => ∀ g' H' σ', Le g g' → OK K ad g' H' st' → RepSl K ad lm g' sl σ' → D.ct σ' H'
  | .rt v, st' => Prt K ad fr g D.rt v st'
def tSv (fr : Bool) (Ek : XK) (m : Slots → M Out) : TS := fun D σ H => ∃ g sl st, OK K ad g H st ∧ RepSl K ad lm g sl σ ∧ Fin (m sl st) (Po K ad lm fr g D) (Wx K ad g Ek)
end
section
variable {K : PySem.W.Frag} {ad : Nat → Option Addr} {lm : Lm} {Ek : XK} {X : Cx} {cl : Cl} {pos : Pos} {g g0 g1 g' : G} {H H1 : Hp} {st st1 : Store} {fr : Bool} {σ : L2.St} {sl : Slots}
theorem Px.mono {Q : VK} {v : SV} (l : Le g g') (h : Px K ad g Q v st) : Px K ad g' Q v st := fun g2 H2 w l2 o r => h g2 H2 w (l.trans l2) o r
theorem Pf.mono {Q : VK} {v : SV} (l : Le g g') (h : Pf K ad g Q v st) : Pf K ad g' Q v st := by
  obtain ⟨xs, e, h⟩ := h
  exact ⟨xs, e, fun g2 H2 p vs l2 o => h g2 H2 p vs (l.trans l2) o⟩
theorem Prt.mono {Q : VK} {v : SV} (l : Le g g') (h : Prt K ad fr g Q v st) : Prt K ad fr g' Q v st := by
  cases v with
  | r n => exact Px.mono l h
  | ls => exact h.elim
  | d x =>
    cases fr with
    | true => exact Pf.mono l h
    | false => exact Px.mono l h
theorem Po.mono {D : Ends} {o : Out} (l : Le g g') (h : Po K ad lm fr g D o st) : Po K ad lm fr g' D o st := by
  cases o with
  | nx sl => exact fun g2 H2 σ l2 o r => h g2 H2 σ (l.trans l2) o r
  | ct sl => exact fun g2 H2 σ l2 o r => h g2 H2 σ (l.trans l2) o r
  | rt v => exact Prt.mono l h
/-- the rest runs from a later state -/
theorem sv_go {m : Slots → M Out} {D : Ends} (l : Le g g1) (o : OK K ad g1 H1 st1) (rs : RepSl K ad lm g1 sl σ) (h : Fin (m sl st1) (Po K ad lm fr g D) (Wx K ad g Ek)) : tSv K ad lm fr Ek m D σ H1 :=
  ⟨g1, sl, st1, o, rs, h.imp (fun o s h => h.mono l) fun x s w => w.mono l⟩
theorem ss_nil : PSs X [] (tSv X.K ad lm fr Ek (evSs cl .nil)) := PSsimp pss_nil fun D σ H q => by
  obtain ⟨g, sl, st, ho, rs, f⟩ := q
  unfold evSs at f
  exact f g H σ (Le.refl g) ho rs
theorem ss_cons {s : Stmt} {ss : List Stmt} {is : S} {iss : Ss} (h1 : PS X s (tSv X.K ad lm fr Ek (evS cl is))) (h2 : PSs X ss (tSv X.K ad lm fr Ek (evSs cl iss))) : PSs X (s :: ss) (tSv X.K ad lm fr Ek (evSs cl (.cons is iss))) := by
  refine PSsimp (pss_cons h1 h2) fun D σ H q => ?_
  obtain ⟨g, sl, st, ho, rs, f⟩ := q
  unfold evSs at f
  refine ⟨g, sl, st, ho, rs, f.bnd.imp (fun o st1 h => ?_) fun _ _ w => w⟩
  cases o with
  | nx sl1 => exact fun g1 H1 σ1 l o1 rs1 => sv_go l o1 rs1 h
  | ct sl1 => exact h
  | rt v => exact h
variable {e a b : Expr} {ie ia ib : E} {i : Nat} {x : Str} {p : Pos}
theorem set_read {D : Ends} (h : tSv K ad lm fr Ek (evS cl (.set i ie)) D σ H) : tAsg (tEv K ad lm Ek (evE cl ie)) (gName i) D σ H := by
  obtain ⟨g, sl, st, ho, rs, f⟩ := h
  unfold evS at f
  refine ev_bind (Le.refl g) ho rs f fun v st1 g1 H1 w l0 l1 o1 rs1 r1 f1 => ?_
  exact f1 g1 H1 _ l0 o1 (rs1.set i r1)
theorem setF_read {D : Ends} (h : tSv K ad lm fr Ek (evS cl (.set i ie)) D σ H) (hv : ∀ sl st v st', evE cl ie sl st = some (.ok v st') → ∃ xs, v = .d (.lst xs)) : tAsg (tFr K ad lm Ek (evE cl ie)) (gName i) D σ H := by
  obtain ⟨g, sl, st, ho, rs, f⟩ := h
  unfold evS at f
  refine ⟨g, sl, st, ho, rs, ?_⟩
  have f := f.bnd
  cases em : evE cl ie sl st with
  | none => rw [em] at f; exact f
  | some r =>
    rw [em] at f
    cases r with
    | ex x s => exact f
    | ok v s =>
      obtain ⟨xs, ev⟩ := hv sl st v s em
      refine ⟨xs, ev, fun g' H' p vs le o' hp fr hl r => ?_⟩
      obtain ⟨o2, l2⟩ := o'.froz hp fr
      subst ev
      exact f _ H' _ (le.trans l2) o2 ((rs.mono (le.trans l2)).set (x := .d (.lst xs)) i (Rep.lstNew hl l2.ex r upd_same))
theorem new_read {D : Ends} (h : tSv K ad lm fr Ek (evS cl (.new i ie)) D σ H) : tAsg (tFr K ad lm Ek (evE cl ie)) (gName i) D σ H := by
  obtain ⟨g, sl, st, ho, rs, f⟩ := h
  unfold evS at f
  refine ⟨g, sl, st, ho, rs, f.bnd.imp (fun v s f => ?_) fun _ _ w => w⟩
  cases v with
  | r l => exact f.elim
  | ls => exact f.elim
  | d y =>
    cases y with
    | lst xs =>
      refine ⟨xs, rfl, fun g' H' p vs le o' hp fre hl r => ?_⟩
      obtain ⟨o2, l2⟩ := o'.new hp fre hl r
      have rs2 := rs.mono (le.trans l2)
      refine f _ H' _ (le.trans l2) o2 (rs2.set (x := .r s.length) i ⟨?_, fun a as q => ?_⟩)
      · show s.length < (g'.r ++ [[p]]).length
        rw [List.length_append, o'.len]
        exact Nat.lt_succ_self _
      · have q : (g'.r ++ [[p]])[s.length]? = some (a :: as) := q
        rw [List.getElem?_append_right (by rw [o'.len]; exact Nat.le_refl _), o'.len, Nat.sub_self] at q
        cases q
        rfl
    | _ => exact f.elim
theorem noComp {v : Expr} {t : Option Expr} {l : Nat} {env : PySem.Env} (h : (match v with
    | .ListComp .. => false
    | .SetComp .. => false
    | .DictComp .. => false
    | _ => true) = true) : swapsWith v t l env = pure false := by
  cases v <;> first
    | rfl
    | cases h
variable (hN : X.N.Nodup) (hi : X.N[i]? = some x) (hx : Loc X.env.scope x) (hf : X.fn x = true ∨ X.env.scope.names.lookup x = some .local)
include hN hi hx hf in
theorem st_set (he : PE X e (tEv X.K ad lm Ek (evE cl ie))) (hs : swapsWith e (some (.Name x p)) pos.line X.env = pure false) : PS X (.Assign [.Name x p] e pos) (tSv X.K ad lm fr Ek (evS cl (.set i ie))) :=
  PSimp (ps_set hN hi hx he hs hf) fun D σ H q => set_read q
include hN hi hx hf in
theorem st_new (he : PE X e (tFr X.K ad lm Ek (evE cl ie))) (hs : swapsWith e (some (.Name x p)) pos.line X.env = pure false) : PS X (.Assign [.Name x p] e pos) (tSv X.K ad lm fr Ek (evS cl (.new i ie))) :=
  PSimp (ps_set hN hi hx he hs hf) fun D σ H q => new_read q
omit hN hi hx hf
theorem st_setF {s : Stmt} (h : PS X s (tAsg (tFr X.K ad lm Ek (evE cl ie)) (gName i))) (hv : ∀ sl st v st', evE cl ie sl st = some (.ok v st') → ∃ xs, v = .d (.lst xs)) : PS X s (tSv X.K ad lm fr Ek (evS cl (.set i ie))) := PSimp h fun D σ H q => setF_read q hv
theorem st_newF {s : Stmt} (h : PS X s (tAsg (tFr X.K ad lm Ek (evE cl ie)) (gName i))) : PS X s (tSv X.K ad lm fr Ek (evS cl (.new i ie))) := PSimp h fun D σ H q => new_read q
theorem st_par {j : Nat} {y : Str} {px py pt : Pos} {kt k2 pt2} (hc : X.calm = true) (hN : X.N.Nodup) (hi : X.N[i]? = some x) (hj : X.N[j]? = some y) (hij : i ≠ j)
    (hx : X.env.scope.names.lookup x = some .local) (hy : X.env.scope.names.lookup y = some .local) (ha : PE X a (tEv X.K ad lm Ek (evE cl ia))) (hb : PE X b (tEv X.K ad lm Ek (evE cl ib)))
    (s1 : starEach [a, b] X.env = (false, eval a X.env) :: starEach [b] X.env) (s2 : starEach [b] X.env = (false, eval b X.env) :: starEach [] X.env)
    (hw : swappedStores [.Tuple [.Name x px, .Name y py] kt pt] (.Tuple [a, b] k2 pt2) X.env = pure (some [x, y])) :
    PS X (.Assign [.Tuple [.Name x px, .Name y py] kt pt] (.Tuple [a, b] k2 pt2) pos) (tSv X.K ad lm fr Ek (evS cl (.par i j ia ib))) := by
  refine PSimp (ps_par hc hN hi hj hij hx hy (pa_cons ha (pa_cons hb pa_nil s2) s1) hw) fun D σ H q => ?_
  obtain ⟨g, sl, st, ho, rs, f⟩ := q
  unfold evS at f
  refine ev_bind (Le.refl g) ho rs f fun v st1 g1 H1 w l0 l1 o1 rs1 r1 f1 => ?_
  refine ev_bind l0 o1 rs1 f1 fun u st2 g2 H2 w2 l0' l2 o2 rs2 r2 f2 => ?_
  exact ⟨w, w2, rfl, f2 g2 H2 _ l0' o2 ((rs2.set i (r1.mono l2)).set j r2)⟩
theorem st_par3 {j l : Nat} {y z : Str} {c : Expr} {ic : E} {px py pz pt : Pos} {kt k2 pt2} (hc : X.calm = true) (hN : X.N.Nodup) (hi : X.N[i]? = some x) (hj : X.N[j]? = some y) (hl : X.N[l]? = some z) (hij : i ≠ j) (hil : i ≠ l) (hjl : j ≠ l)
    (hx : X.env.scope.names.lookup x = some .local) (hy : X.env.scope.names.lookup y = some .local) (hz : X.env.scope.names.lookup z = some .local) (ha : PE X a (tEv X.K ad lm Ek (evE cl ia))) (hb : PE X b (tEv X.K ad lm Ek (evE cl ib))) (hcc : PE X c (tEv X.K ad lm Ek (evE cl ic)))
    (s1 : starEach [a, b, c] X.env = (false, eval a X.env) :: starEach [b, c] X.env) (s2 : starEach [b, c] X.env = (false, eval b X.env) :: starEach [c] X.env) (s3 : starEach [c] X.env = (false, eval c X.env) :: starEach [] X.env)
    (hw : swappedStores [.Tuple [.Name x px, .Name y py, .Name z pz] kt pt] (.Tuple [a, b, c] k2 pt2) X.env = pure (some [x, y, z])) :
    PS X (.Assign [.Tuple [.Name x px, .Name y py, .Name z pz] kt pt] (.Tuple [a, b, c] k2 pt2) pos) (tSv X.K ad lm fr Ek (evS cl (.par3 i j l ia ib ic))) := by
  refine PSimp (ps_par3 hc hN hi hj hl hij hil hjl hx hy hz (pa_cons ha (pa_cons hb (pa_cons hcc pa_nil s3) s2) s1) hw) fun D σ H q => ?_
  obtain ⟨g, sl, st, ho, rs, f⟩ := q
  unfold evS at f
  refine ev_bind (Le.refl g) ho rs f fun v st1 g1 H1 w l0 l1 o1 rs1 r1 f1 => ?_
  refine ev_bind l0 o1 rs1 f1 fun u st2 g2 H2 w2 l02 l2 o2 rs2 r2 f2 => ?_
  refine ev_bind l02 o2 rs2 f2 fun u3 st3 g3 H3 w3 l03 l3 o3 rs3 r3 f3 => ?_
  exact ⟨w, w2, w3, rfl, f3 g3 H3 _ l03 o3 (((rs3.set i ((r1.mono l2).mono l3)).set j (r2.mono l3)).set l r3)⟩
theorem st_unp {is : List Nat} {tgt : Expr} (he : PE X e (tEv X.K ad lm Ek (evE cl ie))) (hg : PG X tgt (gRd X.K (.t is))) (hs : swapsWithSole [tgt] e pos.line X.env = pure false) (hw : swappedStores [tgt] e X.env = pure none)
    (h1 : (assignEach [tgt] X.env).map (·.2) = [assign tgt X.env]) : PS X (.Assign [tgt] e pos) (tSv X.K ad lm fr Ek (evS cl (.unp is ie))) := by
  refine PSimp (ps_asg he hg hs hw h1) fun D σ H q => ?_
  obtain ⟨g, sl, st, ho, rs, f⟩ := q
  unfold evS at f
  refine ev_bind (Le.refl g) ho rs f fun v st1 g1 H1 w l0 l1 o1 rs1 r1 f1 => ?_
  obtain ⟨y, e1, f2⟩ := Fin.asD f1
  subst e1
  obtain ⟨sl', e2, f3⟩ := Fin.ofO f2
  exact bind_ok o1 e2 r1 rs1 fun σ' r' => f3 g1 H1 σ' l0 o1 r'
theorem cell_at (ho : OK K ad g H st) {l : Nat} {xs : List PV} (h : st[l]? = some (.lst xs)) : ∃ a vs, g.r[l]? = some [a] ∧ H a = some (.lst vs) ∧ vs.length ≤ lim ∧ RepA K ad g.F xs vs := by
  have hl : l < g.r.length := by rw [ho.len]; exact (List.getElem?_eq_some_iff.mp h).1
  have q := ho.cell l _ _ h (List.getElem?_eq_getElem hl)
  rw [List.getElem?_eq_getElem hl]
  generalize g.r[l] = as at q
  cases q with
  | lst a b c => exact ⟨_, _, rfl, a, b, c⟩
theorem Fin.cell {β : Type} {l : Nat} {f : List PV → Option (List PV)} {k : Unit → M β} {P : β → Store → Prop} {W : Exc → Store → Prop} (h : Fin (Fo.bnd (cellSet l f) k st) P W) :
    ∃ xs ys, st[l]? = some (.lst xs) ∧ f xs = some ys ∧ Fin (k () (st.set l (.lst ys))) P W := by
  unfold Fo.bnd cellSet at h
  cases e : st[l]? with
  | none => simp only [e] at h; exact h.elim
  | some c =>
    cases c with
    | lst xs =>
      simp only [e] at h
      cases e2 : f xs with
      | none => simp only [e2] at h; exact h.elim
      | some ys => simp only [e2] at h; exact ⟨xs, ys, rfl, e2, h⟩
    | obj c fs => simp only [e] at h; exact h.elim
    | dead => simp only [e] at h; exact h.elim
def notSlice : Expr → Bool
  | .Slice .. => false
  | _ => true
theorem assign_sub {o i : Expr} {p : Pos} {env : PySem.Env} (h : notSlice i = true) : ∀ v, assign (.Subscript o i p) env v = (do
      let ov ← holding [v] (eval o env)
      let iv ← holding [v, ov] (eval i env)
      standAt p
      holding [v, ov, iv] (setItem ov iv v)
      release [v, ov, iv] []) := by
  intro v
  cases i <;> first
    | rfl
    | cases h
theorem st_seti {p2 : Pos} (hp : notSlice b = true) (he : PE X e (tEv X.K ad lm Ek (evE cl ie))) (ha : PE X a (tEv X.K ad lm Ek (evE cl ia))) (hb : PE X b (tEv X.K ad lm Ek (evE cl ib))) (hs : swapsWith e (some (.Subscript a b p2)) pos.line X.env = pure false) :
    PS X (.Assign [.Subscript a b p2] e pos) (tSv X.K ad lm fr Ek (evS cl (.seti ia ib ie))) := by
  refine PSimp (ps_asg he (pg_sub ha hb set_list (assign_sub hp)) hs (by rfl) rfl) fun D σ H q => ?_
  obtain ⟨g, sl, st, ho, rs, f⟩ := q
  unfold evS at f
  refine ev_bind (Le.refl g) ho rs f fun v st1 g1 H1 w1 l0 l1 o1 rs1 r1 f1 => ?_
  obtain ⟨y, e1, f1⟩ := Fin.asD f1
  subst e1
  refine ev_bind l0 o1 rs1 f1 fun o st2 g2 H2 w2 l02 l2 o2 rs2 r2 f2 => ?_
  refine ev_bind l02 o2 rs2 f2 fun u st3 g3 H3 w3 l03 l3 o3 rs3 r3 f3 => ?_
  obtain ⟨j, e1, f3⟩ := Fin.asI f3
  subst e1
  cases r3
  cases o with
  | d z => exact f3.elim
  | ls => exact f3.elim
  | r l =>
    obtain ⟨xs, ys, c1, c2, f4⟩ := Fin.cell f3
    obtain ⟨c, vs, d1, d2, d3, d4⟩ := cell_at o3 c1
    obtain ⟨n, e2, e3⟩ := Option.map_eq_some_iff.mp c2
    subst e3
    have r2' := (r2.mono l3).2 c [] d1
    refine ⟨c, vs, j, n, r2', rfl, d2, by rw [← d4.len]; exact e2, ?_⟩
    have ry : Rep X.K ad g3.F y w1 := Rep.mono (l2.trans l3).ex _ _ r1
    exact f4 g3 _ σ l03 (o3.set c1 d1 (by rw [List.length_set]; exact d3) (RepA.set n ry d4)) rs3
theorem Fin.cellOf {β : Type} {o : SV} {k : Nat → M β} {P : β → Store → Prop} {W : Exc → Store → Prop} (h : Fin (Fo.bnd (Fo.cellOf o) k st) P W) : ∃ l xs, o = .r l ∧ st[l]? = some (.lst xs) ∧ Fin (k l st) P W := by
  cases o with
  | d v => exact h.elim
  | ls => exact h.elim
  | r l =>
    unfold Fo.bnd Fo.cellOf at h
    cases e : st[l]? with
    | none => simp only [e] at h; exact h.elim
    | some c =>
      cases c with
      | lst xs => simp only [e] at h; exact ⟨l, xs, rfl, e, h⟩
      | obj c fs => simp only [e] at h; exact h.elim
      | dead => simp only [e] at h; exact h.elim
theorem st_app {a' : Pos} {cp : Pos} (ho' : PE X a (tEv X.K ad lm Ek (evE cl (.slot i)))) (he : PE X e (tEv X.K ad lm Ek (evE cl ie))) (hbase : attributeBase a "append" X.env (eval a X.env) = eval a X.env)
    (hs : starEach [e] X.env = (false, eval e X.env) :: starEach [] X.env) (hline : (a'.endLine == cp.line) = true) (hsw : swapsWith (.Call (.Attribute a "append" a') [e] [] cp) none pos.line X.env = pure false) :
    PS X (.Expr (.Call (.Attribute a "append" a') [e] [] cp) pos) (tSv X.K ad lm fr Ek (evS cl (.app i ie))) := by
  refine PSimp (ps_expr (pe_bm PySem.F.plainAttrs_list PySem.F.slot_list_append PySem.F.type_list_append mt_append ho' (pa_cons he pa_nil hs) hbase (by rw [hs]; rfl) hline hs rfl) hsw) fun D σ H q => ?_
  obtain ⟨g, sl, st, ho, rs, f⟩ := q
  unfold evS at f
  refine ev_bind (Le.refl g) ho rs f fun o st1 g1 H1 w1 l0 l1 o1 rs1 r1 f1 => ?_
  obtain ⟨l, xs, e1, c1, f2⟩ := Fin.cellOf f1
  subst e1
  obtain ⟨c, vs, d1, d2, d3, d4⟩ := cell_at o1 c1
  have ew := r1.2 c [] d1
  subst ew
  refine ⟨.inl ⟨rfl, _, .inl (.inl d2)⟩, ?_⟩
  refine ev_bind l0 o1 rs1 f2 fun v st2 g2 H2 w2 l02 l2 o2 rs2 r2 f3 => ?_
  obtain ⟨y, e1, f3⟩ := Fin.asD f3
  subst e1
  obtain ⟨xs2, ys2, c2, c3, f4⟩ := Fin.cell f3
  obtain ⟨c', vs2, k1, k2, k3, k4⟩ := cell_at o2 c2
  have ew := (r1.mono l2).2 c' [] k1
  cases ew
  split at c3
  · rename_i hl
    cases c3
    refine ⟨c, vs2, w2, rfl, rfl, k2, by rw [← k4.len, ← lim_eq]; exact hl, ?_⟩
    exact f4 g2 _ σ l02 (o2.set c2 k1 (by rw [List.length_append, ← k4.len]; exact hl) (k4.app (.cons r2 .nil))) rs2
  · cases c3
end
end Fo
end -- FoStmt

section -- FoFn
set_option Elab.async false
set_option linter.all false
set_option maxRecDepth 100000
set_option maxHeartbeats 1000000
/-! FoFn: branches, loops, returns; calls; a def keeps what the evaluator says. -/
namespace Fo
open PySem L2 Evl PyProof.Rows
section
variable {K : PySem.W.Frag} {ad : Nat → Option Addr} {lm : Lm} {Ek : XK} {X : Cx} {cl : Cl} {pos : Pos} {g g0 g1 g' : G} {H H1 : Hp} {st st1 : Store} {fr : Bool} {σ : L2.St} {sl : Slots}
variable {e a b : Expr} {ie ia ib : E} {i : Nat} {x : Str} {p : Pos} {ss1 ss2 : List Stmt} {i1 i2 : Ss}
theorem st_if (hc : PT X e (tBv X.K ad lm Ek cl ie)) (h1 : PSs X ss1 (tSv X.K ad lm fr Ek (evSs cl i1))) (h2 : PSs X ss2 (tSv X.K ad lm fr Ek (evSs cl i2))) : PS X (.If e ss1 ss2 pos) (tSv X.K ad lm fr Ek (evS cl (.ifs ie i1 i2))) := by
  refine PSimp (ps_if hc h1 h2) fun D σ H q => ?_
  obtain ⟨g, sl, st, ho, rs, f⟩ := q
  unfold evS at f
  rw [← bnd_assoc] at f
  refine tv_bind (m := fun sl => bnd (evE cl ie sl) asB) (Le.refl g) ho rs f fun k st1 g1 H1 l0 l1 o1 rs1 f1 => ?_
  cases k with
  | true =>
    rw [if_pos rfl] at f1 ⊢
    exact sv_go l0 o1 rs1 f1
  | false =>
    rw [if_neg Bool.false_ne_true] at f1 ⊢
    exact sv_go l0 o1 rs1 f1
theorem st_ret (he : PE X e (tEv X.K ad lm Ek (evE cl ie))) : PS X (.Return (some e) pos) (tSv X.K ad lm false Ek (evS cl (.ret ie))) := by
  refine PSimp (ps_ret he) fun D σ H q => ?_
  obtain ⟨g, sl, st, ho, rs, f⟩ := q
  unfold evS at f
  refine ⟨g, sl, st, ho, rs, f.bnd.imp (fun v s f => ?_) fun _ _ w => w⟩
  cases v with
  | d x => exact f
  | r l => exact f
  | ls => exact f.elim
theorem st_retF (he : PE X e (tFr X.K ad lm Ek (evE cl ie))) (hv : ∀ sl st v st', evE cl ie sl st = some (.ok v st') → ∃ xs, v = .d (.lst xs)) : PS X (.Return (some e) pos) (tSv X.K ad lm true Ek (evS cl (.ret ie))) := by
  refine PSimp (ps_ret he) fun D σ H q => ?_
  obtain ⟨g, sl, st, ho, rs, f⟩ := q
  unfold evS at f
  refine ⟨g, sl, st, ho, rs, ?_⟩
  have f := f.bnd
  cases em : evE cl ie sl st with
  | none => rw [em] at f; exact f
  | some r =>
    rw [em] at f
    cases r with
    | ex x s => exact f
    | ok v s =>
      obtain ⟨xs, ev⟩ := hv sl st v s em
      subst ev
      exact f
theorem st_retC (he : PE X e (tEv X.K ad lm Ek (evE cl (.slot i)))) : PS X (.Return (some e) pos) (tSv X.K ad lm fr Ek (evS cl (.retC i))) := by
  refine PSimp (ps_ret he) fun D σ H q => ?_
  obtain ⟨g, sl, st, ho, rs, f⟩ := q
  unfold evS at f
  refine ⟨g, sl, st, ho, rs, ?_⟩
  unfold evE
  cases em : sl[i]? with
  | none => rw [em] at f; exact f
  | some o =>
    rw [em] at f
    cases o with
    | none => exact f
    | some v =>
      cases v with
      | d x => exact f.elim
      | ls => exact f.elim
      | r l => exact f
theorem st_ex (he : PE X e (tEv X.K ad lm Ek (evE cl ie))) (hs : swapsWith e none pos.line X.env = pure false) : PS X (.Expr e pos) (tSv X.K ad lm fr Ek (evS cl (.ex ie))) := by
  refine PSimp (ps_expr he hs) fun D σ H q => ?_
  obtain ⟨g, sl, st, ho, rs, f⟩ := q
  unfold evS at f
  refine ev_bind (Le.refl g) ho rs f fun o st1 g1 H1 w1 l0 l1 o1 rs1 r1 f1 => ?_
  exact f1 g1 H1 σ l0 o1 rs1
theorem st_pass : PS X (.Pass pos) (tSv X.K ad lm fr Ek (evS cl .pass)) := PSimp ps_pass fun D σ H q => by
  obtain ⟨g, sl, st, ho, rs, f⟩ := q
  unfold evS at f
  exact f g H σ (Le.refl g) ho rs
theorem st_cont : PS X (.Continue pos) (tSv X.K ad lm fr Ek (evS cl .cont)) := PSimp ps_continue fun D σ H q => by
  obtain ⟨g, sl, st, ho, rs, f⟩ := q
  unfold evS at f
  exact f g H σ (Le.refl g) ho rs
theorem st_never {s : Stmt} : PS X s (tSv X.K ad lm fr Ek (evS cl .never)) := PSimp ps_never fun D σ H q => by
  obtain ⟨g, sl, st, ho, rs, f⟩ := q
  unfold evS at f
  exact f.elim
/-! ### loops -/
theorem rd_weak {tg : Tg} {v : V} {σ : L2.St} {H : Hp} {Q Q' : L2.St → Hp → Prop} (h : gRd K tg v σ H Q) (i : ∀ σ' H', Q σ' H' → Q' σ' H') : gRd K tg v σ H Q' := by
  cases tg with
  | n j => exact i _ _ h
  | t is =>
    rcases h with ⟨a, xs, e, s, hl, q⟩ | ⟨a, xs, e, s, hl, q⟩
    · exact .inl ⟨a, xs, e, s, hl, names_out.names_imp q i⟩
    · exact .inr ⟨a, xs, e, s, hl, names_out.names_imp q i⟩
variable {tg iter : Expr} {body : List Stmt} {w : W} {tgt : Tg} {ib' : Ss}
theorem st_for (hp : PassesOwn (model X.prog X.w) X.A X.env X.xe) (hc : X.calm = true) (hi : PI X tg iter (tWk X.K ad lm Ek (evW cl w))) (hg : PG X tg (gRd X.K tgt)) (hb : PSs X body (tSv X.K ad lm fr Ek (evSs cl ib'))) (hs : ∀ x, foldedSetIterable iter X.env x = pure x) :
    PS X (.For tg iter body [] pos) (tSv X.K ad lm fr Ek (evS cl (.for tgt w ib'))) := by
  refine PSimp (ps_for hp hc hi hg hb hs) fun D σ H q => ?_
  obtain ⟨g, sl, st, ho, rs, f⟩ := q
  unfold evS at f
  refine ⟨g, sl, st, ho, rs, f.bnd.imp (fun xs st1 h g1 H1 J l1 o1 wk => ?_) fun _ _ w => w⟩
  let go := forGo tgt (evSs cl ib')
  let Pv : Nat → L2.St → Hp → Prop := fun i σ H => ∃ g' sl' st', Le g1 g' ∧ OK X.K ad g' H st' ∧ RepSl X.K ad lm g' sl' σ ∧ Fin (go (xs.drop i) sl' st') (Po X.K ad lm fr g D) (Wx X.K ad g Ek)
  refine for_it wk Pv ⟨g1, sl, st1, Le.refl _, o1, rs.mono l1, h⟩ ?_ ?_ ?_
  · rintro i σ H _ ⟨g', sl', st', l2, o2, _⟩
    exact l2.ex.trans o2.ex
  · rintro i x σ H H' hi ⟨g', sl', st', l2, o2, rs2, h2⟩ ⟨x', ex, it⟩
    have hdr : xs.drop i = x' :: xs.drop (i + 1) := by
      obtain ⟨hb, e⟩ := List.getElem?_eq_some_iff.mp ex
      rw [List.drop_eq_getElem_cons hb, e]
    obtain ⟨g3, l3, o3, rx⟩ := it.get l2.ex o2
    rw [hdr] at h2
    have h2 : Fin ((match bindT tgt x' sl' with
      | none => stk
      | some sl'' => bnd (evSs cl ib' sl'') fun o => match o with
        | .nx s => go (xs.drop (i + 1)) s
        | .ct s => go (xs.drop (i + 1)) s
        | .rt v => ok (.rt v)) st') (Po X.K ad lm fr g D) (Wx X.K ad g Ek) := h2
    cases hb : bindT tgt x' sl' with
    | none => rw [hb] at h2; exact h2.elim
    | some sl'' =>
      rw [hb] at h2
      refine bind_ok o3 hb rx (rs2.mono l3) fun σ2 r2 => ?_
      have l03 : Le g g3 := (l1.trans l2).trans l3
      refine ⟨g3, sl'', st', o3, r2, h2.bnd.imp (fun o s f => ?_) fun x s w => w.mono l03⟩
      cases o with
      | nx s2 => exact fun g4 H4 σ4 l4 o4 r4 => ⟨g4, s2, s, (l2.trans l3).trans l4, o4, r4, f⟩
      | ct s2 => exact fun g4 H4 σ4 l4 o4 r4 => ⟨g4, s2, s, (l2.trans l3).trans l4, o4, r4, f⟩
      | rt v => exact Prt.mono l03 f
  · rintro σ H ⟨g', sl', st', l2, o2, rs2, h2⟩
    rw [List.drop_length] at h2
    exact h2 g' H σ (l1.trans l2) o2 rs2
theorem st_whl (hp : PassesOwn (model X.prog X.w) X.A X.env X.xe) (hc : PT X e (tBv X.K ad lm Ek cl ie)) (hb : PSs X body (tSv X.K ad lm fr Ek (evSs cl ib'))) : PS X (.While e body [] pos) (tSv X.K ad lm fr Ek (evS cl (.whl ie ib'))) := by
  refine PSimp (ps_while hp hc hb) fun D σ H q => ?_
  obtain ⟨g, sl, st, ho, rs, f⟩ := q
  unfold evS at f
  let go := whlGo (fun s => bnd (evE cl ie s) asB) (evSs cl ib')
  refine ⟨fun m σ H => ∃ g' sl' st', Le g g' ∧ OK X.K ad g' H st' ∧ RepSl X.K ad lm g' sl' σ ∧ Fin (go m sl' st') (Po X.K ad lm fr g D) (Wx X.K ad g Ek), ⟨fuel, g, sl, st, Le.refl g, ho, rs, f⟩, ?_⟩
  rintro m σ H ⟨g', sl', st', l2, o2, rs2, h2⟩
  cases m with
  | zero => exact h2.elim
  | succ m =>
    have h2 : Fin (bnd (bnd (evE cl ie sl') asB) (fun k => if k = true then bnd (evSs cl ib' sl') fun o => match o with
      | .nx s => go m s
      | .ct s => go m s
      | .rt v => ok (.rt v)
      else ok (.nx sl')) st') (Po X.K ad lm fr g D) (Wx X.K ad g Ek) := h2
    refine tv_bind (m := fun sl => bnd (evE cl ie sl) asB) l2 o2 rs2 h2 fun k st3 g3 H3 l03 l3 o3 rs3 f3 => ?_
    cases k with
    | true =>
      rw [if_pos rfl] at f3 ⊢
      refine ⟨fun σ' H' => ∃ g' sl' st', Le g g' ∧ OK X.K ad g' H' st' ∧ RepSl X.K ad lm g' sl' σ' ∧ Fin (go m sl' st') (Po X.K ad lm fr g D) (Wx X.K ad g Ek), fun σ' H' h => ⟨m, Nat.lt_succ_self m, h⟩, ?_⟩
      refine ⟨g3, sl', st3, o3, rs3, f3.bnd.imp (fun o s f => ?_) fun x s w => w.mono l03⟩
      cases o with
      | nx s2 => exact fun g4 H4 σ4 l4 o4 r4 => ⟨g4, s2, s, l03.trans l4, o4, r4, f⟩
      | ct s2 => exact fun g4 H4 σ4 l4 o4 r4 => ⟨g4, s2, s, l03.trans l4, o4, r4, f⟩
      | rt v => exact Prt.mono l03 f
    | false =>
      rw [if_neg Bool.false_ne_true] at f3 ⊢
      exact f3 g3 H3 σ l03 o3 rs3
/-! ### calls -/
def spF (K : PySem.W.Frag) (ad : Nat → Option Addr) (fr : Bool) (m : List SV → M SV) : Sp := fun vs H Q E =>
  ∃ g args st, OK K ad g H st ∧ RepSs K ad g args vs ∧ Fin (m args st) (if fr = true then Pf K ad g Q else Px K ad g Q) (Wx K ad g E)
theorem ints_rep (ds : List Int) : RepSs K ad g (ds.map fun i => .d (.int i)) (ds.map V.int) := by
  induction ds with
  | nil => exact .nil
  | cons d ds ih => exact .cons (x := .d (.int d)) (.int d) ih
theorem call_read {f : Nat} {ies : Es} {ds : List Int} {Q : VK} (h : tEv K ad lm Ek (evE cl (.call f ies ds)) σ H Q) : tCall (spF K ad false (cl f)) (ds.map V.int) Ek (tAv K ad lm Ek (evs cl ies)) σ H Q := by
  obtain ⟨g, sl, st, ho, rs, f⟩ := h
  unfold evE at f
  refine av_bind (Le.refl g) ho rs f fun vs st1 g1 H1 ws l0 l1 o1 rs1 r1 f1 => ?_
  exact ⟨g1, _, st1, o1, r1.app (ints_rep ds), f1.imp (fun v s h => h.mono l0) fun x s w => w.mono l0⟩
theorem callF_read {f : Nat} {ies : Es} {ds : List Int} {Q : VK} (h : tFr K ad lm Ek (evE cl (.call f ies ds)) σ H Q) : tCall (spF K ad true (cl f)) (ds.map V.int) Ek (tAv K ad lm Ek (evs cl ies)) σ H Q := by
  obtain ⟨g, sl, st, ho, rs, f⟩ := h
  unfold evE at f
  refine av_bind (Le.refl g) ho rs f fun vs st1 g1 H1 ws l0 l1 o1 rs1 r1 f1 => ?_
  exact ⟨g1, _, st1, o1, r1.app (ints_rep ds), f1.imp (fun v s h => h.mono l0) fun x s w => w.mono l0⟩
end
/-! ### a def -/
section
variable {K : PySem.W.Frag} {ad : Nat → Option Addr} {lm : Lm} {cl : Cl} {g : G} {H : Hp} {st : Store}
theorem RepSs.slots {args : List SV} {vs : List V} {n : Nat} (r : RepSs K ad g args vs) : RepSl K ad lm g (args.map some ++ List.replicate (n - args.length) none) (vs.map some ++ List.replicate (n - vs.length) none) := by
  have hl := r.len
  refine ⟨by simp [hl], fun i v e => ?_⟩
  have key : ∀ {xs : List SV} {ws : List V}, RepSs K ad g xs ws → ∀ (i : Nat) (v : SV), xs[i]? = some v → ∃ w, ws[i]? = some w ∧ RepS K ad g v w := by
    intro xs ws r
    induction r with
    | nil => intro i v e; simp at e
    | cons a b ih =>
      intro i v e
      cases i with
      | zero => simp at e; subst e; exact ⟨_, rfl, a⟩
      | succ i =>
        obtain ⟨w, h1, h2⟩ := ih i v (by simpa using e)
        exact ⟨w, by simpa using h1, h2⟩
  by_cases hi : i < args.length
  · rw [List.getElem?_append_left (by simpa using hi), List.getElem?_map] at e
    cases e1 : args[i]? with
    | none => rw [e1] at e; cases e
    | some u' =>
      rw [e1] at e
      cases e
      obtain ⟨w, h1, h2⟩ := key r i _ e1
      refine ⟨w, ?_, h2.v⟩
      rw [List.getElem?_append_left (by rw [List.length_map, ← hl]; exact hi), List.getElem?_map, h1]
      rfl
  · rw [List.getElem?_append_right (by simpa using hi), List.getElem?_replicate] at e
    split at e <;> cases e
/-- what is wanted behind the body, from what is wanted of the call -/
theorem fin_back {fr : Bool} {v : SV} {Q : VK} {W : Exc → Store → Prop} {st' : Store} {n : Nat} (hn : n = g.r.length) (h : Fin (fin n v st') (if fr = true then Pf K ad g Q else Px K ad g Q) W) : Prt K ad fr g Q v st' := by
  subst hn
  have tk : ∀ {g' : G} {a : Addr}, Free g' a → Free ⟨g'.F, g'.r.take g.r.length, g'.p⟩ a := fun {g' a} fr => ⟨fr.1, fun z => fr.2.1 (by
    have e : g'.r.flatten = (g'.r.take g.r.length).flatten ++ (g'.r.drop g.r.length).flatten := by rw [← List.flatten_append, List.take_append_drop]
    rw [e]
    exact List.mem_append_left _ z), fr.2.2⟩
  cases v with
  | ls => exact h.elim
  | d x =>
    cases fr with
    | true =>
      have h : Pf K ad g Q (.d x) (st'.take g.r.length) := h
      obtain ⟨xs, e, h⟩ := h
      exact ⟨xs, e, fun g' H' p vs l o hp fe hl r => h ⟨g'.F, g'.r.take g.r.length, g'.p⟩ H' p vs l.take (o.take _) hp (tk fe) hl r⟩
    | false =>
      have h : Px K ad g Q (.d x) (st'.take g.r.length) := h
      exact fun g' H' w l o r => h ⟨g'.F, g'.r.take g.r.length, g'.p⟩ H' w l.take (o.take _) r
  | r l =>
    unfold fin at h
    by_cases hl : l < g.r.length
    · simp only [if_pos hl] at h
      exact h.elim
    · simp only [if_neg hl] at h
      intro g' H' w le o rw'
      cases e : st'[l]? with
      | none => simp only [e] at h; exact h.elim
      | some c =>
        cases c with
        | lst xs =>
          simp only [e] at h
          obtain ⟨a, vs, d1, d2, d3, d4⟩ := cell_at o e
          have ew := rw'.2 a [] d1
          subst ew
          have fa : Free ⟨g'.F, g'.r.take g.r.length, g'.p⟩ a := by
            have inn : a ∈ g'.r.flatten := List.mem_flatten.mpr ⟨_, List.mem_of_getElem? d1, by simp⟩
            refine ⟨o.dj a inn, fun z => ?_, fun q hq z => (o.pr q hq).2.2 (by rw [z]; exact inn)⟩
            obtain ⟨j, as, j1, j2⟩ := mem_flat z
            have j1 : (g'.r.take g.r.length)[j]? = some as := j1
            rw [List.getElem?_take] at j1
            split at j1
            · rename_i hj
              have := nodup_flat_at o.nd d1 j1 (by simp) j2
              omega
            · cases j1
          cases fr with
          | true =>
            have h : Pf K ad g Q (.d (.lst xs)) (st'.take g.r.length) := h
            obtain ⟨xs', e1, h⟩ := h
            cases e1
            exact h _ H' a vs le.take (o.take _) d2 fa d3 d4
          | false =>
            have h : Px K ad g Q (.d (.lst xs)) (st'.take g.r.length) := h
            obtain ⟨o2, l2⟩ := (o.take g.r.length).froz d2 fa
            exact h _ H' _ (le.take.trans l2) o2 (Rep.lstNew d3 l2.ex d4 upd_same)
        | obj c fs => simp only [e] at h; exact h.elim
        | dead => simp only [e] at h; exact h.elim
theorem run_back {fr : Bool} {fn : Fn} {args : List SV} {vs : List V} {Q : VK} {E : XK} (o : OK K ad g H st) (ra : RepSs K ad g args vs) (h : Fin (run cl fn args st) (if fr = true then Pf K ad g Q else Px K ad g Q) (Wx K ad g E)) :
    args.length = fn.np ∧ tSv K ad lm fr E (evSs cl fn.body) { nx := fun _ H' => Q .non H', rt := Q } (vs.map some ++ List.replicate (fn.N.length - vs.length) none) H := by
  unfold run at h
  by_cases hl : args.length = fn.np
  case neg => rw [if_neg hl] at h; exact h.elim
  rw [if_pos hl] at h
  refine ⟨hl, g, _, st, o, ra.slots (n := fn.N.length), ?_⟩
  have wx : ∀ x s, Wx K ad g E x (s.take st.length) → Wx K ad g E x s := fun x s h g' H' cls d l o' r => h ⟨g'.F, g'.r.take g.r.length, g'.p⟩ H' cls d l.take (by rw [← o.len]; exact o'.take _) r
  generalize evSs cl fn.body (args.map some ++ List.replicate (fn.N.length - args.length) none) st = res at h ⊢
  cases res with
  | none => exact h
  | some r =>
    cases r with
    | ex x s => exact wx x s h
    | ok out s =>
      cases out with
      | rt v => exact fin_back o.len.symm h
      | ct s2 => exact h.elim
      | nx s2 =>
        have p := fin_back (v := .d .non) o.len.symm h
        intro g' H' σ' l o' rs'
        cases fr with
        | true =>
          obtain ⟨xs, e, _⟩ : Pf K ad g Q (.d .non) s := p
          cases e
        | false => exact p g' H' .non l o' .non
theorem run_len {fr : Bool} {fn : Fn} : ∀ vs H Q E, spF K ad fr (run cl fn) vs H Q E → vs.length = fn.np := fun vs H Q E h => by
  obtain ⟨g, args, st, o, ra, h⟩ := h
  rw [← ra.len]
  exact (run_back (lm := ⟨"", [], fun _ => none⟩) o ra h).1
/-- the lambdas of a def, as it starts -/
def lmE (env : PySem.Env) : Lm := ⟨env.qual ++ "<lambda>", env.cells, fun _ => none⟩
/-- THE RULE: a def keeps what the evaluator says of it -/
theorem fnG_of {P : Program} {w : World} {mg : Str → Option Value} {base : Heap} {n : Nat} {f : Addr} {name qual : Str} {params : Arguments} {body : List Stmt} {scope : Scope} {dvs : List V} {kws : List (Str × V)} {fd : FuncData} {ps : List Str} {N : List Str} {fn : Fn} {fr : Bool}
    (F : FunD K name qual params body scope dvs kws f fd) (S : FnScope N ps scope) (hps : ps.length = fn.np) (hN : N.length = fn.N.length)
    (hb : ∀ (cdv : Value), (∃ oc od dV kV doc pm an ct osl, K.lookup f = some ⟨oc, od, .func (PySem.W.fnOf name qual params body scope dV kV doc pm an cdv ct), osl⟩ ∧ PySem.W.codeIn K cdv qual = true) → ∀ (A : Around) (outer : List Env) (s : Shared) (H : Hp) (E : XK), A.guards = some [] → A.frames = some outer → Room n (A.deeper (envOfC qual scope s.heap.objs.size f cdv)) →
      PSs (cxOf (L2.CX P w) P w K mg base N qual scope f cdv A outer s H E) body (tSv K ad (lmE (envOfC qual scope s.heap.objs.size f cdv)) fr E (evSs cl fn.body))) :
    FnG P w K mg base (L2.CX P w) (n + 1) f fd ps (spF K ad fr (run cl fn)) := by
  refine ⟨fun vs H Q E h => (run_len vs H Q E h).trans hps.symm, fun A outer s H args us vs Q E hgd hr e0 hbd rv hsp => ?_⟩
  obtain ⟨oc, od, dV, kV, doc, pm, an, cdv, ct, osl, rfl, lk, hcd, _, _⟩ := F.ex
  have hl : vs.length = ps.length := (run_len vs H Q E hsp).trans hps.symm
  have keep := fun b o e => (e0.bs b o e).1
  have KX : K.In s.heap := e0.mod.kin.keeps keep
  have lim : s.heap.NoLimit := e0.mod.nolimit.keeps keep
  have kinds : ∀ y ∈ ps.zip us, scope.names.lookup y.1 = some .local ∨ (scope.names.lookup y.1 = some .cell ∧ ((cellsFrom (s.heap.objs.size + 1) scope.names []).lookup y.1).isSome = true) := by
    rintro ⟨m, v⟩ hy
    rcases S.par m (List.of_mem_zip hy).1 with q | q
    · exact .inl q
    · exact .inr ⟨q, PySem.W.cellsFrom_some _ _ _ (.inl q)⟩
  refine codeAny_call_function hr.depth (KX _ _ lk) rfl S.co S.gen rfl (PySem.W.codeRec_of KX hcd) (hbd _ _ _ _ (wpAny_newFunctionEnv_cells S.kind kinds ?_))
  intro env henv s1 x
  subst henv
  refine ⟨lim.keeps x.toInCall.keep, codeAny_func ?_⟩
  obtain ⟨g, args', st, o, ra, h⟩ := hsp
  have hq := (run_back (lm := lmE (envOfC qual scope s.heap.objs.size f cdv)) o ra h).2
  have hst : vs.map some ++ List.replicate (fn.N.length - vs.length) none = L2.start N vs := by unfold L2.start; rw [hN]
  rw [hst] at hq
  have I : Inv (cxOf (L2.CX P w) P w K mg base N qual scope f cdv A outer s H E) [] (L2.start N vs) H s1 := inv_start S hr.hd e0 hl rv x
  refine wpAny_mono ((hb cdv ⟨oc, od, dV, kV, doc, pm, an, ct, osl, lk, hcd⟩ A outer s H E hgd e0.frames (hr.deeper _)).run [] s1 (L2.start N vs) H _ I hq) (fun fl s' hs => ?_) fun e s' hs => hs
  have back : ∀ {σ' : L2.St} {H' : Hp} {v : V} {u : Value}, Inv (cxOf (L2.CX P w) P w K mg base N qual scope f cdv A outer s H E) [] σ' H' s' → RelV v u → Q v H' → CE outer P w H s Q u s' := fun J r q => ⟨_, _, J.os, J.bare, J.base, J.hok, r, q⟩
  match fl, hs with
  | .ret u, hs =>
    obtain ⟨v, σ', H', J, r, q⟩ := hs
    exact back J r q
  | .next, hs =>
    obtain ⟨σ', H', J, q⟩ := hs
    exact back (v := V.non) (u := Value.none) J rfl q
  | .brk, hs =>
    obtain ⟨_, _, _, q⟩ := hs
    exact q.elim
  | .cont, hs =>
    obtain ⟨_, _, _, q⟩ := hs
    exact q.elim
end
end Fo
end -- FoFn

section -- FoExc
set_option Elab.async false
set_option linter.all false
set_option maxRecDepth 100000
set_option maxHeartbeats 2000000
/-! FoExc: C(v), where C's own __init__ says super().__init__(..), self.f = v (machine level). -/
namespace PySem
namespace FX
open PySem.W PySem.Calls PyProof.Rows PySem.Spec
section
open Builtin Builtin.ObjectAttr
variable {prog : Program} {w : World} {M : Model} {A : Around} {E : Value → Shared → Prop}
theorem drop_own (C : Addr) (l : List Value) : ((Value.ref C :: l).dropWhile (· != .ref C)).drop 1 = l := by
  simp [List.dropWhile_cons]
/-- super().__init__(text): the wrapper is called -/
theorem mw_call {hp : Heap} {g : Array GenState} {d : Drawn} {t : Nat} {os : OsState} {B newId initId : String} {bmB : List Value} {nm q : Str} {C N : Addr} {bs bm : List Value} {hdct : Bool} {sn : List Str} {sub : List Value} {ab : Bool} {col : Option Bool} {dd : Option Addr} {k0 k1 k2 k3 k5 : Option Value} {u e t0 : Addr} {rest : List Value} {Q : Value → Shared → Prop}
    (FB : ExcBaseFacts B newId initId bmB) (hC : hp.get? C = some (excClassObj nm q C N bs bm hdct sn sub ab col dd k0 k1 k2 k3 k5 newId)) (he : hp.get? e = some (excObj C t0 none .none)) (hu : hp.get? u = some (kxs_mw initId e)) (hz : rest.length ≤ sizeLine)
    (hq : ∀ h' t1, (∀ b o, b ≠ e → hp.get? b = some o → h'.get? b = some o) → h'.get? e = some (excObj C t1 none .none) → Q .none ⟨h', g, d, t, os⟩) :
    wpAny (model prog w) A (call (.ref u) rest) Q E ⟨hp, g, d, t, os⟩ := by
  refine wpAny_call (codeAny_of_tree ?_)
  show wpAny _ A.in1 (callAny (.ref u) ⟨rest, []⟩) _ _ _
  simp only [callAny]
  refine wpAny_bind (wpAny_load hu ?_)
  simp only [kxs_mw, show (Value.type "method-wrapper" == Value.type "method" || Value.type "method-wrapper" == Value.type "builtin_function_or_method" || Value.type "method-wrapper" == Value.type "method-wrapper") = true by decide, if_true]
  refine KFB.if_so (by decide) ?_
  refine wpAny_bind (check_bound_init FB.toExcCallFacts hC he rfl ?_)
  refine wpAny_bind (wpAny_pure (wpAny_pure ?_))
  refine ⟨plainId_quiet FB.init.plain _, codeAny_builtin FB.initEntry ?_⟩
  exact exc_init_tree (cls := .ref C) (t0 := t0) (dv := none) (c2 := .none) (c3 := .none) (b4 := .bool false) he hz fun h' k e' _ => hq h' hp.objs.size k e'
/-- self.f = v, the first one -/
theorem set_first {s : Shared} {K : Frag} {B : String} {bmB : List Value} {C x : Addr} {fv : Array Value} {cd : ClassData} {f : Str} {v : Value} {Q : Unit → Shared → Prop} (SF : StoreFacts B bmB "object.__setattr__" "object") (X : K.In s.heap)
    (hx : s.heap.get? x = some { cls := .ref C, data := .fields fv }) (hcd : clsIn K C = some cd) (hh : cd.hasDict = true) (hp : excOver K C bmB = true) (ha : findIn K (.ref C) f = some none)
    (hs : findIn K (.ref C) "__setattr__" = some (some (.builtin "object.__setattr__")))
    (hq : ∀ h' tk' dx, (∀ b o, b ≠ x → s.heap.get? b = some o → h'.get? b = some o) → s.heap.objs.size ≤ dx → dx ≠ x → h'.get? x = some { cls := .ref C, dict := some dx, data := .fields fv } →
      h'.Ns1 dx (fun y => if y = f then some v else none) → Q () { s with heap := h', toks := tk' }) :
    wpAny (model prog w) A (setAttr (.ref x) f v) Q E s := by
  have I : InstAt s.heap x { cls := .ref C, data := .fields fv } C none := ⟨hx, rfl, rfl, trivial⟩
  have hxs : x ≠ s.heap.objs.size := Nat.ne_of_lt (Heap.lt_size hx)
  refine set_plain X I hs ?_
  have I2 : InstAt ({ s with toks := s.toks + 1 } : Shared).heap x { cls := .ref C, data := .fields fv } C none := I
  refine osa_openX (r := none) SF X I2 hp (by unfold takerIn; rw [ha]; rfl) fun b => ?_
  have hcls : Looks (model prog w) s.heap (classData C) cd := looks_clsIn X hcd
  obtain ⟨hp', g, d, t, os⟩ := s
  obtain ⟨nm, bs, mro, ns, qn, hd, sn, sb, ab, col, del⟩ := cd
  dsimp only at hh
  subst hh
  dsimp only
  unfold storeInOwnDict ownDictForStores
  repeat (first | with_reducible refine HandSPX.store_in_new ?_ ?_ | with_reducible refine wpAny_loadPart_at hx ?_ | with_reducible refine hcls.at ?_ | wp_step)
  · exact ⟨_, #[], _, (Heap.get?_update_ne _ _ _ _ hxs.symm).trans (Heap.get?_push_at rfl rfl), rfl, fun e he => absurd he (by simp), fun _ => rfl⟩
  · intro h' tk' hn' hs
    have hx₁ : (hp'.push { cls := .type "dict", data := .dict #[] }).get? x = some { cls := .ref C, data := .fields fv } := Heap.get?_push_of_some _ hx
    refine hq h' tk' hp'.objs.size (fun b o hb ho => ?_) (Nat.le_refl _) hxs.symm ?_ hn'
    · exact (hs.2 b (Nat.ne_of_lt (Heap.lt_size ho))).trans ((Heap.get?_update_ne _ _ _ _ hb).trans (Heap.get?_push_of_some _ ho))
    · exact (hs.2 x hxs).trans (Heap.get?_update_self _ hx₁ rfl)
/-- what the written part tells of the class at C, over the built-in B, its __init__ at fI -/
structure SuC (K : Frag) (P : Program) (C fI : Addr) (B newId initId : String) (bmB : List Value) (qF : Str) (params : Arguments) (body : List Stmt) (scope : Scope) : Prop where
  cls : ∃ nm q N bs sn sub ab col dd k0 k1 k2 k3 k5, K.lookup C = some (excClassObj nm q C N bs bmB true sn sub ab col dd k0 k1 k2 k3 k5 newId)
  fn : ∃ oc od nF kV doc pm an cda ct cc osl, K.lookup fI = some ⟨oc, od, .func (ksFn nF qF params body scope .none kV doc pm an (.ref cda) ct cc), osl⟩ ∧ codeIn K (.ref cda) qF = true ∧
    (∃ cl cld csl, K.lookup cc = some ⟨cl, cld, .cell (some (.ref C)), csl⟩) ∧ ∃ (ccl : Value) (cdd : Option Addr) (vs : Array Value) (ccs : Array (Option Value)) (file : Str) (tf : Tok), K.lookup cda = some ⟨ccl, cdd, .fields vs, ccs⟩ ∧ vs[2]? = some (.str file tf) ∧ ((P.main.file : Str) == file) = true
  ini : findIn K (.ref C) "__init__" = some (some (.ref fI))
  tyF : typeIn K (.ref fI) = some (.type "function")
  sa : findIn K (.ref C) "__setattr__" = some (some (.builtin "object.__setattr__"))
  any : nsIn K cStatics "thirdparty.any" = some none
  sub : subIn K (.ref C) (.type B) = some true
  mro : mroIn K C (.ref C) = some true
  over : excOver K C bmB = true
  sup : nsIn K mainGlobals "super" = some none
  along : alongIn K "__init__" bmB = some (some (.builtin initId))
/-- __init__(self, par): super().__init__(msg); self.f = par -/
structure SuT (P : Program) (slf par f : Str) (msg : Expr) (params : Arguments) (body : List Stmt) (scope : Scope) : Prop where
  body : ∃ p0 p1 p2 p3 p4 p5 p6 p7 p8, body = [.Expr (.Call (.Attribute (.Call (.Name "super" p0) [] [] p1) "__init__" p2) [msg] [] p3) p4, .Assign [.Attribute (.Name slf p5) f p6] (.Name par p7) p8] ∧
    ∀ env, ∃ pl : Sem Bool, eval (.Call (.Attribute (.Call (.Name "super" p0) [] [] p1) "__init__" p2) [msg] [] p3) env = (do
      let ov ← attributeBase (.Call (.Name "super" p0) [] [] p1) "__init__" env (eval (.Call (.Name "super" p0) [] [] p1) env)
      standAt p2.atName
      let (f, first) ← holding [ov] (getMethod ov "__init__" pl)
      callWith p3 f first (backTo p3 (starEach [msg] env)) [])
  ar : ∃ ar, (params.posonlyargs ++ params.args).head? = some ar ∧ ar.arg = slf
  hks : scope.names.lookup ("super" : Str) = some .globalImplicit
  hkc : scope.names.lookup ("__class__" : Str) = some .free
  hsl : scope.names.lookup slf = some .local
  hpl : scope.names.lookup par = some .local
  ne : slf ≠ par
  cell : ∀ x ∈ scope.names, x.2 ≠ .cell
  co : scope.isCoroutine = false
  gen : scope.isGenerator = false
  kind : scope.kind = .function
  dbg : (slf == ("__debug__" : Str)) = false ∧ (par == ("__debug__" : Str)) = false
  top : (P.main.scope.names.lookup ("super" : Str)).isSome = false
  star : ∀ env, starEach [msg] env = [(false, eval msg env)]
theorem lookP {K : Frag} {C : Addr} {o : Obj} (h : K.lookup C = some o) {hp : Heap} (X : K.In hp) : hp.get? C = some o := X _ _ h
theorem mk_super {s : Shared} {K : Frag} {C fI : Addr} {B newId initId : String} {bmB : List Value} {qF slf par f : Str} {msg : Expr} {params : Arguments} {body : List Stmt} {scope : Scope} {mg mb : Str → Option Value} {v : Value} {Q : Value → Shared → Prop}
    (FB : ExcBaseFacts B newId initId bmB) (KF : KxsFacts B initId) (SF : StoreFacts B bmB "object.__setattr__" "object") (S : SuC K prog C fI B newId initId bmB qF params body scope) (T : SuT prog slf par f msg params body scope) (ha : findIn K (.ref C) f = some none)
    (X : K.In s.heap) (hg : s.heap.Ns mainGlobals mg) (hb : s.heap.Ns builtinsNs mb) (hbb : ∀ x : Str, x ≠ "__name__" → mb x = bootBuiltins x) (hlim : s.heap.NoLimit) (hroom : A.depth + 10 < recursionLimit)
    (hbind : ∀ (s' : Shared) (e : Addr) (nF : Str) (kV doc pm : Value) (an : Option Addr) (cdv ct : Value) (cc : Addr), BindsTo s' (ksFn nF qF params body scope .none kV doc pm an cdv ct cc) ⟨[.ref e, v], []⟩ [(slf, .ref e), (par, v)])
    (hmsg : ∀ (A' : Around) (env : Env) (s' : Shared) (m : Str → Option Value) (E' : Value → Shared → Prop) (Q' : Value → Shared → Prop), (∀ b o, s.heap.get? b = some o → s'.heap.get? b = some o) → env.scope = scope → env.scope.kind = .function → s'.heap.Ns env.locals m → m par = some v → A'.guards = A.guards → A'.units ≤ A.units + 20 →
      (∀ h' u tk txt, (∀ b o, s'.heap.get? b = some o → h'.get? b = some o) → Q' (.str txt u) { s' with heap := h', toks := tk }) → wpAny (model prog w) A' (eval msg env) Q' E' s')
    (h : ∀ e dx h' tk, (∀ b o, s.heap.get? b = some o → h'.get? b = some o) → s.heap.get? e = none → s.heap.objs.size ≤ e → s.heap.objs.size ≤ dx → dx ≠ e → (∃ t, h'.get? e = some (excObj C t (some dx) .none)) → h'.Ns1 dx (fun y => if y = f then some v else none) → Q (.ref e) { s with heap := h', toks := tk }) :
    wpAny (model prog w) A (call (.ref C) [v]) Q E s := by
  obtain ⟨nm, q, N, bs, sn, sub, ab, col, dd, k0, k1, k2, k3, k5, hC⟩ := S.cls
  obtain ⟨oc, od, nF, kV, doc, pm, an, cda, ct, cc, osl, hF, hcd, ⟨cl, cld, csl, hcc⟩, ccl, cdd, vs, ccs, file, tf, hcda, hvs, hfile⟩ := S.fn
  obtain ⟨p0, p1, p2, p3, p4, p5, p6, p7, p8, hbody, hev⟩ := T.body
  obtain ⟨ar, har, hars⟩ := T.ar
  have hclC : clsIn K C = some { name := nm, bases := bs, mro := .ref C :: bmB, ns := N, qualname := q, hasDict := true, slotNames := sn, subclasses := sub, abstract := ab, collection := col, hasDel := false } := by unfold clsIn; rw [hC] <;> rfl
  obtain ⟨hp, g, d, tk, os⟩ := s
  have kk : ∀ b o, hp.get? b = some o → ((hp.push (kdv_tup [v])).push (HandSPX.excO C hp.objs.size)).get? b = some o := fun b o e => Heap.get?_push_of_some _ (Heap.get?_push_of_some _ e)
  refine wpAny_call (HandSPX.call_own FB (fun Y => rfl) (X _ _ hC) (looks_findIn X S.ini) (fun self => bind_fn X self S.tyF) (show 1 ≤ sizeLine by rw [sizeLine_eq]; omega) ?_)
  have exOf : HandSPX.excO C hp.objs.size = excObj C hp.objs.size none .none := rfl
  generalize hx1 : (hp.push (kdv_tup [v])).push (HandSPX.excO C hp.objs.size) = hp1 at *
  have he1 : hp1.get? (hp.objs.size + 1) = some (excObj C hp.objs.size none .none) := by rw [← hx1, ← exOf]; heap_get
  have ne : hp.get? (hp.objs.size + 1) = none := by
    cases z : hp.get? (hp.objs.size + 1) with
    | none => rfl
    | some o => exact absurd (Heap.lt_size z) (Nat.not_lt.mpr (Nat.le_succ _))
  have es : hp.objs.size ≤ hp.objs.size + 1 := Nat.le_succ _
  generalize hp.objs.size + 1 = e at *
  have X1 : K.In hp1 := X.keeps kk
  refine ks_codeAny_call_defAt (fd := ksFn nF qF params body scope .none kV doc pm an (.ref cda) ct cc) (body := body) (binds := [(slf, .ref e), (par, v)]) ?_ (X1 _ _ hF) rfl (hlim.keeps kk) (codeRec_of X1 hcd) rfl (hbind _ e nF kV doc pm an (.ref cda) ct cc) T.cell (fun y hy => ?_) (fun h2 hns hk2 => ?_) T.co T.gen T.kind
  · have : (A.under (.builtin "type.__call__" ⟨.ref C :: [v], []⟩)).depth = A.depth + 1 := by
      first | rfl | simp [Around.under, Code.weight, Code.isCreation, Code.isGuard, Code.isCaller, Code.frames, Code.isFrame, guardIds]
    rw [this]
    omega
  · rcases List.mem_cons.mp hy with z | z
    · rw [z]; exact T.hsl
    · rw [List.mem_singleton.mp z]; exact T.hpl
  subst hbody
  have k2 : ∀ b o, hp.get? b = some o → h2.get? b = some o := fun b o z => hk2 b o (kk b o z)
  have X2 : K.In h2 := X.keeps k2
  have he2 : h2.get? e = some (excObj C hp.objs.size none .none) := hk2 _ _ he1
  have eL0 : e < hp1.objs.size := Heap.lt_size he1
  have luk : ∀ {y : Str} {u : Value}, (y = slf ∧ u = .ref e) ∨ (y = par ∧ u = v) → [(slf, Value.ref e), (par, v)].reverse.lookup y = some u := fun {y u} z => by
    have np : (slf == par) = false := by simpa using T.ne
    rcases z with ⟨rfl, rfl⟩ | ⟨rfl, rfl⟩
    · simp [List.lookup, np]
    · simp [List.lookup]
  generalize hL : hp1.objs.size = L at *
  have hee : e ≠ C := fun z => by rw [z, X _ _ hC] at ne; cases ne
  obtain ⟨pl, hev⟩ := hev (ksEnv qF scope L fI (.ref cda) cc)
  have hi : interactive (ksEnv qF scope L fI (.ref cda) cc) = false := by
    have hk : scope.kind = .function := T.kind
    unfold interactive
    simp [hk]
  refine ks_wpAt_execs_cons (ks_wpAt_Expr_any (ks_wpAt_MethodCall (pl := pl) ?_ hev) hi)
  refine ks_wpAt_super_base (env := ksEnv qF scope L fI (.ref cda) cc) T.hks T.hkc rfl rfl (X2 _ _ hF) rfl har rfl (X2 _ _ hcda) rfl hvs hfile T.top ?_
  refine ks_loadName_global T.kind T.hks (loadGlobal_builtin (env := ksEnv qF scope L fI (.ref cda) cc) (hg.keeps k2) (mg_none_of X hg S.sup) (hb.keeps k2) ((hbb _ (by decide +kernel)).trans (show bootBuiltins "super" = some (.type "super") by rfl)) ⟨rfl, ?_⟩)
  refine wpAny_loadName_free T.kind T.hkc rfl ⟨_, X2 _ _ hcc, rfl⟩ ?_
  rw [hars]
  refine wpAny_loadName_local T.kind T.hsl hns (v := .ref e) ?hv ?_
  case hv => exact luk (.inl ⟨rfl, rfl⟩)
  refine ks_wpAny_isType_cls (X2 _ _ hC) rfl ⟨rfl, ?_⟩
  refine ks_wpAny_call_super (X2 _ _ hC) rfl he2 rfl (fun c z => by cases z) (looks_mroIn X2 S.mro) (fun h3 so k3 => ?_)
  have k03 : ∀ b o, hp.get? b = some o → h3.get? b = some o := fun b o z => k3 b o (k2 b o z)
  have X3 : K.In h3 := X.keeps k03
  have he3 : h3.get? e = some (excObj C hp.objs.size none .none) := k3 _ _ he2
  have I3 : InstAt h3 e (excObj C hp.objs.size none .none) C none := ⟨he3, rfl, rfl, trivial⟩
  refine kxs_getMethod KF so (looks_opaque X3 S.any) ((looks_clsIn X3 hclC).andThen .now) (drop_own C bmB) X3 S.along (I3.type.andThen (looks_subIn X3 S.sub)) hee rfl ?_
  show wpAny _ _ (callWith p3 (.ref h3.objs.size) [] (backTo p3 (starEach [msg] (ksEnv qF scope L fI (.ref cda) cc))) []) _ _ _
  rw [T.star]
  refine kxs_callWith (i := initId) (x := e) (by rfl) (evalArgs_plain ?_)
  refine Calls.spliced_cons ?_
  have k4 : ∀ b o, h3.get? b = some o → (h3.push (kxs_mw initId e)).get? b = some o := fun b o z => Heap.get?_push_of_some _ z
  have hu4 : (h3.push (kxs_mw initId e)).get? h3.objs.size = some (kxs_mw initId e) := Heap.get?_push_at rfl rfl
  obtain ⟨oL, esL, epL, hoL, rL⟩ := hns
  have hns4 : (h3.push (kxs_mw initId e)).Ns L (fun x => [(slf, Value.ref e), (par, v)].reverse.lookup x) := ⟨oL, esL, epL, k4 _ _ (k3 _ _ hoL), rL⟩
  refine hmsg _ (ksEnv qF scope L fI (.ref cda) cc) _ _ _ _ (fun b o z => k4 b o (k03 b o z)) rfl T.kind hns4 ?hp ?hg ?hu (fun h5 u5 tk5 txt k5 => ?_)
  case hp => exact luk (.inr ⟨rfl, rfl⟩)
  case hg => first | rfl | simp [Around.under, Around.deeper]
  case hu =>
    have : (A.under (.builtin "type.__call__" ⟨.ref C :: [v], []⟩)).units = A.units + 1 := by
      first | rfl | simp [Around.under, Code.cUnits, Code.frames, Code.isFrame]
    show (A.under (.builtin "type.__call__" ⟨.ref C :: [v], []⟩)).units + 3 ≤ _
    omega
  refine Calls.spliced_nil ⟨k5 _ _ hu4, ?_⟩
  have k05 : ∀ b o, hp.get? b = some o → h5.get? b = some o := fun b o z => k5 b o (k4 b o (k03 b o z))
  refine mw_call FB (k05 _ _ (X _ _ hC)) (k5 _ _ (k4 _ _ he3)) (k5 _ _ hu4) (show 1 ≤ sizeLine by rw [sizeLine_eq]; omega) (fun h6 t1 k6 he6 => ?_)
  have old : ∀ b o, hp.get? b = some o → b ≠ e := fun b o z y => by rw [y, ne] at z; cases z
  have k06 : ∀ b o, hp.get? b = some o → h6.get? b = some o := fun b o z => k6 b o (old b o z) (k05 b o z)
  have X6 : K.In h6 := X.keeps k06
  have eL : e ≠ L := Nat.ne_of_lt eL0
  have hns6 : h6.Ns L (fun x => [(slf, Value.ref e), (par, v)].reverse.lookup x) := ⟨oL, esL, epL, k6 _ _ (Ne.symm eL) (k5 _ _ (k4 _ _ (k3 _ _ hoL))), rL⟩
  refine ks_wpAt_execs_cons (ks_wpAt_Assign_Attr ?_)
  refine wpAt_of_wpAny (ESX.ldL (env := ksEnv qF scope L fI (.ref cda) cc) hns6 (v := v) ?hp2 ?_ T.kind T.hpl T.dbg.2)
  case hp2 => exact luk (.inr ⟨rfl, rfl⟩)
  refine ESX.ldL (env := ksEnv qF scope L fI (.ref cda) cc) hns6 (v := .ref e) ?hp3 ?_ T.kind T.hsl T.dbg.1
  case hp3 => exact luk (.inl ⟨rfl, rfl⟩)
  refine set_first SF X6 he6 hclC rfl S.over ha S.sa (fun h7 tk7 dx k7 hdx hne hx7 hns7 => ?_)
  have fin : Q (.ref e) ⟨h7, g, d, tk7, os⟩ := h e dx h7 tk7 (fun b o z => k7 b o (old b o z) (k06 b o z)) ne es (Nat.le_trans es (Nat.le_trans (Nat.le_of_lt (Heap.lt_size he6)) hdx)) hne ⟨t1, hx7⟩ hns7
  have e0 : execs [] (ksEnv qF scope L fI (.ref cda) cc) = pure .next := by first | rfl | simp [execs]
  refine wpAt_of_wpAny ?_
  show wpAny _ _ (execs [] (ksEnv qF scope L fI (.ref cda) cc)) _ _ _
  rw [e0]
  exact wpAny_pure ⟨rfl, fin⟩
end
end FX
end PySem
end -- FoExc

section -- FoExc2
set_option Elab.async false
set_option linter.all false
set_option maxRecDepth 100000
set_option maxHeartbeats 2000000
/-! FoExc2: raise C(e), for such a class; the texts of the messages. -/
namespace Fo
open PySem PySem.Spec PyProof.Rows L2 PySem.FX
theorem app_len (x y : Str) : (x ++ y).length = x.length + y.length := Str.length_append x y
section
variable {prog : Program} {w : World} {A : Around} {E : Value → Shared → Prop}
/-- the text of data, by its __repr__ -/
theorem pyRepr_reads {h0 : Heap} {s : Shared} {v : Value} {d : PyData} {as : List Addr} {Q : Value → Shared → Prop} (r : Reads h0 v d as) (hs : d.showable = true) (hsm : d.hasDict = true → sysModules ∉ as) (hg : A.guards = some []) (hu : A.units + d.depth < cLine) (hk : ∀ b o, h0.get? b = some o → s.heap.get? b = some o)
    (hz : d.shown.length ≤ sizeLine) (hQ : ∀ h' u tk, (∀ b o, s.heap.get? b = some o → h'.get? b = some o) → Q (.str d.shown u) { s with heap := h', toks := tk }) : wpAny (model prog w) A (pyReprObj v) Q E s := by
  have same : ∀ b o, s.heap.get? b = some o → s.heap.get? b = some o := fun _ _ e => e
  cases r with
  | none =>
    have := hQ s.heap s.toks (s.toks + 1) same
    rw [PyData.shown_none] at this
    exact pyReprObj_none this
  | bool b =>
    have := hQ s.heap s.toks (s.toks + 1) same
    rw [PyData.shown_bool] at this
    exact pyReprObj_bool this
  | int i t =>
    have := hQ s.heap s.toks (s.toks + 1) same
    rw [PyData.shown_int] at this
    exact pyReprObj_int (by simpa only [PyData.showable, decide_eq_true_eq] using hs) this
  | str x t =>
    have := hQ s.heap s.toks (s.toks + 1) same
    rw [PyData.shown_str] at this hz
    exact pyReprObj_str this hz
  | list h1 h2 h3 h4 => exact pyReprObj_of_reads (.list h1 h2 h3 h4) hs hsm hg hu hk hQ hz
  | tuple h1 h2 h3 h4 => exact pyReprObj_of_reads (.tuple h1 h2 h3 h4) hs hsm hg hu hk hQ hz
  | dict h1 h2 h3 h4 h5 => exact pyReprObj_of_reads (.dict h1 h2 h3 h4 h5) hs hsm hg hu hk hQ hz
/-- f"{par!r}t" -/
theorem msg_repr {env : Env} {s : Shared} {m : Str → Option Value} {par t : Str} {v : Value} {d : PyData} {as : List Addr} {h0 : Heap} {j : Nat} {p1 p2 p3 p4 : Pos} {Q : Value → Shared → Prop} (r : Reads h0 v d as) (hs : d.showable = true) (hsm : d.hasDict = true → sysModules ∉ as) (hg : A.guards = some []) (hu : A.units + d.depth < cLine)
    (hk : ∀ b o, h0.get? b = some o → s.heap.get? b = some o) (hz : d.shown.length + t.length ≤ sizeLine) (hks : env.scope.kind = .function) (hl : env.kindOf par = some .local) (hd : (par == ("__debug__" : Str)) = false) (hn : s.heap.Ns env.locals m) (hv : m par = some v)
    (hQ : ∀ h' u tk txt, (∀ b o, s.heap.get? b = some o → h'.get? b = some o) → Q (.str txt u) { s with heap := h', toks := tk }) :
    wpAny (model prog w) A (eval (.JoinedStr [.FormattedValue (.Name par p1) 114 none p2, .Constant (.str t) j p3] p4) env) Q E s := by
  refine wpAny_JoinedStr ?_
  have e0 : evalEach [.FormattedValue (.Name par p1) 114 none p2, .Constant (.str t) j p3] env = [eval (.FormattedValue (.Name par p1) 114 none p2) env, eval (.Constant (.str t) j p3) env] := by first | rfl | simp [evalEach]
  rw [e0]
  have hz1 : d.shown.length ≤ sizeLine := by omega
  have key : ∀ (u : Tok) (s2 : Shared), (∀ b o, s.heap.get? b = some o → s2.heap.get? b = some o) → s2.gens = s.gens → s2.drawn = s.drawn → s2.os = s.os →
      ∃ y t', Value.str d.shown u = .str y t' ∧ (Str.empty ++ y).length ≤ sizeLine ∧ Joins (model prog w) A E [eval (.Constant (.str t) j p3) env] (Str.empty ++ y) (fun out s' => out.length ≤ sizeLine ∧ Q (.str out s'.toks) { s' with toks := s'.toks + 1 }) s2 := by
    intro u s2 k2 g2 d2 o2
    refine ⟨d.shown, u, rfl, by rw [app_len]; show 0 + _ ≤ _; omega, ?_⟩
    show wpAny _ _ (eval (.Constant (.str t) j p3) env) _ _ _
    refine Calls.Constant_str ⟨t, _, rfl, by rw [app_len, app_len]; show 0 + _ + _ ≤ _; omega, ?_⟩
    refine ⟨by rw [app_len, app_len]; show 0 + _ + _ ≤ _; omega, ?_⟩
    obtain ⟨hp2, gg2, dd2, tk2, os2⟩ := s2
    simp only at g2 d2 o2
    subst g2 d2 o2
    exact hQ _ _ _ _ k2
  refine wpAny_FormattedValue_repr (ESX.ldL hn hv ?_ hks hl hd)
  refine pyRepr_reads r hs hsm hg hu hk hz1 (fun h' u tk k' => ?_)
  refine wpAny_formatField_str ?_ ?_ hz1
  · exact key u _ k' rfl rfl rfl
  · exact key _ _ k' rfl rfl rfl
end
/-- what the message asks of the value that is kept -/
def MsgR (X : Cx) (scope : Scope) (par : Str) (msg : Expr) (W : V → Hp → Prop) : Prop :=
  ∀ (y : V) (H : Hp), W y H → ∀ (pins : List (Addr × Obj)) (σ : L2.St) (s : Shared) (v : Value), Inv X pins σ H s → RelV y v →
    ∀ (A' : Around) (env : Env) (s' : Shared) (m : Str → Option Value) (E' : Value → Shared → Prop) (Q' : Value → Shared → Prop), (∀ b o, s.heap.get? b = some o → s'.heap.get? b = some o) → env.scope = scope → env.scope.kind = .function → s'.heap.Ns env.locals m → m par = some v → A'.guards = X.A.guards → A'.units ≤ X.A.units + 20 →
      (∀ h' u tk txt, (∀ b o, s'.heap.get? b = some o → h'.get? b = some o) → Q' (.str txt u) { s' with heap := h', toks := tk }) → wpAny (model X.prog X.w) A' (eval msg env) Q' E' s'
theorem msgR_const {X : Cx} {scope : Scope} {par t : Str} {j : Nat} {p : Pos} : MsgR X scope par (.Constant (.str t) j p) fun _ _ => True := by
  intro y H _ pins σ s v I r A' env s' m E' Q' k e1 e2 hn hm hg hu hQ
  exact Calls.Constant_str (hQ s'.heap _ _ t fun _ _ z => z)
theorem msgR_repr {X : Cx} {scope : Scope} {par t : Str} {j : Nat} {p1 p2 p3 p4 : Pos} (hgd : X.A.guards = some []) (hun : X.A.units + 200 < cLine) (hl : scope.names.lookup par = some .local) (hd : (par == ("__debug__" : Str)) = false) :
    MsgR X scope par (.JoinedStr [.FormattedValue (.Name par p1) 114 none p2, .Constant (.str t) j p3] p4) fun y H => (∃ a kvs, y = .ref a ∧ H a = some (.dK (dkv kvs)) ∧ (dicD kvs).showable = true ∧ (dicD kvs).depth ≤ 64 ∧ (dicD kvs).shown.length + t.length ≤ sizeLine) ∨ ∃ d, Dp X.K H y d ∧ d.showable = true ∧ d.hasDict = false ∧ d.depth ≤ 64 ∧ d.shown.length + t.length ≤ sizeLine := by
  intro y H w pins σ s v I r A' env s' m E' Q' k e1 e2 hn hm hg hu hQ
  rcases w with ⟨a, kvs, ey, ha, h2, h4, h5⟩ | w
  · subst ey
    obtain rfl : v = Value.ref a := r
    obtain ⟨as, rd, nm⟩ := dic_reads I ha
    exact msg_repr rd h2 (fun _ => nm) (hg.trans hgd) (by omega) k h5 e2 (by show env.scope.names.lookup par = _; rw [e1]; exact hl) hd hn hm hQ
  obtain ⟨d, h1, h2, h3, h4, h5⟩ := w
  obtain ⟨as, rd⟩ := Dp.reads I d y v h1 r
  exact msg_repr rd h2 (fun z => by rw [h3] at z; cases z) (hg.trans hgd) (by omega) k h5 e2 (by show env.scope.names.lookup par = _; rw [e1]; exact hl) hd hn hm hQ
section
variable {X : Cx} {C fI : Addr} {B newId initId : String} {bmB : List Value} {qF slf par f x : Str} {msg arg : Expr} {params : Arguments} {body : List Stmt} {scope : Scope} {p pos : Pos} {te : TE} {W : V → Hp → Prop}
theorem pmk_super (FB : ExcBaseFacts B newId initId bmB) (KF : PySem.W.KxsFacts B initId) (SF : StoreFacts B bmB "object.__setattr__" "object") (S : SuC X.K X.prog C fI B newId initId bmB qF params body scope) (T : SuT X.prog slf par f msg params body scope) (ha : PySem.W.findIn X.K (.ref C) f = some none)
    (hbind : ∀ (s' : Shared) (e : Addr) (v : Value) (nF : Str) (kV doc pm : Value) (an : Option Addr) (cdv ct : Value) (cc : Addr), BindsTo s' (PySem.W.ksFn nF qF params body scope .none kV doc pm an cdv ct cc) ⟨[.ref e, v], []⟩ [(slf, .ref e), (par, v)])
    (hmsg : MsgR X scope par msg W) (hroom : X.A.depth + 10 < recursionLimit) (gC : X.mg x = some (.ref C)) (kC : PySem.W.keepIn X.K (.ref C) = true) (r : Raises X (.ref C)) (hg : Gl X x) (he : PE X arg te)
    (hdb : (x == ("__debug__" : Str)) = false) (hs : starEach [arg] X.env = [(false, eval arg X.env)]) :
    PMk X (.Call (.Name x p) [arg] [] pos) (fun σ H Q => te σ H fun y H1 => W y H1 ∧ ∀ dx, H1 dx = none → Q (.ref C) (some dx) (upd H1 dx (.xd [(f, y)]))) := by
  intro pins s σ H Q I h
  refine wpAny_Call_Name_kw (ld_glob I hg gC ?_ hdb)
  refine PySem.W.callWith_K (h₀ := X.base) I.ok.mod.kin kC (thn (((pa_cons he pa_nil (by rw [hs]; rfl)).run pos pins s σ H (fun vs H1 => match vs with
    | [y] => W y H1 ∧ ∀ dx, H1 dx = none → Q (.ref C) (some dx) (upd H1 dx (.xd [(f, y)]))
    | _ => False) I) h) fun us s1 hh => ?_) (by rw [hs]; rfl) (by rfl)
  obtain ⟨vs, H1, I1, r1, q0⟩ := hh
  cases r1 with
  | nil => exact q0.elim
  | @cons y v vs' us' ry rn =>
    cases rn with
    | cons _ _ => exact q0.elim
    | nil =>
    obtain ⟨w, q⟩ := q0
    refine ⟨I1.kIn, ?_⟩
    obtain ⟨mb, hb, hbb⟩ := I1.mod.blt
    refine mk_super FB KF SF S T ha I1.kIn (I1.mod.glob.keeps I1.bk) (hb.keeps I1.bk) hbb I1.nolimit hroom (fun s' e => hbind s' e v) (hmsg y H1 w pins σ s1 v I1 ry) ?_
    intro e dx h' tk k ne se sd nde ⟨t0, hoe⟩ hns
    obtain ⟨hp, g, d, tk0, os⟩ := s1
    obtain ⟨G, g1, g2⟩ := restrict h' fun b => decide (b ≠ e)
    have gk : ∀ b, b ≠ e → G.get? b = h'.get? b := fun b hb => g1 b (decide_eq_true hb)
    have ge : G.get? e = none := g2 e (by simp)
    have old : ∀ b o, hp.get? b = some o → G.get? b = some o := fun b o z => by
      rw [gk b (fun y => by rw [y] at z; rw [show hp.get? e = none from ne] at z; cases z)]
      exact k b o z
    have nd : H1 dx = none := I1.hok.fresh sd
    have nE : H1 e = none := I1.hok.fresh se
    have J : Inv X pins σ (upd H1 dx (.xd [(f, y)])) ⟨G, g, d, tk, os⟩ := I1.laid (t' := tk) (a := dx) (o := .xd [(f, y)]) old sd (by
      refine ⟨_, hns.at fun o z => (gk dx nde).trans z, fun n => ?_⟩
      by_cases c : n = f
      · subst c
        simp [List.lookup]
        exact ry
      · have cb : (n == f) = false := by simpa using c
        simp [List.lookup, cb, c]
        exact True.intro)
    refine ⟨e, _, _, ⟨G, g, d, tk, os⟩, _, .ref C, some dx, rfl, J, fun b o z => ?_, ge, hoe, ⟨rfl, rfl⟩, rfl, rfl, ?_, rfl, I1.bare, r, q dx nd⟩
    · have nb : b ≠ e := fun y => by rw [y, ge] at z; cases z
      rw [← gk b nb]
      exact z
    · rw [upd_ne (Ne.symm nde)]
      exact nE
end
end Fo
end -- FoExc2

section -- FoLam
set_option Elab.async false
set_option linter.all false
set_option maxRecDepth 100000
set_option maxHeartbeats 2000000
/-! FoLam: errors raised; lambdas made. -/
namespace Fo
open PySem L2 Evl PyProof.Rows PySem.FX
section
variable {K : PySem.W.Frag} {ad : Nat → Option Addr} {lm : Lm} {Ek : XK} {X : Cx} {cl : Cl} {pos p p2 p3 : Pos} {g g0 g1 g' : G} {H H1 : Hp} {st st1 : Store} {fr : Bool} {σ : L2.St} {sl : Slots}
/-! ### raise -/
theorem st_rai {c : Nat} {C : Addr} {x m : Str} {ms : String} {j : Nat} {bmB : List Value} {B newId initId : String} (hc : X.calm = true) (tk : Takes X fun cls d σ H => Ek cls d H) (F : ExcBaseFacts B newId initId bmB) (q : PySem.W.excIn X.K C bmB newId = true) (gC : X.mg x = some (.ref C)) (kC : PySem.W.keepIn X.K (.ref C) = true) (r : Raises X (.ref C)) (hg : Gl X x)
    (hdb : (x == ("__debug__" : Str)) = false) (had : ad c = some C) : PS X (.Raise (some (.Call (.Name x p) [.Constant (.str m) j p2] [] p3)) none pos) (tSv X.K ad lm fr Ek (evS cl (.rai c ms))) := by
  refine PSimp (ps_raise hc tk (pmk_own F q gC kC r hg hdb)) fun D σ H h => ?_
  obtain ⟨g, sl, st, ho, rs, f⟩ := h
  unfold evS at f
  exact f g H (.ref C) none (Le.refl g) ho ⟨C, had, rfl, trivial⟩
theorem st_rac {c : Nat} {C fI : Addr} {B newId initId : String} {bmB : List Value} {qF slf par x : Str} {msg arg : Expr} {params : Arguments} {body : List Stmt} {scope : Scope} {W : V → Hp → Prop} {ie : E} (hc : X.calm = true) (tk : Takes X fun cls d σ H => Ek cls d H)
    (FB : ExcBaseFacts B newId initId bmB) (KF : PySem.W.KxsFacts B initId) (SF : StoreFacts B bmB "object.__setattr__" "object") (S : SuC X.K X.prog C fI B newId initId bmB qF params body scope) (T : SuT X.prog slf par (attrOf c) msg params body scope) (ha : PySem.W.findIn X.K (.ref C) (attrOf c) = some none)
    (hbind : ∀ (s' : Shared) (e : Addr) (v : Value) (nF : Str) (kV doc pm : Value) (an : Option Addr) (cdv ct : Value) (cc : Addr), BindsTo s' (PySem.W.ksFn nF qF params body scope .none kV doc pm an cdv ct cc) ⟨[.ref e, v], []⟩ [(slf, .ref e), (par, v)])
    (hmsg : MsgR X scope par msg W) (hroom : X.A.depth + 10 < recursionLimit) (gC : X.mg x = some (.ref C)) (kC : PySem.W.keepIn X.K (.ref C) = true) (r : Raises X (.ref C)) (hg : Gl X x) (he : PE X arg (tEv X.K ad lm Ek (evE cl ie)))
    (hdb : (x == ("__debug__" : Str)) = false) (hs : starEach [arg] X.env = [(false, eval arg X.env)]) (had : ad c = some C) (hW : ∀ {g : G} {H : Hp} {st : Store} {v : PV} {w : V}, OK X.K ad g H st → Rep X.K ad g.F v w → raiseV c v st ≠ none → W w H) :
    PS X (.Raise (some (.Call (.Name x p) [arg] [] p3)) none pos) (tSv X.K ad lm fr Ek (evS cl (.rac c ie))) := by
  refine PSimp (ps_raise hc tk (pmk_super FB KF SF S T ha hbind hmsg hroom gC kC r hg he hdb hs)) fun D σ H h => ?_
  obtain ⟨g, sl, st, ho, rs, f⟩ := h
  unfold evS at f
  refine ev_bind (Le.refl g) ho rs f fun v st1 g1 H1 w l0 l1 o1 rs1 r1 f1 => ?_
  obtain ⟨y, e1, f2⟩ := Fin.asD f1
  subst e1
  have ry : Rep X.K ad g1.F y w := r1
  have key : raiseV c y st1 = some (.ex ⟨c, some y⟩ st1) := by
    unfold raiseV at f2 ⊢
    by_cases c1 : c = 901
    · rw [if_pos c1] at f2 ⊢
      by_cases c2 : raiseD y = true
      · rw [if_pos c2]
      · rw [if_neg c2] at f2
        exact f2.elim
    · rw [if_neg c1]
  refine ⟨hW o1 ry (by rw [key]; exact fun z => by cases z), fun dx hdx => ?_⟩
  rw [key] at f2
  have f2 : Wx X.K ad g Ek ⟨c, some y⟩ st1 := f2
  have e : Ex H1 (upd H1 dx (.xd [(attrOf c, w)])) := Ex.new hdx
  refine f2 g1 _ (.ref C) (some dx) l0 (o1.ext e) ⟨C, had, rfl, dx, [(attrOf c, w)], w, rfl, upd_same, ?_, ry⟩
  simp [List.lookup]
/-! ### what is known grows -/
theorem lamO_tbl {f c' : Addr} {d : LamD} {pm ctv : Value} (ps : Array Value) : LamO f d pm c' ctv ≠ .tbl ps := fun z => by
  unfold LamO at z
  cases z
theorem lamO_lst {f c' : Addr} {d : LamD} {pm ctv : Value} (xs : List V) : LamO f d pm c' ctv ≠ .lst xs := fun z => by
  unfold LamO at z
  cases z
/-- the tables may have grown -/
theorem OK.grown (o : OK K ad g H st) (e : LamX.ExtN H H1) (t : ∀ i P, i < lamNames.length → ad (10000 + i) = some P → LamX.TabS H1 P (lamQ i)) : OK K ad g H1 st where
  ex := fun a u h => e a u (o.ex a u h) fun ps z => o.nt a ps (by rw [← z]; exact h)
  len := o.len
  cell := fun l c as h1 h2 => by
    have q := o.cell l c as h1 h2
    cases q with
    | lst a b d => exact .lst (e _ _ a fun ps z => by cases z) b d
    | dead => exact .dead
  nd := o.nd
  dj := o.dj
  pr := fun q hq => by
    obtain ⟨a, b, c⟩ := o.pr q hq
    obtain ⟨xs, hx⟩ := o.np q hq
    exact ⟨e _ _ a (fun ps z => by rw [hx] at z; cases z), b, c⟩
  nt := o.nt
  np := o.np
  tb := t
/-- an object that is neither a cell's nor a guarded list is frozen, if it isn't yet -/
theorem OK.keepT (o : OK K ad g H st) {a : Addr} {u : HO} (h : H a = some u) (h1 : ∀ xs, u ≠ .lst xs) (h2 : ∀ ps, u ≠ .tbl ps) : ∃ g', OK K ad g' H st ∧ Le g g' ∧ g'.F a = some u := by
  cases hf : g.F a with
  | some v =>
    have := o.ex a v hf
    rw [h] at this
    cases this
    exact ⟨g, o, Le.refl g, hf⟩
  | none =>
    have fr : Free g a := by
      refine ⟨hf, fun z => ?_, fun q hq z => ?_⟩
      · obtain ⟨i, as, e1, e2⟩ := mem_flat z
        have hi : i < st.length := by rw [← o.len]; exact (List.getElem?_eq_some_iff.mp e1).1
        have q := o.cell i _ as (List.getElem?_eq_getElem hi) e1
        generalize st[i] = c at q
        cases q with
        | lst y _ _ =>
          have := List.mem_singleton.mp e2
          rw [← this, h] at y
          cases y
          exact h1 _ rfl
        | dead => cases e2
      · obtain ⟨xs, hx⟩ := o.np q hq
        have := (o.pr q hq).1
        rw [z, h, hx] at this
        cases this
        exact h1 _ rfl
    obtain ⟨o2, l2⟩ := o.froz h fr h2
    exact ⟨_, o2, l2, upd_same⟩
/-! ### a lambda is made -/
theorem lam_made {pins : List (Addr × Obj)} {s : Shared} {T : List (Addr × Str)} {c P : Addr} {params : Arguments} {body : Expr} {scope : Scope} {E : Value → Shared → Prop} {Q : Value → Shared → Prop} (I : Inv X pins σ H s) (TB : LamX.TabB X.base X.mg c P) (hcode : X.env.code = .ref c)
    (hm : (P, X.env.qual ++ "<lambda>") ∈ T) (hu : ∀ p ∈ T, p.1 = P → p.2 = X.env.qual ++ "<lambda>") (hT : LamX.Tabs T H) (hdef : defaultsOf params X.env = ([], [])) (hfree : ∀ y ∈ scope.names, y.2 = .free → ∃ c, X.env.cells.lookup y.1 = some c)
    (k : ∀ (f c' : Addr) (pm ctv : Value) (H1 : Hp) (s' : Shared), Inv X pins σ H1 s' → LamX.ExtN H H1 → LamX.Tabs T H1 → H1 f = some (LamO f ⟨X.env.qual ++ "<lambda>", params, body, scope, cloFrom X.env.cells scope.names []⟩ pm c' ctv) → H1 c' = some (LamX.CodeO c' (X.env.qual ++ "<lambda>")) → Q (.ref f) s') :
    wpAny (model X.prog X.w) X.A (eval (.Lambda params body scope pos) X.env) Q E s := by
  obtain ⟨ps, tabP, trip, among⟩ := hT _ hm
  have atP := I.hok P _ tabP
  have track : ∀ {h2 : Heap} {t2 : Nat} {H2 : Hp} {c' : Addr} {ctv : Value}, Inv X pins σ H2 { s with heap := h2, toks := t2 } → LamX.ExtN H H2 → LamX.Tabs T H2 → H2 c' = some (LamX.CodeO c' (X.env.qual ++ "<lambda>")) →
      Q (.ref h2.objs.size) { s with heap := h2.push (PySem.W.kla_obj "<lambda>" (X.env.qual ++ "<lambda>") params body scope (cloFrom X.env.cells scope.names []) ((X.mg "__name__").getD .none) c' ctv), toks := t2 } := by
    intro h2 t2 H2 c' ctv J e1 e2 e3
    have nf : H2 h2.objs.size = none := J.hok.fresh (Nat.le_refl _)
    have at2 : (h2.push (PySem.W.kla_obj "<lambda>" (X.env.qual ++ "<lambda>") params body scope (cloFrom X.env.cells scope.names []) ((X.mg "__name__").getD .none) c' ctv)).get? h2.objs.size = some (PySem.W.kla_obj "<lambda>" (X.env.qual ++ "<lambda>") params body scope (cloFrom X.env.cells scope.names []) ((X.mg "__name__").getD .none) c' ctv) := Heap.get?_push_size _ rfl
    have J2 := J.laid (t' := t2) (a := h2.objs.size) (o := LamO h2.objs.size ⟨X.env.qual ++ "<lambda>", params, body, scope, cloFrom X.env.cells scope.names []⟩ ((X.mg "__name__").getD .none) c' ctv) (fun b u z => Heap.get?_push_of_some _ z) (Nat.le_refl _) ⟨at2, ⟨_, at2⟩, fun ha hb za zb => zb _ za⟩
    have xx : Ex H2 (upd H2 h2.objs.size (LamO h2.objs.size ⟨X.env.qual ++ "<lambda>", params, body, scope, cloFrom X.env.cells scope.names []⟩ ((X.mg "__name__").getD .none) c' ctv)) := Ex.new nf
    exact k h2.objs.size c' _ ctv _ _ J2 (e1.trans (LamX.ExtN.of xx)) (e2.ext xx) upd_same (xx _ _ e3)
  refine PySem.W.kla_eval hdef ?_
  cases hit : codeAmong pos ps.toList with
  | some cv =>
    obtain ⟨c', rfl, hco⟩ := among pos cv hit
    exact PySem.W.kla_makeFunctionHit (mg := X.mg) (c := c) (P := P) (ps := ps) (closure_ok hfree) I.ok.glob (I.mod.glob.keeps I.bk) hcode (TB.code.keeps I.bk) atP trip hit (TB.bm.keeps I.bk) fun ctv h2 t2 old _ => track (I.kept (t' := t2) old) (LamX.ExtN.refl H) hT hco
  | none =>
    refine PySem.W.kla_makeFunction (mg := X.mg) (c := c) (P := P) (ps := ps) (closure_ok hfree) I.ok.glob (I.mod.glob.keeps I.bk) hcode (TB.code.keeps I.bk) atP trip hit TB.gP (TB.bm.keeps I.bk) fun c' ctv h2 t2 old ge _ code tab => ?_
    obtain ⟨cn, oc, vs, t, same, o1, o2, o3⟩ := code
    cases same
    have nc : H c' = none := I.hok.fresh ge
    have J := LamX.inv_table (t' := t2) (q := X.env.qual ++ "<lambda>") (more := #[rawInt pos.line, rawInt pos.col, .ref c']) (h' := h2) I tabP old tab ge ⟨oc, vs, t, o1, o2, o3⟩
    have grow : LamX.ExtN H (upd (upd H P (.tbl (ps ++ #[rawInt pos.line, rawInt pos.col, .ref c']))) c' (LamX.CodeO c' (X.env.qual ++ "<lambda>"))) := by
      intro b o z nt
      have b1 : b ≠ c' := ne_of_none z nc
      have b2 : b ≠ P := fun y => by rw [y, tabP] at z; exact nt ps (Option.some.inj z).symm
      rw [upd_ne b1, upd_ne b2, z]
    have cP : P ≠ c' := ne_of_none tabP nc
    refine track J grow (fun q hq => ?_) upd_same
    by_cases same : q.1 = P
    · rw [hu q hq same, same]
      refine ⟨ps ++ #[rawInt pos.line, rawInt pos.col, .ref c'], by rw [upd_ne cP, upd_same], ?_, fun p' cv w => ?_⟩
      · rw [Array.toList_append]
        exact PySem.TriplesOk_snoc _ _ _ _ trip
      · rw [Array.toList_append] at w
        rcases LamX.among_app _ trip w with y | y
        · obtain ⟨c0, y1, y2⟩ := among p' cv y
          exact ⟨c0, y1, grow _ _ y2 LamX.codeO_ne⟩
        · exact ⟨c', y, upd_same⟩
    · obtain ⟨ps2, y1, y2, y3⟩ := hT q hq
      refine ⟨ps2, by rw [upd_ne (ne_of_none y1 nc), upd_ne same, y1], y2, fun p' cv w => ?_⟩
      obtain ⟨c0, z1, z2⟩ := y3 p' cv w
      exact ⟨c0, z1, grow _ _ z2 LamX.codeO_ne⟩
end
end Fo
end -- FoLam

section -- FoTry
set_option Elab.async false
set_option linter.all false
set_option maxRecDepth 100000
set_option maxHeartbeats 2000000
/-! FoTry: try with several except clauses, each with a name or without one. -/
namespace Fo
open PySem PySem.Spec PyProof.Rows L2
/-- a clause: the class, the slot of its name, its suite's reading -/
abbrev Clause := Value × Option Nat × (Addr → Value → Option Addr → TS)
/-- the ends of a clause's suite, whose name goes -/
def endsAt (D : Ends) : Option Nat → Ends
  | none => D
  | some i => { nx := fun τ G => D.nx (τ.set i none) G, rt := D.rt, bk := fun τ G => D.bk (τ.set i none) G, ct := fun τ G => D.ct (τ.set i none) G }
def slotsAt (τ : L2.St) (a : Addr) : Option Nat → L2.St
  | none => τ
  | some i => τ.set i (some (.ref a))
def wMix (K : PySem.W.Frag) (Wout : WX) (D : Ends) : List Clause → WX
  | [] => Wout
  | (c, n, ts) :: r => fun cls d τ G => ∃ b, PySem.W.exmOne K cls c = some b ∧ (b = true → ∀ a, G a = none → ts a cls d (endsAt D n) (slotsAt τ a n) G) ∧ (b = false → wMix K Wout D r cls d τ G)
inductive Clauses (X : Cx) : List ExceptHandler → List Clause → Prop
  | nil : Clauses X [] []
  | plain {x : Str} {c : Value} {ts : Addr → Value → Option Addr → TS} {b0 : Stmt} {suite : List Stmt} {q1 q2 : Pos} {hs : List ExceptHandler} {l : List Clause} (named : Names X x c)
      (su : ∀ (a : Addr) (o : Obj) (cls : Value) (d : Option Addr) (pn : List (Addr × Obj)), Zc cls d o → (∃ vs, o.data = .fields vs) → PSs (X.suite a ((a, o) :: pn)) (b0 :: suite) (ts a cls d)) (rest : Clauses X hs l) :
      Clauses X (.ExceptHandler (some (.Name x q1)) none (b0 :: suite) q2 :: hs) ((c, none, ts) :: l)
  | as {x n : Str} {i : Nat} {c : Value} {ts : Addr → Value → Option Addr → TS} {b0 : Stmt} {suite : List Stmt} {q1 q2 : Pos} {hs : List ExceptHandler} {l : List Clause} (named : Names X x c) (slot : X.N[i]? = some n) (loc : X.env.kindOf n = some .local)
      (su : ∀ (a : Addr) (o : Obj) (cls : Value) (d : Option Addr) (pn : List (Addr × Obj)), Zc cls d o → (∃ vs, o.data = .fields vs) → PSs (X.suite a ((a, o) :: pn)) (b0 :: suite) (ts a cls d)) (rest : Clauses X hs l) :
      Clauses X (.ExceptHandler (some (.Name x q1)) (some n) (b0 :: suite) q2 :: hs) ((c, some i, ts) :: l)
section
variable {X : Cx} {body : List Stmt} {hd : ExceptHandler} {tl : List ExceptHandler} {l : List Clause} {pos : Pos} {tb : WX → TS} {Wout : WX}
theorem ps_try_mix (stk : X.stack = X.env :: X.outer) (fra : X.env.frame = some X.env.locals) (nd : X.N.Nodup) (tk : Takes X Wout)
    (inner : ∀ (W : WX) (pn : List (Addr × Obj)) (xe : Value → Shared → Prop), Takes (X.tr pn xe) W → PassesOwn (model X.prog X.w) X.A X.env xe → PSs (X.tr pn xe) body (tb W))
    (cs : Clauses X (hd :: tl) l) : PS X (.Try body (hd :: tl) [] [] pos) (fun D τ G => tb (fun cls d τ' G' => τ'.length = X.N.length → wMix X.K Wout D l cls d τ' G') D τ G) := by
  constructor
  intro pins s τ G D I reading
  have X_ok := I.ok
  have frames : X.A.frames = some (X.env :: X.outer) := X_ok.frames.trans (congrArg some stk)
  refine wpAny_Try_except ?_
  have run := (inner (fun cls d τ' G' => τ'.length = X.N.length → wMix X.K Wout D l cls d τ' G') (X.pn ++ pins) (fun e s1 => wpAny (model X.prog X.w) X.A (noteFrame e X.env) (fun _ s2 => wpAny (model X.prog X.w) X.A (setFlight e none) (fun _ s3 => wpAny (model X.prog X.w) X.A (handleBy e X.env (hd :: tl)) (SP X pins D) X.xe s3) X.xe s2) X.xe s1)
    ?caught PassesOwn.looking).run [] s τ G D (I.toTry _) reading
  case caught =>
    rintro u s' ⟨a, B, sI, pins', τ', G', cls, d, rfl, J', nb, up, sky, na, os, ag, w⟩
    have J : Inv X pins τ' G' sI := J'.ofTry X_ok
    show wpAny (model X.prog X.w) X.A (noteFrame (.ref a) X.env) _ _ _
    refine Sky.land Zc.steady frames fra (stk ▸ sky) fun ha fa upa => ?_
    have Ja : Inv X pins τ' G' { s' with heap := ha } := J.landed nb fa.1 (up.trans upa) os ag
    obtain ⟨oa, va, ga, za, da⟩ := fa.there
    have notFrame : a ∉ frs (X.env :: X.outer) := fun hm => by
      obtain ⟨_, o1, e1, hn⟩ := fa.2.2.1.mem hm
      rw [ga] at e1
      cases e1
      exact hn _ da
    have a1 : a ≠ X.env.locals := fun z => notFrame (List.mem_filterMap.mpr ⟨X.env, List.mem_cons_self, by rw [fra, z]⟩)
    have a2 : a ∉ X.fs := fun hm => by
      obtain ⟨e, he, q⟩ := List.mem_filterMap.mp hm
      exact notFrame (List.mem_filterMap.mpr ⟨e, List.mem_cons_of_mem _ he, q⟩)
    have atTest := Ja.suite ga da na a1 a2
    -- a clause's test
    have test : ∀ {x : Str} {c : Value} {q1 : Pos} {Q E : Value → Shared → Prop}, Names X x c → Q c { s' with heap := ha } → wpAny (model X.prog X.w) (X.A.mark (some (.ref a))) (eval (.Name x q1) X.env) Q E { s' with heap := ha } := by
      rintro x c q1 Q E ⟨n1, n2, n3⟩ q
      rcases n3 with n3 | ⟨n3, n4, n5⟩
      · exact ld_glob (X := X.suite a ((a, oa) :: (X.pn ++ pins))) atTest n1 n3 q n2
      · exact ld_blt (X := X.suite a ((a, oa) :: (X.pn ++ pins))) atTest n1 n3 n4 q n5 n2
    have ofType : PySem.W.Looks (model X.prog X.w) ha (typeOf (.ref a)) cls := fun A Q E s k q => wpAny_typeOf_ref (k _ _ ga) (by rw [za.1]; exact q)
    -- where a suite starts
    have enter : ∀ {A : Around} {Q : Unit → Shared → Prop} {E : Value → Shared → Prop}, (∀ h4 o4, Zc cls d o4 → (∃ vs, o4.data = .fields vs) → Inv (X.suite a ((a, o4) :: (X.pn ++ pins))) [] τ' G' { s' with heap := h4 } → Q () { s' with heap := h4 }) →
        wpAny (model X.prog X.w) A (setFlight (.ref a) none) Q E { s' with heap := ha } := by
      intro A Q E q
      refine HandSPX.lands_againZ fa fun h4 f4 up4 => ?_
      have J4 : Inv X pins τ' G' { s' with heap := h4 } := J.landed nb f4.1 ((up.trans upa).trans up4) os ag
      obtain ⟨o4, v4, g4, z4, d4⟩ := f4.there
      exact q h4 o4 z4 ⟨_, d4⟩ (J4.suite g4 d4 na a1 a2)
    have all : ∀ {hs : List ExceptHandler} {cl : List Clause}, Clauses X hs cl → wMix X.K Wout D cl cls d τ' G' → wpAny (model X.prog X.w) X.A (handleBy (.ref a) X.env hs) (SP X pins D) X.xe { s' with heap := ha } := by
      intro hs cl hk
      induction hk with
      | nil =>
        intro w
        refine wpAny_handleBy_nil ?_
        obtain ⟨_, _, _, o9, v9, T, oT, ts', e9, _, d9, f9, _⟩ := id fa
        unfold PySem.passOn
        refine wpAny_bind (wpAny_field e9 d9 f9 ?_)
        rw [if_neg (show ¬ ((Value.ref T == Value.none) = true) from by simp)]
        have out : wpAny (model X.prog X.w) X.A (setFlight (.ref a) X.env.frame) (fun _ s4 => wpAny (model X.prog X.w) X.A (throw (.ref a) : Sem Flow) (SP X pins D) X.xe s4) X.xe { s' with heap := ha } := by
          rw [fra]
          refine HandSPX.setFlight_upZ fa fun h5 held up5 => wpAny_throw (tk _ _ ?_)
          exact ⟨a, B, sI, pins, τ', G', cls, d, rfl, J, nb, (up.trans upa).trans up5, .inr (.inr (stk.symm ▸ held)), na, os, ag, w⟩
        first
          | exact wpAny_bind (wpAny_pure (wpAny_bind out))
          | exact wpAny_bind out
      | plain named su rest ih =>
        rintro ⟨b, hb, yes, no⟩
        refine wpAny_handleBy_cons (codeAny_handlers_test (test named ((PySem.W.exm_one (M := model X.prog X.w) Ja.kIn ofType hb).here ?_))) (by intro q; cases q)
        cases b with
        | false => exact ih (no rfl)
        | true =>
          refine codeAny_handlers_suite (enter fun h4 o4 z4 d4 S4 => ?_)
          refine wpAny_mono ((su a o4 cls d (X.pn ++ pins) z4 d4).run [] _ _ G' _ S4 (yes rfl a na)) (fun fl s6 done => ?_) fun _ _ z => z.elim
          match fl, done with
          | .next, ⟨τ6, G6, S6, q6⟩ => exact ⟨_, _, S6.unsuite X_ok, q6⟩
          | .brk, ⟨τ6, G6, S6, q6⟩ => exact ⟨_, _, S6.unsuite X_ok, q6⟩
          | .cont, ⟨τ6, G6, S6, q6⟩ => exact ⟨_, _, S6.unsuite X_ok, q6⟩
          | .ret u, ⟨v6, τ6, G6, S6, r6, q6⟩ => exact ⟨_, _, _, S6.unsuite X_ok, r6, q6⟩
      | @as x n i c ts b0 suite q1 q2 hs2 l2 named slot loc su rest ih =>
        rintro ⟨b, hb, yes, no⟩
        refine wpAny_handleBy_cons (codeAny_handlers_test (test named ((PySem.W.exm_one (M := model X.prog X.w) Ja.kIn ofType hb).here ?_))) (by intro q; cases q)
        cases b with
        | false => exact ih (no rfl)
        | true =>
          refine codeAny_handlers_suite_as (enter fun h4 o4 z4 d4 S4 => ?_)
          refine store_ok (X := X.suite a ((a, o4) :: (X.pn ++ pins))) (v := .ref a) S4 nd slot (.inl loc) rfl (fun s5 S5 => ?_) (.inr loc)
          refine wpAny_mono ((su a o4 cls d (X.pn ++ pins) z4 d4).run [] s5 _ G' _ S5 (yes rfl a na)) (fun fl s6 done => ?_) fun _ _ z => z.elim
          have goes : ∀ {τ6 : L2.St} {G6 : Hp} {Q : Shared → Prop}, Inv (X.suite a ((a, o4) :: (X.pn ++ pins))) [] τ6 G6 s6 → (∀ s7, Inv X pins (τ6.set i none) G6 s7 → Q s7) → wpAny (model X.prog X.w) X.A (do bindName X.env n .none; unbindBehindTheSuite X.env n q2) (fun _ s7 => Q s7) X.xe s6 :=
            fun S6 q => gone_ok (S6.unsuite X_ok) nd slot loc q
          match fl, done with
          | .next, ⟨τ6, G6, S6, q6⟩ => exact goes S6 fun s7 J7 => ⟨_, _, J7, q6⟩
          | .brk, ⟨τ6, G6, S6, q6⟩ => exact goes S6 fun s7 J7 => ⟨_, _, J7, q6⟩
          | .cont, ⟨τ6, G6, S6, q6⟩ => exact goes S6 fun s7 J7 => ⟨_, _, J7, q6⟩
          | .ret u, ⟨v6, τ6, G6, S6, r6, q6⟩ => exact goes S6 fun s7 J7 => ⟨_, _, _, J7, r6, q6⟩
    exact all cs (w J.len)
  refine wpAny_mono run (fun fl s1 done => ?_) fun _ _ z => z
  match fl, done with
  | .next, ⟨τ1, G1, J1, q1⟩ => exact wpAny_execs_nil ⟨τ1, G1, J1.ofTry X_ok, q1⟩
  | .brk, ⟨τ1, G1, J1, q1⟩ => exact ⟨τ1, G1, J1.ofTry X_ok, q1⟩
  | .cont, ⟨τ1, G1, J1, q1⟩ => exact ⟨τ1, G1, J1.ofTry X_ok, q1⟩
  | .ret u, ⟨v1, τ1, G1, J1, r1, q1⟩ => exact ⟨v1, τ1, G1, J1.ofTry X_ok, r1, q1⟩
end
end Fo
end -- FoTry

section -- FoWord
set_option Elab.async false
set_option linter.all false
set_option maxRecDepth 100000
set_option maxHeartbeats 2000000
/-! FoWord: _law_word(lambda: ..). -/
namespace Fo
open PySem L2 Evl PyProof.Rows PySem.FX
abbrev WCx (X : Cx) (Ng : List Str) (qg : Str) (sg : Scope) (g : Addr) (cdg : Value) (s : Shared) (H : Hp) : Cx := cxOf C8.CX0 X.prog X.w X.K X.mg X.base Ng qg sg g cdg X.A X.stack s H C8.E0
section
variable {X : Cx} {pins : List (Addr × Obj)} {σ : L2.St} {H HZ : Hp} {s s1 : Shared}
/-- call(), in the frame that got the lambda -/
theorem pe_act2 {Ng : List Str} {qg : Str} {sg : Scope} {g f : Addr} {cdg : Value} {lm : Lm} {params : Arguments} {body : Expr} {scope : Scope} {lp : Pos} {k : Nat} {a : Str} {pn : List (Addr × Obj)} {xe : Value → Shared → Prop} {W : WX} {E : XK} {tb : TE} {p1 p2 : Pos}
    (I : Inv X pins σ H s) (hg : X.A.guards = some []) (L : LamX.LamS X.env.scope scope) (lq : lm.q = X.env.qual ++ "<lambda>") (lc : lm.cells = X.env.cells)
    (hbind : ∀ (q : Str) (cl : List (Str × Addr)) (pm cv ctv : Value), bindArgs (PySem.W.kla_fn "<lambda>" q params body scope cl pm cv ctv) ⟨[], []⟩ = pure [])
    (tk : Takes ((WCx X Ng qg sg g cdg s H).tr pn xe) W) (hW : ∀ cls d σ' H', E cls d H' → W cls d σ' H') (hr : Room (k + 1) (X.A.deeper (envOfC qg sg s.heap.objs.size g cdg)))
    (hbody : ∀ (A : Around) (outer : List Env) (s : Shared) (H : Hp) (c' : Addr), A.guards = some [] → A.frames = some outer → Room k (A.deeper (LamX.lamEnv X scope s.heap.objs.size f c')) → PE (LamX.lamCx X A outer s H E scope f c') body tb)
    (hN : Ng[0]? = some a) (hv : Vis sg a) (hd : (a == ("__debug__" : Str)) = false) (hcd : (a == ("__classdict__" : Str)) = false) :
    PE ((WCx X Ng qg sg g cdg s H).tr pn xe) (.Call (.Name a p1) [] [] p2) (fun σZ HZ Q => σZ[0]? = some (some (.ref f)) ∧ LamAt HZ lm (.Lambda params body scope lp) f ∧ tb σ HZ Q) := by
  refine ⟨fun pinsZ sZ σZ HZ Q IZ h => ?_⟩
  obtain ⟨atZ, ⟨pm, c', ctv, fact, code⟩, ht⟩ := h
  rw [lq, lc] at fact
  rw [lq] at code
  refine wpAny_Call_Name_kw (thn ((pe_var (pos := p1) (i := 0) hN hv hd hcd).run pinsZ sZ σZ HZ (fun v H1 => v = .ref f ∧ H1 = HZ) IZ ⟨.ref f, atZ, rfl, rfl⟩) fun u s1 ⟨v, H1, I1, r1, q1⟩ => ?_)
  obtain ⟨rfl, rfl⟩ := q1
  cases (show u = Value.ref f from r1)
  have o1 : s1.heap.get? f = some (PySem.W.kla_obj "<lambda>" (X.env.qual ++ "<lambda>") params body scope (cloFrom X.env.cells scope.names []) pm c' ctv) := (I1.hok f _ fact).1
  refine PySem.W.callWith_F0 ⟨_, _, _, _, o1⟩ ?_
  have un : Un (frs X.stack) [] H H1 s.heap s1.heap := I1.base
  obtain ⟨⟨oc, vs, t, c1, c2, c3⟩, _, _⟩ := I1.hok c' _ code
  have rc : codeAny (model X.prog X.w) (X.A.deeper (envOfC qg sg s.heap.objs.size g cdg)) (.call (.ref f) ⟨[], []⟩) (CR (L2.CX X.prog X.w) (envOfC qg sg s.heap.objs.size g cdg :: X.stack) X.prog X.w H1 s1 Q E) s1 := by
    refine PySem.W.kla_callFunE hr.depth o1 rfl L.co L.gen rfl ⟨c', oc, vs, t, rfl, c1, c2, c3⟩ ?_
    rw [hbind]
    refine wpAny_pure (wpAny_newFunctionEnv (fun y hy => (L.own y hy).2) (fun y hy => absurd hy (by simp)) (fun h1 n1 b1 => ⟨I1.nolimit.fresh _ b1, ?_⟩) L.kind)
    show codeAny _ _ (.expr body (LamX.lamEnv X scope s1.heap.objs.size f c')) _ _
    have keep : ∀ b o, s1.heap.get? b = some o → h1.get? b = some o := fun b o e => b1.extBut b o (Nat.ne_of_lt (Heap.lt_size e)) (Heap.get?_push_of_some _ e)
    have J := LamX.lam_start2 (A := X.A.deeper (envOfC qg sg s.heap.objs.size g cdg)) (outer := envOfC qg sg s.heap.objs.size g cdg :: X.stack) (E := E) (f := f) (c' := c') (tk := s1.toks + ([] : List (Str × Value)).length) I L I1.env0 hr.hd un n1 keep
    refine PySem.W.kla_codeExpr (wpAny_mono ((hbody (X.A.deeper (envOfC qg sg s.heap.objs.size g cdg)) (envOfC qg sg s.heap.objs.size g cdg :: X.stack) s1 H1 c' hg I1.env0.frames (hr.deeper _)).run [] _ _ H1 Q J ht) (fun v s' hq => ?_) fun e s' hq => hq)
    obtain ⟨w', H', J', rv, q⟩ := hq
    exact ⟨w', H', J'.os, J'.bare, J'.base, J'.hok, rv, q⟩
  have hx : Passes (L2.CX X.prog X.w) ((WCx X Ng qg sg g cdg s H).tr pn xe) E := passes_call tk hW
  refine wpAny_call (codeAny_mono rc fun r s' hq => ?_)
  match r, hq with
  | .error e, hq => exact hx pinsZ σZ H1 s1 e s' I1 hq
  | .ok (.ret u), hq => exact I1.after hq
end
/-! ### the def that is given the lambda -/
def nmOk (x : Str) : Bool := !(x == ("__debug__" : Str)) && !(x == ("__classdict__" : Str))
def visB (sc : Scope) (x : Str) : Bool := match sc.names.lookup x with
  | some .local => true
  | some .cell => true
  | some .free => true
  | _ => false
def glB (sc : Scope) (x : Str) : Bool := match sc.names.lookup x with
  | some .globalImplicit => true
  | _ => false
def isLoc (sc : Scope) (x : Str) : Bool := match sc.names.lookup x with
  | some .local => true
  | _ => false
def isCel (sc : Scope) (x : Str) : Bool := match sc.names.lookup x with
  | some .cell => true
  | _ => false
def chkCl (sc : Scope) (N : List Str) (xs : List (Nat × Str)) (c : Nat) (k : Hk) (e : ExceptHandler) : Bool := match k with
  | .s t => (match e with
    | .ExceptHandler (some (.Name x _)) none [.Return (some (.Constant (.str u) _ _)) _] _ => decide ((c, x) ∈ xs) && (glB sc x && (nmOk x && decide (Str.ofString t = u)))
    | _ => false)
  | .r t => (match e with
    | .ExceptHandler (some (.Name x _)) (some n) [.Return (some (.BinOp (.Constant (.str u) _ _) .Add (.Call (.Name r _) [.Attribute (.Name m _) f _] [] _) _)) _] _ =>
      decide ((c, x) ∈ xs) && (glB sc x && (nmOk x && (decide (Str.ofString t = u) && (decide (r = ("repr" : Str)) && (glB sc r && (decide (m = n) && (decide (N[1]? = some n) && (isLoc sc n && (nmOk n && decide (f = attrOf c))))))))))
    | _ => false)
  | .l => false
def chkCls (sc : Scope) (N : List Str) (xs : List (Nat × Str)) : List (Nat × Hk) → List ExceptHandler → Bool
  | [], [] => true
  | h :: hs, e :: es => chkCl sc N xs h.1 h.2 e && chkCls sc N xs hs es
  | _, _ => false
def chkWord (sc : Scope) (N : List Str) (xs : List (Nat × Str)) (w : Wd) (b : List Stmt) : Bool := match b with
  | [.Try [.Expr (.Call (.Name a _) [] [] _) _] (h :: hs) [] [] _, .Return (some (.Constant (.str u) _ _)) _] =>
    decide (N[0]? = some a) && (visB sc a && (nmOk a && (chkCls sc N xs w.hs (h :: hs) && decide (w.fine.map Str.ofString = some u))))
  | _ => false
/-- the row's own exception classes -/
structure ExF (K : PySem.W.Frag) (mg : Str → Option Value) (ad : Nat → Option Addr) (xs : List (Nat × Str)) : Prop where
  at_ : ∀ c x, (c, x) ∈ xs → ∃ C, ad c = some C ∧ mg x = some (.ref C) ∧ XfC K C ∧ PySem.W.findIn K (.ref C) (attrOf c) = some none
  one : ∀ c x c' x' C C', (c, x) ∈ xs → (c', x') ∈ xs → ad c = some C → ad c' = some C' → PySem.W.exmOne K (.ref C) (.ref C') = some (c == c')
section
variable {K : PySem.W.Frag} {ad : Nat → Option Addr} {X : Cx} {xs : List (Nat × Str)} {sc : Scope} {Wout : WX}
theorem nmq {x : Str} (h : nmOk x = true) : (x == ("__debug__" : Str)) = false ∧ (x == ("__classdict__" : Str)) = false := by
  unfold nmOk at h
  rw [Bool.and_eq_true, Bool.not_eq_true', Bool.not_eq_true'] at h
  exact h
def Wish (X : Cx) (ad : Nat → Option Addr) (Wout : WX) (hs : List (Nat × Hk)) (l : List Clause) : Prop := ∀ (τ : L2.St) (G : Hp) (D : Ends) (cls : Value) (d : Option Addr) (x : Exc) (g : Fo.G) (st : Store) (h : Nat × Hk) (v : PV),
  τ.length = X.N.length → OK X.K ad g G st → RepX X.K ad g G x cls d → hs.find? (fun h => h.1 == x.c) = some h → hkv h.2 x.p = some v → (∀ w, Rep X.K ad g.F v w → D.rt w G) → wMix X.K Wout D l cls d τ G
theorem cls_ok (F : ExF X.K X.mg ad xs) (hsc : X.env.scope = sc) (nd : X.base.NoDigits) (hg : X.A.guards = some []) (hu : X.A.units + 200 < cLine) (hrp : X.mg ("repr" : Str) = none) (hN : 1 < X.N.length) :
    ∀ (hs : List (Nat × Hk)) (es : List ExceptHandler), chkCls sc X.N xs hs es = true → ∃ l, Clauses X es l ∧ Wish X ad Wout hs l
  | [], [], _ => ⟨[], .nil, fun _ _ _ _ _ _ _ _ _ _ _ _ _ e _ _ => by cases e⟩
  | [], _ :: _, h => by simp [chkCls] at h
  | _ :: _, [], h => by simp [chkCls] at h
  | (c, k) :: hs, e :: es, h => by
    unfold chkCls at h
    obtain ⟨h1, h2⟩ := Bool.and_eq_true_iff.mp h
    obtain ⟨l, cl, wi⟩ := cls_ok F hsc nd hg hu hrp hN hs es h2
    have gl : ∀ {x : Str}, glB sc x = true → Gl X x := fun {x} q => by
      unfold glB at q
      show X.env.scope.names.lookup x = _
      rw [hsc]
      split at q
      · assumption
      · cases q
    -- what is common
    have step : ∀ (x : Str) (C : Addr) (n : Option Nat) (ts : Addr → Value → Option Addr → TS), (c, x) ∈ xs → ad c = some C →
        (∀ (τ : L2.St) (G : Hp) (D : Ends) (d : Option Addr) (y : Exc) (g : Fo.G) (st : Store) (v : PV) (a : Addr), τ.length = X.N.length → OK X.K ad g G st → RepX X.K ad g G y (.ref C) d → y.c = c → hkv k y.p = some v → (∀ w, Rep X.K ad g.F v w → D.rt w G) → ts a (.ref C) d (endsAt D n) (slotsAt τ a n) G) →
        Wish X ad Wout ((c, k) :: hs) ((.ref C, n, ts) :: l) := by
      intro x C n ts hx hC hts τ G D cls d y g st h v hl o rx hf hk hD
      rw [List.find?_cons] at hf
      obtain ⟨C', e1, e2, e3⟩ := id rx
      subst e2
      cases hb : (c == y.c) with
      | true =>
        rw [hb] at hf
        cases hf
        have ec : c = y.c := by simpa using hb
        have eC : C' = C := by rw [← ec, hC] at e1; exact (Option.some.inj e1).symm
        subst eC
        refine ⟨true, ?_, fun _ a _ => hts τ G D d y g st v a hl o rx ec.symm hk hD, fun z => (by cases z)⟩
        have := F.one c x c x C' C' hx hx hC hC
        simpa using this
      | false =>
        rw [hb] at hf
        have ne : y.c ≠ c := fun z => by rw [z] at hb; simp at hb
        have mem : ∃ x', (y.c, x') ∈ xs := by
          have key : ∀ (hs : List (Nat × Hk)) (es : List ExceptHandler), chkCls sc X.N xs hs es = true → ∀ h ∈ hs, ∃ x', (h.1, x') ∈ xs := by
            intro hs
            induction hs with
            | nil => intro es _ h hm; cases hm
            | cons p hs ih =>
              intro es hc h hm
              cases es with
              | nil => simp [chkCls] at hc
              | cons e es =>
                unfold chkCls at hc
                obtain ⟨c1, c2⟩ := Bool.and_eq_true_iff.mp hc
                rcases List.mem_cons.mp hm with z | z
                · subst z
                  unfold chkCl at c1
                  split at c1
                  · split at c1
                    · exact ⟨_, of_decide_eq_true (Bool.and_eq_true_iff.mp c1).1⟩
                    · cases c1
                  · split at c1
                    · exact ⟨_, of_decide_eq_true (Bool.and_eq_true_iff.mp c1).1⟩
                    · cases c1
                  · cases c1
                · exact ih es c2 h z
          obtain ⟨x', hx'⟩ := key hs es h2 h (List.mem_of_find?_eq_some hf)
          have := List.find?_some hf
          have e : h.1 = y.c := by simpa using this
          exact ⟨x', e ▸ hx'⟩
        obtain ⟨x', hx'⟩ := mem
        refine ⟨false, ?_, fun z => (by cases z), fun _ => wi τ G D (.ref C') d y g st h v hl o rx hf hk hD⟩
        have := F.one y.c x' c x C' C hx' hx e1 hC
        rw [this]
        simpa using ne
    unfold chkCl at h1
    cases k with
    | s t =>
     dsimp only at h1
     split at h1
     · rename_i x q u j q2 q3 q4
       obtain ⟨a1, h1⟩ := Bool.and_eq_true_iff.mp h1
       obtain ⟨a2, h1⟩ := Bool.and_eq_true_iff.mp h1
       obtain ⟨a3, a4⟩ := Bool.and_eq_true_iff.mp h1
       obtain ⟨C, hC, hm, xf, no⟩ := F.at_ c x (of_decide_eq_true a1)
       refine ⟨(.ref C, none, fun _ _ _ => tRet (tC (.str u))) :: l, .plain ⟨gl a2, (nmq a3).1, .inl hm⟩ (fun a o cls d pn _ _ => pss_one (ps_ret pe_str)) cl, step x C none _ (of_decide_eq_true a1) hC ?_⟩
       intro τ G D d y g st v a _ _ _ _ hk hD
       have a4 := of_decide_eq_true a4
       unfold hkv at hk
       cases hk
       rw [a4] at hD
       exact hD _ (.str _)
     · cases h1
    | r t =>
     dsimp only at h1
     split at h1
     · rename_i x q n u j q2 r q3 m q4 f q5 q6 q7 q8 q9
       obtain ⟨a1, h1⟩ := Bool.and_eq_true_iff.mp h1
       obtain ⟨a2, h1⟩ := Bool.and_eq_true_iff.mp h1
       obtain ⟨a3, h1⟩ := Bool.and_eq_true_iff.mp h1
       obtain ⟨a4, h1⟩ := Bool.and_eq_true_iff.mp h1
       obtain ⟨a5, h1⟩ := Bool.and_eq_true_iff.mp h1
       obtain ⟨a6, h1⟩ := Bool.and_eq_true_iff.mp h1
       obtain ⟨a7, h1⟩ := Bool.and_eq_true_iff.mp h1
       obtain ⟨a8, h1⟩ := Bool.and_eq_true_iff.mp h1
       obtain ⟨a9, h1⟩ := Bool.and_eq_true_iff.mp h1
       obtain ⟨a10, a11⟩ := Bool.and_eq_true_iff.mp h1
       obtain ⟨C, hC, hm, xf, no⟩ := F.at_ c x (of_decide_eq_true a1)
       have e5 := of_decide_eq_true a5
       have e7 := of_decide_eq_true a7
       have e8 := of_decide_eq_true a8
       have e11 := of_decide_eq_true a11
       subst e5 e7 e11
       have loc : X.env.kindOf m = some .local := by
         show X.env.scope.names.lookup m = _
         rw [hsc]
         unfold isLoc at a9
         split at a9
         · assumption
         · cases a9
       refine ⟨(.ref C, some 1, fun a cls d => tRet (tOp (fun x y H Q => ∃ i j, x = .str i ∧ y = .str j ∧ i.length + j.length ≤ sizeLine ∧ Q (.str (i ++ j)) H) (tC (.str u)) (tCB (rRepr X.K) (tCons (tXf a cls d C (attrOf c) (tVar 1)) tNil)))) :: l,
         .as ⟨gl a2, (nmq a3).1, .inl hm⟩ e8 loc (fun a o cls d pn hz hf => ?_) cl, step x C (some 1) _ (of_decide_eq_true a1) hC ?_⟩
       · refine pss_one (ps_ret (pe_op op_add_str pe_str ?_))
         refine pe_callB (call_reprD (X := X.suite a ((a, o) :: pn)) nd hg hu) (gl a6) hrp (by decide +kernel) ?_
         exact pa_cons (pe_xf (X := X) xf no hz hf (pe_var (i := 1) e8 (.inl loc) (nmq a10).1 (nmq a10).2)) pa_nil
       · intro τ G D d y g st v a hl o rx hyc hk hD
         have a4 := of_decide_eq_true a4
         unfold hkv at hk
         cases hv0 : y.p with
         | none => rw [hv0] at hk; cases hk
         | some v0 =>
           rw [hv0] at hk
           dsimp only at hk
           obtain ⟨C', e1, e2, e3⟩ := rx
           rw [hv0] at e3
           obtain ⟨dd, fs, w, f1, f2, f3, f4⟩ := e3
           have txt : ∃ tx, reprv v0 = some (.str tx) ∧ (Str.ofString t).length + tx.length ≤ lim ∧ v = .str (Str.ofString t ++ tx) := by
             split at hk
             · rename_i tx htx
               split at hk
               · rename_i c2
                 cases hk
                 exact ⟨tx, htx, c2, rfl⟩
               · cases hk
             · cases hk
           obtain ⟨tx, htx, c2, ev⟩ := txt
           subst ev
           have rr : rRepr X.K [w] G (fun y H2 => ∃ i j, V.str u = .str i ∧ y = .str j ∧ i.length + j.length ≤ sizeLine ∧ D.rt (.str (i ++ j)) H2) := by
             have fin : ∃ i j, V.str u = .str i ∧ V.str tx = .str j ∧ i.length + j.length ≤ sizeLine ∧ D.rt (.str (i ++ j)) G := ⟨u, tx, rfl, rfl, by rw [← a4, ← lim_eq]; exact c2, by rw [a4] at hD; exact hD _ (.str _)⟩
             rcases repr_inv htx with ⟨kvs, ev, k1, k2⟩ | ⟨dt, hd, k1, k2, k3, k4⟩
             · subst ev k2
               cases f4 with
               | dic ha => exact .inl ⟨_, kvs, rfl, o.ex _ _ ha, k1, fin⟩
             · subst k4
               exact .inr ⟨w, dt, rfl, Rep.dp o.ex v0 w dt f4 hd, dat_nodict _ _ hd, k1, by rw [← lim_eq]; exact k2, k3, fin⟩
           exact ⟨.ref a, List.getElem?_set_self (by rw [hl]; exact hN), rfl, rfl, dd, fs, w, f1, f2, by rw [← hyc]; exact f3, rr⟩
     · cases h1
    | l => cases h1
end
section
variable {X : Cx} {pins : List (Addr × Obj)} {σ : L2.St} {H : Hp} {s : Shared} {ad : Nat → Option Addr} {lm : Lm} {cl : Cl} {xs : List (Nat × Str)} {g : Fo.G} {sl : Slots} {st : Store} {Ek : XK}
theorem codeO_tbl {c : Addr} {q : Str} (ps : Array Value) : LamX.CodeO c q ≠ .tbl ps := fun z => by
  unfold LamX.CodeO at z
  cases z
/-- the def that is given the lambda, run -/
theorem word_call {w : Wd} {gA f : Addr} {k : Nat} {x a : Str} {pg : Arguments} {bg : List Stmt} {sg : Scope} {dV kV doc pm cdv ct oc : Value} {an od : Option Addr} {osl : Array (Option Value)} {Ng : List Str} {params : Arguments} {body : Expr} {scope : Scope} {lp : Pos} {ib : E} {Q : VK}
    (I : Inv X pins σ H s) (F : ExF X.K X.mg ad xs) (nd : X.base.NoDigits) (hg : X.A.guards = some []) (hrp : X.mg ("repr" : Str) = none)
    (lk : X.K.lookup gA = some ⟨oc, od, .func (PySem.W.fnOf x x pg bg sg dV kV doc pm an cdv ct), osl⟩) (hcg : PySem.W.codeIn X.K cdv x = true) (hb : L2.Binds X.K (PySem.W.fnOf x x pg bg sg dV kV doc pm an cdv ct) [a] []) (Sg : FnScope Ng [a] sg) (h2 : 1 < Ng.length) (chk : chkWord sg Ng xs w bg = true)
    (hr : Room (k + 2) X.A) (L : LamX.LamS X.env.scope scope) (lq : lm.q = X.env.qual ++ "<lambda>") (lc : lm.cells = X.env.cells)
    (hbind : ∀ (q : Str) (cl : List (Str × Addr)) (pm cv ctv : Value), bindArgs (PySem.W.kla_fn "<lambda>" q params body scope cl pm cv ctv) ⟨[], []⟩ = pure [])
    (hbody : ∀ (A : Around) (outer : List Env) (s : Shared) (H : Hp) (E : XK) (f c' : Addr), A.guards = some [] → A.frames = some outer → Room k (A.deeper (LamX.lamEnv X scope s.heap.objs.size f c')) → PE (LamX.lamCx X A outer s H E scope f c') body (tEv X.K ad lm E (evE cl ib)))
    (ho : OK X.K ad g H st) (rs : RepSl X.K ad lm g sl σ) (la : LamAt g.F lm (.Lambda params body scope lp) f) (hf : Fin (wordOf w (evE cl ib sl) st) (Px X.K ad g Q) (Wx X.K ad g C8.E0)) :
    codeAny (model X.prog X.w) X.A (.call (.ref gA) ⟨[.ref f], []⟩) (CR C8.CX0 X.stack X.prog X.w H s Q C8.E0) s := by
  refine LamX.run_ofS (N := Ng) (ps := [a]) (us := [.ref f]) (vs := [.ref f]) lk hcg Sg hr I.env0 (hb s [.ref f] I.kIn rfl) (.cons rfl .nil) rfl fun hr' => ?_
  unfold chkWord at chk
  split at chk
  case h_2 => cases chk
  rename_i a' p1 p2 p3 h0 hs p4 u j p5 p6
  obtain ⟨c1, chk⟩ := Bool.and_eq_true_iff.mp chk
  obtain ⟨c2, chk⟩ := Bool.and_eq_true_iff.mp chk
  obtain ⟨c3, chk⟩ := Bool.and_eq_true_iff.mp chk
  obtain ⟨c4, c5⟩ := Bool.and_eq_true_iff.mp chk
  have c5 := of_decide_eq_true c5
  have vis : Vis sg a' := by
    unfold visB at c2
    split at c2
    · exact .inl (by assumption)
    · exact .inr (.inl (by assumption))
    · exact .inr (.inr (by assumption))
    · cases c2
  let C := WCx X Ng x sg gA cdv s H
  have act := fun (W : WX) (pn : List (Addr × Obj)) (xe : Value → Shared → Prop) (E : XK) (p1 p2 : Pos) (tk : Takes (C.tr pn xe) W) (hW : ∀ cls d σ' H', E cls d H' → W cls d σ' H') =>
    pe_act2 (lm := lm) (lp := lp) (f := f) (p1 := p1) (p2 := p2) I hg L lq lc hbind tk hW hr' (fun A outer s H c' h1 h2 h3 => hbody A outer s H E f c' h1 h2 h3) (of_decide_eq_true c1) vis (nmq c3).1 (nmq c3).2
  obtain ⟨l, cls, wish⟩ := cls_ok (X := C.nox) (ad := ad) (xs := xs) (sc := sg) (Wout := fun _ _ _ _ => False) F rfl nd hg (by have := hr'.un; show (X.A.deeper (envOfC x sg s.heap.objs.size gA cdv)).units + 200 < _; omega) hrp h2 w.hs (h0 :: hs) c4
  let tb : WX → TS := fun W D σZ HZ => ∃ E : XK, (∀ cls d σ' H', E cls d H' → W cls d σ' H') ∧ σZ[0]? = some (some (V.ref f)) ∧ LamAt HZ lm (.Lambda params body scope lp) f ∧ tEv X.K ad lm E (evE cl ib) σ HZ (fun _ H' => D.nx σZ H')
  have inner : ∀ (W : WX) (pn : List (Addr × Obj)) (xe : Value → Shared → Prop), Takes (C.nox.tr pn xe) W → PassesOwn (model C.nox.prog C.nox.w) C.nox.A C.nox.env xe → PSs (C.nox.tr pn xe) [.Expr (.Call (.Name a' p1) [] [] p2) p3] (tb W) := by
    intro W pn xe tk _
    refine ⟨fun pins' s' σ' H' D I' h' => ?_⟩
    obtain ⟨E, hW, q1, q2, q3⟩ := h'
    exact (pss_one (ps_expr (pos := p3) (act W pn xe E p1 p2 tk hW))).run pins' s' σ' H' D I' ⟨q1, q2, q3⟩
  have tryR : PS C.nox (.Try [.Expr (.Call (.Name a' p1) [] [] p2) p3] (h0 :: hs) [] [] p4) _ := ps_try_mix (X := C.nox) (pos := p4) (tb := tb) (l := l) (Wout := fun _ _ _ _ => False) rfl rfl Sg.nd LamX.takes0 inner cls
  refine ⟨_, (pss_cons tryR (pss_one (ps_ret (pos := p6) (pe_str (x := u) (j := j) (pos := p5))))).nox, ?_⟩
  have at0 : (L2.start Ng [V.ref f])[0]? = some (some (V.ref f)) := by
    unfold L2.start
    rfl
  have laH : LamAt H lm (.Lambda params body scope lp) f := la.mono ho.ex
  cases hm : evE cl ib sl st with
  | none =>
    unfold wordOf at hf
    rw [hm] at hf
    exact hf.elim
  | some r =>
    cases r with
    | ok v st' =>
      refine ⟨fun _ _ _ => False, fun _ _ _ _ z => z.elim, at0, laH, g, sl, st, ho, rs, ?_⟩
      rw [hm]
      intro g' H' w' l' o' r'
      show Q (.str u) H'
      unfold wordOf at hf
      rw [hm] at hf
      dsimp only at hf
      cases hfi : w.fine with
      | none => rw [hfi] at c5; cases c5
      | some y =>
        rw [hfi] at c5 hf
        have e : Str.ofString y = u := Option.some.inj c5
        have hf : Px X.K ad g Q (.d (.str (Str.ofString y))) st' := hf
        rw [e] at hf
        exact hf g' H' _ l' o' (.str _)
    | ex y st' =>
      refine ⟨fun cls d H' => ∃ g', Le g g' ∧ OK X.K ad g' H' st' ∧ RepX X.K ad g' H' y cls d, fun cls d τ' H' z hl => ?_, at0, laH, g, sl, st, ho, rs, ?_⟩
      · obtain ⟨g', l', o', rx⟩ := z
        unfold wordOf at hf
        rw [hm] at hf
        dsimp only at hf
        cases hfi : w.hs.find? (fun h => h.1 == y.c) with
        | none => rw [hfi] at hf; exact hf.elim
        | some h =>
          rw [hfi] at hf
          dsimp only at hf
          cases hk : hkv h.2 y.p with
          | none => rw [hk] at hf; exact hf.elim
          | some v =>
            rw [hk] at hf
            have hf : Px X.K ad g Q (.d v) st' := hf
            exact wish τ' H' _ cls d y g' st' h v hl o' rx hfi hk fun w' r => hf g' H' w' l' o' r
      · rw [hm]
        exact fun g' H' cls d l' o' rx => ⟨g', l', o', rx⟩
/-- _law_word(lambda: body) -/
theorem s_word {w : Wd} {gA c P : Addr} {k i : Nat} {x a : Str} {xi : String} {pg : Arguments} {bg : List Stmt} {sg : Scope} {dV kV doc pm cdv ct oc : Value} {an od : Option Addr} {osl : Array (Option Value)} {Ng : List Str} {body : Expr} {scope : Scope} {lp p pos : Pos} {ib : E}
    (F : ExF X.K X.mg ad xs) (nd : X.base.NoDigits) (hgd : X.A.guards = some []) (hrp : X.mg ("repr" : Str) = none) (hg : Gl X x) (hm : X.mg x = some (.ref gA)) (hk : PySem.W.keepIn X.K (.ref gA) = true)
    (lk : X.K.lookup gA = some ⟨oc, od, .func (PySem.W.fnOf x x pg bg sg dV kV doc pm an cdv ct), osl⟩) (hcg : PySem.W.codeIn X.K cdv x = true) (hb : L2.Binds X.K (PySem.W.fnOf x x pg bg sg dV kV doc pm an cdv ct) [a] []) (Sg : FnScope Ng [a] sg) (h2 : 1 < Ng.length) (chk : chkWord sg Ng xs w bg = true)
    (hr : Room (k + 2) X.A) (L : LamX.LamS X.env.scope scope) (lq : lm.q = X.env.qual ++ "<lambda>") (lc : lm.cells = X.env.cells)
    (TB : LamX.TabB X.base X.mg c P) (hcode : X.env.code = .ref c) (hi : i < lamNames.length) (hP : ad (10000 + i) = some P) (hq : lamQ i = X.env.qual ++ "<lambda>") (inj : ∀ i j P, i < lamNames.length → j < lamNames.length → ad (10000 + i) = some P → ad (10000 + j) = some P → i = j)
    (hbody : ∀ (A : Around) (outer : List Env) (s : Shared) (H : Hp) (E : XK) (f c' : Addr), A.guards = some [] → A.frames = some outer → Room k (A.deeper (LamX.lamEnv X scope s.heap.objs.size f c')) → PE (LamX.lamCx X A outer s H E scope f c') body (tEv X.K ad lm E (evE cl ib)))
    (hdb : (x == ("__debug__" : Str)) = false) :
    PE X (.Call (.Name x p) [.Lambda ⟨[], [], none, [], [], none, []⟩ body scope lp] [] pos) (tEv X.K ad lm Ek (evE cl (.word xi w ib))) := by
  refine ⟨fun pins s σ H Q I h => ?_⟩
  obtain ⟨g, sl, st, ho, rs, f⟩ := h
  unfold evE at f
  let T : List (Addr × Str) := (List.range lamNames.length).filterMap fun i => (ad (10000 + i)).map fun P => (P, lamQ i)
  have memT : ∀ {q : Addr × Str}, q ∈ T → ∃ i, i < lamNames.length ∧ ad (10000 + i) = some q.1 ∧ q.2 = lamQ i := fun {q} hq => by
    obtain ⟨i, h1, h2⟩ := List.mem_filterMap.mp hq
    obtain ⟨P, h3, h4⟩ := Option.map_eq_some_iff.mp h2
    subst h4
    exact ⟨i, List.mem_range.mp h1, h3, rfl⟩
  have inT : ∀ {i : Nat} {P : Addr}, i < lamNames.length → ad (10000 + i) = some P → (P, lamQ i) ∈ T := fun {i P} h1 h2 => List.mem_filterMap.mpr ⟨i, List.mem_range.mpr h1, by rw [h2]; rfl⟩
  refine wpAny_Call_Name_kw (ld_glob I hg hm ?_ hdb)
  refine PySem.W.callWith_K (h₀ := X.base) I.ok.mod.kin hk ?_ (by rfl) (by rfl)
  show wpAny _ _ (spliced ((false, eval (.Lambda ⟨[], [], none, [], [], none, []⟩ body scope lp) X.env) :: backTo pos (starEach [] X.env))) _ _ s
  refine Calls.spliced_cons (lam_made (T := T) I TB hcode (hq ▸ inT hi hP) (fun q hqT e => ?_) (fun q hqT => ?_) rfl (L.has I.ok) fun f' c' pm ctv H1 s' I1 eN T1 hf hco => ?_)
  · obtain ⟨j, j1, j2, j3⟩ := memT hqT
    rw [e] at j2
    rw [j3, ← inj i j P hi j1 hP j2, hq]
  · obtain ⟨j, j1, j2, j3⟩ := memT hqT
    have := ho.tb j q.1 j1 j2
    rw [← j3] at this
    exact this
  refine Calls.spliced_nil ⟨I1.kIn, ?_⟩
  have o1 := ho.grown eN fun j Pj h1 h2 => T1 _ (inT h1 h2)
  obtain ⟨g1, o2, l1, f1⟩ := o1.keepT hf lamO_lst lamO_tbl
  obtain ⟨g2, o3, l2, f2⟩ := o2.keepT hco codeO_lst codeO_tbl
  have la : LamAt g2.F lm (.Lambda ⟨[], [], none, [], [], none, []⟩ body scope lp) f' := ⟨pm, c', ctv, by rw [lq, lc]; exact l2.ex _ _ f1, by rw [lq]; exact f2⟩
  have l12 := l1.trans l2
  have fin : Fin (wordOf w (evE cl ib sl) st) (Px X.K ad g2 Q) (Wx X.K ad g2 C8.E0) := by
    have noex : ∀ y s', wordOf w (evE cl ib sl) st ≠ some (.ex y s') := fun y s' z => by
      unfold wordOf at z
      repeat' split at z
      all_goals cases z
    generalize hw : wordOf w (evE cl ib sl) st = r at f noex
    cases r with
    | none => exact f.elim
    | some r =>
      cases r with
      | ok v s2 =>
        have f : Px X.K ad g Q v s2 := f
        exact Px.mono l12 f
      | ex y s2 => exact absurd rfl (noex y s2)
  have rc := word_call I1 F nd hgd hrp lk hcg hb Sg h2 chk hr L lq lc (fun _ _ _ _ _ => rfl) hbody o3 (rs.mono l12) la fin
  refine wpAny_call (codeAny_mono rc fun r s2 hq => ?_)
  match r, hq with
  | .error e, hq => exact (show False from hq).elim
  | .ok (.ret u), hq => exact I1.after hq
end
end Fo
end -- FoWord

section -- FoChk
set_option Elab.async false
set_option linter.all false
set_option maxRecDepth 100000
set_option maxHeartbeats 1000000
/-! FoChk: a term of ours against a row's expression, by a Bool; what it asks of the context; it keeps. -/
namespace Fo
open PySem L2 Evl PyProof.Rows
/-- a def, as its callers see it -/
structure Fi where
  x : Str
  np : Nat
  dfl : List Int
  fr : Bool
structure Ck where
  N : List Str
  sc : Scope
  fnB : Str → Bool
  tb : Nat → Option Fi
  cn : List (String × GC)
  xs : List (Nat × Str)
  wds : List (Str × Wd)
  lam : Option Nat
def slotB (ck : Ck) (i : Nat) (x : Str) : Bool := decide (ck.N[i]? = some x) && (visB ck.sc x && nmOk x)
def tgtB (ck : Ck) (i : Nat) (x : Str) : Bool := decide (ck.N[i]? = some x) && (isLoc ck.sc x || (isCel ck.sc x && ck.fnB x))
def notStar : Expr → Bool
  | .Starred .. => false
  | _ => true
def Ck.blk (ck : Ck) (scope : Scope) : Ck := { ck with sc := relS scope ck.sc, fnB := fun x => scope.names.lookup x == some .cell, lam := none }
/-- in a lambda's body -/
def Ck.lamb (ck : Ck) (scope : Scope) : Ck := { ck with sc := scope, fnB := fun _ => false, lam := none }
def chkNs (ck : Ck) : List Nat → List Expr → Bool
  | [], [] => true
  | i :: is, .Name x _ :: es => tgtB ck i x && chkNs ck is es
  | _, _ => false
def chkTg (ck : Ck) : Tg → Expr → Bool
  | .n i, a => (match a with
    | .Name x _ => tgtB ck i x
    | _ => false)
  | .t is, a => (match a with
    | .Tuple es _ _ => chkNs ck is es
    | _ => false)
def isBl : E → Bool
  | .and _ _ => true
  | .or _ _ => true
  | .one _ => true
  | _ => false
def tstOk : E → Bool
  | .not a => tstOk a
  | .and a b => tstOk a && (isBl b && tstOk b)
  | .or a b => tstOk a && (isBl b && tstOk b)
  | .one a => tstOk a
  | .ifx _ _ _ => false
  | .neg _ => false
  | _ => true
def isFr : E → Bool
  | .lst _ => true
  | .lc _ _ _ _ => true
  | .call _ _ _ => true
  | _ => false
def notSet : Expr → Bool
  | .Set .. => false
  | _ => true
/-- what zip and enumerate give is unpacked -/
def wtB : W → Expr → Bool
  | .zip _ _, a => (match a with
    | .Tuple _ _ _ => true
    | _ => false)
  | .enum _, a => (match a with
    | .Tuple _ _ _ => true
    | _ => false)
  | _, _ => true
mutual
def chkE (ck : Ck) : E → Expr → Bool
  | .slot i, a => (match a with
    | .Name x _ => slotB ck i x
    | _ => false)
  | .non, a => (match a with
    | .Constant .none _ _ => true
    | _ => false)
  | .bl b, a => (match a with
    | .Constant (.bool c) _ _ => decide (b = c)
    | _ => false)
  | .int i, a => (match a with
    | .Constant (.int c) _ _ => decide (i = c)
    | _ => false)
  | .str s, a => (match a with
    | .Constant (.str c) _ _ => decide (Str.ofString s = c)
    | _ => false)
  | .glob s c, a => (match a with
    | .Name x _ => decide (Str.ofString s = x) && (glB ck.sc x && (nmOk x && decide ((s, c) ∈ ck.cn)))
    | _ => false)
  | .fnv f, a => (match a with
    | .Name x _ => (match ck.tb f with
      | some i => decide (i.x = x) && (glB ck.sc x && nmOk x)
      | none => false)
    | _ => false)
  | .dic0, a => (match a with
    | .Dict [] [] _ => true
    | _ => false)
  | .dic1 k v, a => (match a with
    | .Dict [some (.Constant (.int k') _ _)] [.Constant (.int v') _ _] _ => decide (k = k') && decide (v = v')
    | _ => false)
  | .tup es, a => (match a with
    | .Tuple xs _ _ => chkEs ck es xs && decide (es.len ≤ 1000)
    | _ => false)
  | .lst es, a => (match a with
    | .List xs _ => chkEs ck es xs && decide (es.len ≤ 1000)
    | _ => false)
  | .bin o x y, a => (match a with
    | .BinOp l op r _ => decide (opA o = op) && (chkE ck x l && chkE ck y r)
    | _ => false)
  | .neg x, a => (match a with
    | .UnaryOp .USub l _ => chkE ck x l
    | _ => false)
  | .not x, a => (match a with
    | .UnaryOp .Not l _ => chkE ck x l
    | _ => false)
  | .cmp o x y, a => (match a with
    | .Compare l [op] [r] _ => decide (cmA o = op) && (chkE ck x l && (chkE ck y r && notSet r))
    | _ => false)
  | .chain o o' x y z, a => (match a with
    | .Compare l [op, op'] [r, t] _ => decide (cmA o = op) && (decide (cmA o' = op') && (chkE ck x l && (chkE ck y r && (chkE ck z t && notSet t))))
    | _ => false)
  | .and x y, a => (match a with
    | .BoolOp .And (l :: r :: rest) p => chkE ck x l && chkE ck y (.BoolOp .And (r :: rest) p)
    | _ => false)
  | .or x y, a => (match a with
    | .BoolOp .Or (l :: r :: rest) p => chkE ck x l && chkE ck y (.BoolOp .Or (r :: rest) p)
    | _ => false)
  | .one x, a => (match a with
    | .BoolOp _ [l] _ => chkE ck x l
    | _ => false)
  | .ifx t x y, a => (match a with
    | .IfExp c l r _ => chkE ck t c && (tstOk t && (chkE ck x l && chkE ck y r))
    | _ => false)
  | .ix x y, a => (match a with
    | .Subscript l r _ => chkE ck x l && (chkE ck y r && notSlice r)
    | _ => false)
  | .cut x lo hi, a => (match a with
    | .Subscript l (.Slice lo' hi' none _) _ => chkE ck x l && (chkO ck lo lo' && chkO ck hi hi')
    | _ => false)
  | .rev x, a => (match a with
    | .Subscript l (.Slice none none (some (.UnaryOp .USub (.Constant (.int i) _ _) _)) _) _ => decide (i = 1) && chkE ck x l
    | _ => false)
  | .call f es ds, a => (match a with
    | .Call (.Name x _) xs [] _ => (match ck.tb f with
      | some i => decide (i.x = x) && (glB ck.sc x && (nmOk x && (decide (es.len + ds.length = i.np) && (decide (ds = i.dfl.drop (i.dfl.length - ds.length)) && chkEs ck es xs))))
      | none => false)
    | _ => false)
  | .bi b es, a => (match a with
    | .Call (.Name x _) (y :: ys) [] _ => decide (Str.ofString (biN b) = x) && (glB ck.sc x && chkEs ck es (y :: ys))
    | _ => false)
  | .isi x t, a => (match a with
    | .Call (.Name n _) [l, .Name m _] [] _ => decide (n = ("isinstance" : Str)) && (glB ck.sc n && (decide (Str.ofString (tyN t) = m) && (glB ck.sc m && (chkE ck x l && notStar l))))
    | _ => false)
  | .lc w tg c e, a => (match a with
    | .ListComp elt [⟨t, it, ifs, as⟩] scope _ => decide (as = 0) && ((chkW ck w it && wtB w t) && (notSet it && (blkC ck.N ck.sc scope (ownOf ck.N tg) && (chkTg (ck.blk scope) tg t && (chkC (ck.blk scope) c ifs && chkE (ck.blk scope) e elt)))))
    | _ => false)
  | .word x w b, a => (match a with
    | .Call (.Name y _) [.Lambda ⟨[], [], none, [], [], none, []⟩ body scope _] [] _ => decide (Str.ofString x = y) && (glB ck.sc y && (nmOk y && (decide ((y, w) ∈ ck.wds) && (ck.lam.isSome && (LamX.lamSB ck.sc scope && chkE (ck.lamb scope) b body)))))
    | _ => false)
  | .words _ _ _ _ _, _ => false
  | .star _ _, _ => false
  | .callv _ _, _ => false
  | .frz _, _ => false
def chkEs (ck : Ck) : Es → List Expr → Bool
  | .nil, a => (match a with
    | [] => true
    | _ => false)
  | .cons e es, a => (match a with
    | x :: xs => notStar x && (chkE ck e x && chkEs ck es xs)
    | _ => false)
def chkO (ck : Ck) : Oe → Option Expr → Bool
  | .no, a => (match a with
    | none => true
    | _ => false)
  | .ye e, a => (match a with
    | some x => chkE ck e x
    | _ => false)
def chkC (ck : Ck) : Oe → List Expr → Bool
  | .no, a => (match a with
    | [] => true
    | _ => false)
  | .ye e, a => (match a with
    | [x] => chkE ck e x && tstOk e
    | _ => false)
def chkW (ck : Ck) : W → Expr → Bool
  | .rng1 e, a => (match a with
    | .Call (.Name n _) [x] [] _ => decide (n = ("range" : Str)) && (glB ck.sc n && (notStar x && chkE ck e x))
    | _ => false)
  | .rng2 e e', a => (match a with
    | .Call (.Name n _) [x, y] [] _ => decide (n = ("range" : Str)) && (glB ck.sc n && (notStar x && (notStar y && (chkE ck e x && chkE ck e' y))))
    | _ => false)
  | .over e, a => chkE ck e a
  | .chars e, a => chkE ck e a
  | .zip e e', a => (match a with
    | .Call (.Name n _) [x, y] [] _ => decide (n = ("zip" : Str)) && (glB ck.sc n && (notStar x && (notStar y && (chkE ck e x && chkE ck e' y))))
    | _ => false)
  | .enum e, a => (match a with
    | .Call (.Name n _) [x] [] _ => decide (n = ("enumerate" : Str)) && (glB ck.sc n && (notStar x && chkE ck e x))
    | _ => false)
end
/-! ### what is asked of the context -/
/-- the def that is given lambdas -/
def WdF (K : PySem.W.Frag) (mg : Str → Option Value) (xs : List (Nat × Str)) (x : Str) (w : Wd) : Prop :=
  ∃ (gA : Addr) (a : Str) (pg : Arguments) (bg : List Stmt) (sg : Scope) (dV kV doc pm cdv ct oc : Value) (an od : Option Addr) (osl : Array (Option Value)) (Ng : List Str), mg x = some (.ref gA) ∧ PySem.W.keepIn K (.ref gA) = true ∧
    K.lookup gA = some ⟨oc, od, .func (PySem.W.fnOf x x pg bg sg dV kV doc pm an cdv ct), osl⟩ ∧ PySem.W.codeIn K cdv x = true ∧ L2.Binds K (PySem.W.fnOf x x pg bg sg dV kV doc pm an cdv ct) [a] [] ∧ FnScope Ng [a] sg ∧ 1 < Ng.length ∧ chkWord sg Ng xs w bg = true
structure Fit (X : Cx) (ad : Nat → Option Addr) (lm : Lm) (cl : Cl) (Ek : XK) (n : Nat) (ck : Ck) : Prop where
  calm : X.calm = true
  nd : X.N.Nodup
  N : X.N = ck.N
  sc : X.env.scope = ck.sc
  fn : ∀ x, ck.fnB x = true → X.fn x = true
  gd : X.A.guards = some []
  dig : X.base.NoDigits
  seer : X.base.NoSeer
  tree : X.prog.given.tree = none
  frm : Frm X.A
  dp : X.A.depth + Builtin.pylongFrames < recursionLimit
  room : Room n X.A
  cn : ∀ p ∈ ck.cn, ∃ u w, X.mg (Str.ofString p.1) = some u ∧ RelV w u ∧ ∀ F, Rep X.K ad F p.2.val w
  bi : ∀ b, X.mg (Str.ofString (biN b)) = none
  ty : ∀ t, X.mg (Str.ofString (tyN t)) = none
  isi : X.mg ("isinstance" : Str) = none
  rng : X.mg ("range" : Str) = none
  zip : X.mg ("zip" : Str) = none
  enu : X.mg ("enumerate" : Str) = none
  call : ∀ f i, ck.tb f = some i → ∃ a, ad f = some a ∧ X.mg i.x = some (.ref a) ∧ PySem.W.keepIn X.K (.ref a) = true ∧ ∃ (fd : FuncData) (ps : List Str), ps.length = i.np ∧
    (∀ j, j ≤ i.dfl.length → ∃ ds, Vals ((i.dfl.drop j).map V.int) ds ∧ Binds X.K fd ps ds) ∧
    ∀ fr, (fr = true → i.fr = true) → FnG X.prog X.w X.K X.mg X.base (L2.CX X.prog X.w) n a fd ps (spF X.K ad fr (cl f))
  pass : Passes (L2.CX X.prog X.w) X Ek
  lev : 40 ≤ n
  exf : ExF X.K X.mg ad ck.xs
  wdf : ∀ x w, (x, w) ∈ ck.wds → WdF X.K X.mg ck.xs x w
  inj : ∀ i j P, i < lamNames.length → j < lamNames.length → ad (10000 + i) = some P → ad (10000 + j) = some P → i = j
  lamf : ∀ i, ck.lam = some i → Room (n + 2) X.A ∧ i < lamNames.length ∧ lm.q = X.env.qual ++ "<lambda>" ∧ lm.cells = X.env.cells ∧ lamQ i = X.env.qual ++ "<lambda>" ∧ ∃ c P, LamX.TabB X.base X.mg c P ∧ X.env.code = .ref c ∧ ad (10000 + i) = some P
section
variable {X : Cx} {ad : Nat → Option Addr} {lm : Lm} {cl : Cl} {Ek : XK} {n : Nat} {ck : Ck}
theorem Fit.blk (h : Fit X ad lm cl Ek n ck) {s : Shared} {H : Hp} {scope : Scope} {C : Addr} {cls : List (Str × Addr)} {fp : List Addr} : Fit (X.blk s H scope (compEnvC scope cls C X.env) fp) ad lm cl E0 n (ck.blk scope) where
  calm := h.calm
  nd := h.nd
  N := h.N
  sc := by
    have e := h.sc
    show relabel scope X.env = relS scope ck.sc
    rw [← e]
    rfl
  fn := fun x q => q
  gd := h.gd
  dig := h.dig
  seer := h.seer
  tree := h.tree
  frm := h.frm
  dp := h.dp
  room := h.room
  cn := h.cn
  bi := h.bi
  ty := h.ty
  isi := h.isi
  rng := h.rng
  zip := h.zip
  enu := h.enu
  call := h.call
  pass := passL
  lev := h.lev
  exf := h.exf
  wdf := h.wdf
  inj := h.inj
  lamf := fun i q => by cases q
theorem Fit.lamb (h : Fit X ad lm cl Ek n ck) {A : Around} {outer : List Env} {s : Shared} {H : Hp} {E : XK} {scope : Scope} {f c' : Addr} {m : Nat} (L : LamX.LamS X.env.scope scope) (hg : A.guards = some []) (hf : A.frames = some outer) (hr : Room n (A.deeper (LamX.lamEnv X scope m f c'))) (hm : m = s.heap.objs.size) :
    Fit (LamX.lamCx X A outer s H E scope f c') ad lm cl E n (ck.lamb scope) where
  calm := rfl
  nd := h.nd
  N := h.N
  sc := rfl
  fn := fun x q => by cases q
  gd := hg
  dig := h.dig
  seer := h.seer
  tree := h.tree
  frm := ⟨_, _, Around.frames_deeper hf, L.gen, L.co, rfl, rfl⟩
  dp := by
    subst hm
    have := hr.dp
    have e100 : Builtin.pylongFrames = 100 := rfl
    have z : (A.deeper (LamX.lamEnv X scope s.heap.objs.size f c')).depth = A.depth + 1 := rfl
    have h40 := h.lev
    show A.depth + 1 + Builtin.pylongFrames < recursionLimit
    omega
  room := by subst hm; exact hr
  cn := h.cn
  bi := h.bi
  ty := h.ty
  isi := h.isi
  rng := h.rng
  zip := h.zip
  enu := h.enu
  call := h.call
  pass := passes_call (takes_of rfl rfl rfl rfl) fun _ _ _ _ q => q
  exf := h.exf
  wdf := h.wdf
  inj := h.inj
  lamf := fun i q => by cases q
  lev := h.lev
theorem Fit.big (h : Fit X ad lm cl Ek n ck) : Big X := big_of h.seer h.tree h.frm h.dp
theorem Fit.un (h : Fit X ad lm cl Ek n ck) : X.A.units + 200 < cLine := by have := h.room.un; omega
theorem Fit.un64 (h : Fit X ad lm cl Ek n ck) : X.A.units + 64 < cLine := by have := h.room.un; omega
theorem vis_of {sc : Scope} {x : Str} (h : visB sc x = true) : Vis sc x := by
  unfold visB at h
  split at h
  · exact .inl (by assumption)
  · exact .inr (.inl (by assumption))
  · exact .inr (.inr (by assumption))
  · cases h
theorem loc_of {sc : Scope} {x : Str} (h : isLoc sc x = true) : sc.names.lookup x = some .local := by
  unfold isLoc at h
  split at h
  · assumption
  · cases h
theorem cel_of {sc : Scope} {x : Str} (h : isCel sc x = true) : sc.names.lookup x = some .cell := by
  unfold isCel at h
  split at h
  · assumption
  · cases h
theorem Fit.gl (h : Fit X ad lm cl Ek n ck) {x : Str} (q : glB ck.sc x = true) : Gl X x := by
  unfold glB at q
  show X.env.scope.names.lookup x = _
  rw [h.sc]
  split at q
  · assumption
  · cases q
theorem nm_of {x : Str} (h : nmOk x = true) : (x == ("__debug__" : Str)) = false ∧ (x == ("__classdict__" : Str)) = false := by
  unfold nmOk at h
  rw [Bool.and_eq_true, Bool.not_eq_true', Bool.not_eq_true'] at h
  exact h
theorem Fit.slot (h : Fit X ad lm cl Ek n ck) {i : Nat} {x : Str} {pos : Pos} (q : slotB ck i x = true) : PE X (.Name x pos) (tEv X.K ad lm Ek (evE cl (.slot i))) := by
  unfold slotB at q
  rw [Bool.and_eq_true, Bool.and_eq_true] at q
  obtain ⟨n1, n2⟩ := nm_of q.2.2
  exact s_slot (by rw [h.N]; exact of_decide_eq_true q.1) (by rw [h.sc]; exact vis_of q.2.1) n1 n2
theorem Fit.tgt (h : Fit X ad lm cl Ek n ck) {i : Nat} {x : Str} (q : tgtB ck i x = true) : X.N[i]? = some x ∧ Loc X.env.scope x ∧ (X.fn x = true ∨ X.env.scope.names.lookup x = some .local) := by
  unfold tgtB at q
  rw [Bool.and_eq_true, Bool.or_eq_true, Bool.and_eq_true] at q
  refine ⟨by rw [h.N]; exact of_decide_eq_true q.1, ?_⟩
  rw [h.sc]
  rcases q.2 with z | z
  · exact ⟨.inl (loc_of z), .inr (loc_of z)⟩
  · exact ⟨.inr (cel_of z.1), .inl (h.fn x z.2)⟩
theorem Fit.nms (h : Fit X ad lm cl Ek n ck) : ∀ {is : List Nat} {es : List Expr}, chkNs ck is es = true → Nms X is es
  | [], [], _ => .nil
  | i :: is, .Name x _ :: es, q => by
    unfold chkNs at q
    rw [Bool.and_eq_true] at q
    obtain ⟨a, b, c⟩ := h.tgt q.1
    exact .cons a b c (h.nms q.2)
  | [], _ :: _, q => by simp [chkNs] at q
  | _ :: _, [], q => by simp [chkNs] at q
  | i :: is, e :: es, q => by
    cases e with
    | Name x p =>
      unfold chkNs at q
      rw [Bool.and_eq_true] at q
      obtain ⟨a, b, c⟩ := h.tgt q.1
      exact .cons a b c (h.nms q.2)
    | _ => simp [chkNs] at q
theorem Fit.pg (h : Fit X ad lm cl Ek n ck) {tg : Tg} {e : Expr} (q : chkTg ck tg e = true) : PG X e (gRd X.K tg) := by
  cases tg with
  | n i =>
    simp only [chkTg] at q
    split at q
    · obtain ⟨a, b, c⟩ := h.tgt q
      exact pg_name h.nd a b c
    · cases q
  | t is =>
    simp only [chkTg] at q
    split at q
    · exact (h.nms q).pg h.calm h.nd
    · cases q
theorem star_cons {e : Expr} {es : List Expr} {env : PySem.Env} (h : notStar e = true) : starEach (e :: es) env = (false, eval e env) :: starEach es env := by
  cases e <;> first
    | rfl
    | cases h
theorem chkEs_star : ∀ {ies : Es} {es : List Expr}, chkEs ck ies es = true → ∀ e ∈ es, notStar e = true
  | .nil, es, q => by
    unfold chkEs at q
    split at q
    · intro e he; cases he
    · cases q
  | .cons i is, es, q => by
    unfold chkEs at q
    split at q
    · rename_i x xs
      rw [Bool.and_eq_true, Bool.and_eq_true] at q
      intro e he
      rcases List.mem_cons.mp he with z | z
      · rw [z]; exact q.1
      · exact chkEs_star q.2.2 e z
    · cases q
theorem star_any {pos : Pos} {env : PySem.Env} : ∀ {es : List Expr}, (∀ e ∈ es, notStar e = true) → (backTo pos (starEach es env)).any (·.1) = false
  | [], _ => rfl
  | e :: es, h => by
    rw [star_cons (h e List.mem_cons_self)]
    show (false || (backTo pos (starEach es env)).any (·.1)) = false
    rw [Bool.false_or]
    exact star_any fun e he => h e (List.mem_cons_of_mem _ he)
theorem chkEs_len : ∀ {ies : Es} {es : List Expr}, chkEs ck ies es = true → es.length = ies.len
  | .nil, es, q => by
    unfold chkEs at q
    split at q
    · rfl
    · cases q
  | .cons i is, es, q => by
    unfold chkEs at q
    split at q
    · rename_i x xs
      rw [Bool.and_eq_true, Bool.and_eq_true] at q
      exact congrArg (· + 1) (chkEs_len q.2.2)
    · cases q
theorem folded_of {e : Expr} {env : PySem.Env} (h : notSet e = true) : ∀ x, foldedSetIterable e env x = pure x := by
  intro x
  cases e <;> first
    | rfl
    | cases h
theorem behind_of {op : CmpOp} {e : Expr} (h : notSet e = true) : behindInMarks op e = false := by
  cases e <;> first
    | rfl
    | cases h
theorem plainIx_of {e : Expr} (h : notSlice e = true) : PlainIx e := by
  intro o i
  cases e <;> first
    | rfl
    | cases h
theorem bnd_inv {α β : Type} {m : M α} {k : α → M β} {st st' : Store} {v : β} (h : bnd m k st = some (.ok v st')) : ∃ a s, m st = some (.ok a s) ∧ k a s = some (.ok v st') := by
  cases e : m st with
  | none => unfold bnd at h; rw [e] at h; cases h
  | some r =>
    cases r with
    | ex x s => rw [bnd_ex e] at h; cases h
    | ok a s => rw [bnd_ok e] at h; exact ⟨a, s, rfl, h⟩
theorem lst_inv {es : Es} {sl : Slots} {st st' : Store} {v : SV} (h : evE cl (.lst es) sl st = some (.ok v st')) : ∃ xs, v = .d (.lst xs) := by
  unfold evE at h
  obtain ⟨a, s, _, h⟩ := bnd_inv h
  obtain ⟨b, s, _, h⟩ := bnd_inv h
  cases h
  exact ⟨_, rfl⟩
theorem lc_inv {w : W} {tg : Tg} {c : Oe} {e : E} {sl : Slots} {st st' : Store} {v : SV} (h : evE cl (.lc w tg c e) sl st = some (.ok v st')) : ∃ xs, v = .d (.lst xs) := by
  unfold evE at h
  obtain ⟨a, s, _, h⟩ := bnd_inv h
  split at h
  · obtain ⟨b, s, _, h⟩ := bnd_inv h
    cases h
    exact ⟨_, rfl⟩
  · cases h
end
end Fo
end -- FoChk

section -- FoSnd
set_option Elab.async false
set_option linter.all false
set_option maxRecDepth 100000
set_option maxHeartbeats 2000000
/-! FoSnd: a checked term keeps. -/
namespace Fo
open PySem L2 Evl PyProof.Rows
def frE (ck : Ck) : E → Bool
  | .lst _ => true
  | .bin .add _ _ => true
  | .lc _ _ _ _ => true
  | .call f _ _ => (match ck.tb f with
    | some i => i.fr
    | none => false)
  | _ => false
structure SndE (X : Cx) (ad : Nat → Option Addr) (lm : Lm) (cl : Cl) (Ek : XK) (ck : Ck) (ie : E) (e : Expr) : Prop where
  pe : PE X e (tEv X.K ad lm Ek (evE cl ie))
  pt : tstOk ie = true → PT X e (tBv X.K ad lm Ek cl ie)
  pw : isBl ie = true → tstOk ie = true → PW X e (tBv X.K ad lm Ek cl ie)
  fr : frE ck ie = true → PE X e (tFr X.K ad lm Ek (evE cl ie))
section
variable {ad : Nat → Option Addr} {lm : Lm} {cl : Cl} {n : Nat}
theorem SndE.val {X : Cx} {Ek : XK} {ck : Ck} {ie : E} {e : Expr} (h : PE X e (tEv X.K ad lm Ek (evE cl ie))) (he : ∀ whole, isTrue e X.env whole = (do let v ← whole; standAt e.pos; holding [v] (truthy v))) (hb : isBl ie = false) (hf : frE ck ie = false) : SndE X ad lm cl Ek ck ie e :=
  ⟨h, fun _ => t_val h he, fun z => (by rw [hb] at z; cases z), fun z => (by rw [hf] at z; cases z)⟩
theorem SndE.noT {X : Cx} {Ek : XK} {ck : Ck} {ie : E} {e : Expr} (h : PE X e (tEv X.K ad lm Ek (evE cl ie))) (hp : tstOk ie = true → PT X e (tBv X.K ad lm Ek cl ie)) (hb : isBl ie = false) (hf : frE ck ie = false) : SndE X ad lm cl Ek ck ie e :=
  ⟨h, hp, fun z => (by rw [hb] at z; cases z), fun z => (by rw [hf] at z; cases z)⟩
theorem SndE.bl {X : Cx} {Ek : XK} {ck : Ck} {ie : E} {e : Expr} (h : PE X e (tEv X.K ad lm Ek (evE cl ie))) (hp : tstOk ie = true → PW X e (tBv X.K ad lm Ek cl ie)) (hf : frE ck ie = false) : SndE X ad lm cl Ek ck ie e :=
  ⟨h, fun z => (hp z).pt, fun _ z => hp z, fun z => (by rw [hf] at z; cases z)⟩
theorem two {a b : Bool} (h : (a && b) = true) : a = true ∧ b = true := Bool.and_eq_true_iff.mp h
mutual
theorem chkE_ok : ∀ (ie : E) (X : Cx) (Ek : XK) (ck : Ck), Fit X ad lm cl Ek n ck → ∀ e : Expr, chkE ck ie e = true → SndE X ad lm cl Ek ck ie e
  | .slot i, X, Ek, ck, F, e, h => by
    simp only [chkE] at h
    split at h
    · exact .val (F.slot h) (fun _ => rfl) rfl rfl
    · cases h
  | .non, X, Ek, ck, F, e, h => by
    simp only [chkE] at h
    split at h
    · exact .val s_non (fun _ => rfl) rfl rfl
    · cases h
  | .bl b, X, Ek, ck, F, e, h => by
    simp only [chkE] at h
    split at h
    · have h := of_decide_eq_true h
      subst h
      exact .val s_bl (fun _ => rfl) rfl rfl
    · cases h
  | .int i, X, Ek, ck, F, e, h => by
    simp only [chkE] at h
    split at h
    · have h := of_decide_eq_true h
      subst h
      exact .val s_int (fun _ => rfl) rfl rfl
    · cases h
  | .str x, X, Ek, ck, F, e, h => by
    simp only [chkE] at h
    split at h
    · have h := of_decide_eq_true h
      subst h
      exact .val s_str (fun _ => rfl) rfl rfl
    · cases h
  | .glob x c, X, Ek, ck, F, e, h => by
    simp only [chkE] at h
    split at h
    · obtain ⟨h1, h⟩ := two h
      obtain ⟨h2, h⟩ := two h
      obtain ⟨h3, h4⟩ := two h
      have eh1 := of_decide_eq_true h1
      subst eh1
      obtain ⟨u, w, g1, g2, g3⟩ := F.cn _ (of_decide_eq_true h4)
      exact .val (s_glob (F.gl h2) g1 g2 g3 (nm_of h3).1) (fun _ => rfl) rfl rfl
    · cases h
  | .fnv f, X, Ek, ck, F, e, h => by
    simp only [chkE] at h
    split at h
    · split at h
      · rename_i x p i hi
        obtain ⟨h1, h⟩ := two h
        obtain ⟨h2, h3⟩ := two h
        have eh1 := of_decide_eq_true h1
        subst eh1
        obtain ⟨a, g1, g2, _⟩ := F.call _ _ hi
        exact .val (s_fnv (F.gl h2) g2 g1 (nm_of h3).1) (fun _ => rfl) rfl rfl
      · cases h
    · cases h
  | .dic0, X, Ek, ck, F, e, h => by
    simp only [chkE] at h
    split at h
    · exact .val s_dic0 (fun _ => rfl) rfl rfl
    · cases h
  | .dic1 k v, X, Ek, ck, F, e, h => by
    simp only [chkE] at h
    split at h
    · obtain ⟨h1, h2⟩ := two h
      have h1 := of_decide_eq_true h1
      have h2 := of_decide_eq_true h2
      subst h1 h2
      exact .val s_dic1 (fun _ => rfl) rfl rfl
    · cases h
  | .tup es, X, Ek, ck, F, e, h => by
    simp only [chkE] at h
    split at h
    · obtain ⟨h1, h2⟩ := two h
      exact .val (s_tup (chkEs_ok es X Ek ck F _ h1) (of_decide_eq_true h2)) (fun _ => rfl) rfl rfl
    · cases h
  | .lst es, X, Ek, ck, F, e, h => by
    simp only [chkE] at h
    split at h
    · obtain ⟨h1, h2⟩ := two h
      have q := fun p : Pos => s_lst (pos := p) (chkEs_ok es X Ek ck F _ h1) (of_decide_eq_true h2)
      have p := fun i => fr_of (fun _ _ _ _ z => lst_inv z) (q i)
      exact ⟨p _, fun _ => t_val (p _) (fun _ => rfl), fun z => (by cases z), fun _ => q _⟩
    · cases h
  | .bin o x y, X, Ek, ck, F, e, h => by
    simp only [chkE] at h
    split at h
    · obtain ⟨h1, h⟩ := two h
      obtain ⟨h2, h3⟩ := two h
      have eh1 := of_decide_eq_true h1
      subst eh1
      have pb := fun p : Pos => s_bin (pos := p) F.big o (chkE_ok x X Ek ck F _ h2).pe (chkE_ok y X Ek ck F _ h3).pe
      refine ⟨pb _, fun _ => t_val (pb _) (fun _ => rfl), fun z => (by cases z), fun z => ?_⟩
      cases o with
      | add => exact s_addF F.big (chkE_ok x X Ek ck F _ h2).pe (chkE_ok y X Ek ck F _ h3).pe trivial
      | _ => cases z
    · cases h
  | .neg x, X, Ek, ck, F, e, h => by
    simp only [chkE] at h
    split at h
    · exact .noT (s_neg (chkE_ok x X Ek ck F _ h).pe) (fun z => by cases z) rfl rfl
    · cases h
  | .not x, X, Ek, ck, F, e, h => by
    simp only [chkE] at h
    split at h
    · exact .noT (s_not (chkE_ok x X Ek ck F _ h).pe) (fun z => t_not ((chkE_ok x X Ek ck F _ h).pt z)) rfl rfl
    · cases h
  | .cmp o x y, X, Ek, ck, F, e, h => by
    simp only [chkE] at h
    split at h
    · obtain ⟨h1, h⟩ := two h
      obtain ⟨h2, h⟩ := two h
      obtain ⟨h3, h4⟩ := two h
      have eh1 := of_decide_eq_true h1
      subst eh1
      have px := (chkE_ok x X Ek ck F _ h2).pe
      have py := (chkE_ok y X Ek ck F _ h3).pe
      exact .noT (s_cmp F.un64 o px py (behind_of h4)) (fun _ => t_cmp F.un64 o px py (behind_of h4)) rfl rfl
    · cases h
  | .chain o o' x y z, X, Ek, ck, F, e, h => by
    simp only [chkE] at h
    split at h
    · obtain ⟨h0, h⟩ := two h
      obtain ⟨h1, h⟩ := two h
      obtain ⟨h2, h⟩ := two h
      obtain ⟨h3, h⟩ := two h
      obtain ⟨h4, h5⟩ := two h
      have eh0 := of_decide_eq_true h0
      have eh1 := of_decide_eq_true h1
      subst eh0
      subst eh1
      have px := (chkE_ok x X Ek ck F _ h2).pe
      have py := (chkE_ok y X Ek ck F _ h3).pe
      have pz := (chkE_ok z X Ek ck F _ h4).pe
      have hm : ∀ b : Expr, lastMarks [cmA o, cmA o'] [b, _] = false := fun b => behind_of h5
      exact .noT (s_chain F.un64 o o' px py pz (hm _)) (fun _ => t_chain F.un64 o o' px py pz (hm _)) rfl rfl
    · cases h
  | .and x y, X, Ek, ck, F, e, h => by
    simp only [chkE] at h
    split at h
    · obtain ⟨h1, h2⟩ := two h
      have px := chkE_ok x X Ek ck F _ h1
      have py := chkE_ok y X Ek ck F _ h2
      refine .bl (s_and px.pe py.pe) (fun z => ?_) rfl
      unfold tstOk at z
      obtain ⟨z1, z⟩ := two z
      obtain ⟨z2, z3⟩ := two z
      exact t_and (px.pt z1) (py.pw z2 z3)
    · cases h
  | .or x y, X, Ek, ck, F, e, h => by
    simp only [chkE] at h
    split at h
    · obtain ⟨h1, h2⟩ := two h
      have px := chkE_ok x X Ek ck F _ h1
      have py := chkE_ok y X Ek ck F _ h2
      refine .bl (s_or px.pe py.pe) (fun z => ?_) rfl
      unfold tstOk at z
      obtain ⟨z1, z⟩ := two z
      obtain ⟨z2, z3⟩ := two z
      exact t_or (px.pt z1) (py.pw z2 z3)
    · cases h
  | .one x, X, Ek, ck, F, e, h => by
    simp only [chkE] at h
    split at h
    · have px := chkE_ok x X Ek ck F _ h
      exact .bl (s_one px.pe) (fun z => t_one1 (px.pt z)) rfl
    · cases h
  | .ifx t x y, X, Ek, ck, F, e, h => by
    simp only [chkE] at h
    split at h
    · obtain ⟨h1, h⟩ := two h
      obtain ⟨h2, h⟩ := two h
      obtain ⟨h3, h4⟩ := two h
      exact .noT (s_ifx ((chkE_ok t X Ek ck F _ h1).pt h2) (chkE_ok x X Ek ck F _ h3).pe (chkE_ok y X Ek ck F _ h4).pe) (fun z => by cases z) rfl rfl
    · cases h
  | .ix x y, X, Ek, ck, F, e, h => by
    simp only [chkE] at h
    split at h
    · obtain ⟨h1, h⟩ := two h
      obtain ⟨h2, h3⟩ := two h
      exact .val (s_ix (chkE_ok x X Ek ck F _ h1).pe (chkE_ok y X Ek ck F _ h2).pe (plainIx_of h3)) (fun _ => rfl) rfl rfl
    · cases h
  | .cut x lo hi, X, Ek, ck, F, e, h => by
    simp only [chkE] at h
    split at h
    · obtain ⟨h1, h⟩ := two h
      obtain ⟨h2, h3⟩ := two h
      exact .val (s_cut (chkE_ok x X Ek ck F _ h1).pe (chkO_ok lo X Ek ck F _ h2) (chkO_ok hi X Ek ck F _ h3)) (fun _ => rfl) rfl rfl
    · cases h
  | .rev x, X, Ek, ck, F, e, h => by
    simp only [chkE] at h
    split at h
    · obtain ⟨h1, h2⟩ := two h
      have eh1 := of_decide_eq_true h1
      subst eh1
      exact .val (s_rev (chkE_ok x X Ek ck F _ h2).pe) (fun _ => rfl) rfl rfl
    · cases h
  | .call f es ds, X, Ek, ck, F, e, h => by
    simp only [chkE] at h
    split at h
    · rename_i x p xs pos
      split at h
      · rename_i i hi
        obtain ⟨h1, h⟩ := two h
        obtain ⟨h2, h⟩ := two h
        obtain ⟨h3, h⟩ := two h
        obtain ⟨h4, h⟩ := two h
        obtain ⟨h5, h6⟩ := two h
        have eh1 := of_decide_eq_true h1
        subst eh1
        have h5 := of_decide_eq_true h5
        obtain ⟨a, g1, g2, g3, fd, ps, g4, g5, g6⟩ := F.call _ _ hi
        obtain ⟨dv, d1, d2⟩ := g5 (i.dfl.length - ds.length) (by omega)
        rw [← h5] at d1
        have hst := chkEs_star h6
        have pa := chkEs_ok es X Ek ck F _ h6
        have key : ∀ fr, (fr = true → i.fr = true) → PE X (.Call (.Name i.x p) xs [] pos) (tCall (spF X.K ad fr (cl f)) (ds.map V.int) Ek (tAv X.K ad lm Ek (evs cl es))) := by
          intro fr hfr
          cases xs with
          | nil =>
            refine PEimp (pe_callG0 (g6 fr hfr) F.gd F.room (F.gl h2) g2 g3 d2 d1 F.pass (nm_of h3).1) fun σ H Q q => ?_
            have e0 := chkEs_len h6
            cases es with
            | cons a b => cases e0
            | nil =>
              obtain ⟨g, sl, st, ho, rs, f⟩ := q
              unfold evs at f
              exact f g H [] (Le.refl g) ho .nil
          | cons y ys => exact pe_callG (g6 fr hfr) F.gd F.room (F.gl h2) g2 g3 d2 d1 F.pass pa (nm_of h3).1 (star_cons (hst y List.mem_cons_self)) (star_any fun z hz => hst z (List.mem_cons_of_mem _ hz))
        have p1 : PE X (.Call (.Name i.x p) xs [] pos) (tEv X.K ad lm Ek (evE cl (.call f es ds))) := PEimp (key false (fun z => by cases z)) fun σ H Q q => call_read q
        refine ⟨p1, fun _ => t_val p1 (fun _ => rfl), fun z => (by cases z), fun z => ?_⟩
        simp only [frE] at z
        rw [hi] at z
        exact PEimp (key true (fun _ => z)) fun σ H Q q => callF_read q
      · cases h
    · cases h
  | .bi b es, X, Ek, ck, F, e, h => by
    simp only [chkE] at h
    split at h
    · obtain ⟨h1, h⟩ := two h
      obtain ⟨h2, h3⟩ := two h
      have eh1 := of_decide_eq_true h1
      subst eh1
      have hst := chkEs_star h3
      exact .val (s_bi F.dig F.calm F.gd F.un b (F.gl h2) (F.bi b) (chkEs_ok es X Ek ck F _ h3) (star_cons (hst _ List.mem_cons_self)) (star_any fun z hz => hst z (List.mem_cons_of_mem _ hz))) (fun _ => rfl) rfl rfl
    · cases h
  | .isi x t, X, Ek, ck, F, e, h => by
    simp only [chkE] at h
    split at h
    · obtain ⟨h1, h⟩ := two h
      obtain ⟨h2, h⟩ := two h
      obtain ⟨h3, h⟩ := two h
      obtain ⟨h4, h⟩ := two h
      obtain ⟨h5, h6⟩ := two h
      have eh1 := of_decide_eq_true h1
      have eh3 := of_decide_eq_true h3
      subst eh1
      subst eh3
      exact .val (s_isi t (F.gl h2) F.isi (F.gl h4) (F.ty t) (chkE_ok x X Ek ck F _ h5).pe (star_cons h6)) (fun _ => rfl) rfl rfl
    · cases h
  | .lc w tg c ie, X, Ek, ck, F, e, h => by
    simp only [chkE] at h
    split at h
    · rename_i elt t it ifs as scope pos
      obtain ⟨h1, h⟩ := two h
      obtain ⟨h2, h⟩ := two h
      obtain ⟨h3, h⟩ := two h
      obtain ⟨h4, h⟩ := two h
      obtain ⟨h5, h⟩ := two h
      obtain ⟨h6, h7⟩ := two h
      have h1' := of_decide_eq_true h1
      subst h1'
      have q : PE X (.ListComp elt [⟨t, it, ifs, 0⟩] scope pos) (tFr X.K ad lm Ek (evE cl (.lc w tg c ie))) := s_lcF F.calm F.nd (chkW_ok w X Ek ck F _ (two h2).1 _ (two h2).2) (by rw [F.N, F.sc]; exact blkOk_by h4) (fun s H C cls fp => F.blk.pg h5)
        (fun s H C cls fp => chkC_ok c (X.blk s H scope (compEnvC scope cls C X.env) fp) (ck.blk scope) F.blk _ h6) (fun s H C cls fp => (chkE_ok ie (X.blk s H scope (compEnvC scope cls C X.env) fp) E0 (ck.blk scope) F.blk _ h7).pe) (folded_of h3)
      have p := fr_of (fun _ _ _ _ z => lc_inv z) q
      exact ⟨p, fun _ => t_val p (fun _ => rfl), fun z => (by cases z), fun _ => q⟩
    · cases h
  | .word x w b, X, Ek, ck, F, e, h => by
    simp only [chkE] at h
    split at h
    · rename_i y p body scope lp pos
      obtain ⟨h1, h⟩ := two h
      obtain ⟨h2, h⟩ := two h
      obtain ⟨h3, h⟩ := two h
      obtain ⟨h4, h⟩ := two h
      obtain ⟨h5, h⟩ := two h
      obtain ⟨h6, h7⟩ := two h
      obtain ⟨gA, a, pg, bg, sg, dV, kV, doc, pm, cdv, ct, oc, an, od, osl, Ng, g1, g2, g3, g4, g5, g6, g7, g8⟩ := F.wdf _ _ (of_decide_eq_true h4)
      obtain ⟨i, hi⟩ := Option.isSome_iff_exists.mp h5
      obtain ⟨r1, r2, r3, r4, r5, c, P, r6, r7, r8⟩ := F.lamf i hi
      have L : LamX.LamS X.env.scope scope := by rw [F.sc]; exact LamX.lamS_by h6
      exact .val (s_word F.exf F.dig F.gd (F.bi .repr) (F.gl h2) g1 g2 g3 g4 g5 g6 g7 g8 r1 L r3 r4 r6 r7 r2 r8 r5 F.inj (fun A outer s H E f c' q1 q2 q3 => (chkE_ok b (LamX.lamCx X A outer s H E scope f c') E (ck.lamb scope) (F.lamb L q1 q2 q3 rfl) body h7).pe) (nm_of h3).1) (fun _ => rfl) rfl rfl
    · cases h
  | .words a b c d f, X, Ek, ck, F, e, h => by simp only [chkE] at h; cases h
  | .star a b, X, Ek, ck, F, e, h => by simp only [chkE] at h; cases h
  | .callv a b, X, Ek, ck, F, e, h => by simp only [chkE] at h; cases h
  | .frz a, X, Ek, ck, F, e, h => by simp only [chkE] at h; cases h
theorem chkEs_ok : ∀ (ie : Es) (X : Cx) (Ek : XK) (ck : Ck), Fit X ad lm cl Ek n ck → ∀ e : List Expr, chkEs ck ie e = true → PA X e (tAv X.K ad lm Ek (evs cl ie))
  | .nil, X, Ek, ck, F, e, h => by
    simp only [chkEs] at h
    split at h
    · exact s_anil
    · cases h
  | .cons i is, X, Ek, ck, F, e, h => by
    simp only [chkEs] at h
    split at h
    · obtain ⟨h1, h⟩ := two h
      obtain ⟨h2, h3⟩ := two h
      exact s_acons (chkE_ok i X Ek ck F _ h2).pe (chkEs_ok is X Ek ck F _ h3) (star_cons h1)
    · cases h
theorem chkO_ok : ∀ (io : Oe) (X : Cx) (Ek : XK) (ck : Ck), Fit X ad lm cl Ek n ck → ∀ o : Option Expr, chkO ck io o = true → (match o, io with
    | none, .no => True
    | some e, .ye i => PE X e (tEv X.K ad lm Ek (evE cl i))
    | _, _ => False)
  | .no, X, Ek, ck, F, o, h => by
    simp only [chkO] at h
    split at h
    · trivial
    · cases h
  | .ye i, X, Ek, ck, F, o, h => by
    simp only [chkO] at h
    split at h
    · exact (chkE_ok i X Ek ck F _ h).pe
    · cases h
theorem chkC_ok : ∀ (io : Oe) (X : Cx) (ck : Ck), Fit X ad lm cl E0 n ck → ∀ o : List Expr, chkC ck io o = true → PTs X o (tTv X.K ad lm E0 (evC cl io))
  | .no, X, ck, F, o, h => by
    simp only [chkC] at h
    split at h
    · exact tests_no
    · cases h
  | .ye i, X, ck, F, o, h => by
    simp only [chkC] at h
    split at h
    · obtain ⟨h1, h2⟩ := two h
      exact tests_one ((chkE_ok i X E0 ck F _ h1).pt h2)
    · cases h
theorem chkW_ok : ∀ (w : W) (X : Cx) (Ek : XK) (ck : Ck), Fit X ad lm cl Ek n ck → ∀ e : Expr, chkW ck w e = true → ∀ tg : Expr, wtB w tg = true → PI X tg e (tWk X.K ad lm Ek (evW cl w))
  | .rng1 i, X, Ek, ck, F, e, h, tg, ht => by
    simp only [chkW] at h
    split at h
    · obtain ⟨h1, h⟩ := two h
      obtain ⟨h2, h⟩ := two h
      obtain ⟨h3, h4⟩ := two h
      have eh1 := of_decide_eq_true h1
      subst eh1
      exact w_rng1 (F.gl h2) F.rng (chkE_ok i X Ek ck F _ h4).pe (star_cons h3)
    · cases h
  | .rng2 i j, X, Ek, ck, F, e, h, tg, ht => by
    simp only [chkW] at h
    split at h
    · obtain ⟨h1, h⟩ := two h
      obtain ⟨h2, h⟩ := two h
      obtain ⟨h3, h⟩ := two h
      obtain ⟨h4, h⟩ := two h
      obtain ⟨h5, h6⟩ := two h
      have eh1 := of_decide_eq_true h1
      subst eh1
      exact w_rng2 (F.gl h2) F.rng (chkE_ok i X Ek ck F _ h5).pe (chkE_ok j X Ek ck F _ h6).pe (by rw [star_cons h3, star_cons h4]; rfl) (star_cons h4)
    · cases h
  | .chars i, X, Ek, ck, F, e, h, tg, ht => by
    simp only [chkW] at h
    exact w_chars (chkE_ok i X Ek ck F _ h).pe
  | .over i, X, Ek, ck, F, e, h, tg, ht => by
    simp only [chkW] at h
    exact w_over (chkE_ok i X Ek ck F _ h).pe
  | .zip i j, X, Ek, ck, F, e, h, tg, ht => by
    simp only [chkW] at h
    split at h
    · obtain ⟨h1, h⟩ := two h
      obtain ⟨h2, h⟩ := two h
      obtain ⟨h3, h⟩ := two h
      obtain ⟨h4, h⟩ := two h
      obtain ⟨h5, h6⟩ := two h
      have e1 := of_decide_eq_true h1
      subst e1
      cases tg with
      | Tuple es k tp => exact w_zip (F.gl h2) F.zip (chkE_ok i X Ek ck F _ h5).pe (chkE_ok j X Ek ck F _ h6).pe (star_cons h3) (star_cons h4)
      | _ => cases ht
    · cases h
  | .enum i, X, Ek, ck, F, e, h, tg, ht => by
    simp only [chkW] at h
    split at h
    · obtain ⟨h1, h⟩ := two h
      obtain ⟨h2, h⟩ := two h
      obtain ⟨h3, h4⟩ := two h
      have e1 := of_decide_eq_true h1
      subst e1
      cases tg with
      | Tuple es k tp => exact w_enum (F.gl h2) F.enu (chkE_ok i X Ek ck F _ h4).pe (star_cons h3)
      | _ => cases ht
    · cases h
end
end
end Fo
end -- FoSnd

section -- FoSt2
set_option Elab.async false
set_option linter.all false
set_option maxRecDepth 100000
set_option maxHeartbeats 2000000
/-! FoSt2: statements against a row's statements. -/
namespace Fo
open PySem L2 Evl PyProof.Rows
def noCompB : Expr → Bool
  | .ListComp .. => false
  | .SetComp .. => false
  | .DictComp .. => false
  | _ => true
/-- name = value: whether no exchange of stores, or the exchange of a list comprehension -/
def swapB (sc : Scope) (x : Str) (p : Pos) (v : Expr) : Bool := match v with
  | .ListComp _ _ scope q => (isLoc sc x && ((p.line == q.line) && !(scope.names.any fun (n, k) => n == x && (k == .local || k == .cell))))
  | _ => false
/-- pairs whose stores are exchanged -/
def parB (vs : List Expr) : Bool := vs.all notStar && (!(vs.all (foldedForSure 8)) && !(vs.all (constantsAlone 8)))
def notLoc (sc : Scope) : Expr → Bool
  | .Name x _ => !isLoc sc x
  | _ => true
def unpB (sc : Scope) (es : List Expr) (v : Expr) : Bool := match v with
  | .Tuple vs _ _ => !(es.length == 2 || es.length == 3) || (vs.all notStar && (vs.length == es.length && (vs.all (foldedForSure 8) || es.any (notLoc sc))))
  | _ => true
def isCall : E → Bool
  | .call _ _ _ => true
  | .bin _ _ _ => true
  | _ => false
mutual
def chkS (ck : Ck) (fr : Bool) : S → Stmt → Bool
  | .set i e, a => (match a with
    | .Assign [.Name x p] v _ => tgtB ck i x && (chkE ck e v && (noCompB v || (swapB ck.sc x p v && (frE ck e && !(isCall e)))))
    | _ => false)
  | .new i e, a => (match a with
    | .Assign [.Name x p] v _ => tgtB ck i x && (chkE ck e v && (frE ck e && (noCompB v || (swapB ck.sc x p v && !(isCall e)))))
    | _ => false)
  | .par i j e f, a => (match a with
    | .Assign [.Tuple [.Name x px, .Name y py] _ _] (.Tuple [v, u] _ _) _ => decide (ck.N[i]? = some x) && (decide (ck.N[j]? = some y) && (isLoc ck.sc x && (isLoc ck.sc y && (decide (i ≠ j) && ((px.line == py.line) && (chkE ck e v && (chkE ck f u && parB [v, u])))))))
    | _ => false)
  | .par3 i j l e f h, a => (match a with
    | .Assign [.Tuple [.Name x px, .Name y py, .Name z pz] _ _] (.Tuple [v, u, t] _ _) _ => decide (ck.N[i]? = some x) && (decide (ck.N[j]? = some y) && (decide (ck.N[l]? = some z) && (isLoc ck.sc x && (isLoc ck.sc y && (isLoc ck.sc z && (decide (i ≠ j) && (decide (i ≠ l) && (decide (j ≠ l) && ((px.line == py.line) && ((px.line == pz.line) && (chkE ck e v && (chkE ck f u && (chkE ck h t && parB [v, u, t])))))))))))))
    | _ => false)
  | .unp is e, a => (match a with
    | .Assign [.Tuple es _ _] v _ => chkNs ck is es && (chkE ck e v && unpB ck.sc es v)
    | _ => false)
  | .seti o b e, a => (match a with
    | .Assign [.Subscript x y _] v _ => chkE ck o x && (chkE ck b y && (chkE ck e v && notSlice y))
    | _ => false)
  | .ifs t b c, a => (match a with
    | .If e ss1 ss2 _ => chkE ck t e && (tstOk t && (chkSs ck fr b ss1 && chkSs ck fr c ss2))
    | _ => false)
  | .for tg w b, a => (match a with
    | .For t it body [] _ => (chkW ck w it && wtB w t) && (notSet it && (chkTg ck tg t && chkSs ck fr b body))
    | _ => false)
  | .whl t b, a => (match a with
    | .While e body [] _ => chkE ck t e && (tstOk t && chkSs ck fr b body)
    | _ => false)
  | .ret e, a => (match a with
    | .Return (some v) _ => chkE ck e v && (!fr || (frE ck e && !(isCall e)))
    | _ => false)
  | .retC i, a => (match a with
    | .Return (some (.Name x _)) _ => slotB ck i x
    | _ => false)
  | .app i e, a => (match a with
    | .Expr (.Call (.Attribute (.Name x _) m ap) [v] [] cp) _ => decide (m = ("append" : Str)) && (slotB ck i x && (notStar v && (chkE ck e v && (ap.endLine == cp.line))))
    | _ => false)
  | .ex e, a => (match a with
    | .Expr v _ => noCompB v && chkE ck e v
    | _ => false)
  | .pass, a => (match a with
    | .Pass _ => true
    | _ => false)
  | .cont, a => (match a with
    | .Continue _ => true
    | _ => false)
  | .never, _ => true
  | .rai c m, a => (match a with
    | .Raise (some (.Call (.Name x _) [.Constant (.str t) _ _] [] _)) none _ => decide ((c, x) ∈ ck.xs) && (decide (903 ≤ c) && (glB ck.sc x && nmOk x))
    | _ => false)
  | .rac c e, a => (match a with
    | .Raise (some (.Call (.Name x _) [v] [] _)) none _ => decide ((c, x) ∈ ck.xs) && (decide (c < 903) && (glB ck.sc x && (nmOk x && (notStar v && chkE ck e v))))
    | _ => false)
  | .lams _, _ => false
def chkSs (ck : Ck) (fr : Bool) : Ss → List Stmt → Bool
  | .nil, a => (match a with
    | [] => true
    | _ => false)
  | .cons s ss, a => (match a with
    | x :: xs => chkS ck fr s x && chkSs ck fr ss xs
    | _ => false)
end
/-- an own exception class without __init__ -/
def RaiF (X : Cx) (ad : Nat → Option Addr) (c : Nat) (x : Str) : Prop :=
  ∃ (C : Addr) (B newId initId : String) (bmB : List Value), ExcBaseFacts B newId initId bmB ∧ PySem.W.excIn X.K C bmB newId = true ∧ X.mg x = some (.ref C) ∧ PySem.W.keepIn X.K (.ref C) = true ∧ Raises X (.ref C) ∧ ad c = some C
/-- one with a field -/
def RacF (X : Cx) (ad : Nat → Option Addr) (c : Nat) (x : Str) : Prop :=
  ∃ (C fI : Addr) (B newId initId : String) (bmB : List Value) (qF slf par : Str) (msg : Expr) (params : Arguments) (body : List Stmt) (scope : Scope) (W : V → Hp → Prop), ExcBaseFacts B newId initId bmB ∧ PySem.W.KxsFacts B initId ∧ StoreFacts B bmB "object.__setattr__" "object" ∧
    PySem.FX.SuC X.K X.prog C fI B newId initId bmB qF params body scope ∧ PySem.FX.SuT X.prog slf par (attrOf c) msg params body scope ∧ PySem.W.findIn X.K (.ref C) (attrOf c) = some none ∧
    (∀ (s' : Shared) (e : Addr) (v : Value) (nF : Str) (kV doc pm : Value) (an : Option Addr) (cdv ct : Value) (cc : Addr), BindsTo s' (PySem.W.ksFn nF qF params body scope .none kV doc pm an cdv ct cc) ⟨[.ref e, v], []⟩ [(slf, .ref e), (par, v)]) ∧
    MsgR X scope par msg W ∧ X.mg x = some (.ref C) ∧ PySem.W.keepIn X.K (.ref C) = true ∧ Raises X (.ref C) ∧ ad c = some C ∧
    (∀ {g : Fo.G} {H : Hp} {st : Store} {v : PV} {w : V}, OK X.K ad g H st → Rep X.K ad g.F v w → raiseV c v st ≠ none → W w H)
structure FitS (X : Cx) (ad : Nat → Option Addr) (lm : Lm) (cl : Cl) (Ek : XK) (n : Nat) (ck : Ck) : Prop where
  fit : Fit X ad lm cl Ek n ck
  own : PassesOwn (model X.prog X.w) X.A X.env X.xe
  kind : X.env.scope.kind = .function
  tk : Takes X fun cls d σ H => Ek cls d H
  rai : ∀ c x, (c, x) ∈ ck.xs → 903 ≤ c → RaiF X ad c x
  rac : ∀ c x, (c, x) ∈ ck.xs → c < 903 → RacF X ad c x
section
variable {X : Cx} {ad : Nat → Option Addr} {lm : Lm} {cl : Cl} {Ek : XK} {n : Nat} {ck : Ck} {fr : Bool}
theorem no_comp {v : Expr} {t : Option Expr} {l : Nat} {env : PySem.Env} (h : noCompB v = true) : swapsWith v t l env = pure false := by
  refine noComp ?_
  cases v <;> first
    | rfl
    | cases h
theorem sw_tup {es : List Expr} {k : Nat} {p : Pos} {v : Expr} {l : Nat} {env : PySem.Env} : swapsWithSole [.Tuple es k p] v l env = pure false := by
  cases v <;> rfl
theorem sw_sub {o i : Expr} {p : Pos} {v : Expr} {l : Nat} {env : PySem.Env} : swapsWith v (some (.Subscript o i p)) l env = pure false := by
  cases v <;> rfl
theorem block_fn {env : PySem.Env} (h : env.scope.kind = .function) : env.blockKind = .function := by
  unfold Env.blockKind
  rw [h]
  rfl
theorem star_filter {vs : List Expr} (h : vs.all notStar = true) : (vs.any fun | .Starred .. => true | _ => false) = false := by
  induction vs with
  | nil => rfl
  | cons v vs ih =>
    rw [List.all_cons, Bool.and_eq_true] at h
    rw [List.any_cons, ih h.2, Bool.or_false]
    cases v <;> first
      | rfl
      | exact absurd h.1 (fun z => by cases z)
theorem nodup_ix {α : Type} {x : α} : ∀ {N : List α} {i j : Nat}, N.Nodup → N[i]? = some x → N[j]? = some x → i = j
  | [], i, j, _, h, _ => by simp at h
  | a :: N, 0, 0, _, _, _ => rfl
  | a :: N, 0, j + 1, nd, h1, h2 => by
    simp at h1 h2
    subst h1
    exact absurd (List.mem_of_getElem? h2) (List.nodup_cons.mp nd).1
  | a :: N, i + 1, 0, nd, h1, h2 => by
    simp at h1 h2
    subst h2
    exact absurd (List.mem_of_getElem? h1) (List.nodup_cons.mp nd).1
  | a :: N, i + 1, j + 1, nd, h1, h2 => by
    simp at h1 h2
    exact congrArg (· + 1) (nodup_ix (List.nodup_cons.mp nd).2 h1 h2)
theorem par_swap {env : PySem.Env} {x y : Str} {px py pt : Pos} {kt k2 : Nat} {pt2 : Pos} {a b : Expr} (hk : env.scope.kind = .function) (hx : env.scope.names.lookup x = some .local) (hy : env.scope.names.lookup y = some .local) (hxy : x ≠ y)
    (hl : (px.line == py.line) = true) (h : parB [a, b] = true) : swappedStores [.Tuple [.Name x px, .Name y py] kt pt] (.Tuple [a, b] k2 pt2) env = pure (some [x, y]) := by
  unfold parB at h
  rw [Bool.and_eq_true, Bool.and_eq_true, Bool.not_eq_true', Bool.not_eq_true'] at h
  obtain ⟨h1, h2, h3⟩ := h
  have kx : env.kindOf x = some .local := hx
  have ky : env.kindOf y = some .local := hy
  have hl' : px.line = py.line := beq_iff_eq.mp hl
  have e1 := star_filter h1
  have e2 : (y == x) = false := beq_false_of_ne (Ne.symm hxy)
  have e3 : [x, y].eraseDups = [x, y] := by
    simp [List.eraseDups_cons, e2]
  have hlen : [a, b].length = 2 := rfl
  unfold swappedStores
  generalize [a, b] = vs at h1 h2 h3 e1 hlen ⊢
  simp only [block_fn hk, h2, h3, List.filterMap_cons, List.filterMap_nil, kx, ky, List.head?_cons, Option.map_some, Option.getD_some, Expr.pos, hl', beq_self_eq_true, Bool.and_self, if_true, e3, List.length_cons, List.length_nil, hlen]
  generalize hq : (vs.any _) = qq
  have hq : qq = false := hq.symm.trans (star_filter h1)
  subst hq
  rfl
theorem par_swap3 {env : PySem.Env} {x y z : Str} {px py pz pt : Pos} {kt k2 : Nat} {pt2 : Pos} {a b c : Expr} (hk : env.scope.kind = .function) (hx : env.scope.names.lookup x = some .local) (hy : env.scope.names.lookup y = some .local) (hz : env.scope.names.lookup z = some .local) (hxy : x ≠ y) (hxz : x ≠ z) (hyz : y ≠ z)
    (hl : (px.line == py.line) = true) (hl2 : (px.line == pz.line) = true) (h : parB [a, b, c] = true) : swappedStores [.Tuple [.Name x px, .Name y py, .Name z pz] kt pt] (.Tuple [a, b, c] k2 pt2) env = pure (some [x, y, z]) := by
  unfold parB at h
  rw [Bool.and_eq_true, Bool.and_eq_true, Bool.not_eq_true', Bool.not_eq_true'] at h
  obtain ⟨h1, h2, h3⟩ := h
  have kx : env.kindOf x = some .local := hx
  have ky : env.kindOf y = some .local := hy
  have kz : env.kindOf z = some .local := hz
  have hl' : py.line = px.line := (beq_iff_eq.mp hl).symm
  have hl2' : pz.line = px.line := (beq_iff_eq.mp hl2).symm
  have e1 := star_filter h1
  have e2 : (y == x) = false := beq_false_of_ne (Ne.symm hxy)
  have e2' : (z == x) = false := beq_false_of_ne (Ne.symm hxz)
  have e2'' : (z == y) = false := beq_false_of_ne (Ne.symm hyz)
  have e3 : [x, y, z].eraseDups = [x, y, z] := by
    simp [List.eraseDups_cons, e2, e2', e2'']
  have hlen : [a, b, c].length = 3 := rfl
  unfold swappedStores
  generalize [a, b, c] = vs at h1 h2 h3 e1 hlen ⊢
  simp only [block_fn hk, h2, h3, List.filterMap_cons, List.filterMap_nil, kx, ky, kz, List.head?_cons, Option.map_some, Option.getD_some, Expr.pos, hl', hl2', beq_self_eq_true, Bool.and_self, if_true, e3, List.length_cons, List.length_nil, hlen]
  generalize hq : (vs.any _) = qq
  have hq : qq = false := hq.symm.trans (star_filter h1)
  subst hq
  rfl
theorem fm_len {α β : Type} {f : α → Option β} : ∀ {l : List α}, (∃ x ∈ l, f x = none) → (l.filterMap f).length < l.length
  | [], h => by obtain ⟨_, h, _⟩ := h; cases h
  | y :: l, h => by
    rw [List.filterMap_cons]
    have le : (l.filterMap f).length ≤ l.length := List.length_filterMap_le f l
    cases e : f y with
    | none => exact Nat.lt_succ_of_le le
    | some b =>
      obtain ⟨x, hx, hn⟩ := h
      rcases List.mem_cons.mp hx with z | z
      · rw [z, e] at hn; cases hn
      · exact Nat.succ_lt_succ (fm_len ⟨x, z, hn⟩)
theorem unp_none {env : PySem.Env} {es : List Expr} {kt : Nat} {pt : Pos} {v : Expr} (hk : env.scope.kind = .function) (h : unpB env.scope es v = true) (hn : ∀ e ∈ es, ∃ x p, e = .Name x p) : swappedStores [.Tuple es kt pt] v env = pure none := by
  cases v with
  | Tuple vs k2 p2 =>
    simp only [unpB] at h
    unfold swappedStores
    cases c1 : (es.length == 2 || es.length == 3) with
    | false => simp only [c1]; rfl
    | true =>
      rw [c1] at h
      simp only [Bool.not_true, Bool.false_or, Bool.and_eq_true] at h
      obtain ⟨h1, h2, h3⟩ := h
      have e1 := star_filter h1
      have e2 : (vs.length != es.length) = false := by
        rw [bne, h2]; rfl
      simp only [c1, e2, block_fn hk]
      generalize hq : (vs.any _) = qq
      have hq : qq = false := hq.symm.trans (star_filter h1)
      subst hq
      rcases Bool.or_eq_true_iff.mp h3 with h3 | h3
      · simp only [h3]
        generalize (List.filterMap _ es) = nm
        generalize (nm.length != es.length || nm.eraseDups.length != nm.length) = c
        cases c <;> rfl
      · obtain ⟨e, he, hb⟩ := List.any_eq_true.mp h3
        obtain ⟨x, p, rfl⟩ := hn e he
        have hb : (!isLoc env.scope x) = true := hb
        have kk : env.kindOf x ≠ some .local := fun z => by
          have z : env.scope.names.lookup x = some .local := z
          unfold isLoc at hb
          rw [z] at hb
          cases hb
        generalize hf : (List.filterMap _ es) = nm
        have lt : nm.length < es.length := by
          rw [← hf]
          refine fm_len ⟨_, he, ?_⟩
          have : (env.kindOf x == some .local) = false := beq_false_of_ne kk
          simp [this]
        have c : (nm.length != es.length) = true := by
          rw [bne_iff_ne]
          omega
        rw [c]
        rfl
  | _ => rfl
theorem ns_names : ∀ {is : List Nat} {es : List Expr}, chkNs ck is es = true → ∀ e ∈ es, ∃ x p, e = .Name x p
  | [], [], _, e, he => by cases he
  | [], _ :: _, q, _, _ => by simp [chkNs] at q
  | _ :: _, [], q, _, _ => by simp [chkNs] at q
  | i :: is, y :: es, q, e, he => by
    cases y with
    | Name x p =>
      unfold chkNs at q
      rcases List.mem_cons.mp he with z | z
      · exact ⟨x, p, z⟩
      · exact ns_names (two q).2 e z
    | _ => simp [chkNs] at q
theorem fr_list {e : E} {sl : Slots} {st st' : Store} {v : SV} (h : frE ck e = true) (hc : isCall e = false) (q : evE cl e sl st = some (.ok v st')) : ∃ xs, v = .d (.lst xs) := by
  cases e with
  | lst es => exact lst_inv q
  | lc w tg c e => exact lc_inv q
  | call f es ds => cases hc
  | bin o a b => cases hc
  | _ => cases h
/-- name = [..] with the stores exchanged -/
theorem set_lc (F : FitS X ad lm cl Ek n ck) {i : Nat} {e : E} {x : Str} {p pos : Pos} {v : Expr} (ht : tgtB ck i x = true) (hv : chkE ck e v = true) (hs : swapB ck.sc x p v = true) (hf : frE ck e = true) (hc : isCall e = false) :
    PS X (.Assign [.Name x p] v pos) (tAsg (tFr X.K ad lm Ek (evE cl e)) (gName i)) := by
  unfold swapB at hs
  split at hs
  · rename_i v elt gs scope q
    obtain ⟨s1, hs⟩ := two hs
    obtain ⟨s2, s3⟩ := two hs
    have s1 := loc_of s1
    have s1' : X.env.scope.names.lookup x = some .local := by rw [F.fit.sc]; exact s1
    have s2' : (p.line == q.line) = true := s2
    obtain ⟨t1, t2, t3⟩ := F.fit.tgt ht
    cases e with
    | lst es => simp only [chkE] at hv; cases hv
    | call f es ds => cases hc
    | bin o a b => cases hc
    | lc w tg c ie =>
      simp only [chkE] at hv
      split at hv
      · rename_i _ elt' t it ifs as sc' pos' heq
        cases heq
        obtain ⟨h1, h⟩ := two hv
        obtain ⟨h2, h⟩ := two h
        obtain ⟨h3, h⟩ := two h
        obtain ⟨h4, h⟩ := two h
        obtain ⟨h5, h⟩ := two h
        obtain ⟨h6, h7⟩ := two h
        have h1' := of_decide_eq_true h1
        subst h1'
        exact s_setLc F.fit.calm F.fit.nd t1 s1' (sw_true F.kind s1' s2' (Bool.not_eq_true' _ ▸ s3)) (chkW_ok w X Ek ck F.fit _ (two h2).1 _ (two h2).2) (by rw [F.fit.N, F.fit.sc]; exact blkOk_by h4) (fun s H C cls fp => F.fit.blk.pg h5)
          (fun s H C cls fp => chkC_ok c (X.blk s H scope (compEnvC scope cls C X.env) fp) (ck.blk scope) F.fit.blk _ h6) (fun s H C cls fp => (chkE_ok ie (X.blk s H scope (compEnvC scope cls C X.env) fp) E0 (ck.blk scope) F.fit.blk _ h7).pe) (folded_of h3)
      · cases hv
    | _ => cases hf
  · cases hs
mutual
theorem chkS_ok (F : FitS X ad lm cl Ek n ck) : ∀ (is : S) (s : Stmt), chkS ck fr is s = true → PS X s (tSv X.K ad lm fr Ek (evS cl is))
  | .set i e, s, h => by
    simp only [chkS] at h
    split at h
    · obtain ⟨h1, h⟩ := two h
      obtain ⟨h2, h3⟩ := two h
      obtain ⟨t1, t2, t3⟩ := F.fit.tgt h1
      rcases Bool.or_eq_true_iff.mp h3 with z | z
      · exact st_set F.fit.nd t1 t2 t3 (chkE_ok e X Ek ck F.fit _ h2).pe (no_comp z)
      · obtain ⟨z1, z⟩ := two z
        obtain ⟨z2, z3⟩ := two z
        have z3 : isCall e = false := by simpa using z3
        exact st_setF (set_lc F h1 h2 z1 z2 z3) fun _ _ _ _ q => fr_list z2 z3 q
    · cases h
  | .new i e, s, h => by
    simp only [chkS] at h
    split at h
    · obtain ⟨h1, h⟩ := two h
      obtain ⟨h2, h⟩ := two h
      obtain ⟨h3, h4⟩ := two h
      obtain ⟨t1, t2, t3⟩ := F.fit.tgt h1
      rcases Bool.or_eq_true_iff.mp h4 with z | z
      · exact st_new F.fit.nd t1 t2 t3 ((chkE_ok e X Ek ck F.fit _ h2).fr h3) (no_comp z)
      · obtain ⟨z1, z3⟩ := two z
        have z3 : isCall e = false := by simpa using z3
        exact st_newF (set_lc F h1 h2 z1 h3 z3)
    · cases h
  | .par i j e f, s, h => by
    simp only [chkS] at h
    split at h
    · rename_i x px y py _ _ v u _ _ _
      obtain ⟨h1, h⟩ := two h
      obtain ⟨h2, h⟩ := two h
      obtain ⟨h3, h⟩ := two h
      obtain ⟨h4, h⟩ := two h
      obtain ⟨h5, h⟩ := two h
      obtain ⟨h6, h⟩ := two h
      obtain ⟨h7, h⟩ := two h
      obtain ⟨h8, h9⟩ := two h
      have h1 := of_decide_eq_true h1
      have h2 := of_decide_eq_true h2
      have h5 := of_decide_eq_true h5
      have n9 : notStar v = true ∧ notStar u = true := by
        have := (two h9).1
        simpa using this
      have lx : X.env.scope.names.lookup x = some .local := by rw [F.fit.sc]; exact loc_of h3
      have ly : X.env.scope.names.lookup y = some .local := by rw [F.fit.sc]; exact loc_of h4
      have n1 : X.N[i]? = some x := by rw [F.fit.N]; exact h1
      have n2 : X.N[j]? = some y := by rw [F.fit.N]; exact h2
      have hxy : x ≠ y := fun z => by
        subst z
        exact h5 (nodup_ix F.fit.nd n1 n2)
      exact st_par F.fit.calm F.fit.nd n1 n2 h5 lx ly (chkE_ok e X Ek ck F.fit _ h7).pe (chkE_ok f X Ek ck F.fit _ h8).pe (star_cons n9.1) (star_cons n9.2) (par_swap F.kind lx ly hxy h6 h9)
    · cases h
  | .par3 i j l e f g, s, h => by
    simp only [chkS] at h
    split at h
    · rename_i x px y py z pz _ _ v u t _ _ _
      obtain ⟨h1, h⟩ := two h
      obtain ⟨h2, h⟩ := two h
      obtain ⟨h3, h⟩ := two h
      obtain ⟨h4, h⟩ := two h
      obtain ⟨h5, h⟩ := two h
      obtain ⟨h6, h⟩ := two h
      obtain ⟨h7, h⟩ := two h
      obtain ⟨h8, h⟩ := two h
      obtain ⟨h9, h⟩ := two h
      obtain ⟨k1, h⟩ := two h
      obtain ⟨k2, h⟩ := two h
      obtain ⟨k3, h⟩ := two h
      obtain ⟨k4, h⟩ := two h
      obtain ⟨k5, k6⟩ := two h
      have h7 := of_decide_eq_true h7
      have h8 := of_decide_eq_true h8
      have h9 := of_decide_eq_true h9
      have n9 : notStar v = true ∧ (notStar u = true ∧ notStar t = true) := by
        have := (two k6).1
        simpa using this
      have lx : X.env.scope.names.lookup x = some .local := by rw [F.fit.sc]; exact loc_of h4
      have ly : X.env.scope.names.lookup y = some .local := by rw [F.fit.sc]; exact loc_of h5
      have lz : X.env.scope.names.lookup z = some .local := by rw [F.fit.sc]; exact loc_of h6
      have n1 : X.N[i]? = some x := by rw [F.fit.N]; exact of_decide_eq_true h1
      have n2 : X.N[j]? = some y := by rw [F.fit.N]; exact of_decide_eq_true h2
      have n3 : X.N[l]? = some z := by rw [F.fit.N]; exact of_decide_eq_true h3
      have hxy : x ≠ y := fun q => h7 (nodup_ix F.fit.nd n1 (by rw [q]; exact n2))
      have hxz : x ≠ z := fun q => h8 (nodup_ix F.fit.nd n1 (by rw [q]; exact n3))
      have hyz : y ≠ z := fun q => h9 (nodup_ix F.fit.nd n2 (by rw [q]; exact n3))
      exact st_par3 F.fit.calm F.fit.nd n1 n2 n3 h7 h8 h9 lx ly lz (chkE_ok e X Ek ck F.fit _ k3).pe (chkE_ok f X Ek ck F.fit _ k4).pe (chkE_ok g X Ek ck F.fit _ k5).pe (star_cons n9.1) (star_cons n9.2.1) (star_cons n9.2.2) (par_swap3 F.kind lx ly lz hxy hxz hyz k1 k2 k6)
    · cases h
  | .unp is e, s, h => by
    simp only [chkS] at h
    split at h
    · obtain ⟨h1, h⟩ := two h
      obtain ⟨h2, h3⟩ := two h
      have hn := ns_names h1
      exact st_unp (chkE_ok e X Ek ck F.fit _ h2).pe ((F.fit.nms h1).pg F.fit.calm F.fit.nd) sw_tup (unp_none F.kind (by rw [F.fit.sc]; exact h3) hn) rfl
    · cases h
  | .seti o b e, s, h => by
    simp only [chkS] at h
    split at h
    · obtain ⟨h1, h⟩ := two h
      obtain ⟨h2, h⟩ := two h
      obtain ⟨h3, h4⟩ := two h
      exact st_seti h4 (chkE_ok e X Ek ck F.fit _ h3).pe (chkE_ok o X Ek ck F.fit _ h1).pe (chkE_ok b X Ek ck F.fit _ h2).pe sw_sub
    · cases h
  | .ifs t b c, s, h => by
    simp only [chkS] at h
    split at h
    · obtain ⟨h1, h⟩ := two h
      obtain ⟨h2, h⟩ := two h
      obtain ⟨h3, h4⟩ := two h
      exact st_if ((chkE_ok t X Ek ck F.fit _ h1).pt h2) (chkSs_ok F b _ h3) (chkSs_ok F c _ h4)
    · cases h
  | .for tg w b, s, h => by
    simp only [chkS] at h
    split at h
    · obtain ⟨h1, h⟩ := two h
      obtain ⟨h2, h⟩ := two h
      obtain ⟨h3, h4⟩ := two h
      exact st_for F.own F.fit.calm (chkW_ok w X Ek ck F.fit _ (two h1).1 _ (two h1).2) (F.fit.pg h3) (chkSs_ok F b _ h4) (folded_of h2)
    · cases h
  | .whl t b, s, h => by
    simp only [chkS] at h
    split at h
    · obtain ⟨h1, h⟩ := two h
      obtain ⟨h2, h3⟩ := two h
      exact st_whl F.own ((chkE_ok t X Ek ck F.fit _ h1).pt h2) (chkSs_ok F b _ h3)
    · cases h
  | .ret e, s, h => by
    simp only [chkS] at h
    split at h
    · obtain ⟨h1, h2⟩ := two h
      cases fr with
      | false => exact st_ret (chkE_ok e X Ek ck F.fit _ h1).pe
      | true =>
        have h2 : (frE ck e && !(isCall e)) = true := h2
        obtain ⟨z2, z3⟩ := two h2
        have z3 : isCall e = false := by simpa using z3
        exact st_retF ((chkE_ok e X Ek ck F.fit _ h1).fr z2) fun _ _ _ _ q => fr_list z2 z3 q
    · cases h
  | .retC i, s, h => by
    simp only [chkS] at h
    split at h
    · exact st_retC (F.fit.slot h)
    · cases h
  | .app i e, s, h => by
    simp only [chkS] at h
    split at h
    · obtain ⟨h1, h⟩ := two h
      obtain ⟨h2, h⟩ := two h
      obtain ⟨h3, h⟩ := two h
      obtain ⟨h4, h5⟩ := two h
      have e1 := of_decide_eq_true h1
      subst e1
      exact st_app (F.fit.slot h2) (chkE_ok e X Ek ck F.fit _ h4).pe rfl (star_cons h3) h5 rfl
    · cases h
  | .ex e, s, h => by
    simp only [chkS] at h
    split at h
    · obtain ⟨h1, h2⟩ := two h
      exact st_ex (chkE_ok e X Ek ck F.fit _ h2).pe (no_comp h1)
    · cases h
  | .pass, s, h => by
    simp only [chkS] at h
    split at h
    · exact st_pass
    · cases h
  | .cont, s, h => by
    simp only [chkS] at h
    split at h
    · exact st_cont
    · cases h
  | .never, s, h => st_never
  | .lams i, s, h => by simp only [chkS] at h; cases h
  | .rai c m, s, h => by
    simp only [chkS] at h
    split at h
    · rename_i x p t j p2 p3 p4
      obtain ⟨h1, h⟩ := two h
      obtain ⟨h2, h⟩ := two h
      obtain ⟨h3, h4⟩ := two h
      obtain ⟨C, B, newId, initId, bmB, g1, g2, g3, g4, g5, g6⟩ := F.rai c x (of_decide_eq_true h1) (of_decide_eq_true h2)
      exact st_rai F.fit.calm F.tk g1 g2 g3 g4 g5 (F.fit.gl h3) (nm_of h4).1 g6
    · cases h
  | .rac c e, s, h => by
    simp only [chkS] at h
    split at h
    · rename_i x p v p2 p3
      obtain ⟨h1, h⟩ := two h
      obtain ⟨h2, h⟩ := two h
      obtain ⟨h3, h⟩ := two h
      obtain ⟨h4, h⟩ := two h
      obtain ⟨h5, h6⟩ := two h
      obtain ⟨C, fI, B, newId, initId, bmB, qF, slf, par, msg, params, body, scope, W, g1, g2, g3, g4, g5, g6, g7, g8, g9, g10, g11, g12, g13⟩ := F.rac c x (of_decide_eq_true h1) (of_decide_eq_true h2)
      have room : X.A.depth + 10 < recursionLimit := by
        have := F.fit.room.dp
        have := F.fit.lev
        omega
      exact st_rac F.fit.calm F.tk g1 g2 g3 g4 g5 g6 g7 g8 room g9 g10 g11 (F.fit.gl h3) (chkE_ok e X Ek ck F.fit _ h6).pe (nm_of h4).1 (star_cons h5) g12 g13
    · cases h
theorem chkSs_ok (F : FitS X ad lm cl Ek n ck) : ∀ (is : Ss) (s : List Stmt), chkSs ck fr is s = true → PSs X s (tSv X.K ad lm fr Ek (evSs cl is))
  | .nil, s, h => by
    simp only [chkSs] at h
    split at h
    · exact ss_nil
    · cases h
  | .cons i is, s, h => by
    simp only [chkSs] at h
    split at h
    · obtain ⟨h1, h2⟩ := two h
      exact ss_cons (chkS_ok F i _ h1) (chkSs_ok F is _ h2)
    · cases h
end
end
end Fo
end -- FoSt2

section -- FoBnd
set_option Elab.async false
set_option linter.all false
set_option maxRecDepth 100000
set_option maxHeartbeats 2000000
/-! FoBnd: how plain parameters are bound. -/
namespace Fo
open PySem L2 Evl PyProof.Rows
theorem lk_some {x : Str} : ∀ {ps : List Str} {us : List Value}, us.length = ps.length → x ∈ ps → ((ps.zip us).lookup x).isSome = true
  | p :: ps, u :: us, hl, h => by
    rw [List.zip_cons_cons, List.lookup_cons]
    cases e : x == p with
    | true => rfl
    | false =>
      rcases List.mem_cons.mp h with z | z
      · rw [z, beq_self_eq_true] at e; cases e
      · exact lk_some (Nat.succ.inj hl) z
theorem lk_zip : ∀ {ps : List Str} {us : List Value}, us.length = ps.length → ps.Nodup → (ps.filterMap fun n => ((ps.zip us).lookup n).map (n, ·)) = ps.zip us
  | [], [], _, _ => rfl
  | p :: ps, u :: us, hl, nd => by
    obtain ⟨n1, n2⟩ := List.nodup_cons.mp nd
    rw [List.zip_cons_cons, List.filterMap_cons, List.lookup_cons, beq_self_eq_true]
    show (p, u) :: _ = _
    congr 1
    have ih := lk_zip (Nat.succ.inj hl) n2
    refine Eq.trans ?_ ih
    have key : ∀ qs : List Str, (∀ q ∈ qs, q ≠ p) → (qs.filterMap fun n => (((p, u) :: ps.zip us).lookup n).map (n, ·)) = qs.filterMap fun n => ((ps.zip us).lookup n).map (n, ·) := by
      intro qs
      induction qs with
      | nil => intro _; rfl
      | cons q qs ih2 =>
        intro hq
        have e : (q == p) = false := beq_false_of_ne (hq q List.mem_cons_self)
        rw [List.filterMap_cons, List.filterMap_cons, ih2 fun r hr => hq r (List.mem_cons_of_mem _ hr), List.lookup_cons, e]
    exact key ps fun q hq z => n1 (z ▸ hq)
theorem bind_plain {x qual : Str} {params : Arguments} {body : List Stmt} {scope : Scope} {kV doc pm : Value} {an : Option Addr} {cdv ct : Value} {ps : List Str} {us : List Value} (hp : params.posonlyargs = []) (ha : params.args.map (·.arg) = ps) (hv : params.vararg = none)
    (hk : params.kwonlyargs = []) (hw : params.kwarg = none) (nd : ps.Nodup) (hl : us.length = ps.length) : bindArgs (PySem.W.fnOf x qual params body scope .none kV doc pm an cdv ct) ⟨us, []⟩ = pure (ps.zip us) := by
  unfold bindArgs PySem.W.fnOf
  have e1 : (ps.filter fun n => ((ps.zip us).lookup n).isNone) = [] := by
    rw [List.filter_eq_nil_iff]
    intro n hn
    have := lk_some hl hn
    rw [Option.isNone_iff_eq_none]
    intro z
    rw [z] at this
    cases this
  have e0 : seqItems? Value.none = pure none := rfl
  have e3 : (if false = true then (1 : Nat) else 0) = 0 := rfl
  simp only [hp, ha, hv, hk, hw, List.map_nil, List.nil_append, List.append_nil, e0, pure_bind, Option.getD_none, Array.toList_empty, List.drop_nil, List.length_nil, Nat.sub_zero, List.take_length, List.drop_length, e1, Bool.false_eq_true, if_false, Option.getD_none, hl, Nat.lt_irrefl, gt_iff_lt, decide_false, Bool.false_and, List.drop_nil, List.length_nil, Nat.sub_zero, List.take_length, e1, List.isEmpty_nil, Bool.not_true, List.zip_nil_right, List.forIn_nil, lk_zip hl nd]
end Fo
end -- FoBnd

section -- FoCls
set_option Elab.async false
set_option linter.all false
set_option maxRecDepth 100000
set_option maxHeartbeats 2000000
/-! FoCls: own exception classes, from a part of the heap and the row's statements. -/
namespace Fo
open PySem L2 Evl PyProof.Rows PySem.FX
def argsOk (a : Arguments) (ps : List Str) : Bool := a.posonlyargs.isEmpty && (decide (a.args.map (·.arg) = ps) && (a.vararg.isNone && (a.kwonlyargs.isEmpty && a.kwarg.isNone)))
theorem argsOk_ok {a : Arguments} {ps : List Str} (h : argsOk a ps = true) : a.posonlyargs = [] ∧ a.args.map (·.arg) = ps ∧ a.vararg = none ∧ a.kwonlyargs = [] ∧ a.kwarg = none := by
  unfold argsOk at h
  obtain ⟨h1, h⟩ := two h
  obtain ⟨h2, h⟩ := two h
  obtain ⟨h3, h⟩ := two h
  obtain ⟨h4, h5⟩ := two h
  exact ⟨List.isEmpty_iff.mp h1, of_decide_eq_true h2, Option.isNone_iff_eq_none.mp h3, List.isEmpty_iff.mp h4, Option.isNone_iff_eq_none.mp h5⟩
/-- an own exception class: its number, its name, the statement of its __init__ -/
structure XE where
  c : Nat
  x : String
  s : Stmt
def XE.n (e : XE) : Str := Str.ofString e.x
/-- its built-in base -/
structure XB where
  B : String
  newId : String
  initId : String
  bm : List Value
  facts : ExcBaseFacts B newId initId bm
  kxs : PySem.W.KxsFacts B initId
  store : StoreFacts B bm "object.__setattr__" "object"
def xbIx : XB := ⟨_, _, _, _, PySem.F.excBase_IndexError, PySem.W.kxs_IndexError, PySem.F.store_IndexError⟩
def xbAr : XB := ⟨_, _, _, _, PySem.F.excBase_ArithmeticError, PySem.W.kxs_ArithmeticError, PySem.F.store_ArithmeticError⟩
def xbOf (c : Nat) : XB := if c = 901 then xbIx else xbAr
def msgB (c : Nat) (par : Str) (sc : Scope) : Expr → Bool
  | .JoinedStr [.FormattedValue (.Name y _) k none _, .Constant (.str t) _ _] _ => decide (c = 901) && (decide (y = par) && (decide (k = 114) && decide (t.length ≤ 100)))
  | .Constant (.str _) _ _ => decide (c = 902)
  | _ => false
def initB (c : Nat) (s : Stmt) : Bool := match defBody s with
  | [.Expr (.Call (.Attribute (.Call (.Name su _) [] [] _) ini ap) [msg] [] cp) _, .Assign [.Attribute (.Name slf _) f _] (.Name par _) _] =>
    decide (su = ("super" : Str)) && (decide (ini = ("__init__" : Str)) && (decide (f = attrOf c) && (argsOk (defArgs s) [slf, par] && (glB (defScope s) ("super" : Str) && (decide ((defScope s).names.lookup ("__class__" : Str) = some .free) &&
      (isLoc (defScope s) slf && (isLoc (defScope s) par && (decide (slf ≠ par) && ((defScope s).names.all (fun y => decide (y.2 ≠ .cell)) && (!(defScope s).isCoroutine && (!(defScope s).isGenerator && (decide ((defScope s).kind = .function) &&
        (nmOk slf && (nmOk par && (msgB c par (defScope s) msg && (ap.endLine == cp.line))))))))))))))))
  | _ => false
theorem bind_init {x qual : Str} {params : Arguments} {body : List Stmt} {scope : Scope} {kV doc pm : Value} {an : Option Addr} {cdv ct : Value} {cc : Addr} {ps : List Str} {us : List Value} (hp : params.posonlyargs = []) (ha : params.args.map (·.arg) = ps) (hv : params.vararg = none)
    (hk : params.kwonlyargs = []) (hw : params.kwarg = none) (nd : ps.Nodup) (hl : us.length = ps.length) : bindArgs (PySem.W.ksFn x qual params body scope .none kV doc pm an cdv ct cc) ⟨us, []⟩ = pure (ps.zip us) := by
  unfold bindArgs PySem.W.ksFn PySem.W.fnX
  have e1 : (ps.filter fun n => ((ps.zip us).lookup n).isNone) = [] := by
    rw [List.filter_eq_nil_iff]
    intro n hn
    have := lk_some hl hn
    rw [Option.isNone_iff_eq_none]
    intro z
    rw [z] at this
    cases this
  have e0 : seqItems? Value.none = pure none := rfl
  simp only [hp, ha, hv, hk, hw, List.map_nil, List.nil_append, List.append_nil, e0, pure_bind, Option.getD_none, Array.toList_empty, List.drop_nil, List.length_nil, Nat.sub_zero, List.take_length, List.drop_length, e1, Bool.false_eq_true, if_false, Option.getD_none, hl, Nat.lt_irrefl, gt_iff_lt, decide_false, Bool.false_and, List.drop_nil, List.length_nil, Nat.sub_zero, List.take_length, e1, List.isEmpty_nil, Bool.not_true, List.zip_nil_right, List.forIn_nil, lk_zip hl nd]
theorem raise_dat {c : Nat} {v : PV} {st : Store} (hc : c = 901) (h : raiseV c v st ≠ none) : (∃ kvs, v = .dic kvs ∧ dicOk kvs 100 = true) ∨ ∃ d, v.dat = some d ∧ d.showable = true ∧ d.hasDict = false ∧ d.depth ≤ 64 ∧ d.shown.length + 100 ≤ lim := by
  unfold raiseV at h
  rw [if_pos hc] at h
  by_cases cc : raiseD v = true
  · unfold raiseD at cc
    split at cc
    · exact .inl ⟨_, rfl, cc⟩
    · split at cc
      · rename_i d hd
        rw [Bool.and_eq_true, Bool.and_eq_true, Bool.and_eq_true, Bool.not_eq_true', decide_eq_true_eq, decide_eq_true_eq] at cc
        exact .inr ⟨d, hd, cc⟩
      · cases cc
  · rw [if_neg cc] at h
    exact absurd rfl h
theorem init_eval {o msg : Expr} {x : Str} {ap cp : Pos} {env : PySem.Env} (hs : starEach [msg] env = [(false, eval msg env)]) (hl : (ap.endLine == cp.line) = true) : ∃ pl : Sem Bool, eval (.Call (.Attribute o x ap) [msg] [] cp) env = (do
      let ov ← attributeBase o x env (eval o env)
      standAt ap.atName
      let (f, first) ← holding [ov] (getMethod ov x pl)
      callWith cp f first (backTo cp (starEach [msg] env)) []) := by
  refine ⟨(do return (← importBound o env).getD true), ?_⟩
  have key : ∀ ov, methodCall o x ap cp env ov 1 (backTo cp (starEach [msg] env)) [] = (do
      let (f, first) ← holding [ov] (getMethod ov x (do return (← importBound o env).getD true))
      callWith cp f first (backTo cp (starEach [msg] env)) []) := fun ov => by
    rw [hs]
    have e1 : methodCallForm 1 (backTo cp [(false, eval msg env)]) [] = true := rfl
    unfold methodCall methodCallPos
    rw [e1, hl]
    rfl
  show (do
      let ov ← attributeBase o x env (eval o env)
      standAt ap.atName
      methodCall o x ap cp env ov 1 (backTo cp (starEach [msg] env)) []) = _
  simp only [key]
theorem init_ok {P : Program} {c : Nat} {s : Stmt} (h : initB c s = true) (ht : (P.main.scope.names.lookup ("super" : Str)).isSome = false) : ∃ slf par msg, SuT P slf par (attrOf c) msg (defArgs s) (defBody s) (defScope s) ∧
    (∀ (s' : Shared) (e : Addr) (v : Value) (nF qF : Str) (kV doc pm : Value) (an : Option Addr) (cdv ct : Value) (cc : Addr), BindsTo s' (PySem.W.ksFn nF qF (defArgs s) (defBody s) (defScope s) .none kV doc pm an cdv ct cc) ⟨[.ref e, v], []⟩ [(slf, .ref e), (par, v)]) ∧
    ∀ (X : Cx), X.A.guards = some [] → X.A.units + 200 < cLine → ∃ W : V → Hp → Prop, MsgR X (defScope s) par msg W ∧
      ∀ {ad : Nat → Option Addr} {g : Fo.G} {H : Hp} {st : Store} {v : PV} {w : V}, OK X.K ad g H st → Rep X.K ad g.F v w → raiseV c v st ≠ none → W w H := by
  unfold initB at h
  split at h
  case h_2 => cases h
  rename_i su p0 p1 ini p2 msg p3 p4 slf p5 f p6 par p7 p8 hb
  obtain ⟨h1, h⟩ := two h
  obtain ⟨h2, h⟩ := two h
  obtain ⟨h3, h⟩ := two h
  obtain ⟨h4, h⟩ := two h
  obtain ⟨h5, h⟩ := two h
  obtain ⟨h6, h⟩ := two h
  obtain ⟨h7, h⟩ := two h
  obtain ⟨h8, h⟩ := two h
  obtain ⟨h9, h⟩ := two h
  obtain ⟨k1, h⟩ := two h
  obtain ⟨k2, h⟩ := two h
  obtain ⟨k3, h⟩ := two h
  obtain ⟨k4, h⟩ := two h
  obtain ⟨k5, h⟩ := two h
  obtain ⟨k6, h⟩ := two h
  obtain ⟨k7, k8⟩ := two h
  have e1 := of_decide_eq_true h1
  have e2 := of_decide_eq_true h2
  have e3 := of_decide_eq_true h3
  have e9 := of_decide_eq_true h9
  subst e1 e2 e3
  obtain ⟨a1, a2, a3, a4, a5⟩ := argsOk_ok h4
  have star : notStar msg = true := by
    unfold msgB at k7
    split at k7
    · rfl
    · rfl
    · cases k7
  refine ⟨slf, par, msg, ⟨⟨p0, p1, p2, p3, p4, p5, p6, p7, p8, hb, fun env => init_eval (star_cons star) k8⟩, ?_, ?_, of_decide_eq_true h6, loc_of h7, loc_of h8, e9, fun x hx => of_decide_eq_true (List.all_eq_true.mp k1 x hx), by simpa using k2, by simpa using k3, of_decide_eq_true k4, ⟨(nm_of k5).1, (nm_of k6).1⟩, ht, fun env => star_cons star⟩, fun s' e v nF qF kV doc pm an cdv ct cc => ?_, fun X hg hu => ?_⟩
  · cases ha : (defArgs s).args with
    | nil => rw [ha] at a2; cases a2
    | cons y ys =>
      rw [ha] at a2
      refine ⟨y, ?_, (List.cons.inj a2).1⟩
      rw [a1]
      rfl
  · unfold glB at h5
    split at h5
    · assumption
    · cases h5
  · exact .of_eq (bind_init (us := [.ref e, v]) a1 a2 a3 a4 a5 (by simp [e9]) rfl)
  · unfold msgB at k7
    split at k7
    · rename_i y q1 kk q2 t j q3 q4
      obtain ⟨m1, k7⟩ := two k7
      obtain ⟨m2, k7⟩ := two k7
      obtain ⟨m3, m4⟩ := two k7
      have m2 := of_decide_eq_true m2
      have m3 := of_decide_eq_true m3
      have m4 := of_decide_eq_true m4
      subst m2 m3
      refine ⟨_, msgR_repr hg hu (loc_of h8) (nm_of k6).1, fun {ad g H st v w} o r hr => ?_⟩
      rcases raise_dat (of_decide_eq_true m1) hr with ⟨kvs, ev, hk⟩ | hd
      · subst ev
        unfold dicOk at hk
        rw [Bool.and_eq_true, Bool.and_eq_true, decide_eq_true_eq, decide_eq_true_eq] at hk
        obtain ⟨k1, k2, k3⟩ := hk
        cases r with
        | dic ha => exact .inl ⟨_, kvs, rfl, o.ex _ _ ha, k1, k3, by rw [← lim_eq]; omega⟩
      obtain ⟨d, d1, d2, d3, d4, d5⟩ := hd
      refine .inr ?_
      refine ⟨d, Rep.dp o.ex v w d r d1, d2, d3, d4, ?_⟩
      rw [lim_eq] at d5
      omega
    · exact ⟨_, msgR_const, fun _ _ _ => trivial⟩
    · cases k7
end Fo
end -- FoCls

section -- FoCls2
set_option Elab.async false
set_option linter.all false
set_option maxRecDepth 100000
set_option maxHeartbeats 2000000
/-! FoCls2: what a part of the heap tells of own exception classes. -/
namespace Fo
open PySem L2 Evl PyProof.Rows PySem.FX
def XE.q (e : XE) : Str := e.n ++ ("." : Str) ++ ("__init__" : Str)
def cAd (K : PySem.W.Frag) (e : XE) : Addr := He.ga K e.n
def iAd (K : PySem.W.Frag) (e : XE) : Addr := He.ma K (cAd K e) ("__init__" : Str)
abbrev IniW : Type := Option (Str × Arguments × FuncBody × Scope × Addr × Addr × List Str)
def iniW (K : PySem.W.Frag) (e : XE) : IniW := match K.lookup (iAd K e) with
  | some ⟨_, _, .func fd, _⟩ => some (fd.qualname, fd.params, fd.body, fd.scope, fd.globals, fd.builtins, fd.closure.map (·.1))
  | _ => none
def XE.val (e : XE) : IniW := some (e.q, defArgs e.s, .stmts (defBody e.s), defScope e.s, mainGlobals, builtinsNs, [("__class__" : Str)])
def clsB (K : PySem.W.Frag) (C : Addr) (b : XB) : Bool := match K.lookup C with
  | some ⟨.type "type", _, .cls cd, sl⟩ => (match cd.mro, sl.toList with
    | .ref C' :: bm, [_, _, _, _, some (.builtin n), _] => decide (C' = C) && (decide (n = b.newId) && (!cd.hasDel && (cd.hasDict && decide (bm = b.bm))))
    | _, _ => false)
  | _ => false
theorem clsB_ok {K : PySem.W.Frag} {C : Addr} {b : XB} (h : clsB K C b = true) : ∃ nm q N bs sn sub ab col dd k0 k1 k2 k3 k5, K.lookup C = some (excClassObj nm q C N bs b.bm true sn sub ab col dd k0 k1 k2 k3 k5 b.newId) := by
  unfold clsB at h
  split at h
  · rename_i dd cd sl ho
    split at h
    · rename_i C' bm k0 k1 k2 k3 n k5 hm hs
      obtain ⟨h1, h⟩ := two h
      obtain ⟨h2, h⟩ := two h
      obtain ⟨h3, h⟩ := two h
      obtain ⟨h4, h5⟩ := two h
      have h1 := of_decide_eq_true h1
      have h2 := of_decide_eq_true h2
      have h5 := of_decide_eq_true h5
      obtain ⟨nm, bs, mro, ns, qn, hd, sn, sub, ab, col, del⟩ := cd
      dsimp only at hm h3 h4
      have h3 : del = false := by simpa using h3
      subst hm h1 h2 h3 h4 h5
      have hsl : sl = #[k0, k1, k2, k3, some (.builtin b.newId), k5] := by
        obtain ⟨l⟩ := sl
        simp only at hs
        rw [hs]
      subst hsl
      exact ⟨nm, qn, ns, bs, sn, sub, ab, col, dd, k0, k1, k2, k3, k5, ho⟩
    · cases h
  · cases h
def iniB (K : PySem.W.Frag) (file q : Str) (C fI : Addr) : Bool := match K.lookup fI with
  | some ⟨_, _, .func fd, _⟩ => PySem.W.codeIn K fd.code q && (decide (fd.defaults = .none) && ((match fd.closure with
    | [(_, cc)] => (match K.lookup cc with
      | some ⟨_, _, .cell (some (.ref C')), _⟩ => decide (C' = C)
      | _ => false)
    | _ => false) && (match fd.code with
      | .ref cda => (match K.lookup cda with
        | some ⟨_, _, .fields vs, _⟩ => (match (vs[2]? : Option Value) with
          | some (.str f' _) => decide (f' = file)
          | _ => false)
        | _ => false)
      | _ => false)))
  | _ => false
theorem iniB_ok {K : PySem.W.Frag} {P : Program} {e : XE} {C : Addr} (hv : iniW K e = e.val) (h : iniB K P.main.file e.q C (iAd K e) = true) :
    ∃ oc od nF kV doc pm an cda ct cc osl, K.lookup (iAd K e) = some ⟨oc, od, .func (PySem.W.ksFn nF e.q (defArgs e.s) (defBody e.s) (defScope e.s) .none kV doc pm an (.ref cda) ct cc), osl⟩ ∧ PySem.W.codeIn K (.ref cda) e.q = true ∧
    (∃ cl cld csl, K.lookup cc = some ⟨cl, cld, .cell (some (.ref C)), csl⟩) ∧ ∃ (ccl : Value) (cdd : Option Addr) (vs : Array Value) (ccs : Array (Option Value)) (file : Str) (tf : Tok), K.lookup cda = some ⟨ccl, cdd, .fields vs, ccs⟩ ∧ vs[2]? = some (.str file tf) ∧ ((P.main.file : Str) == file) = true := by
  unfold iniB at h
  unfold iniW at hv
  cases lk : K.lookup (iAd K e) with
  | none => rw [lk] at h; cases h
  | some o =>
    obtain ⟨oc, od, dt, osl⟩ := o
    rw [lk] at h hv
    cases dt with
    | func fd =>
      obtain ⟨n1, n2, n3, n4, n5, n6, n7, n8, n9, n10, n11, n12, n13, n14, n15⟩ := fd
      have hv : (some (n2, n3, n4, n5, n6, n15, n7.map (·.1)) : IniW) = some (e.q, defArgs e.s, .stmts (defBody e.s), defScope e.s, mainGlobals, builtinsNs, [("__class__" : Str)]) := hv
      simp only [Option.some.injEq, Prod.mk.injEq] at hv
      obtain ⟨v1, v2, v3, v4, v5, v6, v7⟩ := hv
      subst v1 v2 v3 v4 v5 v6
      dsimp only at h
      obtain ⟨h1, h⟩ := two h
      obtain ⟨h2, h⟩ := two h
      obtain ⟨h3, h4⟩ := two h
      have h2 := of_decide_eq_true h2
      subst h2
      rcases n7 with _ | ⟨⟨y, cc⟩, _ | ⟨z, zs⟩⟩
      · cases h3
      · dsimp only at h3
        have ey : y = ("__class__" : Str) := by
          have := v7
          simpa using this
        subst ey
        split at h3
        · rename_i cl cld C' csl hcc
          have h3 := of_decide_eq_true h3
          subst h3
          split at h4
          · rename_i cda
            split at h4
            · rename_i ccl cdd vs ccs hc
              split at h4
              · rename_i f' tf hf
                have h4 := of_decide_eq_true h4
                exact ⟨_, _, n1, n9, n10, n11, n12, _, n14, cc, osl, rfl, h1, ⟨_, _, _, hcc⟩, _, _, vs, _, f', tf, hc, hf, by rw [h4]; exact beq_self_eq_true _⟩
              · cases h4
            · cases h4
          · cases h4
        · cases h3
      · cases h3
    | _ => cases h
def suB (K : PySem.W.Frag) (file : Str) (e : XE) : Bool :=
  clsB K (cAd K e) (xbOf e.c) && (iniB K file e.q (cAd K e) (iAd K e) && (decide (PySem.W.findIn K (.ref (cAd K e)) "__init__" = some (some (.ref (iAd K e)))) && (decide (PySem.W.typeIn K (.ref (iAd K e)) = some (.type "function")) &&
    (decide (PySem.W.findIn K (.ref (cAd K e)) "__setattr__" = some (some (.builtin "object.__setattr__"))) && (decide (PySem.W.nsIn K cStatics "thirdparty.any" = some none) && (decide (PySem.W.subIn K (.ref (cAd K e)) (.type (xbOf e.c).B) = some true) &&
      (decide (PySem.W.mroIn K (cAd K e) (.ref (cAd K e)) = some true) && (PySem.W.excOver K (cAd K e) (xbOf e.c).bm && (decide (PySem.W.nsIn K mainGlobals "super" = some none) && decide (PySem.W.alongIn K "__init__" (xbOf e.c).bm = some (some (.builtin (xbOf e.c).initId))))))))))))
theorem suB_ok {K : PySem.W.Frag} {P : Program} {e : XE} (hv : iniW K e = e.val) (h : suB K P.main.file e = true) : SuC K P (cAd K e) (iAd K e) (xbOf e.c).B (xbOf e.c).newId (xbOf e.c).initId (xbOf e.c).bm e.q (defArgs e.s) (defBody e.s) (defScope e.s) := by
  unfold suB at h
  obtain ⟨h1, h⟩ := two h
  obtain ⟨h2, h⟩ := two h
  obtain ⟨h3, h⟩ := two h
  obtain ⟨h4, h⟩ := two h
  obtain ⟨h5, h⟩ := two h
  obtain ⟨h6, h⟩ := two h
  obtain ⟨h7, h⟩ := two h
  obtain ⟨h8, h⟩ := two h
  obtain ⟨h9, h⟩ := two h
  obtain ⟨k1, k2⟩ := two h
  exact ⟨clsB_ok h1, iniB_ok hv h2, of_decide_eq_true h3, of_decide_eq_true h4, of_decide_eq_true h5, of_decide_eq_true h6, of_decide_eq_true h7, of_decide_eq_true h8, h9, of_decide_eq_true k1, of_decide_eq_true k2⟩
def veB : List Value := [.type "ValueError", .type "Exception", .type "BaseException", .type "object"]
/-- one class -/
def exB1 (K : PySem.W.Frag) (file : Str) (e : XE) : Bool :=
  (He.Fa.glo e.n).ok K && (PySem.W.keepIn K (.ref (cAd K e)) && (decide (PySem.W.subIn K (.ref (cAd K e)) (.type "BaseException") = some true) && (decide (PySem.W.typeIn K (.ref (cAd K e)) = some (.type "type")) && (xfB K (cAd K e) && (decide (PySem.W.findIn K (.ref (cAd K e)) (attrOf e.c) = some none) &&
    (if e.c < 903 then suB K file e else PySem.W.excIn K (cAd K e) veB "ValueError.__new__"))))))
def exB (xs : List XE) (file : Str) (K : PySem.W.Frag) : Bool := xs.all (exB1 K file) && xs.all fun e => xs.all fun f => decide (PySem.W.exmOne K (.ref (cAd K e)) (.ref (cAd K f)) = some (e.c == f.c))
end Fo
end -- FoCls2

section -- FoTop
set_option Elab.async false
set_option linter.all false
set_option maxRecDepth 100000
set_option maxHeartbeats 2000000
/-! FoTop: a table of defs, that each keeps. -/
namespace Fo
open PySem L2 Evl PyProof.Rows
/-- a def of the row's top, its term, whether it hands a list of its own back, its defaults -/
structure Ent where
  s : Stmt
  f : Fn
  fr : Bool
  dfl : List Int
def Ent.x (e : Ent) : Str := Str.ofString e.f.name
def Ent.N (e : Ent) : List Str := e.f.N.map Str.ofString
def Ent.ps (e : Ent) : List Str := e.N.take e.f.np
def Ent.d (e : Ent) : He.DefD := ⟨(e.x, none), e.x, e.x, defArgs e.s, defBody e.s, defScope e.s, e.dfl.map .int, []⟩
def Ent.fi (e : Ent) : Fi := ⟨e.x, e.f.np, e.dfl, e.fr⟩
def tbOf (es : List Ent) : Nat → Option Fi := fun i => (es[i]?).map Ent.fi
def tblOf (es : List Ent) : Nat → Option Fn := fun i => (es[i]?).map (·.f)
def scOk (e : Ent) : Bool :=
  (match (defScope e.s).kind with
    | .function => true
    | _ => false) && (!(defScope e.s).isCoroutine && (!(defScope e.s).isGenerator && (decide e.N.Nodup && (decide (e.f.np ≤ e.N.length) && (e.ps.all (fun x => isLoc (defScope e.s) x || isCel (defScope e.s) x) && (defScope e.s).names.all fun y => decide (y.2 ≠ .free))))))
/-- a def that is given lambdas -/
structure WE where
  e : Ent
  w : Wd
/-- a row -/
structure Row where
  es : List Ent
  cn : List (String × GC)
  xs : List XE
  ws : List WE
  lams : List String
  file : Str
def Row.xsN (r : Row) : List (Nat × Str) := r.xs.map fun e => (e.c, e.n)
def Row.wds (r : Row) : List (Str × Wd) := r.ws.map fun v => (v.e.x, v.w)
def Row.lamS (r : Row) : List Str := r.lams.map Str.ofString
def Row.lamIx (r : Row) (x : Str) : Option Nat := if x ∈ r.lamS then lamNames.idxOf? x else none
def ckOf (r : Row) (e : Ent) : Ck := ⟨e.N, defScope e.s, fun _ => true, tbOf r.es, r.cn, r.xsN, r.wds, r.lamIx e.x⟩
def Ent.ok (r : Row) (e : Ent) : Bool := scOk e && (chkSs (ckOf r e) false e.f.body (defBody e.s) && ((!e.fr || chkSs (ckOf r e) true e.f.body (defBody e.s)) && (match r.lamIx e.x with
  | none => true
  | some i => decide (i < lamNames.length) && (decide (lamNames[i]? = some e.x) && decide (lamQ i = (envOfC e.x (defScope e.s) 0 0 .none).qual ++ ("<lambda>" : Str))))))
def Row.ok (r : Row) : Bool := r.es.all (Ent.ok r) && (decide (r.es.length ≤ 900) && (r.ws.all (fun v => scOk v.e && (argsOk (defArgs v.e.s) v.e.ps && (decide (v.e.ps.length = 1) && (v.e.dfl.isEmpty && (decide (1 < v.e.N.length) && chkWord (defScope v.e.s) v.e.N r.xsN v.w (defBody v.e.s))))))
  && r.xs.all fun e => decide (900 ≤ e.c) && (decide (e.c < 10000) && (decide ((r.xs.find? fun f => f.c == e.c).map (·.x) = some e.x) && (if e.c < 903 then initB e.c e.s else true)))))
def adOf (r : Row) (K : PySem.W.Frag) (i : Nat) : Option Addr := if i < 900 then (r.es[i]?).map fun e => He.ga K e.x else if i < 10000 then (r.xs.find? fun e => e.c == i).map (cAd K) else match lamNames[i - 10000]? with
  | some x => if x ∈ r.lamS then some (He.cT K (x, none)).2 else none
  | none => none
theorem scOk_ok {e : Ent} (h : scOk e = true) : FnScope e.N e.ps (defScope e.s) ∧ e.ps.length = e.f.np := by
  unfold scOk at h
  obtain ⟨h1, h⟩ := two h
  obtain ⟨h2, h⟩ := two h
  obtain ⟨h3, h⟩ := two h
  obtain ⟨h4, h⟩ := two h
  obtain ⟨h5, h⟩ := two h
  obtain ⟨h6, h7⟩ := two h
  have hl : e.ps.length = e.f.np := by
    unfold Ent.ps
    rw [List.length_take]
    have := of_decide_eq_true h5
    omega
  refine ⟨⟨?_, by simpa using h2, by simpa using h3, of_decide_eq_true h4, ?_, fun x hx => ?_, fun y hy => ?_⟩, hl⟩
  · split at h1
    · assumption
    · cases h1
  · rw [hl]; rfl
  · have := List.all_eq_true.mp h6 x hx
    rcases Bool.or_eq_true_iff.mp this with z | z
    · exact .inl (loc_of z)
    · exact .inr (cel_of z)
  · exact of_decide_eq_true (List.all_eq_true.mp h7 y hy)
/-- the defaults fill up -/
def Bd (e : Ent) : Prop := ∀ (K : PySem.W.Frag) (fd : FuncData) (f : Addr), FunD K e.x e.x (defArgs e.s) (defBody e.s) (defScope e.s) (e.dfl.map V.int) [] f fd → ∀ j, j ≤ e.dfl.length → ∃ ds, Vals ((e.dfl.drop j).map V.int) ds ∧ Binds K fd e.ps ds
def AllP {α : Type} (P : α → Prop) : List α → Prop
  | [] => True
  | x :: xs => P x ∧ AllP P xs
theorem AllP.get {α : Type} {P : α → Prop} : ∀ {xs : List α}, AllP P xs → ∀ x ∈ xs, P x
  | y :: ys, h, x, hx => by
    rcases List.mem_cons.mp hx with z | z
    · rw [z]; exact h.1
    · exact AllP.get h.2 x z
theorem bd_plain {e : Ent} (h : argsOk (defArgs e.s) e.ps = true) (hd : e.dfl = []) (hs : scOk e = true) : Bd e := by
  intro K fd f F j hj
  rw [hd] at F hj ⊢
  have hj : j = 0 := Nat.le_zero.mp hj
  subst hj
  obtain ⟨a1, a2, a3, a4, a5⟩ := argsOk_ok h
  have nd : e.ps.Nodup := (scOk_ok hs).1.nd.sublist (List.take_sublist _ _)
  exact ⟨[], .nil, FunD.bindsN F fun kV doc pm an cdv ct us hl => bind_plain a1 a2 a3 a4 a5 nd hl⟩
theorem bd_law {K : PySem.W.Frag} {fd : FuncData} {f : Addr} {e : Ent} (F : FunD K e.x e.x (defArgs e.s) (defBody e.s) (defScope e.s) [] [] f fd) (h : argsOk (defArgs e.s) e.ps = true) (hs : scOk e = true) {x : Str} (hx : e.ps = [x]) (s : Shared) (u : Value) : BindsTo s fd ⟨[u], []⟩ [(x, u)] := by
  obtain ⟨a1, a2, a3, a4, a5⟩ := argsOk_ok h
  have nd : e.ps.Nodup := (scOk_ok hs).1.nd.sublist (List.take_sublist _ _)
  have q := FunD.bindsA (ps := e.ps) F (fun kV doc pm an cdv ct us hl => bind_plain a1 a2 a3 a4 a5 nd hl) s [u] (by rw [hx]; rfl)
  rw [hx] at q
  exact q
/-! ### the facts -/
def freeN : List Str := ["range", "isinstance", "len", "abs", "int", "max", "min", "tuple", "list", "all", "any", "repr", "bool", "str", "zip", "enumerate", "sorted", "dict"]
structure Facts (r : Row) (K : PySem.W.Frag) (mg : Str → Option Value) : Prop where
  def_ : ∀ e ∈ r.es, ∃ fd, FunD K e.x e.x (defArgs e.s) (defBody e.s) (defScope e.s) (e.dfl.map V.int) [] (He.ga K e.x) fd
  glo : ∀ e ∈ r.es, mg e.x = some (.ref (He.ga K e.x))
  free : ∀ x ∈ freeN, mg x = none
  cn : ∀ (ad : Nat → Option Addr), ∀ p ∈ r.cn, ∃ u w, mg (Str.ofString p.1) = some u ∧ RelV w u ∧ ∀ F, Rep K ad F p.2.val w
  wdef : ∀ v ∈ r.ws, ∃ fd, FunD K v.e.x v.e.x (defArgs v.e.s) (defBody v.e.s) (defScope v.e.s) (v.e.dfl.map V.int) [] (He.ga K v.e.x) fd
  wglo : ∀ v ∈ r.ws, mg v.e.x = some (.ref (He.ga K v.e.x))
  xv : ∀ e ∈ r.xs, e.c < 903 → iniW K e = e.val
  xb : exB r.xs r.file K = true
  xg : ∀ e ∈ r.xs, mg e.n = some (.ref (cAd K e))
  inj : ∀ x ∈ r.lamS, ∀ y ∈ r.lamS, (He.cT K (x, none)).2 = (He.cT K (y, none)).2 → x = y
section
variable {r : Row} {P : Program} {w : World} {K : PySem.W.Frag} {mg : Str → Option Value} {base : Heap}
theorem ad_es {f : Nat} {e : Ent} (hl : r.es.length ≤ 900) (h : r.es[f]? = some e) : adOf r K f = some (He.ga K e.x) := by
  unfold adOf
  have : f < r.es.length := (List.getElem?_eq_some_iff.mp h).1
  rw [if_pos (by omega), h]
  rfl
theorem ad_xs {e : XE} (h1 : 900 ≤ e.c) (h2 : e.c < 10000) (h3 : (r.xs.find? fun f => f.c == e.c).map (·.x) = some e.x) : adOf r K e.c = some (cAd K e) := by
  unfold adOf
  rw [if_neg (by omega), if_pos h2]
  obtain ⟨f, q1, q2⟩ := Option.map_eq_some_iff.mp h3
  rw [q1]
  show some (cAd K f) = _
  unfold cAd XE.n
  rw [q2]
theorem ad_lam {i : Nat} {Pa : Addr} (h : adOf r K (10000 + i) = some Pa) : ∃ x, lamNames[i]? = some x ∧ x ∈ r.lamS ∧ Pa = (He.cT K (x, none)).2 := by
  unfold adOf at h
  rw [if_neg (by omega), if_neg (by omega), show 10000 + i - 10000 = i by omega] at h
  cases q : lamNames[i]? with
  | none => rw [q] at h; cases h
  | some x =>
    rw [q] at h
    dsimp only at h
    split at h
    · rename_i c
      exact ⟨x, rfl, c, (Option.some.inj h).symm⟩
    · cases h
theorem lam_ad {i : Nat} {x : Str} (h : lamNames[i]? = some x) (hx : x ∈ r.lamS) : adOf r K (10000 + i) = some (He.cT K (x, none)).2 := by
  unfold adOf
  rw [if_neg (by omega), if_neg (by omega), show 10000 + i - 10000 = i by omega, h]
  dsimp only
  rw [if_pos hx]
theorem names_nodup : lamNames.Nodup := by decide +kernel
theorem fit_inj (h : Facts r K mg) : ∀ i j Pa, i < lamNames.length → j < lamNames.length → adOf r K (10000 + i) = some Pa → adOf r K (10000 + j) = some Pa → i = j := by
  intro i j Pa _ _ h1 h2
  obtain ⟨x, x1, x2, x3⟩ := ad_lam h1
  obtain ⟨y, y1, y2, y3⟩ := ad_lam h2
  have e := h.inj x x2 y y2 (x3.symm.trans y3)
  subst e
  exact nodup_ix names_nodup x1 y1
theorem xs_at {c : Nat} {x : Str} (ok : r.ok = true) (h : (c, x) ∈ r.xsN) : ∃ e ∈ r.xs, e.c = c ∧ e.n = x ∧ adOf r K c = some (cAd K e) ∧ (c < 903 → initB c e.s = true) := by
  obtain ⟨e, he, q⟩ := List.mem_map.mp h
  cases q
  unfold Row.ok at ok
  obtain ⟨_, ok⟩ := two ok
  obtain ⟨_, ok⟩ := two ok
  obtain ⟨_, ok⟩ := two ok
  have := List.all_eq_true.mp ok e he
  obtain ⟨h1, h⟩ := two this
  obtain ⟨h2, h⟩ := two h
  obtain ⟨h3, h4⟩ := two h
  refine ⟨e, he, rfl, rfl, ad_xs (of_decide_eq_true h1) (of_decide_eq_true h2) (of_decide_eq_true h3), fun hc => ?_⟩
  rw [if_pos hc] at h4
  exact h4
theorem fit_exf (h : Facts r K mg) (ok : r.ok = true) : ExF K mg (adOf r K) r.xsN := by
  obtain ⟨b1, b2⟩ := two h.xb
  constructor
  · intro c x hx
    obtain ⟨e, he, rfl, rfl, ha, _⟩ := xs_at (K := K) ok hx
    have := List.all_eq_true.mp b1 e he
    unfold exB1 at this
    obtain ⟨h1, q⟩ := two this
    obtain ⟨h2, q⟩ := two q
    obtain ⟨h3, q⟩ := two q
    obtain ⟨h4, q⟩ := two q
    obtain ⟨h5, q⟩ := two q
    obtain ⟨h6, h7⟩ := two q
    exact ⟨cAd K e, ha, h.xg e he, xfB_ok h5, of_decide_eq_true h6⟩
  · intro c x c' x' C C' hx hx' hC hC'
    obtain ⟨e, he, rfl, rfl, ha, _⟩ := xs_at (K := K) ok hx
    obtain ⟨e', he', rfl, rfl, ha', _⟩ := xs_at (K := K) ok hx'
    rw [ha] at hC
    rw [ha'] at hC'
    cases hC
    cases hC'
    exact of_decide_eq_true (List.all_eq_true.mp (List.all_eq_true.mp b2 e he) e' he')
theorem fit_wdf (h : Facts r K mg) (ok : r.ok = true) : ∀ x w, (x, w) ∈ r.wds → WdF K mg r.xsN x w := by
  intro x w hx
  obtain ⟨v, hv, q⟩ := List.mem_map.mp hx
  cases q
  have ok2 := ok
  unfold Row.ok at ok2
  obtain ⟨_, ok2⟩ := two ok2
  obtain ⟨_, ok2⟩ := two ok2
  obtain ⟨ok2, _⟩ := two ok2
  have := List.all_eq_true.mp ok2 v hv
  obtain ⟨h1, q⟩ := two this
  obtain ⟨h2, q⟩ := two q
  obtain ⟨h3, q⟩ := two q
  obtain ⟨h4, q⟩ := two q
  obtain ⟨h5, h6⟩ := two q
  obtain ⟨fd, F⟩ := h.wdef v hv
  have hd : v.e.dfl = [] := List.isEmpty_iff.mp h4
  rw [hd] at F
  have S := (scOk_ok h1).1
  obtain ⟨a1, a2, a3, a4, a5⟩ := argsOk_ok h2
  have B : Binds K fd v.e.ps [] := FunD.bindsN F fun kV doc pm an cdv ct us hl => bind_plain a1 a2 a3 a4 a5 (S.nd.sublist (List.take_sublist _ _)) hl
  have hps : ∃ a, v.e.ps = [a] := by
    have := of_decide_eq_true h3
    match hp : v.e.ps, this with
    | [a], _ => exact ⟨a, rfl⟩
  obtain ⟨a, ha⟩ := hps
  rw [ha] at S B
  obtain ⟨oc, od, dV, kV, doc, pm, an, cdv, ct, osl, e, lk, hcd, _, _⟩ := F.ex
  subst e
  exact ⟨He.ga K v.e.x, a, _, _, _, _, _, _, _, cdv, ct, oc, an, od, osl, v.e.N, h.wglo v hv, F.kp, lk, hcd, B, S, of_decide_eq_true h5, h6⟩
theorem raises_of {X : Cx} {C : Addr} (h1 : PySem.W.subIn X.K (.ref C) (.type "BaseException") = some true) (h2 : PySem.W.typeIn X.K (.ref C) = some (.type "type")) : Raises X (.ref C) := raises_own h1 h2
theorem fit_rai {X : Cx} (h : Facts r X.K X.mg) (ok : r.ok = true) : ∀ c x, (c, x) ∈ r.xsN → 903 ≤ c → RaiF X (adOf r X.K) c x := by
  intro c x hx hc
  obtain ⟨b1, b2⟩ := two h.xb
  obtain ⟨e, he, rfl, rfl, ha, _⟩ := xs_at (K := X.K) ok hx
  have := List.all_eq_true.mp b1 e he
  unfold exB1 at this
  obtain ⟨h1, q⟩ := two this
  obtain ⟨h2, q⟩ := two q
  obtain ⟨h3, q⟩ := two q
  obtain ⟨h4, q⟩ := two q
  obtain ⟨h5, q⟩ := two q
  obtain ⟨h6, h7⟩ := two q
  rw [if_neg (by omega)] at h7
  exact ⟨cAd X.K e, "ValueError", "ValueError.__new__", "ValueError.__init__", veB, PySem.F.excBase_ValueError, h7, h.xg e he, h2, raises_of (of_decide_eq_true h3) (of_decide_eq_true h4), ha⟩
theorem fit_rac {X : Cx} (h : Facts r X.K X.mg) (ok : r.ok = true) (hfile : X.prog.main.file = r.file) (ht : (X.prog.main.scope.names.lookup ("super" : Str)).isSome = false) (hg : X.A.guards = some []) (hu : X.A.units + 200 < cLine) : ∀ c x, (c, x) ∈ r.xsN → c < 903 → RacF X (adOf r X.K) c x := by
  intro c x hx hc
  obtain ⟨b1, b2⟩ := two h.xb
  obtain ⟨e, he, rfl, rfl, ha, hini⟩ := xs_at (K := X.K) ok hx
  have := List.all_eq_true.mp b1 e he
  unfold exB1 at this
  obtain ⟨h1, q⟩ := two this
  obtain ⟨h2, q⟩ := two q
  obtain ⟨h3, q⟩ := two q
  obtain ⟨h4, q⟩ := two q
  obtain ⟨h5, q⟩ := two q
  obtain ⟨h6, h7⟩ := two q
  rw [if_pos hc] at h7
  rw [← hfile] at h7
  obtain ⟨slf, par, msg, T, hb, hW⟩ := init_ok (P := X.prog) (hini hc) ht
  obtain ⟨W, m1, m2⟩ := hW X hg hu
  exact ⟨cAd X.K e, iAd X.K e, _, _, _, _, e.q, slf, par, msg, _, _, _, W, (xbOf e.c).facts, (xbOf e.c).kxs, (xbOf e.c).store, suB_ok (h.xv e he hc) h7, T, of_decide_eq_true h6, fun s' e' v nF kV doc pm an cdv ct cc => hb s' e' v nF _ kV doc pm an cdv ct cc, m1, h.xg e he, h2, raises_of (of_decide_eq_true h3) (of_decide_eq_true h4), ha, m2⟩
theorem tab_fnG (tree : P.given.tree = none) (hfile : P.main.file = r.file) (ht : (P.main.scope.names.lookup ("super" : Str)).isSome = false) (dig : base.NoDigits) (seer : base.NoSeer) (h : Facts r K mg) (ok : r.ok = true) (bd : AllP Bd r.es)
    (tabs : ∀ x ∈ r.lamS, LamX.TabB base mg (He.cT K (x, none)).1 (He.cT K (x, none)).2) : ∀ (n i : Nat) (e : Ent), r.es[i]? = some e → ∀ fd, FunD K e.x e.x (defArgs e.s) (defBody e.s) (defScope e.s) (e.dfl.map V.int) [] (He.ga K e.x) fd →
    ∀ fr, (fr = true → e.fr = true) → FnG P w K mg base (L2.CX P w) (3 * n + 40) (He.ga K e.x) fd e.ps (spF K (adOf r K) fr (callF (tblOf r.es) n i))
  | 0, i, e, he, fd, F, fr, hfr => by
    refine ⟨fun vs H Q E q => ?_, fun A outer s H args us vs Q E _ _ _ _ _ q => ?_⟩
    · obtain ⟨g, a, st, _, _, f⟩ := q
      exact f.elim
    · obtain ⟨g, a, st, _, _, f⟩ := q
      exact f.elim
  | n + 1, i, e, he, fd, F, fr, hfr => by
    have hm : e ∈ r.es := List.mem_of_getElem? he
    have ok2 := ok
    unfold Row.ok at ok2
    obtain ⟨ok1, ok2⟩ := two ok2
    have hlen : r.es.length ≤ 900 := of_decide_eq_true (two ok2).1
    have hok := List.all_eq_true.mp ok1 e hm
    unfold Ent.ok at hok
    obtain ⟨k1, k⟩ := two hok
    obtain ⟨k2, k⟩ := two k
    obtain ⟨k3, k4⟩ := two k
    obtain ⟨S, hps⟩ := scOk_ok k1
    have hb : chkSs (ckOf r e) fr e.f.body (defBody e.s) = true := by
      cases fr with
      | false => exact k2
      | true =>
        rw [hfr rfl] at k3
        exact k3
    have hcl : callF (tblOf r.es) (n + 1) i = run (callF (tblOf r.es) n) e.f := by
      funext args
      show (match tblOf r.es i with
        | some fn => run (callF (tblOf r.es) n) fn args
        | none => stk) = _
      have : tblOf r.es i = some e.f := by unfold tblOf; rw [he]; rfl
      rw [this]
    rw [hcl]
    refine fnG_of (n := 3 * n + 42) F S hps (by unfold Ent.N; rw [List.length_map]) fun cdv hcdv A outer s H E hgd hfr0 hr => ?_
    have hr0 : Room (3 * n + 40) (A.deeper (envOfC e.x (defScope e.s) s.heap.objs.size (He.ga K e.x) cdv)) := hr.mono (by omega)
    refine chkSs_ok (X := cxOf (L2.CX P w) P w K mg base e.N e.x (defScope e.s) (He.ga K e.x) cdv A outer s H E) (n := 3 * n + 40) (ad := adOf r K) (ck := ckOf r e) ⟨⟨rfl, S.nd, rfl, rfl, fun _ _ => rfl, hgd, dig, seer, tree, ⟨_, _, Around.frames_deeper hfr0, S.gen, S.co, rfl, rfl⟩, (by have := hr.dp; have e100 : Builtin.pylongFrames = 100 := rfl; show A.depth + 1 + Builtin.pylongFrames < recursionLimit; have z : (A.deeper (envOfC e.x (defScope e.s) s.heap.objs.size (He.ga K e.x) cdv)).depth = A.depth + 1 := rfl; omega), hr0, h.cn _, fun b => ?_, fun t => ?_, h.free _ (by decide +kernel), h.free _ (by decide +kernel), h.free _ (by decide +kernel), h.free _ (by decide +kernel), fun f i' hf => ?_, ?_, by omega, fit_exf h ok, fit_wdf h ok, fit_inj h, fun j hj => ?_⟩, passes_of rfl, S.kind, takes_of rfl rfl rfl rfl, fit_rai (X := cxOf (L2.CX P w) P w K mg base e.N e.x (defScope e.s) (He.ga K e.x) cdv A outer s H E) h ok, fit_rac (X := cxOf (L2.CX P w) P w K mg base e.N e.x (defScope e.s) (He.ga K e.x) cdv A outer s H E) h ok hfile ht hgd (by have := hr0.un; show (A.deeper (envOfC e.x (defScope e.s) s.heap.objs.size (He.ga K e.x) cdv)).units + 200 < _; omega)⟩ e.f.body _ hb
    · refine h.free _ ?_
      cases b <;> decide +kernel
    · refine h.free _ ?_
      cases t <;> decide +kernel
    · have hf : (r.es[f]?).map Ent.fi = some i' := hf
      obtain ⟨e', h1, h2⟩ := Option.map_eq_some_iff.mp hf
      subst h2
      have hm' : e' ∈ r.es := List.mem_of_getElem? h1
      obtain ⟨fd', F'⟩ := h.def_ e' hm'
      have hok' := List.all_eq_true.mp ok1 e' hm'
      unfold Ent.ok at hok'
      exact ⟨He.ga K e'.x, ad_es hlen h1, h.glo e' hm', F'.kp, fd', e'.ps, (scOk_ok (two hok').1).2, fun j hj => AllP.get bd e' hm' K fd' _ F' j hj, fun fr' hfr' => tab_fnG tree hfile ht dig seer h ok bd tabs n f e' h1 fd' F' fr' hfr'⟩
    · exact passes_call (takes_of rfl rfl rfl rfl) fun _ _ _ _ q => q
    · have hj : r.lamIx e.x = some j := hj
      rw [hj] at k4
      dsimp only at k4
      obtain ⟨j1, j2⟩ := two k4
      obtain ⟨j2, j3⟩ := two j2
      have j1 := of_decide_eq_true j1
      have j2 := of_decide_eq_true j2
      have j3 := of_decide_eq_true j3
      have hx : e.x ∈ r.lamS := by
        unfold Row.lamIx at hj
        split at hj
        · assumption
        · cases hj
      obtain ⟨oc, od, dV, kV, doc, pm, an, ct, osl, lk, hcd⟩ := hcdv
      obtain ⟨cc, hcc⟩ := He.codeIn_ref hcd
      subst hcc
      have e1 : He.codeOf K (e.x, none) = cc := He.codeOf_eq (p := (e.x, none)) lk rfl
      have T := tabs e.x hx
      have e2 : (He.cT K (e.x, none)).1 = cc := e1
      rw [e2] at T
      exact ⟨hr, j1, rfl, rfl, j3, cc, _, T, rfl, lam_ad j2 hx⟩
end
end Fo
end -- FoTop

section -- FoTop2
set_option Elab.async false
set_option linter.all false
set_option maxRecDepth 100000
set_option maxHeartbeats 2000000
/-! FoTop2: the head's facts; the law's end. -/
namespace Fo
open PySem L2 Evl PyProof.Rows
/-! ### the Hook -/
def cnB (cn : List (String × GC)) (K : PySem.W.Frag) : Bool := cn.all fun p => match p.2 with
  | .i z => (He.Fa.int (Str.ofString p.1) z).ok K
  | .s y => (He.Fa.str (Str.ofString p.1) (Str.ofString y)).ok K
  | .p a b => (He.Fa.glo (Str.ofString p.1)).ok K && He.tupB K (Str.ofString p.1) [.int a, .int b]
def Row.fa (r : Row) : List He.Fa := r.es.map (fun e => .glo e.x) ++ (r.ws.map (fun v => .glo v.e.x) ++ freeN.map .free)
def Row.fn (r : Row) : List He.DefD := r.es.map Ent.d ++ r.ws.map fun v => v.e.d
def Row.tf (r : Row) : List He.Defn := r.lamS.map fun x => (x, none)
def Row.xi (r : Row) : List XE := r.xs.filter fun e => decide (e.c < 903)
def Row.ex (r : Row) (K : PySem.W.Frag) : Bool := cnB r.cn K && (exB r.xs r.file K && (r.xs.all (fun e => (He.Fa.glo e.n).ok K) && r.lamS.all fun x => r.lamS.all fun y => !decide ((He.cT K (x, none)).2 = (He.cT K (y, none)).2) || decide (x = y)))
abbrev AlY : Type := He.AlD × (List IniW × Bool)
def frY (g : Addr → Option Obj) (n : Nat) : PySem.W.Frag := He.frT g (cStatics :: He.asD g n)
def obsK (r : Row) (g : Addr → Option Obj) (K : PySem.W.Frag) : AlY := (He.obsD r.fa r.fn K, r.xi.map (iniW K), r.ex K && He.tabsB g r.tf K)
def obsY (n : Nat) (r : Row) (g : Addr → Option Obj) : AlY := obsK r g (frY g n)
structure SaysY (r : Row) (h : Heap) (K : PySem.W.Frag) : Prop where
  d : He.SaysD r.fa r.fn K
  ini : r.xi.map (iniW K) = r.xi.map XE.val
  ex : r.ex K = true
  hd : ∀ x ∈ r.lamS, PySem.W.codeHdIn K (He.cT K (x, none)).1 (He.cT K (x, none)).2 = true
  out : ∀ x ∈ r.lamS, K.lookup (He.cT K (x, none)).2 = none
  empty : ∀ x ∈ r.lamS, h.get? (He.cT K (x, none)).2 = some { cls := .none, data := .fields #[] }
theorem saysY_of {n : Nat} {r : Row} {h : Heap} (e : obsY n r h.get? = (He.valD r.fn, r.xi.map XE.val, true)) : SaysY r h (frY h.get? n) := by
  have e1 : He.obsD r.fa r.fn (frY h.get? n) = He.valD r.fn := congrArg (fun z : AlY => z.1) e
  have e2 : r.xi.map (iniW (frY h.get? n)) = r.xi.map XE.val := congrArg (fun z : AlY => z.2.1) e
  have e3 : (r.ex (frY h.get? n) && He.tabsB h.get? r.tf (frY h.get? n)) = true := congrArg (fun z : AlY => z.2.2) e
  obtain ⟨e3, e4⟩ := two e3
  have tab : ∀ x ∈ r.lamS, PySem.W.codeHdIn (frY h.get? n) (He.cT (frY h.get? n) (x, none)).1 (He.cT (frY h.get? n) (x, none)).2 = true ∧ ∃ o, h.get? (He.cT (frY h.get? n) (x, none)).2 = some o ∧ He.emptyTab o = true := fun x hx => by
    obtain ⟨t1, t2⟩ := two (List.all_eq_true.mp e4 (x, none) (List.mem_map.mpr ⟨x, hx, rfl⟩))
    refine ⟨t1, ?_⟩
    split at t2
    · rename_i o ho
      exact ⟨o, ho, t2⟩
    · cases t2
  refine ⟨e1, e2, e3, fun x hx => (tab x hx).1, fun x hx => ?_, fun x hx => ?_⟩
  · obtain ⟨_, o, t1, t2⟩ := tab x hx
    exact He.frT_none t1 t2
  · obtain ⟨_, o, t1, t2⟩ := tab x hx
    rw [t1, He.emptyTab_eq t2]
def hookY (n : Nat) (r : Row) : PySem.W.Hook where
  α := AlY
  obs := fun s => obsY n r s.heap.get?
  val := fun _ => (He.valD r.fn, r.xi.map XE.val, true)
  says := fun _ h => ∃ K : PySem.W.Frag, K.In h ∧ SaysY r h K
  of := fun _ _ e => ⟨_, He.frT_in, saysY_of e⟩
  keeps := fun _ _ _ ⟨K, hK, c⟩ k => ⟨K, PySem.W.Frag.In.keeps hK k, ⟨c.d, c.ini, c.ex, c.hd, c.out, fun x hx => k _ _ (c.empty x hx)⟩⟩
theorem obsY_eq {n : Nat} {r : Row} {g : Addr → Option Obj} {s : Shared} (h : ∀ a, g a = s.heap.get? a) : obsY n r g = (hookY n r).obs s := by
  have e : g = s.heap.get? := funext h
  rw [e] <;> rfl
theorem map_eq_at {α β : Type} {f g : α → β} : ∀ {l : List α}, l.map f = l.map g → ∀ x ∈ l, f x = g x
  | y :: l, h, x, hx => by
    rw [List.map_cons, List.map_cons] at h
    obtain ⟨h1, h2⟩ := List.cons.inj h
    rcases List.mem_cons.mp hx with z | z
    · rw [z]; exact h1
    · exact map_eq_at h2 x z
theorem facts_of {r : Row} {K : PySem.W.Frag} {h h0 : Heap} {mg : Str → Option Value} (X : K.In h) (G : h.Ns mainGlobals mg) (c : SaysY r h0 K) : Facts r K mg := by
  have fact : ∀ f ∈ r.fa, f.ok K = true := fun f hf => c.d.facts hf
  have defs : ∀ e : Ent, e.d ∈ r.fn → ∃ fd, FunD K e.x e.x (defArgs e.s) (defBody e.s) (defScope e.s) (e.dfl.map V.int) [] (He.ga K e.x) fd := fun e he => by
    obtain ⟨fd, F⟩ := c.d.defs he
    refine ⟨fd, ?_⟩
    have e1 : e.d.dvs K = e.dfl.map V.int := by
      show (e.dfl.map He.Dv.int).map (He.Dv.v K) = _
      rw [List.map_map]
      rfl
    rw [e1] at F
    exact F
  have ex := c.ex
  unfold Row.ex at ex
  obtain ⟨x1, ex⟩ := two ex
  obtain ⟨x2, ex⟩ := two ex
  obtain ⟨x3, x4⟩ := two ex
  refine ⟨fun e he => defs e (List.mem_append_left _ (List.mem_map.mpr ⟨e, he, rfl⟩)), fun e he => ?_, fun x hx => ?_, fun ad p hp => ?_, fun v hv => defs v.e (List.mem_append_right _ (List.mem_map.mpr ⟨v, hv, rfl⟩)), fun v hv => ?_, fun e he hc => ?_, x2, fun e he => ?_, fun x hx y hy q => ?_⟩
  · exact He.glo_ok X G (fact _ (List.mem_append_left _ (List.mem_map.mpr ⟨e, he, rfl⟩)))
  · exact He.free_ok X G (fact _ (List.mem_append_right _ (List.mem_append_right _ (List.mem_map.mpr ⟨x, hx, rfl⟩))))
  · have q := List.all_eq_true.mp x1 p hp
    obtain ⟨x, g⟩ := p
    cases g with
    | i z =>
      obtain ⟨t, e⟩ := He.int_ok X G q
      exact ⟨_, .int z, e, ⟨t, rfl⟩, fun F => .int z⟩
    | s y =>
      obtain ⟨t, e⟩ := He.str_ok X G q
      exact ⟨_, .str (Str.ofString y), e, ⟨t, rfl⟩, fun F => .str _⟩
    | p a b =>
      obtain ⟨q1, q2⟩ := two q
      refine ⟨_, .ref (He.ga K (Str.ofString x)), He.glo_ok X G q1, rfl, fun F => ?_⟩
      exact .tup (He.tupB_ok q2 F) (show 2 ≤ lim from by decide) (.cons (.int a) (.cons (.int b) .nil))
  · exact He.glo_ok X G (fact _ (List.mem_append_right _ (List.mem_append_left _ (List.mem_map.mpr ⟨v, hv, rfl⟩))))
  · exact map_eq_at c.ini e (List.mem_filter.mpr ⟨he, decide_eq_true hc⟩)
  · exact He.glo_ok X G (List.all_eq_true.mp x3 e he)
  · have := List.all_eq_true.mp (List.all_eq_true.mp x4 x hx) y hy
    rcases Bool.or_eq_true_iff.mp this with z | z
    · rw [Bool.not_eq_true'] at z
      exact absurd q (of_decide_eq_false z)
    · exact of_decide_eq_true z
/-! ### the law's end -/
theorem lawG {P : Program} {w : World} {K : PySem.W.Frag} {mg mb : Str → Option Value} {k : Nat} {f a : Addr} {cs : List (Addr × Addr)} {fd : FuncData} {x : Str} {sp : Sp} {s1 : Shared} {us : List Value} {ns : List Int}
    (kx : K.In s1.heap) (n1 : s1.heap.Ns mainGlobals mg) (n2 : s1.heap.Ns builtinsNs mb) (n3 : ∀ y : Str, y ≠ "__name__" → mb y = bootBuiltins y) (nl : s1.heap.NoLimit) (dg : s1.heap.NoDigits) (sr : s1.heap.NoSeer) (gg : s1.gens = #[])
    (ce : ∀ p ∈ cs, s1.heap.get? p.2 = some { cls := .none, data := .fields #[] }) (co : ∀ p ∈ cs, K.lookup p.2 = none) (ch : ∀ p ∈ cs, PySem.W.CodeHd s1.heap p.1 p.2)
    (bmn : ∃ (bm : Addr) (ob : Obj), mg "__builtins__" = some (.ref bm) ∧ bm ≠ builtinsNs ∧ s1.heap.get? bm = some ob ∧ ob.cls = .type "module" ∧ ob.dict = some builtinsNs ∧ ob.data = .plain)
    (oa : s1.heap.get? a = some { cls := .type "list", data := .seq us.toArray }) (ii : IntsAre us ns) (hl : ns.length ≤ sizeLine) (rm : Room k callerA)
    (F : ∀ base : Heap, K.In base → base.Ns mainGlobals mg → base.NoDigits → base.NoSeer → (∀ p ∈ cs, LamX.TabB base mg p.1 p.2) → FnG P w K mg base (L2.CX P w) k f fd [x] sp) (bn : ∀ (s : Shared) (u : Value), BindsTo s fd ⟨[u], []⟩ [(x, u)])
    (law : ∀ H : Hp, (∀ p ∈ cs, H p.2 = some (.tbl #[])) → SqL K H a (ns.map V.int) → sp [.ref a] H (fun v _ => v = .bl true) fun _ _ _ => False) :
    codeAny (model P w) callerA (.call (.ref f) ⟨[.ref a], []⟩) (fun r s' => r = .ok (.ret (.bool true)) ∧ OldK s1.heap s'.heap ∧ s'.os = s1.os ∧ AllBare s'.gens) s1 := by
  have rv := vals_ints ii
  have lv := ii.length
  have isTab : ∀ {b : Addr}, b ∈ cs.map (·.2) → s1.heap.get? b = some { cls := .none, data := .fields #[] } ∧ K.lookup b = none := fun {b} hb => by
    obtain ⟨p, hp, e⟩ := List.mem_map.mp hb
    subst e
    exact ⟨ce p hp, co p hp⟩
  have inTab : ∀ p ∈ cs, p.2 ∈ cs.map (·.2) := fun p hp => List.mem_map.mpr ⟨p, hp, rfl⟩
  have aT : a ∉ cs.map (·.2) := fun z => by
    have q := (isTab z).1
    rw [oa] at q
    cases q
  have core : ∀ T : Hp, (∀ p ∈ cs, T p.2 = some (.tbl #[])) → (∀ b, T b = none ∨ b ∈ cs.map (·.2) ∨ ∃ o xs, T b = some (.frz o (.lst xs))) → SqL K T a (ns.map V.int) → HOk P w T s1.heap → (∀ b, T b ≠ none → b = a ∨ b ∈ cs.map (·.2)) → (T a ≠ none → K.lookup a = none) →
      codeAny (model P w) callerA (.call (.ref f) ⟨[.ref a], []⟩) (fun r s' => r = .ok (.ret (.bool true)) ∧ OldK s1.heap s'.heap ∧ s'.os = s1.os ∧ AllBare s'.gens) s1 := by
    intro T tT tO tS tk tA tK
    have out : ∀ {b : Addr}, b ≠ a → b ∉ cs.map (·.2) → T b = none := fun {b} n1 n2 => by
      cases q : T b with
      | none => rfl
      | some u =>
        rcases tA b (by rw [q]; simp) with z | z
        · exact absurd z n1
        · exact absurd z n2
    -- an object that is neither the script nor a table
    have get : ∀ {b : Addr} {o : Obj}, s1.heap.get? b = some o → (∀ l n, o.data ≠ .seq l n) → (o.data = .fields #[] → o.cls ≠ .none) → (hidT s1.heap T).get? b = some o := fun {b o} e h1 h2 => by
      refine hidT_get e (out (fun z => ?_) fun z => ?_)
      · rw [z, oa] at e
        cases e
        exact h1 _ _ rfl
      · rw [(isTab z).1] at e
        cases e
        exact h2 rfl rfl
    have kb : K.In (hidT s1.heap T) := fun b o e => by
      refine hidT_get (kx b o e) ?_
      by_cases z : b = a
      · subst z
        cases q : T b with
        | none => rfl
        | some u =>
          rw [tK (by rw [q]; simp)] at e
          cases e
      · exact out z fun y => by
          rw [(isTab y).2] at e
          cases e
    have nk : ∀ {b : Addr} {m : Str → Option Value}, s1.heap.Ns b m → (hidT s1.heap T).Ns b m := fun {b m} ⟨o, es, ep, e, d, r⟩ =>
      ⟨o, es, ep, get e (fun l n z => by rw [d] at z; cases z) (fun z => by rw [d] at z; cases z), d, r⟩
    obtain ⟨mc, l1, l2⟩ := nl
    obtain ⟨md', l3, l4⟩ := dg
    have ns2 : (hidT s1.heap T).NoSeer := by
      obtain ⟨m1, a1, a2⟩ := sr.statics
      obtain ⟨m2, b1, b2⟩ := sr.mods
      obtain ⟨m3, c1, c2⟩ := sr.imp
      obtain ⟨m4, bm, ob, d1, d2, d3, d4, d5⟩ := sr.main
      refine ⟨⟨m1, nk a1, a2⟩, ⟨m2, nk b1, b2⟩, ⟨m3, nk c1, c2⟩, ⟨m4, bm, ob, nk d1, d2, hidT_get d3 (out (fun z => ?_) fun z => ?_), d4, d5⟩⟩
      · rw [z, oa] at d3
        cases d3
        exact absurd d4 (fun z => by injection z with z; exact absurd z (by decide))
      · rw [(isTab z).1] at d3
        cases d3
        cases d4
    have md : Mod K mg (hidT s1.heap T) := ⟨kb, nk n1, ⟨mb, nk n2, n3⟩, ⟨mc, nk l1, l2⟩⟩
    have tabs : ∀ p ∈ cs, LamX.TabB (hidT s1.heap T) mg p.1 p.2 := fun p hp => by
      have te := ce p hp
      have noG : ∀ {b : Addr} {m : Str → Option Value}, s1.heap.Ns b m → b ≠ p.2 := fun {b m} ⟨o, es, ep, e, d, _⟩ z => by
        rw [z, te] at e
        cases e
        cases d
      refine ⟨?_, ?_, noG n1⟩
      · obtain ⟨o, vs, file, tf, flags, tg, inF, text, tt, q1, q2, q3, q4, q5⟩ := ch p hp
        refine ⟨o, vs, file, tf, flags, tg, inF, text, tt, get q1 (fun l n z => by rw [q3] at z; cases z) (fun z => ?_), q2, q3, q4, q5⟩
        rw [q3] at z
        cases z
        simp at q4
      · obtain ⟨bm, ob, b1, b2, b3, b4, b5, b6⟩ := bmn
        refine ⟨bm, ob, b1, b2, fun z => ?_, fun z => ?_, get b3 (fun l n z => by rw [b6] at z; cases z) (fun z => by rw [b6] at z; cases z), b4, b5, b6⟩
        · obtain ⟨o, es, ep, e, d, _⟩ := n1
          rw [← z, b3] at e
          cases e
          rw [b6] at d
          cases d
        · rw [z, te] at b3
          cases b3
          cases b6
    have ev : Env0 P w K mg (hidT s1.heap T) callerA [] s1 T := ⟨rfl, md, fun _ _ e => of_hidT e, Nat.le_of_eq (hidT_size _ _), trivial, fun _ hb => (by cases hb), tk, .of_eq gg⟩
    have go := (F _ kb (nk n1) ⟨md', nk l3, l4⟩ ns2 tabs).go callerA [] s1 T ⟨[.ref a], []⟩ [.ref a] [.ref a] _ _ rfl rm ev (bn s1 (.ref a)) (.cons rfl .nil) (law T tT tS)
    refine codeAny_mono go fun r s' h => ?_
    match r, h with
    | .error e, h =>
      obtain ⟨_, _, _, _, _, _, _, _, _, _, _, _, z⟩ := h
      exact z.elim
    | .ok (.ret u), h =>
      obtain ⟨v, T', os, br, un, ok', rr, q⟩ := h
      have q : v = .bl true := q
      subst q
      have eu : u = Value.bool true := rr
      subst eu
      have same : ∀ b o, b ∉ cs.map (·.2) → s1.heap.get? b = some o → s'.heap.get? b = some o := fun b o nb e => by
        cases q : T b with
        | none => exact un.keep b o e q (fun z => by cases z) (fun z => by cases z)
        | some u =>
          rcases tO b with z | z | ⟨ob, xs, z⟩
          · rw [q] at z
            cases z
          · exact absurd z nb
          · obtain ⟨e1, _⟩ := tk b _ z
            obtain ⟨e2, _⟩ := ok' b _ (un.frzs b ob _ z)
            rw [e] at e1
            cases e1
            exact e2
      have more : ∀ b, b ∈ cs.map (·.2) → ∃ p ∈ cs, p.2 = b ∧ ∃ vs : Array Value, s'.heap.get? b = some { cls := .none, data := .fields vs } := fun b hb => by
        obtain ⟨p, hp, e⟩ := List.mem_map.mp hb
        obtain ⟨m, z⟩ := un.tbls p.2 #[] (tT p hp)
        refine ⟨p, hp, e, #[] ++ m, ?_⟩
        rw [← e]
        exact ok' p.2 _ z
      refine ⟨rfl, ⟨fun b o e => ?_, fun b o e => ?_⟩, os, br⟩
      · by_cases hb : b ∈ cs.map (·.2)
        · obtain ⟨p, hp, ep, vs, hv⟩ := more b hb
          have hb' := (isTab hb).1
          rw [e] at hb'
          cases hb'
          subst ep
          exact .inr (.inl ⟨((ch p hp).tab (ce p hp)).isCodeTable, rfl, #[], vs, rfl, by rw [Array.empty_append]; exact hv⟩)
        · exact .inl (same b o hb e)
      · by_cases hb : b ∈ cs.map (·.2)
        · obtain ⟨_, _, _, vs, hv⟩ := more b hb
          exact ⟨_, hv⟩
        · exact ⟨o, same b o hb e⟩
  -- which addresses are known as the law starts
  let T0 : Hp := fun b => if b ∈ cs.map (·.2) then some (.tbl #[]) else none
  have t0 : ∀ {b : Addr}, b ∈ cs.map (·.2) → T0 b = some (.tbl #[]) := fun {b} hb => if_pos hb
  have t1 : ∀ {b : Addr}, b ∉ cs.map (·.2) → T0 b = none := fun {b} hb => if_neg hb
  have ok0 : HOk P w T0 s1.heap := fun b u z => by
    by_cases hb : b ∈ cs.map (·.2)
    · rw [t0 hb] at z
      cases z
      exact (isTab hb).1
    · rw [t1 hb] at z
      cases z
  cases hk : K.lookup a with
  | some o =>
    have e := kx a o hk
    rw [oa] at e
    cases e
    refine core T0 (fun p hp => t0 (inTab p hp)) (fun b => ?_) (.inr ⟨_, us.toArray, _, hk, rfl, rfl, rfl, by rw [List.size_toArray, lv]; exact hl, by simpa using rv⟩) ok0 (fun b z => ?_) (fun z => absurd (t1 aT) z)
    · by_cases hb : b ∈ cs.map (·.2)
      · exact .inr (.inl hb)
      · exact .inl (t1 hb)
    · by_cases hb : b ∈ cs.map (·.2)
      · exact .inr hb
      · exact absurd (t1 hb) z
  | none =>
    let T1 : Hp := upd T0 a (.frz { cls := .type "list", data := .seq us.toArray } (.lst (ns.map V.int)))
    have other : ∀ {b : Addr}, b ≠ a → T1 b = T0 b := fun {b} h => upd_ne h
    have self : T1 a = some (.frz { cls := .type "list", data := .seq us.toArray } (.lst (ns.map V.int))) := upd_same
    refine core T1 (fun p hp => ?_) (fun b => ?_) (.inl (.inr ⟨{ cls := .type "list", data := .seq us.toArray }, self⟩)) (fun b u z => ?_) (fun b z => ?_) fun _ => hk
    · rw [other (fun z => aT (by rw [← z]; exact inTab p hp))]
      exact t0 (inTab p hp)
    · by_cases q : b = a
      · rw [q]
        exact .inr (.inr ⟨_, _, self⟩)
      · by_cases hb : b ∈ cs.map (·.2)
        · exact .inr (.inl hb)
        · exact .inl ((other q).trans (t1 hb))
    · by_cases q : b = a
      · subst q
        rw [self] at z
        cases z
        exact ⟨oa, by rw [List.length_map]; exact hl, us, _, rv, oa⟩
      · rw [other q] at z
        by_cases hb : b ∈ cs.map (·.2)
        · rw [t0 hb] at z
          cases z
          exact (isTab hb).1
        · rw [t1 hb] at z
          cases z
    · by_cases q : b = a
      · exact .inl q
      · rw [other q] at z
        by_cases hb : b ∈ cs.map (·.2)
        · exact .inr hb
        · exact absurd (t1 hb) z
theorem ints_rep2 {K : PySem.W.Frag} {ad : Nat → Option Addr} {F : Hp} : ∀ ns : List Int, RepA K ad F (ns.map PV.int) (ns.map V.int)
  | [] => .nil
  | n :: ns => .cons (.int n) (ints_rep2 ns)
/-- the law's promise from the evaluator's answer -/
theorem sp_of {K : PySem.W.Frag} {ad : Nat → Option Addr} {m : List SV → M SV} {H : Hp} {a : Addr} {ns : List Int} (ht : ∀ i P, i < lamNames.length → ad (10000 + i) = some P → H P = some (.tbl #[])) (hs : SqL K H a (ns.map V.int)) (hl : ns.length ≤ lim) (hm : m [.d (.fz (ns.map .int))] [] = some (.ok (.d (.bl true)) [])) :
    spF K ad false m [.ref a] H (fun v _ => v = .bl true) fun _ _ _ => False := by
  let F : Hp := fun b => match H b with
    | some (.tbl _) => none
    | o => o
  have fk : ∀ {b : Addr} {u : HO}, H b = some u → (∀ ps, u ≠ .tbl ps) → F b = some u := fun {b u} e n => by
    show (match H b with
      | some (.tbl _) => none
      | o => o) = _
    rw [e]
    cases u <;> first
      | rfl
      | exact absurd rfl (n _)
  have fo : ∀ (b : Addr) (u : HO), F b = some u → H b = some u := fun b u e => by
    have e : (match H b with
      | some (.tbl _) => none
      | o => o) = some u := e
    split at e
    · cases e
    · exact e
  have sF : SqL K F a (ns.map V.int) := by
    rcases hs with (h | ⟨o, h⟩) | h
    · exact .inl (.inl (fk h fun ps z => by cases z))
    · exact .inl (.inr ⟨o, fk h fun ps z => by cases z⟩)
    · exact .inr h
  refine ⟨⟨F, [], []⟩, [.d (.fz (ns.map .int))], [], ⟨fo, rfl, fun l c as h _ => by simp at h, by simp, fun a ha => by simp at ha, fun q hq => by simp at hq, fun b ps z => ?_, fun q hq => by simp at hq, fun i P hi hP => .nil (ht i P hi hP)⟩, .cons (.fz sF (by rw [List.length_map]; exact hl) (ints_rep2 ns)) .nil, ?_⟩
  · have z : (match H b with
      | some (.tbl _) => none
      | o => o) = some (.tbl ps) := z
    split at z
    · cases z
    · rename_i o n
      exact n ps z
  · rw [hm]
    intro g' H' w _ _ r
    have r : Rep K ad g'.F (.bl true) w := r
    cases r
    rfl
end Fo
end -- FoTop2

section -- FoNum
set_option Elab.async false
set_option linter.all false
set_option maxRecDepth 100000
set_option maxHeartbeats 1000000
/-! FoNum: runs of the evaluator: laws; fractions; the loop of the common divisor. -/
namespace Fo
open PySem
/-! ### pure runs -/
section
variable {α β γ : Type}
theorem bnd_bnd (m : M α) (f : α → M β) (k : β → M γ) : bnd (bnd m f) k = bnd m fun a => bnd (f a) k := by
  funext st
  unfold bnd
  cases m st with
  | none => rfl
  | some r => cases r <;> rfl
theorem rd_d (v : PV) : rd (.d v) = ok v := by rfl
theorem ofO_some (a : α) : ofO (some a) = ok a := by rfl
theorem asD_d (v : PV) : asD (.d v) = ok v := by rfl
theorem asI_int (i : Int) : asI (.d (.int i)) = ok i := by rfl
theorem asB_bl (b : Bool) : asB (.d (.bl b)) = ok b := by rfl
theorem op2_d (o : Op2) (x y : PV) : op2 o (.d x) (.d y) = ofO (op2v o x y) := by rfl
theorem cmp2_d (o : Cm) (x y : PV) : cmp2 o (.d x) (.d y) = ofO (cmpv o x y) := by rfl
theorem ix2_d (x y : PV) : ix2 (.d x) (.d y) = ofO (ixv x y) := by rfl
theorem biOf1 (b : Bi) (x : PV) : biOf b [.d x] = ofO (biv b [x]) := by rfl
theorem biOf2 (b : Bi) (x y : PV) : biOf b [.d x, .d y] = ofO (biv b [x, y]) := by rfl
theorem ite_ok {c : Prop} [Decidable c] (a b : α) : (if c then ok a else ok b) = ok (if c then a else b) := by
  split <;> rfl
theorem run_rt {cl : Cl} {fn : Fn} {args : List SV} {v : PV} (hl : args.length = fn.np) (h : evSs cl fn.body (args.map some ++ List.replicate (fn.N.length - args.length) none) = ok (.rt (.d v))) : run cl fn args = ok (.d v) := by
  funext st
  unfold run
  rw [if_pos hl, h]
  show some (Res.ok (SV.d v) (st.take st.length)) = some (.ok (.d v) st)
  rw [List.take_length]
theorem run_nx {cl : Cl} {fn : Fn} {args : List SV} {sl : Slots} (hl : args.length = fn.np) (h : evSs cl fn.body (args.map some ++ List.replicate (fn.N.length - args.length) none) = ok (.nx sl)) : run cl fn args = ok (.d .non) := by
  funext st
  unfold run
  rw [if_pos hl, h]
  show some (Res.ok (SV.d .non) (st.take st.length)) = some (.ok (.d .non) st)
  rw [List.take_length]
theorem callF_at {tbl : Nat → Option Fn} {n f : Nat} {fn : Fn} {args : List SV} (h : tbl f = some fn) : callF tbl (n + 1) f args = run (callF tbl n) fn args := by
  show (match tbl f with
    | some fn => run (callF tbl n) fn args
    | none => stk) = _
  rw [h]
end
/-! ### sizes -/
/-- bits of whatever numbers come -/
def big : Nat := 40000000
theorem log2_lt {n k : Nat} (h : n < 2 ^ k) (hk : 0 < k) : n.log2 < k := by
  by_cases z : n = 0
  · subst z
    have : Nat.log2 0 = 0 := by decide
    omega
  · exact (Nat.log2_lt z).mpr h
theorem mulOk_of {i j : Int} {k l : Nat} (h1 : i.natAbs < 2 ^ k) (h2 : j.natAbs < 2 ^ l) (h : k + l ≤ 100000000) : mulOk i j = true := by
  unfold mulOk
  refine decide_eq_true ?_
  have e1 : i.natAbs.log2 ≤ k := by
    rcases Nat.eq_zero_or_pos k with z | z
    · subst z
      have : i.natAbs = 0 := by omega
      rw [this]
      decide
    · exact Nat.le_of_lt (log2_lt h1 z)
  have e2 : j.natAbs.log2 < l ∨ j.natAbs = 0 := by
    rcases Nat.eq_zero_or_pos l with z | z
    · subst z
      right
      omega
    · exact .inl (log2_lt h2 z)
  rcases e2 with e2 | e2
  · omega
  · have e3 : j.natAbs.log2 = 0 := by rw [e2]; decide
    have e4 : k = 0 → i.natAbs.log2 = 0 := fun z => by
      subst z
      have : i.natAbs = 0 := by omega
      rw [this]
      decide
    rcases Nat.eq_zero_or_pos k with z | z
    · rw [e4 z, e3]; decide
    · have := log2_lt h1 z
      omega
/-! ### the loop of the common divisor -/
def iv (n : Nat) : Option SV := some (.d (.int n))
def st2 (sl : Slots) (i j : Nat) (a b : Nat) : Slots := (sl.set i (iv a)).set j (iv b)
theorem st2_i {sl : Slots} {i j a b : Nat} (hi : i < sl.length) (hj : j < sl.length) (ne : i ≠ j) : (st2 sl i j a b)[i]? = some (iv a) := by
  unfold st2
  rw [List.getElem?_set_ne (Ne.symm ne), List.getElem?_set_self hi]
theorem st2_j {sl : Slots} {i j a b : Nat} (hj : j < sl.length) : (st2 sl i j a b)[j]? = some (iv b) := by
  unfold st2
  rw [List.getElem?_set_self (by rw [List.length_set]; exact hj)]
theorem st2_set {sl : Slots} {i j a b c d : Nat} (ne : i ≠ j) : ((st2 sl i j a b).set i (iv c)).set j (iv d) = st2 sl i j c d := by
  unfold st2
  rw [List.set_comm _ _ (Ne.symm ne), List.set_set, List.set_set]
def gcdT (j : Nat) : E := .cmp .gt (.slot j) (.int 0)
def gcdB (i j : Nat) : Ss := .cons (.par i j (.slot j) (.bin .mod (.slot i) (.slot j))) .nil
theorem fmod_nat (a b : Nat) : Int.fmod (a : Int) (b : Int) = ((a % b : Nat) : Int) := by
  rw [Int.fmod_eq_emod_of_nonneg _ (Int.natCast_nonneg b)]
  rfl
theorem gcd_t {cl : Cl} {sl : Slots} {i j a b : Nat} (hi : i < sl.length) (hj : j < sl.length) (ne : i ≠ j) : bnd (evE cl (gcdT j) (st2 sl i j a b)) asB = ok (decide (0 < b)) := by
  unfold gcdT
  simp only [evE, st2_j hj, iv, ok_bnd, cmp2_d, cmpv, ofO_some, asB_bl]
  congr 1
  exact decide_eq_decide.mpr (by omega)
theorem gcd_b {cl : Cl} {sl : Slots} {i j a b : Nat} (hi : i < sl.length) (hj : j < sl.length) (ne : i ≠ j) (hb : 0 < b) : evSs cl (gcdB i j) (st2 sl i j a b) = ok (.nx (st2 sl i j b (a % b))) := by
  unfold gcdB
  have hb' : (b : Int) ≠ 0 := by omega
  simp only [evSs, evS, evE, st2_i hi hj ne, st2_j hj, iv, ok_bnd, op2_d, op2v, if_pos hb', ofO_some, fmod_nat]
  have := st2_set (sl := sl) (a := a) (b := b) (c := b) (d := a % b) ne
  simp only [iv] at this
  rw [this]
theorem gcd_go {cl : Cl} {sl : Slots} {i j : Nat} (hi : i < sl.length) (hj : j < sl.length) (ne : i ≠ j) : ∀ (k n a b : Nat), 2 * k + 1 ≤ n → b < 2 ^ k →
    whlGo (fun s => bnd (evE cl (gcdT j) s) asB) (evSs cl (gcdB i j)) n (st2 sl i j a b) = ok (.nx (st2 sl i j (Nat.gcd a b) 0)) := by
  have stop : ∀ n a, 1 ≤ n → whlGo (fun s => bnd (evE cl (gcdT j) s) asB) (evSs cl (gcdB i j)) n (st2 sl i j a 0) = ok (.nx (st2 sl i j a 0)) := by
    intro n a hn
    obtain ⟨m, rfl⟩ : ∃ m, n = m + 1 := ⟨n - 1, by omega⟩
    unfold whlGo
    rw [gcd_t hi hj ne]
    rfl
  have step : ∀ n a b, 0 < b → whlGo (fun s => bnd (evE cl (gcdT j) s) asB) (evSs cl (gcdB i j)) (n + 1) (st2 sl i j a b) = whlGo (fun s => bnd (evE cl (gcdT j) s) asB) (evSs cl (gcdB i j)) n (st2 sl i j b (a % b)) := by
    intro n a b hb
    rw [whlGo]
    rw [gcd_t hi hj ne, decide_eq_true hb]
    show bnd (evSs cl (gcdB i j) (st2 sl i j a b)) _ = _
    rw [gcd_b hi hj ne hb]
    rfl
  intro k
  induction k with
  | zero =>
    intro n a b hn hb
    have : b = 0 := by omega
    subst this
    rw [Nat.gcd_zero_right]
    exact stop n a (by omega)
  | succ k ih =>
    intro n a b hn hb
    by_cases b0 : b = 0
    · subst b0
      rw [Nat.gcd_zero_right]
      exact stop n a (by omega)
    · have hbp : 0 < b := Nat.pos_of_ne_zero b0
      obtain ⟨m, rfl⟩ : ∃ m, n = m + 2 := ⟨n - 2, by omega⟩
      rw [step (m + 1) a b hbp]
      have g1 : Nat.gcd a b = Nat.gcd b (a % b) := by rw [Nat.gcd_comm a b, Nat.gcd_rec b a, Nat.gcd_comm]
      rw [g1]
      have hr : a % b < b := Nat.mod_lt a hbp
      by_cases r0 : a % b = 0
      · rw [r0, Nat.gcd_zero_right]
        exact stop (m + 1) b (by omega)
      · have hrp : 0 < a % b := Nat.pos_of_ne_zero r0
        rw [step m b (a % b) hrp]
        have g2 : Nat.gcd b (a % b) = Nat.gcd (a % b) (b % (a % b)) := by rw [Nat.gcd_comm b, Nat.gcd_rec (a % b) b, Nat.gcd_comm]
        rw [g2]
        refine ih m (a % b) (b % (a % b)) (by omega) ?_
        generalize a % b = r at hr hrp
        have h1 : b % r < r := Nat.mod_lt b hrp
        have h2 : b % r + r ≤ b := by
          have e := Nat.div_add_mod b r
          have q : 1 ≤ b / r := (Nat.one_le_div_iff hrp).mpr (Nat.le_of_lt hr)
          have : r ≤ r * (b / r) := Nat.le_mul_of_pos_right r q
          omega
        rw [Nat.pow_succ] at hb
        omega
theorem fuel_big {k : Nat} (h : k ≤ 1000000000) : 2 * k + 1 ≤ fuel := by
  have : (2000000001 : Nat) ≤ fuel := by unfold fuel; decide +kernel
  omega
theorem gcd_loop {cl : Cl} {sl : Slots} {i j a b : Nat} (hi : i < sl.length) (hj : j < sl.length) (ne : i ≠ j) {k : Nat} (hk : k ≤ 1000000000) (hb : b < 2 ^ k) :
    evS cl (.whl (gcdT j) (gcdB i j)) (st2 sl i j a b) = ok (.nx (st2 sl i j (Nat.gcd a b) 0)) := by
  rw [evS]
  exact gcd_go hi hj ne k fuel a b (fuel_big hk) hb
/-! ### fractions -/
def fr (q : Rat) : PV := .tup [.int q.num, .int q.den]
theorem abs_nat (i : Int) : (if i < 0 then -i else i) = (i.natAbs : Int) := by
  split <;> omega
/-- both numbers below 2^k -/
def Sz (k : Nat) (q : Rat) : Prop := q.num.natAbs < 2 ^ k ∧ q.den < 2 ^ k
theorem Sz.mono {k l : Nat} {q : Rat} (h : Sz k q) (hl : k ≤ l) : Sz l q := ⟨Nat.lt_of_lt_of_le h.1 (Nat.pow_le_pow_right (by decide) hl), Nat.lt_of_lt_of_le h.2 (Nat.pow_le_pow_right (by decide) hl)⟩
theorem div_le (a b : Nat) : a / b ≤ a := Nat.div_le_self a b
theorem sz_divInt {k : Nat} {t b : Int} (h1 : t.natAbs < 2 ^ k) (h2 : b.natAbs < 2 ^ k) (hk : 0 < k) : Sz k (Rat.divInt t b) := by
  refine ⟨?_, ?_⟩
  · rw [Rat.num_divInt]
    refine Nat.lt_of_le_of_lt ?_ h1
    have e : (b.sign * t / (b.gcd t : Int)).natAbs ≤ (b.sign * t).natAbs := by
      rw [Int.natAbs_ediv_of_dvd]
      · exact Nat.div_le_self _ _
      · exact Int.dvd_mul_of_dvd_right (Int.gcd_dvd_right b t)
    refine Nat.le_trans e ?_
    rw [Int.natAbs_mul]
    have : b.sign.natAbs ≤ 1 := by
      rcases Int.lt_trichotomy b 0 with z | z | z
      · rw [Int.sign_eq_neg_one_of_neg z]; decide
      · rw [z]; decide
      · rw [Int.sign_eq_one_of_pos z]; decide
    calc b.sign.natAbs * t.natAbs ≤ 1 * t.natAbs := Nat.mul_le_mul_right _ this
      _ = t.natAbs := Nat.one_mul _
  · rw [Rat.den_divInt]
    split
    · exact Nat.one_lt_two_pow (by omega)
    · exact Nat.lt_of_le_of_lt (Nat.div_le_self _ _) h2
theorem natAbs_mul_lt {i j : Int} {k l : Nat} (h1 : i.natAbs < 2 ^ k) (h2 : j.natAbs < 2 ^ l) : (i * j).natAbs < 2 ^ (k + l) := by
  rw [Int.natAbs_mul, Nat.pow_add]
  rcases Nat.eq_zero_or_pos j.natAbs with z | z
  · rw [z, Nat.mul_zero]
    exact Nat.mul_pos (Nat.two_pow_pos k) (Nat.two_pow_pos l)
  · exact Nat.lt_of_lt_of_le (Nat.mul_lt_mul_of_pos_right h1 z) (Nat.mul_le_mul_left _ (Nat.le_of_lt h2))
theorem natAbs_add_lt {i j : Int} {k : Nat} (h1 : i.natAbs < 2 ^ k) (h2 : j.natAbs < 2 ^ k) : (i + j).natAbs < 2 ^ (k + 1) := by
  have := Int.natAbs_add_le i j
  rw [Nat.pow_succ]
  omega
theorem add_divInt (p q : Rat) : p + q = Rat.divInt (p.num * q.den + q.num * p.den) (p.den * q.den) := by
  rw [Rat.add_def', ← Rat.divInt_ofNat]
  rfl
theorem mul_divInt (p q : Rat) : p * q = Rat.divInt (p.num * q.num) (p.den * q.den) := by
  rw [Rat.mul_def', ← Rat.divInt_ofNat]
  rfl
theorem div_divInt (p q : Rat) : p / q = Rat.divInt (p.num * q.den) (p.den * q.num) := by
  rw [Rat.div_def]
  conv => lhs; rw [← Rat.num_divInt_den p, Rat.inv_def, Rat.divInt_mul_divInt]
theorem Sz.pos {k : Nat} {q : Rat} (h : Sz k q) : 0 < k := by
  rcases Nat.eq_zero_or_pos k with z | z
  · subst z
    have := h.2
    have := q.den_pos
    omega
  · exact z
theorem den_abs (q : Rat) : ((q.den : Int)).natAbs = q.den := rfl
theorem Sz.add {k l : Nat} {p q : Rat} (hp : Sz k p) (hq : Sz l q) : Sz (k + l + 1) (p + q) := by
  rw [add_divInt]
  refine sz_divInt (natAbs_add_lt ?_ ?_) ?_ (by omega)
  · exact natAbs_mul_lt hp.1 hq.2
  · rw [Nat.add_comm]; exact natAbs_mul_lt hq.1 hp.2
  · exact Nat.lt_of_lt_of_le (natAbs_mul_lt hp.2 hq.2) (Nat.pow_le_pow_right (by decide) (by omega))
theorem Sz.mul {k l : Nat} {p q : Rat} (hp : Sz k p) (hq : Sz l q) : Sz (k + l) (p * q) := by
  rw [mul_divInt]
  have := hp.pos
  exact sz_divInt (natAbs_mul_lt hp.1 hq.1) (natAbs_mul_lt hp.2 hq.2) (by omega)
theorem Sz.div {k l : Nat} {p q : Rat} (hp : Sz k p) (hq : Sz l q) : Sz (k + l) (p / q) := by
  rw [div_divInt]
  have := hp.pos
  exact sz_divInt (natAbs_mul_lt hp.1 hq.2) (natAbs_mul_lt hp.2 hq.1) (by omega)
theorem Sz.neg {k : Nat} {p : Rat} (hp : Sz k p) : Sz k (-p) := by
  refine ⟨?_, hp.2⟩
  rw [Rat.neg_num, Int.natAbs_neg]
  exact hp.1
end Fo
end -- FoNum

section -- FoNum2
set_option Elab.async false
set_option linter.all false
set_option maxRecDepth 100000
set_option maxHeartbeats 1000000
/-! FoNum2: facts for the fractions' defs. -/
namespace Fo
open PySem
theorem at0 {a b : PV} : L2.atI [a, b] 0 = some a := by rfl
theorem at1 {a b : PV} : L2.atI [a, b] 1 = some b := by rfl
theorem pyl_of {i j : Int} (h : i.natAbs < 2 ^ 13000) : Builtin.divisionGoesByPylong i j = false := by
  have e : i.natAbs.log2 < 13000 := log2_lt h (by decide)
  have d1 : (if (i == 0) = true then 0 else i.natAbs.log2 / 30 + 1) ≤ 434 := by
    split <;> omega
  have key : ∀ x y : Nat, x ≤ 434 → (decide (y > 300) && decide (x > y + 150)) = false := fun x y hx => by
    rw [Bool.and_eq_false_iff]
    by_cases c : y > 300
    · exact .inr (decide_eq_false (by omega))
    · exact .inl (decide_eq_false c)
  exact key _ _ d1
theorem fdiv_gcd {t b : Int} (g : Nat) : Int.fdiv t (g : Int) = t / (g : Int) := Int.fdiv_eq_ediv_of_nonneg _ (Int.natCast_nonneg g)
/-- the lowest terms -/
theorem low_pos {t b : Int} (hb : 0 < b) : fr (Rat.divInt t b) = .tup [.int (t / (Int.gcd t b : Int)), .int (b / (Int.gcd t b : Int))] := by
  unfold fr
  have h0 : b ≠ 0 := by omega
  rw [Rat.num_divInt, Rat.den_divInt, if_neg h0, Int.sign_eq_one_of_pos hb, Int.one_mul, Int.gcd_comm b t]
  have e : ((b.natAbs / Int.gcd t b : Nat) : Int) = b / (Int.gcd t b : Int) := by
    rw [Int.natCast_ediv]
    congr 1
    omega
  rw [e]
theorem low_neg {t b : Int} (hb : b < 0) : fr (Rat.divInt t b) = .tup [.int ((0 - t) / (Int.gcd t b : Int)), .int ((0 - b) / (Int.gcd t b : Int))] := by
  unfold fr
  have h0 : b ≠ 0 := by omega
  rw [Rat.num_divInt, Rat.den_divInt, if_neg h0, Int.sign_eq_neg_one_of_neg hb, Int.gcd_comm b t]
  have e : ((b.natAbs / Int.gcd t b : Nat) : Int) = (0 - b) / (Int.gcd t b : Int) := by
    rw [Int.natCast_ediv]
    congr 1
    omega
  rw [e]
  have e2 : -1 * t = 0 - t := by omega
  rw [e2]
theorem gcd_pos' {t b : Int} (hb : b ≠ 0) : (0 : Int) < (Int.gcd t b : Int) := by
  have := Int.gcd_pos_of_ne_zero_right t hb
  omega
theorem gcd_abs (t b : Int) : Nat.gcd t.natAbs b.natAbs = Int.gcd t b := rfl
theorem fr_den_pos (q : Rat) : (1 : Int) ≤ (q.den : Int) := by
  have := q.den_pos
  omega
theorem fr_gcd (q : Rat) : Int.gcd q.num (q.den : Int) = 1 := q.reduced
theorem one_divInt (p : Rat) (h : p.den = 1) : p = Rat.divInt p.num 1 := by
  conv => lhs; rw [← Rat.num_divInt_den p, h]
  rfl
theorem add_ones {p q : Rat} (hp : p.den = 1) (hq : q.den = 1) : fr (p + q) = .tup [.int (p.num + q.num), .int 1] := by
  have e : p + q = ((p.num + q.num : Int) : Rat) := by
    rw [Rat.add_def', hp, hq]
    simp [Rat.mkRat_def, Rat.normalize_eq]
  rw [e]
  rfl
theorem mul_ones {p q : Rat} (hp : p.den = 1) (hq : q.den = 1) : fr (p * q) = .tup [.int (p.num * q.num), .int 1] := by
  have e : p * q = ((p.num * q.num : Int) : Rat) := by
    rw [Rat.mul_def', hp, hq]
    simp [Rat.mkRat_def, Rat.normalize_eq]
  rw [e]
  rfl
theorem eqv_int (i j : Int) : eqv (.int i) (.int j) = some (decide (i = j)) := by
  show eqvD (.int i) (.int j) = _
  unfold eqvD
  simp only [PV.dat]
  have s : ∀ i : Int, SeqAt.shaped (.int i) = true := fun i => by rfl
  rw [if_pos ⟨s i, s j⟩]
  simp only [PyData.eqv]
  first
    | rfl
    | (congr 1; exact Bool.eq_iff_iff.mpr (by simp))
end Fo
namespace Fo
open PySem
theorem fr_zero : fr 0 = .tup [.int 0, .int 1] := rfl
theorem fr_one : fr 1 = .tup [.int 1, .int 1] := rfl
theorem dat_fr (q : Rat) : (fr q).dat = some (.tuple [.int q.num, .int q.den]) := rfl
theorem shaped_fr (q : Rat) : SeqAt.shaped (.tuple [.int q.num, .int q.den]) = true := by rfl
theorem eqv_fr (p q : Rat) : eqv (fr p) (fr q) = some (decide (p = q)) := by
  show eqvD (fr p) (fr q) = _
  unfold eqvD
  rw [dat_fr, dat_fr]
  dsimp only
  rw [if_pos ⟨shaped_fr p, shaped_fr q⟩]
  congr 1
  rw [Bool.eq_iff_iff, decide_eq_true_iff]
  simp only [PyData.eqv, PyData.eqvAll, Bool.and_true, Bool.and_eq_true, beq_iff_eq]
  constructor
  · rintro ⟨h1, h2⟩
    exact Rat.ext h1 (by omega)
  · intro h
    subst h
    exact ⟨rfl, rfl⟩
theorem rng_nat {c : Nat} (h : c ≤ 1000000) : rngOf 0 (c : Int) = some ((List.range c).map fun k => .int (0 + (k : Nat))) := by
  unfold rngOf
  have e1 : (-(2 ^ 62) ≤ (0 : Int)) := by decide
  have e2 : ((0 : Int) < 2 ^ 62) := by decide
  have e3 : (1000000 : Int) < 2 ^ 62 := by decide
  have e4 : -(2 ^ 62) ≤ (c : Int) := Int.le_trans e1 (Int.natCast_nonneg c)
  have e5 : (c : Int) < 2 ^ 62 := Int.lt_of_le_of_lt (by omega) e3
  rw [if_pos ⟨e1, e2, e4, e5⟩]
  rfl
end Fo
end -- FoNum2

section -- FoEv
set_option Elab.async false
set_option linter.all false
set_option maxRecDepth 100000
set_option maxHeartbeats 1000000
/-! FoEv: the evaluator's steps, by name. -/
namespace Fo
open PySem
section
variable {cl : Cl} {sl : Slots} {a b c t : E} {es : Es} {i : Nat} {o o' : Cm}
theorem e_slot : evE cl (.slot i) sl = (match sl[i]? with
    | some (some (.d v)) => ok (.d v)
    | some (some (.r l)) => ok (.r l)
    | _ => stk) := by rw [evE] <;> rfl
theorem e_slotD {v : PV} (h : sl[i]? = some (some (.d v))) : evE cl (.slot i) sl = ok (.d v) := by rw [evE, h]
theorem e_slotR {l : Nat} (h : sl[i]? = some (some (.r l))) : evE cl (.slot i) sl = ok (.r l) := by rw [evE, h]
theorem e_non : evE cl .non sl = ok (.d .non) := by rw [evE]
theorem e_bl {b : Bool} : evE cl (.bl b) sl = ok (.d (.bl b)) := by rw [evE]
theorem e_int {i : Int} : evE cl (.int i) sl = ok (.d (.int i)) := by rw [evE]
theorem e_str {x : String} : evE cl (.str x) sl = ok (.d (.str (Str.ofString x))) := by rw [evE]
theorem e_glob {x : String} {c : GC} : evE cl (.glob x c) sl = ok (.d c.val) := by rw [evE]
theorem e_fnv {f : Nat} : evE cl (.fnv f) sl = ok (.d (.fn f)) := by rw [evE]
theorem e_tup : evE cl (.tup es) sl = bnd (evs cl es sl) fun vs => bnd (dAll vs) fun xs => ok (.d (.tup xs)) := by rw [evE]
theorem e_lst : evE cl (.lst es) sl = bnd (evs cl es sl) fun vs => bnd (dAll vs) fun xs => ok (.d (.lst xs)) := by rw [evE]
theorem e_bin {o : Op2} : evE cl (.bin o a b) sl = bnd (evE cl a sl) fun x => bnd (evE cl b sl) fun y => bnd (op2 o x y) fun z => ok (.d z) := by rw [evE]
theorem e_neg : evE cl (.neg a) sl = bnd (evE cl a sl) fun x => bnd (asI x) fun i => ok (.d (.int (-i))) := by rw [evE]
theorem e_not : evE cl (.not a) sl = bnd (evE cl a sl) fun x => bnd (asB x) fun b => ok (.d (.bl (!b))) := by rw [evE]
theorem e_cmp : evE cl (.cmp o a b) sl = bnd (evE cl a sl) fun x => bnd (evE cl b sl) fun y => bnd (cmp2 o x y) fun b => ok (.d (.bl b)) := by rw [evE]
theorem e_chain : evE cl (.chain o o' a b c) sl = bnd (evE cl a sl) fun x => bnd (evE cl b sl) fun y => bnd (cmp2 o x y) fun k =>
      if k then bnd (evE cl c sl) fun z => bnd (cmp2 o' y z) fun k' => ok (.d (.bl k')) else ok (.d (.bl false)) := by rw [evE]
theorem e_and : evE cl (.and a b) sl = bnd (evE cl a sl) fun x => bnd (asB x) fun k => if k then evE cl b sl else ok (.d (.bl false)) := by rw [evE]
theorem e_or : evE cl (.or a b) sl = bnd (evE cl a sl) fun x => bnd (asB x) fun k => if k then ok (.d (.bl true)) else evE cl b sl := by rw [evE]
theorem e_one : evE cl (.one a) sl = evE cl a sl := by rw [evE]
theorem e_ifx : evE cl (.ifx t a b) sl = bnd (evE cl t sl) fun x => bnd (asB x) fun k => if k then evE cl a sl else evE cl b sl := by rw [evE]
theorem e_ix : evE cl (.ix a b) sl = bnd (evE cl a sl) fun x => bnd (evE cl b sl) fun y => bnd (ix2 x y) fun z => ok (.d z) := by rw [evE]
theorem e_cut {lo hi : Oe} : evE cl (.cut a lo hi) sl = bnd (evE cl a sl) fun x => bnd (evO cl lo sl) fun l => bnd (evO cl hi sl) fun h => bnd (rd x) fun v => bnd (ofO (cutv l h v)) fun z => ok (.d z) := by rw [evE]
theorem e_rev : evE cl (.rev a) sl = bnd (evE cl a sl) fun x => bnd (rd x) fun v => bnd (ofO (revv v)) fun z => ok (.d z) := by rw [evE]
theorem e_call {f : Nat} {ds : List Int} : evE cl (.call f es ds) sl = bnd (evs cl es sl) fun vs => cl f (vs ++ ds.map fun i => .d (.int i)) := by rw [evE]
theorem e_bi {b : Bi} : evE cl (.bi b es) sl = bnd (evs cl es sl) fun vs => bnd (biOf b vs) fun z => ok (.d z) := by rw [evE]
theorem e_isi {t : Ty} : evE cl (.isi a t) sl = bnd (evE cl a sl) fun x => bnd (asD x) fun v => bnd (ofO (tyOk t v)) fun b => ok (.d (.bl b)) := by rw [evE]
theorem a_nil : evs cl .nil sl = ok [] := by rw [evs]
theorem a_cons {e : E} : evs cl (.cons e es) sl = bnd (evE cl e sl) fun v => bnd (evs cl es sl) fun vs => ok (v :: vs) := by rw [evs]
theorem o_no : evO cl .no sl = ok none := by rw [evO]
theorem o_ye {e : E} : evO cl (.ye e) sl = bnd (evE cl e sl) fun x => bnd (asI x) fun i => ok (some i) := by rw [evO]
theorem w_r1 : evW cl (.rng1 a) sl = bnd (evE cl a sl) fun x => bnd (asI x) fun j => ofO (rngOf 0 j) := by rw [evW]
theorem w_r2 : evW cl (.rng2 a b) sl = bnd (evE cl a sl) fun x => bnd (evE cl b sl) fun y => bnd (asI x) fun i => bnd (asI y) fun j => ofO (rngOf i j) := by rw [evW]
theorem w_ov : evW cl (.over a) sl = bnd (evE cl a sl) fun x => bnd (asD x) fun v => ofO (items v) := by rw [evW]
theorem d_nil : dAll [] = ok [] := by rw [dAll]
theorem d_cons {v : PV} {vs : List SV} : dAll (.d v :: vs) = bnd (dAll vs) fun xs => ok (v :: xs) := by rw [dAll]
variable {ss ss1 ss2 : Ss} {s : S} {e f g : E} {j l : Nat}
theorem q_nil : evSs cl .nil sl = ok (.nx sl) := by rw [evSs]
theorem q_cons : evSs cl (.cons s ss) sl = bnd (evS cl s sl) fun o => match o with
    | .nx s' => evSs cl ss s'
    | o => ok o := by rw [evSs] <;> rfl
theorem q_set : evS cl (.set i e) sl = bnd (evE cl e sl) fun v => ok (.nx (sl.set i (some v))) := by rw [evS]
theorem q_par : evS cl (.par i j e f) sl = bnd (evE cl e sl) fun x => bnd (evE cl f sl) fun y => ok (.nx ((sl.set i (some x)).set j (some y))) := by rw [evS]
theorem q_par3 : evS cl (.par3 i j l e f g) sl = bnd (evE cl e sl) fun x => bnd (evE cl f sl) fun y => bnd (evE cl g sl) fun z => ok (.nx (((sl.set i (some x)).set j (some y)).set l (some z))) := by rw [evS]
theorem q_unp {is : List Nat} : evS cl (.unp is e) sl = bnd (evE cl e sl) fun x => bnd (asD x) fun v => bnd (ofO (bindT (.t is) v sl)) fun s => ok (.nx s) := by rw [evS]
theorem q_ifs : evS cl (.ifs t ss1 ss2) sl = bnd (evE cl t sl) fun x => bnd (asB x) fun k => if k then evSs cl ss1 sl else evSs cl ss2 sl := by rw [evS]
theorem q_ret : evS cl (.ret e) sl = bnd (evE cl e sl) fun v => ok (.rt v) := by rw [evS]
theorem q_ex : evS cl (.ex e) sl = bnd (evE cl e sl) fun _ => ok (.nx sl) := by rw [evS]
theorem q_for {tg : Tg} {w : W} : evS cl (.for tg w ss) sl = bnd (evW cl w sl) fun xs => forGo tg (evSs cl ss) xs sl := by rw [evS]
theorem q_seti : evS cl (.seti a b e) sl = bnd (evE cl e sl) fun x => bnd (asD x) fun v => bnd (evE cl a sl) fun o => bnd (evE cl b sl) fun y => bnd (asI y) fun i => match o with
    | .r l => bnd (cellSet l fun xs => (L2.ixN xs.length i).map fun j => xs.set j v) fun _ => ok (.nx sl)
    | _ => stk := by rw [evS] <;> rfl
def natL (c : Nat) : List PV := (List.range c).map fun k => .int (0 + (k : Nat))
theorem natL_len (c : Nat) : (natL c).length = c := by unfold natL; rw [List.length_map, List.length_range]
theorem w_rng {c : Nat} (h : c ≤ 1000000) (ha : evE cl a sl = ok (.d (.int c))) : evW cl (.rng1 a) sl = ok (natL c) := by
  rw [w_r1, ha, ok_bnd, asI_int, ok_bnd, rng_nat h]
  rfl
/-- a list by one term, all taken -/
theorem e_lcm {w : W} {tg : Tg} {xs : List PV} {sf : PV → Slots} {f : PV → PV} (hw : evW cl w sl = ok xs) (hl : xs.length ≤ lim) (hb : ∀ x ∈ xs, bindT tg x sl = some (sf x)) (he : ∀ x ∈ xs, evE cl e (sf x) = ok (.d (f x))) :
    evE cl (.lc w tg .no e) sl = ok (.d (.lst (xs.map f))) := by
  have key : ∀ (ys acc : List PV), (∀ y ∈ ys, y ∈ xs) → lcGo sl tg (evC cl .no) (fun s => bnd (evE cl e s) asD) ys acc = ok (acc ++ ys.map f) := by
    intro ys
    induction ys with
    | nil => intro acc _; rw [lcGo, List.map_nil, List.append_nil]
    | cons y ys ih =>
      intro acc hy
      have hy0 := hy y List.mem_cons_self
      rw [lcGo, hb y hy0]
      show bnd (evC cl .no (sf y)) _ = _
      rw [show evC cl .no (sf y) = ok true from by rw [evC], ok_bnd, if_pos rfl]
      show bnd (bnd (evE cl e (sf y)) asD) _ = _
      rw [he y hy0, ok_bnd, asD_d, ok_bnd, ih _ fun z hz => hy z (List.mem_cons_of_mem _ hz), List.map_cons, List.append_assoc]
      rfl
  rw [evE, hw, ok_bnd, if_pos hl, key xs [] fun _ h => h]
  rfl
end
section
variable {i j : Int} {x y : PV} {xs ys : List PV} {b : Bool} {z w : Str}
theorem v_add : op2v .add (.int i) (.int j) = some (.int (i + j)) := by rfl
theorem v_sub : op2v .sub (.int i) (.int j) = some (.int (i - j)) := by rfl
theorem v_mul : op2v .mul (.int i) (.int j) = if mulOk i j = true then some (.int (i * j)) else none := by rfl
theorem v_mulT : op2v .mul (.tup xs) (.int i) = if -1000 ≤ i ∧ i ≤ 1000 ∧ xs.length ≤ 1000 then some (.tup (List.replicate i.toNat xs).flatten) else none := by rfl
theorem v_mulL : op2v .mul (.lst xs) (.int i) = if -1000 ≤ i ∧ i ≤ 1000 ∧ xs.length ≤ 1000 then some (.lst (List.replicate i.toNat xs).flatten) else none := by rfl
theorem v_fdiv : op2v .fdiv (.int i) (.int j) = if j ≠ 0 then some (.int (i.fdiv j)) else none := by rfl
theorem v_mod : op2v .mod (.int i) (.int j) = if j ≠ 0 then some (.int (i.fmod j)) else none := by rfl
theorem v_pow : op2v .pow (.int i) (.int j) = if powOk i j = true then some (.int (i ^ j.toNat)) else none := by rfl
theorem v_catT : op2v .add (.tup xs) (.tup ys) = if xs.length + ys.length ≤ lim then some (.tup (xs ++ ys)) else none := by rfl
theorem v_catL : op2v .add (.lst xs) (.lst ys) = if xs.length + ys.length ≤ lim then some (.lst (xs ++ ys)) else none := by rfl
theorem v_catS : op2v .add (.str z) (.str w) = if z.length + w.length ≤ lim then some (.str (z ++ w)) else none := by rfl
theorem c_eq : cmpv .eq x y = eqv x y := by rfl
theorem c_ne : cmpv .ne x y = (eqv x y).map (!·) := by rfl
theorem c_lt : cmpv .lt (.int i) (.int j) = some (decide (i < j)) := by rfl
theorem c_le : cmpv .le (.int i) (.int j) = some (decide (i ≤ j)) := by rfl
theorem c_gt : cmpv .gt (.int i) (.int j) = some (decide (j < i)) := by rfl
theorem c_ge : cmpv .ge (.int i) (.int j) = some (decide (j ≤ i)) := by rfl
theorem c_isn : cmpv .isn x .non = some (isn x) := by rfl
theorem c_notn : cmpv .notn x .non = some (!isn x) := by rfl
theorem x_tup : ixv (.tup xs) (.int i) = L2.atI xs i := by rfl
theorem x_lst : ixv (.lst xs) (.int i) = L2.atI xs i := by rfl
theorem x_fz : ixv (.fz xs) (.int i) = L2.atI xs i := by rfl
theorem b_lenT : biv .len [.tup xs] = some (.int xs.length) := by rfl
theorem b_lenL : biv .len [.lst xs] = some (.int xs.length) := by rfl
theorem b_lenF : biv .len [.fz xs] = some (.int xs.length) := by rfl
theorem b_abs : biv .abs [.int i] = some (.int i.natAbs) := by
  show some (PV.int (if i < 0 then -i else i)) = _
  rw [abs_nat]
theorem b_int : biv .int [.int i] = some (.int i) := by rfl
theorem b_intB : biv .int [.bl b] = some (.int (if b then 1 else 0)) := by rfl
theorem b_max : biv .max2 [.int i, .int j] = some (.int (if j > i then j else i)) := by rfl
theorem b_min : biv .min2 [.int i, .int j] = some (.int (if j < i then j else i)) := by rfl
theorem b_tupT : biv .tuple [.tup xs] = some (.tup xs) := by rfl
theorem b_tupL : biv .tuple [.lst xs] = some (.tup xs) := by rfl
theorem b_lstT : biv .list [.tup xs] = some (.lst xs) := by rfl
theorem b_lstL : biv .list [.lst xs] = some (.lst xs) := by rfl
theorem b_all : biv .all [.lst xs] = (bls xs).map fun bs => .bl (bs.all id) := by rfl
theorem b_any : biv .any [.lst xs] = (bls xs).map fun bs => .bl (bs.any id) := by rfl
theorem b_repr : biv .repr [x] = reprv x := by rfl
theorem ix_fr0 (p : Rat) : ixv (fr p) (.int 0) = some (.int p.num) := by rfl
theorem ix_fr1 (p : Rat) : ixv (fr p) (.int 1) = some (.int p.den) := by rfl
theorem rev_lst : revv (.lst xs) = some (.lst xs.reverse) := by rfl
end
end Fo
end -- FoEv

section -- FoWp
set_option Elab.async false
set_option linter.all false
set_option maxRecDepth 100000
set_option maxHeartbeats 1000000
/-! FoWp: runs that change cells; the dice; what repr gives. -/
namespace Fo
open PySem
section
variable {α β : Type}
def Wp (r : Option (Res α)) (P : α → Store → Prop) : Prop := ∃ a s, r = some (.ok a s) ∧ P a s
theorem Wp.bnd {m : M α} {k : α → M β} {st : Store} {P' : α → Store → Prop} {P : β → Store → Prop} (h : Wp (m st) P') (n : ∀ a s, P' a s → Wp (k a s) P) : Wp (bnd m k st) P := by
  obtain ⟨a, s, e, h⟩ := h
  rw [bnd_ok e]
  exact n a s h
theorem Wp.ok {a : α} {st : Store} {P : α → Store → Prop} (h : P a st) : Wp (Fo.ok a st) P := ⟨a, st, rfl, h⟩
theorem Wp.imp {r : Option (Res α)} {P P' : α → Store → Prop} (h : Wp r P) (i : ∀ a s, P a s → P' a s) : Wp r P' := by
  obtain ⟨a, s, e, h⟩ := h
  exact ⟨a, s, e, i a s h⟩
theorem Wp.run {cl : Cl} {fn : Fn} {args : List SV} {st : Store} {P : SV → Store → Prop} (hl : args.length = fn.np) (h : Wp (evSs cl fn.body (args.map some ++ List.replicate (fn.N.length - args.length) none) st) fun o s => ∃ v, o = .rt (.d v) ∧ P (.d v) (s.take st.length)) : Wp (run cl fn args st) P := by
  obtain ⟨o, s, e, v, e2, h⟩ := h
  subst e2
  refine ⟨.d v, s.take st.length, ?_, h⟩
  unfold Fo.run
  rw [if_pos hl, e]
  rfl
theorem take_self {s st : Store} (h : s.length = st.length) : s.take st.length = s := by rw [← h, List.take_length]
end
/-! ### the dice -/
def DS (st : Store) (l k : Nat) : Prop := ∃ a b c : Int, st[l]? = some (.lst [.int a, .int b, .int c]) ∧ (0 ≤ a ∧ a.natAbs < 2 ^ 1100) ∧ (0 ≤ b ∧ b.natAbs < 2 ^ 80) ∧ (0 ≤ c ∧ c ≤ k)
theorem DS.mono {st : Store} {l k k' : Nat} (h : DS st l k) (hk : k ≤ k') : DS st l k' := by
  obtain ⟨a, b, c, h1, h2, h3, h4⟩ := h
  exact ⟨a, b, c, h1, h2, h3, h4.1, by omega⟩
theorem DS.lt {st : Store} {l k : Nat} (h : DS st l k) : l < st.length := by
  obtain ⟨a, b, c, h1, _⟩ := h
  exact (List.getElem?_eq_some_iff.mp h1).1
section
variable {β : Type} {st : Store} {l : Nat} {a b c v : PV} (h : st[l]? = some (.lst [a, b, c]))
include h
theorem rd_at : rd (.r l) st = some (.ok (.lst [a, b, c]) st) := by
  unfold rd
  simp only [h]
theorem ix_at {i : Int} {x : PV} (hx : L2.atI [a, b, c] i = some x) (k : PV → M β) : bnd (ix2 (.r l) (.d (.int i))) k st = k x st := by
  refine bnd_ok ?_
  unfold ix2
  rw [bnd_ok (rd_at h), rd_d, ok_bnd]
  show ofO (L2.atI [a, b, c] i) st = _
  rw [hx]
  rfl
theorem get0 (k : PV → M β) : bnd (ix2 (.r l) (.d (.int 0))) k st = k a st := ix_at h rfl k
theorem get1 (k : PV → M β) : bnd (ix2 (.r l) (.d (.int 1))) k st = k b st := ix_at h rfl k
theorem get2 (k : PV → M β) : bnd (ix2 (.r l) (.d (.int 2))) k st = k c st := ix_at h rfl k
theorem set0 (k : Unit → M β) : bnd (cellSet l fun xs => (L2.ixN xs.length 0).map fun j => xs.set j v) k st = k () (st.set l (.lst [v, b, c])) := by
  refine bnd_ok ?_
  unfold cellSet
  simp only [h]
  rfl
theorem set2 (k : Unit → M β) : bnd (cellSet l fun xs => (L2.ixN xs.length 2).map fun j => xs.set j v) k st = k () (st.set l (.lst [a, b, v])) := by
  refine bnd_ok ?_
  unfold cellSet
  simp only [h]
  rfl
end
theorem fm_lo (x : Int) {m : Int} (hm : 0 < m) : 0 ≤ x.fmod m := Int.fmod_nonneg_of_pos x hm
theorem fm_hi (x : Int) {m : Int} (hm : 0 < m) : x.fmod m < m := Int.fmod_lt_of_pos x hm
/-! ### repr -/
def frD (q : Rat) : PyData := .tuple [.int q.num, .int q.den]
/-- at most 4300 digits -/
def Dg (q : Rat) : Prop := q.num.natAbs < 10 ^ 4300 ∧ q.den < 10 ^ 4300
theorem Dg.of {k : Nat} {q : Rat} (h : Sz k q) (hk : k ≤ 14000) : Dg q := by
  have e : (2 : Nat) ^ k ≤ 10 ^ 4300 := Nat.le_trans (Nat.pow_le_pow_right (by decide) hk) (by decide +kernel)
  exact ⟨Nat.lt_of_lt_of_le h.1 e, Nat.lt_of_lt_of_le h.2 e⟩
theorem shown_short {i : Int} (h : i.natAbs < 10 ^ 4300) : (PyData.shown (.int i)).length ≤ 4301 := by
  have e := PySem.int_text_length_le10 (a := i) (k := 4300) (by decide) h
  show (Str.ofString (toString i)).length ≤ 4301
  rw [ofString_length]
  exact e
/-- data that repr shows, by its bulk -/
def Rp (n : Nat) (d : PyData) : Prop := shb d = true ∧ d.leavesShort 4301 = true ∧ d.bulk = n ∧ d.depth ≤ 60
def Rps (n : Nat) (ds : List PyData) : Prop := shbs ds = true ∧ PyData.leavesShortAll 4301 ds = true ∧ PyData.bulkAll ds = n ∧ PyData.depthAll ds ≤ 59
theorem Rp.frac {q : Rat} (h : Dg q) : Rp 2 (frD q) := by
  have d1 : ((q.den : Int)).natAbs < 10 ^ 4300 := h.2
  refine ⟨?_, ?_, ?_, ?_⟩
  · simp only [frD, shb, shbs, Bool.and_true, Bool.and_eq_true, decide_eq_true_eq]
    exact ⟨h.1, d1⟩
  · simp only [frD, PyData.leavesShort, PyData.leavesShortAll, Bool.and_true, Bool.and_eq_true, decide_eq_true_eq]
    exact ⟨shown_short h.1, shown_short d1⟩
  · simp only [frD, PyData.bulk, PyData.bulkAll]
  · simp only [frD, PyData.depth, PyData.depthAll]
    omega
theorem Rps.nil : Rps 0 [] := ⟨by simp only [shbs], by simp only [PyData.leavesShortAll], by simp only [PyData.bulkAll], by simp only [PyData.depthAll]; omega⟩
theorem Rps.cons {n m : Nat} {d : PyData} {ds : List PyData} (h : Rp n d) (hd : d.depth ≤ 59) (hs : Rps m ds) : Rps (n + 1 + m) (d :: ds) := by
  refine ⟨?_, ?_, ?_, ?_⟩
  · simp only [shbs, h.1, hs.1, Bool.and_self]
  · simp only [PyData.leavesShortAll, h.2.1, hs.2.1, Bool.and_self]
  · simp only [PyData.bulkAll, h.2.2.1, hs.2.2.1]
  · simp only [PyData.depthAll]
    have := hs.2.2.2
    omega
theorem Rps.list {n : Nat} {ds : List PyData} (h : Rps n ds) : Rp n (.list ds) := by
  refine ⟨?_, ?_, ?_, ?_⟩
  · simp only [shb, h.1]
  · simp only [PyData.leavesShort, h.2.1]
  · simp only [PyData.bulk, h.2.2.1]
  · simp only [PyData.depth]
    have := h.2.2.2
    omega
theorem Rps.tuple {n : Nat} {ds : List PyData} (h : Rps n ds) : Rp n (.tuple ds) := by
  refine ⟨?_, ?_, ?_, ?_⟩
  · simp only [shb, h.1]
  · simp only [PyData.leavesShort, h.2.1]
  · simp only [PyData.bulk, h.2.2.1]
  · simp only [PyData.depth]
    have := h.2.2.2
    omega
theorem reprv_dat {v : PV} {d : PyData} (hv : v.dat = some d) : reprv v = reprD v := by
  cases v <;> first
    | rfl
    | (simp [PV.dat] at hv)
theorem Rp.repr {n : Nat} {v : PV} {d : PyData} (hv : v.dat = some d) (h : Rp n d) (hn : n ≤ 3800) (hi : ∀ i, d ≠ .int i) : reprv v = some (.str d.shown) := by
  have l := PyData.shown_le_bulk 4301 (by decide) d h.2.1
  have hl : (lim : Nat) = 16777216 := rfl
  have m : (4301 + 2) * d.bulk ≤ (4301 + 2) * 3800 := Nat.mul_le_mul_left _ (by rw [h.2.2.1]; exact hn)
  have r : rok d = true := by
    cases d with
    | int i => exact absurd rfl (hi i)
    | dict kvs =>
      have := h.1
      simp only [shb] at this
      cases this
    | _ => exact h.1
  rw [reprv_dat hv]
  unfold reprD
  rw [hv]
  exact if_pos ⟨r, by omega, Nat.le_trans h.2.2.2 (by decide)⟩
theorem dats_frs : ∀ qs : List Rat, PV.dats (qs.map fr) = some (qs.map frD)
  | [] => rfl
  | q :: qs => by
    rw [List.map_cons, List.map_cons, PV.dats, dats_frs qs, dat_fr]
    rfl
theorem frD_depth (q : Rat) : (frD q).depth ≤ 1 := by
  simp only [frD, PyData.depth, PyData.depthAll]
  omega
theorem Rps.fracs : ∀ qs : List Rat, (∀ q ∈ qs, Dg q) → Rps (3 * qs.length) (qs.map frD)
  | [], _ => Rps.nil
  | q :: qs, h => by
    have e : 3 * (q :: qs).length = 2 + 1 + 3 * qs.length := by rw [List.length_cons]; omega
    rw [e]
    exact Rps.cons (Rp.frac (h q List.mem_cons_self)) (Nat.le_trans (frD_depth q) (by decide)) (Rps.fracs qs fun r hr => h r (List.mem_cons_of_mem _ hr))
theorem repr_frs {qs : List Rat} (h : ∀ q ∈ qs, Sz 1900 q) (hl : qs.length ≤ 1000) : reprv (.lst (qs.map fr)) = some (.str (PyData.shown (.list (qs.map frD)))) := by
  refine Rp.repr (n := 3 * qs.length) ?_ (Rps.fracs qs fun q hq => Dg.of (h q hq) (by decide)).list (by omega) (fun i z => by cases z)
  rw [PV.dat, dats_frs]
  rfl
theorem repr_fr {q : Rat} (h : Sz 1900 q) : reprv (fr q) = some (.str (PyData.shown (frD q))) :=
  Rp.repr (n := 2) (dat_fr q) (Rp.frac (Dg.of h (by decide))) (by decide) (fun i z => by cases z)
theorem eqv_str (x y : Str) : eqv (.str x) (.str y) = some (decide (x = y)) := rfl
/-! ### one statement after the other -/
def Then (cl : Cl) (ss : Ss) (P : Out → Store → Prop) (sl : Slots) (s : Store) : Prop := Wp (evSs cl ss sl s) P
theorem Wp.cons {cl : Cl} {s : S} {ss : Ss} {sl : Slots} {st : Store} {P : Out → Store → Prop} (h : Wp (evS cl s sl st) fun o s' => ∃ sl', o = .nx sl' ∧ Then cl ss P sl' s') : Wp (evSs cl (.cons s ss) sl st) P := by
  rw [q_cons]
  refine Wp.bnd h ?_
  rintro o s' ⟨sl', rfl, t⟩
  exact t
theorem Then.go {cl : Cl} {ss : Ss} {P : Out → Store → Prop} {sl : Slots} {s : Store} (h : Wp (evSs cl ss sl s) P) : Then cl ss P sl s := h
theorem Wp.nox {α : Type} {m : M α} {st : Store} {P : α → Store → Prop} (h : Wp (m st) P) : Wp (nox m st) P := by
  obtain ⟨a, s, e, h⟩ := h
  refine ⟨a, s, ?_, h⟩
  unfold Fo.nox
  rw [e]
theorem e_lc {cl : Cl} {w : W} {tg : Tg} {c : Oe} {e : E} {sl : Slots} : evE cl (.lc w tg c e) sl = bnd (evW cl w sl) fun xs => if xs.length ≤ lim then bnd (nox (lcGo sl tg (evC cl c) (fun s => bnd (evE cl e s) asD) xs [])) fun ys => ok (.d (.lst ys)) else stk := by rw [evE]
/-- a list by a term that changes cells: J counts -/
theorem lc_wp {sl : Slots} {tg : Tg} {cc : Slots → M Bool} {g : Slots → M PV} {sf : PV → Slots} {Q : PV → Prop} {J : Nat → Store → Prop} {d : Nat} : ∀ (ys acc : List PV) (j : Nat) (st : Store), (∀ x ∈ ys, bindT tg x sl = some (sf x)) → (∀ x ∈ ys, cc (sf x) = ok true) →
    (∀ x ∈ ys, ∀ i st, i + d ≤ j + d * ys.length → J i st → Wp (g (sf x) st) fun u s => Q u ∧ J (i + d) s) → J j st →
    Wp (lcGo sl tg cc g ys acc st) fun zs s => ∃ us, zs = acc ++ us ∧ us.length = ys.length ∧ (∀ u ∈ us, Q u) ∧ J (j + d * ys.length) s
  | [], acc, j, st, _, _, _, hj => by
    rw [lcGo]
    exact Wp.ok ⟨[], (List.append_nil _).symm, rfl, fun u hu => (by cases hu), hj⟩
  | y :: ys, acc, j, st, hb, hc, he, hj => by
    have hl : d * (y :: ys).length = d * ys.length + d := by rw [List.length_cons, Nat.mul_succ]
    rw [lcGo, hb y List.mem_cons_self]
    show Wp (bnd (cc (sf y)) _ st) _
    rw [hc y List.mem_cons_self, ok_bnd, if_pos rfl]
    refine Wp.bnd (he y List.mem_cons_self j st (by omega) hj) ?_
    rintro u s ⟨hu, hj2⟩
    refine (lc_wp ys (acc ++ [u]) (j + d) s (fun x hx => hb x (List.mem_cons_of_mem _ hx)) (fun x hx => hc x (List.mem_cons_of_mem _ hx)) (fun x hx i st hi => he x (List.mem_cons_of_mem _ hx) i st (by omega)) hj2).imp ?_
    rintro zs s2 ⟨us, rfl, h1, h2, h3⟩
    refine ⟨u :: us, by rw [List.append_assoc]; rfl, by rw [List.length_cons, List.length_cons, h1], fun x hx => ?_, ?_⟩
    · rcases List.mem_cons.mp hx with z | z
      · rw [z]; exact hu
      · exact h2 x z
    · rw [hl]
      rw [show j + d + d * ys.length = j + (d * ys.length + d) by omega] at h3
      exact h3
theorem all_fr {us : List PV} {k : Nat} (h : ∀ u ∈ us, ∃ q, u = fr q ∧ Sz k q) : ∃ qs : List Rat, us = qs.map fr ∧ ∀ q ∈ qs, Sz k q := by
  induction us with
  | nil => exact ⟨[], rfl, fun q hq => (by cases hq)⟩
  | cons u us ih =>
    obtain ⟨qs, e, h2⟩ := ih fun v hv => h v (List.mem_cons_of_mem _ hv)
    obtain ⟨q, e1, h1⟩ := h u List.mem_cons_self
    refine ⟨q :: qs, by rw [e1, e]; rfl, fun r hr => ?_⟩
    rcases List.mem_cons.mp hr with z | z
    · rw [z]; exact h1
    · exact h2 r z
theorem foldl_add (qs : List Rat) (a : Rat) : qs.foldl (· + ·) a = a + qs.foldl (· + ·) 0 := by
  induction qs generalizing a with
  | nil => rw [List.foldl_nil, List.foldl_nil, Rat.add_zero]
  | cons q qs ih => rw [List.foldl_cons, List.foldl_cons, ih (a + q), ih (0 + q), Rat.zero_add, Rat.add_assoc]
theorem foldl_rev (qs : List Rat) : qs.reverse.foldl (· + ·) 0 = qs.foldl (· + ·) 0 := by
  induction qs with
  | nil => rfl
  | cons q qs ih =>
    rw [List.reverse_cons, List.foldl_append, List.foldl_cons, List.foldl_nil, List.foldl_cons, ih, foldl_add qs (0 + q), Rat.zero_add, Rat.add_comm]
theorem int_divInt (t : Int) : Rat.divInt t 1 = (t : Rat) := (one_divInt (t : Rat) rfl).symm
theorem fr_int (t : Int) : fr (t : Rat) = .tup [.int t, .int 1] := rfl
end Fo
end -- FoWp

section -- FoFrm
set_option Elab.async false
set_option linter.all false
set_option maxRecDepth 100000
set_option maxHeartbeats 2000000
/-! FoFrm: what a run gives, it gives above a store too, and whatever the empty slots hold. -/
namespace Fo
open PySem
abbrev Id2 {α : Type} (a b : α) : Prop := a = b
def shV (n : Nat) : SV → SV
  | .d v => .d v
  | .r l => .r (l + n)
  | .ls => .ls
/-- sl', n cells higher; an empty slot may hold anything -/
def SlR (n : Nat) (sl sl' : Slots) : Prop := ∀ i : Nat, match sl[i]? with
  | none => sl'[i]? = none
  | some none => ∃ o, sl'[i]? = some o
  | some (some v) => sl'[i]? = some (some (shV n v))
section
variable {α β γ δ : Type} {s : Store}
def ResR (s : Store) (R : α → β → Prop) : Res α → Res β → Prop
  | .ok a t, .ok b t' => R a b ∧ t' = s ++ t
  | .ex x t, .ex y t' => x = y ∧ t' = s ++ t
  | _, _ => False
/-- m' gives above s what m gives -/
def Fr (s : Store) (R : α → β → Prop) (m : M α) (m' : M β) : Prop := ∀ t r, m t = some r → ∃ r', m' (s ++ t) = some r' ∧ ResR s R r r'
variable {R : α → β → Prop} {Q : γ → δ → Prop}
theorem Fr.stk {m' : M β} : Fr s R (Fo.stk : M α) m' := fun t r h => by cases h
theorem Fr.ok {a : α} {b : β} (h : R a b) : Fr s R (Fo.ok a) (Fo.ok b) := fun t r e => by
  cases e
  exact ⟨_, rfl, h, rfl⟩
theorem Fr.ofO {o : Option α} : Fr s Id2 (Fo.ofO o) (Fo.ofO o) := by
  cases o with
  | none => exact .stk
  | some a => exact .ok rfl
theorem Fr.bnd {m : M α} {m' : M β} {k : α → M γ} {k' : β → M δ} (h : Fr s R m m') (hk : ∀ a b, R a b → Fr s Q (k a) (k' b)) : Fr s Q (Fo.bnd m k) (Fo.bnd m' k') := fun t r e => by
  unfold Fo.bnd at e ⊢
  cases hm : m t with
  | none => rw [hm] at e; cases e
  | some q =>
    rw [hm] at e
    obtain ⟨q', e1, e2⟩ := h t q hm
    rw [e1]
    cases q with
    | ok a t1 =>
      cases q' with
      | ok b t2 =>
        obtain ⟨e2, e3⟩ := e2
        subst e3
        exact hk a b e2 t1 r e
      | ex y t2 => exact e2.elim
    | ex x t1 =>
      cases q' with
      | ok b t2 => exact e2.elim
      | ex y t2 =>
        obtain ⟨e2, e3⟩ := e2
        subst e2 e3
        cases e
        exact ⟨_, rfl, rfl, rfl⟩
theorem Fr.nox {m : M α} {m' : M β} (h : Fr s R m m') : Fr s R (Fo.nox m) (Fo.nox m') := fun t r e => by
  unfold Fo.nox at e ⊢
  cases hm : m t with
  | none => rw [hm] at e; cases e
  | some q =>
    rw [hm] at e
    obtain ⟨q', e1, e2⟩ := h t q hm
    rw [e1]
    cases q with
    | ok a t1 =>
      cases q' with
      | ok b t2 =>
        cases e
        exact ⟨_, rfl, e2⟩
      | ex y t2 => exact e2.elim
    | ex x t1 => cases e
end
abbrev VR (n : Nat) (a b : SV) : Prop := b = shV n a
section
variable {s : Store}
theorem up_get {t : Store} {l : Nat} : (s ++ t)[l + s.length]? = t[l]? := by
  rw [List.getElem?_append_right (by omega)]
  congr 1
  omega
theorem up_set {t : Store} {l : Nat} {c : Cell} : (s ++ t).set (l + s.length) c = s ++ t.set l c := by
  have h : ∀ (a : List Cell) (k : Nat), (a ++ t).set (k + a.length) c = a ++ t.set k c := by
    intro a
    induction a with
    | nil => intro k; rfl
    | cons x a ih =>
      intro k
      show x :: (a ++ t).set (k + a.length) c = x :: (a ++ t.set k c)
      rw [ih]
  exact h s l
theorem fr_asD {v : SV} : Fr s Id2 (asD v) (asD (shV s.length v)) := by
  cases v with
  | d x => exact .ok rfl
  | r l => exact .stk
  | ls => exact .stk
theorem fr_asI {v : SV} : Fr s Id2 (asI v) (asI (shV s.length v)) := by
  cases v with
  | d x => cases x <;> first
    | exact .ok rfl
    | exact .stk
  | r l => exact .stk
  | ls => exact .stk
theorem fr_asB {v : SV} : Fr s Id2 (asB v) (asB (shV s.length v)) := by
  cases v with
  | d x => cases x <;> first
    | exact .ok rfl
    | exact .stk
  | r l => exact .stk
  | ls => exact .stk
theorem fr_rd {v : SV} : Fr s Id2 (rd v) (rd (shV s.length v)) := by
  cases v with
  | d x => exact .ok rfl
  | ls => exact .stk
  | r l =>
    intro t r e
    have e : (match t[l]? with
      | some (.lst xs) => some (Res.ok (PV.lst xs) t)
      | _ => none) = some r := e
    show ∃ r', (match (s ++ t)[l + s.length]? with
      | some (.lst xs) => some (Res.ok (PV.lst xs) (s ++ t))
      | _ => none) = some r' ∧ _
    rw [up_get]
    split at e
    · cases e
      exact ⟨_, rfl, rfl, rfl⟩
    · cases e
theorem fr_cellOf {v : SV} : Fr s (fun a b => b = a + s.length) (cellOf v) (cellOf (shV s.length v)) := by
  cases v with
  | d x => exact .stk
  | ls => exact .stk
  | r l =>
    intro t r e
    have e : (match t[l]? with
      | some (.lst _) => some (Res.ok l t)
      | _ => none) = some r := e
    show ∃ r', (match (s ++ t)[l + s.length]? with
      | some (.lst _) => some (Res.ok (l + s.length) (s ++ t))
      | _ => none) = some r' ∧ _
    rw [up_get]
    split at e
    · cases e
      exact ⟨_, rfl, rfl, rfl⟩
    · cases e
theorem fr_cellSet {l : Nat} {f : List PV → Option (List PV)} : Fr s (fun _ _ => True) (cellSet l f) (cellSet (l + s.length) f) := by
  intro t r e
  unfold cellSet at e ⊢
  rw [up_get]
  split at e
  · split at e
    · cases e
      exact ⟨_, rfl, trivial, up_set⟩
    · cases e
  · cases e
theorem fr_op2 {o : Op2} {x y : SV} : Fr s Id2 (op2 o x y) (op2 o (shV s.length x) (shV s.length y)) := by
  unfold op2
  refine .bnd fr_rd fun a b e => ?_
  subst e
  refine .bnd fr_rd fun a b e => ?_
  subst e
  exact .ofO
theorem fr_cmp2 {o : Cm} {x y : SV} : Fr s Id2 (cmp2 o x y) (cmp2 o (shV s.length x) (shV s.length y)) := by
  unfold cmp2
  refine .bnd fr_rd fun a b e => ?_
  subst e
  refine .bnd fr_rd fun a b e => ?_
  subst e
  exact .ofO
theorem fr_ix2 {x y : SV} : Fr s Id2 (ix2 x y) (ix2 (shV s.length x) (shV s.length y)) := by
  unfold ix2
  refine .bnd fr_rd fun a b e => ?_
  subst e
  refine .bnd fr_rd fun a b e => ?_
  subst e
  exact .ofO
theorem fr_rdAll : ∀ {xs : List SV}, Fr s Id2 (rdAll xs) (rdAll (xs.map (shV s.length)))
  | [] => .ok rfl
  | x :: xs => by
    rw [List.map_cons]
    unfold rdAll
    refine .bnd fr_rd fun a b e => ?_
    subst e
    refine .bnd fr_rdAll fun a b e => ?_
    subst e
    exact .ok rfl
theorem fr_biOf {b : Bi} {xs : List SV} : Fr s Id2 (biOf b xs) (biOf b (xs.map (shV s.length))) := by
  unfold biOf
  refine .bnd fr_rdAll fun a b e => ?_
  subst e
  exact .ofO
theorem fr_dAll : ∀ {xs : List SV}, Fr s Id2 (dAll xs) (dAll (xs.map (shV s.length)))
  | [] => by unfold dAll; exact .ok rfl
  | .d v :: xs => by
    rw [List.map_cons]
    show Fr s Id2 (dAll (.d v :: xs)) (dAll (.d v :: xs.map (shV s.length)))
    unfold dAll
    refine .bnd fr_dAll fun a b e => ?_
    subst e
    exact .ok rfl
  | .r l :: xs => by unfold dAll; exact .stk
  | .ls :: xs => by unfold dAll; exact .stk
theorem fr_wordOf {w : Wd} {m m' : M SV} (h : Fr s (VR s.length) m m') : Fr s (VR s.length) (wordOf w m) (wordOf w m') := by
  intro t r e
  unfold wordOf at e ⊢
  cases hm : m t with
  | none => rw [hm] at e; cases e
  | some q =>
    rw [hm] at e
    obtain ⟨q', e1, e2⟩ := h t q hm
    rw [e1]
    cases q with
    | ok a t1 =>
      cases q' with
      | ok b t2 =>
        obtain ⟨e2, e3⟩ := e2
        subst e2 e3
        dsimp only at e ⊢
        split at e
        · cases e
          exact ⟨_, rfl, rfl, rfl⟩
        · split at e
          · cases e
            exact ⟨_, rfl, rfl, rfl⟩
          · cases e
      | ex y t2 => exact e2.elim
    | ex x t1 =>
      cases q' with
      | ok b t2 => exact e2.elim
      | ex y t2 =>
        obtain ⟨e2, e3⟩ := e2
        subst e2 e3
        dsimp only at e ⊢
        split at e
        · split at e
          · cases e
            exact ⟨_, rfl, rfl, rfl⟩
          · cases e
        · cases e
end
section
variable {s : Store} {sl sl' : Slots}
theorem SlR.at (h : SlR s.length sl sl') {i : Nat} {v : SV} (e : sl[i]? = some (some v)) : sl'[i]? = some (some (shV s.length v)) := by
  have := h i
  rw [e] at this
  exact this
theorem SlR.lt (h : SlR s.length sl sl') {i : Nat} : i < sl.length ↔ i < sl'.length := by
  have := h i
  cases e : sl[i]? with
  | none =>
    rw [e] at this
    rw [List.getElem?_eq_none_iff] at e this
    omega
  | some o =>
    rw [e] at this
    have h1 : i < sl.length := (List.getElem?_eq_some_iff.mp e).1
    cases o with
    | none =>
      obtain ⟨o, z⟩ := this
      have := (List.getElem?_eq_some_iff.mp z).1
      omega
    | some v =>
      have := (List.getElem?_eq_some_iff.mp this).1
      omega
theorem SlR.set (h : SlR s.length sl sl') (i : Nat) (v : SV) : SlR s.length (sl.set i (some v)) (sl'.set i (some (shV s.length v))) := by
  intro j
  by_cases hj : i = j
  · subst hj
    by_cases hl : i < sl.length
    · rw [List.getElem?_set_self hl, List.getElem?_set_self (h.lt.mp hl)]
    · rw [List.getElem?_eq_none (by rw [List.length_set]; omega)]
      have : ¬ i < sl'.length := fun z => hl (h.lt.mpr z)
      exact List.getElem?_eq_none (by rw [List.length_set]; omega)
  · rw [List.getElem?_set_ne hj, List.getElem?_set_ne hj]
    exact h j
theorem SlR.bind {tg : Tg} {v : PV} {a : Slots} (h : SlR s.length sl sl') (e : bindT tg v sl = some a) : ∃ b, bindT tg v sl' = some b ∧ SlR s.length a b := by
  have many : ∀ (ps : List (Nat × PV)) (sl sl' : Slots), SlR s.length sl sl' → SlR s.length (ps.foldl (fun s p => s.set p.1 (some (.d p.2))) sl) (ps.foldl (fun s p => s.set p.1 (some (.d p.2))) sl') := by
    intro ps
    induction ps with
    | nil => intro sl sl' h; exact h
    | cons p ps ih => intro sl sl' h; exact ih _ _ (h.set p.1 (.d p.2))
  unfold bindT at e ⊢
  split at e
  · cases e
    exact ⟨_, rfl, h.set _ (.d v)⟩
  · split at e
    · rename_i c
      cases e
      rw [if_pos c]
      exact ⟨_, rfl, many _ _ _ h⟩
    · cases e
  · split at e
    · rename_i c
      cases e
      rw [if_pos c]
      exact ⟨_, rfl, many _ _ _ h⟩
    · cases e
  · cases e
/-- a table of defs -/
def ClR (s : Store) (cl : Cl) : Prop := ∀ f args, Fr s (VR s.length) (cl f args) (cl f (args.map (shV s.length)))
theorem d_map (xs : List PV) : (xs.map SV.d).map (shV s.length) = xs.map SV.d := by
  rw [List.map_map]
  rfl
variable {cl : Cl}
theorem fr_lc {tg : Tg} {c c' : Slots → M Bool} {e e' : Slots → M PV} (hc : ∀ a b, SlR s.length a b → Fr s Id2 (c a) (c' b)) (he : ∀ a b, SlR s.length a b → Fr s Id2 (e a) (e' b)) (h : SlR s.length sl sl') :
    ∀ (xs acc : List PV), Fr s Id2 (lcGo sl tg c e xs acc) (lcGo sl' tg c' e' xs acc)
  | [], acc => by unfold lcGo; exact .ok rfl
  | x :: xs, acc => by
    unfold lcGo
    cases hb : bindT tg x sl with
    | none => exact .stk
    | some a =>
      obtain ⟨b, e1, e2⟩ := h.bind hb
      rw [e1]
      refine .bnd (hc a b e2) fun k k' ek => ?_
      subst ek
      cases k with
      | true =>
        rw [if_pos rfl, if_pos rfl]
        refine .bnd (he a b e2) fun y y' ey => ?_
        subst ey
        exact fr_lc hc he h xs _
      | false =>
        rw [if_neg Bool.false_ne_true, if_neg Bool.false_ne_true]
        exact fr_lc hc he h xs _
theorem fr_frz {i : Nat} (h : SlR s.length sl sl') : Fr s Id2 (frzOf sl i) (frzOf sl' i) := by
  intro t r e
  unfold frzOf at e ⊢
  cases hi : sl[i]? with
  | none => rw [hi] at e; cases e
  | some o =>
    cases o with
    | none => rw [hi] at e; cases e
    | some v =>
      rw [hi] at e
      cases v with
      | d x => cases e
      | ls => cases e
      | r l =>
        rw [h.at hi]
        show ∃ r', (match (s ++ t)[l + s.length]? with
          | some (.lst xs) => some (Res.ok (PV.lst xs) ((s ++ t).set (l + s.length) .dead))
          | _ => none) = some r' ∧ _
        rw [up_get]
        have e : (match t[l]? with
          | some (.lst xs) => some (Res.ok (PV.lst xs) (t.set l .dead))
          | _ => none) = some r := e
        generalize t[l]? = c at e ⊢
        split at e
        · cases e
          exact ⟨_, rfl, rfl, up_set⟩
        · cases e
mutual
theorem fr_e (hcl : ClR s cl) : ∀ (e : E) (sl sl' : Slots), SlR s.length sl sl' → Fr s (VR s.length) (evE cl e sl) (evE cl e sl')
  | .slot i, sl, sl', h => by
    unfold evE
    cases hi : sl[i]? with
    | none => exact .stk
    | some o =>
      cases o with
      | none => exact .stk
      | some v =>
        rw [h.at hi]
        cases v with
        | d x => exact .ok rfl
        | r l => exact .ok rfl
        | ls => exact .stk
  | .non, sl, sl', h => by unfold evE; exact .ok rfl
  | .bl b, sl, sl', h => by unfold evE; exact .ok rfl
  | .int i, sl, sl', h => by unfold evE; exact .ok rfl
  | .str x, sl, sl', h => by unfold evE; exact .ok rfl
  | .glob x c, sl, sl', h => by unfold evE; exact .ok rfl
  | .fnv f, sl, sl', h => by unfold evE; exact .ok rfl
  | .dic0, sl, sl', h => by unfold evE; exact .ok rfl
  | .dic1 k v, sl, sl', h => by unfold evE; exact .ok rfl
  | .tup es, sl, sl', h => by
    unfold evE
    refine .bnd (fr_es hcl es sl sl' h) fun a b e => ?_
    subst e
    refine .bnd fr_dAll fun a b e => ?_
    subst e
    exact .ok rfl
  | .lst es, sl, sl', h => by
    unfold evE
    refine .bnd (fr_es hcl es sl sl' h) fun a b e => ?_
    subst e
    refine .bnd fr_dAll fun a b e => ?_
    subst e
    exact .ok rfl
  | .star a es, sl, sl', h => by
    unfold evE
    refine .bnd (fr_e hcl a sl sl' h) fun a b e => ?_
    subst e
    refine .bnd fr_rd fun a b e => ?_
    subst e
    refine .bnd .ofO fun a b e => ?_
    subst e
    refine .bnd (fr_es hcl es sl sl' h) fun a b e => ?_
    subst e
    refine .bnd fr_dAll fun a b e => ?_
    subst e
    split
    · exact .ok rfl
    · exact .stk
  | .bin o a b, sl, sl', h => by
    unfold evE
    refine .bnd (fr_e hcl a sl sl' h) fun a b e => ?_
    subst e
    refine .bnd (fr_e hcl _ sl sl' h) fun a b e => ?_
    subst e
    refine .bnd fr_op2 fun a b e => ?_
    subst e
    exact .ok rfl
  | .neg a, sl, sl', h => by
    unfold evE
    refine .bnd (fr_e hcl a sl sl' h) fun a b e => ?_
    subst e
    refine .bnd fr_asI fun a b e => ?_
    subst e
    exact .ok rfl
  | .not a, sl, sl', h => by
    unfold evE
    refine .bnd (fr_e hcl a sl sl' h) fun a b e => ?_
    subst e
    refine .bnd fr_asB fun a b e => ?_
    subst e
    exact .ok rfl
  | .cmp o a b, sl, sl', h => by
    unfold evE
    refine .bnd (fr_e hcl a sl sl' h) fun a b e => ?_
    subst e
    refine .bnd (fr_e hcl _ sl sl' h) fun a b e => ?_
    subst e
    refine .bnd fr_cmp2 fun a b e => ?_
    subst e
    exact .ok rfl
  | .chain o o' a b c, sl, sl', h => by
    unfold evE
    refine .bnd (fr_e hcl a sl sl' h) fun x x' e => ?_
    subst e
    refine .bnd (fr_e hcl b sl sl' h) fun y y' e => ?_
    subst e
    refine .bnd fr_cmp2 fun k k' e => ?_
    subst e
    cases k with
    | true =>
      rw [if_pos rfl, if_pos rfl]
      refine .bnd (fr_e hcl c sl sl' h) fun z z' e => ?_
      subst e
      refine .bnd fr_cmp2 fun k k' e => ?_
      subst e
      exact .ok rfl
    | false =>
      rw [if_neg Bool.false_ne_true, if_neg Bool.false_ne_true]
      exact .ok rfl
  | .and a b, sl, sl', h => by
    unfold evE
    refine .bnd (fr_e hcl a sl sl' h) fun x x' e => ?_
    subst e
    refine .bnd fr_asB fun k k' e => ?_
    subst e
    cases k with
    | true => rw [if_pos rfl, if_pos rfl]; exact fr_e hcl b sl sl' h
    | false => rw [if_neg Bool.false_ne_true, if_neg Bool.false_ne_true]; exact .ok rfl
  | .or a b, sl, sl', h => by
    unfold evE
    refine .bnd (fr_e hcl a sl sl' h) fun x x' e => ?_
    subst e
    refine .bnd fr_asB fun k k' e => ?_
    subst e
    cases k with
    | true => rw [if_pos rfl, if_pos rfl]; exact .ok rfl
    | false => rw [if_neg Bool.false_ne_true, if_neg Bool.false_ne_true]; exact fr_e hcl b sl sl' h
  | .one a, sl, sl', h => by unfold evE; exact fr_e hcl a sl sl' h
  | .ifx t a b, sl, sl', h => by
    unfold evE
    refine .bnd (fr_e hcl t sl sl' h) fun x x' e => ?_
    subst e
    refine .bnd fr_asB fun k k' e => ?_
    subst e
    cases k with
    | true => rw [if_pos rfl, if_pos rfl]; exact fr_e hcl a sl sl' h
    | false => rw [if_neg Bool.false_ne_true, if_neg Bool.false_ne_true]; exact fr_e hcl b sl sl' h
  | .ix a b, sl, sl', h => by
    unfold evE
    refine .bnd (fr_e hcl a sl sl' h) fun x x' e => ?_
    subst e
    refine .bnd (fr_e hcl b sl sl' h) fun y y' e => ?_
    subst e
    refine .bnd fr_ix2 fun z z' e => ?_
    subst e
    exact .ok rfl
  | .cut a lo hi, sl, sl', h => by
    unfold evE
    refine .bnd (fr_e hcl a sl sl' h) fun x x' e => ?_
    subst e
    refine .bnd (fr_o hcl lo sl sl' h) fun l l' e => ?_
    subst e
    refine .bnd (fr_o hcl hi sl sl' h) fun l l' e => ?_
    subst e
    refine .bnd fr_rd fun v v' e => ?_
    subst e
    refine .bnd .ofO fun v v' e => ?_
    subst e
    exact .ok rfl
  | .rev a, sl, sl', h => by
    unfold evE
    refine .bnd (fr_e hcl a sl sl' h) fun x x' e => ?_
    subst e
    refine .bnd fr_rd fun v v' e => ?_
    subst e
    refine .bnd .ofO fun v v' e => ?_
    subst e
    exact .ok rfl
  | .call f es ds, sl, sl', h => by
    unfold evE
    refine .bnd (fr_es hcl es sl sl' h) fun a b e => ?_
    subst e
    have q := hcl f (a ++ ds.map fun i => .d (.int i))
    rw [List.map_append, List.map_map] at q
    exact q
  | .callv i es, sl, sl', h => by
    unfold evE
    cases hi : sl[i]? with
    | none => exact .stk
    | some o =>
      cases o with
      | none => exact .stk
      | some v =>
        rw [h.at hi]
        cases v with
        | r l => exact .stk
        | ls => exact .stk
        | d x =>
          cases x with
          | fn f =>
            refine .bnd (fr_es hcl es sl sl' h) fun a b e => ?_
            subst e
            exact hcl f a
          | lam j cs =>
            refine .bnd (fr_es hcl es sl sl' h) fun a b e => ?_
            subst e
            have q := hcl j (cs.map .d ++ a)
            rw [List.map_append, d_map] at q
            exact q
          | _ => exact .stk
  | .bi b es, sl, sl', h => by
    unfold evE
    refine .bnd (fr_es hcl es sl sl' h) fun a b e => ?_
    subst e
    refine .bnd fr_biOf fun v v' e => ?_
    subst e
    exact .ok rfl
  | .isi a t, sl, sl', h => by
    unfold evE
    refine .bnd (fr_e hcl a sl sl' h) fun x x' e => ?_
    subst e
    refine .bnd fr_asD fun v v' e => ?_
    subst e
    refine .bnd .ofO fun v v' e => ?_
    subst e
    exact .ok rfl
  | .lc w tg c e, sl, sl', h => by
    unfold evE
    refine .bnd (fr_w hcl w sl sl' h) fun x x' e => ?_
    subst e
    split
    · refine .bnd (.nox (fr_lc (fun a b q => fr_c hcl c a b q) (fun a b q => .bnd (fr_e hcl e a b q) fun u u' eu => ?_) h _ _)) fun y y' ey => ?_
      · subst eu
        exact fr_asD
      · subst ey
        exact .ok rfl
    · exact .stk
  | .frz i, sl, sl', h => by
    unfold evE
    refine .bnd (fr_frz h) fun x x' e => ?_
    subst e
    exact .ok rfl
  | .word x w b, sl, sl', h => by
    unfold evE
    exact fr_wordOf (fr_e hcl b sl sl' h)
  | .words x w i c bs, sl, sl', h => by
    unfold evE
    split
    · rename_i h1
      rw [h.at h1]
      refine .bnd (fr_ws hcl w bs sl sl' h) fun y y' e => ?_
      subst e
      exact .ok rfl
    · exact .stk
theorem fr_es (hcl : ClR s cl) : ∀ (es : Es) (sl sl' : Slots), SlR s.length sl sl' → Fr s (fun a b => b = a.map (shV s.length)) (evs cl es sl) (evs cl es sl')
  | .nil, sl, sl', h => by unfold evs; exact .ok rfl
  | .cons e es, sl, sl', h => by
    unfold evs
    refine .bnd (fr_e hcl e sl sl' h) fun x x' e => ?_
    subst e
    refine .bnd (fr_es hcl es sl sl' h) fun y y' e => ?_
    subst e
    exact .ok rfl
theorem fr_o (hcl : ClR s cl) : ∀ (o : Oe) (sl sl' : Slots), SlR s.length sl sl' → Fr s Id2 (evO cl o sl) (evO cl o sl')
  | .no, sl, sl', h => by unfold evO; exact .ok rfl
  | .ye e, sl, sl', h => by
    unfold evO
    refine .bnd (fr_e hcl e sl sl' h) fun x x' e => ?_
    subst e
    refine .bnd fr_asI fun y y' e => ?_
    subst e
    exact .ok rfl
theorem fr_c (hcl : ClR s cl) : ∀ (o : Oe) (sl sl' : Slots), SlR s.length sl sl' → Fr s Id2 (evC cl o sl) (evC cl o sl')
  | .no, sl, sl', h => by unfold evC; exact .ok rfl
  | .ye e, sl, sl', h => by
    unfold evC
    refine .bnd (fr_e hcl e sl sl' h) fun x x' e => ?_
    subst e
    exact fr_asB
theorem fr_w (hcl : ClR s cl) : ∀ (w : W) (sl sl' : Slots), SlR s.length sl sl' → Fr s Id2 (evW cl w sl) (evW cl w sl')
  | .rng1 a, sl, sl', h => by
    unfold evW
    refine .bnd (fr_e hcl a sl sl' h) fun x x' e => ?_
    subst e
    refine .bnd fr_asI fun y y' e => ?_
    subst e
    exact .ofO
  | .rng2 a b, sl, sl', h => by
    unfold evW
    refine .bnd (fr_e hcl a sl sl' h) fun x x' e => ?_
    subst e
    refine .bnd (fr_e hcl b sl sl' h) fun x x' e => ?_
    subst e
    refine .bnd fr_asI fun y y' e => ?_
    subst e
    refine .bnd fr_asI fun y y' e => ?_
    subst e
    exact .ofO
  | .over a, sl, sl', h => by
    unfold evW
    refine .bnd (fr_e hcl a sl sl' h) fun x x' e => ?_
    subst e
    refine .bnd fr_asD fun y y' e => ?_
    subst e
    exact .ofO
  | .zip a b, sl, sl', h => by
    unfold evW
    refine .bnd (fr_e hcl a sl sl' h) fun x x' e => ?_
    subst e
    refine .bnd (fr_e hcl b sl sl' h) fun x x' e => ?_
    subst e
    refine .bnd fr_asD fun y y' e => ?_
    subst e
    refine .bnd fr_asD fun y y' e => ?_
    subst e
    exact .ofO
  | .enum a, sl, sl', h => by
    unfold evW
    refine .bnd (fr_e hcl a sl sl' h) fun x x' e => ?_
    subst e
    refine .bnd fr_asD fun y y' e => ?_
    subst e
    exact .ofO
  | .chars a, sl, sl', h => by
    unfold evW
    refine .bnd (fr_e hcl a sl sl' h) fun x x' e => ?_
    subst e
    refine .bnd fr_asD fun y y' e => ?_
    subst e
    exact .ofO
theorem fr_ws (hcl : ClR s cl) (w : Wd) : ∀ (es : Es) (sl sl' : Slots), SlR s.length sl sl' → Fr s Id2 (evWs cl w es sl) (evWs cl w es sl')
  | .nil, sl, sl', h => by unfold evWs; exact .ok rfl
  | .cons e es, sl, sl', h => by
    unfold evWs
    refine .bnd (fr_wordOf (fr_e hcl e sl sl' h)) fun x x' e => ?_
    subst e
    refine .bnd fr_asD fun y y' e => ?_
    subst e
    refine .bnd (fr_ws hcl w es sl sl' h) fun y y' e => ?_
    subst e
    exact .ok rfl
end
/-! ### statements -/
def OutR (n : Nat) : Out → Out → Prop
  | .nx a, .nx b => SlR n a b
  | .ct a, .ct b => SlR n a b
  | .rt v, .rt u => u = shV n v
  | _, _ => False
theorem fr_for {tg : Tg} {b b' : Slots → M Out} (hb : ∀ sl sl', SlR s.length sl sl' → Fr s (OutR s.length) (b sl) (b' sl')) : ∀ (xs : List PV) (sl sl' : Slots), SlR s.length sl sl' → Fr s (OutR s.length) (forGo tg b xs sl) (forGo tg b' xs sl')
  | [], sl, sl', h => by unfold forGo; exact .ok h
  | x :: xs, sl, sl', h => by
    unfold forGo
    cases e : bindT tg x sl with
    | none => exact .stk
    | some a =>
      obtain ⟨a', e1, e2⟩ := h.bind e
      rw [e1]
      refine .bnd (hb a a' e2) fun o o' ho => ?_
      cases o with
      | nx c => cases o' with
        | nx c' => exact fr_for hb xs c c' ho
        | ct c' => exact ho.elim
        | rt v => exact ho.elim
      | ct c => cases o' with
        | ct c' => exact fr_for hb xs c c' ho
        | nx c' => exact ho.elim
        | rt v => exact ho.elim
      | rt v => cases o' with
        | rt u => exact .ok ho
        | nx c' => exact ho.elim
        | ct c' => exact ho.elim
theorem fr_whl {t t' : Slots → M Bool} {b b' : Slots → M Out} (ht : ∀ sl sl', SlR s.length sl sl' → Fr s Id2 (t sl) (t' sl')) (hb : ∀ sl sl', SlR s.length sl sl' → Fr s (OutR s.length) (b sl) (b' sl')) : ∀ (n : Nat) (sl sl' : Slots), SlR s.length sl sl' → Fr s (OutR s.length) (whlGo t b n sl) (whlGo t' b' n sl')
  | 0, sl, sl', h => by unfold whlGo; exact .stk
  | n + 1, sl, sl', h => by
    unfold whlGo
    refine .bnd (ht sl sl' h) fun k k' e => ?_
    subst e
    cases k with
    | false =>
      rw [if_neg Bool.false_ne_true, if_neg Bool.false_ne_true]
      exact .ok h
    | true =>
      rw [if_pos rfl, if_pos rfl]
      refine .bnd (hb sl sl' h) fun o o' ho => ?_
      cases o with
      | nx c => cases o' with
        | nx c' => exact fr_whl ht hb n c c' ho
        | ct c' => exact ho.elim
        | rt v => exact ho.elim
      | ct c => cases o' with
        | ct c' => exact fr_whl ht hb n c c' ho
        | nx c' => exact ho.elim
        | rt v => exact ho.elim
      | rt v => cases o' with
        | rt u => exact .ok ho
        | nx c' => exact ho.elim
        | ct c' => exact ho.elim
mutual
theorem fr_s (hcl : ClR s cl) : ∀ (b : S) (sl sl' : Slots), SlR s.length sl sl' → Fr s (OutR s.length) (evS cl b sl) (evS cl b sl')
  | .set i e, sl, sl', h => by
    unfold evS
    refine .bnd (fr_e hcl e sl sl' h) fun x x' e => ?_
    subst e
    exact .ok (h.set i x)
  | .new i e, sl, sl', h => by
    unfold evS
    refine .bnd (fr_e hcl e sl sl' h) fun x x' e => ?_
    subst e
    cases x with
    | d v =>
      cases v with
      | lst xs =>
        intro t r q
        cases q
        refine ⟨_, rfl, ?_, ?_⟩
        · have := h.set i (.r t.length)
          rw [List.length_append, Nat.add_comm s.length]
          exact this
        · rw [List.append_assoc]
      | _ => exact .stk
    | r l => exact .stk
    | ls => exact .stk
  | .par i j a b, sl, sl', h => by
    unfold evS
    refine .bnd (fr_e hcl a sl sl' h) fun x x' e => ?_
    subst e
    refine .bnd (fr_e hcl b sl sl' h) fun y y' e => ?_
    subst e
    exact .ok ((h.set i x).set j y)
  | .par3 i j l a b c, sl, sl', h => by
    unfold evS
    refine .bnd (fr_e hcl a sl sl' h) fun x x' e => ?_
    subst e
    refine .bnd (fr_e hcl b sl sl' h) fun y y' e => ?_
    subst e
    refine .bnd (fr_e hcl c sl sl' h) fun z z' e => ?_
    subst e
    exact .ok (((h.set i x).set j y).set l z)
  | .unp is e, sl, sl', h => by
    unfold evS
    refine .bnd (fr_e hcl e sl sl' h) fun x x' e => ?_
    subst e
    refine .bnd fr_asD fun y y' e => ?_
    subst e
    cases hb : bindT (.t is) y sl with
    | none => exact fun t r q => by cases q
    | some a =>
      obtain ⟨b, e1, e2⟩ := h.bind hb
      rw [e1]
      exact .ok e2
  | .seti a b e, sl, sl', h => by
    unfold evS
    refine .bnd (fr_e hcl e sl sl' h) fun x x' e => ?_
    subst e
    refine .bnd fr_asD fun v v' e => ?_
    subst e
    refine .bnd (fr_e hcl a sl sl' h) fun o o' e => ?_
    subst e
    refine .bnd (fr_e hcl b sl sl' h) fun y y' e => ?_
    subst e
    refine .bnd fr_asI fun i i' e => ?_
    subst e
    cases o with
    | r l => exact .bnd fr_cellSet fun _ _ _ => .ok h
    | d x => exact .stk
    | ls => exact .stk
  | .ifs t a b, sl, sl', h => by
    unfold evS
    refine .bnd (fr_e hcl t sl sl' h) fun x x' e => ?_
    subst e
    refine .bnd fr_asB fun k k' e => ?_
    subst e
    cases k with
    | true => rw [if_pos rfl, if_pos rfl]; exact fr_ss hcl a sl sl' h
    | false => rw [if_neg Bool.false_ne_true, if_neg Bool.false_ne_true]; exact fr_ss hcl b sl sl' h
  | .for tg w b, sl, sl', h => by
    unfold evS
    refine .bnd (fr_w hcl w sl sl' h) fun x x' e => ?_
    subst e
    exact fr_for (fun a a' q => fr_ss hcl b a a' q) _ sl sl' h
  | .whl t b, sl, sl', h => by
    unfold evS
    refine fr_whl (fun a a' q => .bnd (fr_e hcl t a a' q) fun u u' eu => ?_) (fun a a' q => fr_ss hcl b a a' q) _ sl sl' h
    subst eu
    exact fr_asB
  | .ret e, sl, sl', h => by
    unfold evS
    refine .bnd (fr_e hcl e sl sl' h) fun x x' e => ?_
    subst e
    exact .ok rfl
  | .app i e, sl, sl', h => by
    unfold evS
    refine .bnd (fr_e hcl (.slot i) sl sl' h) fun o o' e => ?_
    subst e
    refine .bnd fr_cellOf fun l l' e => ?_
    subst e
    refine .bnd (fr_e hcl e sl sl' h) fun x x' e => ?_
    subst e
    refine .bnd fr_asD fun v v' e => ?_
    subst e
    exact .bnd fr_cellSet fun _ _ _ => .ok h
  | .retC i, sl, sl', h => by
    unfold evS
    cases hi : sl[i]? with
    | none => exact .stk
    | some o =>
      cases o with
      | none => exact .stk
      | some v =>
        rw [h.at hi]
        cases v with
        | d x => exact .stk
        | r l => exact .ok rfl
        | ls => exact .stk
  | .ex e, sl, sl', h => by
    unfold evS
    exact .bnd (fr_e hcl e sl sl' h) fun _ _ _ => .ok h
  | .pass, sl, sl', h => by unfold evS; exact .ok h
  | .cont, sl, sl', h => by unfold evS; exact .ok h
  | .never, sl, sl', h => by unfold evS; exact .stk
  | .lams i, sl, sl', h => by unfold evS; exact .ok (h.set i .ls)
  | .rai c m, sl, sl', h => by
    unfold evS
    intro t r q
    cases q
    exact ⟨_, rfl, rfl, rfl⟩
  | .rac c e, sl, sl', h => by
    unfold evS
    refine .bnd (fr_e hcl e sl sl' h) fun x x' e => ?_
    subst e
    refine .bnd fr_asD fun v v' e => ?_
    subst e
    intro t r q
    unfold raiseV at q ⊢
    split at q
    · rename_i c1
      rw [if_pos c1]
      split at q
      · rename_i c2
        rw [if_pos c2]
        cases q
        exact ⟨_, rfl, rfl, rfl⟩
      · cases q
    · rename_i c1
      rw [if_neg c1]
      cases q
      exact ⟨_, rfl, rfl, rfl⟩
theorem fr_ss (hcl : ClR s cl) : ∀ (b : Ss) (sl sl' : Slots), SlR s.length sl sl' → Fr s (OutR s.length) (evSs cl b sl) (evSs cl b sl')
  | .nil, sl, sl', h => by unfold evSs; exact .ok h
  | .cons b bs, sl, sl', h => by
    unfold evSs
    refine .bnd (fr_s hcl b sl sl' h) fun o o' ho => ?_
    cases o with
    | nx c => cases o' with
      | nx c' => exact fr_ss hcl bs c c' ho
      | ct c' => exact ho.elim
      | rt v => exact ho.elim
    | ct c => cases o' with
      | ct c' => exact .ok ho
      | nx c' => exact ho.elim
      | rt v => exact ho.elim
    | rt v => cases o' with
      | rt u => exact .ok ho
      | nx c' => exact ho.elim
      | ct c' => exact ho.elim
end
theorem slR_args (args : List SV) (k : Nat) : SlR s.length (args.map some ++ List.replicate k none) ((args.map (shV s.length)).map some ++ List.replicate k none) := by
  intro i
  by_cases hi : i < args.length
  · rw [List.getElem?_append_left (by simpa using hi), List.getElem?_append_left (by simpa using hi)]
    simp [List.getElem?_eq_getElem hi]
  · rw [List.getElem?_append_right (by simpa using hi), List.getElem?_append_right (by simpa using hi)]
    simp only [List.length_map, List.getElem?_replicate]
    split
    · rename_i e
      split at e
      · cases e
      · rename_i c
        rw [if_neg c]
    · rename_i e
      split at e
      · rename_i c
        rw [if_pos c]
        exact ⟨_, rfl⟩
      · cases e
    · rename_i e
      split at e <;> cases e
theorem fr_run (hcl : ClR s cl) (fn : Fn) (args : List SV) : Fr s (VR s.length) (run cl fn args) (run cl fn (args.map (shV s.length))) := by
  intro t r q
  unfold run at q ⊢
  rw [List.length_map]
  by_cases hl : args.length = fn.np
  case neg => rw [if_neg hl] at q; cases q
  rw [if_pos hl] at q ⊢
  have tk : ∀ u : Store, (s ++ u).take (s ++ t).length = s ++ u.take t.length := fun u => by
    rw [List.length_append, List.take_append, List.take_of_length_le (by omega), show s.length + t.length - s.length = t.length by omega]
  have fi : ∀ (v : SV) (u : Store) (r : Res SV), fin t.length v u = some r → ∃ r', fin (s ++ t).length (shV s.length v) (s ++ u) = some r' ∧ ResR s (VR s.length) r r' := by
    intro v u r q
    cases v with
    | d x =>
      have q : some (Res.ok (.d x) (u.take t.length)) = some r := q
      cases q
      exact ⟨_, rfl, rfl, tk u⟩
    | ls => cases q
    | r l =>
      have q : (if l < t.length then none else match u[l]? with
        | some (.lst xs) => some (Res.ok (SV.d (.lst xs)) (u.take t.length))
        | _ => none) = some r := q
      show ∃ r', (if l + s.length < (s ++ t).length then none else match (s ++ u)[l + s.length]? with
        | some (.lst xs) => some (Res.ok (SV.d (.lst xs)) ((s ++ u).take (s ++ t).length))
        | _ => none) = some r' ∧ _
      split at q
      · cases q
      · rename_i c
        rw [if_neg (by rw [List.length_append]; omega), up_get]
        split at q
        · cases q
          exact ⟨_, rfl, rfl, tk u⟩
        · cases q
  have body := fr_ss hcl fn.body _ _ (slR_args (s := s) args (fn.N.length - args.length)) t
  generalize hm : evSs cl fn.body (args.map some ++ List.replicate (fn.N.length - args.length) none) t = m at q body
  cases m with
  | none => cases q
  | some m =>
    obtain ⟨m', e1, e2⟩ := body m rfl
    rw [e1]
    cases m with
    | ex x u =>
      cases m' with
      | ok b u' => exact e2.elim
      | ex y u' =>
        obtain ⟨e2, e3⟩ := e2
        subst e2 e3
        cases q
        exact ⟨_, rfl, rfl, tk u⟩
    | ok o u =>
      cases m' with
      | ex y u' => exact e2.elim
      | ok o' u' =>
        obtain ⟨e2, e3⟩ := e2
        subst e3
        cases o with
        | nx c => cases o' with
          | nx c' => exact fi (.d .non) u r q
          | ct c' => exact e2.elim
          | rt v => exact e2.elim
        | ct c => cases q
        | rt v => cases o' with
          | rt v' =>
            have e2 : v' = shV s.length v := e2
            subst e2
            exact fi v u r q
          | nx c' => exact e2.elim
          | ct c' => exact e2.elim
theorem fr_call (tbl : Nat → Option Fn) : ∀ n : Nat, ClR s (callF tbl n)
  | 0 => fun f args t r q => by cases q
  | n + 1 => fun f args => by
    have e : ∀ as, callF tbl (n + 1) f as = (match tbl f with
      | some fn => run (callF tbl n) fn as
      | none => stk) := fun as => by rw [callF] <;> rfl
    rw [e, e]
    cases tbl f with
    | none => exact .stk
    | some fn => exact fr_run (fr_call tbl n) fn args
end
end Fo
end -- FoFrm

section -- K22a
set_option Elab.async false
set_option linter.all false
set_option maxRecDepth 100000
set_option maxHeartbeats 4000000
/-! K22: the terms of the law's row, that they are its defs, the head. -/
namespace K22
open PySem PySem.Spec PyProof.Rows L2 Fo
def top (i : Nat) : Stmt := PySem.Challenge.pw_fairoffers_k22_errors_and_judges_of_numb.main.body.getD i (.Pass ⟨0, 0, 0, 0⟩)
abbrev ix__law_dice : Nat := 0
abbrev ix__law_roll : Nat := 1
abbrev ix__law_pick : Nat := 2
abbrev ix__law_some : Nat := 3
abbrev ix__law_fr : Nat := 4
abbrev ix__law_is_number : Nat := 5
abbrev ix_is_integer : Nat := 6
abbrev ix_is_name : Nat := 7
abbrev ix_common_divisor : Nat := 8
abbrev ix_is_number : Nat := 9
abbrev ix__law_is_name : Nat := 10
abbrev ix_require_number : Nat := 11
abbrev ix_reduced : Nat := 12
abbrev ix_added : Nat := 13
abbrev ix_plus : Nat := 14
abbrev ix_opposite : Nat := 15
abbrev ix_minus : Nat := 16
abbrev ix_number : Nat := 17
abbrev ix_multiplied : Nat := 18
abbrev ix_times : Nat := 19
abbrev ix_compared : Nat := 20
abbrev ix_divided : Nat := 21
abbrev ix_over : Nat := 22
abbrev ix_sum_of : Nat := 23
abbrev ix_total : Nat := 24
abbrev ix_require_count : Nat := 25
abbrev ix_power : Nat := 26
abbrev ix__law_right : Nat := 27
abbrev ix_law : Nat := 28
def w__law_word : Wd := ⟨[(903, .s "fraction"), (901, .r "count "), (902, .r "refused ")], some "fine"⟩
def f__law_dice : Fn := ⟨"_law_dice", ["script", "spot", "cell", "great", "seed"], 2,
  (.cons (.set 2 (.ifx (.cmp .lt (.slot 1) (.bi .len (.cons (.slot 0) .nil))) (.bi .int (.cons (.ix (.slot 0) (.slot 1)) .nil)) (.bin .add (.bin .mul (.int 131) (.slot 1)) (.int 37))))
  (.cons (.set 3 (.bin .mod (.bi .int (.cons (.bi .abs (.cons (.slot 2) .nil)) .nil)) (.bin .pow (.bin .pow (.int 10) (.int 53)) (.int 6))))
  (.cons (.set 4 (.bin .add (.bin .add (.bin .add (.bin .mul (.bin .mod (.slot 3) (.int 2305843009213693907)) (.int 73)) (.bin .mul (.int 619) (.slot 1))) (.bin .mul (.int 41) (.bi .int (.cons (.cmp .lt (.slot 2) (.int 0)) .nil)))) (.int 17)))
  (.cons (.ret (.lst (.cons (.bi .max2 (.cons (.int 0) (.cons (.bin .sub (.slot 3) (.bin .pow (.int 10) (.int 16))) .nil))) (.cons (.slot 4) (.cons (.int 0) .nil)))))
  .nil))))⟩
def f__law_roll : Fn := ⟨"_law_roll", ["dice", "many", "one", "two", "found"], 2,
  (.cons (.ifs (.cmp .gt (.ix (.slot 0) (.int 0)) (.int 0)) (.cons (.set 4 (.bin .mod (.ix (.slot 0) (.int 0)) (.slot 1)))
  (.cons (.seti (.slot 0) (.int 0) (.bin .fdiv (.ix (.slot 0) (.int 0)) (.slot 1)))
  (.cons (.ret (.bi .int (.cons (.slot 4) .nil)))
  .nil))) .nil)
  (.cons (.seti (.slot 0) (.int 2) (.bin .add (.ix (.slot 0) (.int 2)) (.int 1)))
  (.cons (.set 2 (.bin .mod (.bin .add (.ix (.slot 0) (.int 1)) (.bin .mul (.int 49979687) (.ix (.slot 0) (.int 2)))) (.int 2305843009213693951)))
  (.cons (.set 3 (.bin .add (.bin .mul (.bin .mod (.bin .add (.bin .mul (.slot 2) (.slot 2)) (.bin .mul (.int 131) (.ix (.slot 0) (.int 2)))) (.int 2305843009213693921)) (.int 32452843)) (.slot 2)))
  (.cons (.ret (.bin .mod (.bi .int (.cons (.bin .fdiv (.slot 3) (.int 65587)) .nil)) (.slot 1)))
  .nil)))))⟩
def f__law_pick : Fn := ⟨"_law_pick", ["dice", "items"], 2,
  (.cons (.ret (.ix (.slot 1) (.call ix__law_roll (.cons (.slot 0) (.cons (.bi .len (.cons (.slot 1) .nil)) .nil)) [])))
  .nil)⟩
def f__law_some : Fn := ⟨"_law_some", ["dice", "some"], 1,
  (.cons (.set 1 (.lst (.cons (.non) (.cons (.bl true) (.cons (.bl false) (.cons (.int 0) (.cons (.int 1) (.cons (.neg (.int 3)) (.cons (.bin .pow (.int 10) (.int 39)) (.cons (.bin .pow (.int 10) (.int 40)) (.cons (.bin .sub (.int 0) (.bin .pow (.int 10) (.int 40))) (.cons (.str "a") (.cons (.str "") (.cons (.str "up.2") (.cons (.str "2up") (.cons (.str "Up") (.cons (.str "a b") .nil)))))))))))))))))
  (.cons (.set 1 (.bin .add (.slot 1) (.lst (.cons (.str "abcdefghijkl") (.cons (.str "abcdefghijklm") .nil)))))
  (.cons (.set 1 (.bin .add (.slot 1) (.lst (.cons (.tup .nil) (.cons (.tup (.cons (.int 0) (.cons (.int 1) .nil))) (.cons (.tup (.cons (.int 1) (.cons (.int 1) .nil))) (.cons (.tup (.cons (.int 2) (.cons (.int 4) .nil))) (.cons (.tup (.cons (.int 0) (.cons (.int 2) .nil))) (.cons (.tup (.cons (.int 1) (.cons (.int 0) .nil))) (.cons (.tup (.cons (.int 1) (.cons (.neg (.int 2)) .nil))) (.cons (.tup (.cons (.neg (.int 1)) (.cons (.int 2) .nil))) (.cons (.tup (.cons (.bl true) (.cons (.int 1) .nil))) (.cons (.tup (.cons (.int 1) (.cons (.bl true) .nil))) (.cons (.lst (.cons (.int 1) (.cons (.int 2) .nil))) (.cons (.tup (.cons (.int 1) .nil)) .nil)))))))))))))))
  (.cons (.set 1 (.bin .add (.slot 1) (.lst (.cons (.tup (.cons (.int 1) (.cons (.int 2) (.cons (.int 3) .nil)))) (.cons (.tup (.cons (.bin .add (.bin .pow (.int 10) (.int 39)) (.int 1)) (.cons (.bin .pow (.int 10) (.int 39)) .nil))) (.cons (.tup (.cons (.tup (.cons (.int 1) (.cons (.int 1) .nil))) (.cons (.int 1) .nil))) (.cons (.tup (.cons (.str "1") (.cons (.int 1) .nil))) (.cons (.tup (.cons (.non) (.cons (.int 1) .nil))) (.cons (.str "1/2") (.cons (.dic0) (.cons (.dic1 1 2) (.cons (.str ".a") (.cons (.str "a.") .nil)))))))))))))
  (.cons (.ret (.call ix__law_pick (.cons (.slot 0) (.cons (.slot 1) .nil)) []))
  .nil)))))⟩
def f__law_fr : Fn := ⟨"_law_fr", ["top", "bottom", "sign", "one", "other"], 2,
  (.cons (.par 3 4 (.bi .abs (.cons (.slot 0) .nil)) (.bi .abs (.cons (.slot 1) .nil)))
  (.cons (.whl (.cmp .gt (.slot 4) (.int 0)) (.cons (.par 3 4 (.slot 4) (.bin .mod (.slot 3) (.slot 4)))
  .nil))
  (.cons (.set 2 (.ifx (.cmp .lt (.slot 1) (.int 0)) (.neg (.int 1)) (.int 1)))
  (.cons (.ret (.tup (.cons (.bin .fdiv (.bin .mul (.slot 2) (.slot 0)) (.slot 3)) (.cons (.bin .fdiv (.bin .mul (.slot 2) (.slot 1)) (.slot 3)) .nil))))
  .nil))))⟩
def f__law_is_number : Fn := ⟨"_law_is_number", ["value", "one"], 1,
  (.cons (.ifs (.or (.not (.isi (.slot 0) .tup)) (.one (.cmp .ne (.bi .len (.cons (.slot 0) .nil)) (.int 2)))) (.cons (.ret (.bl false))
  .nil) .nil)
  (.cons (.ifs (.cmp .ne (.lc (.over (.slot 0)) (.n 1) (.ye (.or (.not (.isi (.slot 1) .int)) (.one (.isi (.slot 1) .bool)))) (.int 1)) (.lst .nil)) (.cons (.ret (.bl false))
  .nil) .nil)
  (.cons (.ret (.and (.cmp .ge (.ix (.slot 0) (.int 1)) (.int 1)) (.one (.cmp .eq (.call ix__law_fr (.cons (.ix (.slot 0) (.int 0)) (.cons (.ix (.slot 0) (.int 1)) .nil)) []) (.slot 0)))))
  .nil)))⟩
def f_is_integer : Fn := ⟨"is_integer", ["value"], 1,
  (.cons (.ret (.and (.isi (.slot 0) .int) (.one (.not (.isi (.slot 0) .bool)))))
  .nil)⟩
def f_is_name : Fn := ⟨"is_name", ["value", "sign"], 1,
  (.cons (.ifs (.or (.not (.isi (.slot 0) .str)) (.or (.not (.chain .le .le (.int 1) (.bi .len (.cons (.slot 0) .nil)) (.glob "MAX_LETTERS" (.i 12)))) (.one (.cmp .nmem (.ix (.slot 0) (.int 0)) (.glob "LETTERS" (.s "abcdefghijklmnopqrstuvwxyz")))))) (.cons (.ret (.bl false))
  .nil) .nil)
  (.cons (.ret (.bi .all (.cons (.lc (.chars (.slot 0)) (.n 1) .no (.cmp .mem (.slot 1) (.glob "SIGNS" (.s "abcdefghijklmnopqrstuvwxyz0123456789.")))) .nil)))
  .nil))⟩
def f_common_divisor : Fn := ⟨"common_divisor", ["one", "other"], 2,
  (.cons (.par 0 1 (.bi .abs (.cons (.slot 0) .nil)) (.bi .abs (.cons (.slot 1) .nil)))
  (.cons (.whl (.cmp .gt (.slot 1) (.int 0)) (.cons (.par 0 1 (.slot 1) (.bin .mod (.slot 0) (.slot 1)))
  .nil))
  (.cons (.ret (.slot 0))
  .nil)))⟩
def f_is_number : Fn := ⟨"is_number", ["value", "one"], 1,
  (.cons (.ifs (.or (.not (.isi (.slot 0) .tup)) (.or (.cmp .ne (.bi .len (.cons (.slot 0) .nil)) (.int 2)) (.one (.not (.bi .all (.cons (.lc (.over (.slot 0)) (.n 1) .no (.call ix_is_integer (.cons (.slot 1) .nil) [])) .nil)))))) (.cons (.ret (.bl false))
  .nil) .nil)
  (.cons (.ret (.and (.cmp .ge (.ix (.slot 0) (.int 1)) (.int 1)) (.one (.cmp .eq (.call ix_common_divisor (.cons (.ix (.slot 0) (.int 0)) (.cons (.ix (.slot 0) (.int 1)) .nil)) []) (.int 1)))))
  .nil))⟩
def f__law_is_name : Fn := ⟨"_law_is_name", ["value", "sign"], 1,
  (.cons (.ifs (.or (.not (.isi (.slot 0) .str)) (.or (.not (.chain .le .le (.int 1) (.bi .len (.cons (.slot 0) .nil)) (.int 12))) (.one (.not (.chain .le .le (.str "a") (.ix (.slot 0) (.int 0)) (.str "z")))))) (.cons (.ret (.bl false))
  .nil) .nil)
  (.cons (.ret (.cmp .eq (.lc (.chars (.slot 0)) (.n 1) (.ye (.cmp .nmem (.slot 1) (.str "abcdefghijklmnopqrstuvwxyz0123456789."))) (.slot 1)) (.lst .nil)))
  .nil))⟩
def f_require_number : Fn := ⟨"require_number", ["value"], 1,
  (.cons (.ifs (.not (.call ix_is_number (.cons (.slot 0) .nil) [])) (.cons (.rai 903 "a number is expected")
  .nil) .nil)
  .nil)⟩
def f_reduced : Fn := ⟨"reduced", ["top", "bottom", "divisor"], 2,
  (.cons (.ifs (.cmp .lt (.slot 1) (.int 0)) (.cons (.par 0 1 (.bin .sub (.int 0) (.slot 0)) (.bin .sub (.int 0) (.slot 1)))
  .nil) .nil)
  (.cons (.set 2 (.call ix_common_divisor (.cons (.slot 0) (.cons (.slot 1) .nil)) []))
  (.cons (.ret (.tup (.cons (.bin .fdiv (.slot 0) (.slot 2)) (.cons (.bin .fdiv (.slot 1) (.slot 2)) .nil))))
  .nil)))⟩
def f_added : Fn := ⟨"added", ["one", "other"], 2,
  (.cons (.ifs (.chain .eq .eq (.ix (.slot 0) (.int 1)) (.ix (.slot 1) (.int 1)) (.int 1)) (.cons (.ret (.tup (.cons (.bin .add (.ix (.slot 0) (.int 0)) (.ix (.slot 1) (.int 0))) (.cons (.int 1) .nil))))
  .nil) .nil)
  (.cons (.ret (.call ix_reduced (.cons (.bin .add (.bin .mul (.ix (.slot 0) (.int 0)) (.ix (.slot 1) (.int 1))) (.bin .mul (.ix (.slot 1) (.int 0)) (.ix (.slot 0) (.int 1)))) (.cons (.bin .mul (.ix (.slot 0) (.int 1)) (.ix (.slot 1) (.int 1))) .nil)) []))
  .nil))⟩
def f_plus : Fn := ⟨"plus", ["one", "other"], 2,
  (.cons (.ex (.call ix_require_number (.cons (.slot 0) .nil) []))
  (.cons (.ex (.call ix_require_number (.cons (.slot 1) .nil) []))
  (.cons (.ret (.call ix_added (.cons (.slot 0) (.cons (.slot 1) .nil)) []))
  .nil)))⟩
def f_opposite : Fn := ⟨"opposite", ["one"], 1,
  (.cons (.ret (.tup (.cons (.bin .sub (.int 0) (.ix (.slot 0) (.int 0))) (.cons (.ix (.slot 0) (.int 1)) .nil))))
  .nil)⟩
def f_minus : Fn := ⟨"minus", ["one", "other"], 2,
  (.cons (.ex (.call ix_require_number (.cons (.slot 0) .nil) []))
  (.cons (.ex (.call ix_require_number (.cons (.slot 1) .nil) []))
  (.cons (.ret (.call ix_added (.cons (.slot 0) (.cons (.call ix_opposite (.cons (.slot 1) .nil) []) .nil)) []))
  .nil)))⟩
def f_number : Fn := ⟨"number", ["top", "bottom"], 2,
  (.cons (.ifs (.or (.not (.call ix_is_integer (.cons (.slot 0) .nil) [])) (.one (.cmp .ge (.bi .abs (.cons (.slot 0) .nil)) (.glob "MOST_PASSED" (.i 10000000000000000000000000000000000000000))))) (.cons (.rac 901 (.slot 0))
  .nil) .nil)
  (.cons (.ifs (.or (.not (.call ix_is_integer (.cons (.slot 1) .nil) [])) (.or (.cmp .ge (.bi .abs (.cons (.slot 1) .nil)) (.glob "MOST_PASSED" (.i 10000000000000000000000000000000000000000))) (.one (.cmp .eq (.slot 1) (.int 0))))) (.cons (.rac 901 (.slot 1))
  .nil) .nil)
  (.cons (.ret (.call ix_reduced (.cons (.slot 0) (.cons (.slot 1) .nil)) []))
  .nil)))⟩
def f_multiplied : Fn := ⟨"multiplied", ["one", "other"], 2,
  (.cons (.ifs (.chain .eq .eq (.ix (.slot 0) (.int 1)) (.ix (.slot 1) (.int 1)) (.int 1)) (.cons (.ret (.tup (.cons (.bin .mul (.ix (.slot 0) (.int 0)) (.ix (.slot 1) (.int 0))) (.cons (.int 1) .nil))))
  .nil) .nil)
  (.cons (.ret (.call ix_reduced (.cons (.bin .mul (.ix (.slot 0) (.int 0)) (.ix (.slot 1) (.int 0))) (.cons (.bin .mul (.ix (.slot 0) (.int 1)) (.ix (.slot 1) (.int 1))) .nil)) []))
  .nil))⟩
def f_times : Fn := ⟨"times", ["one", "other"], 2,
  (.cons (.ex (.call ix_require_number (.cons (.slot 0) .nil) []))
  (.cons (.ex (.call ix_require_number (.cons (.slot 1) .nil) []))
  (.cons (.ret (.call ix_multiplied (.cons (.slot 0) (.cons (.slot 1) .nil)) []))
  .nil)))⟩
def f_compared : Fn := ⟨"compared", ["one", "other", "left", "right"], 2,
  (.cons (.ex (.call ix_require_number (.cons (.slot 0) .nil) []))
  (.cons (.ex (.call ix_require_number (.cons (.slot 1) .nil) []))
  (.cons (.par 2 3 (.bin .mul (.ix (.slot 0) (.int 0)) (.ix (.slot 1) (.int 1))) (.bin .mul (.ix (.slot 1) (.int 0)) (.ix (.slot 0) (.int 1))))
  (.cons (.ret (.bin .sub (.bi .int (.cons (.cmp .gt (.slot 2) (.slot 3)) .nil)) (.bi .int (.cons (.cmp .lt (.slot 2) (.slot 3)) .nil))))
  .nil))))⟩
def f_divided : Fn := ⟨"divided", ["one", "other"], 2,
  (.cons (.ret (.call ix_reduced (.cons (.bin .mul (.ix (.slot 0) (.int 0)) (.ix (.slot 1) (.int 1))) (.cons (.bin .mul (.ix (.slot 0) (.int 1)) (.ix (.slot 1) (.int 0))) .nil)) []))
  .nil)⟩
def f_over : Fn := ⟨"over", ["one", "other"], 2,
  (.cons (.ex (.call ix_require_number (.cons (.slot 0) .nil) []))
  (.cons (.ex (.call ix_require_number (.cons (.slot 1) .nil) []))
  (.cons (.ifs (.cmp .eq (.slot 1) (.glob "NOUGHT" (.p 0 1))) (.cons (.rac 902 (.tup (.cons (.str "nought") .nil)))
  .nil) .nil)
  (.cons (.ret (.call ix_divided (.cons (.slot 0) (.cons (.slot 1) .nil)) []))
  .nil))))⟩
def f_sum_of : Fn := ⟨"sum_of", ["numbers", "found", "one"], 1,
  (.cons (.set 1 (.glob "NOUGHT" (.p 0 1)))
  (.cons (.for (.n 2) (.over (.slot 0)) (.cons (.set 1 (.call ix_added (.cons (.slot 1) (.cons (.slot 2) .nil)) []))
  .nil))
  (.cons (.ret (.slot 1))
  .nil)))⟩
def f_total : Fn := ⟨"total", ["numbers", "one"], 1,
  (.cons (.ifs (.or (.not (.isi (.slot 0) .tup)) (.one (.not (.bi .all (.cons (.lc (.over (.slot 0)) (.n 1) .no (.call ix_is_number (.cons (.slot 1) .nil) [])) .nil))))) (.cons (.rai 903 "a tuple of numbers is expected")
  .nil) .nil)
  (.cons (.ret (.call ix_sum_of (.cons (.slot 0) .nil) []))
  .nil))⟩
def f_require_count : Fn := ⟨"require_count", ["value", "least", "most"], 3,
  (.cons (.ifs (.or (.not (.call ix_is_integer (.cons (.slot 0) .nil) [])) (.one (.not (.chain .le .le (.slot 1) (.slot 0) (.slot 2))))) (.cons (.rac 901 (.slot 0))
  .nil) .nil)
  .nil)⟩
def f_power : Fn := ⟨"power", ["one", "many", "found", "_"], 2,
  (.cons (.ex (.call ix_require_number (.cons (.slot 0) .nil) []))
  (.cons (.ex (.call ix_require_count (.cons (.slot 1) .nil) [0, 60]))
  (.cons (.set 2 (.glob "ONE" (.p 1 1)))
  (.cons (.for (.n 3) (.rng1 (.slot 1)) (.cons (.set 2 (.call ix_multiplied (.cons (.slot 2) (.cons (.slot 0) .nil)) []))
  .nil))
  (.cons (.ret (.slot 2))
  .nil)))))⟩
def f__law_right : Fn := ⟨"_law_right", ["dice", "told", "due", "is_top", "is_bottom", "value", "wrong", "is_whole", "bad", "one", "plain"], 1,
  (.cons (.unp [5, 6] (.tup (.cons (.call ix__law_some (.cons (.slot 0) .nil) []) (.cons (.call ix__law_some (.cons (.slot 0) .nil) []) .nil))))
  (.cons (.par 7 8 (.and (.isi (.slot 5) .int) (.one (.not (.isi (.slot 5) .bool)))) (.not (.call ix__law_is_number (.cons (.slot 5) .nil) [])))
  (.cons (.ifs (.cmp .ne (.bi .repr (.cons (.lst (.cons (.call ix_is_integer (.cons (.slot 5) .nil) []) (.cons (.call ix_is_name (.cons (.slot 5) .nil) []) (.cons (.call ix_is_number (.cons (.slot 5) .nil) []) .nil)))) .nil)) (.bi .repr (.cons (.lst (.cons (.slot 7) (.cons (.call ix__law_is_name (.cons (.slot 5) .nil) []) (.cons (.not (.slot 8)) .nil)))) .nil))) (.cons (.ret (.bl false))
  .nil) .nil)
  (.cons (.unp [9, 10] (.tup (.cons (.tup (.cons (.int 3) (.cons (.int 2) .nil))) (.cons (.ifx (.slot 8) (.str "fraction") (.str "fine")) .nil))))
  (.cons (.set 1 (.lst (.cons (.word "_law_word" w__law_word (.call ix_plus (.cons (.slot 5) (.cons (.slot 6) .nil)) [])) (.cons (.word "_law_word" w__law_word (.call ix_minus (.cons (.slot 9) (.cons (.slot 5) .nil)) [])) .nil))))
  (.cons (.set 1 (.bin .add (.slot 1) (.lst (.cons (.word "_law_word" w__law_word (.call ix_times (.cons (.slot 5) (.cons (.slot 9) .nil)) [])) (.cons (.word "_law_word" w__law_word (.call ix_compared (.cons (.slot 9) (.cons (.slot 5) .nil)) [])) .nil)))))
  (.cons (.new 2 (.bin .add (.lst (.cons (.ifx (.and (.not (.slot 8)) (.one (.call ix__law_is_number (.cons (.slot 6) .nil) []))) (.str "fine") (.str "fraction")) .nil)) (.bin .mul (.lst (.cons (.slot 10) .nil)) (.int 3))))
  (.cons (.set 1 (.bin .add (.slot 1) (.lst (.cons (.word "_law_word" w__law_word (.call ix_plus (.cons (.slot 9) (.cons (.slot 5) .nil)) [])) (.cons (.word "_law_word" w__law_word (.call ix_minus (.cons (.slot 5) (.cons (.slot 9) .nil)) [])) .nil)))))
  (.cons (.set 1 (.bin .add (.slot 1) (.lst (.cons (.word "_law_word" w__law_word (.call ix_times (.cons (.slot 9) (.cons (.slot 5) .nil)) [])) (.cons (.word "_law_word" w__law_word (.call ix_compared (.cons (.slot 5) (.cons (.slot 9) .nil)) [])) .nil)))))
  (.cons (.new 2 (.bin .add (.slot 2) (.bin .mul (.lst (.cons (.slot 10) .nil)) (.int 4))))
  (.cons (.set 1 (.bin .add (.slot 1) (.lst (.cons (.word "_law_word" w__law_word (.call ix_over (.cons (.slot 5) (.cons (.tup (.cons (.int 0) (.cons (.int 1) .nil))) .nil)) [])) (.cons (.word "_law_word" w__law_word (.call ix_over (.cons (.slot 9) (.cons (.slot 5) .nil)) [])) .nil)))))
  (.cons (.new 2 (.bin .add (.slot 2) (.lst (.cons (.ifx (.slot 8) (.str "fraction") (.str "refused ('nought',)")) .nil))))
  (.cons (.app 2 (.ifx (.cmp .eq (.bi .repr (.cons (.slot 5) .nil)) (.str "(0, 1)")) (.str "refused ('nought',)") (.slot 10)))
  (.cons (.set 1 (.bin .add (.slot 1) (.lst (.cons (.word "_law_word" w__law_word (.call ix_total (.cons (.tup (.cons (.slot 9) (.cons (.slot 5) .nil))) .nil) [])) (.cons (.word "_law_word" w__law_word (.call ix_total (.cons (.slot 5) .nil) [])) .nil)))))
  (.cons (.new 2 (.bin .add (.slot 2) (.lst (.cons (.slot 10) (.cons (.ifx (.cmp .eq (.bi .repr (.cons (.slot 5) .nil)) (.str "()")) (.str "fine") (.str "fraction")) .nil)))))
  (.cons (.set 1 (.bin .add (.slot 1) (.lst (.cons (.word "_law_word" w__law_word (.call ix_power (.cons (.slot 5) (.cons (.neg (.int 1)) .nil)) [])) (.cons (.word "_law_word" w__law_word (.call ix_power (.cons (.slot 9) (.cons (.slot 5) .nil)) [])) .nil)))))
  (.cons (.new 2 (.bin .add (.slot 2) (.lst (.cons (.ifx (.slot 8) (.str "fraction") (.str "count -1")) .nil))))
  (.cons (.app 2 (.ifx (.and (.slot 7) (.one (.chain .le .le (.int 0) (.slot 5) (.int 60)))) (.str "fine") (.bin .add (.str "count ") (.bi .repr (.cons (.slot 5) .nil)))))
  (.cons (.ifs (.cmp .ne (.slot 1) (.slot 2)) (.cons (.ret (.bl false))
  .nil) .nil)
  (.cons (.set 3 (.and (.slot 7) (.one (.cmp .lt (.bi .abs (.cons (.slot 5) .nil)) (.bin .pow (.int 10) (.int 40))))))
  (.cons (.set 4 (.and (.isi (.slot 6) .int) (.and (.not (.isi (.slot 6) .bool)) (.and (.cmp .lt (.bi .abs (.cons (.slot 6) .nil)) (.bin .pow (.int 10) (.int 40))) (.one (.cmp .ne (.slot 6) (.int 0)))))))
  (.cons (.set 1 (.lst (.cons (.word "_law_word" w__law_word (.call ix_number (.cons (.slot 5) (.cons (.slot 6) .nil)) [])) (.cons (.word "_law_word" w__law_word (.call ix_number (.cons (.int 4) (.cons (.slot 5) .nil)) [])) .nil))))
  (.cons (.set 2 (.ifx (.not (.slot 3)) (.bin .add (.str "count ") (.bi .repr (.cons (.slot 5) .nil))) (.ifx (.slot 4) (.str "fine") (.bin .add (.str "count ") (.bi .repr (.cons (.slot 6) .nil))))))
  (.cons (.ret (.cmp .eq (.slot 1) (.lst (.cons (.slot 2) (.cons (.ifx (.and (.slot 3) (.one (.cmp .ne (.slot 5) (.int 0)))) (.str "fine") (.bin .add (.str "count ") (.bi .repr (.cons (.slot 5) .nil)))) .nil)))))
  .nil))))))))))))))))))))))))⟩
def f_law : Fn := ⟨"law", ["script", "spot", "told", "dice", "turn"], 1,
  (.cons (.for (.n 1) (.rng1 (.bi .max2 (.cons (.int 1) (.cons (.bi .min2 (.cons (.int 6) (.cons (.bi .len (.cons (.slot 0) .nil)) .nil))) .nil)))) (.cons (.new 3 (.call ix__law_dice (.cons (.slot 0) (.cons (.slot 1) .nil)) []))
  (.cons (.for (.n 4) (.rng1 (.int 8)) (.cons (.ifs (.not (.call ix__law_right (.cons (.slot 3) .nil) [])) (.cons (.ret (.bl false))
  .nil) .nil)
  .nil))
  .nil)))
  (.cons (.set 2 (.lst (.cons (.word "_law_word" w__law_word (.call ix_power (.cons (.tup (.cons (.int 1) (.cons (.int 2) .nil))) (.cons (.int 61) .nil)) [])) (.cons (.word "_law_word" w__law_word (.call ix_power (.cons (.tup (.cons (.int 1) (.cons (.int 2) .nil))) (.cons (.int 60) .nil)) [])) .nil))))
  (.cons (.set 2 (.bin .add (.slot 2) (.lst (.cons (.word "_law_word" w__law_word (.call ix_total (.cons (.lst (.cons (.tup (.cons (.int 1) (.cons (.int 1) .nil))) .nil)) .nil) [])) (.cons (.word "_law_word" w__law_word (.call ix_number (.cons (.int 1) (.cons (.int 0) .nil)) [])) .nil)))))
  (.cons (.ret (.cmp .eq (.slot 2) (.lst (.cons (.str "count 61") (.cons (.str "fine") (.cons (.str "fraction") (.cons (.str "count 0") .nil)))))))
  .nil))))⟩
def ents : List Ent := [
  ⟨top 34, f__law_dice, true, []⟩,
  ⟨top 35, f__law_roll, false, []⟩,
  ⟨top 36, f__law_pick, false, []⟩,
  ⟨top 41, f__law_some, false, []⟩,
  ⟨top 37, f__law_fr, false, []⟩,
  ⟨top 38, f__law_is_number, false, []⟩,
  ⟨top 13, f_is_integer, false, []⟩,
  ⟨top 14, f_is_name, false, []⟩,
  ⟨top 15, f_common_divisor, false, []⟩,
  ⟨top 16, f_is_number, false, []⟩,
  ⟨top 40, f__law_is_name, false, []⟩,
  ⟨top 19, f_require_number, false, []⟩,
  ⟨top 17, f_reduced, false, []⟩,
  ⟨top 21, f_added, false, []⟩,
  ⟨top 26, f_plus, false, []⟩,
  ⟨top 23, f_opposite, false, []⟩,
  ⟨top 27, f_minus, false, []⟩,
  ⟨top 18, f_number, false, [1]⟩,
  ⟨top 22, f_multiplied, false, []⟩,
  ⟨top 28, f_times, false, []⟩,
  ⟨top 30, f_compared, false, []⟩,
  ⟨top 24, f_divided, false, []⟩,
  ⟨top 29, f_over, false, []⟩,
  ⟨top 25, f_sum_of, false, []⟩,
  ⟨top 31, f_total, false, []⟩,
  ⟨top 20, f_require_count, false, [0, 60]⟩,
  ⟨top 32, f_power, false, []⟩,
  ⟨top 42, f__law_right, false, []⟩,
  ⟨top 43, f_law, false, []⟩]
def cn : List (String × GC) := [("LETTERS", .s "abcdefghijklmnopqrstuvwxyz"), ("MAX_LETTERS", .i 12), ("SIGNS", .s "abcdefghijklmnopqrstuvwxyz0123456789."), ("MOST_PASSED", .i 10000000000000000000000000000000000000000), ("NOUGHT", .p 0 1), ("ONE", .p 1 1)]
def xs : List XE := [
  ⟨901, "InvalidCount", ((C8.clsBody (top 3)).getD 0 (.Pass ⟨0, 0, 0, 0⟩))⟩,
  ⟨903, "InvalidFraction", (.Pass ⟨0, 0, 0, 0⟩)⟩,
  ⟨902, "Refused", ((C8.clsBody (top 4)).getD 0 (.Pass ⟨0, 0, 0, 0⟩))⟩]
def ws : List WE := [
  ⟨⟨top 39, ⟨"_law_word", ["call", "error"], 1, .nil⟩, false, []⟩, w__law_word⟩]
def row : Fo.Row := ⟨ents, cn, xs, ws, ["_law_right", "law"], PySem.Challenge.pw_fairoffers_k22_errors_and_judges_of_numb.main.file⟩

theorem chk : row.ok = true := by decide +kernel
end K22
end -- K22a

section -- K22b
set_option Elab.async false
set_option linter.all false
set_option maxRecDepth 100000
set_option maxHeartbeats 0
/-! K22b: the head's run. -/
namespace K22
open PySem PySem.Spec PyProof.Rows L2 Fo
abbrev R : PySem.W.OpenRow := PySem.W.OpenLaw.row PySem.Challenge.rw_fairoffers_k22_errors_and_judges_of_numb
abbrev lawIx : Nat := 43
def hk : PySem.W.Hook := hookY 4 row
def ob (s : PySem.W.SharedT) : AlY := obsY 4 row (HandSHeadRun.getT s)
theorem ob_eq (s : PySem.W.SharedT) : ob s = hk.obs s.abs := obsY_eq (HandSHeadRun.getT_eq s)
def loose0 : List PySem.Str := ["OfferError", "InvalidFraction", "InvalidCount", "Refused", "NOUGHT", "ONE", "MAX_LETTERS", "MAX_COUNT", "MOST_PASSED", "LETTERS", "SIGNS", "is_integer", "is_name", "common_divisor", "is_number", "reduced", "number", "require_number", "require_count", "added", "multiplied", "opposite", "divided", "sum_of", "plus", "minus", "times", "over", "compared", "total"]
def loose1 : List PySem.Str := ["power", "_law_dice", "_law_roll", "_law_pick", "_law_fr", "_law_is_number", "_law_word", "_law_is_name", "_law_some", "_law_right"]
abbrev loose : List PySem.Str := loose0 ++ loose1
theorem run (w : World) : HandSHeadRun.RunEq R (PySem.W.view R.prog [43]) hk ob 4000 loose w := by
  intro os
  kernel_rfl
end K22
end -- K22b

section -- K22c
set_option Elab.async false
set_option linter.all false
set_option maxRecDepth 100000
set_option maxHeartbeats 4000000
/-! K22c: the defaults, the end. -/
namespace K22
open PySem PySem.Spec PyProof.Rows L2 Fo
def e0 : Ent := ⟨top 34, f__law_dice, true, []⟩
theorem b0 : Bd e0 := bd_plain (by decide +kernel) rfl (by decide +kernel)
def e1 : Ent := ⟨top 35, f__law_roll, false, []⟩
theorem b1 : Bd e1 := bd_plain (by decide +kernel) rfl (by decide +kernel)
def e2 : Ent := ⟨top 36, f__law_pick, false, []⟩
theorem b2 : Bd e2 := bd_plain (by decide +kernel) rfl (by decide +kernel)
def e3 : Ent := ⟨top 41, f__law_some, false, []⟩
theorem b3 : Bd e3 := bd_plain (by decide +kernel) rfl (by decide +kernel)
def e4 : Ent := ⟨top 37, f__law_fr, false, []⟩
theorem b4 : Bd e4 := bd_plain (by decide +kernel) rfl (by decide +kernel)
def e5 : Ent := ⟨top 38, f__law_is_number, false, []⟩
theorem b5 : Bd e5 := bd_plain (by decide +kernel) rfl (by decide +kernel)
def e6 : Ent := ⟨top 13, f_is_integer, false, []⟩
theorem b6 : Bd e6 := bd_plain (by decide +kernel) rfl (by decide +kernel)
def e7 : Ent := ⟨top 14, f_is_name, false, []⟩
theorem b7 : Bd e7 := bd_plain (by decide +kernel) rfl (by decide +kernel)
def e8 : Ent := ⟨top 15, f_common_divisor, false, []⟩
theorem b8 : Bd e8 := bd_plain (by decide +kernel) rfl (by decide +kernel)
def e9 : Ent := ⟨top 16, f_is_number, false, []⟩
theorem b9 : Bd e9 := bd_plain (by decide +kernel) rfl (by decide +kernel)
def e10 : Ent := ⟨top 40, f__law_is_name, false, []⟩
theorem b10 : Bd e10 := bd_plain (by decide +kernel) rfl (by decide +kernel)
def e11 : Ent := ⟨top 19, f_require_number, false, []⟩
theorem b11 : Bd e11 := bd_plain (by decide +kernel) rfl (by decide +kernel)
def e12 : Ent := ⟨top 17, f_reduced, false, []⟩
theorem b12 : Bd e12 := bd_plain (by decide +kernel) rfl (by decide +kernel)
def e13 : Ent := ⟨top 21, f_added, false, []⟩
theorem b13 : Bd e13 := bd_plain (by decide +kernel) rfl (by decide +kernel)
def e14 : Ent := ⟨top 26, f_plus, false, []⟩
theorem b14 : Bd e14 := bd_plain (by decide +kernel) rfl (by decide +kernel)
def e15 : Ent := ⟨top 23, f_opposite, false, []⟩
theorem b15 : Bd e15 := bd_plain (by decide +kernel) rfl (by decide +kernel)
def e16 : Ent := ⟨top 27, f_minus, false, []⟩
theorem b16 : Bd e16 := bd_plain (by decide +kernel) rfl (by decide +kernel)
def e17 : Ent := ⟨top 18, f_number, false, [1]⟩
theorem b17 : Bd e17 := by
  intro K fd f F j hj
  have hj : j ≤ 1 := hj
  match j, hj with
  | 0, _ => exact FunD.binds1 F 1 0 (by decide) rfl fun T kV doc pm an cdv ct us its h1 h2 => match us, its, h1, h2 with
    | [_], [_], _, _ => ⟨_, rfl, rfl⟩
  | 1, _ => exact FunD.binds1 F 2 1 (by decide) rfl fun T kV doc pm an cdv ct us its h1 h2 => match us, its, h1, h2 with
    | [_, _], [_], _, _ => ⟨_, rfl, rfl⟩
def e18 : Ent := ⟨top 22, f_multiplied, false, []⟩
theorem b18 : Bd e18 := bd_plain (by decide +kernel) rfl (by decide +kernel)
def e19 : Ent := ⟨top 28, f_times, false, []⟩
theorem b19 : Bd e19 := bd_plain (by decide +kernel) rfl (by decide +kernel)
def e20 : Ent := ⟨top 30, f_compared, false, []⟩
theorem b20 : Bd e20 := bd_plain (by decide +kernel) rfl (by decide +kernel)
def e21 : Ent := ⟨top 24, f_divided, false, []⟩
theorem b21 : Bd e21 := bd_plain (by decide +kernel) rfl (by decide +kernel)
def e22 : Ent := ⟨top 29, f_over, false, []⟩
theorem b22 : Bd e22 := bd_plain (by decide +kernel) rfl (by decide +kernel)
def e23 : Ent := ⟨top 25, f_sum_of, false, []⟩
theorem b23 : Bd e23 := bd_plain (by decide +kernel) rfl (by decide +kernel)
def e24 : Ent := ⟨top 31, f_total, false, []⟩
theorem b24 : Bd e24 := bd_plain (by decide +kernel) rfl (by decide +kernel)
def e25 : Ent := ⟨top 20, f_require_count, false, [0, 60]⟩
theorem b25 : Bd e25 := by
  intro K fd f F j hj
  have hj : j ≤ 2 := hj
  match j, hj with
  | 0, _ => exact FunD.binds1 F 1 0 (by decide) rfl fun T kV doc pm an cdv ct us its h1 h2 => match us, its, h1, h2 with
    | [_], [_, _], _, _ => ⟨_, rfl, rfl⟩
  | 1, _ => exact FunD.binds1 F 2 1 (by decide) rfl fun T kV doc pm an cdv ct us its h1 h2 => match us, its, h1, h2 with
    | [_, _], [_, _], _, _ => ⟨_, rfl, rfl⟩
  | 2, _ => exact FunD.binds1 F 3 2 (by decide) rfl fun T kV doc pm an cdv ct us its h1 h2 => match us, its, h1, h2 with
    | [_, _, _], [_, _], _, _ => ⟨_, rfl, rfl⟩
def e26 : Ent := ⟨top 32, f_power, false, []⟩
theorem b26 : Bd e26 := bd_plain (by decide +kernel) rfl (by decide +kernel)
def e27 : Ent := ⟨top 42, f__law_right, false, []⟩
theorem b27 : Bd e27 := bd_plain (by decide +kernel) rfl (by decide +kernel)
def e28 : Ent := ⟨top 43, f_law, false, []⟩
theorem b28 : Bd e28 := bd_plain (by decide +kernel) rfl (by decide +kernel)
theorem bds : Fo.AllP Bd row.es := ⟨b0, b1, b2, b3, b4, b5, b6, b7, b8, b9, b10, b11, b12, b13, b14, b15, b16, b17, b18, b19, b20, b21, b22, b23, b24, b25, b26, b27, b28, trivial⟩
theorem sc_law : scOk e28 = true := by decide +kernel
theorem ar_law : argsOk (defArgs e28.s) e28.ps = true := by decide +kernel
theorem ps_law : e28.ps = [("script" : PySem.Str)] := by decide +kernel
theorem x_law : (HandSHeadRun.topDef R.prog lawIx).name = e28.x := by decide +kernel
end K22
open PySem PySem.W PySem.Calls PyProof.Rows
theorem K22.holds_of (main : ∀ ns : List Int, ns.length ≤ 63 → Fo.callF (Fo.tblOf K22.ents) 30 28 [.d (.fz (ns.map .int))] [] = some (.ok (.d (.bl true)) [])) : PySem.Challenge.rw_fairoffers_k22_errors_and_judges_of_numb.Holds := by
  w_on; o_law
  refine HandSHeadRun.head_any (r := K22.R) (q := view K22.R.prog [K22.lawIx]) (H := K22.hk) (ob := K22.ob) (M := 4000) (loose := K22.loose) (d := HandSHeadRun.topDef K22.R.prog K22.lawIx) (kwd := []) K22.ob_eq
    (by kernel_rfl) (fun s => by kernel_rfl) K22.run (by kernel_rfl) (by kernel_rfl) (by kernel_rfl) (by rfl) (by first | assumption | decide +kernel) (by decide +kernel) ⟨rfl, rfl, rfl, rfl, rfl, by decide +kernel⟩ ?hw ?hc
  case hw => w_witness2
  case hc =>
    refine Att.attach_call (l := PySem.Challenge.rw_fairoffers_k22_errors_and_judges_of_numb) (n := 63) rfl (by kernel_rfl) fun w s0 s1 mg mb f o pm cd doc a us ns G Y ho hd hcd hmg hobj hints hlen hg => ?_
    obtain ⟨K, KX, c⟩ := Y
    have fs := Fo.facts_of (r := K22.row) KX G.T.g c
    have em : K22.e28 ∈ K22.row.es := List.mem_of_getElem? (i := 28) rfl
    obtain ⟨fd, F⟩ := fs.def_ K22.e28 em
    have hmg : mg K22.e28.x = some (.ref f) := by
      rw [← K22.x_law]
      exact hmg
    have ef : He.ga K K22.e28.x = f := by
      have z := (fs.glo K22.e28 em).symm.trans hmg
      cases z
      rfl
    have Fl := fun (base : Heap) (nd : base.NoDigits) (sr : base.NoSeer) (tb : ∀ x ∈ K22.row.lamS, LamX.TabB base mg (He.cT K (x, none)).1 (He.cT K (x, none)).2) => Fo.tab_fnG (P := PySem.Challenge.rw_fairoffers_k22_errors_and_judges_of_numb.prog) (w := w) (base := base) (by rfl) (by rfl) (by decide +kernel) nd sr fs K22.chk K22.bds tb 30 28 K22.e28 rfl fd F false (fun z => by cases z)
    have bn := Fo.bd_law F K22.ar_law K22.sc_law K22.ps_law
    rw [ef, K22.ps_law] at Fl
    refine Fo.lawG (k := 3 * 30 + 40) (cs := K22.row.lamS.map fun x => He.cT K (x, none)) KX G.T.g G.T.b G.T.builtins G.T.nolimit G.T.nodigits (G.T.seer (by decide +kernel)) hg (fun p hp => ?_) (fun p hp => ?_) (fun p hp => ?_) G.T.bmain hobj hints (Nat.le_trans hlen (by decide)) ⟨rfl, by decide, by decide⟩ (fun base _ _ nd sr tb => Fl base nd sr fun x hx => tb _ (List.mem_map.mpr ⟨x, hx, rfl⟩)) bn fun H hT hS => ?_
    · obtain ⟨x, hx, e⟩ := List.mem_map.mp hp
      subst e
      exact c.empty x hx
    · obtain ⟨x, hx, e⟩ := List.mem_map.mp hp
      subst e
      exact c.out x hx
    · obtain ⟨x, hx, e⟩ := List.mem_map.mp hp
      subst e
      exact PySem.W.codeHd_of_K KX (c.hd x hx)
    · refine Fo.sp_of (ad := Fo.adOf K22.row K) (fun i Pa _ h => ?_) hS (Nat.le_trans hlen (by decide)) (main ns hlen)
      obtain ⟨x, _, x2, x3⟩ := Fo.ad_lam h
      rw [x3]
      exact hT _ (List.mem_map.mpr ⟨x, x2, rfl⟩)
end -- K22c

section -- K22p
set_option Elab.async false
set_option linter.all false
set_option maxRecDepth 100000
set_option maxHeartbeats 4000000
/-! K22p: the judges' answers at every pair of the law's values, by the kernel. -/
namespace K22
open PySem Fo
def T : Nat → Option Fn := tblOf ents
def dropS : Nat → Ss → Ss
  | 0, s => s
  | n + 1, .cons _ s => dropS n s
  | _ + 1, .nil => .nil
def isT (r : Option (Res Out)) : Bool := match r with
  | some (.ok (.rt (.d (.bl true))) _) => true
  | _ => false
def sl0 (x y : PV) : Slots := [none, none, none, none, none, some (.d x), some (.d y), none, none, none, none]
def pairB (x y : PV) : Bool := isT (evSs (callF T 28) (dropS 1 f__law_right.body) (sl0 x y) [])
def S (x : String) : PV := .str (Str.ofString x)
def someL : List PV := [.non, .bl true, .bl false, .int 0, .int 1, .int (-3), .int (10 ^ 39), .int (10 ^ 40), .int (0 - 10 ^ 40), S "a", S "", S "up.2", S "2up", S "Up", S "a b", S "abcdefghijkl", S "abcdefghijklm", .tup [], .tup [.int 0, .int 1], .tup [.int 1, .int 1], .tup [.int 2, .int 4], .tup [.int 0, .int 2], .tup [.int 1, .int 0], .tup [.int 1, .int (-2)], .tup [.int (-1), .int 2], .tup [.bl true, .int 1], .tup [.int 1, .bl true], .lst [.int 1, .int 2], .tup [.int 1], .tup [.int 1, .int 2, .int 3], .tup [.int (10 ^ 39 + 1), .int (10 ^ 39)], .tup [.tup [.int 1, .int 1], .int 1], .tup [S "1", .int 1], .tup [.non, .int 1], S "1/2", .dic [], .dic [(1, 2)], S ".a", S "a."]
theorem p0 : someL.all (pairB (.non)) = true := by decide +kernel
theorem p1 : someL.all (pairB (.bl true)) = true := by decide +kernel
theorem p2 : someL.all (pairB (.bl false)) = true := by decide +kernel
theorem p3 : someL.all (pairB (.int 0)) = true := by decide +kernel
theorem p4 : someL.all (pairB (.int 1)) = true := by decide +kernel
theorem p5 : someL.all (pairB (.int (-3))) = true := by decide +kernel
theorem p6 : someL.all (pairB (.int (10 ^ 39))) = true := by decide +kernel
theorem p7 : someL.all (pairB (.int (10 ^ 40))) = true := by decide +kernel
theorem p8 : someL.all (pairB (.int (0 - 10 ^ 40))) = true := by decide +kernel
theorem p9 : someL.all (pairB (S "a")) = true := by decide +kernel
theorem p10 : someL.all (pairB (S "")) = true := by decide +kernel
theorem p11 : someL.all (pairB (S "up.2")) = true := by decide +kernel
theorem p12 : someL.all (pairB (S "2up")) = true := by decide +kernel
theorem p13 : someL.all (pairB (S "Up")) = true := by decide +kernel
theorem p14 : someL.all (pairB (S "a b")) = true := by decide +kernel
theorem p15 : someL.all (pairB (S "abcdefghijkl")) = true := by decide +kernel
theorem p16 : someL.all (pairB (S "abcdefghijklm")) = true := by decide +kernel
theorem p17 : someL.all (pairB (.tup [])) = true := by decide +kernel
theorem p18 : someL.all (pairB (.tup [.int 0, .int 1])) = true := by decide +kernel
theorem p19 : someL.all (pairB (.tup [.int 1, .int 1])) = true := by decide +kernel
theorem p20 : someL.all (pairB (.tup [.int 2, .int 4])) = true := by decide +kernel
theorem p21 : someL.all (pairB (.tup [.int 0, .int 2])) = true := by decide +kernel
theorem p22 : someL.all (pairB (.tup [.int 1, .int 0])) = true := by decide +kernel
theorem p23 : someL.all (pairB (.tup [.int 1, .int (-2)])) = true := by decide +kernel
theorem p24 : someL.all (pairB (.tup [.int (-1), .int 2])) = true := by decide +kernel
theorem p25 : someL.all (pairB (.tup [.bl true, .int 1])) = true := by decide +kernel
theorem p26 : someL.all (pairB (.tup [.int 1, .bl true])) = true := by decide +kernel
theorem p27 : someL.all (pairB (.lst [.int 1, .int 2])) = true := by decide +kernel
theorem p28 : someL.all (pairB (.tup [.int 1])) = true := by decide +kernel
theorem p29 : someL.all (pairB (.tup [.int 1, .int 2, .int 3])) = true := by decide +kernel
theorem p30 : someL.all (pairB (.tup [.int (10 ^ 39 + 1), .int (10 ^ 39)])) = true := by decide +kernel
theorem p31 : someL.all (pairB (.tup [.tup [.int 1, .int 1], .int 1])) = true := by decide +kernel
theorem p32 : someL.all (pairB (.tup [S "1", .int 1])) = true := by decide +kernel
theorem p33 : someL.all (pairB (.tup [.non, .int 1])) = true := by decide +kernel
theorem p34 : someL.all (pairB (S "1/2")) = true := by decide +kernel
theorem p35 : someL.all (pairB (.dic [])) = true := by decide +kernel
theorem p36 : someL.all (pairB (.dic [(1, 2)])) = true := by decide +kernel
theorem p37 : someL.all (pairB (S ".a")) = true := by decide +kernel
theorem p38 : someL.all (pairB (S "a.")) = true := by decide +kernel
theorem ps : Fo.AllP (fun x => someL.all (pairB x) = true) someL := ⟨p0, p1, p2, p3, p4, p5, p6, p7, p8, p9, p10, p11, p12, p13, p14, p15, p16, p17, p18, p19, p20, p21, p22, p23, p24, p25, p26, p27, p28, p29, p30, p31, p32, p33, p34, p35, p36, p37, p38, trivial⟩
theorem pairs {x y : PV} (hx : x ∈ someL) (hy : y ∈ someL) : pairB x y = true := List.all_eq_true.mp (ps.get x hx) y hy
/-- the law's last words -/
def endB : Bool := isT (evSs (callF T 29) (dropS 1 f_law.body) [none, none, none, none, none] [])
theorem endT : endB = true := by decide +kernel
end K22
end -- K22p

section -- K22d
set_option Elab.async false
set_option linter.all false
set_option maxRecDepth 100000
set_option maxHeartbeats 4000000
set_option exponentiation.threshold 14000
namespace K22
open PySem Fo
/-! ### the dice -/
theorem s_roll {n l k : Nat} {many : Int} {st : Store} (hn : 1 ≤ n) (h : DS st l k) (hk : k ≤ 1000000) (hm : 0 < many) (hm2 : many.natAbs < 2 ^ 100) : Wp (callF T n ix__law_roll [.r l, .d (.int many)] st) fun v s => ∃ r : Int, v = .d (.int r) ∧ 0 ≤ r ∧ r < many ∧ DS s l (k + 1) ∧ s.length = st.length := by
  obtain ⟨m, rfl⟩ : ∃ m, n = m + 1 := ⟨n - 1, by omega⟩
  rw [callF_at (fn := f__law_roll) rfl]
  obtain ⟨a, b, c, h1, ⟨ha, ha2⟩, ⟨hb, hb2⟩, hc, hc2⟩ := h
  have hl := (List.getElem?_eq_some_iff.mp h1).1
  have m0 : many ≠ 0 := by omega
  refine Wp.run rfl ?_
  show Wp (evSs (callF T m) f__law_roll.body [some (.r l), some (.d (.int many)), none, none, none] st) _
  by_cases c0 : 0 < a
  · simp only [f__law_roll, q_seti, get0 h1, set0 h1, decide_eq_true c0, m0, ne_eq, not_false_eq_true, and_self, q_nil, q_cons, q_set, q_par, q_par3, q_ifs, q_ret, q_ex, e_slot, e_non, e_bl, e_int, e_str, e_glob, e_fnv, e_tup, e_lst, e_bin, e_neg, e_not, e_cmp, e_chain, e_and, e_or, e_one, e_ifx, e_ix, e_cut, e_rev, e_call, e_bi, e_isi, a_nil, a_cons, o_no, o_ye, d_nil, d_cons, w_ov, ok_bnd, bnd_bnd, rd_d, ofO_some, asD_d, asI_int, asB_bl, op2_d, cmp2_d, ix2_d, biOf1, biOf2, v_add, v_sub, v_mul, v_mulT, v_mulL, v_fdiv, v_mod, v_pow, v_catT, v_catL, v_catS, c_eq, c_ne, c_lt, c_le, c_gt, c_ge, c_isn, c_notn, x_tup, x_lst, x_fz, b_lenT, b_lenL, b_lenF, b_abs, b_int, b_intB, b_max, b_min, b_tupT, b_tupL, b_lstT, b_lstL, b_all, b_any, b_repr, rev_lst, tyOk, eqv_int, abs_nat, at0, at1, GC.val, List.getElem?_cons_zero, List.getElem?_cons_succ, List.set_cons_zero, List.set_cons_succ, List.append_nil, List.nil_append, List.cons_append, List.map_nil, List.map_cons, Option.map_some, List.length_cons, List.length_nil, Bool.not_true, Bool.not_false, if_true, if_false, Bool.false_eq_true, items]
    refine Wp.ok ⟨_, rfl, a.fmod many, rfl, fm_lo a hm, fm_hi a hm, ?_, ?_⟩
    · rw [take_self (by rw [List.length_set])]
      refine ⟨a.fdiv many, b, c, List.getElem?_set_self hl, ⟨?_, ?_⟩, ⟨hb, hb2⟩, hc, by omega⟩
      · exact Int.fdiv_nonneg ha (Int.le_of_lt hm)
      · rw [Int.fdiv_eq_ediv_of_nonneg _ (Int.le_of_lt hm)]
        refine Nat.lt_of_le_of_lt ?_ ha2
        exact Int.natAbs_ediv_le_natAbs a many
    · rw [take_self (by rw [List.length_set]), List.length_set]
  · have e1 : (c + 1).natAbs < 2 ^ 30 := by omega
    have o1 : mulOk 49979687 (c + 1) = true := mulOk_of (k := 30) (l := 30) (by decide) e1 (by decide)
    have o2 : mulOk 131 (c + 1) = true := mulOk_of (k := 30) (l := 30) (by decide) e1 (by decide)
    have p1 : (0 : Int) < 2305843009213693951 := by decide
    have p2 : (0 : Int) < 2305843009213693921 := by decide
    have p3 : (0 : Int) < 65587 := by decide
    have hs : (st.set l (.lst [.int a, .int b, .int (c + 1)]))[l]? = some (.lst [.int a, .int b, .int (c + 1)]) := List.getElem?_set_self hl
    have b1 := fm_lo (b + 49979687 * (c + 1)) p1
    have b2 := fm_hi (b + 49979687 * (c + 1)) p1
    generalize ho : (b + 49979687 * (c + 1)).fmod 2305843009213693951 = one at b1 b2
    have a1 : one.natAbs < 2 ^ 62 := by omega
    have o3 : mulOk one one = true := mulOk_of a1 a1 (by decide)
    have b3 := fm_lo (one * one + 131 * (c + 1)) p2
    have b4 := fm_hi (one * one + 131 * (c + 1)) p2
    generalize ht : (one * one + 131 * (c + 1)).fmod 2305843009213693921 = two at b3 b4
    have a2 : two.natAbs < 2 ^ 62 := by omega
    have o4 : mulOk two 32452843 = true := mulOk_of (l := 30) a2 (by decide) (by decide)
    have p3' : (65587 : Int) ≠ 0 := by decide
    have p1' : (2305843009213693951 : Int) ≠ 0 := by decide
    have p2' : (2305843009213693921 : Int) ≠ 0 := by decide
    simp only [f__law_roll, q_seti, get0 h1, get1 hs, get2 h1, get2 hs, set2 h1, decide_eq_false c0, m0, o1, o2, o3, o4, ho, ht, p1', p2', p3', ne_eq, not_false_eq_true, and_self, q_nil, q_cons, q_set, q_par, q_par3, q_ifs, q_ret, q_ex, e_slot, e_non, e_bl, e_int, e_str, e_glob, e_fnv, e_tup, e_lst, e_bin, e_neg, e_not, e_cmp, e_chain, e_and, e_or, e_one, e_ifx, e_ix, e_cut, e_rev, e_call, e_bi, e_isi, a_nil, a_cons, o_no, o_ye, d_nil, d_cons, w_ov, ok_bnd, bnd_bnd, rd_d, ofO_some, asD_d, asI_int, asB_bl, op2_d, cmp2_d, ix2_d, biOf1, biOf2, v_add, v_sub, v_mul, v_mulT, v_mulL, v_fdiv, v_mod, v_pow, v_catT, v_catL, v_catS, c_eq, c_ne, c_lt, c_le, c_gt, c_ge, c_isn, c_notn, x_tup, x_lst, x_fz, b_lenT, b_lenL, b_lenF, b_abs, b_int, b_intB, b_max, b_min, b_tupT, b_tupL, b_lstT, b_lstL, b_all, b_any, b_repr, rev_lst, tyOk, eqv_int, abs_nat, at0, at1, GC.val, List.getElem?_cons_zero, List.getElem?_cons_succ, List.set_cons_zero, List.set_cons_succ, List.append_nil, List.nil_append, List.cons_append, List.map_nil, List.map_cons, Option.map_some, List.length_cons, List.length_nil, Bool.not_true, Bool.not_false, if_true, if_false, Bool.false_eq_true, items]
    refine Wp.ok ⟨_, rfl, ((two * 32452843 + one).fdiv 65587).fmod many, rfl, fm_lo _ hm, fm_hi _ hm, ?_, ?_⟩
    · rw [take_self (by rw [List.length_set])]
      exact ⟨a, b, c + 1, hs, ⟨ha, ha2⟩, ⟨hb, hb2⟩, by omega, by omega⟩
    · rw [take_self (by rw [List.length_set]), List.length_set]
theorem s_pick {n l k : Nat} {xs : List PV} {st : Store} (hn : 2 ≤ n) (h : DS st l k) (hk : k ≤ 1000000) (hx : xs ≠ []) (hx2 : xs.length ≤ 1000000) : Wp (callF T n ix__law_pick [.r l, .d (.lst xs)] st) fun v s => ∃ x, x ∈ xs ∧ v = .d x ∧ DS s l (k + 1) ∧ s.length = st.length := by
  obtain ⟨m, rfl⟩ : ∃ m, n = m + 1 := ⟨n - 1, by omega⟩
  rw [callF_at (fn := f__law_pick) rfl]
  refine Wp.run rfl ?_
  show Wp (evSs (callF T m) f__law_pick.body [some (.r l), some (.d (.lst xs))] st) _
  have hl : 0 < xs.length := List.length_pos_iff.mpr hx
  have q := s_roll (n := m) (many := (xs.length : Int)) (by omega) h hk (by omega) (by
    have : (1000000 : Nat) < 2 ^ 100 := by decide
    omega)
  simp only [f__law_pick, q_nil, q_cons, q_set, q_par, q_par3, q_ifs, q_ret, q_ex, e_slot, e_non, e_bl, e_int, e_str, e_glob, e_fnv, e_tup, e_lst, e_bin, e_neg, e_not, e_cmp, e_chain, e_and, e_or, e_one, e_ifx, e_ix, e_cut, e_rev, e_call, e_bi, e_isi, a_nil, a_cons, o_no, o_ye, d_nil, d_cons, w_ov, ok_bnd, bnd_bnd, rd_d, ofO_some, asD_d, asI_int, asB_bl, op2_d, cmp2_d, ix2_d, biOf1, biOf2, v_add, v_sub, v_mul, v_mulT, v_mulL, v_fdiv, v_mod, v_pow, v_catT, v_catL, v_catS, c_eq, c_ne, c_lt, c_le, c_gt, c_ge, c_isn, c_notn, x_tup, x_lst, x_fz, b_lenT, b_lenL, b_lenF, b_abs, b_int, b_intB, b_max, b_min, b_tupT, b_tupL, b_lstT, b_lstL, b_all, b_any, b_repr, rev_lst, tyOk, eqv_int, abs_nat, at0, at1, GC.val, List.getElem?_cons_zero, List.getElem?_cons_succ, List.set_cons_zero, List.set_cons_succ, List.append_nil, List.nil_append, List.cons_append, List.map_nil, List.map_cons, Option.map_some, List.length_cons, List.length_nil, Bool.not_true, Bool.not_false, if_true, if_false, Bool.false_eq_true, items]
  refine Wp.bnd q ?_
  rintro v s ⟨r, rfl, r1, r2, r3, r4⟩
  have e : L2.atI xs r = some (xs[r.toNat]'(by omega)) := by
    unfold L2.atI L2.ixN
    rw [if_pos r1, if_pos r2]
    show xs[r.toNat]? = _
    exact List.getElem?_eq_getElem (by omega)
  simp only [e, q_nil, q_cons, q_set, q_par, q_par3, q_ifs, q_ret, q_ex, e_slot, e_non, e_bl, e_int, e_str, e_glob, e_fnv, e_tup, e_lst, e_bin, e_neg, e_not, e_cmp, e_chain, e_and, e_or, e_one, e_ifx, e_ix, e_cut, e_rev, e_call, e_bi, e_isi, a_nil, a_cons, o_no, o_ye, d_nil, d_cons, w_ov, ok_bnd, bnd_bnd, rd_d, ofO_some, asD_d, asI_int, asB_bl, op2_d, cmp2_d, ix2_d, biOf1, biOf2, v_add, v_sub, v_mul, v_mulT, v_mulL, v_fdiv, v_mod, v_pow, v_catT, v_catL, v_catS, c_eq, c_ne, c_lt, c_le, c_gt, c_ge, c_isn, c_notn, x_tup, x_lst, x_fz, b_lenT, b_lenL, b_lenF, b_abs, b_int, b_intB, b_max, b_min, b_tupT, b_tupL, b_lstT, b_lstL, b_all, b_any, b_repr, rev_lst, tyOk, eqv_int, abs_nat, at0, at1, GC.val, List.getElem?_cons_zero, List.getElem?_cons_succ, List.set_cons_zero, List.set_cons_succ, List.append_nil, List.nil_append, List.cons_append, List.map_nil, List.map_cons, Option.map_some, List.length_cons, List.length_nil, Bool.not_true, Bool.not_false, if_true, if_false, Bool.false_eq_true, items]
  refine Wp.ok ⟨_, rfl, xs[r.toNat]'(by omega), List.getElem_mem _, rfl, ?_⟩
  rw [take_self r4]
  exact ⟨r3, r4⟩
theorem s_dice {n : Nat} {ns : List Int} {i : Nat} (hn : 1 ≤ n) (hl : ns.length ≤ 63) (hi : i ≤ 100) : ∃ a b : Int, callF T n ix__law_dice [.d (.fz (ns.map .int)), .d (.int i)] = ok (.d (.lst [.int a, .int b, .int 0])) ∧ (0 ≤ a ∧ a.natAbs < 2 ^ 1100) ∧ (0 ≤ b ∧ b.natAbs < 2 ^ 80) := by
  obtain ⟨m, rfl⟩ : ∃ m, n = m + 1 := ⟨n - 1, by omega⟩
  rw [callF_at (fn := f__law_dice) rfl]
  have fin : ∀ cell : Int, ∃ a b : Int, evSs (callF T m) (.cons (.set 3 (.bin .mod (.bi .int (.cons (.bi .abs (.cons (.slot 2) .nil)) .nil)) (.bin .pow (.bin .pow (.int 10) (.int 53)) (.int 6))))
      (.cons (.set 4 (.bin .add (.bin .add (.bin .add (.bin .mul (.bin .mod (.slot 3) (.int 2305843009213693907)) (.int 73)) (.bin .mul (.int 619) (.slot 1))) (.bin .mul (.int 41) (.bi .int (.cons (.cmp .lt (.slot 2) (.int 0)) .nil)))) (.int 17)))
      (.cons (.ret (.lst (.cons (.bi .max2 (.cons (.int 0) (.cons (.bin .sub (.slot 3) (.bin .pow (.int 10) (.int 16))) .nil))) (.cons (.slot 4) (.cons (.int 0) .nil))))) .nil)))
      [some (.d (.fz (ns.map .int))), some (.d (.int i)), some (.d (.int cell)), none, none] = ok (.rt (.d (.lst [.int a, .int b, .int 0]))) ∧ (0 ≤ a ∧ a.natAbs < 2 ^ 1100) ∧ (0 ≤ b ∧ b.natAbs < 2 ^ 80) := by
    intro cell
    have w1 : powOk 10 53 = true := by decide +kernel
    have w2 : powOk (10 ^ Int.toNat 53) 6 = true := by decide +kernel
    have w3 : powOk 10 16 = true := by decide +kernel
    have big0 : (0 : Int) < (10 ^ Int.toNat 53) ^ Int.toNat 6 := by decide +kernel
    have big1 : ((10 ^ Int.toNat 53 : Int) ^ Int.toNat 6) < 2 ^ 1100 := by decide +kernel
    have big2 : ((10 ^ Int.toNat 53 : Int) ^ Int.toNat 6) ≠ 0 := by omega
    have g1 := fm_lo (cell.natAbs : Int) big0
    have g2 := fm_hi (cell.natAbs : Int) big0
    generalize hg : (cell.natAbs : Int).fmod ((10 ^ Int.toNat 53 : Int) ^ Int.toNat 6) = great at g1 g2
    have p0 : (0 : Int) < 2305843009213693907 := by decide
    have p0' : (2305843009213693907 : Int) ≠ 0 := by decide
    have e1 := fm_lo great p0
    have e2 := fm_hi great p0
    generalize he : great.fmod 2305843009213693907 = sm at e1 e2
    have o1 : mulOk sm 73 = true := mulOk_of (k := 62) (l := 10) (by omega) (by decide) (by decide)
    have o2 : mulOk 619 (i : Int) = true := mulOk_of (k := 20) (l := 20) (by decide) (by omega) (by decide)
    have o3 : ∀ c : Bool, mulOk 41 (if c = true then 1 else 0) = true := by
      intro c
      cases c <;> decide
    have hc : ∀ c : Bool, (0 : Int) ≤ (if c = true then 1 else 0) ∧ (if c = true then (1 : Int) else 0) ≤ 1 := by
      intro c
      cases c <;> decide
    have hc' := hc (decide (cell < 0))
    simp only [w1, w2, w3, big2, hg, he, p0', o1, o2, o3, ne_eq, not_false_eq_true, q_nil, q_cons, q_set, q_par, q_par3, q_ifs, q_ret, q_ex, e_slot, e_non, e_bl, e_int, e_str, e_glob, e_fnv, e_tup, e_lst, e_bin, e_neg, e_not, e_cmp, e_chain, e_and, e_or, e_one, e_ifx, e_ix, e_cut, e_rev, e_call, e_bi, e_isi, a_nil, a_cons, o_no, o_ye, d_nil, d_cons, w_ov, ok_bnd, bnd_bnd, rd_d, ofO_some, asD_d, asI_int, asB_bl, op2_d, cmp2_d, ix2_d, biOf1, biOf2, v_add, v_sub, v_mul, v_mulT, v_mulL, v_fdiv, v_mod, v_pow, v_catT, v_catL, v_catS, c_eq, c_ne, c_lt, c_le, c_gt, c_ge, c_isn, c_notn, x_tup, x_lst, x_fz, b_lenT, b_lenL, b_lenF, b_abs, b_int, b_intB, b_max, b_min, b_tupT, b_tupL, b_lstT, b_lstL, b_all, b_any, b_repr, rev_lst, tyOk, eqv_int, abs_nat, at0, at1, GC.val, List.getElem?_cons_zero, List.getElem?_cons_succ, List.set_cons_zero, List.set_cons_succ, List.append_nil, List.nil_append, List.cons_append, List.map_nil, List.map_cons, Option.map_some, List.length_cons, List.length_nil, Bool.not_true, Bool.not_false, if_true, if_false, Bool.false_eq_true, items]
    generalize hcc : (if decide (cell < 0) = true then (1 : Int) else 0) = cc at hc'
    refine ⟨_, _, rfl, ?_, ?_⟩
    · have k16 : (0 : Int) ≤ 10 ^ Int.toNat 16 := by decide +kernel
      generalize (10 : Int) ^ Int.toNat 16 = t at k16
      have k1100 : (0 : Int) < 2 ^ 1100 := by decide +kernel
      have c1100 : ((2 ^ 1100 : Nat) : Int) = 2 ^ 1100 := by decide +kernel
      generalize (10 ^ Int.toNat 53 : Int) ^ Int.toNat 6 = u at *
      have lt2 : great < ((2 ^ 1100 : Nat) : Int) := by rw [c1100]; omega
      generalize (2 : Nat) ^ 1100 = w at *
      split <;> omega
    · have : (2 : Nat) ^ 80 = 1208925819614629174706176 := by decide
      omega
  have start : ∃ cell : Int, evS (callF T m) (.set 2 (.ifx (.cmp .lt (.slot 1) (.bi .len (.cons (.slot 0) .nil))) (.bi .int (.cons (.ix (.slot 0) (.slot 1)) .nil)) (.bin .add (.bin .mul (.int 131) (.slot 1)) (.int 37)))) [some (.d (.fz (ns.map .int))), some (.d (.int i)), none, none, none] = ok (.nx [some (.d (.fz (ns.map .int))), some (.d (.int i)), some (.d (.int cell)), none, none]) := by
    by_cases c : (i : Int) < ((ns.map PV.int).length : Int)
    · have ci : i < ns.length := by rw [List.length_map] at c; omega
      have e : L2.atI (ns.map PV.int) (i : Int) = some (.int (ns[i]'ci)) := by
        unfold L2.atI L2.ixN
        rw [if_pos (Int.natCast_nonneg i), if_pos c]
        show (ns.map PV.int)[i]? = _
        rw [List.getElem?_map, List.getElem?_eq_getElem ci]
        rfl
      refine ⟨ns[i]'ci, ?_⟩
      simp only [decide_eq_true c, e, q_nil, q_cons, q_set, q_par, q_par3, q_ifs, q_ret, q_ex, e_slot, e_non, e_bl, e_int, e_str, e_glob, e_fnv, e_tup, e_lst, e_bin, e_neg, e_not, e_cmp, e_chain, e_and, e_or, e_one, e_ifx, e_ix, e_cut, e_rev, e_call, e_bi, e_isi, a_nil, a_cons, o_no, o_ye, d_nil, d_cons, w_ov, ok_bnd, bnd_bnd, rd_d, ofO_some, asD_d, asI_int, asB_bl, op2_d, cmp2_d, ix2_d, biOf1, biOf2, v_add, v_sub, v_mul, v_mulT, v_mulL, v_fdiv, v_mod, v_pow, v_catT, v_catL, v_catS, c_eq, c_ne, c_lt, c_le, c_gt, c_ge, c_isn, c_notn, x_tup, x_lst, x_fz, b_lenT, b_lenL, b_lenF, b_abs, b_int, b_intB, b_max, b_min, b_tupT, b_tupL, b_lstT, b_lstL, b_all, b_any, b_repr, rev_lst, tyOk, eqv_int, abs_nat, at0, at1, GC.val, List.getElem?_cons_zero, List.getElem?_cons_succ, List.set_cons_zero, List.set_cons_succ, List.append_nil, List.nil_append, List.cons_append, List.map_nil, List.map_cons, Option.map_some, List.length_cons, List.length_nil, Bool.not_true, Bool.not_false, if_true, if_false, Bool.false_eq_true, items]
    · have o : mulOk 131 (i : Int) = true := mulOk_of (k := 20) (l := 20) (by decide) (by omega) (by decide)
      refine ⟨131 * i + 37, ?_⟩
      simp only [decide_eq_false c, o, q_nil, q_cons, q_set, q_par, q_par3, q_ifs, q_ret, q_ex, e_slot, e_non, e_bl, e_int, e_str, e_glob, e_fnv, e_tup, e_lst, e_bin, e_neg, e_not, e_cmp, e_chain, e_and, e_or, e_one, e_ifx, e_ix, e_cut, e_rev, e_call, e_bi, e_isi, a_nil, a_cons, o_no, o_ye, d_nil, d_cons, w_ov, ok_bnd, bnd_bnd, rd_d, ofO_some, asD_d, asI_int, asB_bl, op2_d, cmp2_d, ix2_d, biOf1, biOf2, v_add, v_sub, v_mul, v_mulT, v_mulL, v_fdiv, v_mod, v_pow, v_catT, v_catL, v_catS, c_eq, c_ne, c_lt, c_le, c_gt, c_ge, c_isn, c_notn, x_tup, x_lst, x_fz, b_lenT, b_lenL, b_lenF, b_abs, b_int, b_intB, b_max, b_min, b_tupT, b_tupL, b_lstT, b_lstL, b_all, b_any, b_repr, rev_lst, tyOk, eqv_int, abs_nat, at0, at1, GC.val, List.getElem?_cons_zero, List.getElem?_cons_succ, List.set_cons_zero, List.set_cons_succ, List.append_nil, List.nil_append, List.cons_append, List.map_nil, List.map_cons, Option.map_some, List.length_cons, List.length_nil, Bool.not_true, Bool.not_false, if_true, if_false, Bool.false_eq_true, items]
  obtain ⟨cell, hs⟩ := start
  obtain ⟨a, b, hf, ha, hb2⟩ := fin cell
  refine ⟨a, b, run_rt rfl ?_, ha, hb2⟩
  show evSs (callF T m) f__law_dice.body [some (.d (.fz (ns.map .int))), some (.d (.int i)), none, none, none] = _
  rw [f__law_dice]
  dsimp only
  rw [q_cons, hs, ok_bnd]
  exact hf
theorem isT_some {r : Option (Res Out)} (h : isT r = true) : ∃ t, r = some (.ok (.rt (.d (.bl true))) t) := by
  unfold isT at h
  split at h
  · exact ⟨_, rfl⟩
  · cases h
theorem e_dic0 {cl : Cl} {sl : Slots} : evE cl .dic0 sl = ok (.d (.dic [])) := by rw [evE]
theorem e_dic1 {cl : Cl} {sl : Slots} {k v : Int} : evE cl (.dic1 k v) sl = ok (.d (.dic [(k, v)])) := by rw [evE]
theorem s_some {n l k : Nat} {st : Store} (hn : 3 ≤ n) (h : DS st l k) (hk : k ≤ 1000000) : Wp (callF T n ix__law_some [.r l] st) fun v s => ∃ x, x ∈ someL ∧ v = .d x ∧ DS s l (k + 1) ∧ s.length = st.length := by
  obtain ⟨m, rfl⟩ : ∃ m, n = m + 1 := ⟨n - 1, by omega⟩
  rw [callF_at (fn := f__law_some) rfl]
  refine Wp.run rfl ?_
  show Wp (evSs (callF T m) f__law_some.body [some (.r l), none] st) _
  have w1 : powOk 10 39 = true := by decide +kernel
  have w2 : powOk 10 40 = true := by decide +kernel
  have l1 : (0 + 1 + 1 + 1 + 1 + 1 + 1 + 1 + 1 + 1 + 1 + 1 + 1 + 1 + 1 + 1 + (0 + 1 + 1) ≤ lim) = True := eq_true (by decide)
  have l2 : (0 + 1 + 1 + 1 + 1 + 1 + 1 + 1 + 1 + 1 + 1 + 1 + 1 + 1 + 1 + 1 + 1 + 1 + (0 + 1 + 1 + 1 + 1 + 1 + 1 + 1 + 1 + 1 + 1 + 1 + 1) ≤ lim) = True := eq_true (by decide)
  have l3 : (0 + 1 + 1 + 1 + 1 + 1 + 1 + 1 + 1 + 1 + 1 + 1 + 1 + 1 + 1 + 1 + 1 + 1 + 1 + 1 + 1 + 1 + 1 + 1 + 1 + 1 + 1 + 1 + 1 + 1 + (0 + 1 + 1 + 1 + 1 + 1 + 1 + 1 + 1 + 1 + 1) ≤ lim) = True := eq_true (by decide)
  simp only [f__law_some, w1, w2, l1, l2, l3, e_dic0, e_dic1, q_nil, q_cons, q_set, q_par, q_par3, q_ifs, q_ret, q_ex, e_slot, e_non, e_bl, e_int, e_str, e_glob, e_fnv, e_tup, e_lst, e_bin, e_neg, e_not, e_cmp, e_chain, e_and, e_or, e_one, e_ifx, e_ix, e_cut, e_rev, e_call, e_bi, e_isi, a_nil, a_cons, o_no, o_ye, d_nil, d_cons, w_ov, ok_bnd, bnd_bnd, rd_d, ofO_some, asD_d, asI_int, asB_bl, op2_d, cmp2_d, ix2_d, biOf1, biOf2, v_add, v_sub, v_mul, v_mulT, v_mulL, v_fdiv, v_mod, v_pow, v_catT, v_catL, v_catS, c_eq, c_ne, c_lt, c_le, c_gt, c_ge, c_isn, c_notn, x_tup, x_lst, x_fz, b_lenT, b_lenL, b_lenF, b_abs, b_int, b_intB, b_max, b_min, b_tupT, b_tupL, b_lstT, b_lstL, b_all, b_any, b_repr, rev_lst, tyOk, eqv_int, abs_nat, at0, at1, GC.val, List.getElem?_cons_zero, List.getElem?_cons_succ, List.set_cons_zero, List.set_cons_succ, List.append_nil, List.nil_append, List.cons_append, List.map_nil, List.map_cons, Option.map_some, List.length_cons, List.length_nil, Bool.not_true, Bool.not_false, if_true, if_false, Bool.false_eq_true, items]
  refine Wp.bnd (s_pick (n := m) (by omega) h hk (by simp) (by simp)) ?_
  rintro v s ⟨x, hx, rfl, h1, h2⟩
  refine Wp.ok ⟨_, rfl, x, hx, rfl, ?_⟩
  rw [take_self h2]
  exact ⟨h1, h2⟩
theorem slR_of {n : Nat} : ∀ {a b : Slots}, a.length = b.length → (∀ (i : Nat) (v : SV), a[i]? = some (some v) → b[i]? = some (some (shV n v))) → SlR n a b := fun {a b} hl h i => by
  cases e : a[i]? with
  | none =>
    rw [List.getElem?_eq_none_iff] at e
    exact List.getElem?_eq_none (by omega)
  | some o =>
    cases o with
    | some v => exact h i v e
    | none =>
      have : i < a.length := (List.getElem?_eq_some_iff.mp e).1
      exact ⟨b[i]'(by omega), List.getElem?_eq_getElem (by omega)⟩
theorem above {cl : Cl} {b : Ss} {a a' : Slots} {s : Store} (hcl : ClR s cl) (h : SlR s.length a a') (hb : isT (evSs cl b a []) = true) : ∃ t, evSs cl b a' s = some (.ok (.rt (.d (.bl true))) (s ++ t)) := by
  obtain ⟨t, e⟩ := isT_some hb
  obtain ⟨r', e1, e2⟩ := fr_ss hcl b a a' h [] _ e
  rw [List.append_nil] at e1
  cases r' with
  | ex x u => exact e2.elim
  | ok o u =>
    obtain ⟨e2, e3⟩ := e2
    cases o with
    | rt v =>
      have e2 : v = .d (.bl true) := e2
      subst e2 e3
      exact ⟨t, e1⟩
    | nx c => exact e2.elim
    | ct c => exact e2.elim
theorem s_right {l k : Nat} {st : Store} (h : DS st l k) (hk : k ≤ 100000) : Wp (callF T 29 ix__law_right [.r l] st) fun v s => v = .d (.bl true) ∧ DS s l (k + 2) ∧ s.length = st.length := by
  rw [callF_at (fn := f__law_right) rfl]
  refine Wp.run rfl ?_
  show Wp (evSs (callF T 28) (.cons (.unp [5, 6] (.tup (.cons (.call ix__law_some (.cons (.slot 0) .nil) []) (.cons (.call ix__law_some (.cons (.slot 0) .nil) []) .nil)))) (dropS 1 f__law_right.body)) [some (.r l), none, none, none, none, none, none, none, none, none, none] st) _
  refine Wp.cons ?_
  simp only [q_unp, q_nil, q_cons, q_set, q_par, q_par3, q_ifs, q_ret, q_ex, e_slot, e_non, e_bl, e_int, e_str, e_glob, e_fnv, e_tup, e_lst, e_bin, e_neg, e_not, e_cmp, e_chain, e_and, e_or, e_one, e_ifx, e_ix, e_cut, e_rev, e_call, e_bi, e_isi, a_nil, a_cons, o_no, o_ye, d_nil, d_cons, w_ov, ok_bnd, bnd_bnd, rd_d, ofO_some, asD_d, asI_int, asB_bl, op2_d, cmp2_d, ix2_d, biOf1, biOf2, v_add, v_sub, v_mul, v_mulT, v_mulL, v_fdiv, v_mod, v_pow, v_catT, v_catL, v_catS, c_eq, c_ne, c_lt, c_le, c_gt, c_ge, c_isn, c_notn, x_tup, x_lst, x_fz, b_lenT, b_lenL, b_lenF, b_abs, b_int, b_intB, b_max, b_min, b_tupT, b_tupL, b_lstT, b_lstL, b_all, b_any, b_repr, rev_lst, tyOk, eqv_int, abs_nat, at0, at1, GC.val, List.getElem?_cons_zero, List.getElem?_cons_succ, List.set_cons_zero, List.set_cons_succ, List.append_nil, List.nil_append, List.cons_append, List.map_nil, List.map_cons, Option.map_some, List.length_cons, List.length_nil, Bool.not_true, Bool.not_false, if_true, if_false, Bool.false_eq_true, items]
  refine Wp.bnd (s_some (n := 28) (by decide) h (by omega)) ?_
  rintro v s ⟨x, hx, rfl, h1, h2⟩
  simp only [q_nil, q_cons, q_set, q_par, q_par3, q_ifs, q_ret, q_ex, e_slot, e_non, e_bl, e_int, e_str, e_glob, e_fnv, e_tup, e_lst, e_bin, e_neg, e_not, e_cmp, e_chain, e_and, e_or, e_one, e_ifx, e_ix, e_cut, e_rev, e_call, e_bi, e_isi, a_nil, a_cons, o_no, o_ye, d_nil, d_cons, w_ov, ok_bnd, bnd_bnd, rd_d, ofO_some, asD_d, asI_int, asB_bl, op2_d, cmp2_d, ix2_d, biOf1, biOf2, v_add, v_sub, v_mul, v_mulT, v_mulL, v_fdiv, v_mod, v_pow, v_catT, v_catL, v_catS, c_eq, c_ne, c_lt, c_le, c_gt, c_ge, c_isn, c_notn, x_tup, x_lst, x_fz, b_lenT, b_lenL, b_lenF, b_abs, b_int, b_intB, b_max, b_min, b_tupT, b_tupL, b_lstT, b_lstL, b_all, b_any, b_repr, rev_lst, tyOk, eqv_int, abs_nat, at0, at1, GC.val, List.getElem?_cons_zero, List.getElem?_cons_succ, List.set_cons_zero, List.set_cons_succ, List.append_nil, List.nil_append, List.cons_append, List.map_nil, List.map_cons, Option.map_some, List.length_cons, List.length_nil, Bool.not_true, Bool.not_false, if_true, if_false, Bool.false_eq_true, items]
  refine Wp.bnd (s_some (n := 28) (by decide) h1 (by omega)) ?_
  rintro v s2 ⟨y, hy, rfl, h3, h4⟩
  simp only [q_nil, q_cons, q_set, q_par, q_par3, q_ifs, q_ret, q_ex, e_slot, e_non, e_bl, e_int, e_str, e_glob, e_fnv, e_tup, e_lst, e_bin, e_neg, e_not, e_cmp, e_chain, e_and, e_or, e_one, e_ifx, e_ix, e_cut, e_rev, e_call, e_bi, e_isi, a_nil, a_cons, o_no, o_ye, d_nil, d_cons, w_ov, ok_bnd, bnd_bnd, rd_d, ofO_some, asD_d, asI_int, asB_bl, op2_d, cmp2_d, ix2_d, biOf1, biOf2, v_add, v_sub, v_mul, v_mulT, v_mulL, v_fdiv, v_mod, v_pow, v_catT, v_catL, v_catS, c_eq, c_ne, c_lt, c_le, c_gt, c_ge, c_isn, c_notn, x_tup, x_lst, x_fz, b_lenT, b_lenL, b_lenF, b_abs, b_int, b_intB, b_max, b_min, b_tupT, b_tupL, b_lstT, b_lstL, b_all, b_any, b_repr, rev_lst, tyOk, eqv_int, abs_nat, at0, at1, GC.val, List.getElem?_cons_zero, List.getElem?_cons_succ, List.set_cons_zero, List.set_cons_succ, List.append_nil, List.nil_append, List.cons_append, List.map_nil, List.map_cons, Option.map_some, List.length_cons, List.length_nil, Bool.not_true, Bool.not_false, if_true, if_false, Bool.false_eq_true, items]
  refine Wp.bnd (P' := fun sl s => sl = [some (.r l), none, none, none, none, some (.d x), some (.d y), none, none, none, none] ∧ s = s2) ⟨_, s2, rfl, rfl, rfl⟩ ?_
  rintro sl s3 ⟨rfl, rfl⟩
  refine Wp.ok ⟨_, rfl, ?_⟩
  have hb : isT (evSs (callF T 28) (dropS 1 f__law_right.body) (sl0 x y) []) = true := pairs hx hy
  obtain ⟨t, e⟩ := above (cl := callF T 28) (b := dropS 1 f__law_right.body) (a := sl0 x y) (a' := [some (.r l), none, none, none, none, some (.d x), some (.d y), none, none, none, none]) (s := s3) (fr_call T 28) (slR_of rfl (fun i v e => by
    match i, e with
    | 5, e => cases e; rfl
    | 6, e => cases e; rfl
    | 0, e => cases e
    | 1, e => cases e
    | 2, e => cases e
    | 3, e => cases e
    | 4, e => cases e
    | 7, e => cases e
    | 8, e => cases e
    | 9, e => cases e
    | 10, e => cases e
    | n + 11, e => cases e)) hb
  refine Then.go ⟨_, _, e, _, rfl, rfl, ?_⟩
  have hl : s3.length = st.length := h4.trans h2
  have tk : (s3 ++ t).take st.length = s3 := by rw [← hl, List.take_left]
  rw [tk]
  exact ⟨h3, hl⟩
theorem main (ns : List Int) (hl : ns.length ≤ 63) : callF T 30 ix_law [.d (.fz (ns.map .int))] [] = some (.ok (.d (.bl true)) []) := by
  have key : Wp (callF T (29 + 1) ix_law [.d (.fz (ns.map .int))] []) fun v s => v = .d (.bl true) ∧ s = [] := by
    rw [callF_at (fn := f_law) rfl]
    refine Wp.run rfl ?_
    show Wp (evSs (callF T 29) (.cons (.for (.n 1) (.rng1 (.bi .max2 (.cons (.int 1) (.cons (.bi .min2 (.cons (.int 6) (.cons (.bi .len (.cons (.slot 0) .nil)) .nil))) .nil))))
      (.cons (.new 3 (.call ix__law_dice (.cons (.slot 0) (.cons (.slot 1) .nil)) [])) (.cons (.for (.n 4) (.rng1 (.int 8)) (.cons (.ifs (.not (.call ix__law_right (.cons (.slot 3) .nil) [])) (.cons (.ret (.bl false)) .nil) .nil) .nil)) .nil))) (dropS 1 f_law.body))
      [some (.d (.fz (ns.map .int))), none, none, none, none] []) _
    refine Wp.cons ?_
    have turns : ∀ (l : Nat) (s1 s2 : Option SV), ∀ (xs : List PV) (x4 : Option SV) (st : Store) (k : Nat), k + xs.length * 2 ≤ 10000 → DS st l k → Wp (forGo (.n 4) (evSs (callF T 29) (.cons (.ifs (.not (.call ix__law_right (.cons (.slot 3) .nil) [])) (.cons (.ret (.bl false)) .nil) .nil) .nil)) xs [some (.d (.fz (ns.map .int))), s1, s2, some (.r l), x4] st) fun o s => ∃ x4', o = .nx [some (.d (.fz (ns.map .int))), s1, s2, some (.r l), x4'] := by
      intro l s1 s2 xs
      induction xs with
      | nil =>
        intro x4 st k hk hd
        rw [forGo]
        exact Wp.ok ⟨x4, rfl⟩
      | cons x xs ih =>
        intro x4 st k hk hd
        have hl : (x :: xs).length * 2 = xs.length * 2 + 2 := by rw [List.length_cons, Nat.succ_mul]
        rw [forGo]
        show Wp (bnd (evSs _ _ [some (.d (.fz (ns.map .int))), s1, s2, some (.r l), some (.d x)]) _ st) _
        simp only [q_nil, q_cons, q_set, q_par, q_par3, q_ifs, q_ret, q_ex, e_slot, e_non, e_bl, e_int, e_str, e_glob, e_fnv, e_tup, e_lst, e_bin, e_neg, e_not, e_cmp, e_chain, e_and, e_or, e_one, e_ifx, e_ix, e_cut, e_rev, e_call, e_bi, e_isi, a_nil, a_cons, o_no, o_ye, d_nil, d_cons, w_ov, ok_bnd, bnd_bnd, rd_d, ofO_some, asD_d, asI_int, asB_bl, op2_d, cmp2_d, ix2_d, biOf1, biOf2, v_add, v_sub, v_mul, v_mulT, v_mulL, v_fdiv, v_mod, v_pow, v_catT, v_catL, v_catS, c_eq, c_ne, c_lt, c_le, c_gt, c_ge, c_isn, c_notn, x_tup, x_lst, x_fz, b_lenT, b_lenL, b_lenF, b_abs, b_int, b_intB, b_max, b_min, b_tupT, b_tupL, b_lstT, b_lstL, b_all, b_any, b_repr, rev_lst, tyOk, eqv_int, abs_nat, at0, at1, GC.val, List.getElem?_cons_zero, List.getElem?_cons_succ, List.set_cons_zero, List.set_cons_succ, List.append_nil, List.nil_append, List.cons_append, List.map_nil, List.map_cons, Option.map_some, List.length_cons, List.length_nil, Bool.not_true, Bool.not_false, if_true, if_false, Bool.false_eq_true, items]
        refine Wp.bnd (s_right hd (by omega)) ?_
        rintro v s ⟨rfl, hd2, _⟩
        simp only [q_nil, q_cons, q_set, q_par, q_par3, q_ifs, q_ret, q_ex, e_slot, e_non, e_bl, e_int, e_str, e_glob, e_fnv, e_tup, e_lst, e_bin, e_neg, e_not, e_cmp, e_chain, e_and, e_or, e_one, e_ifx, e_ix, e_cut, e_rev, e_call, e_bi, e_isi, a_nil, a_cons, o_no, o_ye, d_nil, d_cons, w_ov, ok_bnd, bnd_bnd, rd_d, ofO_some, asD_d, asI_int, asB_bl, op2_d, cmp2_d, ix2_d, biOf1, biOf2, v_add, v_sub, v_mul, v_mulT, v_mulL, v_fdiv, v_mod, v_pow, v_catT, v_catL, v_catS, c_eq, c_ne, c_lt, c_le, c_gt, c_ge, c_isn, c_notn, x_tup, x_lst, x_fz, b_lenT, b_lenL, b_lenF, b_abs, b_int, b_intB, b_max, b_min, b_tupT, b_tupL, b_lstT, b_lstL, b_all, b_any, b_repr, rev_lst, tyOk, eqv_int, abs_nat, at0, at1, GC.val, List.getElem?_cons_zero, List.getElem?_cons_succ, List.set_cons_zero, List.set_cons_succ, List.append_nil, List.nil_append, List.cons_append, List.map_nil, List.map_cons, Option.map_some, List.length_cons, List.length_nil, Bool.not_true, Bool.not_false, if_true, if_false, Bool.false_eq_true, items]
        exact ih (some (.d x)) s (k + 2) (by omega) hd2
    have spots : ∀ (xs : List Nat) (x1 x3 x4 : Option SV) (st : Store), (∀ x ∈ xs, x ≤ 100) → Wp (forGo (.n 1) (evSs (callF T 29) (.cons (.new 3 (.call ix__law_dice (.cons (.slot 0) (.cons (.slot 1) .nil)) [])) (.cons (.for (.n 4) (.rng1 (.int 8)) (.cons (.ifs (.not (.call ix__law_right (.cons (.slot 3) .nil) [])) (.cons (.ret (.bl false)) .nil) .nil) .nil)) .nil)))
        (xs.map fun x : Nat => PV.int (0 + (x : Int))) [some (.d (.fz (ns.map .int))), x1, none, x3, x4] st) fun o s => ∃ x1' x3' x4', o = .nx [some (.d (.fz (ns.map .int))), x1', none, x3', x4'] := by
      intro xs
      induction xs with
      | nil =>
        intro x1 x3 x4 st _
        rw [List.map_nil, forGo]
        exact Wp.ok ⟨x1, x3, x4, rfl⟩
      | cons x xs ih =>
        intro x1 x3 x4 st hx
        rw [List.map_cons, forGo]
        show Wp (bnd (evSs _ _ [some (.d (.fz (ns.map .int))), some (.d (.int (0 + (x : Int)))), none, x3, x4]) _ st) _
        rw [Int.zero_add]
        obtain ⟨a, b, hd, ha, hb⟩ := s_dice (n := 29) (ns := ns) (i := x) (by decide) hl (hx x List.mem_cons_self)
        refine Wp.bnd (P' := fun o s => ∃ x1' x3' x4', o = .nx [some (.d (.fz (ns.map .int))), x1', none, x3', x4']) ?_ ?_
        · refine Wp.cons ?_
          rw [evS]
          simp only [hd, q_nil, q_cons, q_set, q_par, q_par3, q_ifs, q_ret, q_ex, e_slot, e_non, e_bl, e_int, e_str, e_glob, e_fnv, e_tup, e_lst, e_bin, e_neg, e_not, e_cmp, e_chain, e_and, e_or, e_one, e_ifx, e_ix, e_cut, e_rev, e_call, e_bi, e_isi, a_nil, a_cons, o_no, o_ye, d_nil, d_cons, w_ov, ok_bnd, bnd_bnd, rd_d, ofO_some, asD_d, asI_int, asB_bl, op2_d, cmp2_d, ix2_d, biOf1, biOf2, v_add, v_sub, v_mul, v_mulT, v_mulL, v_fdiv, v_mod, v_pow, v_catT, v_catL, v_catS, c_eq, c_ne, c_lt, c_le, c_gt, c_ge, c_isn, c_notn, x_tup, x_lst, x_fz, b_lenT, b_lenL, b_lenF, b_abs, b_int, b_intB, b_max, b_min, b_tupT, b_tupL, b_lstT, b_lstL, b_all, b_any, b_repr, rev_lst, tyOk, eqv_int, abs_nat, at0, at1, GC.val, List.getElem?_cons_zero, List.getElem?_cons_succ, List.set_cons_zero, List.set_cons_succ, List.append_nil, List.nil_append, List.cons_append, List.map_nil, List.map_cons, Option.map_some, List.length_cons, List.length_nil, Bool.not_true, Bool.not_false, if_true, if_false, Bool.false_eq_true, items]
          refine ⟨_, _, rfl, _, rfl, Then.go ?_⟩
          refine Wp.cons ?_
          have t := turns st.length (some (.d (.int x))) none ((List.range 8).map fun k : Nat => PV.int (0 + (k : Int))) x4 (st ++ [.lst [.int a, .int b, .int 0]]) 0 (by decide) ⟨a, b, 0, by rw [List.getElem?_append_right (Nat.le_refl _), Nat.sub_self]; rfl, ha, hb, by decide, by decide⟩
          have r3 : rngOf 0 8 = some ((List.range 8).map fun k : Nat => PV.int (0 + (k : Int))) := rng_nat (c := 8) (by decide)
          simp only [q_for, w_r1, r3, q_nil, q_cons, q_set, q_par, q_par3, q_ifs, q_ret, q_ex, e_slot, e_non, e_bl, e_int, e_str, e_glob, e_fnv, e_tup, e_lst, e_bin, e_neg, e_not, e_cmp, e_chain, e_and, e_or, e_one, e_ifx, e_ix, e_cut, e_rev, e_call, e_bi, e_isi, a_nil, a_cons, o_no, o_ye, d_nil, d_cons, w_ov, ok_bnd, bnd_bnd, rd_d, ofO_some, asD_d, asI_int, asB_bl, op2_d, cmp2_d, ix2_d, biOf1, biOf2, v_add, v_sub, v_mul, v_mulT, v_mulL, v_fdiv, v_mod, v_pow, v_catT, v_catL, v_catS, c_eq, c_ne, c_lt, c_le, c_gt, c_ge, c_isn, c_notn, x_tup, x_lst, x_fz, b_lenT, b_lenL, b_lenF, b_abs, b_int, b_intB, b_max, b_min, b_tupT, b_tupL, b_lstT, b_lstL, b_all, b_any, b_repr, rev_lst, tyOk, eqv_int, abs_nat, at0, at1, GC.val, List.getElem?_cons_zero, List.getElem?_cons_succ, List.set_cons_zero, List.set_cons_succ, List.append_nil, List.nil_append, List.cons_append, List.map_nil, List.map_cons, Option.map_some, List.length_cons, List.length_nil, Bool.not_true, Bool.not_false, if_true, if_false, Bool.false_eq_true, items]
          refine t.imp ?_
          rintro o s ⟨x5', rfl⟩
          refine ⟨_, rfl, Then.go ?_⟩
          simp only [q_nil, q_cons, q_set, q_par, q_par3, q_ifs, q_ret, q_ex, e_slot, e_non, e_bl, e_int, e_str, e_glob, e_fnv, e_tup, e_lst, e_bin, e_neg, e_not, e_cmp, e_chain, e_and, e_or, e_one, e_ifx, e_ix, e_cut, e_rev, e_call, e_bi, e_isi, a_nil, a_cons, o_no, o_ye, d_nil, d_cons, w_ov, ok_bnd, bnd_bnd, rd_d, ofO_some, asD_d, asI_int, asB_bl, op2_d, cmp2_d, ix2_d, biOf1, biOf2, v_add, v_sub, v_mul, v_mulT, v_mulL, v_fdiv, v_mod, v_pow, v_catT, v_catL, v_catS, c_eq, c_ne, c_lt, c_le, c_gt, c_ge, c_isn, c_notn, x_tup, x_lst, x_fz, b_lenT, b_lenL, b_lenF, b_abs, b_int, b_intB, b_max, b_min, b_tupT, b_tupL, b_lstT, b_lstL, b_all, b_any, b_repr, rev_lst, tyOk, eqv_int, abs_nat, at0, at1, GC.val, List.getElem?_cons_zero, List.getElem?_cons_succ, List.set_cons_zero, List.set_cons_succ, List.append_nil, List.nil_append, List.cons_append, List.map_nil, List.map_cons, Option.map_some, List.length_cons, List.length_nil, Bool.not_true, Bool.not_false, if_true, if_false, Bool.false_eq_true, items]
          exact Wp.ok ⟨_, _, _, rfl⟩
        · rintro o s ⟨x1', x3', x4', rfl⟩
          exact ih x1' x3' x4' s fun y hy => hx y (List.mem_cons_of_mem _ hy)
    obtain ⟨c, hc, hce⟩ : ∃ c : Nat, c ≤ 6 ∧ (if (if ((ns.map PV.int).length : Int) < 6 then ((ns.map PV.int).length : Int) else 6) > 1 then (if ((ns.map PV.int).length : Int) < 6 then ((ns.map PV.int).length : Int) else 6) else 1) = (c : Int) := by
      generalize (ns.map PV.int).length = y
      by_cases z : (y : Int) < 6
      · rw [if_pos z]
        by_cases z2 : (y : Int) > 1
        · rw [if_pos z2]
          exact ⟨y, by omega, rfl⟩
        · rw [if_neg z2]
          exact ⟨1, by decide, rfl⟩
      · rw [if_neg z]
        exact ⟨6, by decide, rfl⟩
    simp only [q_for, w_r1, hce, rng_nat (show c ≤ 1000000 by omega), q_nil, q_cons, q_set, q_par, q_par3, q_ifs, q_ret, q_ex, e_slot, e_non, e_bl, e_int, e_str, e_glob, e_fnv, e_tup, e_lst, e_bin, e_neg, e_not, e_cmp, e_chain, e_and, e_or, e_one, e_ifx, e_ix, e_cut, e_rev, e_call, e_bi, e_isi, a_nil, a_cons, o_no, o_ye, d_nil, d_cons, w_ov, ok_bnd, bnd_bnd, rd_d, ofO_some, asD_d, asI_int, asB_bl, op2_d, cmp2_d, ix2_d, biOf1, biOf2, v_add, v_sub, v_mul, v_mulT, v_mulL, v_fdiv, v_mod, v_pow, v_catT, v_catL, v_catS, c_eq, c_ne, c_lt, c_le, c_gt, c_ge, c_isn, c_notn, x_tup, x_lst, x_fz, b_lenT, b_lenL, b_lenF, b_abs, b_int, b_intB, b_max, b_min, b_tupT, b_tupL, b_lstT, b_lstL, b_all, b_any, b_repr, rev_lst, tyOk, eqv_int, abs_nat, at0, at1, GC.val, List.getElem?_cons_zero, List.getElem?_cons_succ, List.set_cons_zero, List.set_cons_succ, List.append_nil, List.nil_append, List.cons_append, List.map_nil, List.map_cons, Option.map_some, List.length_cons, List.length_nil, Bool.not_true, Bool.not_false, if_true, if_false, Bool.false_eq_true, items]
    refine (spots (List.range c) none none none [] (fun x hx => by have := List.mem_range.mp hx; omega)).imp ?_
    rintro o s ⟨x1, x3, x4, rfl⟩
    refine ⟨_, rfl, ?_⟩
    obtain ⟨t, e⟩ := above (cl := callF T 29) (b := dropS 1 f_law.body) (a := [none, none, none, none, none]) (a' := [some (.d (.fz (ns.map .int))), x1, none, x3, x4]) (s := s) (fr_call T 29) (slR_of rfl (fun i v e => by
      match i, e with
      | 0, e => cases e
      | 1, e => cases e
      | 2, e => cases e
      | 3, e => cases e
      | 4, e => cases e
      | n + 5, e => cases e)) endT
    exact Then.go ⟨_, _, e, _, rfl, rfl, rfl⟩
  obtain ⟨v, s, e, rfl, rfl⟩ := key
  exact e
end K22
end -- K22d

theorem PySem.Challenge.cw_fairoffers_k22_errors_and_judges_of_numb_holds : PySem.Challenge.rw_fairoffers_k22_errors_and_judges_of_numb.Holds := by
  exact K22.holds_of K22.main
