import PyProof.Rows.All
import Wide.All
import OpenK.AllK
import Wide.FinOn
import HandS.ForMost
import HandS.ForExc
import HandS.Deep
import HandS.TupAny
import PyProof.P3In
import HandS.IsInst
import HandS.SortInts
import HandS.Style
import HandS.SetFor
import HandS.Conv
import KE.LtSeq
import HandS.ExcValue
import HandS.Strs
import PySem.Challenge.RW_boxword_k20_whole_least_words
set_option Elab.async false
set_option linter.all false
set_option maxRecDepth 100000
/-! The data layer, 0: tuples of which it is known that they have no dict of their own (so that their methods may be called). -/
noncomputable section
namespace DL
open PySem PySem.Spec PyProof.Rows L2
section
variable {X : Cx} {es : List Expr} {t : TA} {pos : Pos}
theorem frz_ok {P : Program} {w : World} {H : Hp} {h : Heap} {p : Addr} {o : Obj} {xs : List V} {its : List Value} (z : xs.length ≤ sizeLine) (r : Vals xs its) (e : h.get? p = some o) (hc : o.cls = .type "tuple") (hd : ∃ n, o.data = .seq its.toArray n) : ObjOk P w H h p (.frz o (.tup xs)) :=
  ⟨e, z, its, r, o, e, hc, hd⟩
/-- (a, b, ..) -/
def tTupZ (t : TA) : TE := fun s H Q => t s H fun xs H1 => xs.length ≤ sizeLine ∧ ∀ p o, H1 p = none → o.dict = none → Q (.ref p) (upd H1 p (.frz o (.tup xs)))
theorem pe_tupZ {k : Nat} (h : PA X es t) : PE X (.Tuple es k pos) (tTupZ t) := by
  refine ⟨fun pins s σ H Q I hq => wpAny_Tuple_spliced (thn (h.run pos pins s σ H _ I hq) fun us s1 ⟨xs, H1, I1, r, z, q⟩ => ⟨by rw [← r.length]; exact z, ?_⟩)⟩
  have hf : H1 s1.heap.objs.size = none := I1.hok.fresh (Nat.le_refl _)
  have e1 : (s1.heap.push { cls := .type "tuple", data := .seq us.toArray }).get? s1.heap.objs.size = some { cls := .type "tuple", data := .seq us.toArray } := Heap.get?_push_size _ rfl
  exact ⟨.ref s1.heap.objs.size, _, I1.laid (t' := s1.toks) (fun b u e => Heap.get?_push_of_some _ e) (Nat.le_refl _) (frz_ok z r e1 rfl ⟨_, rfl⟩), rfl, q _ _ hf rfl⟩
/-- tuple(xs) -/
def rTupOf (K : PySem.W.Frag) : List V → Hp → VK → Prop := fun xs H Q => ∃ p ys, xs = [.ref p] ∧ ((SqL K H p ys ∧ ∀ l o, H l = none → o.dict = none → Q (.ref l) (upd H l (.frz o (.tup ys)))) ∨ (SqT K H p ys ∧ Q (.ref p) H))
theorem cl_tuple : CallR X (.type "tuple") (rTupOf X.K) := by
  intro pins s σ H xs us Q I r h
  obtain ⟨p, ys, rfl, h⟩ := h
  obtain ⟨u, rfl, rx⟩ := vals1 r
  cases rx
  rcases h with ⟨hq, q⟩ | ⟨hq, q⟩
  · obtain ⟨its, r', pl, hz⟩ := I.list hq
    have hlen := r'.length
    refine call_tuple_list pl.isList (fun h' kp => ?_) (by simp only [List.size_toArray]; omega)
    have I1 : Inv X pins σ H { s with heap := h' } := I.kept (t' := s.toks) kp
    have e1 : (h'.push { cls := .type "tuple", data := .seq its.toArray }).get? h'.objs.size = some { cls := .type "tuple", data := .seq its.toArray } := Heap.get?_push_size _ rfl
    exact ⟨.ref h'.objs.size, _, I1.laid (t' := s.toks) (fun b o e => Heap.get?_push_of_some _ e) (Nat.le_refl _) (frz_ok hz r' e1 rfl ⟨_, rfl⟩), rfl, q _ _ (I1.hok.fresh (Nat.le_refl _)) rfl⟩
  · obtain ⟨its, r', pl, hz⟩ := I.tuple hq
    exact call_tuple_same pl ⟨.ref p, H, I, rfl, q⟩
/-- t + u -/
def rCatZ (K : PySem.W.Frag) : R2 := fun x y H Q => ∃ a b xs ys, x = .ref a ∧ y = .ref b ∧ SqT K H a xs ∧ SqT K H b ys ∧ xs.length + ys.length ≤ sizeLine ∧
  (xs = [] → Q (.ref b) H) ∧ (xs ≠ [] → ys = [] → Q (.ref a) H) ∧ (xs ≠ [] → ys ≠ [] → ∀ p o, H p = none → o.dict = none → Q (.ref p) (upd H p (.frz o (.tup (xs ++ ys)))))
theorem op_catZ : OpR X (binaryOp .Add) (rCatZ X.K) := by
  intro pins s σ H x y v u Q I rx ry h
  obtain ⟨a, b, xs, ys, rfl, rfl, ha, hb, hz, q0, q1, q2⟩ := h
  cases rx
  cases ry
  obtain ⟨its, r1, p1, _⟩ := I.tuple ha
  obtain ⟨its2, r2, p2, _⟩ := I.tuple hb
  by_cases hx : xs = []
  · subst hx
    cases r1
    exact cat_tup0 p1 p2 ⟨.ref b, H, I, rfl, q0 rfl⟩
  · refine HT.cat_tup p1 p2 (fun z => hx (r1.nil_iff.mp z)) (fun z => ⟨.ref a, H, I, rfl, q1 hx (r2.nil_iff.mp z)⟩) (fun z => ?_) (by rw [← r1.length, ← r2.length]; exact hz)
    have e1 : (s.heap.push { cls := .type "tuple", data := .seq (its ++ its2).toArray }).get? s.heap.objs.size = some { cls := .type "tuple", data := .seq (its ++ its2).toArray } := Heap.get?_push_size _ rfl
    exact ⟨.ref s.heap.objs.size, _, I.laid (t' := s.toks) (fun b ob q => Heap.get?_push_of_some _ q) (Nat.le_refl _) (frz_ok (by rw [List.length_append]; exact hz) (r1.append r2) e1 rfl ⟨_, rfl⟩), rfl, q2 hx (fun w => z (r2.nil_iff.mpr w)) _ _ (I.hok.fresh (Nat.le_refl _)) rfl⟩
/-- t[a:b] -/
def rSlZ (K : PySem.W.Frag) : V → Option Int → Option Int → Hp → VK → Prop := fun x lo hi H Q => ∃ a xs, x = .ref a ∧ SqT K H a xs ∧
  (HT.sIx xs.length 0 lo = 0 ∧ HT.sIx xs.length xs.length hi = xs.length → Q (.ref a) H) ∧ (¬ (HT.sIx xs.length 0 lo = 0 ∧ HT.sIx xs.length xs.length hi = xs.length) → ∀ p o, H p = none → o.dict = none → Q (.ref p) (upd H p (.frz o (.tup (cutV xs lo hi)))))
theorem sl_tupZ : SlR X (rSlZ X.K) := by
  intro pins s σ H x v vl vu lo hi sl Q I rx hs pl pu h
  obtain ⟨a, xs, rfl, hx, q1, q2⟩ := h
  cases rx
  obtain ⟨its, r, ht, hz⟩ := I.tuple hx
  have hlen : its.toArray.size = xs.length := by rw [List.size_toArray]; exact r.length.symm
  refine ⟨"tuple", _, PyProof.Rows.slot_tuple_getitem.lookup, ht.typeIs, ?_⟩
  by_cases hw : HT.sIx xs.length 0 lo = 0 ∧ HT.sIx xs.length xs.length hi = xs.length
  · exact getItem_tuple_whole ht hs pl pu (by rw [hlen]; exact hw) ⟨.ref a, H, I, rfl, q1 hw⟩
  · refine HT.getItem_tuple_cut ht hs pl pu (by rw [hlen]; exact hw) ?_ (by rw [hlen]; exact hz)
    rw [hlen]
    refine ⟨.ref s.heap.objs.size, _, I.laid (t' := s.toks) (fun b ob q => Heap.get?_push_of_some _ q) (Nat.le_refl _) (frz_ok (Nat.le_trans (cutV_length xs lo hi) hz) ((r.drop (HT.sIx xs.length 0 lo)).take (HT.sIx xs.length xs.length hi - HT.sIx xs.length 0 lo)) (Heap.get?_push_size _ rfl) rfl ⟨_, rfl⟩), rfl, q2 hw _ _ (I.hok.fresh (Nat.le_refl _)) rfl⟩
end

/-! ### data in the heap, their tuples without dicts -/
def SqP (K : PySem.W.Frag) (H : Hp) (a : Addr) (xs : List V) : Prop :=
  (∃ o, H a = some (.frz o (.tup xs)) ∧ o.dict = none) ∨
    ∃ (o : Obj) (its : Array Value) (n : Nat), K.lookup a = some o ∧ o.cls = .type "tuple" ∧ o.dict = none ∧ o.data = .seq its n ∧ its.size ≤ sizeLine ∧ Vals xs its.toList
theorem SqP.t {K : PySem.W.Frag} {H : Hp} {a : Addr} {xs : List V} (h : SqP K H a xs) : SqT K H a xs := by
  rcases h with ⟨o, h, _⟩ | ⟨o, its, n, h1, h2, _, h3, h4, h5⟩
  · exact .inl (.inr ⟨o, h⟩)
  · exact .inr ⟨o, its, n, h1, h2, h3, h4, h5⟩
mutual
inductive Dq (K : PySem.W.Frag) (H : Hp) : V → PyData → Prop
  | non : Dq K H .non .none
  | bl (b : Bool) : Dq K H (.bl b) (.bool b)
  | int (i : Int) : Dq K H (.int i) (.int i)
  | str (x : Str) : Dq K H (.str x) (.str x)
  | lst {a : Addr} {xs : List V} {ds : List PyData} : SqL K H a xs → DqAll K H xs ds → Dq K H (.ref a) (.list ds)
  | tup {a : Addr} {xs : List V} {ds : List PyData} : SqP K H a xs → DqAll K H xs ds → Dq K H (.ref a) (.tuple ds)
inductive DqAll (K : PySem.W.Frag) (H : Hp) : List V → List PyData → Prop
  | nil : DqAll K H [] []
  | cons {v : V} {vs : List V} {d : PyData} {ds : List PyData} : Dq K H v d → DqAll K H vs ds → DqAll K H (v :: vs) (d :: ds)
end
mutual
theorem Dq.dp {K : PySem.W.Frag} {H : Hp} : ∀ {d : PyData} {v : V}, Dq K H v d → Dp K H v d
  | .none, _, h => by cases h; exact .non
  | .bool b, _, h => by cases h; exact .bl b
  | .int i, _, h => by cases h; exact .int i
  | .str x, _, h => by cases h; exact .str x
  | .list ds, _, h => by
    cases h with
    | lst h1 h2 => exact .lst h1 (DqAll.dp h2)
  | .tuple ds, _, h => by
    cases h with
    | tup h1 h2 => exact .tup h1.t (DqAll.dp h2)
  | .dict _, _, h => by cases h
theorem DqAll.dp {K : PySem.W.Frag} {H : Hp} : ∀ {ds : List PyData} {vs : List V}, DqAll K H vs ds → DpAll K H vs ds
  | [], _, h => by cases h; exact .nil
  | d :: ds, _, h => by
    cases h with
    | cons h1 h2 => exact .cons (Dq.dp h1) (DqAll.dp h2)
end
end DL

set_option Elab.async false
set_option linter.all false
set_option maxRecDepth 100000
/-! The data layer, 1: what a slot holds, how the slots lie in the heap, answers, readings. -/
noncomputable section
namespace DL
open PySem L2

/-- the own errors -/
inductive XN where
  | mach | wrd | many | txt
  deriving DecidableEq, Repr
abbrev M (a : Type) := Option (Except XN a)
def ok {a : Type} (x : a) : M a := some (.ok x)
def bnd {a b : Type} (m : M a) (k : a → M b) : M b := match m with
  | none => none
  | some (.error e) => some (.error e)
  | some (.ok x) => k x
@[simp] theorem bnd_ok {a b : Type} (x : a) (k : a → M b) : bnd (ok x) k = k x := rfl
@[simp] theorem bnd_ok' {a b : Type} (x : a) (k : a → M b) : bnd (some (.ok x)) k = k x := rfl
@[simp] theorem bnd_none {a b : Type} (k : a → M b) : bnd none k = none := rfl
@[simp] theorem bnd_err {a b : Type} (e : XN) (k : a → M b) : bnd (some (.error e)) k = some (.error e) := rfl

/-- what a slot holds: data that never change more; a list of the def's own -/
inductive B where
  | d (x : PyData)
  | own (xs : List PyData)
abbrev Rho := List (Option B)

section
variable {K : PySem.W.Frag} {H H' F F' : Hp}
theorem same_rd {a : Addr} {u : HO} (e : Same H H') (h : Rd H a u) : Rd H' a u := by
  rcases h with h | ⟨o, h⟩
  · exact .inl (e _ _ h)
  · exact .inr ⟨o, e _ _ h⟩
theorem same_t {a : Addr} {xs : List V} (e : Same H H') (h : SqT K H a xs) : SqT K H' a xs := by
  rcases h with h | h
  · exact .inl (same_rd e h)
  · exact .inr h
theorem same_l {a : Addr} {xs : List V} (e : Same H H') (h : SqL K H a xs) : SqL K H' a xs := e.seq h
theorem same_p {a : Addr} {xs : List V} (e : Same H H') (h : SqP K H a xs) : SqP K H' a xs := by
  rcases h with ⟨o, h, d⟩ | h
  · exact .inl ⟨o, e _ _ h, d⟩
  · exact .inr h
mutual
theorem dp_same (e : Same H H') : ∀ {d : PyData} {v : V}, Dq K H v d → Dq K H' v d
  | .none, _, h => by cases h; exact .non
  | .bool b, _, h => by cases h; exact .bl b
  | .int i, _, h => by cases h; exact .int i
  | .str x, _, h => by cases h; exact .str x
  | .list ds, _, h => by
    cases h with
    | lst h1 h2 => exact .lst (same_l e h1) (dpAll_same e h2)
  | .tuple ds, _, h => by
    cases h with
    | tup h1 h2 => exact .tup (same_p e h1) (dpAll_same e h2)
  | .dict _, _, h => by cases h
theorem dpAll_same (e : Same H H') : ∀ {ds : List PyData} {vs : List V}, DqAll K H vs ds → DqAll K H' vs ds
  | [], _, h => by cases h; exact .nil
  | d :: ds, _, h => by
    cases h with
    | cons h1 h2 => exact .cons (dp_same e h1) (dpAll_same e h2)
end
theorem dpAll_len {vs : List V} {ds : List PyData} (h : DqAll K H vs ds) : vs.length = ds.length := by
  induction ds generalizing vs with
  | nil => cases h; rfl
  | cons d ds ih => cases h with | cons _ h2 => simp [ih h2]
theorem dpAll_at {vs : List V} {ds : List PyData} (h : DqAll K H vs ds) {i : Nat} {d : PyData} (e : ds[i]? = some d) : ∃ v, vs[i]? = some v ∧ Dq K H v d := by
  induction ds generalizing vs i with
  | nil => simp at e
  | cons d' ds ih =>
    cases h with
    | cons h1 h2 =>
      cases i with
      | zero => simp at e; subst e; exact ⟨_, rfl, h1⟩
      | succ i => simp at e; obtain ⟨v, e1, e2⟩ := ih h2 e; exact ⟨v, by simpa using e1, e2⟩
theorem dpAll_atV {vs : List V} {ds : List PyData} (h : DqAll K H vs ds) {i : Nat} {v : V} (e : vs[i]? = some v) : ∃ d, ds[i]? = some d ∧ Dq K H v d := by
  induction ds generalizing vs i with
  | nil => cases h; simp at e
  | cons d' ds ih =>
    cases h with
    | cons h1 h2 =>
      cases i with
      | zero => simp at e; subst e; exact ⟨_, rfl, h1⟩
      | succ i => simp at e; obtain ⟨d, e1, e2⟩ := ih h2 e; exact ⟨d, by simpa using e1, e2⟩
theorem dpAll_app {vs ws : List V} {ds es : List PyData} (h : DqAll K H vs ds) (g : DqAll K H ws es) : DqAll K H (vs ++ ws) (ds ++ es) := by
  induction ds generalizing vs with
  | nil => cases h; exact g
  | cons d ds ih => cases h with | cons h1 h2 => exact .cons h1 (ih h2)
theorem dpAll_one {v : V} {d : PyData} (h : Dq K H v d) : DqAll K H [v] [d] := .cons h .nil
theorem dpAll_drop {vs : List V} {ds : List PyData} (n : Nat) (h : DqAll K H vs ds) : DqAll K H (vs.drop n) (ds.drop n) := by
  induction n generalizing vs ds with
  | zero => exact h
  | succ n ih => cases h with | nil => exact .nil | cons _ h2 => exact ih h2
theorem dpAll_take {vs : List V} {ds : List PyData} (n : Nat) (h : DqAll K H vs ds) : DqAll K H (vs.take n) (ds.take n) := by
  induction n generalizing vs ds with
  | zero => exact .nil
  | succ n ih => cases h with | nil => exact .nil | cons h1 h2 => exact .cons h1 (ih h2)
theorem dpAll_set {vs : List V} {ds : List PyData} {v : V} {d : PyData} (n : Nat) (h : DqAll K H vs ds) (g : Dq K H v d) : DqAll K H (vs.set n v) (ds.set n d) := by
  induction n generalizing vs ds with
  | zero => cases h with | nil => exact .nil | cons h1 h2 => exact .cons g h2
  | succ n ih => cases h with | nil => exact .nil | cons h1 h2 => exact .cons h1 (ih h2)
theorem dpAll_erase {vs : List V} {ds : List PyData} (n : Nat) (h : DqAll K H vs ds) : DqAll K H (vs.eraseIdx n) (ds.eraseIdx n) := by
  induction n generalizing vs ds with
  | zero => cases h with | nil => exact .nil | cons h1 h2 => exact h2
  | succ n ih => cases h with | nil => exact .nil | cons h1 h2 => exact .cons h1 (ih h2)
theorem dpAll_dropLast {vs : List V} {ds : List PyData} (h : DqAll K H vs ds) : DqAll K H vs.dropLast ds.dropLast := by
  rw [List.dropLast_eq_take, List.dropLast_eq_take, dpAll_len h]
  exact dpAll_take _ h
theorem dpAll_rev {vs : List V} {ds : List PyData} (h : DqAll K H vs ds) : DqAll K H vs.reverse ds.reverse := by
  induction ds generalizing vs with
  | nil => cases h; exact .nil
  | cons d ds ih => cases h with | cons h1 h2 => rw [List.reverse_cons, List.reverse_cons]; exact dpAll_app (ih h2) (dpAll_one h1)
theorem dpAll_ints {vs : List V} : ∀ {ns : List Int}, DqAll K H vs (ns.map PyData.int) → vs = ns.map V.int
  | [], h => by cases h; rfl
  | n :: ns, h => by
    cases h with
    | cons h1 h2 => cases h1; rw [dpAll_ints h2]; rfl
theorem dpAll_bls {vs : List V} : ∀ {ns : List Bool}, DqAll K H vs (ns.map PyData.bool) → vs = ns.map V.bl
  | [], h => by cases h; rfl
  | n :: ns, h => by
    cases h with
    | cons h1 h2 => cases h1; rw [dpAll_bls h2]; rfl
theorem dpAll_of_ints : ∀ {ns : List Int}, DqAll K H (ns.map V.int) (ns.map PyData.int)
  | [] => .nil
  | n :: ns => .cons (.int n) dpAll_of_ints
end

/-- the setting: the written part, the heap and the frozen part at the entry, what is wanted of an error -/
structure Cc where
  K : PySem.W.Frag
  H0 : Hp
  F0 : Hp
  ax : XN → Addr
  W : WX

/-- what stands between the entry and now: F is frozen; what the caller has for itself stands -/
structure Fr (c : Cc) (H F : Hp) : Prop where
  sub : Same F H
  old : Same c.F0 F
  kept : ∀ p o, c.H0 p = some o → c.F0 p = none → H p = some o ∧ F p = none
theorem Fr.new {c : Cc} {H F : Hp} (R : Fr c H F) {p : Addr} (n : H p = none) : c.H0 p = none := by
  cases e : c.H0 p with
  | none => rfl
  | some o =>
    cases e2 : c.F0 p with
    | none => rw [(R.kept p o e e2).1] at n; cases n
    | some o2 => rw [R.sub p o2 (R.old p o2 e2)] at n; cases n
theorem Fr.newF {c : Cc} {H F : Hp} (R : Fr c H F) {p : Addr} (n : H p = none) : F p = none := R.sub.free n

def CellOk (K : PySem.W.Frag) (H0 H F : Hp) : Option B → Option V → Prop
  | none, _ => True
  | some (.d x), some v => Dq K F v x
  | some (.own xs), some (.ref p) => ∃ vs, H p = some (.lst vs) ∧ F p = none ∧ H0 p = none ∧ DqAll K F vs xs
  | _, _ => False
structure Rel (c : Cc) (r : Rho) (s : L2.St) (H F : Hp) : Prop where
  fr : Fr c H F
  len : s.length = r.length
  cell : ∀ (i : Nat) (b : B), r[i]? = some (some b) → ∃ v, s[i]? = some (some v) ∧ CellOk c.K c.H0 H F (some b) (some v)
  apart : ∀ (i j : Nat) (xs ys : List PyData) (p : Addr), r[i]? = some (some (.own xs)) → r[j]? = some (some (.own ys)) → s[i]? = some (some (V.ref p)) → s[j]? = some (some (V.ref p)) → i = j
section
variable {c : Cc} {r : Rho} {s : L2.St} {H F H' F' : Hp}
theorem Rel.data (R : Rel c r s H F) {i : Nat} {x : PyData} (e : r[i]? = some (some (.d x))) : ∃ v, s[i]? = some (some v) ∧ Dq c.K F v x := R.cell i _ e
theorem Rel.mine (R : Rel c r s H F) {i : Nat} {xs : List PyData} (e : r[i]? = some (some (.own xs))) : ∃ p vs, s[i]? = some (some (V.ref p)) ∧ H p = some (.lst vs) ∧ F p = none ∧ c.H0 p = none ∧ DqAll c.K F vs xs := by
  obtain ⟨v, e1, h⟩ := R.cell i _ e
  cases v <;> first | exact h.elim | skip
  obtain ⟨vs, h1, h2, h3, h4⟩ := h
  exact ⟨_, vs, e1, h1, h2, h3, h4⟩
/-- more objects; those that were not frozen stand -/
structure More (H F H' F' : Hp) : Prop where
  f : Same F F'
  h : Same H H'
  sub : Same F' H'
  un : ∀ p o, H p = some o → F p = none → F' p = none
theorem More.refl (e : Same F H) : More H F H F := ⟨Same.refl _, Same.refl _, e, fun _ _ _ n => n⟩
theorem More.trans {H1 F1 H2 F2 : Hp} (a : More H F H1 F1) (b : More H1 F1 H2 F2) : More H F H2 F2 :=
  ⟨a.f.trans b.f, a.h.trans b.h, b.sub, fun p o e n => b.un p o (a.h p o e) (a.un p o e n)⟩
theorem Fr.more (R : Fr c H F) (m : More H F H' F') : Fr c H' F' :=
  ⟨m.sub, R.old.trans m.f, fun p o e n => let ⟨a, b⟩ := R.kept p o e n; ⟨m.h p o a, m.un p o a b⟩⟩
theorem Rel.more (R : Rel c r s H F) (m : More H F H' F') : Rel c r s H' F' := by
  refine ⟨R.fr.more m, R.len, fun i b e => ?_, R.apart⟩
  cases b with
  | d x => obtain ⟨v, e1, h⟩ := R.data e; exact ⟨v, e1, dp_same m.f h⟩
  | own xs =>
    obtain ⟨p, vs, e1, h1, h2, h3, h4⟩ := R.mine e
    exact ⟨_, e1, vs, m.h _ _ h1, m.un _ _ h1 h2, h3, dpAll_same m.f h4⟩
theorem same_upd' {p : Addr} {o : HO} (n : H p = none) : Same H (upd H p o) := fun b x e => by
  rw [upd_ne (ne_of_none e n)]; exact e
/-- a new object, frozen at once -/
theorem More.laid {p : Addr} {o : HO} (e : Same F H) (n : H p = none) : More H F (upd H p o) (upd F p o) := by
  refine ⟨same_upd' (e.free n), same_upd' n, fun b x q => ?_, fun b x q m => ?_⟩
  · by_cases hb : b = p
    · subst hb; rw [upd_same] at q ⊢; exact q
    · rw [upd_ne hb] at q ⊢; exact e b x q
  · rw [upd_ne (ne_of_none q n)]; exact m
/-- a new object, not frozen -/
theorem More.loose {p : Addr} {o : HO} (e : Same F H) (n : H p = none) : More H F (upd H p o) F :=
  ⟨Same.refl _, same_upd' n, fun b x q => by rw [upd_ne (ne_of_none (e b x q) n)]; exact e b x q, fun _ _ _ m => m⟩
end

/-- an answer, carried from here on -/
def Ans {a : Type} (c : Cc) (r : Rho) (s : L2.St) (H F : Hp) (m : M a) (P : a → Hp → Hp → Prop) : Prop := match m with
  | none => False
  | some (.ok x) => ∀ H' F', Rel c r s H' F' → More H F H' F' → P x H' F'
  | some (.error e) => ∀ H' F', Rel c r s H' F' → More H F H' F' → c.W (.ref (c.ax e)) none s H'
section
variable {a b : Type} {c : Cc} {r : Rho} {s : L2.St} {H F H' F' : Hp} {m : M a} {P P' : a → Hp → Hp → Prop}
theorem Ans.mono (h : Ans c r s H F m P) (e : More H F H' F') : Ans c r s H' F' m P := by
  unfold Ans at h ⊢
  split at h
  · exact h
  · exact fun H2 F2 R e2 => h H2 F2 R (e.trans e2)
  · exact fun H2 F2 R e2 => h H2 F2 R (e.trans e2)
theorem Ans.imp (h : Ans c r s H F m P) (k : ∀ x H' F', Rel c r s H' F' → More H F H' F' → P x H' F' → P' x H' F') : Ans c r s H F m P' := by
  unfold Ans at h ⊢
  split at h
  · exact h
  · exact fun H2 F2 R e2 => k _ H2 F2 R e2 (h H2 F2 R e2)
  · exact h
theorem Ans.bnd {k : a → M b} {P : b → Hp → Hp → Prop} (h : Ans c r s H F (bnd m k) P) : Ans c r s H F m (fun x H1 F1 => Ans c r s H1 F1 (k x) P) := by
  cases m with
  | none => exact h
  | some z =>
    cases z with
    | error e => exact h
    | ok x => exact fun H2 F2 R e2 => Ans.mono (show Ans c r s H F (k x) P from h) e2
theorem Ans.now {x : a} (h : Ans c r s H F (ok x) P) (R : Rel c r s H F) : P x H F := h H F R (More.refl R.fr.sub)
theorem Ans.of {x : a} (h : ∀ H' F', Rel c r s H' F' → More H F H' F' → P x H' F') : Ans c r s H F (ok x) P := h
end

/-- a value on hand: frozen data, or a list at the top that is not (its items are) -/
def Bp (K : PySem.W.Frag) (H F : Hp) (v : V) (d : PyData) : Prop :=
  Dq K F v d ∨ ∃ p vs xs, v = .ref p ∧ d = .list xs ∧ H p = some (.lst vs) ∧ DqAll K F vs xs
section
variable {K : PySem.W.Frag} {H F H' F' : Hp} {v : V} {d : PyData} {c : Cc} {r : Rho} {s : L2.St}
theorem Bp.more (h : Bp K H F v d) (m : More H F H' F') : Bp K H' F' v d := by
  rcases h with h | ⟨p, vs, xs, e1, e2, h1, h2⟩
  · exact .inl (dp_same m.f h)
  · exact .inr ⟨p, vs, xs, e1, e2, m.h _ _ h1, dpAll_same m.f h2⟩
theorem Bp.dq (h : Bp K H F v d) (e : Same F H) : Dq K H v d := by
  rcases h with h | ⟨p, vs, xs, rfl, rfl, h1, h2⟩
  · exact dp_same e h
  · exact .lst (SqL.of h1) (dpAll_same e h2)
theorem Bp.list {xs : List PyData} (h : Bp K H F v (.list xs)) (e : Same F H) : ∃ p vs, v = .ref p ∧ SqL K H p vs ∧ DqAll K F vs xs := by
  rcases h with h | ⟨p, vs, ys, rfl, e2, h1, h2⟩
  · cases h with | lst h1 h2 => exact ⟨_, _, rfl, same_l e h1, h2⟩
  · cases e2; exact ⟨p, vs, rfl, SqL.of h1, h2⟩
theorem Bp.tup {xs : List PyData} (h : Bp K H F v (.tuple xs)) (e : Same F H) : ∃ p vs, v = .ref p ∧ SqT K H p vs ∧ DqAll K F vs xs := by
  rcases h with h | ⟨p, vs, ys, rfl, e2, h1, h2⟩
  · cases h with | tup h1 h2 => exact ⟨_, _, rfl, same_t e h1.t, h2⟩
  · cases e2
theorem Bp.tupP {xs : List PyData} (h : Bp K H F v (.tuple xs)) (e : Same F H) : ∃ p vs, v = .ref p ∧ SqP K H p vs ∧ DqAll K F vs xs := by
  rcases h with h | ⟨p, vs, ys, rfl, e2, h1, h2⟩
  · cases h with | tup h1 h2 => exact ⟨_, _, rfl, same_p e h1, h2⟩
  · cases e2
theorem Bp.dp (h : Bp K H F v d) (e : Same F H) : Dp K H v d := (h.dq e).dp
theorem Bp.int {i : Int} (h : Bp K H F v (.int i)) : v = .int i := by
  rcases h with h | ⟨p, vs, ys, rfl, e2, h1, h2⟩
  · cases h; rfl
  · cases e2
theorem Bp.bool {i : Bool} (h : Bp K H F v (.bool i)) : v = .bl i := by
  rcases h with h | ⟨p, vs, ys, rfl, e2, h1, h2⟩
  · cases h; rfl
  · cases e2
theorem Bp.str {i : Str} (h : Bp K H F v (.str i)) : v = .str i := by
  rcases h with h | ⟨p, vs, ys, rfl, e2, h1, h2⟩
  · cases h; rfl
  · cases e2
theorem Bp.none (h : Bp K H F v .none) : v = .non := by
  rcases h with h | ⟨p, vs, ys, rfl, e2, h1, h2⟩
  · cases h; rfl
  · cases e2
end

abbrev Ef := Rho → M PyData
/-- an expression whose value is frozen data -/
def teD (c : Cc) (f : Ef) : TE := fun s H Q => ∃ r F, Rel c r s H F ∧ Ans c r s H F (f r) (fun d H' F' => ∀ v, Dq c.K F' v d → Q v H')
/-- .. on hand -/
def teB (c : Cc) (f : Ef) : TE := fun s H Q => ∃ r F, Rel c r s H F ∧ Ans c r s H F (f r) (fun d H' F' => ∀ v, Bp c.K H' F' v d → Q v H')
/-- .. a new list, not frozen, none of the slots' -/
def teO (c : Cc) (f : Rho → M (List PyData)) : TE := fun s H Q => ∃ r F, Rel c r s H F ∧ Ans c r s H F (f r) (fun xs H' F' => ∀ p vs, H' p = some (.lst vs) → F' p = none → H p = none → DqAll c.K F' vs xs → Q (.ref p) H')
/-- an argument list -/
def taD (c : Cc) (f : Rho → M (List PyData)) : TA := fun s H Q => ∃ r F, Rel c r s H F ∧ Ans c r s H F (f r) (fun ds H' F' => ∀ vs, DqAll c.K F' vs ds → Q vs H')
/-- a test -/
def ttD (c : Cc) (f : Rho → M Bool) : TT := fun s H Q => ∃ r F, Rel c r s H F ∧ Ans c r s H F (f r) (fun b H' _ => Q b H')

theorem PE.weak {X : Cx} {e : Expr} {t t' : TE} (h : PE X e t) (k : ∀ s H Q, t' s H Q → t s H Q) : PE X e t' := ⟨fun pins s σ H Q I z => h.run pins s σ H Q I (k σ H Q z)⟩
theorem PT.weak {X : Cx} {e : Expr} {t t' : TT} (h : PT X e t) (k : ∀ s H Q, t' s H Q → t s H Q) : PT X e t' := ⟨fun pins s σ H Q I z => h.run pins s σ H Q I (k σ H Q z)⟩
theorem PW.weak {X : Cx} {e : Expr} {t t' : TT} (h : PW X e t) (k : ∀ s H Q, t' s H Q → t s H Q) : PW X e t' := ⟨fun wh pins s σ H Q I z => h.run wh pins s σ H Q I (k σ H Q z)⟩
theorem PA.weak {X : Cx} {e : List Expr} {t t' : TA} (h : PA X e t) (k : ∀ s H Q, t' s H Q → t s H Q) : PA X e t' := ⟨fun pos pins s σ H Q I z => h.run pos pins s σ H Q I (k σ H Q z)⟩
theorem PS.weak {X : Cx} {e : Stmt} {t t' : TS} (h : PS X e t) (k : ∀ D s H, t' D s H → t D s H) : PS X e t' := ⟨fun pins s σ H D I z => h.run pins s σ H D I (k D σ H z)⟩
theorem PSs.weak {X : Cx} {e : List Stmt} {t t' : TS} (h : PSs X e t) (k : ∀ D s H, t' D s H → t D s H) : PSs X e t' := ⟨fun pins s σ H D I z => h.run pins s σ H D I (k D σ H z)⟩
end DL

set_option Elab.async false
set_option linter.all false
set_option maxRecDepth 100000
/-! The data layer, 2: expressions. -/
noncomputable section
namespace DL
open PySem L2

/-- how long lists and texts may grow -/
theorem lim_ex : ∃ n : Nat, n = 1000000 := ⟨_, rfl⟩
/-- the longest list; held back from the kernel's reckoning -/
def lim : Nat := lim_ex.choose
theorem lim_is : lim = 1000000 := lim_ex.choose_spec
theorem inW_ex : ∃ f : Int → Bool, ∀ i, f i = (decide (-(2 ^ 64) < i) && decide (i < 2 ^ 64)) := ⟨_, fun _ => rfl⟩
def inW : Int → Bool := inW_ex.choose
theorem inW_of {i : Int} : inW i = true ↔ -(2 ^ 64) < i ∧ i < 2 ^ 64 := by
  rw [show inW i = _ from inW_ex.choose_spec i, Bool.and_eq_true, decide_eq_true_eq, decide_eq_true_eq]
theorem inR_ex : ∃ f : Int → Bool, ∀ i, f i = (decide (-(2 ^ 60) ≤ i) && decide (i < 2 ^ 60)) := ⟨_, fun _ => rfl⟩
def inR : Int → Bool := inR_ex.choose
theorem inR_iff {i : Int} : inR i = true ↔ -(2 ^ 60) ≤ i ∧ i < 2 ^ 60 := by
  rw [show inR i = _ from inR_ex.choose_spec i, Bool.and_eq_true, decide_eq_true_eq, decide_eq_true_eq]
theorem inL_ex : ∃ f : Int → Bool, ∀ i, f i = (decide (-(2 ^ 60) ≤ i) && decide (i ≤ 1000000)) := ⟨_, fun _ => rfl⟩
def inL : Int → Bool := inL_ex.choose
theorem inL_iff {i : Int} : inL i = true ↔ -(2 ^ 60) ≤ i ∧ i ≤ 1000000 := by
  rw [show inL i = _ from inL_ex.choose_spec i, Bool.and_eq_true, decide_eq_true_eq, decide_eq_true_eq]
theorem lim_line {n : Nat} (h : n ≤ lim) : n ≤ sizeLine := Nat.le_trans h (by rw [lim_is]; decide)
theorem lim_lt {n : Nat} (h : n < lim) : n < sizeLine := Nat.lt_of_lt_of_le h (by rw [lim_is]; decide)

section
variable {X : Cx} {c : Cc} {e a b : Expr} {f g : Ef} {pos : Pos}

/-! ### frozen values are on hand -/
theorem de_b (h : PE X e (teD c f)) : PE X e (teB c f) := PE.weak h fun s H Q ⟨r, F, R, k⟩ => ⟨r, F, R, k.imp fun d H1 F1 _ _ q v hv => q v (.inl hv)⟩
theorem de_eq {f' : Ef} (h : PE X e (teD c f)) (z : ∀ r, f' r = f r) : PE X e (teD c f') := by
  have : f' = f := funext z
  rw [this]; exact h

/-! ### constants, names -/
def eC (d : PyData) : Ef := fun _ => ok d
theorem te_c {v : V} {d : PyData} {s : L2.St} {H : Hp} {Q : VK} (hd : ∀ F, Dq c.K F v d) : teD c (eC d) s H Q → tC v s H Q := fun ⟨r, F, R, k⟩ => k.now R v (hd F)
theorem de_int {i : Int} {j : Nat} : PE X (.Constant (.int i) j pos) (teD c (eC (.int i))) := PE.weak pe_int fun _ _ _ => te_c fun _ => .int i
theorem de_bl {i : Bool} {j : Nat} : PE X (.Constant (.bool i) j pos) (teD c (eC (.bool i))) := PE.weak pe_bl fun _ _ _ => te_c fun _ => .bl i
theorem de_non {j : Nat} : PE X (.Constant .none j pos) (teD c (eC .none)) := PE.weak pe_non fun _ _ _ => te_c fun _ => .non
theorem de_str {i : Str} {j : Nat} : PE X (.Constant (.str i) j pos) (teD c (eC (.str i))) := PE.weak pe_str fun _ _ _ => te_c fun _ => .str i
/-- a module's constant, an int -/
theorem de_globI {x : Str} {i : Int} {t : Tok} (hg : Gl X x) (hm : X.mg x = some (.int i t)) (hd : (x == ("__debug__" : Str)) = false := by decide) : PE X (.Name x pos) (teD c (eC (.int i))) :=
  PE.weak (pe_glob (v := .int i) hg hm ⟨t, rfl⟩ hd) fun _ _ _ => te_c fun _ => .int i
theorem de_globS {x : Str} {i : Str} {t : Tok} (hg : Gl X x) (hm : X.mg x = some (.str i t)) (hd : (x == ("__debug__" : Str)) = false := by decide) : PE X (.Name x pos) (teD c (eC (.str i))) :=
  PE.weak (pe_glob (v := .str i) hg hm ⟨t, rfl⟩ hd) fun _ _ _ => te_c fun _ => .str i

/-- a slot's data -/
def eV (i : Nat) : Ef := fun r => match r[i]? with
  | some (some (.d x)) => ok x
  | _ => none
/-- a slot's data, or what its list holds now -/
def eO (i : Nat) : Ef := fun r => match r[i]? with
  | some (some (.d x)) => ok x
  | some (some (.own xs)) => ok (.list xs)
  | _ => none
theorem de_v {i : Nat} (h : PE X e (tVar i)) : PE X e (teD c (eV i)) := by
  refine PE.weak h fun s H Q ⟨r, F, R, k⟩ => ?_
  unfold eV at k
  split at k
  · rename_i x e
    obtain ⟨v, e1, h1⟩ := R.data e
    exact ⟨v, e1, k.now R v h1⟩
  · exact k.elim
theorem de_o {i : Nat} (h : PE X e (tVar i)) : PE X e (teB c (eO i)) := by
  refine PE.weak h fun s H Q ⟨r, F, R, k⟩ => ?_
  unfold eO at k
  split at k
  · rename_i x e
    obtain ⟨v, e1, h1⟩ := R.data e
    exact ⟨v, e1, k.now R v (.inl h1)⟩
  · rename_i xs e
    obtain ⟨p, vs, e1, h1, h2, h3, h4⟩ := R.mine e
    exact ⟨_, e1, k.now R _ (.inr ⟨p, vs, xs, rfl, rfl, h1, h4⟩)⟩
  · exact k.elim

/-! ### operators -/
def e2 (o : PyData → PyData → M PyData) (f g : Ef) : Ef := fun r => bnd (f r) fun x => bnd (g r) fun y => o x y
def e1 (o : PyData → M PyData) (f : Ef) : Ef := fun r => bnd (f r) o
def OpS (c : Cc) (rr : R2) (o : PyData → PyData → M PyData) : Prop := ∀ (r : Rho) (s : L2.St) (H F : Hp) (x y : V) (a b : PyData) (Q : VK), Rel c r s H F → Bp c.K H F x a → Bp c.K H F y b →
  Ans c r s H F (o a b) (fun d H' F' => ∀ v, Dq c.K F' v d → Q v H') → rr x y H Q
theorem te_op {rr : R2} {o : PyData → PyData → M PyData} (os : OpS c rr o) {s : L2.St} {H : Hp} {Q : VK} : teD c (e2 o f g) s H Q → tOp rr (teB c f) (teB c g) s H Q := fun ⟨r, F, R, h⟩ =>
  ⟨r, F, R, h.bnd.imp fun x H1 F1 R1 m1 h1 v hv => ⟨r, F1, R1, h1.bnd.imp fun y H2 F2 R2 m2 h2 u hu => os r s H2 F2 v u x y Q R2 (hv.more m2) hu h2⟩⟩
theorem de_op {op : Operator} {rr : R2} {o : PyData → PyData → M PyData} (ho : OpR X (binaryOp op) rr) (os : OpS c rr o) (ha : PE X a (teB c f)) (hb : PE X b (teB c g)) : PE X (.BinOp a op b pos) (teD c (e2 o f g)) :=
  PE.weak (pe_op ho ha hb) fun _ _ _ => te_op os
theorem de_cmp {op : CmpOp} {rr : R2} {o : PyData → PyData → M PyData} (ho : OpR X (compareOp op) rr) (os : OpS c rr o) (ha : PE X a (teB c f)) (hb : PE X b (teB c g)) (hm : behindInMarks op b = false := by first | exact nomark _ | rfl) : PE X (.Compare a [op] [b] pos) (teD c (e2 o f g)) :=
  PE.weak (pe_cmpR ho ha hb hm) fun _ _ _ => te_op os
theorem de_un {op : UnaryOp} {rr : V → Hp → VK → Prop} {o : PyData → M PyData} (ho : UnR X (unaryOp op) rr) (os : ∀ (r : Rho) (s : L2.St) (H F : Hp) (x : V) (a : PyData) (Q : VK), Rel c r s H F → Bp c.K H F x a → Ans c r s H F (o a) (fun d H' F' => ∀ v, Dq c.K F' v d → Q v H') → rr x H Q)
    (ha : PE X a (teB c f)) : PE X (.UnaryOp op a pos) (teD c (e1 o f)) :=
  PE.weak (pe_un ho ha) fun s H Q ⟨r, F, R, h⟩ => ⟨r, F, R, h.bnd.imp fun x H1 F1 R1 m1 h1 v hv => os r s H1 F1 v x Q R1 hv h1⟩
/-- a < b < c -/
def e3 (o o' : PyData → PyData → M PyData) (f g h : Ef) : Ef := fun r => bnd (f r) fun x => bnd (g r) fun y => bnd (o x y) fun z => match z with
  | .bool true => bnd (h r) fun w => o' y w
  | .bool false => ok (.bool false)
  | _ => none
theorem de_chain {d : Expr} {op op' : CmpOp} {rr rr' : R2} {o o' : PyData → PyData → M PyData} {h : Ef} (ho : OpR X (compareOp op) rr) (ho' : OpR X (compareOp op') rr') (os : OpS c rr o) (os' : OpS c rr' o') (ha : PE X a (teB c f)) (hb : PE X b (teB c g)) (hd : PE X d (teB c h))
    (hm : lastMarks [op, op'] [b, d] = false := by with_unfolding_all rfl) : PE X (.Compare a [op, op'] [b, d] pos) (teD c (e3 o o' f g h)) := by
  refine PE.weak (pe_chain ho ho' ha hb hd hm) fun s H Q ⟨r, F, R, k⟩ => ?_
  refine ⟨r, F, R, k.bnd.imp fun x H1 F1 R1 m1 k1 v hv => ⟨r, F1, R1, k1.bnd.imp fun y H2 F2 R2 m2 k2 u hu => ?_⟩⟩
  refine os r s H2 F2 v u x y _ R2 (hv.more m2) hu (k2.bnd.imp fun z H3 F3 R3 m3 k3 t ht => ?_)
  split at k3
  · cases ht
    refine ⟨true, rfl, ?_⟩
    rw [if_pos rfl]
    exact ⟨r, F3, R3, k3.bnd.imp fun w H4 F4 R4 m4 k4 p hp => os' r s H4 F4 u p y w Q R4 (hu.more (m3.trans m4)) hp k4⟩
  · cases ht
    refine ⟨false, rfl, ?_⟩
    rw [if_neg (by decide)]
    exact k3.now R3 _ (.bl false)
  · exact k3.elim

/-! ### the operators by name -/
def oAdd : PyData → PyData → M PyData
  | .int i, .int j => ok (.int (i + j))
  | .str x, .str y => if x.length + y.length ≤ lim then ok (.str (x ++ y)) else none
  | .tuple xs, .tuple ys => if xs.length + ys.length ≤ lim then ok (.tuple (xs ++ ys)) else none
  | .list xs, .list ys => if xs.length + ys.length ≤ lim then ok (.list (xs ++ ys)) else none
  | _, _ => none
def rCatS (K : PySem.W.Frag) : R2 := fun x y H Q => ∃ l b xs zs, x = .ref l ∧ y = .ref b ∧ SqL K H l xs ∧ SqL K H b zs ∧ xs.length + zs.length ≤ sizeLine ∧ ∀ p, H p = none → Q (.ref p) (upd H p (.lst (xs ++ zs)))
theorem op_catS : OpR X (binaryOp .Add) (rCatS X.K) := by
  intro pins s σ H x y v u Q I rx ry h
  obtain ⟨l, b, xs, zs, rfl, rfl, h1, h2, hz, q⟩ := h
  cases rx
  cases ry
  obtain ⟨its, r1, ⟨⟨cls, dd, data, sl⟩, n, ho, hc, hdn, hd⟩, z1⟩ := I.list h1
  obtain ⟨its2, r2, ⟨⟨cls2, dd2, data2, sl2⟩, n2, ho2, hc2, hdn2, hd2⟩, z2⟩ := I.list h2
  simp only at hc hd hdn hc2 hd2 hdn2
  subst hc hd hdn hc2 hd2 hdn2
  have e1 := r1.length
  have e2 := r2.length
  have ez : its.toArray.size + its2.toArray.size ≤ sizeLine := by rw [List.size_toArray, List.size_toArray]; omega
  have ea : its.toArray ++ its2.toArray = (its ++ its2).toArray := by simp
  refine PySem.concat_meets ⟨_, ho, rfl⟩ ⟨_, ho2, rfl⟩ PySem.noFill_list_add PySem.seq_list_add PySem.F.slot_list_add PySem.F.entry_list_add
    (PySem.F.args_list_add_2 _ _) (PyProof.Rows.list_addW l b its.toArray its2.toArray n n2 none none sl sl2 ez) ⟨ho, ho2, ?_⟩
  rw [ea]
  exact ⟨.ref _, _, I.lnew (t' := s.toks) (r1.append r2) (by rw [List.length_append]; omega), rfl, q _ I.fresh⟩
def rAddS (K : PySem.W.Frag) : R2 := fun x y H Q => ((rI0 fun i j => .int (i + j)) x y H Q ∨ (∃ i j, x = .str i ∧ y = .str j ∧ i.length + j.length ≤ sizeLine ∧ Q (.str (i ++ j)) H)) ∨ (rCatZ K x y H Q ∨ rCatS K x y H Q)
theorem op_addS : OpR X (binaryOp .Add) (rAddS X.K) := (op_add.or op_add_str).or (op_catZ.or op_catS)
/-- a new object, frozen at once: the answer's end -/
theorem lay_t {r : Rho} {s : L2.St} {H F : Hp} {P : PyData → Hp → Hp → Prop} {vs : List V} {ds : List PyData} {p : Addr} {ob : Obj} (R : Rel c r s H F) (h : Ans c r s H F (ok (.tuple ds)) P) (n : H p = none) (od : ob.dict = none) (hv : DqAll c.K F vs ds) : P (.tuple ds) (upd H p (.frz ob (.tup vs))) (upd F p (.frz ob (.tup vs))) ∧ Dq c.K (upd F p (.frz ob (.tup vs))) (.ref p) (.tuple ds) :=
  have m := More.laid (o := .frz ob (.tup vs)) R.fr.sub n
  ⟨h _ _ (R.more m) m, .tup (.inl ⟨ob, upd_same, od⟩) (dpAll_same m.f hv)⟩
theorem lay_l {r : Rho} {s : L2.St} {H F : Hp} {P : PyData → Hp → Hp → Prop} {vs : List V} {ds : List PyData} {p : Addr} (R : Rel c r s H F) (h : Ans c r s H F (ok (.list ds)) P) (n : H p = none) (hv : DqAll c.K F vs ds) : P (.list ds) (upd H p (.lst vs)) (upd F p (.lst vs)) ∧ Dq c.K (upd F p (.lst vs)) (.ref p) (.list ds) :=
  have m := More.laid (o := .lst vs) R.fr.sub n
  ⟨h _ _ (R.more m) m, .lst (SqL.of upd_same) (dpAll_same m.f hv)⟩
theorem os_add : OpS c (rAddS c.K) oAdd := by
  intro r s H F x y a b Q R hx hy h
  unfold oAdd at h
  split at h
  · exact .inl (.inl ⟨_, _, hx.int, hy.int, h.now R _ (.int _)⟩)
  · split at h
    · exact .inl (.inr ⟨_, _, hx.str, hy.str, lim_line (by assumption), h.now R _ (.str _)⟩)
    · exact h.elim
  · rename_i xs ys
    split at h
    · rename_i hz
      obtain ⟨p, vs, rfl, hs, hd⟩ := hx.tup R.fr.sub
      obtain ⟨q, ws, rfl, ht, he⟩ := hy.tup R.fr.sub
      have l1 := dpAll_len hd
      have l2 := dpAll_len he
      refine .inr (.inl ⟨p, q, vs, ws, rfl, rfl, hs, ht, lim_line (by omega), fun z => ?_, fun z1 z2 => ?_, fun _ _ o ob no od => ?_⟩)
      · subst z
        cases hd
        rcases hy with hy | ⟨_, _, _, _, ey, _⟩
        · exact h.now R _ hy
        · cases ey
      · subst z2
        cases he
        rcases hx with hx | ⟨_, _, _, _, ey, _⟩
        · exact h.now R _ (by rw [List.append_nil]; exact hx)
        · cases ey
      · have := lay_t R h no od (dpAll_app hd he)
        exact this.1 _ this.2
    · exact h.elim
  · rename_i xs ys
    split at h
    · rename_i hz
      obtain ⟨p, vs, rfl, hs, hd⟩ := hx.list R.fr.sub
      obtain ⟨q, ws, rfl, ht, he⟩ := hy.list R.fr.sub
      have l1 := dpAll_len hd
      have l2 := dpAll_len he
      refine .inr (.inr ⟨p, q, vs, ws, rfl, rfl, hs, ht, lim_line (by omega), fun o no => ?_⟩)
      have := lay_l R h no (dpAll_app hd he)
      exact this.1 _ this.2
    · exact h.elim
  · exact h.elim

def oSub : PyData → PyData → M PyData
  | .int i, .int j => ok (.int (i - j))
  | _, _ => none
def oDiv : PyData → PyData → M PyData
  | .int i, .int j => if 0 < j ∧ j < 1073741824 then ok (.int (i / j)) else none
  | _, _ => none
def oMod : PyData → PyData → M PyData
  | .int i, .int j => if 0 < j then ok (.int (i % j)) else none
  | _, _ => none
def oMul : PyData → PyData → M PyData
  | .int i, .int j => if inW i = true ∨ inW j = true then ok (.int (i * j)) else none
  | .list xs, .int k => if inR k = true ∧ xs.length * k.toNat ≤ lim then ok (.list (List.replicate k.toNat xs).flatten) else none
  | _, _ => none
theorem os_sub : OpS c (rI0 fun i j => .int (i - j)) oSub := by
  intro r s H F x y a b Q R hx hy h
  unfold oSub at h
  split at h
  · exact ⟨_, _, hx.int, hy.int, h.now R _ (.int _)⟩
  · exact h.elim
theorem os_div : OpS c (rI CDiv fun i j => .int (i / j)) oDiv := by
  intro r s H F x y a b Q R hx hy h
  unfold oDiv at h
  split at h
  · split at h
    · exact ⟨_, _, hx.int, hy.int, by assumption, h.now R _ (.int _)⟩
    · exact h.elim
  · exact h.elim
theorem os_mod : OpS c (rI (fun _ j => 0 < j) fun i j => .int (i % j)) oMod := by
  intro r s H F x y a b Q R hx hy h
  unfold oMod at h
  split at h
  · split at h
    · exact ⟨_, _, hx.int, hy.int, by assumption, h.now R _ (.int _)⟩
    · exact h.elim
  · exact h.elim
theorem os_neg (r : Rho) (s : L2.St) (H F : Hp) (x : V) (a : PyData) (Q : VK) (R : Rel c r s H F) (hx : Bp c.K H F x a) (h : Ans c r s H F ((fun d => match d with | .int i => ok (.int (-i)) | _ => none) a) (fun d H' F' => ∀ v, Dq c.K F' v d → Q v H')) : rU (fun i => .int (-i)) x H Q := by
  dsimp only at h
  split at h
  · exact ⟨_, hx.int, h.now R _ (.int _)⟩
  · exact h.elim
def oNeg : PyData → M PyData := fun d => match d with
  | .int i => ok (.int (-i))
  | _ => none
theorem de_neg (ha : PE X a (teB c f)) : PE X (.UnaryOp .USub a pos) (teD c (e1 oNeg f)) := de_un un_neg os_neg ha

theorem dpAll_rep {K : PySem.W.Frag} {H : Hp} {vs : List V} {ds : List PyData} (h : DqAll K H vs ds) : ∀ k : Nat, DqAll K H (List.replicate k vs).flatten (List.replicate k ds).flatten
  | 0 => .nil
  | k + 1 => by rw [List.replicate_succ, List.replicate_succ, List.flatten_cons, List.flatten_cons]; exact dpAll_app h (dpAll_rep h k)
def rRepS (K : PySem.W.Frag) : R2 := fun x y H Q => ∃ l k xs, x = .ref l ∧ y = .int k ∧ H l = some (.lst xs) ∧ -(2 ^ 63) ≤ k ∧ k < 2 ^ 63 ∧ xs.length * k.toNat ≤ sizeLine ∧ ∀ p, H p = none → Q (.ref p) (upd H p (.lst (List.replicate k.toNat xs).flatten))

/-! ### comparisons -/
def oCmp (p : Int → Int → Bool) : PyData → PyData → M PyData
  | .int i, .int j => ok (.bool (p i j))
  | _, _ => none
theorem os_cmp {p : Int → Int → Bool} : OpS c (rI0 fun i j => .bl (p i j)) (oCmp p) := by
  intro r s H F x y a b Q R hx hy h
  unfold oCmp at h
  split at h
  · exact ⟨_, _, hx.int, hy.int, h.now R _ (.bl _)⟩
  · exact h.elim
abbrev oLt := oCmp fun i j => decide (i < j)
abbrev oLe := oCmp fun i j => decide (i ≤ j)
abbrev oGt := oCmp fun i j => decide (j < i)
abbrev oGe := oCmp fun i j => decide (j ≤ i)
def oEq : PyData → PyData → M PyData := fun a b => if SeqAt.shaped a = true ∧ SeqAt.shaped b = true then ok (.bool (PyData.eqv a b)) else none
def oNe : PyData → PyData → M PyData := fun a b => if SeqAt.shaped a = true ∧ SeqAt.shaped b = true then ok (.bool (!PyData.eqv a b)) else none
theorem os_eq : OpS c (rEqD c.K) oEq := by
  intro r s H F x y a b Q R hx hy h
  unfold oEq at h
  split at h
  · rename_i z
    exact ⟨a, b, hx.dp R.fr.sub, hy.dp R.fr.sub, z.1, z.2, h.now R _ (.bl _)⟩
  · exact h.elim
theorem os_ne : OpS c (rNeD c.K) oNe := by
  intro r s H F x y a b Q R hx hy h
  unfold oNe at h
  split at h
  · rename_i z
    exact ⟨a, b, hx.dp R.fr.sub, hy.dp R.fr.sub, z.1, z.2, h.now R _ (.bl _)⟩
  · exact h.elim
def isN : PyData → Bool
  | .none => true
  | _ => false
def oIsN : PyData → PyData → M PyData := fun a b => match b with
  | .none => ok (.bool (isN a))
  | _ => none
def oNotN : PyData → PyData → M PyData := fun a b => match b with
  | .none => ok (.bool (!isN a))
  | _ => none
theorem bp_non {K : PySem.W.Frag} {H F : Hp} {v : V} {d : PyData} (h : Bp K H F v d) : decide (v = .non) = isN d := by
  rcases h with h | ⟨p, vs, xs, rfl, rfl, _, _⟩
  · cases h <;> rfl
  · rfl
theorem bp_non' {K : PySem.W.Frag} {H F : Hp} {v : V} {d : PyData} (h : Bp K H F v d) : (!decide (v = .non)) = !isN d := by
  rw [bp_non h]
theorem os_isN : OpS c (fun x y H Q => y = .non ∧ Q (.bl (decide (x = .non))) H) oIsN := by
  intro r s H F x y a b Q R hx hy h
  unfold oIsN at h
  split at h
  · refine ⟨hy.none, ?_⟩
    rw [bp_non hx]
    exact h.now R _ (Dq.bl (isN a))
  · exact h.elim
theorem os_notN : OpS c (fun x y H Q => y = .non ∧ Q (.bl (!decide (x = .non))) H) oNotN := by
  intro r s H F x y a b Q R hx hy h
  unfold oNotN at h
  split at h
  · refine ⟨hy.none, ?_⟩
    rw [bp_non' hx]
    exact h.now R _ (Dq.bl (!isN a))
  · exact h.elim
/-- in, not in: lists and tuples of data -/
def oIn (neg : Bool) : PyData → PyData → M PyData := fun a b => match b with
  | .list ds => if SeqAt.shaped a = true ∧ SeqAt.shaped (.list ds) = true then ok (.bool (neg ^^ ds.any fun z => PyData.eqv z a)) else none
  | .tuple ds => if SeqAt.shaped a = true ∧ SeqAt.shaped (.tuple ds) = true then ok (.bool (neg ^^ ds.any fun z => PyData.eqv z a)) else none
  | _ => none
def rInT (K : PySem.W.Frag) (neg : Bool) : R2 := fun x y H Q => ∃ d ds, Dp K H x d ∧ Dp K H y (.tuple ds) ∧ SeqAt.shaped d = true ∧ SeqAt.shaped (.tuple ds) = true ∧ Q (.bl (neg ^^ ds.any fun z => PyData.eqv z d)) H
theorem room_in_tup {A : Around} {d : PyData} {ds : List PyData} (h : SeqAt.shaped d = true) (hu : A.units + 65 < cLine) : A.units + 1 + min (PyData.depthAll ds) d.depth < cLine := by
  have h1 := SeqAt.depth_of_shaped h
  have h2 : min (PyData.depthAll ds) d.depth ≤ d.depth := Nat.min_le_right _ _
  omega
theorem canAll_of {ds : List PyData} (h : SeqAt.shaped (.tuple ds) = true) : PyData.canLayAll0 ds = true := by
  have q := SeqAt.canLay_of_shaped h
  simpa only [PyData.canLay0] using q
theorem op_inT (hu : X.A.units + 65 < cLine) : OpR X (compareOp .In) (rInT X.K false) := by
  intro pins s σ H x y v u Q I rx ry h
  obtain ⟨d, ds, hd, he, sd, se, q⟩ := h
  obtain ⟨as, r1⟩ := Dp.reads I d x v hd rx
  obtain ⟨bs, r2⟩ := Dp.reads I (.tuple ds) y u he ry
  exact SeqAt.in_tuple_reads r2 r1 (canAll_of se) (SeqAt.canLay_of_shaped sd) (room_in_tup sd hu) ⟨.bl _, H, I, rfl, by rw [Bool.false_xor] at q; exact q⟩
theorem op_notInT (hu : X.A.units + 65 < cLine) : OpR X (compareOp .NotIn) (rInT X.K true) := by
  intro pins s σ H x y v u Q I rx ry h
  obtain ⟨d, ds, hd, he, sd, se, q⟩ := h
  obtain ⟨as, r1⟩ := Dp.reads I d x v hd rx
  obtain ⟨bs, r2⟩ := Dp.reads I (.tuple ds) y u he ry
  exact SeqAt.notIn_tuple_reads r2 r1 (canAll_of se) (SeqAt.canLay_of_shaped sd) (room_in_tup sd hu) ⟨.bl _, H, I, rfl, by rw [Bool.true_xor] at q; exact q⟩
def rInS (K : PySem.W.Frag) : R2 := fun x y H Q => rInD K x y H Q ∨ rInT K false x y H Q
def rNotInS (K : PySem.W.Frag) : R2 := fun x y H Q => rNotInD K x y H Q ∨ rInT K true x y H Q
theorem op_inS (hu : X.A.units + 65 < cLine) : OpR X (compareOp .In) (rInS X.K) := (op_inD hu).or (op_inT hu)
theorem op_notInS (hu : X.A.units + 65 < cLine) : OpR X (compareOp .NotIn) (rNotInS X.K) := (op_notInD hu).or (op_notInT hu)
theorem os_in : OpS c (rInS c.K) (oIn false) := by
  intro r s H F x y a b Q R hx hy h
  unfold oIn at h
  split at h
  · split at h
    · rename_i z
      exact .inl ⟨_, _, hx.dp R.fr.sub, hy.dp R.fr.sub, z.1, z.2, by have := h.now R _ (.bl _); rw [Bool.false_xor] at this; exact this⟩
    · exact h.elim
  · split at h
    · rename_i z
      exact .inr ⟨_, _, hx.dp R.fr.sub, hy.dp R.fr.sub, z.1, z.2, h.now R _ (.bl _)⟩
    · exact h.elim
  · exact h.elim
theorem os_notIn : OpS c (rNotInS c.K) (oIn true) := by
  intro r s H F x y a b Q R hx hy h
  unfold oIn at h
  split at h
  · split at h
    · rename_i z
      exact .inl ⟨_, _, hx.dp R.fr.sub, hy.dp R.fr.sub, z.1, z.2, by have := h.now R _ (.bl _); rw [Bool.true_xor] at this; exact this⟩
    · exact h.elim
  · split at h
    · rename_i z
      exact .inr ⟨_, _, hx.dp R.fr.sub, hy.dp R.fr.sub, z.1, z.2, h.now R _ (.bl _)⟩
    · exact h.elim
  · exact h.elim
end
end DL

set_option Elab.async false
set_option linter.all false
set_option maxRecDepth 100000
/-! The data layer, 3: tests, displays, places, slices, built-ins, calls of defs. -/
noncomputable section
namespace DL
open PySem L2

section
variable {X : Cx} {c : Cc} {e a b : Expr} {f g : Ef} {pos : Pos}

/-! ### truths as values -/
def eAnd (f g : Ef) : Ef := fun r => bnd (f r) fun x => match x with
  | .bool true => g r
  | .bool false => ok (.bool false)
  | _ => none
def eOr (f g : Ef) : Ef := fun r => bnd (f r) fun x => match x with
  | .bool true => ok (.bool true)
  | .bool false => g r
  | _ => none
def eNot (f : Ef) : Ef := fun r => bnd (f r) fun x => match x with
  | .bool k => ok (.bool (!k))
  | _ => none
theorem de_one {op : BoolOp} (h : PE X e (teD c f)) : PE X (.BoolOp op [e] pos) (teD c f) := pe_one h
theorem de_and {rest : List Expr} (ha : PE X a (teD c f)) (hb : PE X (.BoolOp .And (b :: rest) pos) (teD c g)) : PE X (.BoolOp .And (a :: b :: rest) pos) (teD c (eAnd f g)) := by
  refine PE.weak (pe_and ha hb) fun s H Q ⟨r, F, R, k⟩ => ⟨r, F, R, k.bnd.imp fun x H1 F1 R1 m1 k1 v hv => ?_⟩
  split at k1
  · cases hv
    exact ⟨true, rfl, by rw [if_pos rfl]; exact ⟨r, F1, R1, k1⟩⟩
  · cases hv
    exact ⟨false, rfl, by rw [if_neg (by decide)]; exact k1.now R1 _ (.bl false)⟩
  · exact k1.elim
theorem de_or {rest : List Expr} (ha : PE X a (teD c f)) (hb : PE X (.BoolOp .Or (b :: rest) pos) (teD c g)) : PE X (.BoolOp .Or (a :: b :: rest) pos) (teD c (eOr f g)) := by
  refine PE.weak (pe_or ha hb) fun s H Q ⟨r, F, R, k⟩ => ⟨r, F, R, k.bnd.imp fun x H1 F1 R1 m1 k1 v hv => ?_⟩
  split at k1
  · cases hv
    exact ⟨true, rfl, by rw [if_pos rfl]; exact k1.now R1 _ (.bl true)⟩
  · cases hv
    exact ⟨false, rfl, by rw [if_neg (by decide)]; exact ⟨r, F1, R1, k1⟩⟩
  · exact k1.elim
theorem de_not (ha : PE X a (teD c f)) : PE X (.UnaryOp .Not a pos) (teD c (eNot f)) := by
  refine PE.weak (pe_not ha) fun s H Q ⟨r, F, R, k⟩ => ⟨r, F, R, k.bnd.imp fun x H1 F1 R1 m1 k1 v hv => ?_⟩
  split at k1
  · cases hv
    exact ⟨_, rfl, k1.now R1 _ (.bl _)⟩
  · exact k1.elim

/-! ### tests -/
abbrev Tf := Rho → M Bool
def tCmpF (o : PyData → PyData → M PyData) (f g : Ef) : Tf := fun r => bnd (e2 o f g r) fun z => match z with
  | .bool k => ok k
  | _ => none
def tValF (f : Ef) : Tf := fun r => bnd (f r) fun z => match z with
  | .bool k => ok k
  | _ => none
theorem tt_of {f : Ef} {s : L2.St} {H : Hp} {Q : Bool → Hp → Prop} : ttD c (tValF f) s H Q → teD c f s H (fun x H' => ∃ k, x = .bl k ∧ Q k H') := fun ⟨r, F, R, h⟩ =>
  ⟨r, F, R, h.bnd.imp fun z H1 F1 R1 m1 k1 v hv => by
    split at k1
    · cases hv; exact ⟨_, rfl, k1.now R1⟩
    · exact k1.elim⟩
theorem dt_cmp {op : CmpOp} {rr : R2} {o : PyData → PyData → M PyData} (ho : OpR X (compareOp op) rr) (os : OpS c rr o) (ha : PE X a (teB c f)) (hb : PE X b (teB c g)) (hm : behindInMarks op b = false := by first | exact nomark _ | rfl) : PT X (.Compare a [op] [b] pos) (ttD c (tValF (e2 o f g))) :=
  PT.weak (pt_cmpR ho ha hb hm) fun s H Q q => te_op os (tt_of q)
theorem te_chain {rr rr' : R2} {o o' : PyData → PyData → M PyData} {h : Ef} (os : OpS c rr o) (os' : OpS c rr' o') (s : L2.St) (H : Hp) (Q : VK) : teD c (e3 o o' f g h) s H Q → tChain rr rr' (teB c f) (teB c g) (teB c h) s H Q := fun ⟨r, F, R, k⟩ => by
  refine ⟨r, F, R, k.bnd.imp fun x H1 F1 R1 m1 k1 v hv => ⟨r, F1, R1, k1.bnd.imp fun y H2 F2 R2 m2 k2 u hu => ?_⟩⟩
  refine os r s H2 F2 v u x y _ R2 (hv.more m2) hu (k2.bnd.imp fun z H3 F3 R3 m3 k3 t ht => ?_)
  split at k3
  · cases ht
    refine ⟨true, rfl, ?_⟩
    rw [if_pos rfl]
    exact ⟨r, F3, R3, k3.bnd.imp fun w H4 F4 R4 m4 k4 p hp => os' r s H4 F4 u p y w Q R4 (hu.more (m3.trans m4)) hp k4⟩
  · cases ht
    refine ⟨false, rfl, ?_⟩
    rw [if_neg (by decide)]
    exact k3.now R3 _ (.bl false)
  · exact k3.elim
theorem dt_chain {d : Expr} {op op' : CmpOp} {rr rr' : R2} {o o' : PyData → PyData → M PyData} {h : Ef} (ho : OpR X (compareOp op) rr) (ho' : OpR X (compareOp op') rr') (os : OpS c rr o) (os' : OpS c rr' o') (ha : PE X a (teB c f)) (hb : PE X b (teB c g)) (hd : PE X d (teB c h))
    (hm : lastMarks [op, op'] [b, d] = false := by with_unfolding_all rfl) : PT X (.Compare a [op, op'] [b, d] pos) (ttD c (tValF (e3 o o' f g h))) :=
  PT.weak (pt_chain ho ho' ha hb hd hm) fun s H Q q => te_chain os os' s H _ (tt_of q)
/-- a value's truth -/
def tru : PyData → M Bool
  | .none => ok false
  | .bool b => ok b
  | .int i => ok (i != 0)
  | .str y => if y.length ≤ lim then ok ((y.length : Int) != 0) else none
  | .list xs => ok (!xs.isEmpty)
  | .tuple xs => ok (!xs.isEmpty)
  | .dict _ => none
def tTruF (f : Ef) : Tf := fun r => bnd (f r) tru
theorem dpAll_empty {K : PySem.W.Frag} {H : Hp} {vs : List V} {ds : List PyData} (h : DqAll K H vs ds) : vs.isEmpty = ds.isEmpty := by cases h <;> rfl
theorem dt_val (ha : PE X a (teB c f)) (hK : X.K = c.K := by rfl) (he : ∀ whole, isTrue a X.env whole = (do let v ← whole; standAt a.pos; holding [v] (truthy v)) := by intro _; rfl) : PT X a (ttD c (tTruF f)) := by
  refine PT.weak (pt_truth ha he) fun s H Q ⟨r, F, R, k⟩ => ⟨r, F, R, k.bnd.imp fun x H1 F1 R1 m1 k1 v hv => ?_⟩
  rw [hK]
  unfold tru at k1
  split at k1
  · rw [hv.none]; exact ⟨false, rfl, k1.now R1⟩
  · rw [hv.bool]; exact ⟨_, rfl, k1.now R1⟩
  · rw [hv.int]; exact ⟨_, rfl, k1.now R1⟩
  · split at k1
    · rename_i z
      rw [hv.str]; exact ⟨_, ⟨lim_line z, rfl⟩, k1.now R1⟩
    · exact k1.elim
  · obtain ⟨p, vs, rfl, hs, hd⟩ := hv.list R1.fr.sub
    exact ⟨_, .inl ⟨vs, hs, rfl⟩, by rw [dpAll_empty hd]; exact k1.now R1⟩
  · obtain ⟨p, vs, rfl, hs, hd⟩ := hv.tup R1.fr.sub
    exact ⟨_, .inr (.inl ⟨vs, hs, rfl⟩), by rw [dpAll_empty hd]; exact k1.now R1⟩
  · exact k1.elim
def tNotF (f : Tf) : Tf := fun r => bnd (f r) fun k => ok (!k)
def tAndF (f g : Tf) : Tf := fun r => bnd (f r) fun k => if k = true then g r else ok false
def tOrF (f g : Tf) : Tf := fun r => bnd (f r) fun k => if k = true then ok true else g r
variable {tf tg : Tf}
theorem dt_not (ha : PT X a (ttD c tf)) : PT X (.UnaryOp .Not a pos) (ttD c (tNotF tf)) :=
  PT.weak (pt_not ha) fun s H Q ⟨r, F, R, k⟩ => ⟨r, F, R, k.bnd.imp fun x H1 F1 R1 m1 k1 => k1.now R1⟩
theorem dw_and1 (ha : PT X a (ttD c tf)) : PW X (.BoolOp .And [a] pos) (ttD c tf) := pw_and1 ha
theorem dw_or1 (ha : PT X a (ttD c tf)) : PW X (.BoolOp .Or [a] pos) (ttD c tf) := pw_or1 ha
theorem dw_and {rest : List Expr} (ha : PT X a (ttD c tf)) (hb : PW X (.BoolOp .And (b :: rest) pos) (ttD c tg)) : PW X (.BoolOp .And (a :: b :: rest) pos) (ttD c (tAndF tf tg)) := by
  refine PW.weak (pw_and ha hb) fun s H Q ⟨r, F, R, k⟩ => ⟨r, F, R, k.bnd.imp fun x H1 F1 R1 m1 k1 => ?_⟩
  split at k1
  · rename_i z
    rw [if_pos z]; exact ⟨r, F1, R1, k1⟩
  · rename_i z
    rw [if_neg z]; exact k1.now R1
theorem dw_or {rest : List Expr} (ha : PT X a (ttD c tf)) (hb : PW X (.BoolOp .Or (b :: rest) pos) (ttD c tg)) : PW X (.BoolOp .Or (a :: b :: rest) pos) (ttD c (tOrF tf tg)) := by
  refine PW.weak (pw_or ha hb) fun s H Q ⟨r, F, R, k⟩ => ⟨r, F, R, k.bnd.imp fun x H1 F1 R1 m1 k1 => ?_⟩
  split at k1
  · rename_i z
    rw [if_pos z]; exact k1.now R1
  · rename_i z
    rw [if_neg z]; exact ⟨r, F1, R1, k1⟩
/-- a if t else b -/
def eIf (t : Tf) (f g : Ef) : Ef := fun r => bnd (t r) fun k => if k = true then f r else g r
theorem de_if {d : Expr} (hc : PT X d (ttD c tf)) (ha : PE X a (teD c f)) (hb : PE X b (teD c g)) : PE X (.IfExp d a b pos) (teD c (eIf tf f g)) := by
  refine PE.weak (pe_ifExp hc ha hb) fun s H Q ⟨r, F, R, k⟩ => ⟨r, F, R, k.bnd.imp fun x H1 F1 R1 m1 k1 => ?_⟩
  split at k1
  · rename_i z
    rw [if_pos z]; exact ⟨r, F1, R1, k1⟩
  · rename_i z
    rw [if_neg z]; exact ⟨r, F1, R1, k1⟩

/-! ### argument lists, displays -/
abbrev Af := Rho → M (List PyData)
def aNil : Af := fun _ => ok []
def aCons (f : Ef) (g : Af) : Af := fun r => bnd (f r) fun x => bnd (g r) fun xs => ok (x :: xs)
inductive BpAll (K : PySem.W.Frag) (H F : Hp) : List V → List PyData → Prop
  | nil : BpAll K H F [] []
  | cons {v : V} {vs : List V} {d : PyData} {ds : List PyData} : Bp K H F v d → BpAll K H F vs ds → BpAll K H F (v :: vs) (d :: ds)
def taB (c : Cc) (f : Af) : TA := fun s H Q => ∃ r F, Rel c r s H F ∧ Ans c r s H F (f r) (fun ds H' F' => ∀ vs, BpAll c.K H' F' vs ds → Q vs H')
variable {af : Af} {es : List Expr}
theorem da_nil : PA X [] (taD c aNil) := PA.weak pa_nil fun s H Q ⟨r, F, R, k⟩ => k.now R [] .nil
theorem da_cons (ha : PE X e (teD c f)) (hr : PA X es (taD c af)) (hs : starEach (e :: es) X.env = (false, eval e X.env) :: starEach es X.env := by rfl) : PA X (e :: es) (taD c (aCons f af)) :=
  PA.weak (pa_cons ha hr hs) fun s H Q ⟨r, F, R, k⟩ => ⟨r, F, R, k.bnd.imp fun x H1 F1 R1 m1 k1 v hv => ⟨r, F1, R1, k1.bnd.imp fun xs H2 F2 R2 m2 k2 vs hvs => k2.now R2 _ (.cons (dp_same m2.f hv) hvs)⟩⟩
theorem db_nil : PA X [] (taB c aNil) := PA.weak pa_nil fun s H Q ⟨r, F, R, k⟩ => k.now R [] .nil
theorem db_cons (ha : PE X e (teB c f)) (hr : PA X es (taB c af)) (hs : starEach (e :: es) X.env = (false, eval e X.env) :: starEach es X.env := by rfl) : PA X (e :: es) (taB c (aCons f af)) :=
  PA.weak (pa_cons ha hr hs) fun s H Q ⟨r, F, R, k⟩ => ⟨r, F, R, k.bnd.imp fun x H1 F1 R1 m1 k1 v hv => ⟨r, F1, R1, k1.bnd.imp fun xs H2 F2 R2 m2 k2 vs hvs => k2.now R2 _ (.cons (hv.more m2) hvs)⟩⟩
def eTup (g : Af) : Ef := fun r => bnd (g r) fun xs => if xs.length ≤ lim then ok (.tuple xs) else none
def eLst (g : Af) : Ef := fun r => bnd (g r) fun xs => if xs.length ≤ lim then ok (.list xs) else none
def nLst (g : Af) : Af := fun r => bnd (g r) fun xs => if xs.length ≤ lim then ok xs else none
theorem de_tup {k : Nat} (h : PA X es (taD c af)) : PE X (.Tuple es k pos) (teD c (eTup af)) := by
  refine PE.weak (pe_tupZ h) fun s H Q ⟨r, F, R, k⟩ => ⟨r, F, R, k.bnd.imp fun xs H1 F1 R1 m1 k1 vs hv => ?_⟩
  split at k1
  · rename_i z
    refine ⟨lim_line (by rw [dpAll_len hv]; exact z), fun p ob np od => ?_⟩
    have := lay_t R1 k1 np od hv
    exact this.1 _ this.2
  · exact k1.elim
theorem de_lst (h : PA X es (taD c af)) : PE X (.List es pos) (teD c (eLst af)) := by
  refine PE.weak (pe_lst h) fun s H Q ⟨r, F, R, k⟩ => ⟨r, F, R, k.bnd.imp fun xs H1 F1 R1 m1 k1 vs hv => ?_⟩
  split at k1
  · rename_i z
    refine ⟨lim_line (by rw [dpAll_len hv]; exact z), fun p np => ?_⟩
    have := lay_l R1 k1 np hv
    exact this.1 _ this.2
  · exact k1.elim

/-! ### places and slices -/
def oIx : PyData → PyData → M PyData
  | .list xs, .int i => match atI xs i with | some d => ok d | none => none
  | .tuple xs, .int i => match atI xs i with | some d => ok d | none => none
  | .str z, .int i => if z.length ≤ lim then (match atI z.cps.toList i with | some k => ok (.str ⟨#[k]⟩) | none => none) else none
  | _, _ => none
theorem dp_atI {K : PySem.W.Frag} {H : Hp} {vs : List V} {ds : List PyData} (h : DqAll K H vs ds) {i : Int} {d : PyData} (e : atI ds i = some d) : ∃ v, atI vs i = some v ∧ Dq K H v d := by
  unfold atI at e ⊢
  rw [dpAll_len h]
  cases q : ixN ds.length i with
  | none => rw [q] at e; cases e
  | some j => rw [q] at e; exact dpAll_at h e
theorem os_ix : OpS c (rIx c.K) oIx := by
  intro r s H F x y a b Q R hx hy h
  unfold oIx at h
  split at h
  · split at h
    · rename_i e
      obtain ⟨p, vs, rfl, hs, hd⟩ := hx.list R.fr.sub
      obtain ⟨v, e1, h1⟩ := dp_atI hd e
      exact .inl ⟨p, vs, _, v, rfl, hy.int, hs, e1, h.now R v h1⟩
    · exact h.elim
  · split at h
    · rename_i e
      obtain ⟨p, vs, rfl, hs, hd⟩ := hx.tup R.fr.sub
      obtain ⟨v, e1, h1⟩ := dp_atI hd e
      exact .inr (.inl ⟨p, vs, _, v, rfl, hy.int, hs, e1, h.now R v h1⟩)
    · exact h.elim
  · split at h
    · rename_i z
      split at h
      · rename_i e
        exact .inr (.inr ⟨_, _, _, hx.str, hy.int, lim_line z, e, h.now R _ (.str _)⟩)
      · exact h.elim
    · exact h.elim
  · exact h.elim
theorem de_ix (ha : PE X a (teB c f)) (hb : PE X b (teB c g)) (hK : X.K = c.K := by rfl) (hs : PlainIx b := by exact fun _ _ => rfl) : PE X (.Subscript a b pos) (teD c (e2 oIx f g)) :=
  PE.weak (pe_ix (r := rIx c.K) (by rw [← hK]; exact ix_seq) ha hb hs) fun _ _ _ => te_op os_ix
abbrev Of := Rho → M (Option Int)
def pNo : Of := fun _ => ok none
def pSome (f : Ef) : Of := fun r => bnd (f r) fun x => match x with
  | .int i => ok (some i)
  | _ => none
def toD (c : Cc) (f : Of) : TO := fun s H Q => ∃ r F, Rel c r s H F ∧ Ans c r s H F (f r) (fun o H' _ => Q o H')
theorem PO.weak {X : Cx} {e : Option Expr} {t t' : TO} (h : PO X e t) (k : ∀ s H Q, t' s H Q → t s H Q) : PO X e t' := ⟨fun pins s σ H Q I z => h.run pins s σ H Q I (k σ H Q z)⟩
theorem dp_no : PO X none (toD c pNo) := PO.weak po_none fun s H Q ⟨r, F, R, k⟩ => k.now R
theorem dp_some (h : PE X e (teB c f)) : PO X (some e) (toD c (pSome f)) := by
  refine PO.weak (po_some h) fun s H Q ⟨r, F, R, k⟩ => ⟨r, F, R, k.bnd.imp fun x H1 F1 R1 m1 k1 v hv => ?_⟩
  split at k1
  · exact ⟨_, hv.int, k1.now R1⟩
  · exact k1.elim
def cutG {α : Type} (xs : List α) (lo hi : Option Int) : List α := (xs.drop (HT.sIx xs.length 0 lo)).take (HT.sIx xs.length xs.length hi - HT.sIx xs.length 0 lo)
theorem dpAll_cut {K : PySem.W.Frag} {H : Hp} {vs : List V} {ds : List PyData} (h : DqAll K H vs ds) (lo hi : Option Int) : DqAll K H (cutV vs lo hi) (cutG ds lo hi) := by
  unfold cutV cutG
  rw [dpAll_len h]
  exact dpAll_take _ (dpAll_drop _ h)
def oSl : PyData → Option Int → Option Int → M PyData
  | .list xs, lo, hi => ok (.list (cutG xs lo hi))
  | .tuple xs, lo, hi => ok (.tuple (cutG xs lo hi))
  | .str z, lo, hi => if z.length ≤ lim then ok (.str (cutS z lo hi)) else none
  | _, _, _ => none
def eSl (f : Ef) (lo hi : Of) : Ef := fun r => bnd (f r) fun x => bnd (lo r) fun l => bnd (hi r) fun h => oSl x l h
def rSlS' (K : PySem.W.Frag) : V → Option Int → Option Int → Hp → VK → Prop := fun x lo hi H Q => rSlL K x lo hi H Q ∨ (rSlZ K x lo hi H Q ∨ rSlS x lo hi H Q)
theorem sl_all : SlR X (rSlS' X.K) := sl_list.or (sl_tupZ.or sl_str)
theorem cutG_whole {α : Type} (xs : List α) {lo hi : Option Int} (h : HT.sIx xs.length 0 lo = 0 ∧ HT.sIx xs.length xs.length hi = xs.length) : cutG xs lo hi = xs := by
  unfold cutG
  rw [h.1, h.2]
  simp
theorem de_sl {lo hi : Option Expr} {lf hf : Of} {p2 : Pos} (he : PE X e (teB c f)) (hl : PO X lo (toD c lf)) (hu : PO X hi (toD c hf)) (hK : X.K = c.K := by rfl) : PE X (.Subscript e (.Slice lo hi none p2) pos) (teD c (eSl f lf hf)) := by
  refine PE.weak (pe_slice (r := rSlS' c.K) (by rw [← hK]; exact sl_all) he hl hu) fun s H Q ⟨r, F, R, k⟩ => ?_
  refine ⟨r, F, R, k.bnd.imp fun x H1 F1 R1 m1 k1 v hv => ⟨r, F1, R1, k1.bnd.imp fun l H2 F2 R2 m2 k2 => ⟨r, F2, R2, k2.bnd.imp fun u H3 F3 R3 m3 k3 => ?_⟩⟩⟩
  have hv3 := hv.more (m2.trans m3)
  unfold oSl at k3
  split at k3
  · obtain ⟨p, vs, rfl, hs, hd⟩ := hv3.list R3.fr.sub
    refine .inl ⟨p, vs, rfl, hs, fun q nq => ?_⟩
    have := lay_l R3 k3 nq (dpAll_cut hd _ _)
    exact this.1 _ this.2
  · rename_i xs
    obtain ⟨p, vs, rfl, hs, hd⟩ := hv3.tup R3.fr.sub
    have el := dpAll_len hd
    refine .inr (.inl ⟨p, vs, rfl, hs, fun z => ?_, fun z q ob nq od => ?_⟩)
    · rw [el] at z
      rcases hv3 with hv3 | ⟨_, _, _, _, ey, _⟩
      · exact k3.now R3 _ (by rw [cutG_whole xs z]; exact hv3)
      · cases ey
    · have := lay_t R3 k3 nq od (dpAll_cut hd _ _)
      exact this.1 _ this.2
  · split at k3
    · rename_i z
      rw [hv3.str]
      exact .inr (.inr ⟨_, rfl, lim_line z, k3.now R3 _ (.str _)⟩)
    · exact k3.elim
  · exact k3.elim

/-! ### built-ins by their names -/
def CallS (c : Cc) (rr : List V → Hp → VK → Prop) (o : List PyData → M PyData) : Prop := ∀ (r : Rho) (s : L2.St) (H F : Hp) (vs : List V) (ds : List PyData) (Q : VK), Rel c r s H F → BpAll c.K H F vs ds →
  Ans c r s H F (o ds) (fun d H' F' => ∀ v, Dq c.K F' v d → Q v H') → rr vs H Q
def eCall (o : List PyData → M PyData) (g : Af) : Ef := fun r => bnd (g r) o
theorem te_callB {rr : List V → Hp → VK → Prop} {o : List PyData → M PyData} (os : CallS c rr o) {s : L2.St} {H : Hp} {Q : VK} : teD c (eCall o af) s H Q → tCB rr (taB c af) s H Q := fun ⟨r, F, R, h⟩ =>
  ⟨r, F, R, h.bnd.imp fun x H1 F1 R1 m1 h1 vs hv => os r s H1 F1 vs x Q R1 hv h1⟩
theorem de_callB {rr : List V → Hp → VK → Prop} {o : List PyData → M PyData} {id : String} {x : Str} {p : Pos} (hc : CallR X (.builtin id) rr) (os : CallS c rr o) (hg : Gl X x) (hm : X.mg x = none) (hv : bootBuiltins x = some (.builtin id)) (ha : PA X (e :: es) (taB c af)) (hn : x ≠ "__name__" := by decide) (hdb : (x == ("__debug__" : Str)) = false := by decide)
    (he : starEach (e :: es) X.env = (false, eval e X.env) :: starEach es X.env := by rfl) (hpl : (backTo pos (starEach es X.env)).any (·.1) = false := by rfl) : PE X (.Call (.Name x p) (e :: es) [] pos) (teD c (eCall o af)) :=
  PE.weak (pe_callB hc hg hm hv ha hn hdb he hpl) fun _ _ _ => te_callB os
theorem de_callT {rr : List V → Hp → VK → Prop} {o : List PyData → M PyData} {T : String} {x : Str} {p : Pos} (hc : CallR X (.type T) rr) (os : CallS c rr o) (hg : Gl X x) (hm : X.mg x = none) (hv : bootBuiltins x = some (.type T)) (ha : PA X (e :: es) (taB c af)) (hn : x ≠ "__name__" := by decide) (hdb : (x == ("__debug__" : Str)) = false := by decide)
    (he : starEach (e :: es) X.env = (false, eval e X.env) :: starEach es X.env := by rfl) (hpl : (backTo pos (starEach es X.env)).any (·.1) = false := by rfl) : PE X (.Call (.Name x p) (e :: es) [] pos) (teD c (eCall o af)) :=
  PE.weak (pe_callTy hc hg hm hv ha hn hdb he hpl) fun _ _ _ => te_callB os
end
end DL

set_option Elab.async false
set_option linter.all false
set_option maxRecDepth 100000
/-! The data layer, 4: statements, targets, loops. -/
noncomputable section
namespace DL
open PySem L2

inductive SR where
  | nx (r : Rho)
  | rt (d : PyData)
  | bk (r : Rho)
  | ct (r : Rho)
  | er (e : XN) (r : Rho)
abbrev Sf := Rho → Option SR
/-- a statement's answer: what is frozen stays so -/
def Sans (c : Cc) (F : Hp) (m : Option SR) (D : Ends) : Prop := match m with
  | none => False
  | some (.nx r') => ∀ s' H' F', Rel c r' s' H' F' → Same F F' → D.nx s' H'
  | some (.bk r') => ∀ s' H' F', Rel c r' s' H' F' → Same F F' → D.bk s' H'
  | some (.ct r') => ∀ s' H' F', Rel c r' s' H' F' → Same F F' → D.ct s' H'
  | some (.rt d) => ∀ v H' F', Fr c H' F' → Same F F' → Dq c.K F' v d → D.rt v H'
  | some (.er e r') => ∀ s' H' F', Rel c r' s' H' F' → Same F F' → c.W (.ref (c.ax e)) none s' H'
def tsD (c : Cc) (g : Sf) : TS := fun D s H => ∃ r F, Rel c r s H F ∧ Sans c F (g r) D
section
variable {c : Cc} {F F' : Hp} {m : Option SR} {D D' : Ends} {r : Rho} {s : L2.St} {H : Hp}
theorem Sans.mono (h : Sans c F m D) (e : Same F F') : Sans c F' m D := by
  unfold Sans at h ⊢
  split at h
  · exact h
  · exact fun s' H' F' R q => h s' H' F' R (e.trans q)
  · exact fun s' H' F' R q => h s' H' F' R (e.trans q)
  · exact fun s' H' F' R q => h s' H' F' R (e.trans q)
  · exact fun v H' F' R q => h v H' F' R (e.trans q)
  · exact fun s' H' F' R q => h s' H' F' R (e.trans q)
theorem Sans.at (h : Sans c F (some (.nx r)) D) (R : Rel c r s H F) : D.nx s H := h s H F R (Same.refl _)

theorem set_get {a : Type} {l : List a} {i j : Nat} {x y : a} (h : (l.set i x)[j]? = some y) : (j = i ∧ y = x) ∨ (j ≠ i ∧ l[j]? = some y) := by
  by_cases e : j = i
  · subst e
    by_cases z : j < l.length
    · rw [List.getElem?_set_self z] at h; cases h; exact .inl ⟨rfl, rfl⟩
    · rw [List.getElem?_eq_none (by simpa using z)] at h; cases h
  · rw [List.getElem?_set_ne (Ne.symm e)] at h; exact .inr ⟨e, h⟩
theorem Rel.set {i : Nat} {v : V} {d : PyData} (R : Rel c r s H F) (hi : i < r.length) (hv : Dq c.K F v d) : Rel c (r.set i (some (.d d))) (s.set i (some v)) H F := by
  refine ⟨R.fr, by rw [List.length_set, List.length_set]; exact R.len, fun j b e => ?_, fun j k xs ys p e1 e2 e3 e4 => ?_⟩
  · rcases set_get e with ⟨rfl, eb⟩ | ⟨ne, e'⟩
    · cases eb
      exact ⟨v, List.getElem?_set_self (by rw [R.len]; exact hi), hv⟩
    · obtain ⟨w, q1, q2⟩ := R.cell j b e'
      exact ⟨w, by rw [List.getElem?_set_ne (Ne.symm ne)]; exact q1, q2⟩
  · rcases set_get e1 with ⟨_, eb⟩ | ⟨n1, e1'⟩
    · cases eb
    · rcases set_get e2 with ⟨_, eb⟩ | ⟨n2, e2'⟩
      · cases eb
      · rw [List.getElem?_set_ne (Ne.symm n1)] at e3
        rw [List.getElem?_set_ne (Ne.symm n2)] at e4
        exact R.apart j k xs ys p e1' e2' e3 e4
/-- a slot takes a list of the def's own, which no slot has -/
theorem Rel.setO {i : Nat} {p : Addr} {vs : List V} {ds : List PyData} (R : Rel c r s H F) (hi : i < r.length) (h1 : H p = some (.lst vs)) (h2 : F p = none) (h3 : c.H0 p = none) (h4 : DqAll c.K F vs ds)
    (h5 : ∀ (j : Nat) (xs : List PyData), r[j]? = some (some (.own xs)) → s[j]? ≠ some (some (V.ref p))) : Rel c (r.set i (some (.own ds))) (s.set i (some (.ref p))) H F := by
  refine ⟨R.fr, by rw [List.length_set, List.length_set]; exact R.len, fun j b e => ?_, fun j k xs ys q e1 e2 e3 e4 => ?_⟩
  · rcases set_get e with ⟨rfl, eb⟩ | ⟨ne, e'⟩
    · cases eb
      exact ⟨_, List.getElem?_set_self (by rw [R.len]; exact hi), vs, h1, h2, h3, h4⟩
    · obtain ⟨w, q1, q2⟩ := R.cell j b e'
      exact ⟨w, by rw [List.getElem?_set_ne (Ne.symm ne)]; exact q1, q2⟩
  · rcases set_get e1 with ⟨z1, _⟩ | ⟨n1, e1'⟩
    · rcases set_get e2 with ⟨z2, _⟩ | ⟨n2, e2'⟩
      · rw [z1, z2]
      · subst z1
        rw [List.getElem?_set_self (by rw [R.len]; exact hi)] at e3
        rw [List.getElem?_set_ne (Ne.symm n2)] at e4
        cases e3
        exact absurd e4 (h5 k ys e2')
    · rcases set_get e2 with ⟨z2, _⟩ | ⟨n2, e2'⟩
      · subst z2
        rw [List.getElem?_set_self (by rw [R.len]; exact hi)] at e4
        rw [List.getElem?_set_ne (Ne.symm n1)] at e3
        cases e4
        exact absurd e3 (h5 j xs e1')
      · rw [List.getElem?_set_ne (Ne.symm n1)] at e3
        rw [List.getElem?_set_ne (Ne.symm n2)] at e4
        exact R.apart j k xs ys q e1' e2' e3 e4
theorem Fr.write {p : Addr} {o : HO} (R : Fr c H F) (h2 : F p = none) (h3 : c.H0 p = none) : Fr c (upd H p o) F := by
  refine ⟨fun b x e => ?_, R.old, fun b x e n => ?_⟩
  · rw [upd_ne (ne_of_none e h2)]; exact R.sub b x e
  · rw [upd_ne (ne_of_none e h3)]; exact R.kept b x e n
/-- the list of a slot is changed in place -/
theorem Rel.write {i : Nat} {p : Addr} {vs : List V} {xs ds : List PyData} (R : Rel c r s H F) (e : r[i]? = some (some (.own xs))) (es : s[i]? = some (some (V.ref p))) (h2 : F p = none) (h3 : c.H0 p = none) (h4 : DqAll c.K F vs ds) :
    Rel c (r.set i (some (.own ds))) s (upd H p (.lst vs)) F := by
  have hi : i < r.length := (List.getElem?_eq_some_iff.mp e).1
  refine ⟨R.fr.write h2 h3, by rw [List.length_set]; exact R.len, fun j b q => ?_, fun j k ys zs q e1 e2 e3 e4 => ?_⟩
  · rcases set_get q with ⟨rfl, eb⟩ | ⟨ne, e'⟩
    · cases eb
      exact ⟨_, es, vs, upd_same, h2, h3, h4⟩
    · cases b with
      | d x => obtain ⟨w, q1, q2⟩ := R.data e'; exact ⟨w, q1, q2⟩
      | own ys =>
        obtain ⟨p', vs', q1, q2, q3, q4, q5⟩ := R.mine e'
        refine ⟨_, q1, vs', ?_, q3, q4, q5⟩
        rw [upd_ne ?_]; exact q2
        rintro rfl
        exact ne (R.apart j i ys xs _ e' e q1 es)
  · have pick : ∀ {l : Nat} {ws : List PyData}, (r.set i (some (.own ds)))[l]? = some (some (.own ws)) → ∃ ws', r[l]? = some (some (.own ws')) := fun {l ws} h => by
      rcases set_get h with ⟨rfl, _⟩ | ⟨_, h'⟩
      · exact ⟨xs, e⟩
      · exact ⟨ws, h'⟩
    obtain ⟨y1, f1⟩ := pick e1
    obtain ⟨y2, f2⟩ := pick e2
    exact R.apart j k y1 y2 q f1 f2 e3 e4
/-- the list of a slot is frozen -/
theorem Rel.freeze {i : Nat} {xs : List PyData} (R : Rel c r s H F) (e : r[i]? = some (some (.own xs))) : ∃ F', Rel c (r.set i (some (.d (.list xs)))) s H F' ∧ Same F F' := by
  obtain ⟨p, vs, es, h1, h2, h3, h4⟩ := R.mine e
  have sm : Same F (upd F p (.lst vs)) := same_upd' h2
  refine ⟨upd F p (.lst vs), ⟨⟨fun b x q => ?_, R.fr.old.trans sm, fun b x q n => ?_⟩, by rw [List.length_set]; exact R.len, fun j b q => ?_, fun j k ys zs q e1 e2 e3 e4 => ?_⟩, sm⟩
  · by_cases hb : b = p
    · subst hb; rw [upd_same] at q; cases q; exact h1
    · rw [upd_ne hb] at q; exact R.fr.sub b x q
  · rw [upd_ne (ne_of_none q h3)]; exact R.fr.kept b x q n
  · rcases set_get q with ⟨rfl, eb⟩ | ⟨ne, e'⟩
    · cases eb
      exact ⟨_, es, .lst (SqL.of upd_same) (dpAll_same sm h4)⟩
    · cases b with
      | d x => obtain ⟨w, q1, q2⟩ := R.data e'; exact ⟨w, q1, dp_same sm q2⟩
      | own ys =>
        obtain ⟨p', vs', q1, q2, q3, q4, q5⟩ := R.mine e'
        refine ⟨_, q1, vs', q2, ?_, q4, dpAll_same sm q5⟩
        rw [upd_ne ?_]; exact q3
        rintro rfl
        exact ne (R.apart j i ys xs _ e' e q1 es)
  · rcases set_get e1 with ⟨_, eb⟩ | ⟨n1, e1'⟩
    · cases eb
    · rcases set_get e2 with ⟨_, eb⟩ | ⟨n2, e2'⟩
      · cases eb
      · exact R.apart j k ys zs q e1' e2' e3 e4
/-- a slot is forgotten -/
theorem Rel.forget {i : Nat} (R : Rel c r s H F) : Rel c (r.set i none) s H F := by
  refine ⟨R.fr, by rw [List.length_set]; exact R.len, fun j b q => ?_, fun j k ys zs q e1 e2 e3 e4 => ?_⟩
  · rcases set_get q with ⟨_, eb⟩ | ⟨ne, e'⟩
    · cases eb
    · exact R.cell j b e'
  · rcases set_get e1 with ⟨_, eb⟩ | ⟨n1, e1'⟩
    · cases eb
    · rcases set_get e2 with ⟨_, eb⟩ | ⟨n2, e2'⟩
      · cases eb
      · exact R.apart j k ys zs q e1' e2' e3 e4
end

theorem PG.weak {X : Cx} {e : Expr} {t t' : TG} (h : PG X e t) (k : ∀ v s H Q, t' v s H Q → t v s H Q) : PG X e t' := ⟨fun pins s σ H v u Q I r z => h.run pins s σ H v u Q I r (k v σ H Q z)⟩
theorem PGs.weak {X : Cx} {e : List Expr} {t t' : TGs} (h : PGs X e t) (k : ∀ v s H Q, t' v s H Q → t v s H Q) : PGs X e t' := ⟨fun pins s σ H v u Q I r z => h.run pins s σ H v u Q I r (k v σ H Q z)⟩

section
variable {X : Cx} {c : Cc} {e a b : Expr} {f g : Ef} {pos : Pos} {st : Stmt} {rest body els : List Stmt} {sf sg : Sf}

/-! ### blocks -/
def sSkip : Sf := fun r => some (.nx r)
def sSeq (g h : Sf) : Sf := fun r => match g r with
  | some (.nx r') => h r'
  | x => x
theorem dss_nil : PSs X [] (tsD c sSkip) := PSs.weak pss_nil fun D s H ⟨r, F, R, h⟩ => h.at R
theorem dss_cons (h1 : PS X st (tsD c sf)) (h2 : PSs X rest (tsD c sg)) : PSs X (st :: rest) (tsD c (sSeq sf sg)) := by
  refine PSs.weak (pss_cons h1 h2) fun D s H ⟨r, F, R, h⟩ => ⟨r, F, R, ?_⟩
  unfold sSeq at h
  split at h
  · rename_i r' e
    rw [e]
    exact fun s' H' F' R' sm => ⟨r', F', R', h.mono sm⟩
  · rename_i ne
    cases q : sf r with
    | none => rw [q] at h; exact h
    | some z =>
      rw [q] at h
      cases z with
      | nx r' => exact absurd q (ne r')
      | rt d => exact h
      | bk r' => exact h
      | ct r' => exact h
      | er x r' => exact h
theorem dss_one (h1 : PS X st (tsD c sf)) : PSs X [st] (tsD c sf) := pss_one h1
theorem ds_pass : PS X (.Pass pos) (tsD c sSkip) := PS.weak ps_pass fun D s H ⟨r, F, R, h⟩ => h.at R
theorem ds_break : PS X (.Break pos) (tsD c fun r => some (.bk r)) := PS.weak ps_break fun D s H ⟨r, F, R, h⟩ => h s H F R (Same.refl _)
theorem ds_cont : PS X (.Continue pos) (tsD c fun r => some (.ct r)) := PS.weak ps_continue fun D s H ⟨r, F, R, h⟩ => h s H F R (Same.refl _)

/-! ### from an expression to a statement -/
def ofE {α : Type} (m : M α) (r : Rho) (k : α → Option SR) : Option SR := match m with
  | none => none
  | some (.error e) => some (.er e r)
  | some (.ok x) => k x
@[simp] theorem ofE_ok {α : Type} (x : α) (r : Rho) (k : α → Option SR) : ofE (ok x) r k = k x := rfl
@[simp] theorem ofE_ok' {α : Type} (x : α) (r : Rho) (k : α → Option SR) : ofE (some (.ok x)) r k = k x := rfl
@[simp] theorem ofE_none {α : Type} (r : Rho) (k : α → Option SR) : ofE none r k = none := rfl
@[simp] theorem ofE_err {α : Type} (e : XN) (r : Rho) (k : α → Option SR) : ofE (some (.error e)) r k = some (.er e r) := rfl
theorem ans_of {α : Type} {r : Rho} {s : L2.St} {H F : Hp} {m : M α} {k : α → Option SR} {D : Ends} (h : Sans c F (ofE m r k) D) : Ans c r s H F m (fun x H1 F1 => Sans c F1 (k x) D) := by
  cases m with
  | none => exact h
  | some z =>
    cases z with
    | error e => exact fun H' F' R' m' => h s H' F' R' m'.f
    | ok x => exact fun H' F' R' m' => Sans.mono (show Sans c F (k x) D from h) m'.f
def sRet (f : Ef) : Sf := fun r => ofE (f r) r fun d => some (.rt d)
theorem ds_ret (h : PE X e (teD c f)) : PS X (.Return (some e) pos) (tsD c (sRet f)) :=
  PS.weak (ps_ret h) fun D s H ⟨r, F, R, h⟩ => ⟨r, F, R, (ans_of h).imp fun d H1 F1 R1 m1 k1 v hv => k1 v H1 F1 R1.fr (Same.refl _) hv⟩
def sRetN : Sf := fun r => some (.rt .none)
theorem ds_retN : PS X (.Return none pos) (tsD c sRetN) := PS.weak ps_retN fun D s H ⟨r, F, R, h⟩ => h .non H F R.fr (Same.refl _) .non
def sDrop (f : Ef) : Sf := fun r => ofE (f r) r fun _ => some (.nx r)
theorem ds_expr (h : PE X e (teD c f)) (hs : swapsWith e none pos.line X.env = pure false := by rfl) : PS X (.Expr e pos) (tsD c (sDrop f)) :=
  PS.weak (ps_expr h hs) fun D s H ⟨r, F, R, h⟩ => ⟨r, F, R, (ans_of h).imp fun d H1 F1 R1 m1 k1 v hv => k1.at R1⟩
def sIf (t : Tf) (g h : Sf) : Sf := fun r => ofE (t r) r fun k => if k = true then g r else h r
theorem ds_if {tf : Tf} (hc : PT X e (ttD c tf)) (ha : PSs X body (tsD c sf)) (hb : PSs X els (tsD c sg)) : PS X (.If e body els pos) (tsD c (sIf tf sf sg)) := by
  refine PS.weak (ps_if hc ha hb) fun D s H ⟨r, F, R, h⟩ => ⟨r, F, R, (ans_of h).imp fun k H1 F1 R1 m1 k1 => ?_⟩
  split at k1
  · rename_i z
    rw [if_pos z]; exact ⟨r, F1, R1, k1⟩
  · rename_i z
    rw [if_neg z]; exact ⟨r, F1, R1, k1⟩

/-! ### targets -/
abbrev Gf := PyData → Rho → Option Rho
abbrev Gsf := List PyData → Rho → Option Rho
/-- s' is s but for the slots ts -/
def But (ts : List Nat) (s s' : L2.St) : Prop := s'.length = s.length ∧ ∀ j, j ∉ ts → s'[j]? = s[j]?
theorem But.trans {ts us : List Nat} {s s1 s2 : L2.St} (a : But ts s s1) (b : But us s1 s2) : But (ts ++ us) s s2 := ⟨b.1.trans a.1, fun j h => by
  rw [List.mem_append, not_or] at h
  rw [b.2 j h.2, a.2 j h.1]⟩
def tgD (c : Cc) (ts : List Nat) (G : Gf) : TG := fun v s H Q => ∃ r F d, Rel c r s H F ∧ Dq c.K F v d ∧ ∃ r', G d r = some r' ∧ ∀ s', Rel c r' s' H F → But ts s s' → Q s' H
def tgsD (c : Cc) (ts : List Nat) (G : Gsf) : TGs := fun vs s H Q => ∃ r F ds, Rel c r s H F ∧ DqAll c.K F vs ds ∧ ∃ r', G ds r = some r' ∧ ∀ s', Rel c r' s' H F → But ts s s' → Q s' H
def gN (i : Nat) : Gf := fun d r => if i < r.length then some (r.set i (some (.d d))) else none
def gsNil : Gsf := fun ds r => match ds with
  | [] => some r
  | _ => none
def gsCons (G : Gf) (Gs : Gsf) : Gsf := fun ds r => match ds with
  | d :: rest => (G d r).bind (Gs rest)
  | _ => none
def gT (n : Nat) (Gs : Gsf) : Gf := fun d r => match d with
  | .tuple ds => if ds.length = n then Gs ds r else none
  | _ => none
theorem dg_n {i : Nat} (h : PG X e (gName i)) : PG X e (tgD c [i] (gN i)) := by
  refine PG.weak h fun v s H Q ⟨r, F, d, R, hv, r', e, q⟩ => ?_
  unfold gN at e
  split at e
  · rename_i z
    cases e
    exact q _ (R.set z hv) ⟨by rw [List.length_set], fun j hj => List.getElem?_set_ne (fun e => hj (by simp [e]))⟩
  · cases e
theorem dgs_nil : PGs X [] (tgsD c [] gsNil) := by
  refine PGs.weak pgs_nil fun vs s H Q ⟨r, F, ds, R, hv, r', e, q⟩ => ?_
  unfold gsNil at e
  split at e
  · cases e
    cases hv
    exact ⟨rfl, q _ R ⟨rfl, fun _ _ => rfl⟩⟩
  · cases e
theorem dgs_cons {es : List Expr} {ts us : List Nat} {G : Gf} {Gs : Gsf} (h1 : PG X e (tgD c ts G)) (h2 : PGs X es (tgsD c us Gs))
    (hs : (assignEach (e :: es) X.env).map (·.2) = assign e X.env :: (assignEach es X.env).map (·.2) := by rfl) : PGs X (e :: es) (tgsD c (ts ++ us) (gsCons G Gs)) := by
  refine PGs.weak (pgs_cons h1 h2 hs) fun vs s H Q ⟨r, F, ds, R, hv, r', e, q⟩ => ?_
  unfold gsCons at e
  split at e
  · rename_i d rest
    cases hv with
    | cons hv1 hv2 =>
      cases eG : G d r with
      | none => rw [eG] at e; cases e
      | some r1 =>
        rw [eG] at e
        exact ⟨_, _, rfl, r, F, d, R, hv1, r1, eG, fun s' R' b1 => ⟨r1, F, rest, R', hv2, r', e, fun s2 R2 b2 => q s2 R2 (b1.trans b2)⟩⟩
  · cases e
theorem dg_tup {es : List Expr} {ts : List Nat} {k n : Nat} {Gs : Gsf} (hc : X.calm = true) (h : PGs X es (tgsD c ts Gs)) (hK : X.K = c.K := by rfl)
    (hn : (assignEach es X.env).length = n := by rfl) (hst : (assignEach es X.env).findIdx? (·.1) = none := by rfl) : PG X (.Tuple es k pos) (tgD c ts (gT n Gs)) := by
  refine PG.weak (pg_tup hc h hn hst) fun v s H Q ⟨r, F, d, R, hv, r', e, q⟩ => ?_
  unfold gT at e
  split at e
  · split at e
    · rename_i z
      cases hv with
      | tup h1 h2 =>
        refine ⟨_, _, rfl, ?_, (dpAll_len h2).trans z, r, F, _, R, h2, r', e, q⟩
        rw [hK]; exact same_t R.fr.sub h1.t
    · cases e
  · cases e

/-! ### assignments -/
def sAsg (f : Ef) (G : Gf) : Sf := fun r => ofE (f r) r fun d => (G d r).map SR.nx
theorem ds_asg {tg : Expr} {ts : List Nat} {G : Gf} (he : PE X e (teD c f)) (hg : PG X tg (tgD c ts G)) (hs : swapsWithSole [tg] e pos.line X.env = pure false := by rfl) (hw : swappedStores [tg] e X.env = pure none := by rfl)
    (h1 : (assignEach [tg] X.env).map (·.2) = [assign tg X.env] := by rfl) : PS X (.Assign [tg] e pos) (tsD c (sAsg f G)) := by
  refine PS.weak (ps_asg he hg hs hw h1) fun D s H ⟨r, F, R, h⟩ => ⟨r, F, R, (ans_of h).imp fun d H1 F1 R1 m1 k1 v hv => ?_⟩
  cases eG : G d r with
  | none => rw [eG] at k1; exact k1.elim
  | some r1 =>
    rw [eG] at k1
    exact ⟨r, F1, d, R1, hv, r1, eG, fun s' R' _ => k1.at R'⟩
def sSet (i : Nat) (f : Ef) : Sf := sAsg f (gN i)
theorem ds_set {i : Nat} {x : Str} {px : Pos} (he : PE X e (teD c f)) (hN : X.N.Nodup) (hi : X.N[i]? = some x) (hx : Loc X.env.scope x) (hs : swapsWith e (some (.Name x px)) pos.line X.env = pure false := by rfl)
    (hf : X.fn x = true ∨ X.env.scope.names.lookup x = some .local := by first | exact .inl rfl | exact .inr rfl | assumption) : PS X (.Assign [.Name x px] e pos) (tsD c (sSet i f)) := by
  refine PS.weak (ps_set hN hi hx he hs hf) fun D s H ⟨r, F, R, h⟩ => ⟨r, F, R, (ans_of h).imp fun d H1 F1 R1 m1 k1 v hv => ?_⟩
  unfold gN at k1
  split at k1
  · rename_i z
    exact k1.at (R1.set z hv)
  · exact k1.elim
/-- a new list of the def's own -/
def sSetO (i : Nat) (f : Rho → M (List PyData)) : Sf := fun r => ofE (f r) r fun xs => if i < r.length then some (.nx (r.set i (some (.own xs)))) else none
theorem sSetO_ok {i : Nat} {xs : List PyData} {r : Rho} {s : L2.St} {H F H1 F1 : Hp} {D : Ends} {p : Addr} {vs : List V} (R : Rel c r s H F) (R1 : Rel c r s H1 F1) (k1 : Sans c F1 (if i < r.length then some (SR.nx (r.set i (some (.own xs)))) else none) D)
    (h1 : H1 p = some (.lst vs)) (h2 : F1 p = none) (h3 : H p = none) (h4 : DqAll c.K F1 vs xs) : D.nx (s.set i (some (.ref p))) H1 := by
  split at k1
  · rename_i z
    refine k1.at (R1.setO z h1 h2 (R.fr.new h3) h4 fun j ys ej es => ?_)
    obtain ⟨q, ws, q1, q2, _⟩ := R.mine ej
    rw [es] at q1
    cases q1
    rw [h3] at q2; cases q2
  · exact k1.elim
theorem ds_setO {i : Nat} {x : Str} {px : Pos} {nf : Rho → M (List PyData)} (he : PE X e (teO c nf)) (hN : X.N.Nodup) (hi : X.N[i]? = some x) (hx : Loc X.env.scope x) (hs : swapsWith e (some (.Name x px)) pos.line X.env = pure false := by rfl)
    (hf : X.fn x = true ∨ X.env.scope.names.lookup x = some .local := by first | exact .inl rfl | exact .inr rfl | assumption) : PS X (.Assign [.Name x px] e pos) (tsD c (sSetO i nf)) := by
  refine PS.weak (ps_set hN hi hx he hs hf) fun D s H ⟨r, F, R, h⟩ => ⟨r, F, R, (ans_of h).imp fun xs H1 F1 R1 m1 k1 p vs h1 h2 h3 h4 => ?_⟩
  exact sSetO_ok R R1 k1 h1 h2 h3 h4
/-- a list is frozen ahead of a statement -/
def sFrz (i : Nat) (g : Sf) : Sf := fun r => match r[i]? with
  | some (some (.own xs)) => g (r.set i (some (.d (.list xs))))
  | _ => g r
theorem tsD_frz {i : Nat} {D : Ends} {s : L2.St} {H : Hp} : tsD c (sFrz i sf) D s H → tsD c sf D s H := fun ⟨r, F, R, h⟩ => by
  unfold sFrz at h
  split at h
  · rename_i xs e
    obtain ⟨F', R', sm⟩ := R.freeze e
    exact ⟨_, F', R', h.mono sm⟩
  · exact ⟨r, F, R, h⟩
theorem ds_frz {i : Nat} (h : PS X st (tsD c sf)) : PS X st (tsD c (sFrz i sf)) := PS.weak h fun _ _ _ => tsD_frz

/-! ### lists of the def's own -/
def nNew (g : Af) : Rho → M (List PyData) := fun r => bnd (g r) fun xs => if xs.length ≤ lim then ok xs else none
theorem do_lst {es : List Expr} {af : Af} (h : PA X es (taD c af)) : PE X (.List es pos) (teO c (nNew af)) := by
  refine PE.weak (pe_lst h) fun s H Q ⟨r, F, R, k⟩ => ⟨r, F, R, k.bnd.imp fun xs H1 F1 R1 m1 k1 vs hv => ?_⟩
  split at k1
  · rename_i z
    refine ⟨lim_line (by rw [dpAll_len hv]; exact z), fun p np => ?_⟩
    have m := More.loose (o := .lst vs) R1.fr.sub np
    exact k1 _ _ (R1.more m) m p vs upd_same (R1.fr.newF np) (m1.h.free np) hv
  · exact k1.elim
/-- x.append(e) -/
def sApp (i : Nat) (f : Ef) : Sf := fun r => match r[i]? with
  | some (some (.own xs)) => ofE (f r) r fun d => if xs.length < lim then some (.nx (r.set i (some (.own (xs ++ [d]))))) else none
  | _ => none
theorem ds_app {i : Nat} {apos cpos : Pos} (hv : PE X a (tVar i)) (he : PE X e (teD c f)) (hK : X.K = c.K := by rfl)
    (hbase : attributeBase a "append" X.env (eval a X.env) = eval a X.env := by rfl)
    (hfew : ((backTo cpos (starEach (e :: []) X.env)).all (fun x => !x.1) && (backToKw cpos (keywordEach [] X.env)).all (fun x => x.1.isSome)
      && decide ((e :: []).length + ([] : List Keyword).length + (if ([] : List Keyword).isEmpty then 0 else 1) < 30)) = true := by rfl)
    (hline : (apos.endLine == cpos.line) = true := by rfl) (hst : starEach (e :: []) X.env = (false, eval e X.env) :: starEach [] X.env := by rfl) (hplain : (backTo cpos (starEach [] X.env)).any (·.1) = false := by rfl)
    (hs : swapsWith (.Call (.Attribute a "append" apos) [e] [] cpos) none pos.line X.env = pure false := by rfl) : PS X (.Expr (.Call (.Attribute a "append" apos) [e] [] cpos) pos) (tsD c (sApp i f)) := by
  refine PS.weak (ps_expr (pe_bm PySem.F.plainAttrs_list PySem.F.slot_list_append PySem.F.type_list_append mt_append hv (pa_cons he pa_nil hst) hbase hfew hline hst hplain) hs) fun D s H ⟨r, F, R, h⟩ => ?_
  unfold sApp at h
  split at h
  · rename_i xs eo
    obtain ⟨p, vs, q1, q2, q3, q4, q5⟩ := R.mine eo
    refine ⟨_, q1, .inl ⟨rfl, vs, SqL.of q2⟩, r, F, R, (ans_of h).imp fun d H1 F1 R1 m1 k1 v hv => ?_⟩
    split at k1
    · rename_i z
      have q2' := m1.h _ _ q2
      refine ⟨p, vs, v, rfl, rfl, q2', lim_lt (by rw [dpAll_len q5]; exact z), ?_⟩
      exact k1.at (R1.write eo q1 (m1.un _ _ q2 q3) q4 (dpAll_app (dpAll_same m1.f q5) (dpAll_one hv)))
    · exact k1.elim
  · exact h.elim
/-- x[k] = e -/
def sPut (i : Nat) (k f : Ef) : Sf := fun r => match r[i]? with
  | some (some (.own xs)) => ofE (f r) r fun d => ofE (k r) r fun z => match z with
    | .int j => (match ixN xs.length j with | some n => some (.nx (r.set i (some (.own (xs.set n d))))) | none => none)
    | _ => none
  | _ => none
theorem ds_put {i : Nat} {spos : Pos} {kf : Ef} (hv : PE X a (tVar i)) (hk : PE X b (teB c kf)) (he : PE X e (teD c f)) 
    (hs : swapsWithSole [.Subscript a b spos] e pos.line X.env = pure false := by rfl) (hw : swappedStores [.Subscript a b spos] e X.env = pure none := by rfl)
    (hsub : PG X (.Subscript a b spos) (gSub (tVar i) (teB c kf) rSetL)) : PS X (.Assign [.Subscript a b spos] e pos) (tsD c (sPut i kf f)) := by
  refine PS.weak (ps_asg he hsub hs hw) fun D s H ⟨r, F, R, h⟩ => ?_
  unfold sPut at h
  split at h
  · rename_i xs eo
    obtain ⟨p, vs, q1, q2, q3, q4, q5⟩ := R.mine eo
    refine ⟨r, F, R, (ans_of h).imp fun d H1 F1 R1 m1 k1 v hv => ⟨_, q1, r, F1, R1, (ans_of k1).imp fun z H2 F2 R2 m2 k2 u hu => ?_⟩⟩
    split at k2
    · split at k2
      · rename_i n en
        have m12 := m1.trans m2
        refine ⟨p, vs, _, n, rfl, hu.int, m12.h _ _ q2, by rw [dpAll_len q5]; exact en, ?_⟩
        exact k2.at (R2.write eo q1 (m12.un _ _ q2 q3) q4 (dpAll_set n (dpAll_same m12.f q5) (dp_same m2.f hv)))
      · exact k2.elim
    · exact k2.elim
  · exact h.elim
end
end DL

set_option Elab.async false
set_option linter.all false
set_option maxRecDepth 100000
/-! The data layer, 5: loops, comprehensions, calls, defs. -/
noncomputable section
namespace DL
open PySem L2

/-! ### what is walked -/
structure Walks (K : PySem.W.Frag) (J : It) (xs : List PyData) (F : Hp) : Prop where
  go : ∀ (i : Nat) (H : Hp), Same F H → i < xs.length → J.go i H
  stop : ∀ (H : Hp), Same F H → J.stop xs.length H
  yld : ∀ (i : Nat) (H : Hp) (x : V) (H' : Hp), Same F H → i < xs.length → J.yld i H x H' → H' = H ∧ ∃ d, xs[i]? = some d ∧ Dq K F x d
def tiD (c : Cc) (f : Af) : TI := fun s H W => ∃ r F, Rel c r s H F ∧ Ans c r s H F (f r) (fun xs H' F' => ∀ J, Walks c.K J xs F' → W J H')
theorem PI.weak {X : Cx} {tg e : Expr} {t t' : TI} (h : PI X tg e t) (k : ∀ s H Q, t' s H Q → t s H Q) : PI X tg e t' := ⟨fun pins s σ H Q I z => h.run pins s σ H Q I (k σ H Q z)⟩
section
variable {X : Cx} {c : Cc} {e a b tg : Expr} {f g : Ef} {pos : Pos} {body : List Stmt} {sf sg : Sf}

theorem walks_list {K : PySem.W.Frag} {F : Hp} {p : Addr} {vs : List V} {xs : List PyData} (h1 : SqL K F p vs) (h2 : DqAll K F vs xs) : Walks K (Itl K p) xs F := by
  have el := dpAll_len h2
  refine ⟨fun i H sm hi => ⟨vs, vs[i], same_l sm h1, by simp [el ▸ hi]⟩, fun H sm => ⟨vs, same_l sm h1, by omega⟩, fun i H x H' sm hi y => ?_⟩
  obtain ⟨eH, hy⟩ := y
  obtain ⟨d, e1, e2⟩ := dpAll_atV h2 (hy vs (same_l sm h1))
  exact ⟨eH, d, e1, e2⟩
theorem walks_tup {K : PySem.W.Frag} {F : Hp} {p : Addr} {vs : List V} {xs : List PyData} (h1 : SqT K F p vs) (h2 : DqAll K F vs xs) : Walks K (Itt K p) xs F := by
  have el := dpAll_len h2
  refine ⟨fun i H sm hi => ⟨vs, vs[i], same_t sm h1, by simp [el ▸ hi]⟩, fun H sm => ⟨vs, same_t sm h1, by omega⟩, fun i H x H' sm hi y => ?_⟩
  obtain ⟨eH, hy⟩ := y
  obtain ⟨d, e1, e2⟩ := dpAll_atV h2 (hy vs (same_t sm h1))
  exact ⟨eH, d, e1, e2⟩
def iL (f : Ef) : Af := fun r => bnd (f r) fun x => match x with
  | .list xs => ok xs
  | _ => none
def iT (f : Ef) : Af := fun r => bnd (f r) fun x => match x with
  | .tuple xs => ok xs
  | _ => none
theorem di_list (h : PE X e (teD c f)) (hK : X.K = c.K := by rfl) : PI X tg e (tiD c (iL f)) := by
  refine PI.weak (pi_list h) fun s H W ⟨r, F, R, k⟩ => ⟨r, F, R, k.bnd.imp fun x H1 F1 R1 m1 k1 v hv => ?_⟩
  split at k1
  · cases hv with
    | lst h1 h2 =>
      rw [hK]
      exact ⟨_, rfl, ⟨_, same_l R1.fr.sub h1⟩, k1.now R1 _ (walks_list h1 h2)⟩
  · exact k1.elim
theorem di_tup (h : PE X e (teD c f)) (hK : X.K = c.K := by rfl) : PI X tg e (tiD c (iT f)) := by
  refine PI.weak (pi_tup h) fun s H W ⟨r, F, R, k⟩ => ⟨r, F, R, k.bnd.imp fun x H1 F1 R1 m1 k1 v hv => ?_⟩
  split at k1
  · cases hv with
    | tup h1 h2 =>
      rw [hK]
      exact ⟨_, rfl, ⟨_, same_t R1.fr.sub h1.t⟩, k1.now R1 _ (walks_tup h1.t h2)⟩
  · exact k1.elim
def rng (lo : Int) (n : Nat) : List PyData := (List.range n).map fun (i : Nat) => PyData.int (lo + i)
theorem rng_len {lo : Int} {n : Nat} : (rng lo n).length = n := by unfold rng; rw [List.length_map, List.length_range]
theorem walks_rng {K : PySem.W.Frag} {F : Hp} {lo : Int} {n : Nat} : Walks K (Itr lo n) (rng lo n) F := by
  refine ⟨fun i H sm hi => by rw [rng_len] at hi; exact hi, fun H sm => by rw [rng_len]; exact Nat.le_refl _, fun i H x H' sm hi y => ?_⟩
  obtain ⟨eH, rfl⟩ := y
  rw [rng_len] at hi
  exact ⟨eH, _, by unfold rng; rw [List.getElem?_map, List.getElem?_range hi]; rfl, .int _⟩
theorem inR_of {i : Int} (h : inR i = true) : -(2 ^ 62) ≤ i ∧ i < 2 ^ 62 := by
  have := inR_iff.mp h
  omega
def iR1 (f : Ef) : Af := fun r => bnd (f r) fun x => match x with
  | .int n => if inR n = true then ok (rng 0 n.toNat) else none
  | _ => none
def iR2 (f g : Ef) : Af := fun r => bnd (f r) fun x => bnd (g r) fun y => match x, y with
  | .int i, .int j => if inR i = true ∧ inR j = true then ok (rng i (j - i).toNat) else none
  | _, _ => none
theorem di_r1 {p : Pos} (hg : Gl X "range") (hm : X.mg "range" = none) (h : PE X a (teD c f)) (hs : starEach [a] X.env = [(false, eval a X.env)] := by rfl) : PI X tg (.Call (.Name "range" p) [a] [] pos) (tiD c (iR1 f)) := by
  refine PI.weak (pi_range1 hg hm (pa_cons h pa_nil hs) hs) fun s H W ⟨r, F, R, k⟩ => ⟨r, F, R, k.bnd.imp fun x H1 F1 R1 m1 k1 v hv => ?_⟩
  split at k1
  · split at k1
    · rename_i z
      cases hv
      exact ⟨_, rfl, (inR_of z).1, (inR_of z).2, k1.now R1 _ walks_rng⟩
    · exact k1.elim
  · exact k1.elim
theorem di_r2 {p : Pos} (hg : Gl X "range") (hm : X.mg "range" = none) (h : PE X a (teD c f)) (h2 : PE X b (teD c g)) (hs : starEach [a, b] X.env = [(false, eval a X.env), (false, eval b X.env)] := by rfl) (hs2 : starEach [b] X.env = [(false, eval b X.env)] := by rfl) :
    PI X tg (.Call (.Name "range" p) [a, b] [] pos) (tiD c (iR2 f g)) := by
  refine PI.weak (pi_range2 hg hm (pa_cons h (pa_cons h2 pa_nil hs2) (by rw [hs, hs2])) hs hs2) fun s H W ⟨r, F, R, k⟩ => ⟨r, F, R, k.bnd.imp fun x H1 F1 R1 m1 k1 v hv => ⟨r, F1, R1, k1.bnd.imp fun y H2 F2 R2 m2 k2 u hu => ?_⟩⟩
  split at k2
  · split at k2
    · rename_i z
      cases hv
      cases hu
      exact ⟨_, _, rfl, ⟨(inR_of z.1).1, (inR_of z.1).2, (inR_of z.2).1, (inR_of z.2).2⟩, k2.now R2 _ walks_rng⟩
    · exact k2.elim
  · exact k2.elim

/-! ### for, while -/
def forL (G : Gf) (body : Sf) : List PyData → Sf
  | [], r => some (.nx r)
  | x :: xs, r => match G x r with
    | none => none
    | some r1 => match body r1 with
      | some (.nx r2) => forL G body xs r2
      | some (.ct r2) => forL G body xs r2
      | some (.bk r2) => some (.nx r2)
      | some (.rt d) => some (.rt d)
      | some (.er e r2) => some (.er e r2)
      | none => none
def sFor (src : Af) (G : Gf) (body : Sf) : Sf := fun r => ofE (src r) r fun xs => forL G body xs r
/-- a loop runs, its iterator at hand -/
theorem for_run {r : Rho} {s : L2.St} {H1 F1 : Hp} {ts : List Nat} {G : Gf} {xs : List PyData} {J : It} {D : Ends} (R1 : Rel c r s H1 F1) (k1 : Sans c F1 (forL G sf xs r) D) (w : Walks c.K J xs F1) :
    ∃ W : Nat → Nat → L2.St → Hp → Prop, (∃ m, W 0 m s H1) ∧ ∀ i m σ H, W i m σ H →
      (J.stop i H ∧ D.nx σ H) ∨ (J.go i H ∧ ∃ N : L2.St → Hp → Prop, (∀ σ' H', N σ' H' → ∃ m', m' < m ∧ W (i + 1) m' σ' H') ∧ ∀ x H', J.yld i H x H' → tgD c ts G x σ H' fun σ2 H2 => tsD c sf { D with nx := N, ct := N, bk := D.nx } σ2 H2) := by
  refine ⟨fun i m s H => ∃ r F, Rel c r s H F ∧ Same F1 F ∧ m = xs.length - i ∧ i ≤ xs.length ∧ Sans c F (forL G sf (xs.drop i) r) D, ⟨xs.length, r, F1, R1, Same.refl _, by omega, Nat.zero_le _, k1⟩, ?_⟩
  rintro i m s H ⟨r, F, R, sm, rfl, hi, k⟩
  by_cases hl : i < xs.length
  · refine .inr ⟨w.go i H (sm.trans R.fr.sub) hl, fun s H => ∃ r F, Rel c r s H F ∧ Same F1 F ∧ Sans c F (forL G sf (xs.drop (i + 1)) r) D, ?_, ?_⟩
    · rintro s' H' ⟨r', F', R', sm', k'⟩
      exact ⟨xs.length - (i + 1), by omega, r', F', R', sm', rfl, hl, k'⟩
    · intro x H' y
      obtain ⟨rfl, d, ed, hd⟩ := w.yld i H x H' (sm.trans R.fr.sub) hl y
      have ex : xs.drop i = d :: xs.drop (i + 1) := by
        obtain ⟨z, e⟩ := List.getElem?_eq_some_iff.mp ed
        rw [List.drop_eq_getElem_cons z, e]
      rw [ex] at k
      unfold forL at k
      cases eG : G d r with
      | none => rw [eG] at k; exact k.elim
      | some r1 =>
        rw [eG] at k
        refine ⟨r, F, d, R, dp_same sm hd, r1, eG, fun s' R' _ => ⟨r1, F, R', ?_⟩⟩
        dsimp only at k
        cases eb : sf r1 with
        | none => rw [eb] at k; exact k.elim
        | some z =>
          rw [eb] at k
          cases z with
          | nx r2 => exact fun s2 H2 F2 R2 m2 => ⟨r2, F2, R2, sm.trans m2, k.mono m2⟩
          | ct r2 => exact fun s2 H2 F2 R2 m2 => ⟨r2, F2, R2, sm.trans m2, k.mono m2⟩
          | bk r2 => exact k
          | rt d2 => exact k
          | er e2 r2 => exact k
  · have ei : i = xs.length := by omega
    subst ei
    rw [List.drop_length] at k
    exact .inl ⟨w.stop H (sm.trans R.fr.sub), k.at R⟩
theorem ds_for {src : Af} {ts : List Nat} {G : Gf} (hp : PassesOwn (model X.prog X.w) X.A X.env X.xe) (hc : X.calm = true) (hi : PI X tg e (tiD c src)) (hg : PG X tg (tgD c ts G)) (hb : PSs X body (tsD c sf)) (hfs : ∀ x, foldedSetIterable e X.env x = pure x := by intro _; rfl) :
    PS X (.For tg e body [] pos) (tsD c (sFor src G sf)) :=
  PS.weak (ps_for hp hc hi hg hb hfs) fun D s H ⟨r, F, R, h⟩ => ⟨r, F, R, (ans_of h).imp fun xs H1 F1 R1 m1 k1 J w => for_run R1 k1 w⟩
/-- .. whose walked thing changes a list of the def's own when it is asked for -/
def tiP (c : Cc) (src : Rho → Option (Rho × List PyData)) : TI := fun s H W => ∃ r F r' xs, Rel c r s H F ∧ src r = some (r', xs) ∧ ∀ J H' F', Rel c r' s H' F' → Same F F' → Walks c.K J xs F' → W J H'
def sForP (src : Rho → Option (Rho × List PyData)) (G : Gf) (body : Sf) : Sf := fun r => match src r with
  | some (r', xs) => forL G body xs r'
  | none => none
theorem ds_forP {src : Rho → Option (Rho × List PyData)} {ts : List Nat} {G : Gf} (hp : PassesOwn (model X.prog X.w) X.A X.env X.xe) (hc : X.calm = true) (hi : PI X tg e (tiP c src)) (hg : PG X tg (tgD c ts G)) (hb : PSs X body (tsD c sf)) (hfs : ∀ x, foldedSetIterable e X.env x = pure x := by intro _; rfl) :
    PS X (.For tg e body [] pos) (tsD c (sForP src G sf)) := by
  refine PS.weak (ps_for hp hc hi hg hb hfs) fun D s H ⟨r, F, R, h⟩ => ?_
  unfold sForP at h
  split at h
  · rename_i r' xs es
    exact ⟨r, F, r', xs, R, es, fun J H' F' R' sm w => for_run R' (h.mono sm) w⟩
  · exact h.elim
def whileN (t : Tf) (body : Sf) : Nat → Sf
  | 0, _ => none
  | n + 1, r => ofE (t r) r fun k => if k = true then (match body r with
      | some (.nx r2) => whileN t body n r2
      | some (.ct r2) => whileN t body n r2
      | some (.bk r2) => some (.nx r2)
      | some (.rt d) => some (.rt d)
      | some (.er e r2) => some (.er e r2)
      | none => none) else some (.nx r)
/-- as many turns as it takes, below this number -/
theorem fuel_ex : ∃ n : Nat, n = 100000 := ⟨_, rfl⟩
/-- the most turns of a while; held back from the kernel's reckoning -/
def fuel : Nat := fuel_ex.choose
theorem fuel_is : fuel = 100000 := fuel_ex.choose_spec
def sWhile (t : Tf) (body : Sf) : Sf := whileN t body fuel
theorem ds_while {tf : Tf} (hp : PassesOwn (model X.prog X.w) X.A X.env X.xe) (ht : PT X e (ttD c tf)) (hb : PSs X body (tsD c sf)) : PS X (.While e body [] pos) (tsD c (sWhile tf sf)) := by
  refine PS.weak (ps_while hp ht hb) fun D s H ⟨r, F, R, h⟩ => ?_
  refine ⟨fun m s H => ∃ r F, Rel c r s H F ∧ Sans c F (whileN tf sf m r) D, ⟨fuel, r, F, R, h⟩, ?_⟩
  rintro m s H ⟨r, F, R, h⟩
  cases m with
  | zero => exact h.elim
  | succ n =>
    refine ⟨r, F, R, (ans_of h).imp fun k H1 F1 R1 m1 k1 => ?_⟩
    cases k with
    | false => rw [if_neg (by decide)] at k1 ⊢; exact k1.at R1
    | true =>
      rw [if_pos rfl] at k1 ⊢
      refine ⟨fun s H => ∃ r F, Rel c r s H F ∧ Sans c F (whileN tf sf n r) D, fun s' H' z => ⟨n, by omega, z⟩, r, F1, R1, ?_⟩
      cases eb : sf r with
      | none => rw [eb] at k1; exact k1.elim
      | some z =>
        rw [eb] at k1
        cases z with
        | nx r2 => exact fun s2 H2 F2 R2 m2 => ⟨r2, F2, R2, k1.mono m2⟩
        | ct r2 => exact fun s2 H2 F2 R2 m2 => ⟨r2, F2, R2, k1.mono m2⟩
        | bk r2 => exact k1
        | rt d2 => exact k1
        | er e2 r2 => exact k1

/-! ### comprehensions -/
def wipeR (r : Rho) : List Nat → Rho
  | [] => r
  | v :: vs => (wipeR r vs).set v none
theorem Rel.wipe {r : Rho} {s : L2.St} {H F : Hp} (R : Rel c r s H F) (vs : List Nat) : Rel c (wipeR r vs) (L2.wipe s vs) H F := by
  induction vs with
  | nil => exact R
  | cons v vs ih =>
    refine ⟨ih.fr, by show ((L2.wipe s vs).set v none).length = ((wipeR r vs).set v none).length; rw [List.length_set, List.length_set]; exact ih.len, fun j b q => ?_, fun j k ys zs q e1 e2 e3 e4 => ?_⟩
    · rcases set_get q with ⟨_, eb⟩ | ⟨ne, e'⟩
      · cases eb
      · obtain ⟨w, q1, q2⟩ := ih.cell j b e'
        exact ⟨w, by show ((L2.wipe s vs).set v none)[j]? = _; rw [List.getElem?_set_ne (Ne.symm ne)]; exact q1, q2⟩
    · rcases set_get e1 with ⟨_, eb⟩ | ⟨n1, e1'⟩
      · cases eb
      · rcases set_get e2 with ⟨_, eb⟩ | ⟨n2, e2'⟩
        · cases eb
        · have e3' : ((L2.wipe s vs).set v none)[j]? = _ := e3
          have e4' : ((L2.wipe s vs).set v none)[k]? = _ := e4
          rw [List.getElem?_set_ne (Ne.symm n1)] at e3'
          rw [List.getElem?_set_ne (Ne.symm n2)] at e4'
          exact ih.apart j k ys zs q e1' e2' e3' e4'
/-- a comprehension's turns from the wiped slots; no error leaves -/
def lcL (G : Gf) (t : Tf) (f : Ef) (r : Rho) : List PyData → List PyData → M (List PyData)
  | [], acc => ok acc
  | x :: xs, acc => match G x r with
    | none => none
    | some r1 => match t r1 with
      | some (.ok true) => (match f r1 with
        | some (.ok d) => if acc.length < lim then lcL G t f r xs (acc ++ [d]) else none
        | _ => none)
      | some (.ok false) => lcL G t f r xs acc
      | _ => none
def nLc (src : Af) (G : Gf) (t : Tf) (f : Ef) (vs : List Nat) : Af := fun r => bnd (src r) fun xs => lcL G t f (wipeR r vs) xs []
def eLc (src : Af) (G : Gf) (t : Tf) (f : Ef) (vs : List Nat) : Ef := fun r => bnd (nLc src G t f vs r) fun xs => ok (.list xs)
/-- within a comprehension no error is let out -/
def Cc.still (c : Cc) : Cc := { c with W := fun _ _ _ _ => False }
theorem rel_still {r : Rho} {s : L2.St} {H F : Hp} (R : Rel c r s H F) : Rel c.still r s H F := ⟨⟨R.fr.sub, R.fr.old, R.fr.kept⟩, R.len, R.cell, R.apart⟩
theorem rel_unstill {r : Rho} {s : L2.St} {H F : Hp} (R : Rel c.still r s H F) : Rel c r s H F := ⟨⟨R.fr.sub, R.fr.old, R.fr.kept⟩, R.len, R.cell, R.apart⟩
theorem wipe_in {j : Nat} {u : L2.St} : ∀ {vs : List Nat}, j ∈ vs → (L2.wipe u vs)[j]? = if j < u.length then some none else none
  | [], h => by simp at h
  | w :: ws, h => by
    show ((L2.wipe u ws).set w none)[j]? = _
    by_cases e : j = w
    · subst e
      by_cases z : j < u.length
      · rw [List.getElem?_set_self (by rw [wipe_length]; exact z), if_pos z]
      · rw [List.getElem?_eq_none (by simp only [List.length_set, wipe_length]; omega), if_neg z]
    · rw [List.getElem?_set_ne (Ne.symm e)]
      exact wipe_in ((List.mem_cons.mp h).resolve_left e)
theorem wipe_but {vs ts : List Nat} {s s' : L2.St} (b : But ts (L2.wipe s vs) s') (h : ∀ j ∈ ts, j ∈ vs) : L2.wipe s' vs = L2.wipe s vs := by
  apply List.ext_getElem?
  intro j
  have hl : s'.length = s.length := by rw [b.1, wipe_length]
  by_cases hj : j ∈ vs
  · rw [wipe_in hj, wipe_in hj, hl]
  · rw [wipe_out hj, wipe_out hj, b.2 j (fun z => hj (h j z)), wipe_out hj]
/-- what no slot has may be changed -/
theorem Rel.other {r : Rho} {s : L2.St} {H F : Hp} {p : Addr} {o : HO} (R : Rel c r s H F) (h2 : F p = none) (h3 : c.H0 p = none) (h5 : ∀ (j : Nat) (xs : List PyData), r[j]? = some (some (.own xs)) → s[j]? ≠ some (some (V.ref p))) : Rel c r s (upd H p o) F := by
  refine ⟨R.fr.write h2 h3, R.len, fun j b e => ?_, R.apart⟩
  cases b with
  | d x => exact R.data e
  | own ys =>
    obtain ⟨q, ws, q1, q2, q3, q4, q5⟩ := R.mine e
    refine ⟨_, q1, ws, ?_, q3, q4, q5⟩
    rw [upd_ne ?_]; exact q2
    rintro rfl
    exact h5 j ys e q1
theorem Rel.notmine {r : Rho} {s : L2.St} {H F : Hp} {p : Addr} (R : Rel c r s H F) (n : H p = none) : ∀ (j : Nat) (xs : List PyData), r[j]? = some (some (.own xs)) → s[j]? ≠ some (some (V.ref p)) := fun j xs e es => by
  obtain ⟨q, ws, q1, q2, _⟩ := R.mine e
  rw [es] at q1
  cases q1
  rw [n] at q2; cases q2
theorem lcL_no {G : Gf} {t : Tf} {f : Ef} {r : Rho} : ∀ (xs acc : List PyData) (e : XN), lcL G t f r xs acc ≠ some (.error e)
  | [], acc, e => fun h => by cases h
  | x :: xs, acc, e => fun h => by
    unfold lcL at h
    split at h
    · cases h
    · split at h
      · split at h
        · split at h
          · exact lcL_no _ _ _ h
          · cases h
        · cases h
      · exact lcL_no _ _ _ h
      · cases h
theorem te_lc {src : Af} {G : Gf} {tf : Tf} {vs ts : List Nat} {s : L2.St} {H : Hp} {Q : VK} (hts : ∀ j ∈ ts, j ∈ vs) :
    teO c (nLc src G tf f vs) s H Q → tLc (tiD c src) (tgD c.still ts G) (ttD c.still tf) (teD c.still f) vs s H Q := fun ⟨r, F, R, h⟩ => by
  refine ⟨r, F, R, Ans.imp (Ans.bnd h) fun xs H1 F1 R1 m1 k1 J w D nD => ?_⟩
  cases eR : lcL G tf f (wipeR r vs) xs [] with
  | none => rw [eR] at k1; exact k1.elim
  | some z =>
  cases z with
  | error e => exact absurd eR (lcL_no _ _ _)
  | ok res =>
  rw [eR] at k1
  have n0 : c.H0 D = none := R1.fr.new nD
  refine ⟨fun i m H => ∃ F acc accV, Rel c r s H F ∧ More H1 F1 H F ∧ H D = some (.lst accV) ∧ F D = none ∧ DqAll c.K F accV acc ∧ m = xs.length - i ∧ i ≤ xs.length ∧ lcL G tf f (wipeR r vs) (xs.drop i) acc = some (.ok res), ⟨xs.length, F1, [], [], ?_, ?_, upd_same, R1.fr.newF nD, .nil, by omega, Nat.zero_le _, eR⟩, ?_⟩
  · exact R1.more (More.loose R1.fr.sub nD)
  · exact More.loose R1.fr.sub nD
  rintro i m H ⟨F, acc, accV, R, mm, hD, fD, dA, rfl, hi, eq⟩
  by_cases hl : i < xs.length
  · refine .inr ⟨w.go i H (mm.f.trans mm.sub) hl, fun H => ∃ F acc accV, Rel c r s H F ∧ More H1 F1 H F ∧ H D = some (.lst accV) ∧ F D = none ∧ DqAll c.K F accV acc ∧ lcL G tf f (wipeR r vs) (xs.drop (i + 1)) acc = some (.ok res), ?_, ?_⟩
    · rintro H' ⟨F', acc', accV', R', mm', hD', fD', dA', eq'⟩
      exact ⟨xs.length - (i + 1), by omega, F', acc', accV', R', mm', hD', fD', dA', rfl, hl, eq'⟩
    · intro x H' y
      obtain ⟨rfl, d, ed, hd⟩ := w.yld i H x H' (mm.f.trans mm.sub) hl y
      have ex : xs.drop i = d :: xs.drop (i + 1) := by
        obtain ⟨z, e⟩ := List.getElem?_eq_some_iff.mp ed
        rw [List.drop_eq_getElem_cons z, e]
      rw [ex] at eq
      unfold lcL at eq
      cases eG : G d (wipeR r vs) with
      | none => rw [eG] at eq; cases eq
      | some r1 =>
        rw [eG] at eq
        dsimp only at eq
        refine ⟨wipeR r vs, F, d, rel_still (R.wipe vs), dp_same mm.f hd, r1, eG, fun s2 R2 b2 => ⟨wipe_but b2 hts, r1, F, R2, ?_⟩⟩
        cases et : tf r1 with
        | none => rw [et] at eq; cases eq
        | some z =>
        rw [et] at eq
        cases z with
        | error e => cases eq
        | ok k =>
        intro H3 F3 R3 m3
        cases k with
        | false =>
          rw [if_neg (by decide)]
          exact ⟨F3, acc, accV, R.more m3, mm.trans m3, m3.h _ _ hD, m3.un _ _ hD fD, dpAll_same m3.f dA, eq⟩
        | true =>
          rw [if_pos rfl]
          dsimp only at eq
          cases ef : f r1 with
          | none => rw [ef] at eq; cases eq
          | some z =>
          rw [ef] at eq
          cases z with
          | error e => cases eq
          | ok d2 =>
          dsimp only at eq
          split at eq
          · rename_i hz
            refine ⟨r1, F3, R3, ?_⟩
            rw [ef]
            intro H4 F4 R4 m4 v hv
            have m34 := m3.trans m4
            have hD4 := m34.h _ _ hD
            have fD4 := m34.un _ _ hD fD
            have dA4 := dpAll_same m34.f dA
            have mm4 := mm.trans m34
            refine ⟨accV, hD4, lim_lt (by rw [dpAll_len dA]; exact hz), F4, acc ++ [d2], accV ++ [v], (R.more m34).other fD4 n0 (R1.notmine nD), ⟨mm4.f, fun b o q => ?_, fun b o q => ?_, mm4.un⟩, upd_same, fD4, dpAll_app dA4 (dpAll_one hv), eq⟩
            · rw [upd_ne (ne_of_none q nD)]; exact mm4.h b o q
            · rw [upd_ne (ne_of_none q fD4)]; exact mm4.sub b o q
          · cases eq
  · have ei : i = xs.length := by omega
    subst ei
    rw [List.drop_length] at eq
    unfold lcL at eq
    cases eq
    exact .inl ⟨w.stop H (mm.f.trans mm.sub), k1 H F R mm D accV hD fD (m1.h.free nD) dA⟩
/-- a new list, then frozen -/
def eNew (nf : Af) : Ef := fun r => bnd (nf r) fun xs => ok (.list xs)
theorem te_new {nf : Af} {s : L2.St} {H : Hp} {Q : VK} : teD c (eNew nf) s H Q → teO c nf s H Q := fun ⟨r, F, R, h⟩ => by
  refine ⟨r, F, R, ?_⟩
  unfold eNew at h
  cases e : nf r with
  | none => rw [e] at h; exact h
  | some z =>
  rw [e] at h
  cases z with
  | error x => exact h
  | ok xs =>
  intro H1 F1 R1 m1 p vs h1 h2 h3 h4
  have sm : Same F1 (upd F1 p (.lst vs)) := same_upd' h2
  have sub : Same (upd F1 p (.lst vs)) H1 := fun b o q => by
    by_cases hb : b = p
    · subst hb; rw [upd_same] at q; cases q; exact h1
    · rw [upd_ne hb] at q; exact R1.fr.sub b o q
  have n0 := R.fr.new h3
  have mm : More H F H1 (upd F1 p (.lst vs)) := ⟨m1.f.trans sm, m1.h, sub, fun b o q n => by rw [upd_ne (ne_of_none q h3)]; exact m1.un b o q n⟩
  exact h H1 _ (R.more mm) mm _ (.lst (SqL.of upd_same) (dpAll_same sm h4))
/-- .. or a borrowed one -/
theorem de_new {nf : Af} (h : PE X e (teO c nf)) : PE X e (teD c (eNew nf)) := PE.weak h fun _ _ _ => te_new

theorem do_lc {elt iter : Expr} {ifs : List Expr} {scope : Scope} {own : List (Str × Nat)} {src : Af} {ts : List Nat} {G : Gf} {tf : Tf} (hc : X.calm = true) (hN : X.N.Nodup) (hi : PI X tg iter (tiD c src)) (okb : BlkOk X.N X.env.scope scope own)
    (hg : ∀ (s : Shared) (H : Hp) (C : Addr) (cl : List (Str × Addr)) (fp : List Addr), PG (X.blk s H scope (compEnvC scope cl C X.env) fp) tg (tgD c.still ts G))
    (ht : ∀ (s : Shared) (H : Hp) (C : Addr) (cl : List (Str × Addr)) (fp : List Addr), PTs (X.blk s H scope (compEnvC scope cl C X.env) fp) ifs (ttD c.still tf))
    (he : ∀ (s : Shared) (H : Hp) (C : Addr) (cl : List (Str × Addr)) (fp : List Addr), PE (X.blk s H scope (compEnvC scope cl C X.env) fp) elt (teD c.still f))
    (hts : ∀ j ∈ ts, j ∈ own.map (·.2) := by decide) (hs : ∀ x, foldedSetIterable iter X.env x = pure x := by intro _; rfl) :
    PE X (.ListComp elt [⟨tg, iter, ifs, 0⟩] scope pos) (teO c (nLc src G tf f (own.map (·.2)))) :=
  PE.weak (pe_lc hc hN hi okb hg ht he hs) fun _ _ _ => te_lc hts
def tYesF : Tf := fun _ => ok true
theorem dt_yes : PTs X [] (ttD c tYesF) := ⟨fun pins s σ H Q I ⟨r, F, R, h⟩ => pts_nil.run pins s σ H Q I (h.now R)⟩
theorem dt_if (h : PT X a (ttD c tf)) : PTs X [a] (ttD c tf) := pts_one h
/-- x = [..], frozen | the def's own -/
theorem ds_setLc {elt iter : Expr} {ifs : List Expr} {scope : Scope} {own : List (Str × Nat)} {src : Af} {ts : List Nat} {G : Gf} {tf : Tf} {i : Nat} {y : Str} {py spos : Pos} (hc : X.calm = true) (hN : X.N.Nodup) (hy : X.N[i]? = some y) (hyl : X.env.scope.names.lookup y = some .local)
    (hsw : swapsWith (.ListComp elt [⟨tg, iter, ifs, 0⟩] scope pos) (some (.Name y py)) spos.line X.env = pure true) (hi : PI X tg iter (tiD c src)) (okb : BlkOk X.N X.env.scope scope own)
    (hg : ∀ (s : Shared) (H : Hp) (C : Addr) (cl : List (Str × Addr)) (fp : List Addr), PG (X.blk s H scope (compEnvC scope cl C X.env) fp) tg (tgD c.still ts G))
    (ht : ∀ (s : Shared) (H : Hp) (C : Addr) (cl : List (Str × Addr)) (fp : List Addr), PTs (X.blk s H scope (compEnvC scope cl C X.env) fp) ifs (ttD c.still tf))
    (he : ∀ (s : Shared) (H : Hp) (C : Addr) (cl : List (Str × Addr)) (fp : List Addr), PE (X.blk s H scope (compEnvC scope cl C X.env) fp) elt (teD c.still f))
    (hts : ∀ j ∈ ts, j ∈ own.map (·.2) := by decide) (hs : ∀ x, foldedSetIterable iter X.env x = pure x := by intro _; rfl) :
    PS X (.Assign [.Name y py] (.ListComp elt [⟨tg, iter, ifs, 0⟩] scope pos) spos) (tsD c (sSet i (eNew (nLc src G tf f (own.map (·.2)))))) := by
  refine PS.weak (ps_setLc hc hN hy hyl hsw hi okb hg ht he hs) fun D s H ⟨r, F, R, h⟩ => te_lc hts (te_new ⟨r, F, R, (ans_of h).imp fun d H1 F1 R1 m1 k1 v hv => ?_⟩)
  unfold gN at k1
  split at k1
  · rename_i z
    exact k1.at (R1.set z hv)
  · exact k1.elim
theorem ds_setLcO {elt iter : Expr} {ifs : List Expr} {scope : Scope} {own : List (Str × Nat)} {src : Af} {ts : List Nat} {G : Gf} {tf : Tf} {i : Nat} {y : Str} {py spos : Pos} (hc : X.calm = true) (hN : X.N.Nodup) (hy : X.N[i]? = some y) (hyl : X.env.scope.names.lookup y = some .local)
    (hsw : swapsWith (.ListComp elt [⟨tg, iter, ifs, 0⟩] scope pos) (some (.Name y py)) spos.line X.env = pure true) (hi : PI X tg iter (tiD c src)) (okb : BlkOk X.N X.env.scope scope own)
    (hg : ∀ (s : Shared) (H : Hp) (C : Addr) (cl : List (Str × Addr)) (fp : List Addr), PG (X.blk s H scope (compEnvC scope cl C X.env) fp) tg (tgD c.still ts G))
    (ht : ∀ (s : Shared) (H : Hp) (C : Addr) (cl : List (Str × Addr)) (fp : List Addr), PTs (X.blk s H scope (compEnvC scope cl C X.env) fp) ifs (ttD c.still tf))
    (he : ∀ (s : Shared) (H : Hp) (C : Addr) (cl : List (Str × Addr)) (fp : List Addr), PE (X.blk s H scope (compEnvC scope cl C X.env) fp) elt (teD c.still f))
    (hts : ∀ j ∈ ts, j ∈ own.map (·.2) := by decide) (hs : ∀ x, foldedSetIterable iter X.env x = pure x := by intro _; rfl) :
    PS X (.Assign [.Name y py] (.ListComp elt [⟨tg, iter, ifs, 0⟩] scope pos) spos) (tsD c (sSetO i (nLc src G tf f (own.map (·.2))))) := by
  refine PS.weak (ps_setLc hc hN hy hyl hsw hi okb hg ht he hs) fun D s H ⟨r, F, R, h⟩ => te_lc hts ⟨r, F, R, (ans_of h).imp fun xs H1 F1 R1 m1 k1 p vs h1 h2 h3 h4 => ?_⟩
  exact sSetO_ok R R1 k1 h1 h2 h3 h4

/-! ### defs and their calls -/
/-- a def's promise: what phi says of the arguments' data -/
def spD (K : PySem.W.Frag) (ax : XN → Addr) (phi : List PyData → M PyData) : Sp := fun vs H Q E => ∃ ds F, Same F H ∧ DqAll K F vs ds ∧ match phi ds with
  | none => False
  | some (.ok d) => ∀ v H' F', More H F H' F' → Dq K F' v d → Q v H'
  | some (.error x) => ∀ H' F', More H F H' F' → E (.ref (ax x)) none H'
theorem Rel.call {r : Rho} {s : L2.St} {H F H' F' : Hp} (R : Rel c r s H F) (m : More H F H' F') : Rel c r s H' F' := R.more m
def eFn (phi : List PyData → M PyData) (g : Af) : Ef := fun r => bnd (g r) phi
theorem te_fn {phi : List PyData → M PyData} {af : Af} {s : L2.St} {H : Hp} {Q : VK} : teD c (eFn phi af) s H Q → tCallS (spD c.K c.ax phi) (WE c.W) (taD c af) s H Q := fun ⟨r, F, R, h⟩ => by
  refine ⟨r, F, R, h.bnd.imp fun xs H1 F1 R1 m1 k1 vs hv => ⟨xs, F1, R1.fr.sub, hv, ?_⟩⟩
  cases e : phi xs with
  | none => rw [e] at k1; exact k1.elim
  | some z =>
    rw [e] at k1
    cases z with
    | error x => exact fun H' F' m => k1 H' F' (R1.more m) m
    | ok d => exact fun v H' F' m hv => k1 H' F' (R1.more m) m v hv
theorem de_fn {phi : List PyData → M PyData} {af : Af} {es : List Expr} {x : Str} {p : Pos} {k : Nat} {fa : Addr} {fd : FuncData} {ps : List Str} (G : FnOk X.prog X.w X.K X.mg X.base (L2.CX X.prog X.w) k fa fd ps (spD c.K c.ax phi)) (hr : Room k X.A) (hg : Gl X x) (hm : X.mg x = some (.ref fa)) (hk : PySem.W.keepIn X.K (.ref fa) = true) (hb : Binds X.K fd ps [])
    (tk : Takes X c.W) (ha : PA X (e :: es) (taD c af)) (hdb : (x == ("__debug__" : Str)) = false := by decide) (he : starEach (e :: es) X.env = (false, eval e X.env) :: starEach es X.env := by rfl) (hpl : (backTo pos (starEach es X.env)).any (·.1) = false := by rfl) :
    PE X (.Call (.Name x p) (e :: es) [] pos) (teD c (eFn phi af)) :=
  PE.weak (pe_callS G hr hg hm hk hb (fun _ => passAt tk _) ha hdb he hpl) fun _ _ _ => te_fn

/-- the slots at a def's entry -/
def rho0 (n : Nat) (ds : List PyData) : Rho := ds.map (fun d => some (.d d)) ++ List.replicate (n - ds.length) none
/-- what a def makes of its arguments: n slots, k parameters -/
def runD (n k : Nat) (g : Sf) : List PyData → M PyData := fun ds => if ds.length = k then (match g (rho0 n ds) with
  | some (.nx _) => ok .none
  | some (.rt d) => ok d
  | some (.er e _) => some (.error e)
  | _ => none) else none
theorem rel_start {K : PySem.W.Frag} {ax : XN → Addr} {W : WX} {N : List Str} {vs : List V} {ds : List PyData} {H F : Hp} (sm : Same F H) (hv : DqAll K F vs ds) : Rel ⟨K, H, F, ax, W⟩ (rho0 N.length ds) (L2.start N vs) H F := by
  have el := dpAll_len hv
  refine ⟨⟨sm, Same.refl _, fun p o e n => ⟨e, n⟩⟩, ?_, fun i b e => ?_, fun i j xs ys p e1 => ?_⟩
  · unfold L2.start rho0
    rw [List.length_append, List.length_append, List.length_map, List.length_map, List.length_replicate, List.length_replicate, el]
  · unfold rho0 at e
    by_cases hi : i < ds.length
    · rw [List.getElem?_append_left (by rw [List.length_map]; exact hi), List.getElem?_map, List.getElem?_eq_getElem hi] at e
      cases e
      obtain ⟨v, e1, h1⟩ := dpAll_at hv (List.getElem?_eq_getElem hi)
      refine ⟨v, ?_, h1⟩
      unfold L2.start
      rw [List.getElem?_append_left (by rw [List.length_map, el]; exact hi), List.getElem?_map, e1]
      rfl
    · rw [List.getElem?_append_right (by rw [List.length_map]; omega)] at e
      obtain ⟨_, q⟩ := List.getElem?_eq_some_iff.mp e
      rw [List.getElem_replicate] at q; cases q
  · unfold rho0 at e1
    by_cases hi : i < ds.length
    · rw [List.getElem?_append_left (by rw [List.length_map]; exact hi), List.getElem?_map, List.getElem?_eq_getElem hi] at e1
      cases e1
    · rw [List.getElem?_append_right (by rw [List.length_map]; omega)] at e1
      obtain ⟨_, q⟩ := List.getElem?_eq_some_iff.mp e1
      rw [List.getElem_replicate] at q; cases q
theorem Fr.out {H F H' F' : Hp} {K : PySem.W.Frag} {ax : XN → Addr} {W : WX} (sm : Same F H) (R : Fr ⟨K, H, F, ax, W⟩ H' F') : More H F H' F' := by
  refine ⟨R.old, fun p o e => ?_, R.sub, fun p o e n => (R.kept p o e n).2⟩
  cases q : F p with
  | none => exact (R.kept p o e q).1
  | some o2 =>
    have z := sm p o2 q
    rw [e] at z; cases z
    exact R.sub p o (R.old p o q)
/-- THE RULE for a def: its body, shown at every entry -/
theorem okD {P : Program} {w : World} {K : PySem.W.Frag} {mg : Str → Option Value} {base : Heap} {ax : XN → Addr} {x qual : Str} {st : Stmt} {fa : Addr} {fd : FuncData} {N ps : List Str} {k : Nat} {g : Sf} (F : Fun K x qual st fa fd) (S : FnScope N ps (defScope st))
    (hb : ∀ (cdv : Value) (A : Around) (outer : List Env) (s : Shared) (H F : Hp) (E : XK), Room k (A.deeper (PyProof.Rows.envOfC qual (defScope st) s.heap.objs.size fa cdv)) →
      PSs (cxOf (L2.CX P w) P w K mg base N qual (defScope st) fa cdv A outer s H E) (defBody st) (tsD ⟨K, H, F, ax, fun cls d _ H => E cls d H⟩ g)) :
    FnOk P w K mg base (L2.CX P w) (k + 1) fa fd ps (spD K ax (runD N.length ps.length g)) := by
  refine F.okX S (fun vs H Q E h => ?_) (fun cdv A outer s H vs Q E hr h => ?_)
  · obtain ⟨ds, F, sm, hv, h⟩ := h
    unfold runD at h
    rw [dpAll_len hv]
    by_cases z : ds.length = ps.length
    · exact z
    · rw [if_neg z] at h; exact h.elim
  · obtain ⟨ds, F, sm, hv, h⟩ := h
    refine ⟨_, hb cdv A outer s H F E hr, rho0 N.length ds, F, rel_start sm hv, ?_⟩
    unfold runD at h
    by_cases z : ds.length = ps.length
    · rw [if_pos z] at h
      cases e : g (rho0 N.length ds) with
      | none => rw [e] at h; exact h.elim
      | some y =>
        rw [e] at h
        cases y with
        | nx r => exact fun s' H' F' R q => h .non H' F' (R.fr.out sm) .non
        | rt d => exact fun v H' F' R q hv => h v H' F' (R.out sm) hv
        | bk r => exact h.elim
        | ct r => exact h.elim
        | er e r => exact fun s' H' F' R q => h H' F' (R.fr.out sm)
    · rw [if_neg z] at h; exact h.elim
/-- raise X('..') -/
def sRaise (x : XN) : Sf := fun r => some (.er x r)
theorem ds_raise {C : Addr} {bmB : List Value} {B newId initId : String} {xn : XN} {x m : Str} {j : Nat} {p p2 pos2 : Pos} (hc : X.calm = true) (tk : Takes X c.W) (F : ExcBaseFacts B newId initId bmB) (q : PySem.W.excIn X.K C bmB newId = true) (gC : X.mg x = some (.ref C)) (kC : PySem.W.keepIn X.K (.ref C) = true) (rs : Raises X (.ref C)) (ea : c.ax xn = C) (hg : Gl X x)
    (hdb : (x == ("__debug__" : Str)) = false := by decide) : PS X (.Raise (some (.Call (.Name x p) [.Constant (.str m) j p2] [] pos)) none pos2) (tsD c (sRaise xn)) := by
  refine PS.weak (ps_raise hc tk (pmk_own F q gC kC rs hg hdb)) fun D s H ⟨r, F, R, h⟩ => ?_
  have h' := h s H F R (Same.refl _)
  rw [ea] at h'
  exact h'
end
end DL

set_option Elab.async false
set_option linter.all false
set_option maxRecDepth 100000
/-! The data layer, 7: built-ins. -/
noncomputable section
namespace DL
open PySem L2

/-! ### lists of ints in data -/
def intsOf : List PyData → Option (List Int)
  | [] => some []
  | .int i :: r => (intsOf r).map (i :: ·)
  | _ => none
theorem intsOf_eq : ∀ {ds : List PyData} {ns : List Int}, intsOf ds = some ns → ds = ns.map PyData.int
  | [], ns, h => by cases h; rfl
  | .int i :: q, ns, h => by
    rw [intsOf] at h
    cases z : intsOf q with
    | none => rw [z] at h; cases h
    | some ms =>
      rw [z] at h
      cases h
      rw [intsOf_eq z]; rfl
  | .none :: q, ns, h => by simp [intsOf] at h
  | .bool _ :: q, ns, h => by simp [intsOf] at h
  | .str _ :: q, ns, h => by simp [intsOf] at h
  | .list _ :: q, ns, h => by simp [intsOf] at h
  | .tuple _ :: q, ns, h => by simp [intsOf] at h
  | .dict _ :: q, ns, h => by simp [intsOf] at h
@[simp] theorem intsOf_map : ∀ ns : List Int, intsOf (ns.map PyData.int) = some ns
  | [] => rfl
  | n :: r => by rw [List.map_cons, intsOf, intsOf_map r]; rfl
def blsOf : List PyData → Option (List Bool)
  | [] => some []
  | .bool i :: r => (blsOf r).map (i :: ·)
  | _ => none
theorem blsOf_eq : ∀ {ds : List PyData} {ns : List Bool}, blsOf ds = some ns → ds = ns.map PyData.bool
  | [], ns, h => by cases h; rfl
  | .bool i :: q, ns, h => by
    rw [blsOf] at h
    cases z : blsOf q with
    | none => rw [z] at h; cases h
    | some ms =>
      rw [z] at h
      cases h
      rw [blsOf_eq z]; rfl
  | .none :: q, ns, h => by simp [blsOf] at h
  | .int _ :: q, ns, h => by simp [blsOf] at h
  | .str _ :: q, ns, h => by simp [blsOf] at h
  | .list _ :: q, ns, h => by simp [blsOf] at h
  | .tuple _ :: q, ns, h => by simp [blsOf] at h
  | .dict _ :: q, ns, h => by simp [blsOf] at h
@[simp] theorem blsOf_map : ∀ ns : List Bool, blsOf (ns.map PyData.bool) = some ns
  | [] => rfl
  | n :: r => by rw [List.map_cons, blsOf, blsOf_map r]; rfl
theorem bp_one {K : PySem.W.Frag} {H F : Hp} {vs : List V} {d : PyData} (h : BpAll K H F vs [d]) : ∃ v, vs = [v] ∧ Bp K H F v d := by
  cases h with | cons h1 h2 => cases h2; exact ⟨_, rfl, h1⟩
theorem bp_two {K : PySem.W.Frag} {H F : Hp} {vs : List V} {d e : PyData} (h : BpAll K H F vs [d, e]) : ∃ v u, vs = [v, u] ∧ Bp K H F v d ∧ Bp K H F u e := by
  cases h with | cons h1 h2 => cases h2 with | cons h2 h3 => cases h3; exact ⟨_, _, rfl, h1, h2⟩

section
variable {X : Cx} {c : Cc} {e a b : Expr} {f g : Ef} {pos : Pos} {af : Af} {es : List Expr}

/-! ### len, list, tuple, int, str, min, max, any, all, sum -/
def oLen : List PyData → M PyData
  | [.list xs] => ok (.int xs.length)
  | [.tuple xs] => ok (.int xs.length)
  | [.str z] => if z.length ≤ lim then ok (.int z.length) else none
  | _ => none
def rLen (K : PySem.W.Frag) : List V → Hp → VK → Prop := fun xs H Q => (∃ p ys, xs = [.ref p] ∧ (SqL K H p ys ∨ SqT K H p ys) ∧ Q (.int ys.length) H) ∨ (∃ z, xs = [.str z] ∧ z.length ≤ sizeLine ∧ Q (.int z.length) H)
theorem cl_len : CallR X (.builtin "len") (rLen X.K) := call_len_seq.or call_len_str
theorem cs_len : CallS c (rLen c.K) oLen := by
  intro r s H F vs ds Q R hv h
  unfold oLen at h
  split at h
  · obtain ⟨v, rfl, hb⟩ := bp_one hv
    obtain ⟨p, ws, rfl, hs, hd⟩ := hb.list R.fr.sub
    exact .inl ⟨p, ws, rfl, .inl hs, by rw [dpAll_len hd]; exact h.now R _ (.int _)⟩
  · obtain ⟨v, rfl, hb⟩ := bp_one hv
    obtain ⟨p, ws, rfl, hs, hd⟩ := hb.tup R.fr.sub
    exact .inl ⟨p, ws, rfl, .inr hs, by rw [dpAll_len hd]; exact h.now R _ (.int _)⟩
  · obtain ⟨v, rfl, hb⟩ := bp_one hv
    split at h
    · rename_i z
      rw [hb.str]
      exact .inr ⟨_, rfl, lim_line z, h.now R _ (.int _)⟩
    · exact h.elim
  · exact h.elim
def oList : List PyData → M PyData
  | [.list xs] => ok (.list xs)
  | [.tuple xs] => ok (.list xs)
  | _ => none
def rListOf (K : PySem.W.Frag) : List V → Hp → VK → Prop := fun xs H Q => ∃ p ys, xs = [.ref p] ∧ (SqL K H p ys ∨ SqT K H p ys) ∧ ∀ l, H l = none → Q (.ref l) (upd H l (.lst ys))
theorem cs_list : CallS c (rListOf c.K) oList := by
  intro r s H F vs ds Q R hv h
  unfold oList at h
  split at h
  · obtain ⟨v, rfl, hb⟩ := bp_one hv
    obtain ⟨p, ws, rfl, hs, hd⟩ := hb.list R.fr.sub
    exact ⟨p, ws, rfl, .inl hs, fun l nl => have z := lay_l R h nl hd; z.1 _ z.2⟩
  · obtain ⟨v, rfl, hb⟩ := bp_one hv
    obtain ⟨p, ws, rfl, hs, hd⟩ := hb.tup R.fr.sub
    exact ⟨p, ws, rfl, .inr hs, fun l nl => have z := lay_l R h nl hd; z.1 _ z.2⟩
  · exact h.elim
def oTuple : List PyData → M PyData
  | [.list xs] => ok (.tuple xs)
  | [.tuple xs] => ok (.tuple xs)
  | _ => none
theorem cs_tuple : CallS c (rTupOf c.K) oTuple := by
  intro r s H F vs ds Q R hv h
  unfold oTuple at h
  split at h
  · obtain ⟨v, rfl, hb⟩ := bp_one hv
    obtain ⟨p, ws, rfl, hs, hd⟩ := hb.list R.fr.sub
    exact ⟨p, ws, rfl, .inl ⟨hs, fun l ob nl od => have z := lay_t R h nl od hd; z.1 _ z.2⟩⟩
  · obtain ⟨v, rfl, hb⟩ := bp_one hv
    obtain ⟨p, ws, rfl, hs, hd⟩ := hb.tup R.fr.sub
    refine ⟨p, ws, rfl, .inr ⟨hs, ?_⟩⟩
    rcases hb with hb | ⟨_, _, _, _, ey, _⟩
    · exact h.now R _ hb
    · cases ey
  · exact h.elim
def oInt : List PyData → M PyData
  | [.int i] => ok (.int i)
  | [.bool k] => ok (.int (if k then 1 else 0))
  | _ => none
theorem cs_int : CallS c (fun xs H Q => (∃ i, xs = [.int i] ∧ Q (.int i) H) ∨ ∃ k, xs = [.bl k] ∧ Q (.int (if k then 1 else 0)) H) oInt := by
  intro r s H F vs ds Q R hv h
  unfold oInt at h
  split at h
  · obtain ⟨v, rfl, hb⟩ := bp_one hv
    rw [hb.int]
    exact .inl ⟨_, rfl, h.now R _ (.int _)⟩
  · obtain ⟨v, rfl, hb⟩ := bp_one hv
    rw [hb.bool]
    exact .inr ⟨_, rfl, h.now R _ (.int _)⟩
  · exact h.elim
def oStr : List PyData → M PyData
  | [.int i] => if inW i = true then ok (.str (toString i)) else none
  | _ => none
theorem cs_str : CallS c (fun xs H Q => ∃ i, xs = [.int i] ∧ i.natAbs.log2 < 1920 ∧ Q (.str (toString i)) H) oStr := by
  intro r s H F vs ds Q R hv h
  unfold oStr at h
  split at h
  · split at h
    · rename_i i z
      have z : i.natAbs < 2 ^ 64 := by have := inW_of.mp z; omega
      obtain ⟨v, rfl, hb⟩ := bp_one hv
      rw [hb.int]
      refine ⟨_, rfl, ?_, h.now R _ (.str _)⟩
      by_cases z0 : i.natAbs = 0
      · rw [z0]; decide
      · exact Nat.lt_of_lt_of_le ((Nat.log2_lt z0).mpr z) (by decide)
    · exact h.elim
  · exact h.elim
def oMax2 : List PyData → M PyData
  | [.int i, .int j] => ok (.int (if j > i then j else i))
  | _ => none
def oMin2 : List PyData → M PyData
  | [.int i, .int j] => ok (.int (if j < i then j else i))
  | _ => none
theorem cs_max2 : CallS c (fun xs H Q => ∃ i j, xs = [.int i, .int j] ∧ Q (.int (if j > i then j else i)) H) oMax2 := by
  intro r s H F vs ds Q R hv h
  unfold oMax2 at h
  split at h
  · obtain ⟨v, u, rfl, h1, h2⟩ := bp_two hv
    rw [h1.int, h2.int]
    exact ⟨_, _, rfl, h.now R _ (.int _)⟩
  · exact h.elim
theorem cs_min2 : CallS c (fun xs H Q => ∃ i j, xs = [.int i, .int j] ∧ Q (.int (if j < i then j else i)) H) oMin2 := by
  intro r s H F vs ds Q R hv h
  unfold oMin2 at h
  split at h
  · obtain ⟨v, u, rfl, h1, h2⟩ := bp_two hv
    rw [h1.int, h2.int]
    exact ⟨_, _, rfl, h.now R _ (.int _)⟩
  · exact h.elim
def oAny : List PyData → M PyData
  | [.list xs] => match blsOf xs with
    | some bs => ok (.bool (bs.any id))
    | none => none
  | _ => none
def oAll : List PyData → M PyData
  | [.list xs] => match blsOf xs with
    | some bs => ok (.bool (bs.all id))
    | none => none
  | _ => none
def oSum : List PyData → M PyData
  | [.list xs] => match intsOf xs with
    | some ns => ok (.int ns.sum)
    | none => none
  | _ => none
theorem cs_any : CallS c (rAny c.K) oAny := by
  intro r s H F vs ds Q R hv h
  unfold oAny at h
  split at h
  · split at h
    · rename_i e
      obtain ⟨v, rfl, hb⟩ := bp_one hv
      obtain ⟨p, ws, rfl, hs, hd⟩ := hb.list R.fr.sub
      rw [blsOf_eq e] at hd
      exact ⟨p, _, rfl, by rw [← dpAll_bls hd]; exact hs, h.now R _ (.bl _)⟩
    · exact h.elim
  · exact h.elim
theorem cs_all : CallS c (rAll c.K) oAll := by
  intro r s H F vs ds Q R hv h
  unfold oAll at h
  split at h
  · split at h
    · rename_i e
      obtain ⟨v, rfl, hb⟩ := bp_one hv
      obtain ⟨p, ws, rfl, hs, hd⟩ := hb.list R.fr.sub
      rw [blsOf_eq e] at hd
      exact ⟨p, _, rfl, by rw [← dpAll_bls hd]; exact hs, h.now R _ (.bl _)⟩
    · exact h.elim
  · exact h.elim
theorem cs_sum : CallS c (rSum c.K) oSum := by
  intro r s H F vs ds Q R hv h
  unfold oSum at h
  split at h
  · split at h
    · rename_i e
      obtain ⟨v, rfl, hb⟩ := bp_one hv
      obtain ⟨p, ws, rfl, hs, hd⟩ := hb.list R.fr.sub
      rw [intsOf_eq e] at hd
      exact ⟨p, _, rfl, by rw [← dpAll_ints hd]; exact hs, h.now R _ (.int _)⟩
    · exact h.elim
  · exact h.elim
/-- the greatest -/
def greatest : List Int → Int
  | [] => 0
  | [x] => x
  | x :: r => if greatest r > x then greatest r else x
theorem greatest_mem : ∀ {l : List Int}, l ≠ [] → greatest l ∈ l
  | [], h => absurd rfl h
  | [x], _ => by simp [greatest]
  | x :: y :: r, _ => by
    have ih := greatest_mem (l := y :: r) (by simp)
    show (if greatest (y :: r) > x then greatest (y :: r) else x) ∈ _
    split
    · exact List.mem_cons_of_mem _ ih
    · exact List.mem_cons_self
theorem greatest_ge : ∀ {l : List Int} {z : Int}, z ∈ l → z ≤ greatest l
  | [], z, h => by simp at h
  | [x], z, h => by simp at h; subst h; exact Int.le_refl _
  | x :: y :: r, z, h => by
    show z ≤ (if greatest (y :: r) > x then greatest (y :: r) else x)
    rcases List.mem_cons.mp h with rfl | h
    · split <;> omega
    · have ih := greatest_ge (l := y :: r) h
      split <;> omega
def oMaxL : List PyData → M PyData
  | [.list xs] => match intsOf xs with
    | some (n :: ns) => ok (.int (greatest (n :: ns)))
    | _ => none
  | _ => none
theorem cs_maxL : CallS c (rMax c.K) oMaxL := by
  intro r s H F vs ds Q R hv h
  unfold oMaxL at h
  split at h
  · split at h
    · rename_i n ns e
      obtain ⟨v, rfl, hb⟩ := bp_one hv
      obtain ⟨p, ws, rfl, hs, hd⟩ := hb.list R.fr.sub
      rw [intsOf_eq e] at hd
      refine ⟨p, _, rfl, by rw [← dpAll_ints hd]; exact hs, by simp, fun m hm hall => ?_⟩
      have e1 : m = greatest (n :: ns) := by
        have := hall _ (greatest_mem (by simp))
        have := greatest_ge hm
        omega
      rw [e1]
      exact h.now R _ (.int _)
    · exact h.elim
  · exact h.elim

/-! ### sorted ints -/
def ins (x : Int) : List Int → List Int
  | [] => [x]
  | y :: r => if x ≤ y then x :: y :: r else y :: ins x r
def isort : List Int → List Int
  | [] => []
  | x :: r => ins x (isort r)
theorem ins_perm (x : Int) : ∀ l : List Int, (ins x l).Perm (x :: l)
  | [] => List.Perm.refl _
  | y :: r => by
    unfold ins
    split
    · exact List.Perm.refl _
    · exact ((ins_perm x r).cons y).trans (List.Perm.swap x y r)
theorem isort_perm : ∀ l : List Int, (isort l).Perm l
  | [] => List.Perm.refl _
  | x :: r => (ins_perm x _).trans ((isort_perm r).cons x)
theorem ins_sorted (x : Int) : ∀ {l : List Int}, l.Pairwise (· ≤ ·) → (ins x l).Pairwise (· ≤ ·)
  | [], _ => by simp [ins]
  | y :: r, h => by
    unfold ins
    rw [List.pairwise_cons] at h
    split
    · rename_i hxy
      refine List.pairwise_cons.mpr ⟨fun z hz => ?_, List.pairwise_cons.mpr h⟩
      rcases List.mem_cons.mp hz with rfl | hz
      · exact hxy
      · exact Int.le_trans hxy (h.1 z hz)
    · rename_i hxy
      refine List.pairwise_cons.mpr ⟨fun z hz => ?_, ins_sorted x h.2⟩
      rcases List.mem_cons.mp ((ins_perm x r).mem_iff.mp hz) with rfl | hz
      · omega
      · exact h.1 z hz
theorem isort_sorted : ∀ l : List Int, (isort l).Pairwise (· ≤ ·)
  | [] => List.Pairwise.nil
  | x :: r => ins_sorted x (isort_sorted r)
theorem isort_of {l m : List Int} (hp : m.Perm l) (hs : m.Pairwise (· ≤ ·)) : m = isort l :=
  (hp.trans (isort_perm l).symm).eq_of_pairwise (fun _ _ _ _ h1 h2 => Int.le_antisymm h1 h2) hs (isort_sorted l)
def oSorted : List PyData → M PyData
  | [.list xs] => match intsOf xs with
    | some ns => ok (.list ((isort ns).map .int))
    | none => none
  | _ => none
theorem cs_sorted : CallS c (rSortedI c.K) oSorted := by
  intro r s H F vs ds Q R hv h
  unfold oSorted at h
  split at h
  · split at h
    · rename_i e
      obtain ⟨v, rfl, hb⟩ := bp_one hv
      obtain ⟨p, ws, rfl, hs, hd⟩ := hb.list R.fr.sub
      rw [intsOf_eq e] at hd
      refine ⟨p, _, rfl, by rw [← dpAll_ints hd]; exact hs, fun ns' q hp hs np => ?_⟩
      rw [isort_of hp hs]
      have z := lay_l R h np dpAll_of_ints
      exact z.1 _ z.2
    · exact h.elim
  · exact h.elim
end

/-! ### sorted of a tuple of ints -/
section
open PySem.Spec PyProof.Rows SrtO
variable {prog : Program} {w : World} {A : Around} {E : Value → Shared → Prop} {s : Shared}
theorem sorted_tupI {l : Addr} {vs : List Value} {ns : List Int} {Q : Value → Shared → Prop} (hl : IsTup s.heap l vs.toArray) (hi : IntsAre vs ns) (hz : vs.length ≤ sizeLine)
    (h : ∀ (h' : Heap) (d : Addr) (out : List Value) (ns' : List Int) (n : Nat), IntsAre out ns' → ns'.Perm ns → ns'.Pairwise (· ≤ ·) → (∀ b o, s.heap.get? b = some o → h'.get? b = some o) → s.heap.get? d = none → h'.get? d = some (seqObj "list" out.toArray n) → Q (.ref d) { s with heap := h' }) :
    wpAny (model prog w) A (call (.builtin "sorted") [.ref l]) Q E s := by
  obtain ⟨o, ho, hc, n0, hd⟩ := hl
  refine Calls.call_function_entry kind_sorted plain_sorted entry_sorted (args_sorted1 _) ?_
  unfold Builtin.«sorted»
  refine wpAny_bind (m := checkCount "sorted" 1 1 _) (wpAny_pure ?_)
  refine wpAny_bind (wpAny_collect_seq l (.inr rfl) ho hc hd (fun h1 k1 => ?_) (by rw [List.size_toArray]; exact hz))
  refine wpAny_bind (wpAny_newList ?_ hz)
  have hoL : (h1.push (seqObj "list" vs.toArray 0)).get? h1.objs.size = some (seqObj "list" vs.toArray 0) := Heap.get?_push_size _ rfl
  have gone : s.heap.get? h1.objs.size = none := by
    cases q : s.heap.get? h1.objs.size with
    | none => rfl
    | some o2 => exact absurd (Heap.lt_size (k1 _ o2 q)) (Nat.lt_irrefl _)
  refine wpAny_bind (wpAny_holding (wpAny_call_entry slot_list_sort ⟨_, hoL, rfl⟩ entry_list_sort (list_sort_ord (ltv := ltIv) swo_int hoL hz (fun h2 => ints_sortable hi h2) fun out hs hb => ⟨_, rfl, ?_⟩) (args_list_sort _)))
  refine wpAny_pure ⟨_, rfl, ?_⟩
  obtain ⟨z1, z2, z3⟩ := ints_out hi hs hb
  obtain ⟨n, hat⟩ := sortedHeap_at (out := out.toArray) hoL
  refine h _ _ out _ n z1 z2 z3 (fun b o2 e => ?_) gone hat
  have e1 := k1 b o2 e
  have lt1 := Heap.lt_size e1
  rw [sortedHeap_old (Nat.ne_of_lt lt1) (by rw [Heap.size_push]; exact Nat.lt_succ_of_lt lt1)]
  exact Heap.get?_push_of_some _ e1
end
end DL

set_option Elab.async false
set_option linter.all false
set_option maxRecDepth 100000
/-! The data layer, 8: more built-ins, methods. -/
noncomputable section
namespace DL
open PySem PySem.Spec PyProof.Rows L2

section
variable {X : Cx} {c : Cc} {e a b o : Expr} {f g : Ef} {pos : Pos} {af : Af} {es : List Expr}

/-! ### sorted -/
def rSortedT (K : PySem.W.Frag) : List V → Hp → VK → Prop := fun vs H Q => ∃ (a : Addr) (ns : List Int), vs = [V.ref a] ∧ SqT K H a (ns.map V.int) ∧
  ∀ (ns' : List Int) (p : Addr), ns'.Perm ns → ns'.Pairwise (· ≤ ·) → H p = none → Q (.ref p) (upd H p (.lst (ns'.map V.int)))
theorem cl_sortedT : CallR X (.builtin "sorted") (rSortedT X.K) := by
  intro pins s σ H vs us Q I r h
  obtain ⟨a, ns, rfl, hs, q⟩ := h
  obtain ⟨its, rv, hl, hz⟩ := I.tuple hs
  rw [Vals.ref1 r]
  have hi := rv.ints
  refine sorted_tupI hl hi (by rw [← rv.length]; exact hz) fun h' d out ns' n z1 z2 z3 k gone hat => ?_
  have hn : H d = none := I.hok.gone gone
  have hlen : (ns'.map V.int).length ≤ sizeLine := by
    rw [List.length_map, z2.length_eq]
    rw [List.length_map] at hz
    exact hz
  exact ⟨.ref d, _, I.laidN (t' := s.toks) k gone hn (show ObjOk X.prog X.w _ _ _ (.lst (ns'.map V.int)) from ⟨hlen, out, n, vals_of_ints z1, hat⟩), rfl, q _ _ z2 z3 hn⟩
def oSortedA : List PyData → M PyData
  | [.list xs] => match intsOf xs with
    | some ns => ok (.list ((isort ns).map .int))
    | none => none
  | [.tuple xs] => match intsOf xs with
    | some ns => ok (.list ((isort ns).map .int))
    | none => none
  | _ => none
def rSortedA (K : PySem.W.Frag) : List V → Hp → VK → Prop := fun vs H Q => rSortedI K vs H Q ∨ rSortedT K vs H Q
theorem cl_sortedA : CallR X (.builtin "sorted") (rSortedA X.K) := cr_sortedI.or cl_sortedT
theorem cs_sortedA : CallS c (rSortedA c.K) oSortedA := by
  intro r s H F vs ds Q R hv h
  unfold oSortedA at h
  split at h
  · split at h
    · rename_i e
      obtain ⟨v, rfl, hb⟩ := bp_one hv
      obtain ⟨p, ws, rfl, hs, hd⟩ := hb.list R.fr.sub
      rw [intsOf_eq e] at hd
      refine .inl ⟨p, _, rfl, by rw [← dpAll_ints hd]; exact hs, fun ns' q hp hs np => ?_⟩
      rw [isort_of hp hs]
      have z := lay_l R h np dpAll_of_ints
      exact z.1 _ z.2
    · exact h.elim
  · split at h
    · rename_i e
      obtain ⟨v, rfl, hb⟩ := bp_one hv
      obtain ⟨p, ws, rfl, hs, hd⟩ := hb.tup R.fr.sub
      rw [intsOf_eq e] at hd
      refine .inr ⟨p, _, rfl, by rw [← dpAll_ints hd]; exact hs, fun ns' q hp hs np => ?_⟩
      rw [isort_of hp hs]
      have z := lay_l R h np dpAll_of_ints
      exact z.1 _ z.2
    · exact h.elim
  · exact h.elim

/-! ### len(set(t)) -/
def dd : List Int → List Int
  | [] => []
  | x :: r => if x ∈ r then dd r else x :: dd r
theorem mem_dd {z : Int} : ∀ {l : List Int}, z ∈ dd l ↔ z ∈ l
  | [] => Iff.rfl
  | x :: r => by
    unfold dd
    split
    · rename_i h
      rw [mem_dd, List.mem_cons]
      exact ⟨.inr, fun q => q.elim (fun e => e ▸ h) id⟩
    · rw [List.mem_cons, List.mem_cons, mem_dd]
theorem nodup_dd : ∀ l : List Int, (dd l).Nodup
  | [] => List.nodup_nil
  | x :: r => by
    unfold dd
    split
    · exact nodup_dd r
    · rename_i h
      exact List.nodup_cons.mpr ⟨fun q => h (mem_dd.mp q), nodup_dd r⟩
theorem nodup_len_le : ∀ {l m : List Int}, l.Nodup → (∀ z ∈ l, z ∈ m) → l.length ≤ m.length
  | [], m, _, _ => Nat.zero_le _
  | x :: r, m, h, s => by
    rw [List.nodup_cons] at h
    have hx := s x List.mem_cons_self
    have ih := nodup_len_le (l := r) (m := m.erase x) h.2 fun z hz => (List.mem_erase_of_ne (fun (e : z = x) => h.1 (by rw [← e]; exact hz))).mpr (s z (List.mem_cons_of_mem _ hz))
    rw [List.length_erase_of_mem hx] at ih
    have : 0 < m.length := List.length_pos_of_mem hx
    rw [List.length_cons]; omega
theorem nodup_len {l m : List Int} (h : l.Nodup) (g : m.Nodup) (s : ∀ z, z ∈ l ↔ z ∈ m) : l.length = m.length :=
  Nat.le_antisymm (nodup_len_le h fun z => (s z).mp) (nodup_len_le g fun z => (s z).mpr)
theorem dd_len (l : List Int) : (dd l).length = l.length ↔ l.Nodup := by
  constructor
  · intro h
    induction l with
    | nil => exact List.nodup_nil
    | cons x r ih =>
      unfold dd at h
      have le : (dd r).length ≤ r.length := nodup_len_le (nodup_dd r) fun z => mem_dd.mp
      split at h
      · rw [List.length_cons] at h; omega
      · rename_i hx
        rw [List.length_cons, List.length_cons] at h
        exact List.nodup_cons.mpr ⟨hx, ih (by omega)⟩
  · intro h
    exact nodup_len (nodup_dd l) h fun z => mem_dd
def oLenSet : PyData → M PyData
  | .tuple xs => match intsOf xs with
    | some ns => if ns.length < 4000 then ok (.int (dd ns).length) else none
    | none => none
  | _ => none
def tLenSetT (K : PySem.W.Frag) (ta : TE) : TE := fun σ H Q => ta σ H fun x H1 => ∃ (l : Addr) (ns : List Int), x = .ref l ∧ SqT K H1 l (ns.map V.int) ∧ ns.length < 4000 ∧ Q (.int ((dd ns).length : Nat)) H1
theorem pe_lenSetT {ta : TE} {p p2 q : Pos} (hc : X.calm = true) (hg : Gl X "len") (hm : X.mg "len" = none) (hg2 : Gl X "set") (hm2 : X.mg "set" = none) (ha : PE X a ta)
    (na : starEach [a] X.env = (false, eval a X.env) :: starEach [] X.env := by rfl) : PE X (.Call (.Name "len" p) [.Call (.Name "set" p2) [a] [] q] [] pos) (tLenSetT X.K ta) := by
  refine ⟨fun pins s σ H Q I h => ?_⟩
  refine Call_ (ld_blt I hg hm boot_len ?_)
  refine PyProof.Rows.callWith_builtin1 (PyProof.Rows.args_cons ?_ rfl) rfl rfl
  refine Call_ (ld_blt I hg2 hm2 boot_set ?_)
  refine PyProof.Rows.callWith_type1 (PyProof.Rows.args_cons (thn (ha.run pins s σ H _ I h) fun v s1 ⟨x, H1, I1, r1, q1⟩ => PyProof.Rows.args_nil ?_) na) na rfl
  obtain ⟨l, ns, rfl, hq, hl, q1⟩ := q1
  cases r1
  obtain ⟨its, r, pl, hz⟩ := I1.tuple hq
  refine call_set_tupI ns (I1.ok.hd hc) pl (by simpa using r.ints) (by unfold scanBound; omega) fun h' tk cc hS hcc hk => ?_
  refine PyProof.Rows.args_nil ?_
  obtain ⟨o, es, ep, t, ho, hex, hd, hg, hnd, hmem, hsc, hf, hn, _⟩ := hS
  have I2 : L2.Inv X pins σ H1 { s1 with heap := h', toks := tk } := I1.kept hk
  have ec : cc = (dd ns).length := by
    rw [← hn, ← Array.length_toList, ← List.length_map (f := keyOf)]
    refine nodup_len hnd (nodup_dd ns) fun z => ?_
    rw [← hmem, mem_dd]
    exact decide_eq_true_iff
  exact PySem.call_len_set ho hex hd hf (by omega) ⟨.int ((dd ns).length : Nat), H1, I2.tok _, ⟨_, by rw [hn, ec]⟩, q1⟩
theorem de_lenSet {p p2 q : Pos} (hc : X.calm = true) (hg : Gl X "len") (hm : X.mg "len" = none) (hg2 : Gl X "set") (hm2 : X.mg "set" = none) (ha : PE X a (teB c f)) (hK : X.K = c.K := by rfl)
    (na : starEach [a] X.env = (false, eval a X.env) :: starEach [] X.env := by rfl) : PE X (.Call (.Name "len" p) [.Call (.Name "set" p2) [a] [] q] [] pos) (teD c (e1 oLenSet f)) := by
  refine PE.weak (pe_lenSetT hc hg hm hg2 hm2 ha na) fun s H Q ⟨r, F, R, k⟩ => ⟨r, F, R, k.bnd.imp fun x H1 F1 R1 m1 k1 v hv => ?_⟩
  unfold oLenSet at k1
  split at k1
  · split at k1
    · split at k1
      · rename_i e z
        obtain ⟨p, ws, rfl, hs, hd⟩ := hv.tup R1.fr.sub
        rw [intsOf_eq e] at hd
        exact ⟨p, _, rfl, by rw [hK, ← dpAll_ints hd]; exact hs, z, k1.now R1 _ (.int _)⟩
      · exact k1.elim
    · exact k1.elim
  · exact k1.elim

/-! ### the order of lists and tuples of ints -/
theorem firstLt_map {e r : Nat → Bool} {z : Bool} {g : Nat → Nat} : ∀ {l : List Nat}, SeqAt.firstLt e r z (l.map g) = SeqAt.firstLt (fun j => e (g j)) (fun j => r (g j)) z l
  | [] => rfl
  | j :: t => by
    rw [List.map_cons]
    unfold SeqAt.firstLt
    rw [firstLt_map]
theorem firstLt_lex : ∀ (ns ms : List Int), SeqAt.firstLt (fun j => decide (ns.getD j 0 = ms.getD j 0)) (fun j => decide (ns.getD j 0 < ms.getD j 0)) (decide (ns.length < ms.length)) (List.range (min ns.length ms.length)) = HT.lexLt ns ms
  | [], [] => rfl
  | [], m :: ms => by simp [SeqAt.firstLt, HT.lexLt]
  | n :: ns, [] => by simp [SeqAt.firstLt, HT.lexLt]
  | n :: ns, m :: ms => by
    have e1 : min (n :: ns).length (m :: ms).length = min ns.length ms.length + 1 := by rw [List.length_cons, List.length_cons]; omega
    have ih := firstLt_lex ns ms
    rw [e1, List.range_succ_eq_map]
    unfold SeqAt.firstLt
    rw [firstLt_map, HT.lexLt_cons]
    by_cases h : n = m
    · rw [if_pos (by simp [h]), if_pos h, ← ih]
      simp only [List.getD_cons_succ, List.length_cons, Nat.add_lt_add_iff_right]
    · rw [if_neg (by simp [h]), if_neg h]
      rfl
def rLtS (K : PySem.W.Frag) : R2 := fun x y H Q => ∃ a b ns ms, x = .ref a ∧ y = .ref b ∧ SqL K H a (ns.map V.int) ∧ SqL K H b (ms.map V.int) ∧ Q (.bl (HT.lexLt ns ms)) H
theorem op_ltS (hu : X.A.units < cLine) : OpR X (compareOp .Lt) (rLtS X.K) := by
  intro pins s σ H x y v u Q I rx ry h
  obtain ⟨a, b, ns, ms, rfl, rfl, ha, hb, q⟩ := h
  cases rx
  cases ry
  obtain ⟨its, r1, p1, _⟩ := I.list ha
  obtain ⟨its2, r2, p2, _⟩ := I.list hb
  have i1 : IntsAre its ns := r1.ints
  have i2 : IntsAre its2 ms := r2.ints
  have e1 : its.toArray.size = ns.length := by rw [List.size_toArray]; exact i1.length
  have e2 : its2.toArray.size = ms.length := by rw [List.size_toArray]; exact i2.length
  have at1 : ∀ j (h1 : j < its.toArray.size), ∃ t, its.toArray[j] = .int (ns.getD j 0) t := fun j h1 => PyProof.Rows.IntsAre.int_at i1 _ _ (by simp at h1; simp [h1])
  have at2 : ∀ j (h1 : j < its2.toArray.size), ∃ t, its2.toArray[j] = .int (ms.getD j 0) t := fun j h1 => PyProof.Rows.IntsAre.int_at i2 _ _ (by simp at h1; simp [h1])
  have L := SeqAt.RcLt.lists (A := X.A) (s := s) (e := fun j => decide (ns.getD j 0 = ms.getD j 0)) (r := fun j => decide (ns.getD j 0 < ms.getD j 0)) p1.isList p2.isList hu
    (fun j h1 h2 => by
      obtain ⟨t, et⟩ := at1 j h1
      obtain ⟨t', et'⟩ := at2 j h2
      rw [et, et', ← Bool.beq_eq_decide_eq]
      exact SeqAt.EqAt.int_int _ _ _ _)
    (fun j h1 h2 _ => by
      obtain ⟨t, et⟩ := at1 j h1
      obtain ⟨t', et'⟩ := at2 j h2
      rw [et, et']
      exact fun prog w E Q q => HT.rcLt_int _ _ _ _ _ _ prog w E Q q)
  rw [e1, e2, firstLt_lex] at L
  have z : wpAny (model X.prog X.w) X.A (compareOp .Lt (.ref a) (.ref b)) (EP X pins σ Q) X.xe s := L X.prog X.w X.xe (EP X pins σ Q) ⟨.bl _, H, I, rfl, q⟩
  exact z
def oLtA : PyData → PyData → M PyData
  | .int i, .int j => ok (.bool (decide (i < j)))
  | .list xs, .list ys => match intsOf xs, intsOf ys with
    | some ns, some ms => ok (.bool (HT.lexLt ns ms))
    | _, _ => none
  | .tuple xs, .tuple ys => match intsOf xs, intsOf ys with
    | some ns, some ms => ok (.bool (HT.lexLt ns ms))
    | _, _ => none
  | _, _ => none
def rLtA (K : PySem.W.Frag) : R2 := fun x y H Q => (rI0 fun i j => .bl (decide (i < j))) x y H Q ∨ (rLtS K x y H Q ∨ rLtT K x y H Q)
theorem op_ltA (hu : X.A.units < cLine) : OpR X (compareOp .Lt) (rLtA X.K) := op_lt.or ((op_ltS hu).or (op_ltT hu))
theorem os_ltA : OpS c (rLtA c.K) oLtA := by
  intro r s H F x y a b Q R hx hy h
  unfold oLtA at h
  split at h
  · exact .inl ⟨_, _, hx.int, hy.int, h.now R _ (.bl _)⟩
  · split at h
    · rename_i e1 e2
      obtain ⟨p, vs, rfl, hs, hd⟩ := hx.list R.fr.sub
      obtain ⟨q, ws, rfl, ht, he⟩ := hy.list R.fr.sub
      rw [intsOf_eq e1] at hd
      rw [intsOf_eq e2] at he
      exact .inr (.inl ⟨p, q, _, _, rfl, rfl, by rw [← dpAll_ints hd]; exact hs, by rw [← dpAll_ints he]; exact ht, h.now R _ (.bl _)⟩)
    · exact h.elim
  · split at h
    · rename_i e1 e2
      obtain ⟨p, vs, rfl, hs, hd⟩ := hx.tup R.fr.sub
      obtain ⟨q, ws, rfl, ht, he⟩ := hy.tup R.fr.sub
      rw [intsOf_eq e1] at hd
      rw [intsOf_eq e2] at he
      exact .inr (.inr ⟨p, q, _, _, rfl, rfl, by rw [← dpAll_ints hd]; exact hs, by rw [← dpAll_ints he]; exact ht, h.now R _ (.bl _)⟩)
    · exact h.elim
  · exact h.elim

/-! ### list(range(n)) -/
def oRng : PyData → M PyData
  | .int n => if inL n = true then ok (.list (rng 0 n.toNat)) else none
  | _ => none
def nRng (f : Ef) : Af := fun r => bnd (f r) fun x => match x with
  | .int n => if inL n = true then ok (rng 0 n.toNat) else none
  | _ => none
theorem dq_rng {K : PySem.W.Frag} {F : Hp} {n : Int} : DqAll K F (rgV 0 n) (rng 0 n.toNat) := by
  have key : ∀ l : List Nat, DqAll K F (l.map fun i => V.int ((0 : Int) + (i : Nat))) (l.map fun i => PyData.int ((0 : Int) + (i : Nat))) := by
    intro l
    induction l with
    | nil => exact .nil
    | cons x l ih => exact .cons (.int _) ih
  unfold rgV rng
  rw [Int.sub_zero]
  exact key _
theorem do_rng {p p2 q : Pos} (hc : X.calm = true) (hg : Gl X "list") (hm : X.mg "list" = none) (hg2 : Gl X "range") (hm2 : X.mg "range" = none) (ha : PE X a (teD c f))
    (na : starEach [a] X.env = (false, eval a X.env) :: starEach [] X.env := by rfl) (nb : starEach [.Call (.Name "range" p2) [a] [] q] X.env = (false, eval (.Call (.Name "range" p2) [a] [] q) X.env) :: starEach [] X.env := by rfl) : PE X (.Call (.Name "list" p) [.Call (.Name "range" p2) [a] [] q] [] pos) (teO c (nRng f)) := by
  refine PE.weak (pe_listRg hc hg hm (prg_1 hg2 hm2 ha na) nb) fun s H Q ⟨r, F, R, k⟩ => ⟨r, F, R, k.bnd.imp fun x H1 F1 R1 m1 k1 v hv => ?_⟩
  split at k1
  · split at k1
    · rename_i n z
      cases hv
      have z1 := inL_iff.mp z
      refine ⟨n, rfl, ⟨by omega, by omega, by omega, by omega, by omega⟩, fun q nq => ?_⟩
      have m := More.loose (o := .lst (rgV 0 n)) R1.fr.sub nq
      exact k1 _ _ (R1.more m) m q _ upd_same (R1.fr.newF nq) (m1.h.free nq) dq_rng
    · exact k1.elim
  · exact k1.elim
/-- a new list out of a call that gives a new frozen one: list(x) -/
theorem do_list {p : Pos} (hg : Gl X "list") (hm : X.mg "list" = none) (ha : PE X a (teB c f)) (hK : X.K = c.K := by rfl)
    (na : starEach [a] X.env = (false, eval a X.env) :: starEach [] X.env := by rfl) : PE X (.Call (.Name "list" p) [a] [] pos) (teO c fun r => bnd (f r) fun x => match x with | .list xs => ok xs | .tuple xs => ok xs | _ => none) := by
  refine PE.weak (pe_callTy call_list_of hg hm (by decide +kernel) (pa_cons ha pa_nil na) (by decide) (by decide) na) fun s H Q ⟨r, F, R, k⟩ => ⟨r, F, R, k.bnd.imp fun x H1 F1 R1 m1 k1 v hv => ?_⟩
  split at k1
  · obtain ⟨p, vs, rfl, hs, hd⟩ := hv.list R1.fr.sub
    refine ⟨p, vs, rfl, .inl (by rw [hK]; exact hs), fun q nq => ?_⟩
    have m := More.loose (o := .lst vs) R1.fr.sub nq
    exact k1 _ _ (R1.more m) m q _ upd_same (R1.fr.newF nq) (m1.h.free nq) hd
  · obtain ⟨p, vs, rfl, hs, hd⟩ := hv.tup R1.fr.sub
    refine ⟨p, vs, rfl, .inr (by rw [hK]; exact hs), fun q nq => ?_⟩
    have m := More.loose (o := .lst vs) R1.fr.sub nq
    exact k1 _ _ (R1.more m) m q _ upd_same (R1.fr.newF nq) (m1.h.free nq) hd
  · exact k1.elim

/-! ### t.index(x), xs.index(x): flat items -/
def firstAt (d : PyData) : List PyData → Option Nat
  | [] => none
  | x :: r => if PyData.eqv x d = true then some 0 else (firstAt d r).map (· + 1)
theorem firstAt_some {d : PyData} : ∀ {l : List PyData} {j : Nat}, firstAt d l = some j → (∃ z, l[j]? = some z ∧ PyData.eqv z d = true) ∧ ∀ (m : Nat) (z : PyData), m < j → l[m]? = some z → PyData.eqv z d = false
  | [], j, h => by cases h
  | x :: r, j, h => by
    unfold firstAt at h
    split at h
    · rename_i z
      cases h
      exact ⟨⟨x, rfl, z⟩, fun m z hm => absurd hm (Nat.not_lt_zero _)⟩
    · rename_i z
      cases q : firstAt d r with
      | none => rw [q] at h; cases h
      | some k =>
        rw [q] at h
        cases h
        obtain ⟨⟨y, e1, e2⟩, h2⟩ := firstAt_some q
        refine ⟨⟨y, by simpa using e1, e2⟩, fun m y hm e => ?_⟩
        cases m with
        | zero => cases e; simpa using z
        | succ m =>
          have hm' : m + 1 < k + 1 := hm
          exact h2 m y (by omega) (by simpa using e)
def rTIndex (K : PySem.W.Frag) : V → List V → Hp → VK → Prop := fun x xs H Q => ∃ (p : Addr) (y : V) (d : PyData) (ds : List PyData) (vs : List V) (j : Nat) (z : PyData), x = V.ref p ∧ xs = [y] ∧ SqT K H p vs ∧ DpAll K H vs ds ∧ Dp K H y d ∧
  SeqAt.shaped (.tuple ds) = true ∧ SeqAt.shaped d = true ∧ ds[j]? = some z ∧ PyData.eqv z d = true ∧ (∀ (m : Nat) (z' : PyData), m < j → ds[m]? = some z' → PyData.eqv z' d = false) ∧ Q (.int (j : Nat)) H
theorem mt_tindex (hu : X.A.units + 65 < cLine) : MtR X "tuple.index" (rTIndex X.K) := by
  intro pins s σ H x xs v us Q I rx rxs h
  obtain ⟨p, y, d, ds, vs, j, z, rfl, rfl, hs, ha, hy, sl, sd, hz, hzj, hno, q⟩ := h
  cases rx
  cases rxs with
  | cons ry rt =>
    rename_i uy ut
    cases rt
    obtain ⟨bs, r1⟩ := Dp.reads I d y uy hy ry
    have hxs : PyData.canLayAll0 ds = true := canAll_of sl
    have hroom : X.A.units + 1 + min (PyData.depthAll ds) d.depth < cLine := room_in_tup sd hu
    obtain ⟨its, rv, ⟨⟨cls, dd, data, sls⟩, ho, hc, n, hdt⟩, hlen⟩ := I.tuple hs
    simp only at hc hdt
    subst hc hdt
    obtain ⟨as, h4⟩ := Dp.readsAll I ds _ its ha rv
    have hn : its.length = ds.length := SeqAt.ReadsAll.length ds its as h4
    have hmap : its.map (SeqAt.readOf s.heap) = ds := SeqAt.readsAll_map ds its as hxs h4
    obtain ⟨hjd, _⟩ := List.getElem?_eq_some_iff.mp hz
    have hj : j < its.toArray.size := by rw [List.size_toArray]; omega
    have look : ∀ (m : Nat) (hm : m < its.toArray.size) (z' : PyData), ds[m]? = some z' → SeqAt.readOf s.heap its.toArray[m] = z' := by
      intro m hm z' hz'
      have hml : m < its.length := by simpa using hm
      rw [← hmap, List.getElem?_map, List.getElem?_eq_getElem hml] at hz'
      have e1 : SeqAt.readOf s.heap its[m] = z' := Option.some.inj hz'
      simpa using e1
    refine call_meets PySem.F.slot_tuple_index ⟨_, ho, rfl⟩ PySem.F.entry_tuple_index (PySem.F.args_tuple_index_2 _ _)
      (_root_.TI.tuple_indexAt p its.toArray n dd sls uy (fun u => PyData.eqv (SeqAt.readOf s.heap u) d) j hj ?_ ?_) ⟨ho, SeqAt.items_eqAt (vs := its.toArray) (show ReadsAll s.heap its.toArray.toList ds as from h4) r1 hxs (SeqAt.canLay_of_shaped sd) hroom, ⟨.int (j : Nat), H, I.tok _, ⟨_, rfl⟩, q⟩⟩
    · show PyData.eqv (SeqAt.readOf s.heap its.toArray[j]) d = true
      rw [look j hj z hz]
      exact hzj
    · intro m hm hmj
      have hmd : m < ds.length := by omega
      show PyData.eqv (SeqAt.readOf s.heap its.toArray[m]) d = false
      rw [look m hm _ (List.getElem?_eq_getElem hmd)]
      exact hno m _ hmj (List.getElem?_eq_getElem hmd)

/-- the call of a method of a tuple that has no dict of its own -/
theorem pe_tbm {to : TE} {t : TA} {name : Str} {id : String} {apos cpos : Pos} {rr : V → List V → Hp → VK → Prop} (slot : Slot "tuple" name id) (hty : typeOf (.builtin id) = pure (.type "method_descriptor")) (hm : MtR X id rr) (ho : PE X o to) (ha : PA X (e :: es) t)
    (hbase : attributeBase o name X.env (eval o X.env) = eval o X.env := by rfl)
    (hfew : ((backTo cpos (starEach (e :: es) X.env)).all (fun x => !x.1) && (backToKw cpos (keywordEach [] X.env)).all (fun x => x.1.isSome)
      && decide ((e :: es).length + ([] : List Keyword).length + (if ([] : List Keyword).isEmpty then 0 else 1) < 30)) = true := by rfl)
    (hline : (apos.endLine == cpos.line) = true := by rfl) (hs : starEach (e :: es) X.env = (false, eval e X.env) :: starEach es X.env := by rfl) (hplain : (backTo cpos (starEach es X.env)).any (·.1) = false := by rfl) :
    PE X (.Call (.Attribute o name apos) (e :: es) [] cpos) (fun σ H Q => to σ H fun x H1 => (∃ p vs, x = .ref p ∧ SqP X.K H1 p vs) ∧ t σ H1 fun xs H2 => rr x xs H2 Q) := by
  refine ⟨fun pins s σ H Q I h => ?_⟩
  refine wpAny_Call_method_late hbase hfew hline rfl (thn (ho.run pins s σ H _ I h) fun v s1 ⟨x, H1, I1, r1, ⟨p, vs, ex, hp⟩, q1⟩ => ?_)
  subst ex
  cases r1
  have hob : ∃ ob, s1.heap.get? p = some ob ∧ ob.cls = .type "tuple" ∧ ob.dict = none := by
    rcases hp with ⟨ob, h1, h2⟩ | ⟨ob, its, n, h1, h2, h3, _⟩
    · obtain ⟨e1, _, its, _, ob', e2, hc, _⟩ := I1.hok p _ h1
      rw [e1] at e2; cases e2
      exact ⟨ob, e1, hc, h2⟩
    · exact ⟨ob, I1.kIn p ob h1, h2, h3⟩
  obtain ⟨ob, e1, e2, e3⟩ := hob
  refine ⟨"tuple", id, PySem.F.plainAttrs_tuple, slot, hty, ⟨ob, e1, e2⟩, fun a ea => by cases ea; exact ⟨ob, e1, e3⟩, ?_⟩
  have hA := ha.run cpos pins s1 σ H1 _ I1 q1
  rw [hs] at hA ⊢
  refine Calls.callWith_builtin (by show (false || (backTo cpos (starEach es X.env)).any (·.1)) = false; rw [hplain]; rfl) (Calls.evalArgs_plain ?_)
  exact thn hA fun us s2 ⟨vs2, H2, I2, r2, q2⟩ => hm pins s2 σ H2 (.ref p) vs2 _ us Q I2 rfl r2 q2
def eTIndex (f g : Ef) : Ef := fun r => bnd (f r) fun x => match x with
  | .tuple ds => bnd (g r) fun d => if SeqAt.shaped (.tuple ds) = true ∧ SeqAt.shaped d = true then (match firstAt d ds with | some j => ok (.int (j : Nat)) | none => none) else none
  | _ => none
theorem de_tindex {apos cpos : Pos} (hu : X.A.units + 65 < cLine) (ho : PE X o (teB c f)) (ha : PE X e (teB c g)) (hK : X.K = c.K := by rfl)
    (hbase : attributeBase o "index" X.env (eval o X.env) = eval o X.env := by rfl)
    (hfew : ((backTo cpos (starEach (e :: []) X.env)).all (fun x => !x.1) && (backToKw cpos (keywordEach [] X.env)).all (fun x => x.1.isSome)
      && decide ((e :: []).length + ([] : List Keyword).length + (if ([] : List Keyword).isEmpty then 0 else 1) < 30)) = true := by rfl)
    (hline : (apos.endLine == cpos.line) = true := by rfl) (hs : starEach (e :: []) X.env = (false, eval e X.env) :: starEach [] X.env := by rfl) (hplain : (backTo cpos (starEach [] X.env)).any (·.1) = false := by rfl) :
    PE X (.Call (.Attribute o "index" apos) [e] [] cpos) (teD c (eTIndex f g)) := by
  refine PE.weak (pe_tbm PySem.F.slot_tuple_index PySem.F.type_tuple_index (mt_tindex hu) ho (pa_cons ha pa_nil hs) hbase hfew hline hs hplain) fun s H Q ⟨r, F, R, k⟩ => ⟨r, F, R, k.bnd.imp fun x H1 F1 R1 m1 k1 v hv => ?_⟩
  split at k1
  · obtain ⟨p, vs, rfl, hp, hd⟩ := hv.tupP R1.fr.sub
    refine ⟨⟨p, vs, rfl, by rw [hK]; exact hp⟩, r, F1, R1, k1.bnd.imp fun d H2 F2 R2 m2 k2 u hu => ?_⟩
    split at k2
    · rename_i z
      split at k2
      · rename_i j ej
        obtain ⟨⟨y, q1, q2⟩, q3⟩ := firstAt_some ej
        rw [hK]
        exact ⟨p, u, d, _, vs, j, y, rfl, rfl, same_t m2.h hp.t, (dpAll_same (m2.f.trans R2.fr.sub) hd).dp, hu.dp R2.fr.sub, z.1, z.2, q1, q2, q3, k2.now R2 _ (.int _)⟩
      · exact k2.elim
    · exact k2.elim
  · exact k1.elim
/-- xs.index(x) -/
def eLIndex (f g : Ef) : Ef := fun r => bnd (f r) fun x => match x with
  | .list ds => bnd (g r) fun d => if SeqAt.shaped (.list ds) = true ∧ SeqAt.shaped d = true then (match firstAt d ds with | some j => ok (.int (j : Nat)) | none => none) else none
  | _ => none
theorem de_lindex {apos cpos : Pos} (hu : X.A.units + 65 < cLine) (ho : PE X o (teB c f)) (ha : PE X e (teB c g)) (hK : X.K = c.K := by rfl)
    (hbase : attributeBase o "index" X.env (eval o X.env) = eval o X.env := by rfl)
    (hfew : ((backTo cpos (starEach (e :: []) X.env)).all (fun x => !x.1) && (backToKw cpos (keywordEach [] X.env)).all (fun x => x.1.isSome)
      && decide ((e :: []).length + ([] : List Keyword).length + (if ([] : List Keyword).isEmpty then 0 else 1) < 30)) = true := by rfl)
    (hline : (apos.endLine == cpos.line) = true := by rfl) (hs : starEach (e :: []) X.env = (false, eval e X.env) :: starEach [] X.env := by rfl) (hplain : (backTo cpos (starEach [] X.env)).any (·.1) = false := by rfl) :
    PE X (.Call (.Attribute o "index" apos) [e] [] cpos) (teD c (eLIndex f g)) := by
  refine PE.weak (pe_bm PySem.F.plainAttrs_list PySem.F.slot_list_index PySem.F.type_list_index (mt_indexD hu) ho (pa_cons ha pa_nil hs) hbase hfew hline hs hplain) fun s H Q ⟨r, F, R, k⟩ => ⟨r, F, R, k.bnd.imp fun x H1 F1 R1 m1 k1 v hv => ?_⟩
  split at k1
  · obtain ⟨p, vs, rfl, hp, hd⟩ := hv.list R1.fr.sub
    refine ⟨.inl ⟨rfl, vs, by rw [hK]; exact hp⟩, r, F1, R1, k1.bnd.imp fun d H2 F2 R2 m2 k2 u hu => ?_⟩
    split at k2
    · rename_i z
      split at k2
      · rename_i j ej
        obtain ⟨⟨y, q1, q2⟩, q3⟩ := firstAt_some ej
        rw [hK]
        exact ⟨p, u, d, _, j, y, rfl, rfl, .lst (same_l m2.h hp) (dpAll_same (m2.f.trans R2.fr.sub) hd).dp, hu.dp R2.fr.sub, z.1, z.2, q1, q2, q3, k2.now R2 _ (.int _)⟩
      · exact k2.elim
    · exact k2.elim
  · exact k1.elim

/-! ### lists that shrink -/
/-- x.append(y.pop(e)) -/
def sAppPop (i j : Nat) (f : Ef) : Sf := fun r => match r[i]?, r[j]? with
  | some (some (.own xs)), some (some (.own ys)) => if i = j then none else ofE (f r) r fun k => match k with
    | .int n => (match ixN ys.length n with
      | some m => (match ys[m]? with
        | some d => if xs.length < lim ∧ inR n = true then some (.nx ((r.set j (some (.own (ys.eraseIdx m)))).set i (some (.own (xs ++ [d]))))) else none
        | none => none)
      | none => none)
    | _ => none
  | _, _ => none
theorem ds_apppop {i j : Nat} {y : Expr} {apos cpos apos2 cpos2 : Pos} (hv : PE X a (tVar i)) (hw : PE X y (tVar j)) (he : PE X e (teB c f)) (hK : X.K = c.K := by rfl)
    (hbase : attributeBase a "append" X.env (eval a X.env) = eval a X.env := by rfl) (hbase2 : attributeBase y "pop" X.env (eval y X.env) = eval y X.env := by rfl)
    (hfew : ((backTo cpos (starEach ((.Call (.Attribute y "pop" apos2) [e] [] cpos2) :: []) X.env)).all (fun x => !x.1) && (backToKw cpos (keywordEach [] X.env)).all (fun x => x.1.isSome)
      && decide (((Expr.Call (.Attribute y "pop" apos2) [e] [] cpos2) :: []).length + ([] : List Keyword).length + (if ([] : List Keyword).isEmpty then 0 else 1) < 30)) = true := by rfl)
    (hfew2 : ((backTo cpos2 (starEach (e :: []) X.env)).all (fun x => !x.1) && (backToKw cpos2 (keywordEach [] X.env)).all (fun x => x.1.isSome)
      && decide ((e :: []).length + ([] : List Keyword).length + (if ([] : List Keyword).isEmpty then 0 else 1) < 30)) = true := by rfl)
    (hline : (apos.endLine == cpos.line) = true := by rfl) (hline2 : (apos2.endLine == cpos2.line) = true := by rfl)
    (hst : starEach ((.Call (.Attribute y "pop" apos2) [e] [] cpos2) :: []) X.env = (false, eval (.Call (.Attribute y "pop" apos2) [e] [] cpos2) X.env) :: starEach [] X.env := by rfl) (hst2 : starEach (e :: []) X.env = (false, eval e X.env) :: starEach [] X.env := by rfl)
    (hplain : (backTo cpos (starEach [] X.env)).any (·.1) = false := by rfl) (hplain2 : (backTo cpos2 (starEach [] X.env)).any (·.1) = false := by rfl)
    (hs : swapsWith (.Call (.Attribute a "append" apos) [.Call (.Attribute y "pop" apos2) [e] [] cpos2] [] cpos) none pos.line X.env = pure false := by rfl) :
    PS X (.Expr (.Call (.Attribute a "append" apos) [.Call (.Attribute y "pop" apos2) [e] [] cpos2] [] cpos) pos) (tsD c (sAppPop i j f)) := by
  refine PS.weak (ps_expr (pe_bm PySem.F.plainAttrs_list PySem.F.slot_list_append PySem.F.type_list_append mt_append hv (pa_cons (pe_bm PySem.F.plainAttrs_list PySem.F.slot_list_pop PySem.F.type_list_pop mt_popAt hw (pa_cons he pa_nil hst2) hbase2 hfew2 hline2 hst2 hplain2) pa_nil hst) hbase hfew hline hst hplain) hs) fun D s H ⟨r, F, R, h⟩ => ?_
  unfold sAppPop at h
  split at h
  · rename_i xs ys eo ep
    obtain ⟨p, vs, q1, q2, q3, q4, q5⟩ := R.mine eo
    obtain ⟨p', ws, w1, w2, w3, w4, w5⟩ := R.mine ep
    split at h
    · exact h.elim
    rename_i hij
    have npp : p ≠ p' := by
      rintro rfl
      exact hij (R.apart i j xs ys p eo ep q1 w1)
    refine ⟨_, q1, .inl ⟨rfl, vs, SqL.of q2⟩, _, w1, .inl ⟨rfl, ws, SqL.of w2⟩, r, F, R, (ans_of h).imp fun z H1 F1 R1 m1 k1 v hv => ?_⟩
    split at k1
    · rename_i n
      split at k1
      · rename_i m em
        split at k1
        · rename_i d ed
          split at k1
          · rename_i hz
            obtain ⟨en, _, _, _⟩ := ixN_seq em
            have b := inR_of hz.2
            have l1 := dpAll_len w5
            obtain ⟨u, eu, hu⟩ := dpAll_at (dpAll_same m1.f w5) ed
            refine ⟨p', ws, n, m, u, rfl, by rw [hv.int], m1.h _ _ w2, by omega, by omega, by rw [l1]; exact en, eu, ?_⟩
            have R2 := R1.write ep w1 (m1.un _ _ w2 w3) w4 (dpAll_erase m (dpAll_same m1.f w5))
            have q2' : (upd H1 p' (.lst (ws.eraseIdx m))) p = some (.lst vs) := by rw [upd_ne npp]; exact m1.h _ _ q2
            have eo' : (r.set j (some (B.own (ys.eraseIdx m))))[i]? = some (some (.own xs)) := by rw [List.getElem?_set_ne (Ne.symm hij)]; exact eo
            refine ⟨p, vs, u, rfl, rfl, q2', lim_lt (by rw [dpAll_len q5]; exact hz.1), ?_⟩
            exact k1.at (R2.write eo' q1 (m1.un _ _ q2 q3) q4 (dpAll_app (dpAll_same m1.f q5) (dpAll_one hu)))
          · exact k1.elim
        · exact k1.elim
      · exact k1.elim
    · exact k1.elim
  · exact h.elim
/-- for .. in x[y.pop()]: y the def's own list -/
def srcIxPop (f : Ef) (j : Nat) : Rho → Option (Rho × List PyData) := fun r => match f r, r[j]? with
  | some (.ok (.list xs)), some (some (.own ys)) => match ys.getLast? with
    | some (.int n) => (match atI xs n with
      | some (.list zs) => some (r.set j (some (.own ys.dropLast)), zs)
      | _ => none)
    | _ => none
  | _, _ => none
theorem di_ixpop {tg : Expr} {y : Expr} {j : Nat} {apos cpos : Pos} (ha : PE X a (teD c f)) (hw : PE X y (tVar j)) (hK : X.K = c.K := by rfl)
    (hbase : attributeBase y "pop" X.env (eval y X.env) = eval y X.env := by rfl) (hline : (apos.endLine == cpos.line) = true := by rfl) (hs : PlainIx (.Call (.Attribute y "pop" apos) [] [] cpos) := by exact fun _ _ => rfl) :
    PI X tg (.Subscript a (.Call (.Attribute y "pop" apos) [] [] cpos) pos) (tiP c (srcIxPop f j)) := by
  refine PI.weak (pi_list (pe_ix (r := rIxL X.K) ix_list ha (pe_bm0 PySem.F.plainAttrs_list PySem.F.slot_list_pop PySem.F.type_list_pop mt_pop hw hbase hline) hs)) fun s H W ⟨r, F, r', zs, R, es, k⟩ => ?_
  unfold srcIxPop at es
  split at es
  · rename_i xs ys ef eo
    split at es
    · rename_i n en
      split at es
      · rename_i zs' ez
        cases es
        refine ⟨r, F, R, ?_⟩
        rw [ef]
        intro H1 F1 R1 m1 v hv
        obtain ⟨p, vs, q1, q2, q3, q4, q5⟩ := R1.mine eo
        have l1 := dpAll_len q5
        rw [List.getLast?_eq_getElem?] at en
        obtain ⟨u, eu, hu⟩ := dpAll_at q5 en
        cases hu
        refine ⟨_, q1, .inl ⟨rfl, vs, SqL.of q2⟩, p, vs, .int n, rfl, rfl, q2, by rw [l1]; exact eu, ?_⟩
        have R2 := R1.write eo q1 q3 q4 (dpAll_dropLast q5)
        cases hv with
        | lst h1 h2 =>
          rename_i b bs
          obtain ⟨w, ew, hw⟩ := dp_atI h2 ez
          have h1' : SqL X.K (upd H1 p (.lst vs.dropLast)) b bs := by rw [hK]; exact same_l R2.fr.sub h1
          refine ⟨b, bs, n, w, rfl, rfl, h1', ew, ?_⟩
          cases hw with
          | lst g1 g2 =>
            rw [hK]
            exact ⟨_, rfl, ⟨_, same_l R2.fr.sub g1⟩, k _ _ F1 R2 m1.f (walks_list g1 g2)⟩
      · cases es
    · cases es
  · cases es
end
end DL

set_option Elab.async false
set_option linter.all false
set_option maxRecDepth 100000
/-! The data layer, 9: isinstance against built-in classes. -/
noncomputable section
namespace DL
open PySem PySem.Spec PyProof.Rows L2
section
variable {X : Cx} {c : Cc} {e a b o : Expr} {f g : Ef} {pos : Pos} {af : Af} {es : List Expr}
def tyName : PyData → Option String
  | .bool _ => some "bool"
  | .int _ => some "int"
  | .str _ => some "str"
  | .none => some "NoneType"
  | .list _ => some "list"
  | .tuple _ => some "tuple"
  | .dict _ => none
def oIsi (T : String) : PyData → M PyData := fun d => match tyName d with
  | some n => (match kitB n T with
    | some k => ok (.bool k)
    | none => none)
  | none => none
theorem ty_of {K : PySem.W.Frag} {H F : Hp} {v : V} {d : PyData} {n : String} (h : Bp K H F v d) (sm : Same F H) (e : tyName d = some n) : TyX K H v (.type n) := by
  cases d with
  | none => cases e; rw [h.none]; exact .base .non
  | bool b => cases e; rw [h.bool]; exact .base (.bl _)
  | int i => cases e; rw [h.int]; exact .base (.int _)
  | str x => cases e; rw [h.str]; exact .base (.str _)
  | list xs =>
    cases e
    obtain ⟨p, vs, rfl, hs, _⟩ := h.list sm
    rcases hs with (hs | ⟨o, hs⟩) | ⟨o, its, k, h1, h2, _⟩
    · exact .base (.lst hs)
    · exact .base (.frz hs)
    · exact .kList h1 h2
  | tuple xs =>
    cases e
    obtain ⟨p, vs, rfl, hs, _⟩ := h.tup sm
    rcases hs with (hs | ⟨o, hs⟩) | ⟨o, its, k, h1, h2, _⟩
    · exact .base (.tup hs)
    · exact .fTuple hs
    · exact .kTuple h1 h2
  | dict _ => cases e
theorem de_isi {T : String} {x : Str} {p p2 : Pos} (hg : Gl X "isinstance") (hm : X.mg "isinstance" = none) (hgT : Gl X x) (hmT : X.mg x = none) (hvT : bootBuiltins x = some (.type T)) (ha : PE X a (teB c f)) (hK : X.K = c.K := by rfl) (hn : x ≠ "__name__" := by decide) (hdb : (x == ("__debug__" : Str)) = false := by decide)
    (na : starEach (a :: .Name x p2 :: []) X.env = (false, eval a X.env) :: starEach (.Name x p2 :: []) X.env := by rfl) (nb : starEach (.Name x p2 :: []) X.env = (false, eval (.Name x p2) X.env) :: starEach [] X.env := by rfl) (hpl : (backTo pos (starEach (.Name x p2 :: []) X.env)).any (·.1) = false := by rfl) :
    PE X (.Call (.Name "isinstance" p) [a, .Name x p2] [] pos) (teD c (e1 (oIsi T) f)) := by
  refine PE.weak (pe_callB call_isi hg hm (by decide +kernel) (pa_cons ha (pa_cons (pe_bltn (v := .ty T) hgT hmT hvT rfl hn hdb) pa_nil nb) na) (by decide) (by decide) na hpl) fun s H Q ⟨r, F, R, k⟩ => ⟨r, F, R, k.bnd.imp fun d H1 F1 R1 m1 k1 v hv => ?_⟩
  unfold oIsi at k1
  split at k1
  · rename_i n en
    split at k1
    · rename_i b eb
      refine ⟨v, .ty T, .type n, .type T, b, rfl, .ty T, ?_, kit_ty eb, k1.now R1 _ (.bl _)⟩
      rw [hK]; exact ty_of hv R1.fr.sub en
    · exact k1.elim
  · exact k1.elim

/-! ### a list or a tuple, walked -/
def tSeqI (K : PySem.W.Frag) (tl : TE) : TI := fun σ H W => tl σ H fun x H1 => ∃ a, x = .ref a ∧ (((∃ xs, SqL K H1 a xs) ∧ W (Itl K a) H1) ∨ ((∃ xs, SqT K H1 a xs) ∧ W (Itt K a) H1))
theorem pi_seqI {tg : Expr} {tl : TE} (hl : PE X a tl) : PI X tg a (tSeqI X.K tl) := by
  refine ⟨fun pins s σ H W I h => thn (hl.run pins s σ H _ I h) fun v s1 ⟨x, H1, I1, r1, p, ex, q1⟩ => ?_⟩
  subst ex
  cases r1
  have fresh : ∀ b, b ∈ [s1.heap.objs.size] → FpOk X pins H1 b := fun b hb => by
    have e : b = s1.heap.objs.size := by simpa using hb
    subst e
    exact I1.fpOk (Nat.le_refl _) (I1.hok.fresh (Nat.le_refl _))
  rcases q1 with ⟨⟨xs, hq⟩, q⟩ | ⟨⟨xs, hq⟩, q⟩
  · obtain ⟨its, rv, pl, hz⟩ := I1.list hq
    exact wpAny_pyIter_list pl.isList ⟨s1.heap.objs.size, [s1.heap.objs.size], _, _, H1, rfl, I1.kept (t' := s1.toks) fun b o e => Heap.get?_push_of_some _ e, turn_list p _, ⟨_, Heap.get?_push_size _ rfl, rfl, rfl⟩, fresh, q⟩
  · obtain ⟨its, rv, pl, hz⟩ := I1.tuple hq
    exact wpAny_pyIter_tuple (show s1.heap.IsTuple p its.toArray from pl) ⟨s1.heap.objs.size, [s1.heap.objs.size], _, _, H1, rfl, I1.kept (t' := s1.toks) fun b o e => Heap.get?_push_of_some _ e, turn_tuple p _, ⟨_, Heap.get?_push_size _ rfl, rfl, rfl⟩, fresh, q⟩
def iSeq (f : Ef) : Af := fun r => bnd (f r) fun x => match x with
  | .list xs => ok xs
  | .tuple xs => ok xs
  | _ => none
theorem di_seq {tg : Expr} (h : PE X a (teD c f)) (hK : X.K = c.K := by rfl) : PI X tg a (tiD c (iSeq f)) := by
  refine PI.weak (pi_seqI h) fun s H W ⟨r, F, R, k⟩ => ⟨r, F, R, k.bnd.imp fun x H1 F1 R1 m1 k1 v hv => ?_⟩
  rw [hK]
  split at k1
  · cases hv with
    | lst h1 h2 => exact ⟨_, rfl, .inl ⟨⟨_, same_l R1.fr.sub h1⟩, k1.now R1 _ (walks_list h1 h2)⟩⟩
  · cases hv with
    | tup h1 h2 => exact ⟨_, rfl, .inr ⟨⟨_, same_t R1.fr.sub h1.t⟩, k1.now R1 _ (walks_tup h1.t h2)⟩⟩
  · exact k1.elim

/-! ### products -/
def rRepA (K : PySem.W.Frag) : R2 := fun x y H Q => ∃ l k xs, x = .ref l ∧ y = .int k ∧ SqL K H l xs ∧ -(2 ^ 63) ≤ k ∧ k < 2 ^ 63 ∧ xs.length * k.toNat ≤ sizeLine ∧ ∀ p, H p = none → Q (.ref p) (upd H p (.lst (List.replicate k.toNat xs).flatten))
def oMulI : PyData → PyData → M PyData
  | .int i, .int j => if inW i = true ∨ inW j = true then ok (.int (i * j)) else none
  | _, _ => none
theorem os_mulI : OpS c (rI CMul fun i j => .int (i * j)) oMulI := by
  intro r s H F x y a b Q R hx hy h
  unfold oMulI at h
  split at h
  · split at h
    · rename_i z
      exact ⟨_, _, hx.int, hy.int, z.imp (fun w => inW_of.mp w) (fun w => inW_of.mp w), h.now R _ (.int _)⟩
    · exact h.elim
  · exact h.elim
theorem hu65 {k : Nat} {A : Around} (hr : Room k A) : A.units + 65 < cLine := by have := hr.un; omega
theorem hu64 {k : Nat} {A : Around} (hr : Room k A) : A.units + 64 < cLine := by have := hr.un; omega
theorem hu0 {k : Nat} {A : Around} (hr : Room k A) : A.units < cLine := by have := hr.un; omega
end
end DL

set_option Elab.async false
set_option linter.all false
/-! The defs as pure functions (printed by gen.py). -/
noncomputable section
namespace WK
open PySem DL L2
def b__law_cell : Sf := (sSeq (sIf (tTruF (eO 0)) (sRet (e2 oIx (eO 0) (e2 oMod (eO 1) (eCall oLen (aCons (eO 0) aNil))))) sSkip)
  (sRet (eC (.int 0))))
def m__law_cell : List PyData → M PyData := runD 2 2 b__law_cell
def b__law_mix : Sf := (sSeq (sSet 2 (e2 oMod (e2 oAdd (eFn m__law_cell (aCons (eV 0) (aCons (eV 1) aNil))) (e2 oMulI (eC (.int 104729)) (e2 oAdd (eO 1) (eC (.int 1))))) (eC (.int 4294967291))))
  (sSeq (sSet 2 (e2 oMod (e2 oMulI (eO 2) (eC (.int 48271))) (eC (.int 4294967279))))
  (sRet (e2 oMod (e2 oAdd (e2 oMulI (e2 oDiv (eO 2) (eC (.int 64))) (eC (.int 69621))) (eO 2)) (eC (.int 4294967231))))))
def m__law_mix : List PyData → M PyData := runD 3 2 b__law_mix
def b__law_sources : Sf := (sSeq (sSetO 4 (nRng (eV 3)))
  (sSeq (sSetO 5 (nNew aNil))
  (sSeq (sWhile (tValF (e2 oLtA (eCall oLen (aCons (eO 5) aNil)) (eO 2))) (sAppPop 5 4 (e2 oMod (eFn m__law_mix (aCons (eV 0) (aCons (e2 oAdd (eO 1) (eCall oLen (aCons (eO 5) aNil))) aNil))) (eCall oLen (aCons (eO 4) aNil)))))
  (sRet (eCall oTuple (aCons (eO 5) aNil))))))
def m__law_sources : List PyData → M PyData := runD 6 4 b__law_sources
def b__law_machine : Sf := (sSeq (sSetO 3 (nNew (aCons (eC (.int 0)) aNil)))
  (sSeq (sFor (iR1 (e2 oMod (eFn m__law_mix (aCons (eV 0) (aCons (eV 1) aNil))) (eO 2))) (gN 4) (sApp 3 (e2 oIx (eLst (aCons (eC (.int 0)) (aCons (eC (.int 1)) (aCons (eC (.int 1)) (aCons (eC (.int 2)) aNil))))) (e2 oMod (eFn m__law_mix (aCons (eV 0) (aCons (e2 oAdd (e2 oAdd (eO 1) (eC (.int 1))) (eO 4)) aNil))) (eC (.int 4))))))
  (sSeq (sSetO 5 (nNew aNil))
  (sSeq (sFor (iR1 (eCall oLen (aCons (eO 3) aNil))) (gN 6) (sSeq (sSetO 7 (nNew aNil))
  (sSeq (sFor (iR1 (e2 oAdd (e2 oIx (eO 3) (eO 6)) (eC (.int 1)))) (gN 8) (sSeq (sSet 9 (e2 oAdd (e2 oIx (eO 3) (eO 6)) (eCall oInt (aCons (e2 oEq (eO 8) (e2 oIx (eO 3) (eO 6))) aNil))))
  (sSeq (sSet 10 (eNew (nLc (iR1 (eCall oLen (aCons (eO 3) aNil))) (gN 11) (tValF (e2 oLe (e2 oIx (eO 3) (eO 11)) (eO 9))) (eV 11) [11])))
  (sSeq (sSet 11 (e2 oIx (eO 10) (e2 oMod (eFn m__law_mix (aCons (eV 0) (aCons (e2 oAdd (e2 oAdd (e2 oAdd (eO 1) (eC (.int 8))) (e2 oMulI (eC (.int 5)) (eO 6))) (eO 8)) aNil))) (eCall oLen (aCons (eO 10) aNil)))))
  (sApp 7 (eTup (aCons (eV 11) (aCons (eFn m__law_sources (aCons (eV 0) (aCons (e2 oAdd (e2 oAdd (e2 oAdd (eO 1) (eC (.int 40))) (e2 oMulI (eC (.int 9)) (eO 6))) (e2 oMulI (eC (.int 3)) (eO 8))) (aCons (e2 oIx (eO 3) (eO 11)) (aCons (eV 9) aNil))))) aNil))))))))
  (sFrz 7 (sApp 5 (eTup (aCons (e2 oEq (e2 oMod (e2 oDiv (eFn m__law_mix (aCons (eV 0) (aCons (e2 oAdd (e2 oAdd (eO 1) (eC (.int 30))) (eO 6)) aNil))) (eC (.int 4))) (eC (.int 2))) (eC (.int 0))) (aCons (e2 oIx (eO 3) (eO 6)) (aCons (eV 7) aNil)))))))))
  (sFrz 5 (sRet (eV 5)))))))
def m__law_machine : List PyData → M PyData := runD 12 3 b__law_machine
def b_look_state : Sf := (sSeq (sAsg (eV 1) (gT 3 (gsCons (gN 2) (gsCons (gN 3) (gsCons (gN 4) gsNil)))))
  (sSeq (sIf (tOrF (tValF (e2 (oIn true) (eO 2) (eTup (aCons (eC (.bool true)) (aCons (eC (.bool false)) aNil))))) (tOrF (tNotF (tValF (e3 oLe oLe (eC (.int 0)) (eO 3) (eC (.int 6))))) (tValF (e2 oNe (eCall oLen (aCons (eO 4) aNil)) (e2 oAdd (eO 3) (eC (.int 1))))))) (sRaise .mach) sSkip)
  (sFor (iR1 (e2 oAdd (eO 3) (eC (.int 1)))) (gN 5) (sSeq (sAsg (e2 oIx (eO 4) (eO 5)) (gT 2 (gsCons (gN 6) (gsCons (gN 7) gsNil))))
  (sSeq (sIf (tOrF (tNotF (tValF (e3 oLe oLtA (eC (.int 0)) (eO 6) (eCall oLen (aCons (eO 0) aNil))))) (tValF (e2 oNe (eCall oLen (aCons (eO 7) aNil)) (e2 oIx (e2 oIx (eO 0) (eO 6)) (eC (.int 1)))))) (sRaise .mach) sSkip)
  (sSeq (sSet 8 (eIf (tValF (e2 oLtA (eO 5) (eO 3))) (eV 3) (e2 oAdd (eO 3) (eC (.int 1)))))
  (sIf (tOrF (tNotF (tTruF (eCall oAll (aCons (eNew (nLc (iSeq (eV 7)) (gN 9) tYesF (e3 oLe oLtA (eC (.int 0)) (eO 9) (eO 8)) [9])) aNil)))) (tValF (e2 oNe (e1 oLenSet (eO 7)) (eCall oLen (aCons (eO 7) aNil))))) (sRaise .mach) sSkip)))))))
def m_look_state : List PyData → M PyData := runD 10 2 b_look_state
def b_look_machine : Sf := (sSeq (sIf (tOrF (tNotF (tValF (e3 oLe oLe (eC (.int 1)) (eCall oLen (aCons (eO 0) aNil)) (eC (.int 400))))) (tValF (e2 oNe (e2 oIx (e2 oIx (eO 0) (eC (.int 0))) (eC (.int 1))) (eC (.int 0))))) (sRaise .mach) sSkip)
  (sFor (iSeq (eV 0)) (gN 1) (sDrop (eFn m_look_state (aCons (eV 0) (aCons (eV 1) aNil))))))
def m_look_machine : List PyData → M PyData := runD 2 1 b_look_machine
def b_goals_of : Sf := (sRet (eNew (nLc (iSeq (eV 0)) (gN 2) tYesF (eNew (nLc (iSeq (e2 oIx (eO 2) (eC (.int 2)))) (gN 1) tYesF (e2 oIx (eO 1) (eC (.int 0))) [1])) [2])))
def m_goals_of : List PyData → M PyData := runD 3 1 b_goals_of
def b_distances : Sf := (sSeq (sSet 1 (eFn m_goals_of (aCons (eV 0) aNil)))
  (sSeq (sSetO 2 (nLc (iSeq (eV 0)) (gN 3) tYesF (eIf (tTruF (e2 oIx (eO 3) (eC (.int 0)))) (eC (.int 0)) (eC .none)) [3]))
  (sSeq (sSet 4 (eC (.int 0)))
  (sSeq (sSet 5 (eC .none))
  (sSeq (sWhile (tValF (e2 oNe (eO 5) (eO 2))) (sSeq (sSet 5 (eCall oList (aCons (eO 2) aNil)))
  (sSeq (sSet 4 (e2 oAdd (eO 4) (eC (.int 1))))
  (sFor (iR1 (eCall oLen (aCons (eO 0) aNil))) (gN 6) (sIf (tAndF (tValF (e2 oIsN (e2 oIx (eO 2) (eO 6)) (eC .none))) (tTruF (eCall oAny (aCons (eNew (nLc (iSeq (e2 oIx (eO 1) (eO 6))) (gN 7) tYesF (e2 oEq (e2 oIx (eO 5) (eO 7)) (e2 oSub (eO 4) (eC (.int 1)))) [7])) aNil)))) (sPut 2 (eO 6) (eV 4)) sSkip)))))
  (sFrz 2 (sRet (eV 2))))))))
def m_distances : List PyData → M PyData := runD 8 1 b_distances
def b_stepped : Sf := (sSeq (sAsg (eV 1) (gT 2 (gsCons (gN 3) (gsCons (gN 4) gsNil))))
  (sSeq (sAsg (e2 oIx (eO 0) (eO 3)) (gT 3 (gsCons (gN 5) (gsCons (gN 6) (gsCons (gN 7) gsNil)))))
  (sSeq (sSet 8 (eIf (tValF (e2 (oIn false) (eO 2) (eO 4))) (eTIndex (eO 4) (eO 2)) (eV 6)))
  (sSeq (sAsg (e2 oIx (eO 7) (eO 8)) (gT 2 (gsCons (gN 9) (gsCons (gN 10) gsNil))))
  (sSeq (sSet 11 (e2 oAdd (eO 4) (eTup (aCons (eV 2) aNil))))
  (sRet (eTup (aCons (eV 9) (aCons (eCall oTuple (aCons (eNew (nLc (iSeq (eV 10)) (gN 12) tYesF (e2 oIx (eO 11) (eO 12)) [12])) aNil)) aNil)))))))))
def m_stepped : List PyData → M PyData := runD 13 3 b_stepped
def b_least_word : Sf := (sSeq (sDrop (eFn m_look_machine (aCons (eV 0) aNil)))
  (sSeq (sSet 1 (eFn m_distances (aCons (eV 0) aNil)))
  (sSeq (sIf (tValF (e2 oIsN (e2 oIx (eO 1) (eC (.int 0))) (eC .none))) (sRet (eC .none)) sSkip)
  (sSeq (sSet 2 (eTup (aCons (eC (.int 0)) (aCons (eTup aNil) aNil))))
  (sSeq (sSetO 3 (nNew aNil))
  (sSeq (sWhile (tValF (e2 oGt (e2 oIx (eO 1) (e2 oIx (eO 2) (eC (.int 0)))) (eC (.int 0)))) (sSeq (sSet 4 (e2 oIx (eNew (nLc (iR1 (e2 oAdd (eCall oLen (aCons (e2 oIx (eO 2) (eC (.int 1))) aNil)) (eC (.int 1)))) (gN 5) (tValF (e2 (oIn true) (eO 5) (e2 oIx (eO 2) (eC (.int 1))))) (eV 5) [5])) (eC (.int 0))))
  (sFor (iSeq (eCall oSortedA (aCons (e2 oAdd (e2 oIx (eO 2) (eC (.int 1))) (eTup (aCons (eV 4) aNil))) aNil))) (gN 5) (sSeq (sSet 6 (eFn m_stepped (aCons (eV 0) (aCons (eV 2) (aCons (eV 5) aNil)))))
  (sIf (tValF (e2 oEq (e2 oIx (eO 1) (e2 oIx (eO 6) (eC (.int 0)))) (e2 oSub (e2 oIx (eO 1) (e2 oIx (eO 2) (eC (.int 0)))) (eC (.int 1))))) (sSeq (sApp 3 (eV 5))
  (sSeq (sSet 2 (eV 6))
  (fun r => some (.bk r)))) sSkip)))))
  (sFrz 3 (sRet (eV 3)))))))))
def m_least_word : List PyData → M PyData := runD 7 1 b_least_word
def b__law_chain : Sf := (sSeq (sSet 1 (e2 oIx (eLst (aCons (eTup (aCons (eC (.int 1)) aNil)) (aCons (eTup (aCons (eC (.int 1)) (aCons (eC (.int 0)) aNil))) (aCons (eTup (aCons (eC (.int 0)) (aCons (eC (.int 1)) aNil))) (aCons (eTup (aCons (eC (.int 0)) aNil)) aNil))))) (e2 oMod (eFn m__law_mix (aCons (eV 0) (aCons (eC (.int 101)) aNil))) (eC (.int 4)))))
  (sSeq (sSet 2 (eCall oLen (aCons (eO 1) aNil)))
  (sSeq (sSet 3 (e2 oAdd (eC (.int 1)) (e2 oMod (eFn m__law_mix (aCons (eV 0) (aCons (eC (.int 102)) aNil))) (e2 oAdd (eC (.int 3)) (e2 oMulI (eC (.int 4)) (e2 oSub (eO 2) (eC (.int 1))))))))
  (sSeq (sSet 4 (eNew (nLc (iR1 (e2 oAdd (eO 2) (eC (.int 1)))) (gN 5) tYesF (eTup (aCons (e2 oIx (eLst (aCons (eC (.int 4)) (aCons (eC (.int 3)) aNil))) (e2 oMod (e2 oDiv (eO 3) (e2 oIx (eLst (aCons (eC (.int 1)) (aCons (eC (.int 2)) (aCons (eC (.int 4)) aNil)))) (eO 5))) (eC (.int 2)))) (aCons (eTup aNil) aNil))) [5])))
  (sSeq (sSet 6 (eTup (aCons (eC (.bool false)) (aCons (eC (.int 0)) (aCons (eLst (aCons (eTup (aCons (eC (.int 4)) (aCons (eTup aNil) aNil))) aNil)) aNil)))))
  (sSeq (sSet 7 (eLst (aCons (eTup (aCons (eC (.bool false)) (aCons (eC (.int 0)) (aCons (eLst (aCons (eTup (aCons (eC (.int 1)) (aCons (eTup (aCons (eC (.int 0)) aNil)) aNil))) aNil)) aNil)))) (aCons (eTup (aCons (eC (.bool false)) (aCons (eC (.int 1)) (aCons (eLst (aCons (eTup (aCons (eC (.int 4)) (aCons (eTup aNil) aNil))) (aCons (eTup (aCons (eC (.int 2)) (aCons (eV 1) aNil))) aNil))) aNil)))) aNil))))
  (sRet (e2 oAdd (eO 7) (eLst (aCons (eTup (aCons (eC (.bool false)) (aCons (eV 2) (aCons (eV 4) aNil)))) (aCons (eTup (aCons (eC (.bool true)) (aCons (eC (.int 0)) (aCons (eLst (aCons (eTup (aCons (eC (.int 4)) (aCons (eTup aNil) aNil))) aNil)) aNil)))) (aCons (eV 6) aNil))))))))))))
def m__law_chain : List PyData → M PyData := runD 8 1 b__law_chain
def b__law_come : Sf := (sSeq (sAsg (e2 oIx (eO 0) (eO 1)) (gT 3 (gsCons (gN 4) (gsCons (gN 5) (gsCons (gN 6) gsNil)))))
  (sSeq (sAsg (e2 oIx (eO 6) (eO 5)) (gT 2 (gsCons (gN 7) (gsCons (gN 8) gsNil))))
  (sSeq (sFor (iR1 (eV 5)) (gN 9) (sIf (tValF (e2 oEq (e2 oIx (eO 2) (eO 9)) (eO 3))) (sAsg (e2 oIx (eO 6) (eO 9)) (gT 2 (gsCons (gN 7) (gsCons (gN 8) gsNil)))) sSkip))
  (sRet (eTup (aCons (eV 7) (aCons (eNew (nLc (iSeq (eV 8)) (gN 10) tYesF (eIf (tValF (e2 oEq (eO 10) (eO 5))) (eV 3) (e2 oIx (eO 2) (eO 10))) [10])) aNil)))))))
def m__law_come : List PyData → M PyData := runD 11 4 b__law_come
def b__law_takes : Sf := (sSeq (sSet 2 (eC (.int 0)))
  (sSeq (sSet 3 (eLst aNil))
  (sSeq (sFor (iSeq (eV 1)) (gN 4) (sAsg (eFn m__law_come (aCons (eV 0) (aCons (eV 2) (aCons (eV 3) (aCons (eV 4) aNil))))) (gT 2 (gsCons (gN 2) (gsCons (gN 3) gsNil)))))
  (sRet (e2 oIx (e2 oIx (eO 0) (eO 2)) (eC (.int 0)))))))
def m__law_takes : List PyData → M PyData := runD 5 2 b__law_takes
def b__law_all : Sf := (sSeq (sSet 1 (eLst (aCons (eLst aNil) aNil)))
  (sSeq (sFor (iR1 (eV 0)) (gN 2) (sSeq (sSet 3 (eLst aNil))
  (sSeq (sFor (iSeq (eV 1)) (gN 4) (sSet 3 (e2 oAdd (eO 3) (eNew (nLc (iR1 (eC (.int 4))) (gN 5) tYesF (e2 oAdd (eO 4) (eLst (aCons (eV 5) aNil))) [5])))))
  (sSet 1 (eV 3)))))
  (sRet (eV 1))))
def m__law_all : List PyData → M PyData := runD 6 1 b__law_all
def b__law_whole : Sf := (sRet (eAnd (e1 (oIsi "int") (eO 0)) (eNot (e1 (oIsi "bool") (eO 0)))))
def m__law_whole : List PyData → M PyData := runD 1 1 b__law_whole
def b_law : Sf := (sSeq (sSet 1 (eFn m__law_machine (aCons (eV 0) (aCons (eC (.int 0)) (aCons (eC (.int 4)) aNil)))))
  (sSeq (sIf (tValF (e2 oEq (e2 oMod (eFn m__law_mix (aCons (eV 0) (aCons (eC (.int 100)) aNil))) (eC (.int 4))) (eC (.int 0)))) (sSet 1 (eFn m__law_chain (aCons (eV 0) aNil))) sSkip)
  (sSeq (sSet 2 (eLst (aCons (eC (.int 0)) aNil)))
  (sSeq (sFor (iR1 (eCall oLen (aCons (eO 1) aNil))) (gN 3) (sFor (iR1 (eCall oLen (aCons (eO 1) aNil))) (gN 4) (sIf (tValF (e2 (oIn false) (eO 4) (eO 2))) (sSet 2 (e2 oAdd (eO 2) (eNew (nLc (iSeq (e2 oIx (e2 oIx (eO 1) (eO 4)) (eC (.int 2)))) (gN 5) tYesF (e2 oIx (eO 5) (eC (.int 0))) [5])))) sSkip)))
  (sSeq (sSet 6 (eFn m_least_word (aCons (eV 1) aNil)))
  (sSeq (sIf (tNotF (tTruF (eCall oAny (aCons (eNew (nLc (iSeq (eV 2)) (gN 4) tYesF (e2 oIx (e2 oIx (eO 1) (eO 4)) (eC (.int 0))) [4])) aNil)))) (sRet (e2 oIsN (eO 6) (eC .none))) sSkip)
  (sSeq (sIf (tOrF (tNotF (tTruF (e1 (oIsi "list") (eO 6)))) (tNotF (tTruF (eCall oAll (aCons (eNew (nLc (iSeq (eV 6)) (gN 7) tYesF (eAnd (eFn m__law_whole (aCons (eV 7) aNil)) (e2 oGe (eO 7) (eC (.int 0)))) [7])) aNil))))) (sRet (eC (.bool false))) sSkip)
  (sSeq (sIf (tNotF (tTruF (eFn m__law_takes (aCons (eV 1) (aCons (eV 6) aNil))))) (sRet (eC (.bool false))) sSkip)
  (sSeq (sFor (iR1 (e2 oAdd (eCall oMin2 (aCons (eCall oLen (aCons (eO 6) aNil)) (aCons (eC (.int 3)) aNil))) (eC (.int 1)))) (gN 8) (sFor (iSeq (eFn m__law_all (aCons (eV 8) aNil))) (gN 9) (sIf (tAndF (tTruF (eFn m__law_takes (aCons (eV 1) (aCons (eV 9) aNil)))) (tOrF (tValF (e2 oLtA (eO 8) (eCall oLen (aCons (eO 6) aNil)))) (tValF (e2 oLtA (eO 9) (eO 6))))) (sRet (eC (.bool false))) sSkip)))
  (sRet (eC (.bool true))))))))))))
def m_law : List PyData → M PyData := runD 10 1 b_law
end WK

set_option Elab.async false
set_option linter.all false
/-! Evaluating the pure functions: encodings of data, equality, loops. -/
noncomputable section
namespace WK
open PySem DL L2

/-! ### encodings -/
abbrev cI (i : Int) : PyData := .int i
abbrev cN (n : Nat) : PyData := .int (n : Int)
structure EncOk {a : Type} [DecidableEq a] (f : a → PyData) (k : Nat) : Prop where
  eq : ∀ x y, PyData.eqv (f x) (f y) = decide (x = y)
  lay : ∀ x, (f x).canLay0 = true
  dep : ∀ x, (f x).depth ≤ k
section
variable {a b : Type} [DecidableEq a] [DecidableEq b] {f : a → PyData} {g : b → PyData} {k l : Nat}
theorem EncOk.shaped (h : EncOk f k) (hk : k ≤ 64) (x : a) : SeqAt.shaped (f x) = true := by
  unfold SeqAt.shaped
  rw [h.lay x, Bool.true_and]
  exact decide_eq_true (Nat.le_trans (h.dep x) hk)
theorem EncOk.mono (h : EncOk f k) (hk : k ≤ l) : EncOk f l := ⟨h.eq, h.lay, fun x => Nat.le_trans (h.dep x) hk⟩
theorem beq_dec {c : Type} [BEq c] [LawfulBEq c] [DecidableEq c] (x y : c) : (x == y) = decide (x = y) := by
  by_cases h : x = y
  · subst h; simp
  · rw [decide_eq_false h]; simpa using h
theorem enc_int : EncOk (fun i : Int => PyData.int i) 0 := ⟨fun x y => by rw [PyData.eqv]; exact beq_dec x y, fun x => by rw [PyData.canLay0], fun x => by simp [PyData.depth]⟩
theorem enc_nat : EncOk cN 0 := ⟨fun x y => by
  rw [PyData.eqv, beq_dec]
  by_cases h : x = y
  · subst h; simp
  · rw [decide_eq_false h, decide_eq_false (fun e => h (by omega))], fun x => by rw [PyData.canLay0], fun x => by simp [PyData.depth]⟩
theorem enc_bool : EncOk (fun i : Bool => PyData.bool i) 0 := ⟨fun x y => by rw [PyData.eqv]; exact beq_dec x y, fun x => by rw [PyData.canLay0], fun x => by simp [PyData.depth]⟩
theorem eqvAll_map (h : EncOk f k) : ∀ xs ys : List a, PyData.eqvAll (xs.map f) (ys.map f) = decide (xs = ys)
  | [], [] => by simp [PyData.eqvAll]
  | [], y :: ys => by simp [PyData.eqvAll]
  | x :: xs, [] => by simp [PyData.eqvAll]
  | x :: xs, y :: ys => by
    simp only [List.map_cons, PyData.eqvAll]
    rw [h.eq, eqvAll_map h xs ys]
    by_cases e : x = y
    · by_cases e2 : xs = ys
      · simp [e, e2]
      · simp [e, e2]
    · simp [e]
theorem layAll_map (h : EncOk f k) : ∀ xs : List a, PyData.canLayAll0 (xs.map f) = true
  | [] => by simp [PyData.canLayAll0]
  | x :: xs => by simp [PyData.canLayAll0, h.lay x, layAll_map h xs]
theorem depAll_map (h : EncOk f k) : ∀ xs : List a, PyData.depthAll (xs.map f) ≤ k
  | [] => by simp [PyData.depthAll]
  | x :: xs => by
    have h1 := h.dep x
    have h2 := depAll_map h xs
    simp only [List.map_cons, PyData.depthAll]
    omega
theorem enc_list (h : EncOk f k) : EncOk (fun xs : List a => PyData.list (xs.map f)) (k + 1) := ⟨fun x y => by rw [PyData.eqv]; exact eqvAll_map h x y, fun x => by rw [PyData.canLay0]; exact layAll_map h x, fun x => by
  have := depAll_map h x
  simp only [PyData.depth]; omega⟩
theorem enc_tup (h : EncOk f k) : EncOk (fun xs : List a => PyData.tuple (xs.map f)) (k + 1) := ⟨fun x y => by rw [PyData.eqv]; exact eqvAll_map h x y, fun x => by rw [PyData.canLay0]; exact layAll_map h x, fun x => by
  have := depAll_map h x
  simp only [PyData.depth]; omega⟩
theorem enc_pair (h : EncOk f k) (h' : EncOk g k) : EncOk (fun p : a × b => PyData.tuple [f p.1, g p.2]) (k + 1) := ⟨fun x y => by
  simp only [PyData.eqv, PyData.eqvAll, h.eq, h'.eq, Bool.and_true]
  obtain ⟨x1, x2⟩ := x
  obtain ⟨y1, y2⟩ := y
  by_cases e : x1 = y1
  · by_cases e2 : x2 = y2
    · simp [e, e2]
    · simp [e, e2]
  · simp [e], fun x => by simp [PyData.canLay0, PyData.canLayAll0, h.lay, h'.lay], fun x => by
  have := h.dep x.1
  have := h'.dep x.2
  simp only [PyData.depth, PyData.depthAll]; omega⟩
theorem enc_tri {c : Type} [DecidableEq c] {e : c → PyData} (h : EncOk f k) (h' : EncOk g k) (h'' : EncOk e k) : EncOk (fun p : a × b × c => PyData.tuple [f p.1, g p.2.1, e p.2.2]) (k + 1) := ⟨fun x y => by
  simp only [PyData.eqv, PyData.eqvAll, h.eq, h'.eq, h''.eq, Bool.and_true]
  obtain ⟨x1, x2, x3⟩ := x
  obtain ⟨y1, y2, y3⟩ := y
  by_cases e1 : x1 = y1
  · by_cases e2 : x2 = y2
    · by_cases e3 : x3 = y3
      · simp [e1, e2, e3]
      · simp [e1, e2, e3]
    · simp [e1, e2]
  · simp [e1], fun x => by simp [PyData.canLay0, PyData.canLayAll0, h.lay, h'.lay, h''.lay], fun x => by
  have := h.dep x.1
  have := h'.dep x.2.1
  have := h''.dep x.2.2
  simp only [PyData.depth, PyData.depthAll]; omega⟩
/-- None, or a number -/
def cO (f : a → PyData) : Option a → PyData
  | none => .none
  | some x => f x
theorem enc_opt (h : EncOk f k) (hn : ∀ x, PyData.eqv (f x) .none = false ∧ PyData.eqv .none (f x) = false) : EncOk (cO f) k := ⟨fun x y => by
  cases x with
  | none =>
    cases y with
    | none => simp [cO, PyData.eqv]
    | some y => simp [cO, (hn y).2]
  | some x =>
    cases y with
    | none => simp [cO, (hn x).1]
    | some y => simp [cO, h.eq], fun x => by cases x <;> simp [cO, PyData.canLay0, h.lay], fun x => by
  cases x with
  | none => simp [cO, PyData.depth]
  | some x => exact h.dep x⟩
theorem enc_optN : EncOk (cO cN) 0 := enc_opt enc_nat fun x => ⟨by simp [PyData.eqv], by simp [PyData.eqv]⟩
theorem oEq_enc (h : EncOk f k) (hk : k ≤ 64) (x y : a) : oEq (f x) (f y) = ok (.bool (decide (x = y))) := by
  unfold oEq
  rw [if_pos ⟨h.shaped hk x, h.shaped hk y⟩, h.eq]
theorem oNe_enc (h : EncOk f k) (hk : k ≤ 64) (x y : a) : oNe (f x) (f y) = ok (.bool (!decide (x = y))) := by
  unfold oNe
  rw [if_pos ⟨h.shaped hk x, h.shaped hk y⟩, h.eq]
theorem any_eqv (h : EncOk f k) (x : a) : ∀ xs : List a, ((xs.map f).any fun z => PyData.eqv z (f x)) = decide (x ∈ xs)
  | [] => by simp
  | y :: ys => by
    rw [List.map_cons, List.any_cons, h.eq, any_eqv h x ys]
    by_cases e : y = x
    · subst e; simp
    · have : ¬ x = y := fun q => e q.symm
      simp [e, this]
theorem oIn_list (h : EncOk f k) (hk : k ≤ 63) (neg : Bool) (x : a) (xs : List a) : oIn neg (f x) (.list (xs.map f)) = ok (.bool (neg ^^ decide (x ∈ xs))) := by
  have h1 := (enc_list h).shaped (x := xs) (by omega)
  unfold oIn
  simp only
  rw [if_pos ⟨h.shaped (by omega) x, h1⟩, any_eqv h]
theorem oIn_tup (h : EncOk f k) (hk : k ≤ 63) (neg : Bool) (x : a) (xs : List a) : oIn neg (f x) (.tuple (xs.map f)) = ok (.bool (neg ^^ decide (x ∈ xs))) := by
  have h1 := (enc_tup h).shaped (x := xs) (by omega)
  unfold oIn
  simp only
  rw [if_pos ⟨h.shaped (by omega) x, h1⟩, any_eqv h]
theorem firstAt_enc (h : EncOk f k) (x : a) : ∀ xs : List a, firstAt (f x) (xs.map f) = if x ∈ xs then some (xs.idxOf x) else none
  | [] => rfl
  | y :: ys => by
    rw [List.map_cons, firstAt, h.eq, firstAt_enc h x ys]
    by_cases e : y = x
    · subst e; simp
    · have : ¬ x = y := fun q => e q.symm
      by_cases m : x ∈ ys
      · simp [e, this, m, List.idxOf_cons, beq_dec]
      · simp [e, this, m]
end

/-! ### places -/
theorem atI_map {a b : Type} (f : a → b) (xs : List a) (i : Int) : atI (xs.map f) i = (atI xs i).map f := by
  unfold atI
  rw [List.length_map]
  cases ixN xs.length i with
  | none => rfl
  | some j => simp
theorem atI_nat' {a : Type} (xs : List a) (j : Nat) : atI xs (j : Int) = xs[j]? := by
  unfold atI ixN
  by_cases h : j < xs.length
  · rw [if_pos (by omega), if_pos (by omega)]; simp
  · rw [if_pos (by omega), if_neg (by omega), List.getElem?_eq_none (by omega)]; rfl
theorem oIx_list {a : Type} (f : a → PyData) (xs : List a) (j : Nat) (x : a) (h : xs[j]? = some x) : oIx (.list (xs.map f)) (cN j) = ok (f x) := by
  unfold oIx
  simp only
  rw [atI_map, atI_nat', h]; rfl
theorem oIx_tup {a : Type} (f : a → PyData) (xs : List a) (j : Nat) (x : a) (h : xs[j]? = some x) : oIx (.tuple (xs.map f)) (cN j) = ok (f x) := by
  unfold oIx
  simp only
  rw [atI_map, atI_nat', h]; rfl

/-! ### loops -/
theorem for_rule {G : Gf} {body : Sf} {xs : List PyData} {r : Rho} (P : Nat → Rho → Prop) (Res : Option SR → Prop) (h0 : P 0 r)
    (turn : ∀ i x r, xs[i]? = some x → P i r → ∃ r1, G x r = some r1 ∧ match body r1 with
      | some (.nx r2) => P (i + 1) r2
      | some (.ct r2) => P (i + 1) r2
      | some (.bk r2) => Res (some (.nx r2))
      | some (.rt d) => Res (some (.rt d))
      | some (.er e r2) => Res (some (.er e r2))
      | none => False)
    (hd : ∀ r, P xs.length r → Res (some (.nx r))) : Res (forL G body xs r) := by
  suffices ∀ (k i : Nat) (r : Rho), i + k = xs.length → P i r → Res (forL G body (xs.drop i) r) by
    have := this xs.length 0 r (by omega) h0
    rwa [List.drop_zero] at this
  intro k
  induction k with
  | zero =>
    intro i r hi hp
    have : i = xs.length := by omega
    subst this
    rw [List.drop_length, forL]
    exact hd r hp
  | succ k ih =>
    intro i r hi hp
    have hl : i < xs.length := by omega
    obtain ⟨r1, e1, h⟩ := turn i xs[i] r (List.getElem?_eq_getElem hl) hp
    rw [List.drop_eq_getElem_cons hl, forL, e1]
    simp only
    revert h
    cases body r1 with
    | none => exact False.elim
    | some z =>
      cases z with
      | nx r2 => exact fun h => ih (i + 1) r2 (by omega) h
      | ct r2 => exact fun h => ih (i + 1) r2 (by omega) h
      | bk r2 => exact id
      | rt d => exact id
      | er e r2 => exact id
/-- a loop that is not left -/
theorem for_nx {G : Gf} {body : Sf} {xs : List PyData} {r : Rho} (P : Nat → Rho → Prop) (h0 : P 0 r)
    (turn : ∀ i x r, xs[i]? = some x → P i r → ∃ r1 r2, G x r = some r1 ∧ body r1 = some (.nx r2) ∧ P (i + 1) r2) : ∃ r', forL G body xs r = some (.nx r') ∧ P xs.length r' := by
  refine for_rule (xs := xs) P (fun m => ∃ r', m = some (.nx r') ∧ P xs.length r') h0 (fun i x r hx hp => ?_) fun r hp => ⟨r, rfl, hp⟩
  obtain ⟨r1, r2, e1, e2, h⟩ := turn i x r hx hp
  exact ⟨r1, e1, by rw [e2]; exact h⟩
theorem while_rule {t : Tf} {body : Sf} {r : Rho} (P : Rho → Prop) (mu : Rho → Nat) (Res : Option SR → Prop) (h0 : P r) (hm : mu r < fuel)
    (turn : ∀ r, P r → ∃ k, t r = ok k ∧ if k = true then (match body r with
      | some (.nx r2) => P r2 ∧ mu r2 < mu r
      | some (.ct r2) => P r2 ∧ mu r2 < mu r
      | some (.bk r2) => Res (some (.nx r2))
      | some (.rt d) => Res (some (.rt d))
      | some (.er e r2) => Res (some (.er e r2))
      | none => False) else Res (some (.nx r))) : Res (sWhile t body r) := by
  unfold sWhile
  suffices ∀ (n : Nat) (r : Rho), mu r < n → P r → Res (whileN t body n r) from this fuel r hm h0
  intro n
  induction n with
  | zero => intro r h; omega
  | succ n ih =>
    intro r h hp
    obtain ⟨k, e, q⟩ := turn r hp
    rw [whileN, e, ofE_ok]
    cases k with
    | false => simpa using q
    | true =>
      rw [if_pos rfl] at q ⊢
      revert q
      cases body r with
      | none => exact False.elim
      | some z =>
        cases z with
        | nx r2 => exact fun q => ih r2 (by omega) q.1
        | ct r2 => exact fun q => ih r2 (by omega) q.1
        | bk r2 => exact id
        | rt d => exact id
        | er e r2 => exact id
/-- a comprehension over encoded data -/
theorem lc_map {a : Type} {enc : a → PyData} {G : Gf} {t : Tf} {f : Ef} {r : Rho} (p : a → Bool) (h : a → PyData) : ∀ (xs : List a) (acc : List PyData), acc.length + xs.length ≤ lim →
    (∀ x ∈ xs, ∃ r1, G (enc x) r = some r1 ∧ t r1 = ok (p x) ∧ (p x = true → f r1 = ok (h x))) → lcL G t f r (xs.map enc) acc = ok (acc ++ (xs.filter p).map h)
  | [], acc, _, _ => by simp [lcL]
  | x :: xs, acc, hl, hx => by
    obtain ⟨r1, e1, e2, e3⟩ := hx x List.mem_cons_self
    rw [List.length_cons] at hl
    have ih := fun acc' hl' => lc_map p h xs acc' hl' fun y hy => hx y (List.mem_cons_of_mem _ hy)
    rw [List.map_cons, lcL, e1]
    simp only
    rw [e2]
    cases q : p x with
    | false =>
      show lcL G t f r (xs.map enc) acc = _
      rw [ih acc (by omega), List.filter_cons, q]; rfl
    | true =>
      show (match f r1 with
        | some (.ok d) => if acc.length < lim then lcL G t f r (xs.map enc) (acc ++ [d]) else none
        | _ => none) = _
      rw [e3 q]
      show (if acc.length < lim then lcL G t f r (xs.map enc) (acc ++ [h x]) else none) = _
      rw [if_pos (by omega), ih _ (by rw [List.length_append, List.length_singleton]; omega), List.filter_cons, q]
      simp
theorem lc_all {a : Type} {enc : a → PyData} {G : Gf} {f : Ef} {r : Rho} (h : a → PyData) (xs : List a) (hl : xs.length ≤ lim)
    (hx : ∀ x ∈ xs, ∃ r1, G (enc x) r = some r1 ∧ f r1 = ok (h x)) : lcL G tYesF f r (xs.map enc) [] = ok (xs.map h) := by
  have := lc_map (enc := enc) (G := G) (t := tYesF) (f := f) (r := r) (fun _ => true) h xs [] (by simpa using hl) (fun x hm => by
    obtain ⟨r1, e1, e2⟩ := hx x hm
    exact ⟨r1, e1, rfl, fun _ => e2⟩)
  rw [List.nil_append, List.filter_eq_self.mpr (fun _ _ => rfl)] at this
  exact this
theorem rng_map (n : Nat) : rng 0 n = (List.range n).map cN := by
  unfold rng
  refine List.map_congr_left fun i _ => ?_
  simp
end WK

set_option Elab.async false
set_option linter.all false
/-! Rows for evaluating, one a shape. -/
noncomputable section
namespace WK
open PySem DL L2

/-- a def's end -/
def fin : Option SR → M PyData
  | some (.nx _) => ok .none
  | some (.rt d) => ok d
  | some (.er e _) => some (.error e)
  | _ => none
@[simp] theorem fin_nx {r : Rho} : fin (some (.nx r)) = ok .none := rfl
@[simp] theorem fin_rt {d : PyData} : fin (some (.rt d)) = ok d := rfl
@[simp] theorem fin_er {e : XN} {r : Rho} : fin (some (.er e r)) = some (.error e) := rfl

theorem v0 {x : PyData} {r : Rho} : eV 0 (some (.d x) :: r) = ok x := rfl
theorem vS {i : Nat} {b : Option B} {r : Rho} : eV (i + 1) (b :: r) = eV i r := rfl
theorem o0 {x : PyData} {r : Rho} : eO 0 (some (.d x) :: r) = ok x := rfl
theorem o0' {xs : List PyData} {r : Rho} : eO 0 (some (.own xs) :: r) = ok (.list xs) := rfl
theorem oS {i : Nat} {b : Option B} {r : Rho} : eO (i + 1) (b :: r) = eO i r := rfl
theorem g0 {d : PyData} {b : Option B} {r : Rho} : gN 0 d (b :: r) = some (some (.d d) :: r) := rfl
theorem gS {i : Nat} {d : PyData} {b : Option B} {r : Rho} : gN (i + 1) d (b :: r) = (gN i d r).map (b :: ·) := by
  unfold gN
  by_cases h : i < r.length
  · rw [if_pos h, if_pos (by rw [List.length_cons]; omega)]; rfl
  · rw [if_neg h, if_neg (by rw [List.length_cons]; omega)]; rfl
def asB : PyData → M Bool
  | .bool k => ok k
  | _ => none
theorem val_ev {f : Ef} {r : Rho} : tValF f r = bnd (f r) asB := rfl
theorem asB_b {k : Bool} : asB (.bool k) = ok k := rfl
theorem add_i {i j : Int} : oAdd (.int i) (.int j) = ok (.int (i + j)) := rfl
theorem add_n {i j : Nat} : oAdd (cN i) (cN j) = ok (cN (i + j)) := by
  show ok (PyData.int _) = ok (PyData.int _)
  rw [Int.natCast_add]
theorem sub_i {i j : Int} : oSub (.int i) (.int j) = ok (.int (i - j)) := rfl
theorem div_i {i j : Int} (h : 0 < j) (h2 : j < 1073741824) : oDiv (.int i) (.int j) = ok (.int (i / j)) := if_pos ⟨h, h2⟩
theorem mod_i {i j : Int} (h : 0 < j) : oMod (.int i) (.int j) = ok (.int (i % j)) := if_pos h
theorem mul_l {i j : Int} (h : -(2 ^ 64) < i) (h2 : i < 2 ^ 64) : oMulI (.int i) (.int j) = ok (.int (i * j)) := if_pos (.inl (inW_of.mpr ⟨h, h2⟩))
theorem mul_r {i j : Int} (h : -(2 ^ 64) < j) (h2 : j < 2 ^ 64) : oMulI (.int i) (.int j) = ok (.int (i * j)) := if_pos (.inr (inW_of.mpr ⟨h, h2⟩))
theorem neg_i {i : Int} : oNeg (.int i) = ok (.int (-i)) := rfl
theorem cmp_i {p : Int → Int → Bool} {i j : Int} : oCmp p (.int i) (.int j) = ok (.bool (p i j)) := rfl
theorem lt_i {i j : Int} : oLtA (.int i) (.int j) = ok (.bool (decide (i < j))) := rfl
theorem lt_l {ns ms : List Int} : oLtA (.list (ns.map .int)) (.list (ms.map .int)) = ok (.bool (HT.lexLt ns ms)) := by
  unfold oLtA; simp only [intsOf_map]
theorem eq_i {i j : Int} : oEq (.int i) (.int j) = ok (.bool (decide (i = j))) := oEq_enc enc_int (by omega) i j
theorem ne_i {i j : Int} : oNe (.int i) (.int j) = ok (.bool (!decide (i = j))) := oNe_enc enc_int (by omega) i j
theorem isN_n : oIsN .none .none = ok (.bool true) := rfl
theorem isN_i {i : Int} : oIsN (.int i) .none = ok (.bool false) := rfl
theorem isN_l {i : List PyData} : oIsN (.list i) .none = ok (.bool false) := rfl
theorem notN_n : oNotN .none .none = ok (.bool false) := rfl
theorem notN_i {i : Int} : oNotN (.int i) .none = ok (.bool true) := rfl
theorem len_l {xs : List PyData} : oLen [.list xs] = ok (cN xs.length) := rfl
theorem len_t {xs : List PyData} : oLen [.tuple xs] = ok (cN xs.length) := rfl
theorem tru_l {xs : List PyData} : tru (.list xs) = ok (!xs.isEmpty) := rfl
theorem tru_t {xs : List PyData} : tru (.tuple xs) = ok (!xs.isEmpty) := rfl
theorem tru_b {k : Bool} : tru (.bool k) = ok k := rfl
theorem int_b {k : Bool} : oInt [.bool k] = ok (.int (if k then 1 else 0)) := rfl
theorem tup_l {xs : List PyData} : oTuple [.list xs] = ok (.tuple xs) := rfl
theorem lst_l {xs : List PyData} : oList [.list xs] = ok (.list xs) := rfl
theorem lst_t {xs : List PyData} : oList [.tuple xs] = ok (.list xs) := rfl
theorem any_l {bs : List Bool} : oAny [.list (bs.map .bool)] = ok (.bool (bs.any id)) := by unfold oAny; simp only [blsOf_map]
theorem all_l {bs : List Bool} : oAll [.list (bs.map .bool)] = ok (.bool (bs.all id)) := by unfold oAll; simp only [blsOf_map]
theorem min_i {i j : Int} : oMin2 [.int i, .int j] = ok (.int (if j < i then j else i)) := rfl
theorem max_i {i j : Int} : oMax2 [.int i, .int j] = ok (.int (if j > i then j else i)) := rfl
theorem srt_l {ns : List Int} : oSortedA [.list (ns.map .int)] = ok (.list ((isort ns).map .int)) := by unfold oSortedA; simp only [intsOf_map]
theorem srt_t {ns : List Int} : oSortedA [.tuple (ns.map .int)] = ok (.list ((isort ns).map .int)) := by unfold oSortedA; simp only [intsOf_map]
theorem addL {xs ys : List PyData} (h : xs.length + ys.length ≤ lim) : oAdd (.list xs) (.list ys) = ok (.list (xs ++ ys)) := if_pos h
theorem addT {xs ys : List PyData} (h : xs.length + ys.length ≤ lim) : oAdd (.tuple xs) (.tuple ys) = ok (.tuple (xs ++ ys)) := if_pos h
theorem inR_n {n : Nat} (h : n < 1000000000) : inR (n : Int) = true := by
  exact inR_iff.mpr (by omega)
theorem seq_l {f : Ef} {r : Rho} {xs : List PyData} (e : f r = ok (.list xs)) : iSeq f r = ok xs := by unfold iSeq; rw [e]; rfl
theorem seq_t {f : Ef} {r : Rho} {xs : List PyData} (e : f r = ok (.tuple xs)) : iSeq f r = ok xs := by unfold iSeq; rw [e]; rfl
def seqOf : PyData → M (List PyData)
  | .list xs => ok xs
  | .tuple xs => ok xs
  | _ => none
theorem iSeq_ev {f : Ef} {r : Rho} : iSeq f r = bnd (f r) seqOf := rfl
theorem seqOf_l {xs : List PyData} : seqOf (.list xs) = ok xs := rfl
theorem seqOf_t {xs : List PyData} : seqOf (.tuple xs) = ok xs := rfl
def rng1 : PyData → M (List PyData)
  | .int n => if inR n = true then ok (rng 0 n.toNat) else none
  | _ => none
theorem iR1_ev {f : Ef} {r : Rho} : iR1 f r = bnd (f r) rng1 := rfl
theorem rng1_n {n : Nat} (h : n < 1000000000) : rng1 (cN n) = ok ((List.range n).map cN) := by
  unfold rng1
  simp only [cN]
  rw [if_pos (inR_n h), Int.toNat_natCast, rng_map]
theorem gT_ev {n : Nat} {G : Gsf} {ds : List PyData} {r : Rho} (h : ds.length = n) : gT n G (.tuple ds) r = G ds r := if_pos h
theorem gs_c {G : Gf} {Gs : Gsf} {d : PyData} {ds : List PyData} {r : Rho} : gsCons G Gs (d :: ds) r = (G d r).bind (Gs ds) := rfl
theorem gs_n {r : Rho} : gsNil [] r = some r := rfl
theorem and_ev {f g : Ef} {r : Rho} : eAnd f g r = bnd (f r) fun x => bnd (asB x) fun k => if k = true then g r else ok (.bool false) := by
  unfold eAnd
  cases f r with
  | none => rfl
  | some z => cases z with
    | error e => rfl
    | ok x => cases x <;> first | rfl | (rename_i b; cases b <;> rfl)
theorem or_ev {f g : Ef} {r : Rho} : eOr f g r = bnd (f r) fun x => bnd (asB x) fun k => if k = true then ok (.bool true) else g r := by
  unfold eOr
  cases f r with
  | none => rfl
  | some z => cases z with
    | error e => rfl
    | ok x => cases x <;> first | rfl | (rename_i b; cases b <;> rfl)
theorem not_ev {f : Ef} {r : Rho} : eNot f r = bnd (f r) fun x => bnd (asB x) fun k => ok (.bool (!k)) := by
  unfold eNot
  cases f r with
  | none => rfl
  | some z => cases z with
    | error e => rfl
    | ok x => cases x <;> rfl
theorem e3_ev {o o' : PyData → PyData → M PyData} {f g h : Ef} {r : Rho} : e3 o o' f g h r = bnd (f r) fun x => bnd (g r) fun y => bnd (o x y) fun z => bnd (asB z) fun k => if k = true then bnd (h r) fun w => o' y w else ok (.bool false) := by
  unfold e3
  cases f r with
  | none => rfl
  | some z => cases z with
    | error e => rfl
    | ok x =>
      simp only [bnd_ok']
      cases g r with
      | none => rfl
      | some z => cases z with
        | error e => rfl
        | ok y =>
          simp only [bnd_ok']
          cases o x y with
          | none => rfl
          | some z => cases z with
            | error e => rfl
            | ok w => cases w <;> first | rfl | (rename_i b; cases b <;> rfl)
/-- the list of a slot, and a slot's new list -/
def ownAt (i : Nat) (r : Rho) : Option (List PyData) := match r[i]? with
  | some (some (.own xs)) => some xs
  | _ => none
def setAt (i : Nat) (b : B) (r : Rho) : Option Rho := if i < r.length then some (r.set i (some b)) else none
theorem own0 {xs : List PyData} {r : Rho} : ownAt 0 (some (.own xs) :: r) = some xs := rfl
theorem ownS {i : Nat} {b : Option B} {r : Rho} : ownAt (i + 1) (b :: r) = ownAt i r := rfl
theorem setAt0 {b : B} {a : Option B} {r : Rho} : setAt 0 b (a :: r) = some (some b :: r) := rfl
theorem setAtS {i : Nat} {d : B} {b : Option B} {r : Rho} : setAt (i + 1) d (b :: r) = (setAt i d r).map (b :: ·) := by
  unfold setAt
  by_cases h : i < r.length
  · rw [if_pos h, if_pos (by rw [List.length_cons]; omega)]; rfl
  · rw [if_neg h, if_neg (by rw [List.length_cons]; omega)]; rfl
theorem setO_ev {i : Nat} {f : Af} {r : Rho} : sSetO i f r = ofE (f r) r fun xs => (setAt i (.own xs) r).map SR.nx := by
  unfold sSetO setAt
  congr 1
  funext xs
  split <;> rfl
theorem set_ev {i : Nat} {f : Ef} {r : Rho} : sSet i f r = ofE (f r) r fun d => (gN i d r).map SR.nx := rfl
theorem asg_ev {f : Ef} {G : Gf} {r : Rho} : sAsg f G r = ofE (f r) r fun d => (G d r).map SR.nx := rfl
theorem ownAt_lt {i : Nat} {r : Rho} {xs : List PyData} (h : ownAt i r = some xs) : r[i]? = some (some (.own xs)) := by
  unfold ownAt at h
  split at h
  · cases h; assumption
  · cases h
theorem app_ev {i : Nat} {f : Ef} {r : Rho} {xs : List PyData} (h : ownAt i r = some xs) (hl : xs.length < 1000000) : sApp i f r = ofE (f r) r fun d => (setAt i (.own (xs ++ [d])) r).map SR.nx := by
  have e := ownAt_lt h
  have hi := (List.getElem?_eq_some_iff.mp e).1
  unfold sApp setAt
  rw [e]
  simp only
  congr 1
  funext d
  rw [if_pos (show xs.length < lim from by rw [lim_is]; exact hl), if_pos hi]; rfl
theorem frz_ev {i : Nat} {g : Sf} {r : Rho} {xs : List PyData} (h : ownAt i r = some xs) : sFrz i g r = ((setAt i (.d (.list xs)) r).bind g) := by
  have e := ownAt_lt h
  have hi := (List.getElem?_eq_some_iff.mp e).1
  unfold sFrz setAt
  rw [e]
  simp only
  rw [if_pos hi]; rfl
def rngO : PyData → M (List PyData)
  | .int n => if inL n = true then ok (rng 0 n.toNat) else none
  | _ => none
theorem nRng_ev {f : Ef} {r : Rho} : nRng f r = bnd (f r) rngO := rfl
theorem rngO_n {n : Nat} (h : n ≤ 1000000) : rngO (cN n) = ok ((List.range n).map cN) := by
  unfold rngO
  simp only [cN]
  rw [if_pos (inL_iff.mpr (by omega)), Int.toNat_natCast, rng_map]
theorem apppop_ev {i j m : Nat} {f : Ef} {r : Rho} {xs ys : List PyData} {d : PyData} (h1 : ownAt i r = some xs) (h2 : ownAt j r = some ys) (hij : i ≠ j) (hf : f r = ok (cN m)) (hd : ys[m]? = some d) (hl : xs.length < 1000000) (hy : ys.length < 1000000000) :
    sAppPop i j f r = ((setAt j (.own (ys.eraseIdx m)) r).bind (setAt i (.own (xs ++ [d])))).map SR.nx := by
  have e1 := ownAt_lt h1
  have e2 := ownAt_lt h2
  have i1 := (List.getElem?_eq_some_iff.mp e1).1
  have i2 := (List.getElem?_eq_some_iff.mp e2).1
  have hm := (List.getElem?_eq_some_iff.mp hd).1
  have hix : ixN ys.length (m : Int) = some m := by
    unfold ixN
    rw [if_pos (by omega), if_pos (by omega), Int.toNat_natCast]
  unfold sAppPop setAt
  rw [e1, e2]
  simp only
  rw [if_neg hij, hf]
  simp only [ofE_ok, cN]
  rw [hix]
  simp only
  rw [hd]
  simp only
  rw [if_pos ⟨by rw [lim_is]; exact hl, inR_n (by omega)⟩, if_pos i2]
  simp only [Option.bind_some]
  rw [if_pos (by rw [List.length_set]; exact i1)]
  rfl
end WK

set_option Elab.async false
set_option linter.all false
/-! Evaluating by rows, in one set. -/
noncomputable section
namespace WK
open PySem DL L2

def sq (m : Option SR) (h : Sf) : Option SR := match m with
  | some (.nx r') => h r'
  | x => x
theorem sSeq_ev {g h : Sf} {r : Rho} : sSeq g h r = sq (g r) h := rfl
theorem sq_nx {r : Rho} {h : Sf} : sq (some (.nx r)) h = h r := rfl
theorem sq_rt {d : PyData} {h : Sf} : sq (some (.rt d)) h = some (.rt d) := rfl
theorem sq_er {e : XN} {r : Rho} {h : Sf} : sq (some (.er e r)) h = some (.er e r) := rfl
theorem sq_bk {r : Rho} {h : Sf} : sq (some (.bk r)) h = some (.bk r) := rfl
theorem sq_ct {r : Rho} {h : Sf} : sq (some (.ct r)) h = some (.ct r) := rfl
theorem sIf_ev {t : Tf} {g h : Sf} {r : Rho} : sIf t g h r = ofE (t r) r fun k => if k = true then g r else h r := rfl
theorem sRet_ev {f : Ef} {r : Rho} : sRet f r = ofE (f r) r fun d => some (.rt d) := rfl
theorem sDrop_ev {f : Ef} {r : Rho} : sDrop f r = ofE (f r) r fun _ => some (.nx r) := rfl
theorem sSkip_ev {r : Rho} : sSkip r = some (.nx r) := rfl
theorem sRetN_ev {r : Rho} : sRetN r = some (.rt .none) := rfl
theorem sRaise_ev {x : XN} {r : Rho} : sRaise x r = some (.er x r) := rfl
theorem sFor_ev {src : Af} {G : Gf} {body : Sf} {r : Rho} : sFor src G body r = ofE (src r) r fun xs => forL G body xs r := rfl
theorem eC_ev {d : PyData} {r : Rho} : eC d r = ok d := rfl
theorem e2_ev {o : PyData → PyData → M PyData} {f g : Ef} {r : Rho} : e2 o f g r = bnd (f r) fun x => bnd (g r) fun y => o x y := rfl
theorem e1_ev {o : PyData → M PyData} {f : Ef} {r : Rho} : e1 o f r = bnd (f r) o := rfl
theorem eFn_ev {o : List PyData → M PyData} {g : Af} {r : Rho} : eFn o g r = bnd (g r) o := rfl
theorem eCall_ev {o : List PyData → M PyData} {g : Af} {r : Rho} : eCall o g r = bnd (g r) o := rfl
theorem aCons_ev {f : Ef} {g : Af} {r : Rho} : aCons f g r = bnd (f r) fun x => bnd (g r) fun xs => ok (x :: xs) := rfl
theorem aNil_ev {r : Rho} : aNil r = ok [] := rfl
theorem nNew_ev {g : Af} {r : Rho} : nNew g r = bnd (g r) fun xs => if xs.length ≤ lim then ok xs else none := rfl
theorem eTup_ev {g : Af} {r : Rho} : eTup g r = bnd (g r) fun xs => if xs.length ≤ lim then ok (.tuple xs) else none := rfl
theorem eLst_ev {g : Af} {r : Rho} : eLst g r = bnd (g r) fun xs => if xs.length ≤ lim then ok (.list xs) else none := rfl
theorem eIf_ev {t : Tf} {f g : Ef} {r : Rho} : eIf t f g r = bnd (t r) fun k => if k = true then f r else g r := rfl
theorem eNew_ev {f : Af} {r : Rho} : eNew f r = bnd (f r) fun xs => ok (.list xs) := rfl
theorem tTru_ev {f : Ef} {r : Rho} : tTruF f r = bnd (f r) tru := rfl
theorem tNot_ev {f : Tf} {r : Rho} : tNotF f r = bnd (f r) fun k => ok (!k) := rfl
theorem tAnd_ev {f g : Tf} {r : Rho} : tAndF f g r = bnd (f r) fun k => if k = true then g r else ok false := rfl
theorem tOr_ev {f g : Tf} {r : Rho} : tOrF f g r = bnd (f r) fun k => if k = true then ok true else g r := rfl
theorem tYes_ev {r : Rho} : tYesF r = ok true := rfl
theorem nLc_ev {src : Af} {G : Gf} {t : Tf} {f : Ef} {vs : List Nat} {r : Rho} : nLc src G t f vs r = bnd (src r) fun xs => lcL G t f (wipeR r vs) xs [] := rfl
theorem wipe0 {r : Rho} : wipeR r [] = r := rfl
theorem wipeS {r : Rho} {v : Nat} {vs : List Nat} : wipeR r (v :: vs) = (wipeR r vs).set v none := rfl
def tixO (x y : PyData) : M PyData := match x with
  | .tuple ds => if SeqAt.shaped (.tuple ds) = true ∧ SeqAt.shaped y = true then (match firstAt y ds with | some j => ok (.int (j : Nat)) | none => none) else none
  | _ => none
theorem tix_ev {f g : Ef} {r : Rho} : eTIndex f g r = bnd (f r) fun x => match x with
  | .tuple ds => bnd (g r) fun d => tixO (.tuple ds) d
  | _ => none := rfl
theorem put_ev {i : Nat} {k f : Ef} {r : Rho} {xs : List PyData} {j : Nat} (h : ownAt i r = some xs) : sPut i k f r = sPut i k f r := rfl
/-! numbers up -/
theorem nup1 (n : Nat) : ((n : Int) + 1) = ((n + 1 : Nat) : Int) := rfl
theorem nup_le (n m : Nat) : ((n : Int) ≤ (m : Int)) = (n ≤ m) := propext Int.ofNat_le
theorem nup_lt (n m : Nat) : ((n : Int) < (m : Int)) = (n < m) := propext Int.ofNat_lt
theorem nup_eq (n m : Nat) : ((n : Int) = (m : Int)) = (n = m) := propext Int.ofNat_inj
theorem ltn {n m : Nat} : oLtA (cN n) (cN m) = ok (.bool (decide (n < m))) := by
  rw [lt_i]; simp only [nup_lt]
theorem oIx_l {a : Type} {f : a → PyData} {xs : List a} {j : Nat} (h : j < xs.length) : oIx (.list (xs.map f)) (cN j) = ok (f (xs[j]'h)) := oIx_list f xs j _ (List.getElem?_eq_getElem h)
theorem oIx_t {a : Type} {f : a → PyData} {xs : List a} {j : Nat} (h : j < xs.length) : oIx (.tuple (xs.map f)) (cN j) = ok (f (xs[j]'h)) := oIx_tup f xs j _ (List.getElem?_eq_getElem h)
theorem oIx_c0 {x : PyData} {xs : List PyData} : oIx (.tuple (x :: xs)) (.int 0) = ok x := oIx_tup id (x :: xs) 0 x rfl |> fun h => by rw [List.map_id] at h; exact h
theorem oIx_c1 {x y : PyData} {xs : List PyData} : oIx (.tuple (x :: y :: xs)) (.int 1) = ok y := oIx_tup id (x :: y :: xs) 1 y rfl |> fun h => by rw [List.map_id] at h; exact h
theorem oIx_c2 {x y z : PyData} {xs : List PyData} : oIx (.tuple (x :: y :: z :: xs)) (.int 2) = ok z := oIx_tup id (x :: y :: z :: xs) 2 z rfl |> fun h => by rw [List.map_id] at h; exact h
theorem cat_l {a : Type} {f : a → PyData} {xs ys : List a} (h : xs.length + ys.length ≤ lim) : oAdd (.list (xs.map f)) (.list (ys.map f)) = ok (.list ((xs ++ ys).map f)) := by
  rw [addL (by rw [List.length_map, List.length_map]; exact h), List.map_append]
theorem cat_t {a : Type} {f : a → PyData} {xs ys : List a} (h : xs.length + ys.length ≤ lim) : oAdd (.tuple (xs.map f)) (.tuple (ys.map f)) = ok (.tuple ((xs ++ ys).map f)) := by
  rw [addT (by rw [List.length_map, List.length_map]; exact h), List.map_append]
theorem limV : lim = 1000000 := lim_is
/-- a loop with a measure beside it -/
theorem while_ix {t : Tf} {body : Sf} {r : Rho} (P : Nat → Rho → Prop) (n : Nat) (Res : Option SR → Prop) (h0 : P n r) (hm : n < fuel)
    (turn : ∀ n r, P n r → ∃ k, t r = ok k ∧ if k = true then (match body r with
      | some (.nx r2) => ∃ m, m < n ∧ P m r2
      | some (.ct r2) => ∃ m, m < n ∧ P m r2
      | some (.bk r2) => Res (some (.nx r2))
      | some (.rt d) => Res (some (.rt d))
      | some (.er e r2) => Res (some (.er e r2))
      | none => False) else Res (some (.nx r))) : Res (sWhile t body r) := by
  unfold sWhile
  suffices ∀ (k n : Nat) (r : Rho), n < k → P n r → Res (whileN t body k r) from this fuel n r hm h0
  intro k
  induction k with
  | zero => intro n r h; omega
  | succ k ih =>
    intro n r h hp
    obtain ⟨b, e, q⟩ := turn n r hp
    rw [whileN, e, ofE_ok]
    cases b with
    | false => simpa using q
    | true =>
      rw [if_pos rfl] at q ⊢
      revert q
      cases body r with
      | none => exact False.elim
      | some z =>
        cases z with
        | nx r2 => exact fun ⟨m, hm, q⟩ => ih m r2 (by omega) q
        | ct r2 => exact fun ⟨m, hm, q⟩ => ih m r2 (by omega) q
        | bk r2 => exact id
        | rt d => exact id
        | er e r2 => exact id
theorem run_fin {n k : Nat} {b : Sf} {ds : List PyData} (h : ds.length = k) : runD n k b ds = fin (b (rho0 n ds)) := by
  unfold runD
  rw [if_pos h]
  cases b (rho0 n ds) with
  | none => rfl
  | some z => cases z <;> rfl
theorem rep0 {a : Type} {x : a} : List.replicate 0 x = [] := rfl
theorem repS {a : Type} {n : Nat} {x : a} : List.replicate (n + 1) x = x :: List.replicate n x := rfl
theorem mod_n {i j : Nat} (h : 0 < j) : oMod (cN i) (cN j) = ok (cN (i % j)) := by
  rw [mod_i (by omega)]
  simp only [cN, Int.natCast_emod]
end WK

set_option Elab.async false
set_option linter.all false
/-! What a block leaves. -/
noncomputable section
namespace WK
open PySem DL L2

/-- an equation that is not to be rewritten with -/
def Eqn {a : Type} (x y : a) : Prop := x = y
theorem Eqn.rf {a : Type} {x : a} : Eqn x x := rfl
theorem Eqn.le {x y : Nat} (h : Eqn x y) : x ≤ y ∧ y ≤ x := ⟨Nat.le_of_eq h, Nat.le_of_eq (Eq.symm h)⟩
def Post (Q : PyData → Prop) (m : M PyData) : Prop := ∃ d, m = ok d ∧ Q d
def PostS (Q : SR → Prop) (m : Option SR) : Prop := ∃ z, m = some z ∧ Q z
def EndQ (Q : PyData → Prop) : SR → Prop
  | .nx _ => Q .none
  | .rt d => Q d
  | _ => False
theorem post_run {Q : PyData → Prop} {n k : Nat} {b : Sf} {ds : List PyData} (h : ds.length = k) (hb : PostS (EndQ Q) (b (rho0 n ds))) : Post Q (runD n k b ds) := by
  rw [run_fin h]
  obtain ⟨z, e, q⟩ := hb
  rw [e]
  cases z with
  | nx r => exact ⟨_, rfl, q⟩
  | rt d => exact ⟨_, rfl, q⟩
  | bk r => exact q.elim
  | ct r => exact q.elim
  | er x r => exact q.elim
theorem posts_some {Q : SR → Prop} {z : SR} : PostS Q (some z) = Q z := propext ⟨fun ⟨_, e, q⟩ => by cases e; exact q, fun q => ⟨_, rfl, q⟩⟩
theorem end_rt {Q : PyData → Prop} {d : PyData} : EndQ Q (.rt d) = Q d := rfl
theorem end_nx {Q : PyData → Prop} {r : Rho} : EndQ Q (.nx r) = Q .none := rfl
theorem PostS.imp {Q Q' : SR → Prop} {m : Option SR} (h : PostS Q m) (i : ∀ z, Q z → Q' z) : PostS Q' m := by
  obtain ⟨z, e, q⟩ := h
  exact ⟨z, e, i z q⟩
theorem Post.imp {Q Q' : PyData → Prop} {m : M PyData} (h : Post Q m) (i : ∀ z, Q z → Q' z) : Post Q' m := by
  obtain ⟨z, e, q⟩ := h
  exact ⟨z, e, i z q⟩
/-- the turns' end -/
def SqQ (Q : SR → Prop) (h : Sf) : SR → Prop
  | .nx r => PostS Q (h r)
  | z => Q z
theorem posts_sq {Q : SR → Prop} {m : Option SR} {h : Sf} (hm : PostS (SqQ Q h) m) : PostS Q (sq m h) := by
  obtain ⟨z, e, q⟩ := hm
  rw [e]
  cases z with
  | nx r => exact q
  | rt d => exact ⟨_, rfl, q⟩
  | bk r => exact ⟨_, rfl, q⟩
  | ct r => exact ⟨_, rfl, q⟩
  | er x r => exact ⟨_, rfl, q⟩
/-- a turn's end: on, or out -/
def LpQ (Q : SR → Prop) (P : Rho → Prop) : SR → Prop
  | .nx r => P r
  | .ct r => P r
  | .bk r => Q (.nx r)
  | z => Q z
theorem lp_nx {Q : SR → Prop} {P : Rho → Prop} {r : Rho} : LpQ Q P (.nx r) = P r := rfl
theorem lp_ct {Q : SR → Prop} {P : Rho → Prop} {r : Rho} : LpQ Q P (.ct r) = P r := rfl
theorem lp_bk {Q : SR → Prop} {P : Rho → Prop} {r : Rho} : LpQ Q P (.bk r) = Q (.nx r) := rfl
theorem lp_rt {Q : SR → Prop} {P : Rho → Prop} {d : PyData} : LpQ Q P (.rt d) = Q (.rt d) := rfl
theorem lp_er {Q : SR → Prop} {P : Rho → Prop} {e : XN} {r : Rho} : LpQ Q P (.er e r) = Q (.er e r) := rfl
theorem sqq_nx {Q : SR → Prop} {h : Sf} {r : Rho} : SqQ Q h (.nx r) = PostS Q (h r) := rfl
theorem sqq_rt {Q : SR → Prop} {h : Sf} {d : PyData} : SqQ Q h (.rt d) = Q (.rt d) := rfl
theorem sqq_er {Q : SR → Prop} {h : Sf} {e : XN} {r : Rho} : SqQ Q h (.er e r) = Q (.er e r) := rfl
theorem sqq_bk {Q : SR → Prop} {h : Sf} {r : Rho} : SqQ Q h (.bk r) = Q (.bk r) := rfl
theorem sqq_ct {Q : SR → Prop} {h : Sf} {r : Rho} : SqQ Q h (.ct r) = Q (.ct r) := rfl
def PostG (o : Option Rho) (K : Rho → Prop) : Prop := ∃ r1, o = some r1 ∧ K r1
theorem postg_some {r : Rho} {K : Rho → Prop} : PostG (some r) K = K r := propext ⟨fun ⟨_, e, q⟩ => by cases e; exact q, fun q => ⟨_, rfl, q⟩⟩
theorem posts_for {Q : SR → Prop} {G : Gf} {body : Sf} {xs : List PyData} {r : Rho} (P : Nat → Rho → Prop) (h0 : P 0 r)
    (turn : ∀ i x r, xs[i]? = some x → P i r → PostG (G x r) fun r1 => PostS (LpQ Q (P (i + 1))) (body r1))
    (hd : ∀ r, P xs.length r → Q (.nx r)) : PostS Q (forL G body xs r) := by
  refine for_rule (xs := xs) P (PostS Q) h0 (fun i x r hx hp => ?_) fun r hp => ⟨_, rfl, hd r hp⟩
  obtain ⟨r1, e1, z, e2, q⟩ := turn i x r hx hp
  refine ⟨r1, e1, ?_⟩
  rw [e2]
  cases z with
  | nx r => exact q
  | rt d => exact ⟨_, rfl, q⟩
  | bk r => exact ⟨_, rfl, q⟩
  | ct r => exact q
  | er x r => exact ⟨_, rfl, q⟩
theorem posts_while {Q : SR → Prop} {t : Tf} {body : Sf} {r : Rho} (P : Nat → Rho → Prop) (n : Nat) (h0 : P n r) (hm : n < 100000)
    (turn : ∀ n r, P n r → ∃ k, t r = ok k ∧ if k = true then PostS (LpQ Q fun r2 => ∃ m, m < n ∧ P m r2) (body r) else Q (.nx r)) : PostS Q (sWhile t body r) := by
  refine while_ix P n (PostS Q) h0 (by rw [fuel_is]; exact hm) fun n r hp => ?_
  obtain ⟨k, e, h⟩ := turn n r hp
  refine ⟨k, e, ?_⟩
  cases k with
  | false => exact ⟨_, rfl, h⟩
  | true =>
    rw [if_pos rfl] at h ⊢
    obtain ⟨z, e2, q⟩ := h
    rw [e2]
    cases z with
    | nx r => exact q
    | rt d => exact ⟨_, rfl, q⟩
    | bk r => exact ⟨_, rfl, q⟩
    | ct r => exact q
    | er x r => exact ⟨_, rfl, q⟩
/-- a turn over mapped data -/
theorem getq_map {a b : Type} {f : a → b} {xs : List a} {i : Nat} {x : b} (h : (xs.map f)[i]? = some x) : ∃ y, xs[i]? = some y ∧ x = f y := by
  rw [List.getElem?_map] at h
  cases e : xs[i]? with
  | none => rw [e] at h; cases h
  | some y => rw [e] at h; cases h; exact ⟨y, rfl, rfl⟩
theorem getq_range {n i m : Nat} (h : (List.range n)[i]? = some m) : m = i ∧ i < n := by
  obtain ⟨h1, h2⟩ := List.getElem?_eq_some_iff.mp h
  rw [List.getElem_range] at h2
  rw [List.length_range] at h1
  exact ⟨h2.symm, h1⟩
theorem nm4 (v : Nat) : (v : Int) % 4 = ((v % 4 : Nat) : Int) := rfl
theorem nm2 (v : Nat) : (v : Int) % 2 = ((v % 2 : Nat) : Int) := rfl
theorem nm3 (v : Nat) : (v : Int) % 3 = ((v % 3 : Nat) : Int) := rfl
theorem nd4 (v : Nat) : (v : Int) / 4 = ((v / 4 : Nat) : Int) := rfl
theorem nd2 (v : Nat) : (v : Int) / 2 = ((v / 2 : Nat) : Int) := rfl
theorem eq_n {i j : Nat} : oEq (cN i) (cN j) = ok (.bool (decide (i = j))) := oEq_enc enc_nat (by omega) i j
theorem le_n {i j : Nat} : oLe (cN i) (cN j) = ok (.bool (decide (i ≤ j))) := by
  show ok (PyData.bool (decide ((i : Int) ≤ (j : Int)))) = _
  simp only [nup_le]
def wO {a : Type} (o : Option a) (k : a → Option SR) : Option SR := match o with
  | some x => k x
  | none => none
theorem wO_some {a : Type} {x : a} {k : a → Option SR} : wO (some x) k = k x := rfl
theorem app_w {i : Nat} {f : Ef} {r : Rho} : sApp i f r = wO (ownAt i r) fun xs => ofE (f r) r fun d => if xs.length < lim then wO (setAt i (.own (xs ++ [d])) r) fun r2 => some (.nx r2) else none := by
  unfold sApp ownAt setAt
  cases e : r[i]? with
  | none => rfl
  | some b =>
    have hi := (List.getElem?_eq_some_iff.mp e).1
    match b with
    | none => rfl
    | some (.d x) => rfl
    | some (.own xs) =>
      simp only [wO_some, if_pos hi]
theorem frz_w {i : Nat} {g : Sf} {r : Rho} {xs : List PyData} (h : ownAt i r = some xs) : sFrz i g r = wO (setAt i (.d (.list xs)) r) g := by
  rw [frz_ev h]
  cases setAt i (.d (.list xs)) r <;> rfl
def ixD (n : Nat) : PyData → Option Nat
  | .int j => ixN n j
  | _ => none
theorem ixD_n {n j : Nat} (h : j < n) : ixD n (cN j) = some j := by
  show ixN n (j : Int) = some j
  unfold ixN
  rw [if_pos (by omega), if_pos (by omega), Int.toNat_natCast]
theorem put_w {i : Nat} {k f : Ef} {r : Rho} : sPut i k f r = wO (ownAt i r) fun xs => ofE (f r) r fun d => ofE (k r) r fun z => wO (ixD xs.length z) fun m => wO (setAt i (.own (xs.set m d)) r) fun r2 => some (.nx r2) := by
  unfold sPut ownAt setAt
  cases e : r[i]? with
  | none => rfl
  | some b =>
    have hi := (List.getElem?_eq_some_iff.mp e).1
    match b with
    | none => rfl
    | some (.d x) => rfl
    | some (.own xs) =>
      simp only [wO_some, if_pos hi]
      congr 1
      funext d
      congr 1
      funext z
      cases z with
      | int n =>
        simp only [ixD]
        cases ixN xs.length n <;> rfl
      | _ => rfl
def frzK : Option (List PyData) → Nat → Sf → Sf
  | some xs, i, g => fun r => wO (setAt i (.d (.list xs)) r) g
  | none, _, g => g
theorem frz_o {i : Nat} {g : Sf} {r : Rho} : sFrz i g r = frzK (ownAt i r) i g r := by
  cases e : ownAt i r with
  | some xs => rw [frz_w e]; rfl
  | none =>
    unfold sFrz
    split
    · rename_i xs q
      unfold ownAt at e
      rw [q] at e
      cases e
    · rfl
theorem frzK_some {i : Nat} {g : Sf} {r : Rho} {xs : List PyData} : frzK (some xs) i g r = wO (setAt i (.d (.list xs)) r) g := rfl
theorem lc_mapG {a : Type} {enc : a → PyData} {G : Gf} {t : Tf} {f : Ef} {r : Rho} (p : a → Bool) (h : a → PyData) (xs : List a) (hl : xs.length ≤ 1000000)
    (hx : ∀ x ∈ xs, PostG (G (enc x) r) fun r1 => t r1 = ok (p x) ∧ (p x = true → f r1 = ok (h x))) : lcL G t f r (xs.map enc) [] = ok ((xs.filter p).map h) := by
  have := lc_map (enc := enc) (G := G) (t := t) (f := f) (r := r) p h xs [] (by rw [lim_is]; simpa using hl) fun x hm => by
    obtain ⟨r1, e1, q⟩ := hx x hm
    exact ⟨r1, e1, q⟩
  simpa using this
theorem lc_allG {a : Type} {enc : a → PyData} {G : Gf} {f : Ef} {r : Rho} (h : a → PyData) (xs : List a) (hl : xs.length ≤ 1000000)
    (hx : ∀ x ∈ xs, PostG (G (enc x) r) fun r1 => f r1 = ok (h x)) : lcL G tYesF f r (xs.map enc) [] = ok (xs.map h) := by
  refine lc_all h xs (by rw [lim_is]; exact hl) fun x hm => ?_
  obtain ⟨r1, e1, q⟩ := hx x hm
  exact ⟨r1, e1, q⟩
theorem app_evL {i : Nat} {f : Ef} {r : Rho} {xs : List PyData} (h : ownAt i r = some xs) (hl : xs.length < 1000000) {d : PyData} (hf : f r = ok d) {r2 : Rho} (h2 : setAt i (.own (xs ++ [d])) r = some r2) : sApp i f r = some (.nx r2) := by
  rw [app_ev h hl, hf, ofE_ok, h2]; rfl
end WK

set_option Elab.async false
set_option linter.all false
/-! More rows. -/
noncomputable section
namespace WK
open PySem DL L2

theorem nlit_le (n k : Nat) : ((n : Int) ≤ (no_index (OfNat.ofNat k) : Int)) = (n ≤ no_index (OfNat.ofNat k)) := propext Int.ofNat_le
theorem nlit_lt (n k : Nat) : ((n : Int) < (no_index (OfNat.ofNat k) : Int)) = (n < no_index (OfNat.ofNat k)) := propext Int.ofNat_lt
theorem nlit_ge (n k : Nat) : ((no_index (OfNat.ofNat k) : Int) ≤ (n : Int)) = (no_index (OfNat.ofNat k) ≤ n) := propext Int.ofNat_le
theorem nlit_gt (n k : Nat) : ((no_index (OfNat.ofNat k) : Int) < (n : Int)) = (no_index (OfNat.ofNat k) < n) := propext Int.ofNat_lt
theorem nlit_eq (n k : Nat) : ((n : Int) = (no_index (OfNat.ofNat k) : Int)) = (n = no_index (OfNat.ofNat k)) := propext Int.ofNat_inj
theorem nge0 (n : Nat) : ((0 : Int) ≤ (n : Int)) = True := propext ⟨fun _ => trivial, fun _ => Int.natCast_nonneg n⟩
theorem in_tf {neg b : Bool} : oIn neg (.bool b) (.tuple [.bool true, .bool false]) = ok (.bool (neg ^^ true)) := by
  have := oIn_tup enc_bool (by omega) neg b [true, false]
  rw [show decide (b ∈ [true, false]) = true from by cases b <;> rfl] at this
  exact this
theorem blsOf_true {a : Type} (xs : List a) : blsOf (xs.map fun _ => PyData.bool true) = some (xs.map fun _ => true) := by
  have := blsOf_map (xs.map fun _ => true)
  rwa [List.map_map] at this
theorem all_true {a : Type} {xs : List a} : oAll [.list (xs.map fun _ => .bool true)] = ok (.bool true) := by
  unfold oAll
  simp only [blsOf_true]
  congr 2
  simp
theorem intsOf_cN (ss : List Nat) : intsOf (ss.map cN) = some (ss.map fun (n : Nat) => (n : Int)) := by
  have := intsOf_map (ss.map fun (n : Nat) => (n : Int))
  rwa [List.map_map] at this
theorem map_inj_nodup {a b : Type} {f : a → b} (hf : ∀ x y, f x = f y → x = y) {xs : List a} (h : xs.Nodup) : (xs.map f).Nodup := by
  induction xs with
  | nil => exact List.nodup_nil
  | cons x xs ih =>
    rw [List.nodup_cons] at h
    rw [List.map_cons, List.nodup_cons]
    refine ⟨fun q => ?_, ih h.2⟩
    obtain ⟨y, hy, e⟩ := List.mem_map.mp q
    rw [hf _ _ e] at hy
    exact h.1 hy
theorem lenset_n {ss : List Nat} (h : ss.Nodup) (hl : ss.length < 4000) : oLenSet (.tuple (ss.map cN)) = ok (cN ss.length) := by
  unfold oLenSet
  simp only [intsOf_cN]
  rw [if_pos (by rw [List.length_map]; exact hl), (dd_len _).mpr (map_inj_nodup (fun x y e => Int.ofNat_inj.mp e) h), List.length_map]
theorem gT_ev' {n : Nat} {G : Gsf} {ds : List PyData} {r : Rho} : gT n G (.tuple ds) r = if ds.length = n then G ds r else none := rfl
def bz (b : Bool) : PyData := .bool b
theorem any_b {a : Type} {xs : List a} {p : a → Bool} : oAny [.list (xs.map fun x => .bool (p x))] = ok (.bool (xs.any p)) := by
  have := any_l (bs := xs.map p)
  rw [List.map_map] at this
  rw [show (xs.map fun x => PyData.bool (p x)) = xs.map (PyData.bool ∘ p) from rfl, this, List.any_map]
  rfl
theorem all_b {a : Type} {xs : List a} {p : a → Bool} : oAll [.list (xs.map fun x => .bool (p x))] = ok (.bool (xs.all p)) := by
  have := all_l (bs := xs.map p)
  rw [List.map_map] at this
  rw [show (xs.map fun x => PyData.bool (p x)) = xs.map (PyData.bool ∘ p) from rfl, this, List.all_map]
  rfl
end WK

set_option Elab.async false
set_option linter.all false
set_option maxHeartbeats 4000000
set_option maxRecDepth 100000
noncomputable section
namespace WK
open PySem DL L2

local macro_rules | `(tactic| walk_at "ev") => `(tactic| simp only [ofE_ok, ofE_ok', bnd_ok, bnd_ok', sSeq_ev, sq_nx, sq_rt, sq_er, sq_bk, sq_ct, sIf_ev, sRet_ev, sDrop_ev, sSkip_ev, sRetN_ev, sRaise_ev, sFor_ev, eC_ev, e2_ev, e1_ev, eFn_ev, eCall_ev, aCons_ev, aNil_ev, nNew_ev, eTup_ev, eLst_ev, eIf_ev, eNew_ev, tTru_ev, tNot_ev, tAnd_ev, tOr_ev, tYes_ev, nLc_ev, wipe0, wipeS, tix_ev, set_ev, asg_ev, setO_ev, v0, vS, o0, o0', oS, g0, gS, own0, ownS, setAt0, setAtS, e3_ev, and_ev, or_ev, not_ev, val_ev, asB_b, iSeq_ev, seqOf_l, seqOf_t, iR1_ev, nRng_ev, gT_ev, gs_c, gs_n,
  add_i, sub_i, div_i, mod_i, mul_l, mul_r, neg_i, cmp_i, lt_i, eq_i, ne_i, isN_n, isN_i, isN_l, notN_n, notN_i, len_l, len_t, tru_l, tru_t, tru_b, tup_l, lst_l, lst_t, any_l, all_l, min_i, max_i, oIx_l, oIx_t, oIx_c0, oIx_c1, oIx_c2, limV,
  nup1, nup_le, nup_lt, nup_eq, ← Int.natCast_add,
  posts_some, postg_some, end_rt, end_nx, lp_nx, lp_ct, lp_bk, lp_rt, lp_er, sqq_nx, sqq_rt, sqq_er, sqq_bk, sqq_ct, wO_some, app_w, put_w, frz_o, frzK_some, nlit_le, nlit_lt, nlit_ge, nlit_gt, nlit_eq, nge0, in_tf, all_true, lenset_n, nm4, nm3, nm2, nd4, nd2, eq_n, le_n, 
  Option.map_some, Option.map_none, Option.bind_some, fin_nx, fin_rt, fin_er, List.length_cons, List.length_nil, List.length_map, List.length_append, List.length_range, List.set_cons_zero, List.set_cons_succ, ↓reduceIte, Nat.zero_add, Nat.add_zero, Nat.zero_le, Nat.reduceAdd, Nat.reduceLeDiff, Nat.reduceEqDiff, Int.reduceLT, Int.reduceNeg, Int.reducePow, decide_eq_true_eq, decide_true, decide_false, Bool.not_true, Bool.not_false, Bool.false_eq_true, eq_self, and_self, true_and, and_true, Bool.true_xor, Bool.false_xor])
local macro_rules | `(tactic| walk_at "in") => `(tactic| simp only [rho0, List.map_cons, List.map_nil, List.cons_append, List.nil_append, List.length_cons, List.length_nil, Nat.reduceAdd, Nat.reduceSub, Nat.zero_add, Nat.sub_self, rep0, repS])
local macro_rules | `(tactic| walk_at "evh") => `(tactic| simp only [*, ofE_ok, ofE_ok', bnd_ok, bnd_ok', sSeq_ev, sq_nx, sq_rt, sq_er, sq_bk, sq_ct, sIf_ev, sRet_ev, sDrop_ev, sSkip_ev, sRetN_ev, sRaise_ev, sFor_ev, eC_ev, e2_ev, e1_ev, eFn_ev, eCall_ev, aCons_ev, aNil_ev, nNew_ev, eTup_ev, eLst_ev, eIf_ev, eNew_ev, tTru_ev, tNot_ev, tAnd_ev, tOr_ev, tYes_ev, nLc_ev, wipe0, wipeS, tix_ev, set_ev, asg_ev, setO_ev, v0, vS, o0, o0', oS, g0, gS, own0, ownS, setAt0, setAtS, e3_ev, and_ev, or_ev, not_ev, val_ev, asB_b, iSeq_ev, seqOf_l, seqOf_t, iR1_ev, nRng_ev, gT_ev, gs_c, gs_n,
  add_i, sub_i, div_i, mod_i, mul_l, mul_r, neg_i, cmp_i, lt_i, eq_i, ne_i, isN_n, isN_i, isN_l, notN_n, notN_i, len_l, len_t, tru_l, tru_t, tru_b, tup_l, lst_l, lst_t, any_l, all_l, min_i, max_i, oIx_l, oIx_t, oIx_c0, oIx_c1, oIx_c2, limV,
  nup1, nup_le, nup_lt, nup_eq, ← Int.natCast_add,
  posts_some, postg_some, end_rt, end_nx, lp_nx, lp_ct, lp_bk, lp_rt, lp_er, sqq_nx, sqq_rt, sqq_er, sqq_bk, sqq_ct, wO_some, app_w, put_w, frz_o, frzK_some, nlit_le, nlit_lt, nlit_ge, nlit_gt, nlit_eq, nge0, in_tf, all_true, lenset_n, nm4, nm3, nm2, nd4, nd2, eq_n, le_n, 
  Option.map_some, Option.map_none, Option.bind_some, fin_nx, fin_rt, fin_er, List.length_cons, List.length_nil, List.length_map, List.length_append, List.length_range, List.set_cons_zero, List.set_cons_succ, ↓reduceIte, Nat.zero_add, Nat.add_zero, Nat.zero_le, Nat.reduceAdd, Nat.reduceLeDiff, Nat.reduceEqDiff, Int.reduceLT, Int.reduceNeg, Int.reducePow, decide_eq_true_eq, decide_true, decide_false, Bool.not_true, Bool.not_false, Bool.false_eq_true, eq_self, and_self, true_and, and_true, Bool.true_xor, Bool.false_xor])
/-! What the laws draw: numbers, sources, machines. -/
theorem cell_is (ns : List Int) (k : Int) : ∃ z : Int, m__law_cell [.list (ns.map .int), .int k] = ok (.int z) := by
  rw [m__law_cell, run_fin (by rfl)]
  walk_at "in"
  rw [b__law_cell]
  cases ns with
  | nil => exact ⟨0, rfl⟩
  | cons n r =>
    have h1 : 0 ≤ k % ((r.length : Int) + 1) := Int.emod_nonneg _ (by omega)
    have h2 : k % ((r.length : Int) + 1) < (r.length : Int) + 1 := Int.emod_lt_of_pos _ (by omega)
    obtain ⟨j, hj⟩ := Int.eq_ofNat_of_zero_le h1
    have hjl : j < (n :: r).length := by rw [List.length_cons]; omega
    refine ⟨(n :: r)[j], ?_⟩
    have hix : oIx (.list ((n :: r).map PyData.int)) (cN j) = ok (.int (n :: r)[j]) := oIx_list _ _ _ _ (List.getElem?_eq_getElem hjl)
    have hm : oMod (.int k) (cN (r.length + 1)) = ok (cN j) := by
      rw [mod_i (by omega), Int.natCast_add, Int.natCast_one, hj]
    walk_at "ev"
    simp only [List.isEmpty_map, List.isEmpty_cons, Bool.not_false, ↓reduceIte, hm, bnd_ok, hix, fin_rt, ofE_ok, sq_rt]
theorem mix_is (ns : List Int) (k : Int) : ∃ v : Nat, m__law_mix [.list (ns.map .int), .int k] = ok (cN v) ∧ v < 4294967231 := by
  obtain ⟨z, hz⟩ := cell_is ns k
  have key : ∀ x : Int, ∃ v : Nat, x % 4294967231 = (v : Int) ∧ v < 4294967231 := fun x => by
    have h1 := Int.emod_nonneg x (show (4294967231 : Int) ≠ 0 by decide)
    have h2 := Int.emod_lt_of_pos x (show (0 : Int) < 4294967231 by decide)
    exact ⟨(x % 4294967231).toNat, by omega, by omega⟩
  have main : ∃ x : Int, m__law_mix [.list (ns.map .int), .int k] = ok (.int (x % 4294967231)) := by
    rw [m__law_mix, run_fin (by rfl)]
    walk_at "in"
    rw [b__law_mix]
    walk_at "evh"
    exact ⟨_, rfl⟩
  obtain ⟨x, hx⟩ := main
  obtain ⟨v, e, hv⟩ := key x
  exact ⟨v, hx.trans (by rw [e]), hv⟩
theorem erase_perm {a : Type} : ∀ (xs : List a) (i : Nat) (h : i < xs.length), (xs[i] :: xs.eraseIdx i).Perm xs
  | x :: xs, 0, _ => List.Perm.refl _
  | x :: xs, i + 1, h => by
    show (xs[i]'(Nat.lt_of_succ_lt_succ h) :: x :: xs.eraseIdx i).Perm (x :: xs)
    exact (List.Perm.swap _ _ _).trans (List.Perm.cons x (erase_perm xs i (Nat.lt_of_succ_lt_succ h)))
theorem eraseIdx_map' {a b : Type} (f : a → b) : ∀ (xs : List a) (i : Nat), (xs.map f).eraseIdx i = (xs.eraseIdx i).map f
  | [], i => by simp
  | x :: xs, 0 => by simp
  | x :: xs, i + 1 => by simp [eraseIdx_map' f xs i]
theorem sources_is (ns : List Int) (k : Int) (many most : Nat) (h : many ≤ most) (hs : most < 1000) : ∃ ss : List Nat, m__law_sources [.list (ns.map .int), .int k, cN many, cN most] = ok (.tuple (ss.map cN)) ∧ ss.length = many ∧ ss.Nodup ∧ ∀ s ∈ ss, s < most := by
  rw [m__law_sources, run_fin (by rfl)]
  walk_at "in"
  rw [b__law_sources]
  have h1 : rngO (cN most) = ok ((List.range most).map cN) := rngO_n (by omega)
  walk_at "evh"
  refine while_ix (fun n r => ∃ ss left : List Nat, r = [some (.d (.list (ns.map .int))), some (.d (.int k)), some (.d (cN many)), some (.d (cN most)), some (.own (left.map cN)), some (.own (ss.map cN))] ∧
      ss.length + n = many ∧ ss.length + left.length = most ∧ (ss ++ left).Nodup ∧ ∀ s ∈ ss ++ left, s < most) many
      (fun m => ∃ ss : List Nat, fin (sq m (sRet (eCall oTuple (aCons (eO 5) aNil)))) = ok (.tuple (ss.map cN)) ∧ ss.length = many ∧ ss.Nodup ∧ ∀ s ∈ ss, s < most) ?_ (by rw [fuel_is]; omega) ?_
  · exact ⟨[], List.range most, rfl, by simp, by simp, by simpa using List.nodup_range, by simp⟩
  · rintro n r ⟨ss, left, rfl, e1, e2, e3, e4⟩
    refine ⟨decide (ss.length < many), by walk_at "ev", ?_⟩
    by_cases hc : ss.length < many
    · rw [if_pos (decide_eq_true hc)]
      obtain ⟨v, hv, _⟩ := mix_is ns (k + (ss.length : Nat))
      have hl : 0 < left.length := by omega
      have hm : v % left.length < left.length := Nat.mod_lt _ hl
      have hmod := mod_n (i := v) hl
      rw [apppop_ev (xs := ss.map cN) (ys := left.map cN) (m := v % left.length) rfl rfl (by decide) (by walk_at "evh") (d := cN (left[v % left.length]'hm)) (by rw [List.getElem?_map, List.getElem?_eq_getElem hm]; rfl) (by rw [List.length_map]; omega) (by rw [List.length_map]; omega)]
      walk_at "ev"
      have hp : ((ss ++ [left[v % left.length]]) ++ left.eraseIdx (v % left.length)).Perm (ss ++ left) := by
        rw [List.append_assoc]
        exact List.Perm.append_left _ (erase_perm _ _ hm)
      refine ⟨n - 1, by omega, ss ++ [left[v % left.length]], left.eraseIdx (v % left.length), ?_, ?_, ?_, ?_, ?_⟩
      · rw [List.map_append, eraseIdx_map']; rfl
      · rw [List.length_append, List.length_singleton]; omega
      · rw [List.length_append, List.length_singleton, List.length_eraseIdx_of_lt hm]; omega
      · exact (hp.nodup_iff).mpr e3
      · exact fun s hs => e4 s (hp.mem_iff.mp hs)
    · rw [if_neg (by simpa using hc)]
      exact ⟨ss, by walk_at "ev", by omega, (List.nodup_append.mp e3).1, fun s hs => e4 s (List.mem_append_left _ hs)⟩

def mixv (ns : List Int) (k : Int) : Nat := (mix_is ns k).choose
theorem mix_ev {ns : List Int} {k : Int} : m__law_mix [.list (ns.map .int), .int k] = ok (cN (mixv ns k)) := (mix_is ns k).choose_spec.1
theorem sources_ev {ns : List Int} {k : Int} {many most : Nat} (h : many ≤ most) (hs : most < 1000) : ∃ ss : List Nat, m__law_sources [.list (ns.map .int), .int k, cN many, cN most] = ok (.tuple (ss.map cN)) ∧ ss.length = many ∧ ss.Nodup ∧ ∀ s ∈ ss, s < most := sources_is ns k many most h hs
abbrev Mv := Nat × List Nat
abbrev Ste := Bool × Nat × List Mv
abbrev Mach := List Ste
def eMv (m : Mv) : PyData := .tuple [cN m.1, .tuple (m.2.map cN)]
def eSt (s : Ste) : PyData := .tuple [.bool s.1, cN s.2.1, .list (s.2.2.map eMv)]
def eM (M : Mach) : PyData := .list (M.map eSt)
structure VMv (bs : List Nat) (far : Nat) (m : Mv) : Prop where
  goal : bs[m.1]? = some m.2.length
  src : ∀ x ∈ m.2, x < far
  nod : m.2.Nodup
structure VSt (bs : List Nat) (s : Ste) : Prop where
  boxes : s.2.1 ≤ 6
  moves : s.2.2.length = s.2.1 + 1
  each : ∀ c m, s.2.2[c]? = some m → VMv bs (if c < s.2.1 then s.2.1 else s.2.1 + 1) m
def bxs (M : Mach) : List Nat := M.map fun s => s.2.1
structure Valid (M : Mach) : Prop where
  pos : 0 < M.length
  le : M.length ≤ 400
  first : (bxs M)[0]? = some 0
  each : ∀ s ∈ M, VSt (bxs M) s
end WK

set_option Elab.async false
set_option linter.all false
set_option maxHeartbeats 4000000
set_option maxRecDepth 100000
noncomputable section
namespace WK
open PySem DL L2

local macro_rules | `(tactic| walk_at "ev") => `(tactic| simp only [ofE_ok, ofE_ok', bnd_ok, bnd_ok', sSeq_ev, sq_nx, sq_rt, sq_er, sq_bk, sq_ct, sIf_ev, sRet_ev, sDrop_ev, sSkip_ev, sRetN_ev, sRaise_ev, sFor_ev, eC_ev, e2_ev, e1_ev, eFn_ev, eCall_ev, aCons_ev, aNil_ev, nNew_ev, eTup_ev, eLst_ev, eIf_ev, eNew_ev, tTru_ev, tNot_ev, tAnd_ev, tOr_ev, tYes_ev, nLc_ev, wipe0, wipeS, tix_ev, set_ev, asg_ev, setO_ev, v0, vS, o0, o0', oS, g0, gS, own0, ownS, setAt0, setAtS, e3_ev, and_ev, or_ev, not_ev, val_ev, asB_b, iSeq_ev, seqOf_l, seqOf_t, iR1_ev, nRng_ev, gT_ev, gs_c, gs_n,
  add_i, sub_i, div_i, mod_i, mul_l, mul_r, neg_i, cmp_i, lt_i, eq_i, ne_i, isN_n, isN_i, isN_l, notN_n, notN_i, len_l, len_t, tru_l, tru_t, tru_b, tup_l, lst_l, lst_t, any_l, all_l, min_i, max_i, oIx_l, oIx_t, oIx_c0, oIx_c1, oIx_c2, limV,
  nup1, nup_le, nup_lt, nup_eq, ← Int.natCast_add,
  posts_some, postg_some, end_rt, end_nx, lp_nx, lp_ct, lp_bk, lp_rt, lp_er, sqq_nx, sqq_rt, sqq_er, sqq_bk, sqq_ct, wO_some, app_w, put_w, frz_o, frzK_some, nlit_le, nlit_lt, nlit_ge, nlit_gt, nlit_eq, nge0, in_tf, all_true, lenset_n, nm4, nm3, nm2, nd4, nd2, eq_n, le_n, mix_ev, 
  Option.map_some, Option.map_none, Option.bind_some, fin_nx, fin_rt, fin_er, List.length_cons, List.length_nil, List.length_map, List.length_append, List.length_range, List.set_cons_zero, List.set_cons_succ, ↓reduceIte, Nat.zero_add, Nat.add_zero, Nat.zero_le, Nat.reduceAdd, Nat.reduceLeDiff, Nat.reduceEqDiff, Int.reduceLT, Int.reduceNeg, Int.reducePow, decide_eq_true_eq, decide_true, decide_false, Bool.not_true, Bool.not_false, Bool.false_eq_true, eq_self, and_self, true_and, and_true, Bool.true_xor, Bool.false_xor])
local macro_rules | `(tactic| walk_at "in") => `(tactic| simp only [rho0, List.map_cons, List.map_nil, List.cons_append, List.nil_append, List.length_cons, List.length_nil, Nat.reduceAdd, Nat.reduceSub, Nat.zero_add, Nat.sub_self, rep0, repS])
local macro_rules | `(tactic| walk_at "evh") => `(tactic| simp only [*, ofE_ok, ofE_ok', bnd_ok, bnd_ok', sSeq_ev, sq_nx, sq_rt, sq_er, sq_bk, sq_ct, sIf_ev, sRet_ev, sDrop_ev, sSkip_ev, sRetN_ev, sRaise_ev, sFor_ev, eC_ev, e2_ev, e1_ev, eFn_ev, eCall_ev, aCons_ev, aNil_ev, nNew_ev, eTup_ev, eLst_ev, eIf_ev, eNew_ev, tTru_ev, tNot_ev, tAnd_ev, tOr_ev, tYes_ev, nLc_ev, wipe0, wipeS, tix_ev, set_ev, asg_ev, setO_ev, v0, vS, o0, o0', oS, g0, gS, own0, ownS, setAt0, setAtS, e3_ev, and_ev, or_ev, not_ev, val_ev, asB_b, iSeq_ev, seqOf_l, seqOf_t, iR1_ev, nRng_ev, gT_ev, gs_c, gs_n,
  add_i, sub_i, div_i, mod_i, mul_l, mul_r, neg_i, cmp_i, lt_i, eq_i, ne_i, isN_n, isN_i, isN_l, notN_n, notN_i, len_l, len_t, tru_l, tru_t, tru_b, tup_l, lst_l, lst_t, any_l, all_l, min_i, max_i, oIx_l, oIx_t, oIx_c0, oIx_c1, oIx_c2, limV,
  nup1, nup_le, nup_lt, nup_eq, ← Int.natCast_add,
  posts_some, postg_some, end_rt, end_nx, lp_nx, lp_ct, lp_bk, lp_rt, lp_er, sqq_nx, sqq_rt, sqq_er, sqq_bk, sqq_ct, wO_some, app_w, put_w, frz_o, frzK_some, nlit_le, nlit_lt, nlit_ge, nlit_gt, nlit_eq, nge0, in_tf, all_true, lenset_n, nm4, nm3, nm2, nd4, nd2, eq_n, le_n, mix_ev, 
  Option.map_some, Option.map_none, Option.bind_some, fin_nx, fin_rt, fin_er, List.length_cons, List.length_nil, List.length_map, List.length_append, List.length_range, List.set_cons_zero, List.set_cons_succ, ↓reduceIte, Nat.zero_add, Nat.add_zero, Nat.zero_le, Nat.reduceAdd, Nat.reduceLeDiff, Nat.reduceEqDiff, Int.reduceLT, Int.reduceNeg, Int.reducePow, decide_eq_true_eq, decide_true, decide_false, Bool.not_true, Bool.not_false, Bool.false_eq_true, eq_self, and_self, true_and, and_true, Bool.true_xor, Bool.false_xor])
theorem list4 (w : Nat) (h : w < 4) : ∃ b, oIx (.list [.int 0, .int 1, .int 1, .int 2]) (cN w) = ok (cN b) ∧ b ≤ 2 := by
  match w, h with
  | 0, _ => exact ⟨0, rfl, by decide⟩
  | 1, _ => exact ⟨1, rfl, by decide⟩
  | 2, _ => exact ⟨1, rfl, by decide⟩
  | 3, _ => exact ⟨2, rfl, by decide⟩
theorem get_snoc {a : Type} {xs : List a} {x y : a} {i : Nat} (h : (xs ++ [x])[i]? = some y) : (xs[i]? = some y) ∨ (i = xs.length ∧ y = x) := by
  rw [List.getElem?_append] at h
  split at h
  · exact .inl h
  · rename_i hi
    obtain ⟨h1, h2⟩ := List.getElem?_eq_some_iff.mp h
    rw [List.length_singleton] at h1
    have : i - xs.length = 0 := by omega
    exact .inr ⟨by omega, by rw [← h2]; simp [this]⟩
theorem machine_is (ns : List Int) (k : Int) (most : Nat) (h0 : 0 < most) (h4 : most ≤ 400) : Post (fun d => ∃ M, d = eM M ∧ Valid M ∧ M.length ≤ most ∧ ∀ s ∈ M, s.2.1 ≤ 2) (m__law_machine [.list (ns.map .int), .int k, cN most]) := by
  refine post_run (by rfl) ?_
  walk_at "in"
  rw [b__law_machine]
  have hm := mod_n (i := mixv ns k) h0
  have hml := Nat.mod_lt (mixv ns k) h0
  have hr := rng1_n (n := mixv ns k % most) (by omega)
  walk_at "evh"
  refine posts_sq (posts_for (fun i r => ∃ (bs : List Nat) (j : Option B), r = [some (.d (.list (ns.map .int))), some (.d (.int k)), some (.d (cN most)), some (.own (bs.map cN)), j, none, none, none, none, none, none, none] ∧ Eqn bs.length (i + 1) ∧ bs[0]? = some 0 ∧ ∀ b ∈ bs, b ≤ 2) ?_ ?_ ?_)
  · exact ⟨[0], none, rfl, rfl, rfl, by simp⟩
  · rintro i x r hx ⟨bs, j, rfl, e1, e2, e3⟩
    obtain ⟨y, hy, rfl⟩ := getq_map hx
    obtain ⟨rfl, hyl⟩ := getq_range hy
    have e1' := e1.le
    obtain ⟨b, hb, hb2⟩ := list4 (mixv ns (k + 1 + (y : Nat)) % 4) (Nat.mod_lt _ (by decide))
    have hl : bs.length < 1000000 := by omega
    walk_at "evh"
    exact ⟨bs ++ [b], _, by rw [List.map_append]; rfl, by show _ = _; rw [List.length_append, List.length_singleton]; omega, by rw [List.getElem?_append_left (by omega)]; assumption, fun z hz => by
      rcases List.mem_append.mp hz with q | q
      · exact e3 z q
      · rw [List.mem_singleton.mp q]; exact hb2⟩
  · rintro r ⟨bs, j, rfl, e1, e2, e3⟩
    rw [List.length_map, List.length_range] at e1
    have e1' := e1.le
    have hbl : bs.length ≤ most := by omega
    have hr2 := rng1_n (n := bs.length) (by omega)
    walk_at "evh"
    refine posts_sq (posts_for (fun i r => ∃ (L : List Ste) (j4 j6 j7 j8 j9 j10 j11 : Option B), r = [some (.d (.list (ns.map .int))), some (.d (.int k)), some (.d (cN most)), some (.own (bs.map cN)), j4, some (.own (L.map eSt)), j6, j7, j8, j9, j10, j11] ∧ Eqn (bxs L) (bs.take i) ∧ ∀ s ∈ L, VSt bs s) ?_ ?_ ?_)
    · exact ⟨[], j, none, none, none, none, none, none, rfl, rfl, by simp⟩
    · rintro i x r hx ⟨L, j4, j6, j7, j8, j9, j10, j11, rfl, f1, f2⟩
      obtain ⟨y, hy, rfl⟩ := getq_map hx
      obtain ⟨rfl, hyl⟩ := getq_range hy
      have hb2 : bs[y] ≤ 2 := e3 _ (List.getElem_mem hyl)
      have hr3 := rng1_n (n := bs[y] + 1) (by omega)
      walk_at "evh"
      refine posts_sq (posts_for (fun i r => ∃ (L2 : List Mv) (j8 j9 j10 j11 : Option B), r = [some (.d (.list (ns.map .int))), some (.d (.int k)), some (.d (cN most)), some (.own (bs.map cN)), j4, some (.own (L.map eSt)), some (.d (cN y)), some (.own (L2.map eMv)), j8, j9, j10, j11] ∧ Eqn L2.length i ∧ ∀ c m, L2[c]? = some m → VMv bs (if c < bs[y] then bs[y] else bs[y] + 1) m) ?_ ?_ ?_)
      · exact ⟨[], j8, j9, j10, j11, rfl, rfl, by simp⟩
      · rintro i x r hx ⟨L2, j8, j9, j10, j11, rfl, g1, g2⟩
        obtain ⟨c, hc, rfl⟩ := getq_map hx
        obtain ⟨rfl, hcl⟩ := getq_range hc
        obtain ⟨t, ht, htf, ht1⟩ : ∃ t : Nat, oInt [.bool (decide (c = bs[y]))] = ok (cN t) ∧ Eqn (bs[y] + t) (if c < bs[y] then bs[y] else bs[y] + 1) ∧ t ≤ 1 := by
          by_cases hcb : c = bs[y]
          · rw [decide_eq_true hcb, if_neg (by omega)]; exact ⟨1, rfl, rfl, by decide⟩
          · rw [decide_eq_false hcb, if_pos (by omega)]; exact ⟨0, rfl, rfl, by decide⟩
        walk_at "evh"
        have hlb : (List.range bs.length).length ≤ 1000000 := by rw [List.length_range]; omega
        have h0i : 0 < bs.length := by omega
        have hb0 : bs[0] = 0 := by rw [List.getElem?_eq_getElem h0i] at e2; exact Option.some.inj e2
        obtain ⟨gs, hgs⟩ : ∃ gs, Eqn gs ((List.range bs.length).filter (fun g => decide (bs.getD g 0 ≤ bs[y] + t))) := ⟨_, Eqn.rf⟩
        have hgm : ∀ g ∈ gs, ∃ h : g < bs.length, bs[g] ≤ bs[y] + t := fun g hg => by
          rw [(hgs : _ = _), List.mem_filter, List.mem_range] at hg
          refine ⟨hg.1, ?_⟩
          have := of_decide_eq_true hg.2
          rwa [List.getD_eq_getElem?_getD, List.getElem?_eq_getElem hg.1] at this
        have hg0 : 0 < gs.length := by
          refine List.length_pos_of_mem (a := 0) ?_
          rw [(hgs : _ = _), List.mem_filter, List.mem_range]
          refine ⟨h0i, decide_eq_true ?_⟩
          rw [List.getD_eq_getElem?_getD, List.getElem?_eq_getElem h0i, hb0]; exact Nat.zero_le _
        rw [lc_mapG (enc := cN) (fun g => decide (bs.getD g 0 ≤ bs[y] + t)) cN (List.range bs.length) hlb fun g hg => by
          have hgl := List.mem_range.mp hg
          walk_at "evh"
          rw [List.getD_eq_getElem?_getD, List.getElem?_eq_getElem hgl]
          exact ⟨rfl, fun _ => trivial⟩, ← (hgs : _ = _)]
        have hm4 := mod_n (i := mixv ns (k + 8 + 5 * (y : Nat) + (c : Nat))) hg0
        have hgl := Nat.mod_lt (mixv ns (k + 8 + 5 * (y : Nat) + (c : Nat))) hg0
        obtain ⟨hgb, hgf⟩ := hgm _ (List.getElem_mem hgl)
        obtain ⟨ss, s1, s2, s3, s4⟩ := sources_is ns (k + 40 + 9 * (y : Nat) + 3 * (c : Nat)) (bs[gs[mixv ns (k + 8 + 5 * (y : Nat) + (c : Nat)) % gs.length]]'hgb) (bs[y] + t) hgf (by have := g1.le; omega)
        have g1' := g1.le
        have hl2 : L2.length < 1000000 := by omega
        walk_at "evh"
        refine ⟨L2 ++ [(gs[mixv ns (k + 8 + 5 * (y : Nat) + (c : Nat)) % gs.length], ss)], _, _, _, _, by rw [List.map_append]; rfl, by show _ = _; rw [List.length_append, List.length_singleton]; omega, fun c' m' hm' => ?_⟩
        rcases get_snoc hm' with q | ⟨q, rfl⟩
        · exact g2 _ _ q
        · have : c' = c := by omega
          subst this
          rw [← (htf : _ = _)]
          exact ⟨by rw [s2]; exact List.getElem?_eq_getElem hgb, s4, s3⟩
      · rintro r ⟨L2, j8, j9, j10, j11, rfl, g1, g2⟩
        rw [List.length_map, List.length_range] at g1
        have hLl : L.length < 1000000 := by
          have := congrArg List.length f1
          rw [bxs, List.length_map, List.length_take] at this
          omega
        walk_at "evh"
        have g1' := g1.le
        refine ⟨L ++ [(decide (mixv ns (k + 30 + (y : Nat)) / 4 % 2 = 0), bs[y], L2)], _, _, _, _, _, _, _, by rw [List.map_append]; rfl, ?_, fun s hs => ?_⟩
        · show bxs _ = _
          rw [bxs, List.map_append, show L.map (fun s => s.2.1) = bs.take y from f1, List.take_succ_eq_append_getElem hyl]; rfl
        · rcases List.mem_append.mp hs with q | q
          · exact f2 s q
          · rw [List.mem_singleton.mp q]
            exact ⟨by show bs[y] ≤ 6; omega, g1, g2⟩
    · rintro r ⟨L, j4, j6, j7, j8, j9, j10, j11, rfl, f1, f2⟩
      rw [List.length_map, List.length_range] at f1
      walk_at "ev"
      have hbx : bxs L = bs := by rw [show bxs L = bs.take bs.length from f1, List.take_length]
      have hln : L.length = bs.length := by rw [← hbx, bxs, List.length_map]
      refine ⟨L, rfl, ⟨by omega, by omega, by rw [hbx]; exact e2, by rw [hbx]; exact f2⟩, by omega, fun s hs => e3 _ ?_⟩
      rw [← hbx]
      exact List.mem_map_of_mem hs
end WK

set_option Elab.async false
set_option linter.all false
set_option maxHeartbeats 4000000
set_option maxRecDepth 100000
noncomputable section
namespace WK
open PySem DL L2

local macro_rules | `(tactic| walk_at "ev") => `(tactic| simp only [ofE_ok, ofE_ok', bnd_ok, bnd_ok', sSeq_ev, sq_nx, sq_rt, sq_er, sq_bk, sq_ct, sIf_ev, sRet_ev, sDrop_ev, sSkip_ev, sRetN_ev, sRaise_ev, sFor_ev, eC_ev, e2_ev, e1_ev, eFn_ev, eCall_ev, aCons_ev, aNil_ev, nNew_ev, eTup_ev, eLst_ev, eIf_ev, eNew_ev, tTru_ev, tNot_ev, tAnd_ev, tOr_ev, tYes_ev, nLc_ev, wipe0, wipeS, tix_ev, set_ev, asg_ev, setO_ev, v0, vS, o0, o0', oS, g0, gS, own0, ownS, setAt0, setAtS, e3_ev, and_ev, or_ev, not_ev, val_ev, asB_b, iSeq_ev, seqOf_l, seqOf_t, iR1_ev, nRng_ev, gT_ev, gs_c, gs_n,
  add_i, sub_i, div_i, mod_i, mul_l, mul_r, neg_i, cmp_i, lt_i, eq_i, ne_i, isN_n, isN_i, isN_l, notN_n, notN_i, len_l, len_t, tru_l, tru_t, tru_b, tup_l, lst_l, lst_t, any_l, all_l, min_i, max_i, oIx_l, oIx_t, oIx_c0, oIx_c1, oIx_c2, limV,
  nup1, nup_le, nup_lt, nup_eq, ← Int.natCast_add,
  posts_some, postg_some, end_rt, end_nx, lp_nx, lp_ct, lp_bk, lp_rt, lp_er, sqq_nx, sqq_rt, sqq_er, sqq_bk, sqq_ct, wO_some, app_w, put_w, frz_o, frzK_some, nlit_le, nlit_lt, nlit_ge, nlit_gt, nlit_eq, nge0, in_tf, all_true, lenset_n, nm4, nm3, nm2, nd4, nd2, eq_n, le_n, mix_ev, eMv, eSt, eM, 
  Option.map_some, Option.map_none, Option.bind_some, fin_nx, fin_rt, fin_er, List.length_cons, List.length_nil, List.length_map, List.length_append, List.length_range, List.set_cons_zero, List.set_cons_succ, ↓reduceIte, Nat.zero_add, Nat.add_zero, Nat.zero_le, Nat.reduceAdd, Nat.reduceLeDiff, Nat.reduceEqDiff, Int.reduceLT, Int.reduceNeg, Int.reducePow, decide_eq_true_eq, decide_true, decide_false, Bool.not_true, Bool.not_false, Bool.false_eq_true, eq_self, and_self, true_and, and_true, Bool.true_xor, Bool.false_xor])
local macro_rules | `(tactic| walk_at "in") => `(tactic| simp only [rho0, List.map_cons, List.map_nil, List.cons_append, List.nil_append, List.length_cons, List.length_nil, Nat.reduceAdd, Nat.reduceSub, Nat.zero_add, Nat.sub_self, rep0, repS])
local macro_rules | `(tactic| walk_at "evh") => `(tactic| simp only [*, ofE_ok, ofE_ok', bnd_ok, bnd_ok', sSeq_ev, sq_nx, sq_rt, sq_er, sq_bk, sq_ct, sIf_ev, sRet_ev, sDrop_ev, sSkip_ev, sRetN_ev, sRaise_ev, sFor_ev, eC_ev, e2_ev, e1_ev, eFn_ev, eCall_ev, aCons_ev, aNil_ev, nNew_ev, eTup_ev, eLst_ev, eIf_ev, eNew_ev, tTru_ev, tNot_ev, tAnd_ev, tOr_ev, tYes_ev, nLc_ev, wipe0, wipeS, tix_ev, set_ev, asg_ev, setO_ev, v0, vS, o0, o0', oS, g0, gS, own0, ownS, setAt0, setAtS, e3_ev, and_ev, or_ev, not_ev, val_ev, asB_b, iSeq_ev, seqOf_l, seqOf_t, iR1_ev, nRng_ev, gT_ev, gs_c, gs_n,
  add_i, sub_i, div_i, mod_i, mul_l, mul_r, neg_i, cmp_i, lt_i, eq_i, ne_i, isN_n, isN_i, isN_l, notN_n, notN_i, len_l, len_t, tru_l, tru_t, tru_b, tup_l, lst_l, lst_t, any_l, all_l, min_i, max_i, oIx_l, oIx_t, oIx_c0, oIx_c1, oIx_c2, limV,
  nup1, nup_le, nup_lt, nup_eq, ← Int.natCast_add,
  posts_some, postg_some, end_rt, end_nx, lp_nx, lp_ct, lp_bk, lp_rt, lp_er, sqq_nx, sqq_rt, sqq_er, sqq_bk, sqq_ct, wO_some, app_w, put_w, frz_o, frzK_some, nlit_le, nlit_lt, nlit_ge, nlit_gt, nlit_eq, nge0, in_tf, all_true, lenset_n, nm4, nm3, nm2, nd4, nd2, eq_n, le_n, mix_ev, eMv, eSt, eM, 
  Option.map_some, Option.map_none, Option.bind_some, fin_nx, fin_rt, fin_er, List.length_cons, List.length_nil, List.length_map, List.length_append, List.length_range, List.set_cons_zero, List.set_cons_succ, ↓reduceIte, Nat.zero_add, Nat.add_zero, Nat.zero_le, Nat.reduceAdd, Nat.reduceLeDiff, Nat.reduceEqDiff, Int.reduceLT, Int.reduceNeg, Int.reducePow, decide_eq_true_eq, decide_true, decide_false, Bool.not_true, Bool.not_false, Bool.false_eq_true, eq_self, and_self, true_and, and_true, Bool.true_xor, Bool.false_xor])
theorem VSt.goal {M : Mach} {s : Ste} (h : VSt (bxs M) s) {c : Nat} {m : Mv} (hm : s.2.2[c]? = some m) : ∃ hl : m.1 < M.length, m.2.length = (M[m.1]'hl).2.1 := by
  have := (h.each c m hm).goal
  rw [bxs, List.getElem?_map] at this
  cases e : M[m.1]? with
  | none => rw [e] at this; cases this
  | some t =>
    obtain ⟨hl, q⟩ := List.getElem?_eq_some_iff.mp e
    rw [e] at this
    refine ⟨hl, ?_⟩
    rw [q]
    exact (Option.some.inj this).symm
theorem look_state_is (M : Mach) (s : Ste) (h : VSt (bxs M) s) (hM : M.length ≤ 400) (hb : ∀ s ∈ M, s.2.1 ≤ 6) : m_look_state [eM M, eSt s] = ok .none := by
  have key : Post (fun d => d = .none) (m_look_state [eM M, eSt s]) := by
    refine post_run (by rfl) ?_
    walk_at "in"
    rw [b_look_state]
    have hmv := h.moves
    have hbx := h.boxes
    have hr := rng1_n (n := s.2.1 + 1) (by omega)
    walk_at "evh"
    refine posts_for (fun i r => ∃ (j5 j6 j7 j8 j9 : Option B), r = [some (.d (.list (M.map eSt))), some (.d (.tuple [.bool s.1, cN s.2.1, .list (s.2.2.map eMv)])), some (.d (.bool s.1)), some (.d (cN s.2.1)), some (.d (.list (s.2.2.map eMv))), j5, j6, j7, j8, j9]) ?_ ?_ ?_
    · exact ⟨none, none, none, none, none, rfl⟩
    · rintro i x r hx ⟨j5, j6, j7, j8, j9, rfl⟩
      obtain ⟨y, hy, rfl⟩ := getq_map hx
      obtain ⟨rfl, hyl⟩ := getq_range hy
      have hyl' : y < s.2.2.length := by omega
      obtain ⟨hg, hsl⟩ := h.goal (List.getElem?_eq_getElem hyl')
      have hv := h.each y _ (List.getElem?_eq_getElem hyl')
      have hs6 := hb _ (List.getElem_mem hg)
      have hsrc : (s.2.2[y]'hyl').2.length ≤ 1000000 := by omega
      have hs4 : (M[(s.2.2[y]'hyl').1]'hg).2.1 < 4000 := by omega
      have hnod := hv.nod
      by_cases hc : y < s.2.1
      · have hlc := hv.src
        rw [if_pos hc] at hlc
        walk_at "evh"
        rw [lc_allG (enc := cN) (fun _ => .bool true) _ hsrc fun z hz => by
          have := hlc z hz
          walk_at "evh"]
        walk_at "evh"
        exact ⟨_, _, _, _, _, rfl⟩
      · have hlc := hv.src
        rw [if_neg hc] at hlc
        walk_at "evh"
        rw [lc_allG (enc := cN) (fun _ => .bool true) _ hsrc fun z hz => by
          have := hlc z hz
          walk_at "evh"]
        walk_at "evh"
        exact ⟨_, _, _, _, _, rfl⟩
    · rintro r ⟨j5, j6, j7, j8, j9, rfl⟩
      walk_at "evh"
  obtain ⟨d, e, rfl⟩ := key
  exact e

theorem look_is (M : Mach) (h : Valid M) : m_look_machine [eM M] = ok .none := by
  have key : Post (fun d => d = .none) (m_look_machine [eM M]) := by
    refine post_run (by rfl) ?_
    walk_at "in"
    rw [b_look_machine]
    have h1 : 1 ≤ M.length := h.pos
    have h2 := h.le
    have h3 : oIx (.list (M.map eSt)) (.int 0) = ok (eSt (M[0]'h.pos)) := oIx_list eSt M 0 _ (List.getElem?_eq_getElem h.pos)
    have h4 : (M[0]'h.pos).2.1 = 0 := by
      have := h.first
      rw [bxs, List.getElem?_map, List.getElem?_eq_getElem h.pos] at this
      exact Option.some.inj this
    walk_at "evh"
    refine posts_for (fun i r => ∃ (j1 : Option B), r = [some (.d (.list (M.map eSt))), j1]) ?_ ?_ ?_
    · exact ⟨_, rfl⟩
    · rintro i x r hx ⟨j1, rfl⟩
      obtain ⟨s, hs, rfl⟩ := getq_map hx
      have hl := look_state_is M s (h.each s (List.mem_of_getElem? hs)) h.le fun s hs => (h.each s hs).boxes
      have hs2 : eSt s = .tuple [.bool s.1, cN s.2.1, .list (s.2.2.map eMv)] := rfl
      unfold eM at hl
      rw [hs2] at hl ⊢
      walk_at "evh"
      exact ⟨_, rfl⟩
    · rintro r ⟨j1, rfl⟩
      walk_at "evh"
  obtain ⟨d, e, rfl⟩ := key
  exact e
abbrev Cfg := Nat × List Nat
def eCf (q : Cfg) : PyData := .tuple [cN q.1, .tuple (q.2.map cN)]
end WK

set_option Elab.async false
set_option linter.all false
set_option maxHeartbeats 4000000
set_option maxRecDepth 100000
noncomputable section
namespace WK
open PySem DL L2

local macro_rules | `(tactic| walk_at "ev") => `(tactic| simp only [ofE_ok, ofE_ok', bnd_ok, bnd_ok', sSeq_ev, sq_nx, sq_rt, sq_er, sq_bk, sq_ct, sIf_ev, sRet_ev, sDrop_ev, sSkip_ev, sRetN_ev, sRaise_ev, sFor_ev, eC_ev, e2_ev, e1_ev, eFn_ev, eCall_ev, aCons_ev, aNil_ev, nNew_ev, eTup_ev, eLst_ev, eIf_ev, eNew_ev, tTru_ev, tNot_ev, tAnd_ev, tOr_ev, tYes_ev, nLc_ev, wipe0, wipeS, tix_ev, set_ev, asg_ev, setO_ev, v0, vS, o0, o0', oS, g0, gS, own0, ownS, setAt0, setAtS, e3_ev, and_ev, or_ev, not_ev, val_ev, asB_b, iSeq_ev, seqOf_l, seqOf_t, iR1_ev, nRng_ev, gT_ev, gs_c, gs_n,
  add_i, sub_i, div_i, mod_i, mul_l, mul_r, neg_i, cmp_i, lt_i, eq_i, ne_i, isN_n, isN_i, isN_l, notN_n, notN_i, len_l, len_t, tru_l, tru_t, tru_b, tup_l, lst_l, lst_t, any_l, all_l, min_i, max_i, oIx_l, oIx_t, oIx_c0, oIx_c1, oIx_c2, limV,
  nup1, nup_le, nup_lt, nup_eq, ← Int.natCast_add,
  posts_some, postg_some, end_rt, end_nx, lp_nx, lp_ct, lp_bk, lp_rt, lp_er, sqq_nx, sqq_rt, sqq_er, sqq_bk, sqq_ct, wO_some, app_w, put_w, frz_o, frzK_some, nlit_le, nlit_lt, nlit_ge, nlit_gt, nlit_eq, nge0, in_tf, all_true, lenset_n, nm4, nm3, nm2, nd4, nd2, eq_n, le_n, mix_ev, eMv, eSt, eM, eCf, gT_ev', 
  Option.map_some, Option.map_none, Option.bind_some, fin_nx, fin_rt, fin_er, List.length_cons, List.length_nil, List.length_map, List.length_append, List.length_range, List.set_cons_zero, List.set_cons_succ, ↓reduceIte, Nat.zero_add, Nat.add_zero, Nat.zero_le, Nat.reduceAdd, Nat.reduceLeDiff, Nat.reduceEqDiff, Int.reduceLT, Int.reduceNeg, Int.reducePow, decide_eq_true_eq, decide_true, decide_false, Bool.not_true, Bool.not_false, Bool.false_eq_true, eq_self, and_self, true_and, and_true, Bool.true_xor, Bool.false_xor])
local macro_rules | `(tactic| walk_at "in") => `(tactic| simp only [rho0, List.map_cons, List.map_nil, List.cons_append, List.nil_append, List.length_cons, List.length_nil, Nat.reduceAdd, Nat.reduceSub, Nat.zero_add, Nat.sub_self, rep0, repS])
local macro_rules | `(tactic| walk_at "evh") => `(tactic| simp only [*, ofE_ok, ofE_ok', bnd_ok, bnd_ok', sSeq_ev, sq_nx, sq_rt, sq_er, sq_bk, sq_ct, sIf_ev, sRet_ev, sDrop_ev, sSkip_ev, sRetN_ev, sRaise_ev, sFor_ev, eC_ev, e2_ev, e1_ev, eFn_ev, eCall_ev, aCons_ev, aNil_ev, nNew_ev, eTup_ev, eLst_ev, eIf_ev, eNew_ev, tTru_ev, tNot_ev, tAnd_ev, tOr_ev, tYes_ev, nLc_ev, wipe0, wipeS, tix_ev, set_ev, asg_ev, setO_ev, v0, vS, o0, o0', oS, g0, gS, own0, ownS, setAt0, setAtS, e3_ev, and_ev, or_ev, not_ev, val_ev, asB_b, iSeq_ev, seqOf_l, seqOf_t, iR1_ev, nRng_ev, gT_ev, gs_c, gs_n,
  add_i, sub_i, div_i, mod_i, mul_l, mul_r, neg_i, cmp_i, lt_i, eq_i, ne_i, isN_n, isN_i, isN_l, notN_n, notN_i, len_l, len_t, tru_l, tru_t, tru_b, tup_l, lst_l, lst_t, any_l, all_l, min_i, max_i, oIx_l, oIx_t, oIx_c0, oIx_c1, oIx_c2, limV,
  nup1, nup_le, nup_lt, nup_eq, ← Int.natCast_add,
  posts_some, postg_some, end_rt, end_nx, lp_nx, lp_ct, lp_bk, lp_rt, lp_er, sqq_nx, sqq_rt, sqq_er, sqq_bk, sqq_ct, wO_some, app_w, put_w, frz_o, frzK_some, nlit_le, nlit_lt, nlit_ge, nlit_gt, nlit_eq, nge0, in_tf, all_true, lenset_n, nm4, nm3, nm2, nd4, nd2, eq_n, le_n, mix_ev, eMv, eSt, eM, eCf, gT_ev', 
  Option.map_some, Option.map_none, Option.bind_some, fin_nx, fin_rt, fin_er, List.length_cons, List.length_nil, List.length_map, List.length_append, List.length_range, List.set_cons_zero, List.set_cons_succ, ↓reduceIte, Nat.zero_add, Nat.add_zero, Nat.zero_le, Nat.reduceAdd, Nat.reduceLeDiff, Nat.reduceEqDiff, Int.reduceLT, Int.reduceNeg, Int.reducePow, decide_eq_true_eq, decide_true, decide_false, Bool.not_true, Bool.not_false, Bool.false_eq_true, eq_self, and_self, true_and, and_true, Bool.true_xor, Bool.false_xor])
theorem tix_n {a : Nat} {held : List Nat} (h : a ∈ held) : tixO (.tuple (held.map cN)) (cN a) = ok (cN (held.idxOf a)) := by
  have h1 := (enc_tup enc_nat).shaped (x := held) (by omega)
  have h2 := enc_nat.shaped (x := a) (by omega)
  unfold tixO
  simp only
  rw [if_pos ⟨h1, h2⟩, firstAt_enc enc_nat, if_pos h]
theorem in_tn {neg : Bool} {a : Nat} {held : List Nat} : oIn neg (cN a) (.tuple (held.map cN)) = ok (.bool (neg ^^ decide (a ∈ held))) := oIn_tup enc_nat (by omega) neg a held
theorem in_ln {neg : Bool} {a : Nat} {held : List Nat} : oIn neg (cN a) (.list (held.map cN)) = ok (.bool (neg ^^ decide (a ∈ held))) := oIn_list enc_nat (by omega) neg a held
theorem snoc_t {a : Nat} {held : List Nat} (h : held.length < 1000000) : oAdd (.tuple (held.map cN)) (.tuple [cN a]) = ok (.tuple ((held ++ [a]).map cN)) := cat_t (f := cN) (xs := held) (ys := [a]) (by rw [lim_is]; exact h)
theorem snoc_l {a : Nat} {held : List Nat} (h : held.length < 1000000) : oAdd (.list (held.map cN)) (.list [cN a]) = ok (.list ((held ++ [a]).map cN)) := cat_l (f := cN) (xs := held) (ys := [a]) (by rw [lim_is]; exact h)

/-! ### configurations -/
def stA (M : Mach) (q : Nat) : Ste := M.getD q (false, 0, [])
def mvA (M : Mach) (q c : Nat) : Mv := (stA M q).2.2.getD c (0, [])
def step (M : Mach) (q : Cfg) (a : Nat) : Cfg := ((mvA M q.1 (q.2.idxOf a)).1, (mvA M q.1 (q.2.idxOf a)).2.map fun x => (q.2 ++ [a]).getD x 0)
structure VC (M : Mach) (q : Cfg) : Prop where
  st : q.1 < M.length
  len : q.2.length = (stA M q.1).2.1
  nod : q.2.Nodup
theorem stA_mem {M : Mach} {q : Nat} (h : q < M.length) : stA M q ∈ M ∧ M[q]? = some (stA M q) ∧ M[q] = stA M q := by
  have : stA M q = M[q] := by unfold stA; rw [List.getD_eq_getElem?_getD, List.getElem?_eq_getElem h]; rfl
  rw [this]
  exact ⟨List.getElem_mem h, List.getElem?_eq_getElem h, rfl⟩
theorem idx_le {a : Nat} {held : List Nat} : held.idxOf a ≤ held.length ∧ (a ∈ held → held.idxOf a < held.length) := by
  refine ⟨List.idxOf_le_length, fun h => List.idxOf_lt_length_iff.mpr h⟩
theorem mvA_ok {M : Mach} (V : Valid M) {q : Nat} (hq : q < M.length) {c : Nat} (hc : c ≤ (stA M q).2.1) : (stA M q).2.2[c]? = some (mvA M q c) ∧ VMv (bxs M) (if c < (stA M q).2.1 then (stA M q).2.1 else (stA M q).2.1 + 1) (mvA M q c) := by
  have hv := V.each _ (stA_mem hq).1
  have hl : c < (stA M q).2.2.length := by have := hv.moves; omega
  have e : (stA M q).2.2[c]? = some (mvA M q c) := by
    unfold mvA; rw [List.getD_eq_getElem?_getD, List.getElem?_eq_getElem hl]; rfl
  exact ⟨e, hv.each c _ e⟩
theorem VMv.lt {M : Mach} {f : Nat} {m : Mv} (h : VMv (bxs M) f m) : m.1 < M.length ∧ m.2.length = (stA M m.1).2.1 := by
  have := h.goal
  rw [bxs, List.getElem?_map] at this
  cases e : M[m.1]? with
  | none => rw [e] at this; cases this
  | some t =>
    obtain ⟨hl, q⟩ := List.getElem?_eq_some_iff.mp e
    have e2 := (stA_mem hl).2.1
    rw [e] at this e2
    refine ⟨hl, ?_⟩
    rw [← Option.some.inj e2]
    exact (Option.some.inj this).symm
theorem getD_inj {xs : List Nat} (h : xs.Nodup) {i j : Nat} (hi : i < xs.length) (hj : j < xs.length) (e : xs.getD i 0 = xs.getD j 0) : i = j := by
  rw [List.getD_eq_getElem?_getD, List.getD_eq_getElem?_getD, List.getElem?_eq_getElem hi, List.getElem?_eq_getElem hj] at e
  exact (List.getElem_inj h).mp e
theorem nodup_map_on {a b : Type} {f : a → b} : ∀ {xs : List a}, (∀ x ∈ xs, ∀ y ∈ xs, f x = f y → x = y) → xs.Nodup → (xs.map f).Nodup
  | [], _, _ => List.nodup_nil
  | x :: xs, hf, h => by
    rw [List.nodup_cons] at h
    rw [List.map_cons, List.nodup_cons]
    refine ⟨fun q => ?_, nodup_map_on (fun y hy z hz => hf y (List.mem_cons_of_mem _ hy) z (List.mem_cons_of_mem _ hz)) h.2⟩
    obtain ⟨y, hy, e⟩ := List.mem_map.mp q
    have := hf y (List.mem_cons_of_mem _ hy) x List.mem_cons_self e
    rw [this] at hy
    exact h.1 hy
theorem VC.step {M : Mach} (V : Valid M) {q : Cfg} (h : VC M q) (a : Nat) : VC M (step M q a) := by
  have hc : q.2.idxOf a ≤ (stA M q.1).2.1 := by rw [← h.len]; exact idx_le.1
  obtain ⟨_, hm⟩ := mvA_ok V h.st hc
  refine ⟨hm.lt.1, ?_, ?_⟩
  · show (List.map _ _).length = _
    rw [List.length_map]; exact hm.lt.2
  · show (List.map _ _).Nodup
    have hs := hm.src
    rw [← h.len] at hs
    by_cases ha : a ∈ q.2
    · have hi := (idx_le (held := q.2)).2 ha
      rw [if_pos hi] at hs
      refine nodup_map_on (fun x hx y hy e => ?_) hm.nod
      have hx' := hs x hx
      have hy' := hs y hy
      have key : ∀ z, z < q.2.length → (q.2 ++ [a]).getD z 0 = q.2.getD z 0 := fun z hz => by
        rw [List.getD_eq_getElem?_getD, List.getD_eq_getElem?_getD, List.getElem?_append_left hz]
      rw [key x hx', key y hy'] at e
      exact getD_inj h.nod hx' hy' e
    · have hi : q.2.idxOf a = q.2.length := List.idxOf_eq_length ha
      rw [hi, if_neg (Nat.lt_irrefl _)] at hs
      have hn : (q.2 ++ [a]).Nodup := List.nodup_append.mpr ⟨h.nod, by simp, fun x hx y hy e => by
        rw [List.mem_singleton] at hy
        rw [e, hy] at hx; exact ha hx⟩
      rw [← hi] at hs
      refine nodup_map_on (fun x hx y hy e => ?_) hm.nod
      have hx' := hs x hx
      have hy' := hs y hy
      rw [hi] at hx' hy'
      exact getD_inj hn (by rw [List.length_append]; exact hx') (by rw [List.length_append]; exact hy') e
theorem stepped_is {M : Mach} (V : Valid M) {q : Cfg} (h : VC M q) (a : Nat) : m_stepped [eM M, eCf q, cN a] = ok (eCf (step M q a)) := by
  have key : Post (fun d => d = eCf (step M q a)) (m_stepped [eM M, eCf q, cN a]) := by
    refine post_run (by rfl) ?_
    walk_at "in"
    rw [b_stepped, eCf]
    have h1 : oIx (.list (M.map eSt)) (cN q.1) = ok (eSt (stA M q.1)) := oIx_list eSt M q.1 _ (stA_mem h.st).2.1
    have hc : q.2.idxOf a ≤ (stA M q.1).2.1 := by rw [← h.len]; exact idx_le.1
    obtain ⟨e1, hm⟩ := mvA_ok V h.st hc
    have h2 : oIx (.list ((stA M q.1).2.2.map eMv)) (cN (q.2.idxOf a)) = ok (eMv (mvA M q.1 (q.2.idxOf a))) := oIx_list eMv _ _ _ e1
    have hb := (V.each _ (stA_mem h.st).1).boxes
    have hl : q.2.length < 1000000 := by have := h.len; omega
    have h3 := snoc_t (a := a) hl
    have h4 := in_tn (neg := false) (a := a) (held := q.2)
    have hsl : (mvA M q.1 (q.2.idxOf a)).2.length ≤ 1000000 := by
      have := (V.each _ (stA_mem hm.lt.1).1).boxes
      have := hm.lt.2
      omega
    have hsr : ∀ x ∈ (mvA M q.1 (q.2.idxOf a)).2, x < q.2.length + 1 := fun x hx => by
      have := hm.src x hx
      have hh := h.len
      split at this <;> omega
    have hlc : ∀ x ∈ (mvA M q.1 (q.2.idxOf a)).2, oIx (.tuple ((q.2 ++ [a]).map cN)) (cN x) = ok (cN ((q.2 ++ [a]).getD x 0)) := fun x hx => by
      refine oIx_tup cN _ x _ ?_
      rw [List.getD_eq_getElem?_getD, List.getElem?_eq_getElem (by rw [List.length_append]; exact hsr x hx)]; rfl
    by_cases ha : a ∈ q.2
    · have h5 := tix_n ha
      walk_at "evh"
      rw [lc_allG (enc := cN) (fun x => cN ((q.2 ++ [a]).getD x 0)) _ hsl fun z hz => by
        have := hlc z hz
        walk_at "evh"]
      walk_at "evh"
      rw [step, List.map_map]; rfl
    · have h5 : q.2.idxOf a = (stA M q.1).2.1 := by rw [← h.len]; exact List.idxOf_eq_length ha
      rw [h5] at h2 hlc hsl
      walk_at "evh"
      rw [lc_allG (enc := cN) (fun x => cN ((q.2 ++ [a]).getD x 0)) _ hsl fun z hz => by
        have := hlc z hz
        walk_at "evh"]
      walk_at "evh"
      rw [step, List.map_map, h5]; rfl
  obtain ⟨d, e, rfl⟩ := key
  exact e
def eW (w : List Nat) : PyData := .list (w.map cN)
def eCl (q : Cfg) : PyData := .tuple [cN q.1, .list (q.2.map cN)]
end WK

set_option Elab.async false
set_option linter.all false
set_option maxHeartbeats 4000000
set_option maxRecDepth 100000
noncomputable section
namespace WK
open PySem DL L2

local macro_rules | `(tactic| walk_at "ev") => `(tactic| simp only [ofE_ok, ofE_ok', bnd_ok, bnd_ok', sSeq_ev, sq_nx, sq_rt, sq_er, sq_bk, sq_ct, sIf_ev, sRet_ev, sDrop_ev, sSkip_ev, sRetN_ev, sRaise_ev, sFor_ev, eC_ev, e2_ev, e1_ev, eFn_ev, eCall_ev, aCons_ev, aNil_ev, nNew_ev, eTup_ev, eLst_ev, eIf_ev, eNew_ev, tTru_ev, tNot_ev, tAnd_ev, tOr_ev, tYes_ev, nLc_ev, wipe0, wipeS, tix_ev, set_ev, asg_ev, setO_ev, v0, vS, o0, o0', oS, g0, gS, own0, ownS, setAt0, setAtS, e3_ev, and_ev, or_ev, not_ev, val_ev, asB_b, iSeq_ev, seqOf_l, seqOf_t, iR1_ev, nRng_ev, gT_ev, gs_c, gs_n,
  add_i, sub_i, div_i, mod_i, mul_l, mul_r, neg_i, cmp_i, lt_i, eq_i, ne_i, isN_n, isN_i, isN_l, notN_n, notN_i, len_l, len_t, tru_l, tru_t, tru_b, tup_l, lst_l, lst_t, any_l, all_l, min_i, max_i, oIx_l, oIx_t, oIx_c0, oIx_c1, oIx_c2, limV,
  nup1, nup_le, nup_lt, nup_eq, ← Int.natCast_add,
  posts_some, postg_some, end_rt, end_nx, lp_nx, lp_ct, lp_bk, lp_rt, lp_er, sqq_nx, sqq_rt, sqq_er, sqq_bk, sqq_ct, wO_some, app_w, put_w, frz_o, frzK_some, nlit_le, nlit_lt, nlit_ge, nlit_gt, nlit_eq, nge0, in_tf, all_true, lenset_n, nm4, nm3, nm2, nd4, nd2, eq_n, le_n, mix_ev, eMv, eSt, eM, eCf, gT_ev', eCl, 
  Option.map_some, Option.map_none, Option.bind_some, fin_nx, fin_rt, fin_er, List.length_cons, List.length_nil, List.length_map, List.length_append, List.length_range, List.set_cons_zero, List.set_cons_succ, ↓reduceIte, Nat.zero_add, Nat.add_zero, Nat.zero_le, Nat.reduceAdd, Nat.reduceLeDiff, Nat.reduceEqDiff, Int.reduceLT, Int.reduceNeg, Int.reducePow, decide_eq_true_eq, decide_true, decide_false, Bool.not_true, Bool.not_false, Bool.false_eq_true, eq_self, and_self, true_and, and_true, Bool.true_xor, Bool.false_xor])
local macro_rules | `(tactic| walk_at "in") => `(tactic| simp only [rho0, List.map_cons, List.map_nil, List.cons_append, List.nil_append, List.length_cons, List.length_nil, Nat.reduceAdd, Nat.reduceSub, Nat.zero_add, Nat.sub_self, rep0, repS])
local macro_rules | `(tactic| walk_at "evh") => `(tactic| simp only [*, ofE_ok, ofE_ok', bnd_ok, bnd_ok', sSeq_ev, sq_nx, sq_rt, sq_er, sq_bk, sq_ct, sIf_ev, sRet_ev, sDrop_ev, sSkip_ev, sRetN_ev, sRaise_ev, sFor_ev, eC_ev, e2_ev, e1_ev, eFn_ev, eCall_ev, aCons_ev, aNil_ev, nNew_ev, eTup_ev, eLst_ev, eIf_ev, eNew_ev, tTru_ev, tNot_ev, tAnd_ev, tOr_ev, tYes_ev, nLc_ev, wipe0, wipeS, tix_ev, set_ev, asg_ev, setO_ev, v0, vS, o0, o0', oS, g0, gS, own0, ownS, setAt0, setAtS, e3_ev, and_ev, or_ev, not_ev, val_ev, asB_b, iSeq_ev, seqOf_l, seqOf_t, iR1_ev, nRng_ev, gT_ev, gs_c, gs_n,
  add_i, sub_i, div_i, mod_i, mul_l, mul_r, neg_i, cmp_i, lt_i, eq_i, ne_i, isN_n, isN_i, isN_l, notN_n, notN_i, len_l, len_t, tru_l, tru_t, tru_b, tup_l, lst_l, lst_t, any_l, all_l, min_i, max_i, oIx_l, oIx_t, oIx_c0, oIx_c1, oIx_c2, limV,
  nup1, nup_le, nup_lt, nup_eq, ← Int.natCast_add,
  posts_some, postg_some, end_rt, end_nx, lp_nx, lp_ct, lp_bk, lp_rt, lp_er, sqq_nx, sqq_rt, sqq_er, sqq_bk, sqq_ct, wO_some, app_w, put_w, frz_o, frzK_some, nlit_le, nlit_lt, nlit_ge, nlit_gt, nlit_eq, nge0, in_tf, all_true, lenset_n, nm4, nm3, nm2, nd4, nd2, eq_n, le_n, mix_ev, eMv, eSt, eM, eCf, gT_ev', eCl, 
  Option.map_some, Option.map_none, Option.bind_some, fin_nx, fin_rt, fin_er, List.length_cons, List.length_nil, List.length_map, List.length_append, List.length_range, List.set_cons_zero, List.set_cons_succ, ↓reduceIte, Nat.zero_add, Nat.add_zero, Nat.zero_le, Nat.reduceAdd, Nat.reduceLeDiff, Nat.reduceEqDiff, Int.reduceLT, Int.reduceNeg, Int.reducePow, decide_eq_true_eq, decide_true, decide_false, Bool.not_true, Bool.not_false, Bool.false_eq_true, eq_self, and_self, true_and, and_true, Bool.true_xor, Bool.false_xor])
theorem idx_iff {held : List Nat} (hn : held.Nodup) {y a : Nat} (hy : y < held.length) : (held[y] = a) ↔ held.idxOf a = y := by
  constructor
  · intro e
    have hm : a ∈ held := e ▸ List.getElem_mem hy
    have hl := (idx_le (held := held)).2 hm
    have := List.getElem_idxOf hl
    exact (List.getElem_inj hn).mp (this.trans e.symm)
  · intro e
    have hl : held.idxOf a < held.length := by omega
    have := List.getElem_idxOf hl
    subst e
    exact this
theorem come_is {M : Mach} (V : Valid M) {q : Cfg} (h : VC M q) (a : Nat) : m__law_come [eM M, cN q.1, .list (q.2.map cN), cN a] = ok (eCl (step M q a)) := by
  have key : Post (fun d => d = eCl (step M q a)) (m__law_come [eM M, cN q.1, .list (q.2.map cN), cN a]) := by
    refine post_run (by rfl) ?_
    walk_at "in"
    rw [b__law_come]
    have hlen := h.len
    have h1 : oIx (.list (M.map eSt)) (cN q.1) = ok (eSt (stA M q.1)) := oIx_list eSt M q.1 _ (stA_mem h.st).2.1
    have hmv : ∀ c, c ≤ (stA M q.1).2.1 → oIx (.list ((stA M q.1).2.2.map eMv)) (cN c) = ok (eMv (mvA M q.1 c)) := fun c hc => oIx_list eMv _ _ _ (mvA_ok V h.st hc).1
    have hb := (V.each _ (stA_mem h.st).1).boxes
    have h2 := hmv (stA M q.1).2.1 (Nat.le_refl _)
    have hr := rng1_n (n := (stA M q.1).2.1) (by omega)
    have hsl : ∀ c, c ≤ (stA M q.1).2.1 → (mvA M q.1 c).2.length ≤ 1000000 := fun c hc => by
      have hm := (mvA_ok V h.st hc).2
      have := (V.each _ (stA_mem hm.lt.1).1).boxes
      have := hm.lt.2
      omega
    walk_at "evh"
    refine posts_sq (posts_for (fun i r => ∃ (m : Mv) (j9 : Option B), Eqn m (mvA M q.1 (if q.2.idxOf a < i then q.2.idxOf a else (stA M q.1).2.1)) ∧ r = [some (.d (.list (M.map eSt))), some (.d (cN q.1)), some (.d (.list (q.2.map cN))), some (.d (cN a)),
      some (.d (.bool (stA M q.1).1)), some (.d (cN (stA M q.1).2.1)), some (.d (.list ((stA M q.1).2.2.map eMv))), some (.d (cN m.1)), some (.d (.tuple (m.2.map cN))), j9, none]) ?_ ?_ ?_)
    · exact ⟨_, none, Eqn.rf, rfl⟩
    · rintro i x r hx ⟨m, j9, hm, rfl⟩
      obtain ⟨y, hy, rfl⟩ := getq_map hx
      obtain ⟨rfl, hyl⟩ := getq_range hy
      have hyl2 : y < q.2.length := by omega
      have hq : oIx (.list (q.2.map cN)) (cN y) = ok (cN (q.2[y]'hyl2)) := oIx_list cN _ _ _ (List.getElem?_eq_getElem hyl2)
      have hi := idx_iff h.nod (a := a) hyl2
      by_cases hc : q.2[y] = a
      · have h5 := hi.mp hc
        have h6 := hmv y (by omega)
        have hcd : decide (q.2[y] = a) = true := decide_eq_true hc
        clear hi
        have hlen' : Eqn q.2.length (stA M q.1).2.1 := hlen
        clear hlen
        walk_at "evh"
        refine ⟨mvA M q.1 y, _, ?_, rfl⟩
        rw [if_pos (by omega)]; exact Eqn.rf
      · have h5 : ¬ q.2.idxOf a = y := fun e => hc (hi.mpr e)
        have hcd : decide (q.2[y] = a) = false := decide_eq_false hc
        clear hi
        have hlen' : Eqn q.2.length (stA M q.1).2.1 := hlen
        clear hlen
        walk_at "evh"
        refine ⟨m, _, ?_, rfl⟩
        rw [show (m = _) from hm]
        by_cases h7 : q.2.idxOf a < y
        · rw [if_pos h7, if_pos (by omega)]; exact Eqn.rf
        · rw [if_neg h7, if_neg (by omega)]; exact Eqn.rf
    · rintro r ⟨m, j9, hm, rfl⟩
      have hm' : m = mvA M q.1 (q.2.idxOf a) := by
        rw [show (m = _) from hm, List.length_map, List.length_range]
        have := (idx_le (a := a) (held := q.2)).1
        split
        · rfl
        · congr 1; omega
      have hil : q.2.idxOf a ≤ (stA M q.1).2.1 := by
        have := (idx_le (a := a) (held := q.2)).1; omega
      have hsl' := hsl _ hil
      rw [← hm'] at hsl'
      have hsr : ∀ x ∈ m.2, x < q.2.length + 1 := fun x hx => by
        rw [hm'] at hx
        have := (mvA_ok V h.st hil).2.src x hx
        split at this <;> omega
      clear hm hmv hsl h2
      have hlen' : Eqn q.2.length (stA M q.1).2.1 := hlen
      clear hlen
      walk_at "ev"
      rw [lc_allG (enc := cN) (fun x => cN ((q.2 ++ [a]).getD x 0)) _ hsl' fun z hz => by
        have hz2 := hsr z hz
        have hlen := hlen'.le
        walk_at "ev"
        by_cases hzb : z = (stA M q.1).2.1
        · rw [if_pos hzb]
          rw [List.getD_eq_getElem?_getD, List.getElem?_append_right (by omega), show z - q.2.length = 0 from by omega]; rfl
        · have hz3 : z < q.2.length := by omega
          rw [if_neg hzb]
          rw [oIx_list cN q.2 z _ (List.getElem?_eq_getElem hz3), List.getD_eq_getElem?_getD, List.getElem?_append_left hz3, List.getElem?_eq_getElem hz3]; rfl]
      walk_at "ev"
      rw [step, List.map_map, hm']; rfl
  obtain ⟨d, e, rfl⟩ := key
  exact e

def run (M : Mach) (q : Cfg) (w : List Nat) : Cfg := w.foldl (step M) q
def acc (M : Mach) (q : Cfg) (w : List Nat) : Bool := (stA M (run M q w).1).1
theorem VC.run {M : Mach} (V : Valid M) : ∀ {w : List Nat} {q : Cfg}, VC M q → VC M (run M q w)
  | [], _, h => h
  | a :: w, _, h => VC.run V (w := w) (h.step V a)
theorem vc0 {M : Mach} (V : Valid M) : VC M (0, []) := by
  refine ⟨V.pos, ?_, List.nodup_nil⟩
  have h1 := V.first
  rw [bxs, List.getElem?_map, (stA_mem V.pos).2.1] at h1
  exact (Option.some.inj h1).symm
theorem takes_is {M : Mach} (V : Valid M) (w : List Nat) : m__law_takes [eM M, .list (w.map cN)] = ok (.bool (acc M (0, []) w)) := by
  have key : Post (fun d => d = .bool (acc M (0, []) w)) (m__law_takes [eM M, .list (w.map cN)]) := by
    refine post_run (by rfl) ?_
    walk_at "in"
    rw [b__law_takes]
    walk_at "ev"
    refine posts_sq (posts_for (fun i r => ∃ (q : Cfg) (j4 : Option B), Eqn q (run M (0, []) (w.take i)) ∧ r = [some (.d (eM M)), some (.d (.list (w.map cN))), some (.d (cN q.1)), some (.d (.list (q.2.map cN))), j4]) ?_ ?_ ?_)
    · exact ⟨(0, []), _, Eqn.rf, rfl⟩
    · rintro i x r hx ⟨q, j4, hq, rfl⟩
      obtain ⟨a, ha, rfl⟩ := getq_map hx
      have hv : VC M q := by rw [show q = _ from hq]; exact (vc0 V).run V
      have hcm := come_is V hv a
      unfold eM at hcm
      walk_at "evh"
      have hq' : q = _ := hq
      refine ⟨step M q a, _, ?_, rfl⟩
      show _ = _
      obtain ⟨hl, e⟩ := List.getElem?_eq_some_iff.mp ha
      rw [hq', List.take_succ_eq_append_getElem hl, e, run, run, List.foldl_append]; rfl
    · rintro r ⟨q, j4, hq, rfl⟩
      have hv : VC M q := by rw [show q = _ from hq]; exact (vc0 V).run V
      have h1 : oIx (.list (M.map eSt)) (cN q.1) = ok (eSt (stA M q.1)) := oIx_list eSt M q.1 _ (stA_mem hv.st).2.1
      walk_at "evh"
      have hq' : q = _ := hq
      rw [acc, hq', List.length_map, List.take_length]
  obtain ⟨d, e, rfl⟩ := key
  exact e
def words : Nat → List (List Nat)
  | 0 => [[]]
  | n + 1 => (words n).flatMap fun w => (List.range 4).map fun a => w ++ [a]
theorem words_len : ∀ n, (words n).length = 4 ^ n
  | 0 => rfl
  | n + 1 => by
    rw [words, List.length_flatMap]
    simp only [List.length_map, List.length_range, List.map_const', List.sum_replicate_nat, words_len n]
    rw [Nat.pow_succ]
theorem words_mem : ∀ {n : Nat} {w : List Nat}, w ∈ words n → w.length = n
  | 0, w, h => by rw [words, List.mem_singleton] at h; rw [h]; rfl
  | n + 1, w, h => by
    rw [words, List.mem_flatMap] at h
    obtain ⟨v, hv, h⟩ := h
    obtain ⟨a, _, rfl⟩ := List.mem_map.mp h
    rw [List.length_append, words_mem hv]; rfl
def eWs (ws : List (List Nat)) : PyData := .list (ws.map eW)
theorem all_is (n : Nat) (h : n ≤ 3) : m__law_all [cN n] = ok (eWs (words n)) := by
  have key : Post (fun d => d = eWs (words n)) (m__law_all [cN n]) := by
    refine post_run (by rfl) ?_
    walk_at "in"
    rw [b__law_all]
    have hr := rng1_n (n := n) (by omega)
    walk_at "evh"
    refine posts_sq (posts_for (fun i r => ∃ (j2 j3 j4 : Option B), r = [some (.d (cN n)), some (.d (eWs (words i))), j2, j3, j4, none]) ?_ ?_ ?_)
    · exact ⟨_, _, _, rfl⟩
    · rintro i x r hx ⟨j2, j3, j4, rfl⟩
      obtain ⟨y, hy, rfl⟩ := getq_map hx
      obtain ⟨rfl, hyl⟩ := getq_range hy
      rw [eWs]
      have hw1 : (words (y + 1)).length ≤ 1000000 := by
        rw [words_len]
        exact Nat.le_trans (Nat.pow_le_pow_right (by decide) (show y + 1 ≤ 3 by omega)) (by decide)
      walk_at "ev"
      refine posts_sq (posts_for (fun i r => ∃ (j4 : Option B), r = [some (.d (cN n)), some (.d (.list ((words y).map eW))), some (.d (cN y)), some (.d (.list ((((words y).take i).flatMap fun w => (List.range 4).map fun a => w ++ [a]).map eW))), j4, none]) ?_ ?_ ?_)
      · exact ⟨_, rfl⟩
      · rintro i x r hx ⟨j4, rfl⟩
        obtain ⟨w, hw, rfl⟩ := getq_map hx
        have hr4 : rng1 (.int 4) = ok ((List.range 4).map cN) := rng1_n (n := 4) (by omega)
        have hwl : w.length < 1000000 := by have := words_mem (List.mem_of_getElem? hw); omega
        obtain ⟨hl, e⟩ := List.getElem?_eq_some_iff.mp hw
        walk_at "ev"
        rw [hr4]
        walk_at "ev"
        rw [lc_allG (enc := cN) (fun a => eW (w ++ [a])) (List.range 4) (by decide) fun z hz => by
          have := snoc_l (a := z) hwl
          walk_at "ev"
          exact this]
        have hfl : (((words y).take i).flatMap fun w => (List.range 4).map fun a => w ++ [a]).length + ((List.range 4).map fun a => w ++ [a]).length ≤ lim := by
          rw [List.length_flatMap, lim_is]
          simp only [List.length_map, List.length_range, List.map_const', List.sum_replicate_nat, List.length_take]
          have : (words y).length ≤ 16 := by rw [words_len]; exact Nat.le_trans (Nat.pow_le_pow_right (by decide) (show y ≤ 2 by omega)) (by decide)
          omega
        have hcat := cat_l (f := eW) hfl
        rw [List.map_map] at hcat
        have h3 : (List.range 4).map (fun a => eW (w ++ [a])) = (List.range 4).map (eW ∘ fun a => w ++ [a]) := rfl
        walk_at "ev"
        rw [h3, hcat]
        walk_at "ev"
        rw [List.take_succ_eq_append_getElem hl, e, List.flatMap_append]
        simp only [List.flatMap_cons, List.flatMap_nil, List.append_nil]
        exact ⟨_, rfl⟩
      · rintro r ⟨j4, rfl⟩
        walk_at "ev"
        rw [List.take_length]
        exact ⟨_, _, _, rfl⟩
    · rintro r ⟨j2, j3, j4, rfl⟩
      walk_at "ev"
  obtain ⟨d, e, rfl⟩ := key
  exact e

def gls (s : Ste) : List Nat := s.2.2.map (·.1)
def eGl (s : Ste) : PyData := .list ((gls s).map cN)
abbrev cQ : Option Nat → PyData := cO cN
theorem isN_o {x : Option Nat} : oIsN (cQ x) .none = ok (.bool x.isNone) := by cases x <;> rfl
theorem eq_o {x : Option Nat} {f : Nat} : oEq (cQ x) (cN f) = ok (.bool (decide (x = some f))) := oEq_enc enc_optN (by omega) x (some f)
theorem eq_oo {x y : Option Nat} : oEq (cQ x) (cQ y) = ok (.bool (decide (x = y))) := oEq_enc enc_optN (by omega) x y
theorem nsub1 (n : Nat) : (((n + 1 : Nat) : Int) - 1) = (n : Int) := by omega
theorem ne_ol {x y : List (Option Nat)} : oNe (.list (x.map cQ)) (.list (y.map cQ)) = ok (.bool (!decide (x = y))) := oNe_enc (enc_list enc_optN) (by omega) x y
theorem ne_nl {y : List (Option Nat)} : oNe .none (.list (y.map cQ)) = ok (.bool true) := by
  unfold oNe
  rw [if_pos ⟨rfl, (enc_list enc_optN).shaped (by omega) y⟩]
  rfl
end WK

set_option Elab.async false
set_option linter.all false
set_option maxHeartbeats 4000000
set_option maxRecDepth 100000
noncomputable section
namespace WK
open PySem DL L2

local macro_rules | `(tactic| walk_at "ev") => `(tactic| simp only [ofE_ok, ofE_ok', bnd_ok, bnd_ok', sSeq_ev, sq_nx, sq_rt, sq_er, sq_bk, sq_ct, sIf_ev, sRet_ev, sDrop_ev, sSkip_ev, sRetN_ev, sRaise_ev, sFor_ev, eC_ev, e2_ev, e1_ev, eFn_ev, eCall_ev, aCons_ev, aNil_ev, nNew_ev, eTup_ev, eLst_ev, eIf_ev, eNew_ev, tTru_ev, tNot_ev, tAnd_ev, tOr_ev, tYes_ev, nLc_ev, wipe0, wipeS, tix_ev, set_ev, asg_ev, setO_ev, v0, vS, o0, o0', oS, g0, gS, own0, ownS, setAt0, setAtS, e3_ev, and_ev, or_ev, not_ev, val_ev, asB_b, iSeq_ev, seqOf_l, seqOf_t, iR1_ev, nRng_ev, gT_ev, gs_c, gs_n,
  add_i, sub_i, div_i, mod_i, mul_l, mul_r, neg_i, cmp_i, lt_i, eq_i, ne_i, isN_n, isN_i, isN_l, notN_n, notN_i, len_l, len_t, tru_l, tru_t, tru_b, tup_l, lst_l, lst_t, any_l, all_l, min_i, max_i, oIx_l, oIx_t, oIx_c0, oIx_c1, oIx_c2, limV,
  nup1, nup_le, nup_lt, nup_eq, ← Int.natCast_add,
  posts_some, postg_some, end_rt, end_nx, lp_nx, lp_ct, lp_bk, lp_rt, lp_er, sqq_nx, sqq_rt, sqq_er, sqq_bk, sqq_ct, wO_some, app_w, put_w, frz_o, frzK_some, nlit_le, nlit_lt, nlit_ge, nlit_gt, nlit_eq, nge0, in_tf, all_true, lenset_n, nm4, nm3, nm2, nd4, nd2, eq_n, le_n, eMv, eSt, eM, eGl, isN_o, eq_o, nsub1, ne_ol, ne_nl, any_b, 
  Option.map_some, Option.map_none, Option.bind_some, fin_nx, fin_rt, fin_er, List.length_cons, List.length_nil, List.length_map, List.length_append, List.length_range, List.set_cons_zero, List.set_cons_succ, ↓reduceIte, Nat.zero_add, Nat.add_zero, Nat.zero_le, Nat.reduceAdd, Nat.reduceLeDiff, Nat.reduceEqDiff, Int.reduceLT, Int.reduceNeg, Int.reducePow, Option.isNone_none, Option.isNone_some, Option.isSome_none, Option.isSome_some, decide_eq_true_eq, decide_true, decide_false, Bool.not_true, Bool.not_false, Bool.false_eq_true, eq_self, and_self, true_and, and_true, Bool.true_xor, Bool.false_xor])
local macro_rules | `(tactic| walk_at "in") => `(tactic| simp only [rho0, List.map_cons, List.map_nil, List.cons_append, List.nil_append, List.length_cons, List.length_nil, Nat.reduceAdd, Nat.reduceSub, Nat.zero_add, Nat.sub_self, rep0, repS])
local macro_rules | `(tactic| walk_at "evh") => `(tactic| simp only [*, ofE_ok, ofE_ok', bnd_ok, bnd_ok', sSeq_ev, sq_nx, sq_rt, sq_er, sq_bk, sq_ct, sIf_ev, sRet_ev, sDrop_ev, sSkip_ev, sRetN_ev, sRaise_ev, sFor_ev, eC_ev, e2_ev, e1_ev, eFn_ev, eCall_ev, aCons_ev, aNil_ev, nNew_ev, eTup_ev, eLst_ev, eIf_ev, eNew_ev, tTru_ev, tNot_ev, tAnd_ev, tOr_ev, tYes_ev, nLc_ev, wipe0, wipeS, tix_ev, set_ev, asg_ev, setO_ev, v0, vS, o0, o0', oS, g0, gS, own0, ownS, setAt0, setAtS, e3_ev, and_ev, or_ev, not_ev, val_ev, asB_b, iSeq_ev, seqOf_l, seqOf_t, iR1_ev, nRng_ev, gT_ev, gs_c, gs_n,
  add_i, sub_i, div_i, mod_i, mul_l, mul_r, neg_i, cmp_i, lt_i, eq_i, ne_i, isN_n, isN_i, isN_l, notN_n, notN_i, len_l, len_t, tru_l, tru_t, tru_b, tup_l, lst_l, lst_t, any_l, all_l, min_i, max_i, oIx_l, oIx_t, oIx_c0, oIx_c1, oIx_c2, limV,
  nup1, nup_le, nup_lt, nup_eq, ← Int.natCast_add,
  posts_some, postg_some, end_rt, end_nx, lp_nx, lp_ct, lp_bk, lp_rt, lp_er, sqq_nx, sqq_rt, sqq_er, sqq_bk, sqq_ct, wO_some, app_w, put_w, frz_o, frzK_some, nlit_le, nlit_lt, nlit_ge, nlit_gt, nlit_eq, nge0, in_tf, all_true, lenset_n, nm4, nm3, nm2, nd4, nd2, eq_n, le_n, eMv, eSt, eM, eGl, isN_o, eq_o, nsub1, ne_ol, ne_nl, any_b, 
  Option.map_some, Option.map_none, Option.bind_some, fin_nx, fin_rt, fin_er, List.length_cons, List.length_nil, List.length_map, List.length_append, List.length_range, List.set_cons_zero, List.set_cons_succ, ↓reduceIte, Nat.zero_add, Nat.add_zero, Nat.zero_le, Nat.reduceAdd, Nat.reduceLeDiff, Nat.reduceEqDiff, Int.reduceLT, Int.reduceNeg, Int.reducePow, Option.isNone_none, Option.isNone_some, Option.isSome_none, Option.isSome_some, decide_eq_true_eq, decide_true, decide_false, Bool.not_true, Bool.not_false, Bool.false_eq_true, eq_self, and_self, true_and, and_true, Bool.true_xor, Bool.false_xor])
theorem goals_is (M : Mach) (h : Valid M) : m_goals_of [eM M] = ok (.list (M.map eGl)) := by
  have key : Post (fun d => d = .list (M.map eGl)) (m_goals_of [eM M]) := by
    refine post_run (by rfl) ?_
    walk_at "in"
    rw [b_goals_of]
    have h2 := h.le
    have h3 : M.length ≤ 1000000 := by omega
    walk_at "ev"
    rw [lc_allG (enc := eSt) eGl M h3 fun s hs => by
      have hm := (h.each s hs).moves
      have hb := (h.each s hs).boxes
      have h4 : s.2.2.length ≤ 1000000 := by omega
      walk_at "ev"
      rw [lc_allG (enc := eMv) (fun m => cN m.1) s.2.2 h4 fun m hm => by walk_at "ev"]
      walk_at "ev"
      rw [gls, List.map_map]; rfl]
    walk_at "ev"
  obtain ⟨d, e, rfl⟩ := key
  exact e
def nxt (M : Mach) (L : List (Option Nat)) (f : Nat) : List (Option Nat) := (List.range M.length).map fun k => if (L.getD k none).isNone && (gls (stA M k)).any (fun g => decide (L.getD g none = some f)) then some (f + 1) else L.getD k none
def lay (M : Mach) : Nat → List (Option Nat)
  | 0 => M.map fun s => if s.1 = true then some 0 else none
  | f + 1 => nxt M (lay M f) f
theorem lay_len (M : Mach) : ∀ f, (lay M f).length = M.length
  | 0 => by rw [lay, List.length_map]
  | f + 1 => by rw [lay, nxt, List.length_map, List.length_range]
def mixl {a : Type} (A B : List a) (k : Nat) : List a := A.take k ++ B.drop k
theorem mixl_set {a : Type} {A B : List a} {k : Nat} (hA : k < A.length) (hB : k < B.length) : (mixl A B k).set k (A[k]) = mixl A B (k + 1) := by
  unfold mixl
  rw [List.set_append, if_neg (by rw [List.length_take]; omega), List.length_take, Nat.min_eq_left (by omega), Nat.sub_self, List.drop_eq_getElem_cons hB, List.set_cons_zero, List.take_succ_eq_append_getElem hA, List.append_assoc]
  rfl
theorem mixl_same {a : Type} {A B : List a} {k : Nat} (hA : k < A.length) (hB : k < B.length) (e : A[k] = B[k]) : mixl A B k = mixl A B (k + 1) := by
  unfold mixl
  rw [List.drop_eq_getElem_cons hB, List.take_succ_eq_append_getElem hA, List.append_assoc, e]
  rfl
theorem mixl_get {a : Type} {A B : List a} {k : Nat} (hA : k < A.length) (hB : k < B.length) : (mixl A B k)[k]? = some B[k] := by
  unfold mixl
  rw [List.getElem?_append_right (by rw [List.length_take]; omega), List.length_take, Nat.min_eq_left (by omega), Nat.sub_self, List.getElem?_drop, Nat.add_zero, List.getElem?_eq_getElem hB]
theorem mixl_len {a : Type} {A B : List a} {k : Nat} (h : A.length = B.length) (hk : k ≤ B.length) : (mixl A B k).length = B.length := by
  unfold mixl
  rw [List.length_append, List.length_take, List.length_drop]; omega
def nns (L : List (Option Nat)) : Nat := L.countP (·.isNone)
theorem nns_le (L : List (Option Nat)) : nns L ≤ L.length := List.countP_le_length
def bef (M : Mach) : Nat → PyData
  | 0 => .none
  | f + 1 => .list ((lay M f).map cQ)
def mea (M : Mach) : Nat → Nat
  | 0 => M.length + 2
  | f + 1 => nns (lay M f) + 1
def nxv (M : Mach) (L : List (Option Nat)) (f k : Nat) : Option Nat := if (L.getD k none).isNone && (gls (stA M k)).any (fun g => decide (L.getD g none = some f)) then some (f + 1) else L.getD k none
theorem nxt_get {M : Mach} {L : List (Option Nat)} {f k : Nat} (hk : k < M.length) : (nxt M L f)[k]? = some (nxv M L f k) := by
  unfold nxt
  rw [List.getElem?_map, List.getElem?_range hk]; rfl
def goOn (M : Mach) : Nat → Bool
  | 0 => true
  | f + 1 => !decide (lay M f = lay M (f + 1))
theorem nns_rel : ∀ (A B : List (Option Nat)), A.length = B.length → (∀ (k : Nat) (x y : Option Nat), A[k]? = some x → B[k]? = some y → y = x ∨ (x = none ∧ y.isSome = true)) → nns B ≤ nns A ∧ (A ≠ B → nns B < nns A)
  | [], [], _, _ => ⟨Nat.le_refl _, fun h => absurd rfl h⟩
  | [], _ :: _, h, _ => by cases h
  | _ :: _, [], h, _ => by cases h
  | x :: A, y :: B, hl, h => by
    rw [List.length_cons, List.length_cons] at hl
    have ih := nns_rel A B (by omega) fun k u v hu hv => h (k + 1) u v hu hv
    have h0 := h 0 x y rfl rfl
    unfold nns at ih ⊢
    rw [List.countP_cons, List.countP_cons]
    rcases h0 with rfl | ⟨rfl, hy⟩
    · refine ⟨by omega, fun hne => ?_⟩
      have : A ≠ B := fun e => hne (by rw [e])
      have := ih.2 this
      omega
    · cases y with
      | none => cases hy
      | some d => simp only [Option.isNone_some, Option.isNone_none, Bool.false_eq_true, ↓reduceIte]; omega
theorem nxv_rel {M : Mach} {L : List (Option Nat)} {f k : Nat} : nxv M L f k = L.getD k none ∨ (L.getD k none = none ∧ nxv M L f k = some (f + 1)) := by
  unfold nxv
  split
  · rename_i h
    rw [Bool.and_eq_true] at h
    exact .inr ⟨by simpa using h.1, rfl⟩
  · exact .inl rfl
theorem mea_lt {M : Mach} {f : Nat} (h : lay M f ≠ lay M (f + 1)) : nns (lay M (f + 1)) < nns (lay M f) := by
  refine (nns_rel _ _ (by rw [lay_len, lay_len]) fun k x y hx hy => ?_).2 h
  obtain ⟨hl, e⟩ := List.getElem?_eq_some_iff.mp hx
  rw [lay_len] at hl
  rw [lay, nxt_get hl] at hy
  have hg : (lay M f).getD k none = x := by rw [List.getD_eq_getElem?_getD, hx]; rfl
  rcases nxv_rel (M := M) (L := lay M f) (f := f) (k := k) with q | ⟨q1, q2⟩
  · rw [hg] at q
    exact .inl (by rw [← Option.some.inj hy, q])
  · rw [hg] at q1
    rw [q2] at hy
    exact .inr ⟨q1, by rw [← Option.some.inj hy]; rfl⟩
theorem distances_ev (M : Mach) (h : Valid M) : ∃ f, lay M f = lay M (f + 1) ∧ m_distances [eM M] = ok (.list ((lay M f).map cQ)) := by
  have key : Post (fun d => ∃ f, lay M f = lay M (f + 1) ∧ d = .list ((lay M f).map cQ)) (m_distances [eM M]) := by
    refine post_run (by rfl) ?_
    walk_at "in"
    rw [b_distances]
    have h2 := h.le
    have h3 : M.length ≤ 1000000 := by omega
    have h4 := goals_is M h
    rw [eM] at h4
    have hr := rng1_n (n := M.length) (by omega)
    walk_at "evh"
    rw [lc_allG (enc := eSt) (fun s => cQ (if s.1 = true then some 0 else none)) M h3 fun s hs => by
      walk_at "ev"
      cases s.1 <;> rfl]
    walk_at "ev"
    refine posts_sq (posts_while (fun n r => ∃ (f : Nat) (j3 j6 j7 : Option B), Eqn n (mea M f) ∧ r = [some (.d (.list (M.map eSt))), some (.d (.list (M.map eGl))), some (.own ((lay M f).map cQ)), j3, some (.d (cN f)), some (.d (bef M f)), j6, j7]) (M.length + 2) ?_ (by omega) ?_)
    · exact ⟨0, none, none, none, Eqn.rf, by rw [lay, List.map_map]; rfl⟩
    · rintro n r ⟨f, j3, j6, j7, hn, rfl⟩
      refine ⟨goOn M f, ?_, ?_⟩
      · cases f with
        | zero => simp only [bef, goOn]; walk_at "ev"
        | succ f => simp only [bef, goOn]; walk_at "ev"
      · by_cases hk : goOn M f = true
        · rw [if_pos hk]
          walk_at "evh"
          have hll := lay_len M f
          have hln := lay_len M (f + 1)
          refine posts_for (fun i r => ∃ (j6 j7 : Option B), r = [some (.d (.list (M.map eSt))), some (.d (.list (M.map eGl))), some (.own ((mixl (lay M (f + 1)) (lay M f) i).map cQ)), j3, some (.d (cN (f + 1))), some (.d (.list ((lay M f).map cQ))), j6, j7]) ?_ ?_ ?_
          · exact ⟨_, _, rfl⟩
          · rintro i x r hx ⟨j6, j7, rfl⟩
            obtain ⟨k, hy, rfl⟩ := getq_map hx
            obtain ⟨rfl, hkl⟩ := getq_range hy
            have hA : k < (lay M (f + 1)).length := by omega
            have hB : k < (lay M f).length := by omega
            have h5 : oIx (.list ((mixl (lay M (f + 1)) (lay M f) k).map cQ)) (cN k) = ok (cQ ((lay M f)[k])) := oIx_list cQ _ _ _ (mixl_get hA hB)
            have h6 : oIx (.list (M.map eGl)) (cN k) = ok (eGl (stA M k)) := oIx_list eGl _ _ _ (stA_mem hkl).2.1
            have hgD : (lay M f).getD k none = (lay M f)[k] := by rw [List.getD_eq_getElem?_getD, List.getElem?_eq_getElem hB]; rfl
            have hv : (lay M (f + 1))[k] = nxv M (lay M f) f k := by
              have := nxt_get (M := M) (L := lay M f) (f := f) hkl
              rw [show nxt M (lay M f) f = lay M (f + 1) from rfl, List.getElem?_eq_getElem hA] at this
              exact Option.some.inj this
            have hmx : k < (mixl (lay M (f + 1)) (lay M f) k).length := by rw [mixl_len (by omega) (by omega)]; omega
            have hix := ixD_n hmx
            have hgl : (gls (stA M k)).length ≤ 1000000 := by
              have h7 := (h.each _ (stA_mem hkl).1).moves
              have h8 := (h.each _ (stA_mem hkl).1).boxes
              rw [gls, List.length_map]; omega
            have hgm : ∀ g ∈ gls (stA M k), g < M.length := fun g hg => by
              obtain ⟨m, hm, rfl⟩ := List.mem_map.mp hg
              obtain ⟨c, hc⟩ := List.getElem?_of_mem hm
              exact ((h.each _ (stA_mem hkl).1).each c m hc).lt.1
            cases hxv : (lay M f)[k] with
            | some d =>
              rw [hxv] at h5 hgD
              have hs : mixl (lay M (f + 1)) (lay M f) k = mixl (lay M (f + 1)) (lay M f) (k + 1) := mixl_same hA hB (by rw [hv, hxv, nxv, hgD]; rfl)
              walk_at "ev"
              rw [h5]
              walk_at "ev"
              rw [hs]
              exact ⟨_, _, rfl⟩
            | none =>
              rw [hxv] at h5 hgD
              walk_at "ev"
              rw [h5, h6]
              walk_at "ev"
              rw [lc_allG (enc := cN) (fun g => .bool (decide ((lay M f).getD g none = some f))) _ hgl fun g hg => by
                have hgk : g < (lay M f).length := by have := hgm g hg; omega
                have h9 : oIx (.list ((lay M f).map cQ)) (cN g) = ok (cQ ((lay M f).getD g none)) := oIx_list cQ _ _ _ (by rw [List.getD_eq_getElem?_getD, List.getElem?_eq_getElem hgk]; rfl)
                walk_at "ev"
                rw [h9]
                walk_at "ev"]
              walk_at "ev"
              by_cases ha : ((gls (stA M k)).any fun g => decide ((lay M f).getD g none = some f)) = true
              · rw [if_pos ha, hix]
                walk_at "ev"
                have hv2 : (lay M (f + 1))[k] = some (f + 1) := by rw [hv, nxv, hgD, ha]; rfl
                exact ⟨_, _, by rw [← mixl_set hA hB, hv2, List.map_set]; rfl⟩
              · rw [if_neg ha]
                walk_at "ev"
                have hv2 : (lay M (f + 1))[k] = (lay M f)[k] := by
                  rw [hv, hxv, nxv, hgD]
                  simp only [Option.isNone_none, Bool.true_and]
                  rw [if_neg ha]
                rw [mixl_same hA hB hv2]
                exact ⟨_, _, rfl⟩
          · rintro r ⟨j6, j7, rfl⟩
            walk_at "ev"
            have hmf : mixl (lay M (f + 1)) (lay M f) M.length = lay M (f + 1) := by
              unfold mixl
              rw [List.take_of_length_le (by omega), List.drop_of_length_le (by omega), List.append_nil]
            refine ⟨mea M (f + 1), ?_, f + 1, _, _, _, Eqn.rf, by rw [hmf]; rfl⟩
            have hn' := hn.le
            cases f with
            | zero =>
              have := nns_le (lay M 0)
              rw [lay_len] at this
              simp only [mea] at hn' ⊢
              omega
            | succ f =>
              have hk' : lay M f ≠ lay M (f + 1) := by simpa [goOn] using hk
              have := mea_lt hk'
              simp only [mea] at hn' ⊢
              omega
        · rw [if_neg hk]
          cases f with
          | zero => exact absurd rfl hk
          | succ f =>
            have hk' : lay M f = lay M (f + 1) := by simpa [goOn] using hk
            walk_at "ev"
            exact ⟨f, hk', by rw [hk']⟩
  obtain ⟨d, e, f, q, rfl⟩ := key
  exact ⟨f, q, e⟩
end WK

set_option Elab.async false
set_option linter.all false
set_option maxHeartbeats 4000000
set_option maxRecDepth 100000
noncomputable section
namespace WK
open PySem DL L2

local macro_rules | `(tactic| walk_at "ev") => `(tactic| simp only [ofE_ok, ofE_ok', bnd_ok, bnd_ok', sSeq_ev, sq_nx, sq_rt, sq_er, sq_bk, sq_ct, sIf_ev, sRet_ev, sDrop_ev, sSkip_ev, sRetN_ev, sRaise_ev, sFor_ev, eC_ev, e2_ev, e1_ev, eFn_ev, eCall_ev, aCons_ev, aNil_ev, nNew_ev, eTup_ev, eLst_ev, eIf_ev, eNew_ev, tTru_ev, tNot_ev, tAnd_ev, tOr_ev, tYes_ev, nLc_ev, wipe0, wipeS, tix_ev, set_ev, asg_ev, setO_ev, v0, vS, o0, o0', oS, g0, gS, own0, ownS, setAt0, setAtS, e3_ev, and_ev, or_ev, not_ev, val_ev, asB_b, iSeq_ev, seqOf_l, seqOf_t, iR1_ev, nRng_ev, gT_ev, gs_c, gs_n,
  add_i, sub_i, div_i, mod_i, mul_l, mul_r, neg_i, cmp_i, lt_i, eq_i, ne_i, isN_n, isN_i, isN_l, notN_n, notN_i, len_l, len_t, tru_l, tru_t, tru_b, tup_l, lst_l, lst_t, any_l, all_l, min_i, max_i, oIx_l, oIx_t, oIx_c0, oIx_c1, oIx_c2, limV,
  nup1, nup_le, nup_lt, nup_eq, ← Int.natCast_add,
  posts_some, postg_some, end_rt, end_nx, lp_nx, lp_ct, lp_bk, lp_rt, lp_er, sqq_nx, sqq_rt, sqq_er, sqq_bk, sqq_ct, wO_some, app_w, put_w, frz_o, frzK_some, nlit_le, nlit_lt, nlit_ge, nlit_gt, nlit_eq, nge0, in_tf, all_true, lenset_n, nm4, nm3, nm2, nd4, nd2, eq_n, le_n, eMv, eSt, eM, 
  Option.map_some, Option.map_none, Option.bind_some, fin_nx, fin_rt, fin_er, List.length_cons, List.length_nil, List.length_map, List.length_append, List.length_range, List.set_cons_zero, List.set_cons_succ, ↓reduceIte, Nat.zero_add, Nat.add_zero, Nat.zero_le, Nat.reduceAdd, Nat.reduceLeDiff, Nat.reduceEqDiff, Int.reduceLT, Int.reduceNeg, Int.reducePow, Option.isNone_none, Option.isNone_some, Option.isSome_none, Option.isSome_some, decide_eq_true_eq, decide_true, decide_false, Bool.not_true, Bool.not_false, Bool.false_eq_true, eq_self, and_self, true_and, and_true, Bool.true_xor, Bool.false_xor])
local macro_rules | `(tactic| walk_at "in") => `(tactic| simp only [rho0, List.map_cons, List.map_nil, List.cons_append, List.nil_append, List.length_cons, List.length_nil, Nat.reduceAdd, Nat.reduceSub, Nat.zero_add, Nat.sub_self, rep0, repS])
local macro_rules | `(tactic| walk_at "evh") => `(tactic| simp only [*, ofE_ok, ofE_ok', bnd_ok, bnd_ok', sSeq_ev, sq_nx, sq_rt, sq_er, sq_bk, sq_ct, sIf_ev, sRet_ev, sDrop_ev, sSkip_ev, sRetN_ev, sRaise_ev, sFor_ev, eC_ev, e2_ev, e1_ev, eFn_ev, eCall_ev, aCons_ev, aNil_ev, nNew_ev, eTup_ev, eLst_ev, eIf_ev, eNew_ev, tTru_ev, tNot_ev, tAnd_ev, tOr_ev, tYes_ev, nLc_ev, wipe0, wipeS, tix_ev, set_ev, asg_ev, setO_ev, v0, vS, o0, o0', oS, g0, gS, own0, ownS, setAt0, setAtS, e3_ev, and_ev, or_ev, not_ev, val_ev, asB_b, iSeq_ev, seqOf_l, seqOf_t, iR1_ev, nRng_ev, gT_ev, gs_c, gs_n,
  add_i, sub_i, div_i, mod_i, mul_l, mul_r, neg_i, cmp_i, lt_i, eq_i, ne_i, isN_n, isN_i, isN_l, notN_n, notN_i, len_l, len_t, tru_l, tru_t, tru_b, tup_l, lst_l, lst_t, any_l, all_l, min_i, max_i, oIx_l, oIx_t, oIx_c0, oIx_c1, oIx_c2, limV,
  nup1, nup_le, nup_lt, nup_eq, ← Int.natCast_add,
  posts_some, postg_some, end_rt, end_nx, lp_nx, lp_ct, lp_bk, lp_rt, lp_er, sqq_nx, sqq_rt, sqq_er, sqq_bk, sqq_ct, wO_some, app_w, put_w, frz_o, frzK_some, nlit_le, nlit_lt, nlit_ge, nlit_gt, nlit_eq, nge0, in_tf, all_true, lenset_n, nm4, nm3, nm2, nd4, nd2, eq_n, le_n, eMv, eSt, eM, 
  Option.map_some, Option.map_none, Option.bind_some, fin_nx, fin_rt, fin_er, List.length_cons, List.length_nil, List.length_map, List.length_append, List.length_range, List.set_cons_zero, List.set_cons_succ, ↓reduceIte, Nat.zero_add, Nat.add_zero, Nat.zero_le, Nat.reduceAdd, Nat.reduceLeDiff, Nat.reduceEqDiff, Int.reduceLT, Int.reduceNeg, Int.reducePow, Option.isNone_none, Option.isNone_some, Option.isSome_none, Option.isSome_some, decide_eq_true_eq, decide_true, decide_false, Bool.not_true, Bool.not_false, Bool.false_eq_true, eq_self, and_self, true_and, and_true, Bool.true_xor, Bool.false_xor])
inductive Pth (M : Mach) : Nat → Nat → Prop
  | good {k : Nat} : k < M.length → (stA M k).1 = true → Pth M k 0
  | go {k g n : Nat} : k < M.length → g ∈ gls (stA M k) → Pth M g n → Pth M k (n + 1)
/-- a shortest way -/
def mP (M : Mach) (k d : Nat) : Prop := Pth M k d ∧ ∀ n, n < d → ¬ Pth M k n
theorem Pth.lt {M : Mach} {k n : Nat} (h : Pth M k n) : k < M.length := by cases h <;> assumption
theorem mP.uniq {M : Mach} {k d d' : Nat} (h : mP M k d) (h' : mP M k d') : d = d' := by
  by_cases h1 : d < d'
  · exact absurd h.1 (h'.2 d h1)
  · by_cases h2 : d' < d
    · exact absurd h'.1 (h.2 d' h2)
    · omega
theorem mP.of {M : Mach} {k : Nat} : ∀ {n : Nat}, Pth M k n → ∃ d, d ≤ n ∧ mP M k d := by
  intro n
  induction n using Nat.strongRecOn with
  | ind n ih =>
    intro h
    by_cases q : ∃ m, m < n ∧ Pth M k m
    · obtain ⟨m, hm, h'⟩ := q
      obtain ⟨d, hd, r⟩ := ih m hm h'
      exact ⟨d, by omega, r⟩
    · exact ⟨n, Nat.le_refl _, h, fun m hm h' => q ⟨m, hm, h'⟩⟩
theorem mP.down {M : Mach} {k d : Nat} (h : mP M k (d + 1)) : ∃ g, g ∈ gls (stA M k) ∧ mP M g d := by
  obtain ⟨h1, h2⟩ := h
  cases h1 with
  | go hk hg hp => exact ⟨_, hg, hp, fun n hn hp' => h2 (n + 1) (by omega) (.go hk hg hp')⟩
theorem nxt_getD {M : Mach} {L : List (Option Nat)} {f k : Nat} (hk : k < M.length) : (nxt M L f).getD k none = nxv M L f k := by
  rw [List.getD_eq_getElem?_getD, nxt_get hk]; rfl
theorem lay_spec (M : Mach) (hG : ∀ k, k < M.length → ∀ g ∈ gls (stA M k), g < M.length) : ∀ f k d, k < M.length → ((lay M f).getD k none = some d ↔ d ≤ f ∧ mP M k d) := by
  intro f
  induction f with
  | zero =>
    intro k d hk
    have e : (lay M 0).getD k none = if (stA M k).1 = true then some 0 else none := by
      rw [lay, List.getD_eq_getElem?_getD, List.getElem?_map, (stA_mem hk).2.1]; rfl
    rw [e]
    constructor
    · intro h
      split at h
      · rename_i hg
        cases h
        exact ⟨Nat.le_refl _, .good hk hg, fun n hn => by omega⟩
      · cases h
    · rintro ⟨hd, hp, _⟩
      have : d = 0 := by omega
      subst this
      cases hp with
      | good _ hg => rw [if_pos hg]
  | succ f ih =>
    intro k d hk
    rw [lay, nxt_getD hk]
    cases hL : (lay M f).getD k none with
    | some d0 =>
      have e : nxv M (lay M f) f k = some d0 := by unfold nxv; rw [hL]; rfl
      rw [e]
      have h0 := (ih k d0 hk).mp hL
      constructor
      · intro h
        cases h
        exact ⟨by omega, h0.2⟩
      · rintro ⟨_, hp⟩
        rw [h0.2.uniq hp]
    | none =>
      by_cases ha : ((gls (stA M k)).any fun g => decide ((lay M f).getD g none = some f)) = true
      · have e : nxv M (lay M f) f k = some (f + 1) := by unfold nxv; rw [hL, ha]; rfl
        rw [e]
        obtain ⟨g, hg, hgf⟩ := List.any_eq_true.mp ha
        have hgp := (ih g f (hG k hk g hg)).mp (of_decide_eq_true hgf)
        have hno : ∀ n, n ≤ f → ¬ Pth M k n := fun n hn hp => by
          obtain ⟨d', hd', hm⟩ := mP.of hp
          have := (ih k d' hk).mpr ⟨by omega, hm⟩
          rw [hL] at this; cases this
        constructor
        · intro h
          cases h
          exact ⟨Nat.le_refl _, .go hk hg hgp.2.1, fun n hn => hno n (by omega)⟩
        · rintro ⟨hd, hp⟩
          by_cases hdf : d ≤ f
          · exact absurd hp.1 (hno d hdf)
          · rw [show d = f + 1 from by omega]
      · have e : nxv M (lay M f) f k = none := by
          unfold nxv
          rw [hL]
          simp only [Option.isNone_none, Bool.true_and]
          rw [if_neg ha]
        rw [e]
        constructor
        · intro h; cases h
        · rintro ⟨hd, hp⟩
          by_cases hdf : d ≤ f
          · have := (ih k d hk).mpr ⟨hdf, hp⟩
            rw [hL] at this; cases this
          · have : d = f + 1 := by omega
            subst this
            obtain ⟨g, hg, hgm⟩ := hp.down
            have h1 := (ih g f (hG k hk g hg)).mpr ⟨Nat.le_refl _, hgm⟩
            exact absurd (List.any_eq_true.mpr ⟨g, hg, decide_eq_true h1⟩) ha
def Dsp (M : Mach) (D : List (Option Nat)) : Prop := ∀ k, k < M.length → ∀ d, (D.getD k none = some d ↔ mP M k d)
theorem lay_stable (M : Mach) (hG : ∀ k, k < M.length → ∀ g ∈ gls (stA M k), g < M.length) {f : Nat} (h : lay M f = lay M (f + 1)) : Dsp M (lay M f) := by
  have none1 : ∀ k, ¬ mP M k (f + 1) := fun k hp => by
    have hk := hp.1.lt
    have := (lay_spec M hG (f + 1) k (f + 1) hk).mpr ⟨Nat.le_refl _, hp⟩
    rw [← h] at this
    have := (lay_spec M hG f k (f + 1) hk).mp this
    omega
  have none2 : ∀ e k, ¬ mP M k (f + 1 + e) := by
    intro e
    induction e with
    | zero => exact none1
    | succ e ih =>
      intro k hp
      obtain ⟨g, _, hg⟩ := hp.down
      exact ih g hg
  intro k hk d
  rw [lay_spec M hG f k d hk]
  refine ⟨fun q => q.2, fun q => ⟨?_, q⟩⟩
  refine Nat.le_of_not_lt fun hlt => ?_
  have := none2 (d - (f + 1)) k
  rw [show f + 1 + (d - (f + 1)) = d from by omega] at this
  exact this q
theorem Valid.goals {M : Mach} (h : Valid M) : ∀ k, k < M.length → ∀ g ∈ gls (stA M k), g < M.length := fun k hk g hg => by
  obtain ⟨m, hm, rfl⟩ := List.mem_map.mp hg
  obtain ⟨c, hc⟩ := List.getElem?_of_mem hm
  exact ((h.each _ (stA_mem hk).1).each c m hc).lt.1
theorem distances_is (M : Mach) (h : Valid M) : ∃ D, Dsp M D ∧ D.length = M.length ∧ m_distances [eM M] = ok (.list (D.map cQ)) := by
  obtain ⟨f, e, q⟩ := distances_ev M h
  exact ⟨_, lay_stable M h.goals e, lay_len M f, q⟩

/-! ### sorted places -/
def nins (x : Nat) : List Nat → List Nat
  | [] => [x]
  | y :: r => if x ≤ y then x :: y :: r else y :: nins x r
def nsort : List Nat → List Nat
  | [] => []
  | x :: r => nins x (nsort r)
theorem ins_nat (x : Nat) : ∀ l : List Nat, ins (x : Int) (l.map fun (n : Nat) => (n : Int)) = (nins x l).map fun (n : Nat) => (n : Int)
  | [] => rfl
  | y :: r => by
    rw [List.map_cons, ins, nins]
    by_cases h : x ≤ y
    · rw [if_pos h, if_pos (Int.ofNat_le.mpr h)]; rfl
    · rw [if_neg h, if_neg (fun q => h (Int.ofNat_le.mp q)), ins_nat x r]; rfl
theorem isort_nat : ∀ l : List Nat, isort (l.map fun (n : Nat) => (n : Int)) = (nsort l).map fun (n : Nat) => (n : Int)
  | [] => rfl
  | x :: r => by
    rw [List.map_cons, isort, isort_nat r, ins_nat]; rfl
theorem nins_perm (x : Nat) : ∀ l : List Nat, (nins x l).Perm (x :: l)
  | [] => List.Perm.refl _
  | y :: r => by
    unfold nins
    split
    · exact List.Perm.refl _
    · exact ((nins_perm x r).cons y).trans (List.Perm.swap x y r)
theorem nsort_perm : ∀ l : List Nat, (nsort l).Perm l
  | [] => List.Perm.refl _
  | x :: r => (nins_perm x _).trans ((nsort_perm r).cons x)
theorem nins_sorted (x : Nat) : ∀ {l : List Nat}, l.Pairwise (· ≤ ·) → (nins x l).Pairwise (· ≤ ·)
  | [], _ => by simp [nins]
  | y :: r, h => by
    unfold nins
    rw [List.pairwise_cons] at h
    split
    · rename_i hxy
      refine List.pairwise_cons.mpr ⟨fun z hz => ?_, List.pairwise_cons.mpr h⟩
      rcases List.mem_cons.mp hz with rfl | hz
      · exact hxy
      · exact Nat.le_trans hxy (h.1 z hz)
    · rename_i hxy
      refine List.pairwise_cons.mpr ⟨fun z hz => ?_, nins_sorted x h.2⟩
      rcases List.mem_cons.mp ((nins_perm x r).mem_iff.mp hz) with rfl | hz
      · omega
      · exact h.1 z hz
theorem nsort_sorted : ∀ l : List Nat, (nsort l).Pairwise (· ≤ ·)
  | [] => List.Pairwise.nil
  | x :: r => nins_sorted x (nsort_sorted r)
theorem srt_tn {ss : List Nat} : oSortedA [.tuple (ss.map cN)] = ok (.list ((nsort ss).map cN)) := by
  unfold oSortedA
  simp only [intsOf_cN, isort_nat, List.map_map]
  rfl
theorem nodup_len_leN {l m : List Nat} (h : l.Nodup) (s : ∀ z ∈ l, z ∈ m) : l.length ≤ m.length := by
  have := nodup_len_le (l := l.map fun (n : Nat) => (n : Int)) (m := m.map fun (n : Nat) => (n : Int)) (map_inj_nodup (fun x y e => Int.ofNat_inj.mp e) h) fun z hz => by
    obtain ⟨y, hy, rfl⟩ := List.mem_map.mp hz
    exact List.mem_map_of_mem (s y hy)
  rwa [List.length_map, List.length_map] at this
/-! ### the first letter not held -/
def frs (held : List Nat) : List Nat := (List.range (held.length + 1)).filter fun x => decide (x ∉ held)
theorem frs_pos {held : List Nat} : 0 < (frs held).length := by
  refine Nat.pos_of_ne_zero fun h => ?_
  have h0 : frs held = [] := List.eq_nil_of_length_eq_zero h
  have := nodup_len_leN (l := List.range (held.length + 1)) (m := held) List.nodup_range fun z hz => by
    refine Decidable.byContradiction fun hn => ?_
    have : z ∈ frs held := List.mem_filter.mpr ⟨hz, decide_eq_true hn⟩
    rw [h0] at this; cases this
  rw [List.length_range] at this
  omega
def fresh (held : List Nat) : Nat := (frs held)[0]'frs_pos
theorem fresh_not {held : List Nat} : fresh held ∉ held := by
  have : fresh held ∈ frs held := List.getElem_mem _
  exact of_decide_eq_true (List.mem_filter.mp this).2
theorem fresh_le {held : List Nat} {a : Nat} (h : a ∉ held) : fresh held ≤ a := by
  have hm : fresh held ∈ frs held := List.getElem_mem _
  have h1 := List.mem_range.mp (List.mem_filter.mp hm).1
  by_cases hl : a < held.length + 1
  · have ha : a ∈ frs held := List.mem_filter.mpr ⟨List.mem_range.mpr hl, decide_eq_true h⟩
    have hp : (frs held).Pairwise (· < ·) := List.Pairwise.filter _ List.pairwise_lt_range
    obtain ⟨i, hi, e⟩ := List.getElem_of_mem ha
    by_cases h0 : i = 0
    · subst h0; exact Nat.le_of_eq e
    · have := List.pairwise_iff_getElem.mp hp 0 i frs_pos hi (by omega)
      rw [e] at this
      exact Nat.le_of_lt this
  · omega

theorem gls_mv {M : Mach} {q c : Nat} {m : Mv} (h : (stA M q).2.2[c]? = some m) : m.1 ∈ gls (stA M q) := List.mem_map_of_mem (List.mem_of_getElem? h)
theorem step_goal {M : Mach} (V : Valid M) {q : Cfg} (h : VC M q) (a : Nat) : (step M q a).1 ∈ gls (stA M q.1) := by
  have hc : q.2.idxOf a ≤ (stA M q.1).2.1 := by rw [← h.len]; exact idx_le.1
  exact gls_mv (m := mvA M q.1 (q.2.idxOf a)) (mvA_ok V h.st hc).1
theorem acc_pth {M : Mach} (V : Valid M) : ∀ {w : List Nat} {q : Cfg}, VC M q → acc M q w = true → Pth M q.1 w.length
  | [], q, h, e => .good h.st e
  | a :: w, q, h, e => .go h.st (step_goal V h a) (acc_pth V (h.step V a) e)
/-- a letter that gains a step is held, or the fresh one -/
theorem letter_ex {M : Mach} (V : Valid M) {q : Cfg} (h : VC M q) {g : Nat} (hg : g ∈ gls (stA M q.1)) : ∃ a ∈ q.2 ++ [fresh q.2], (step M q a).1 = g := by
  obtain ⟨m, hm, rfl⟩ := List.mem_map.mp hg
  obtain ⟨c, hc⟩ := List.getElem?_of_mem hm
  have hcl : c < (stA M q.1).2.1 + 1 := by
    have := (V.each _ (stA_mem h.st).1).moves
    rw [← this]
    exact (List.getElem?_eq_some_iff.mp hc).1
  have hlen := h.len
  have key : ∀ a, q.2.idxOf a = c → (step M q a).1 = m.1 := fun a ha => by
    show (mvA M q.1 (q.2.idxOf a)).1 = m.1
    rw [ha]
    have := (mvA_ok V h.st (show c ≤ _ by omega)).1
    rw [hc] at this
    rw [← Option.some.inj this]
  by_cases hl : c < q.2.length
  · exact ⟨q.2[c], List.mem_append_left _ (List.getElem_mem hl), key _ ((idx_iff h.nod hl).mp rfl)⟩
  · exact ⟨fresh q.2, List.mem_append_right _ (List.mem_singleton.mpr rfl), key _ (by rw [List.idxOf_eq_length fresh_not]; omega)⟩
theorem step_fresh {M : Mach} {q : Cfg} {b : Nat} (hb : b ∉ q.2) : (step M q (fresh q.2)).1 = (step M q b).1 := by
  show (mvA M q.1 _).1 = (mvA M q.1 _).1
  rw [List.idxOf_eq_length fresh_not, List.idxOf_eq_length hb]
def cands (q : Cfg) : List Nat := nsort (q.2 ++ [fresh q.2])
theorem cands_mem {q : Cfg} {a : Nat} : a ∈ cands q ↔ a ∈ q.2 ++ [fresh q.2] := (nsort_perm _).mem_iff
theorem cands_first {q : Cfg} {i : Nat} (hi : i < (cands q).length) {b : Nat} (hb : b ∈ cands q) (hn : ∀ j (h : j < i), (cands q)[j]'(Nat.lt_trans h hi) ≠ b) : (cands q)[i] ≤ b := by
  obtain ⟨j, hj, e⟩ := List.getElem_of_mem hb
  by_cases h1 : j < i
  · exact absurd e (hn j h1)
  · by_cases h2 : j = i
    · subst h2; exact Nat.le_of_eq e
    · have := List.pairwise_iff_getElem.mp (nsort_sorted (q.2 ++ [fresh q.2])) i j hi hj (by omega)
      rw [← e]; exact this
/-- what has been found is least -/
structure Grd (M : Mach) (d0 : Nat) (q : Cfg) (found : List Nat) (n : Nat) : Prop where
  vc : VC M q
  run : run M (0, []) found = q
  len : found.length + n = d0
  low : mP M q.1 n
  least : ∀ w, w.length = d0 → acc M (0, []) w = true → (∃ p x y s t, found = p ++ x :: s ∧ w = p ++ y :: t ∧ x < y) ∨ ∃ w', w = found ++ w'
theorem Grd.step {M : Mach} (V : Valid M) {d0 : Nat} {q : Cfg} {found : List Nat} {n i : Nat} (h : Grd M d0 q found (n + 1)) (hi : i < (cands q).length) (hw : mP M (step M q (cands q)[i]).1 n)
    (hn : ∀ j (h : j < i), ¬ mP M (step M q ((cands q)[j]'(Nat.lt_trans h hi))).1 n) : Grd M d0 (step M q (cands q)[i]) (found ++ [(cands q)[i]]) n := by
  refine ⟨h.vc.step V _, ?_, ?_, hw, fun w hl ha => ?_⟩
  · rw [WK.run, List.foldl_append]
    have := h.run
    rw [WK.run] at this
    rw [this]; rfl
  · have := h.len
    rw [List.length_append, List.length_singleton]; omega
  · rcases h.least w hl ha with ⟨p, x, y, s, t, e1, e2, e3⟩ | ⟨w', rfl⟩
    · exact .inl ⟨p, x, y, s ++ [(cands q)[i]], t, by rw [e1, List.append_assoc]; rfl, e2, e3⟩
    · have hlen := h.len
      rw [List.length_append] at hl
      cases w' with
      | nil => rw [List.length_nil] at hl; omega
      | cons b w2 =>
        rw [List.length_cons] at hl
        have ha2 : acc M (WK.step M q b) w2 = true := by
          rw [acc, WK.run, List.foldl_append] at ha
          have e := h.run
          rw [WK.run] at e
          rw [e] at ha
          exact ha
        have hp := acc_pth V (h.vc.step V b) ha2
        rw [show w2.length = n from by omega] at hp
        have hm : mP M (WK.step M q b).1 n := ⟨hp, fun m hm hp' => h.low.2 (m + 1) (by omega) (.go h.vc.st (step_goal V h.vc b) hp')⟩
        have hle : (cands q)[i] ≤ b := by
          by_cases hb : b ∈ q.2
          · exact cands_first hi (cands_mem.mpr (List.mem_append_left _ hb)) fun j hj e => hn j hj (by rw [e]; exact hm)
          · refine Nat.le_trans (cands_first hi (cands_mem.mpr (List.mem_append_right _ (List.mem_singleton.mpr rfl))) fun j hj e => hn j hj ?_) (fresh_le hb)
            rw [e, step_fresh hb]; exact hm
        by_cases hlt : (cands q)[i] < b
        · exact .inl ⟨found, _, b, [], w2, rfl, rfl, hlt⟩
        · have : b = (cands q)[i] := by omega
          rw [this]
          exact .inr ⟨w2, by rw [List.append_assoc]; rfl⟩
def wI (w : List Nat) : List Int := w.map fun (n : Nat) => (n : Int)
theorem lexLt_diff (p : List Nat) {x y : Nat} (s t : List Nat) (h : x < y) : HT.lexLt (wI (p ++ y :: t)) (wI (p ++ x :: s)) = false := by
  induction p with
  | nil =>
    show (if (y : Int) = (x : Int) then HT.lexLt (wI t) (wI s) else decide ((y : Int) < (x : Int))) = false
    rw [if_neg (by omega), decide_eq_false (by omega)]
  | cons a p ih =>
    show (if (a : Int) = (a : Int) then HT.lexLt (wI (p ++ y :: t)) (wI (p ++ x :: s)) else decide ((a : Int) < (a : Int))) = false
    rw [if_pos rfl, ih]
theorem lexLt_self : ∀ w : List Nat, HT.lexLt (wI w) (wI w) = false
  | [] => rfl
  | a :: p => by
    show (if (a : Int) = (a : Int) then HT.lexLt (wI p) (wI p) else decide ((a : Int) < (a : Int))) = false
    rw [if_pos rfl, lexLt_self p]
structure Least (M : Mach) (found : List Nat) : Prop where
  takes : acc M (0, []) found = true
  low : mP M 0 found.length
  least : ∀ w, w.length = found.length → acc M (0, []) w = true → HT.lexLt (wI w) (wI found) = false
theorem Grd.done {M : Mach} {d0 : Nat} {q : Cfg} {found : List Nat} (h : Grd M d0 q found 0) (hd : mP M 0 d0) : Least M found := by
  have hl : found.length = d0 := h.len
  refine ⟨?_, by rw [hl]; exact hd, fun w hw ha => ?_⟩
  · rw [acc, h.run]
    cases h.low.1 with
    | good _ g => exact g
  · rcases h.least w (by rw [hw, hl]) ha with ⟨p, x, y, s, t, e1, e2, e3⟩ | ⟨w', rfl⟩
    · rw [e1, e2]; exact lexLt_diff p s t e3
    · rw [List.length_append] at hw
      have : w' = [] := List.eq_nil_of_length_eq_zero (by omega)
      rw [this, List.append_nil]
      exact lexLt_self _

theorem mP.chain {M : Mach} : ∀ {d k : Nat}, mP M k d → ∃ l : List Nat, l.length = d + 1 ∧ l.Nodup ∧ ∀ x ∈ l, x < M.length ∧ ∃ e, e ≤ d ∧ mP M x e
  | 0, k, h => ⟨[k], rfl, by simp, fun x hx => by rw [List.mem_singleton.mp hx]; exact ⟨h.1.lt, 0, Nat.le_refl _, h⟩⟩
  | d + 1, k, h => by
    obtain ⟨g, _, hg⟩ := h.down
    obtain ⟨l, h1, h2, h3⟩ := mP.chain hg
    refine ⟨k :: l, by rw [List.length_cons, h1], List.nodup_cons.mpr ⟨fun hk => ?_, h2⟩, fun x hx => ?_⟩
    · obtain ⟨_, e, he, hm⟩ := h3 k hk
      have := h.uniq hm
      omega
    · rcases List.mem_cons.mp hx with rfl | hx
      · exact ⟨h.1.lt, d + 1, Nat.le_refl _, h⟩
      · obtain ⟨q1, e, he, hm⟩ := h3 x hx
        exact ⟨q1, e, by omega, hm⟩
theorem mP.bound {M : Mach} {d k : Nat} (h : mP M k d) : d < M.length := by
  obtain ⟨l, h1, h2, h3⟩ := mP.chain h
  have := nodup_len_leN (m := List.range M.length) h2 fun z hz => List.mem_range.mpr (h3 z hz).1
  rw [List.length_range, h1] at this
  exact this
end WK

set_option Elab.async false
set_option linter.all false
set_option maxHeartbeats 4000000
set_option maxRecDepth 100000
noncomputable section
namespace WK
open PySem DL L2

local macro_rules | `(tactic| walk_at "ev") => `(tactic| simp only [ofE_ok, ofE_ok', bnd_ok, bnd_ok', sSeq_ev, sq_nx, sq_rt, sq_er, sq_bk, sq_ct, sIf_ev, sRet_ev, sDrop_ev, sSkip_ev, sRetN_ev, sRaise_ev, sFor_ev, eC_ev, e2_ev, e1_ev, eFn_ev, eCall_ev, aCons_ev, aNil_ev, nNew_ev, eTup_ev, eLst_ev, eIf_ev, eNew_ev, tTru_ev, tNot_ev, tAnd_ev, tOr_ev, tYes_ev, nLc_ev, wipe0, wipeS, tix_ev, set_ev, asg_ev, setO_ev, v0, vS, o0, o0', oS, g0, gS, own0, ownS, setAt0, setAtS, e3_ev, and_ev, or_ev, not_ev, val_ev, asB_b, iSeq_ev, seqOf_l, seqOf_t, iR1_ev, nRng_ev, gT_ev, gs_c, gs_n,
  add_i, sub_i, div_i, mod_i, mul_l, mul_r, neg_i, cmp_i, lt_i, eq_i, ne_i, isN_n, isN_i, isN_l, notN_n, notN_i, len_l, len_t, tru_l, tru_t, tru_b, tup_l, lst_l, lst_t, any_l, all_l, min_i, max_i, oIx_l, oIx_t, oIx_c0, oIx_c1, oIx_c2, limV,
  nup1, nup_le, nup_lt, nup_eq, ← Int.natCast_add,
  posts_some, postg_some, end_rt, end_nx, lp_nx, lp_ct, lp_bk, lp_rt, lp_er, sqq_nx, sqq_rt, sqq_er, sqq_bk, sqq_ct, wO_some, app_w, put_w, frz_o, frzK_some, nlit_le, nlit_lt, nlit_ge, nlit_gt, nlit_eq, nge0, in_tf, all_true, lenset_n, nm4, nm3, nm2, nd4, nd2, eq_n, le_n, eMv, eSt, eM, eCf, isN_o, eq_o, nsub1, in_tn, srt_tn, 
  Option.map_some, Option.map_none, Option.bind_some, fin_nx, fin_rt, fin_er, List.length_cons, List.length_nil, List.length_map, List.length_append, List.length_range, List.set_cons_zero, List.set_cons_succ, ↓reduceIte, Nat.zero_add, Nat.add_zero, Nat.zero_le, Nat.reduceAdd, Nat.reduceLeDiff, Nat.reduceEqDiff, Int.reduceLT, Int.reduceNeg, Int.reducePow, Option.isNone_none, Option.isNone_some, Option.isSome_none, Option.isSome_some, decide_eq_true_eq, decide_true, decide_false, Bool.not_true, Bool.not_false, Bool.false_eq_true, eq_self, and_self, true_and, and_true, Bool.true_xor, Bool.false_xor])
local macro_rules | `(tactic| walk_at "in") => `(tactic| simp only [rho0, List.map_cons, List.map_nil, List.cons_append, List.nil_append, List.length_cons, List.length_nil, Nat.reduceAdd, Nat.reduceSub, Nat.zero_add, Nat.sub_self, rep0, repS])
local macro_rules | `(tactic| walk_at "evh") => `(tactic| simp only [*, ofE_ok, ofE_ok', bnd_ok, bnd_ok', sSeq_ev, sq_nx, sq_rt, sq_er, sq_bk, sq_ct, sIf_ev, sRet_ev, sDrop_ev, sSkip_ev, sRetN_ev, sRaise_ev, sFor_ev, eC_ev, e2_ev, e1_ev, eFn_ev, eCall_ev, aCons_ev, aNil_ev, nNew_ev, eTup_ev, eLst_ev, eIf_ev, eNew_ev, tTru_ev, tNot_ev, tAnd_ev, tOr_ev, tYes_ev, nLc_ev, wipe0, wipeS, tix_ev, set_ev, asg_ev, setO_ev, v0, vS, o0, o0', oS, g0, gS, own0, ownS, setAt0, setAtS, e3_ev, and_ev, or_ev, not_ev, val_ev, asB_b, iSeq_ev, seqOf_l, seqOf_t, iR1_ev, nRng_ev, gT_ev, gs_c, gs_n,
  add_i, sub_i, div_i, mod_i, mul_l, mul_r, neg_i, cmp_i, lt_i, eq_i, ne_i, isN_n, isN_i, isN_l, notN_n, notN_i, len_l, len_t, tru_l, tru_t, tru_b, tup_l, lst_l, lst_t, any_l, all_l, min_i, max_i, oIx_l, oIx_t, oIx_c0, oIx_c1, oIx_c2, limV,
  nup1, nup_le, nup_lt, nup_eq, ← Int.natCast_add,
  posts_some, postg_some, end_rt, end_nx, lp_nx, lp_ct, lp_bk, lp_rt, lp_er, sqq_nx, sqq_rt, sqq_er, sqq_bk, sqq_ct, wO_some, app_w, put_w, frz_o, frzK_some, nlit_le, nlit_lt, nlit_ge, nlit_gt, nlit_eq, nge0, in_tf, all_true, lenset_n, nm4, nm3, nm2, nd4, nd2, eq_n, le_n, eMv, eSt, eM, eCf, isN_o, eq_o, nsub1, in_tn, srt_tn, 
  Option.map_some, Option.map_none, Option.bind_some, fin_nx, fin_rt, fin_er, List.length_cons, List.length_nil, List.length_map, List.length_append, List.length_range, List.set_cons_zero, List.set_cons_succ, ↓reduceIte, Nat.zero_add, Nat.add_zero, Nat.zero_le, Nat.reduceAdd, Nat.reduceLeDiff, Nat.reduceEqDiff, Int.reduceLT, Int.reduceNeg, Int.reducePow, Option.isNone_none, Option.isNone_some, Option.isSome_none, Option.isSome_some, decide_eq_true_eq, decide_true, decide_false, Bool.not_true, Bool.not_false, Bool.false_eq_true, eq_self, and_self, true_and, and_true, Bool.true_xor, Bool.false_xor])
theorem gt_n {i j : Nat} : oGt (cN i) (cN j) = ok (.bool (decide (j < i))) := by
  show ok (PyData.bool (decide ((j : Int) < (i : Int)))) = _
  simp only [nup_lt]
theorem least_is (M : Mach) (V : Valid M) : (m_least_word [eM M] = ok .none ∧ ∀ n, ¬ Pth M 0 n) ∨ ∃ found, m_least_word [eM M] = ok (.list (found.map cN)) ∧ Least M found := by
  obtain ⟨D, hD, hDl, hdis⟩ := distances_is M V
  have hlook := look_is M V
  rw [eM] at hdis hlook
  have hV := V.le
  have hat : ∀ k, k < M.length → oIx (.list (D.map cQ)) (cN k) = ok (cQ (D.getD k none)) := fun k hk => oIx_list cQ D k _ (by rw [List.getD_eq_getElem?_getD, List.getElem?_eq_getElem (by omega)]; rfl)
  have h0 : oIx (.list (D.map cQ)) (.int 0) = ok (cQ (D.getD 0 none)) := hat 0 V.pos
  have key : Post (fun d => (d = .none ∧ ∀ n, ¬ Pth M 0 n) ∨ ∃ found : List Nat, d = .list (found.map cN) ∧ Least M found) (m_least_word [eM M]) := by
    refine post_run (by rfl) ?_
    walk_at "in"
    rw [b_least_word, eM]
    cases hd0 : D.getD 0 none with
    | none =>
      rw [hd0] at h0
      walk_at "ev"
      rw [hlook]
      walk_at "ev"
      rw [hdis]
      walk_at "ev"
      rw [h0]
      walk_at "ev"
      refine .inl fun n hn => ?_
      obtain ⟨d, _, hm⟩ := mP.of hn
      rw [(hD 0 V.pos d).mpr hm] at hd0
      cases hd0
    | some d0 =>
      rw [hd0] at h0
      have hlow := (hD 0 V.pos d0).mp hd0
      walk_at "ev"
      rw [hlook]
      walk_at "ev"
      rw [hdis]
      walk_at "ev"
      rw [h0]
      walk_at "ev"
      refine posts_sq (posts_while (fun n r => ∃ (q : Cfg) (found : List Nat) (j4 j5 j6 : Option B), Grd M d0 q found n ∧ r = [some (.d (.list (M.map eSt))), some (.d (.list (D.map cQ))), some (.d (eCf q)), some (.own (found.map cN)), j4, j5, j6]) d0 ?_ (by have := hlow.bound; omega) ?_)
      · exact ⟨(0, []), [], none, none, none, ⟨vc0 V, rfl, by simp, hlow, fun w hw ha => .inr ⟨w, rfl⟩⟩, rfl⟩
      · rintro n r ⟨q, found, j4, j5, j6, hg, rfl⟩
        have hq : oIx (.list (D.map cQ)) (cN q.1) = ok (cN n) := by rw [hat q.1 hg.vc.st, (hD _ hg.vc.st n).mpr hg.low]; rfl
        clear hat
        refine ⟨decide (0 < n), by walk_at "evh", ?_⟩
        cases n with
        | zero =>
          rw [if_neg (by decide)]
          walk_at "ev"
          exact .inr ⟨found, rfl, hg.done hlow⟩
        | succ n =>
          rw [if_pos (by simp)]
          have hst := (V.each _ (stA_mem hg.vc.st).1).boxes
          have hql : q.2.length < 1000000 := by have := hg.vc.len; omega
          have hfl : found.length < 1000000 := by have := hg.len; have := hlow.bound; omega
          have hr := rng1_n (n := q.2.length + 1) (by have := hg.vc.len; omega)
          have hfr : oIx (.list ((frs q.2).map cN)) (.int 0) = ok (cN (fresh q.2)) := oIx_list cN (frs q.2) 0 _ (List.getElem?_eq_getElem frs_pos)
          have hsn := snoc_t (a := fresh q.2) hql
          walk_at "evh"
          rw [lc_mapG (enc := cN) (fun x => decide (x ∉ q.2)) cN (List.range (q.2.length + 1)) (by rw [List.length_range]; omega) fun x hx => by
            walk_at "ev"
            exact ⟨by rw [decide_not], fun _ => trivial⟩, ← frs]
          walk_at "evh"
          refine posts_for (fun i r => (∀ j (hj : j < (cands q).length), j < i → ¬ mP M (step M q (cands q)[j]).1 n) ∧ ∃ (j5 j6 : Option B), r = [some (.d (.list (M.map eSt))), some (.d (.list (D.map cQ))), some (.d (eCf q)), some (.own (found.map cN)), some (.d (cN (fresh q.2))), j5, j6]) ?_ ?_ ?_
          · exact ⟨fun j hj h => absurd h (Nat.not_lt_zero _), _, _, rfl⟩
          · rintro i x r hx ⟨hno, j5, j6, rfl⟩
            obtain ⟨a, ha, rfl⟩ := getq_map hx
            obtain ⟨hi, ea⟩ := List.getElem?_eq_some_iff.mp ha
            have hvs := hg.vc.step V a
            have hsp := stepped_is V hg.vc a
            have hat2 : oIx (.list (D.map cQ)) (cN (step M q a).1) = ok (cQ (D.getD (step M q a).1 none)) := oIx_list cQ D _ _ (by rw [List.getD_eq_getElem?_getD, List.getElem?_eq_getElem (by have := hvs.st; omega)]; rfl)
            rw [eM, eCf, eCf] at hsp
            have hDs := hD _ hvs.st n
            by_cases hc : mP M (step M q a).1 n
            · have hc2 := hDs.mpr hc
              clear hDs
              rw [hc2] at hat2
              have heq : oEq (cQ (some n)) (cN n) = ok (.bool true) := by rw [eq_o, decide_eq_true rfl]
              clear hD
              walk_at "evh"
              have hi' : i < (cands q).length := hi
              have ea' : (cands q)[i] = a := ea
              refine ⟨n, Nat.lt_succ_self n, step M q a, found ++ [a], _, _, _, ?_, by rw [List.map_append]; rfl⟩
              have := Grd.step V hg hi' (by rw [ea']; exact hc) fun j hj => hno j (Nat.lt_trans hj hi') hj
              rw [ea'] at this
              exact this
            · have hc2 : ¬ D.getD (step M q a).1 none = some n := fun e => hc (hDs.mp e)
              clear hDs hD
              walk_at "evh"
              refine ⟨fun j hj hji => ?_, _, _, rfl⟩
              by_cases hlt : j < i
              · exact hno j hj hlt
              · have : j = i := by omega
                subst this
                rw [show (cands q)[j] = a from ea]
                exact hc
          · rintro r ⟨hno, j5, j6, rfl⟩
            exfalso
            obtain ⟨g, hgl, hgm⟩ := hg.low.down
            obtain ⟨a, ha, hag⟩ := letter_ex V hg.vc hgl
            obtain ⟨i, hi, e⟩ := List.getElem_of_mem (cands_mem.mpr ha)
            refine hno i hi (by rw [List.length_map]; exact hi) ?_
            rw [e, hag]; exact hgm
  obtain ⟨d, e, h⟩ := key
  rcases h with ⟨rfl, h⟩ | ⟨found, rfl, h⟩
  · exact .inl ⟨e, h⟩
  · exact .inr ⟨found, e, h⟩

theorem nd1 (v : Nat) : (v : Int) / 1 = ((v / 1 : Nat) : Int) := rfl
def en (x : Nat) : Nat := if x % 2 = 0 then 4 else 3
theorem list43 {x : Nat} : oIx (.list [.int 4, .int 3]) (cN (x % 2)) = ok (cN (en x)) := by
  unfold en
  rcases Nat.mod_two_eq_zero_or_one x with h | h
  · rw [h]; rfl
  · rw [h]; rfl
theorem list124 {c : Nat} (h : c < 3) : oIx (.list [.int 1, .int 2, .int 4]) (cN c) = ok (cN (2 ^ c)) := by
  match c, h with
  | 0, _ => rfl
  | 1, _ => rfl
  | 2, _ => rfl
theorem div_n {i j : Nat} (h : 0 < j) (h2 : j < 1000000) : oDiv (cN i) (cN j) = ok (cN (i / j)) := by
  rw [div_i (by omega) (by omega)]
  simp only [cN, Int.natCast_ediv]
end WK

set_option Elab.async false
set_option linter.all false
set_option maxHeartbeats 4000000
set_option maxRecDepth 100000
noncomputable section
namespace WK
open PySem DL L2

local macro_rules | `(tactic| walk_at "ev") => `(tactic| simp only [ofE_ok, ofE_ok', bnd_ok, bnd_ok', sSeq_ev, sq_nx, sq_rt, sq_er, sq_bk, sq_ct, sIf_ev, sRet_ev, sDrop_ev, sSkip_ev, sRetN_ev, sRaise_ev, sFor_ev, eC_ev, e2_ev, e1_ev, eFn_ev, eCall_ev, aCons_ev, aNil_ev, nNew_ev, eTup_ev, eLst_ev, eIf_ev, eNew_ev, tTru_ev, tNot_ev, tAnd_ev, tOr_ev, tYes_ev, nLc_ev, wipe0, wipeS, tix_ev, set_ev, asg_ev, setO_ev, v0, vS, o0, o0', oS, g0, gS, own0, ownS, setAt0, setAtS, e3_ev, and_ev, or_ev, not_ev, val_ev, asB_b, iSeq_ev, seqOf_l, seqOf_t, iR1_ev, nRng_ev, gT_ev, gs_c, gs_n,
  add_i, sub_i, div_i, mod_i, mul_l, mul_r, neg_i, cmp_i, lt_i, eq_i, ne_i, isN_n, isN_i, isN_l, notN_n, notN_i, len_l, len_t, tru_l, tru_t, tru_b, tup_l, lst_l, lst_t, any_l, all_l, min_i, max_i, oIx_l, oIx_t, oIx_c0, oIx_c1, oIx_c2, limV,
  nup1, nup_le, nup_lt, nup_eq, ← Int.natCast_add,
  posts_some, postg_some, end_rt, end_nx, lp_nx, lp_ct, lp_bk, lp_rt, lp_er, sqq_nx, sqq_rt, sqq_er, sqq_bk, sqq_ct, wO_some, app_w, put_w, frz_o, frzK_some, nlit_le, nlit_lt, nlit_ge, nlit_gt, nlit_eq, nge0, in_tf, all_true, lenset_n, nm4, nm3, nm2, nd4, nd2, eq_n, le_n, mix_ev, list43, any_b, 
  Option.map_some, Option.map_none, Option.bind_some, fin_nx, fin_rt, fin_er, List.length_cons, List.length_nil, List.length_map, List.length_append, List.length_range, List.set_cons_zero, List.set_cons_succ, ↓reduceIte, Nat.zero_add, Nat.add_zero, Nat.zero_le, Nat.reduceAdd, Nat.reduceLeDiff, Nat.reduceEqDiff, Int.reduceLT, Int.reduceNeg, Int.reducePow, Option.isNone_none, Option.isNone_some, Option.isSome_none, Option.isSome_some, decide_eq_true_eq, decide_true, decide_false, Bool.not_true, Bool.not_false, Bool.false_eq_true, eq_self, and_self, true_and, and_true, Bool.true_xor, Bool.false_xor])
local macro_rules | `(tactic| walk_at "in") => `(tactic| simp only [rho0, List.map_cons, List.map_nil, List.cons_append, List.nil_append, List.length_cons, List.length_nil, Nat.reduceAdd, Nat.reduceSub, Nat.zero_add, Nat.sub_self, rep0, repS])
local macro_rules | `(tactic| walk_at "evh") => `(tactic| simp only [*, ofE_ok, ofE_ok', bnd_ok, bnd_ok', sSeq_ev, sq_nx, sq_rt, sq_er, sq_bk, sq_ct, sIf_ev, sRet_ev, sDrop_ev, sSkip_ev, sRetN_ev, sRaise_ev, sFor_ev, eC_ev, e2_ev, e1_ev, eFn_ev, eCall_ev, aCons_ev, aNil_ev, nNew_ev, eTup_ev, eLst_ev, eIf_ev, eNew_ev, tTru_ev, tNot_ev, tAnd_ev, tOr_ev, tYes_ev, nLc_ev, wipe0, wipeS, tix_ev, set_ev, asg_ev, setO_ev, v0, vS, o0, o0', oS, g0, gS, own0, ownS, setAt0, setAtS, e3_ev, and_ev, or_ev, not_ev, val_ev, asB_b, iSeq_ev, seqOf_l, seqOf_t, iR1_ev, nRng_ev, gT_ev, gs_c, gs_n,
  add_i, sub_i, div_i, mod_i, mul_l, mul_r, neg_i, cmp_i, lt_i, eq_i, ne_i, isN_n, isN_i, isN_l, notN_n, notN_i, len_l, len_t, tru_l, tru_t, tru_b, tup_l, lst_l, lst_t, any_l, all_l, min_i, max_i, oIx_l, oIx_t, oIx_c0, oIx_c1, oIx_c2, limV,
  nup1, nup_le, nup_lt, nup_eq, ← Int.natCast_add,
  posts_some, postg_some, end_rt, end_nx, lp_nx, lp_ct, lp_bk, lp_rt, lp_er, sqq_nx, sqq_rt, sqq_er, sqq_bk, sqq_ct, wO_some, app_w, put_w, frz_o, frzK_some, nlit_le, nlit_lt, nlit_ge, nlit_gt, nlit_eq, nge0, in_tf, all_true, lenset_n, nm4, nm3, nm2, nd4, nd2, eq_n, le_n, mix_ev, list43, any_b, 
  Option.map_some, Option.map_none, Option.bind_some, fin_nx, fin_rt, fin_er, List.length_cons, List.length_nil, List.length_map, List.length_append, List.length_range, List.set_cons_zero, List.set_cons_succ, ↓reduceIte, Nat.zero_add, Nat.add_zero, Nat.zero_le, Nat.reduceAdd, Nat.reduceLeDiff, Nat.reduceEqDiff, Int.reduceLT, Int.reduceNeg, Int.reducePow, Option.isNone_none, Option.isNone_some, Option.isSome_none, Option.isSome_some, decide_eq_true_eq, decide_true, decide_false, Bool.not_true, Bool.not_false, Bool.false_eq_true, eq_self, and_self, true_and, and_true, Bool.true_xor, Bool.false_xor])
theorem chain_ss (v : Nat) (h : v < 4) : ∃ ss : List Nat, oIx (.list [.tuple [.int 1], .tuple [.int 1, .int 0], .tuple [.int 0, .int 1], .tuple [.int 0]]) (cN v) = ok (.tuple (ss.map cN)) ∧ 0 < ss.length ∧ ss.length ≤ 2 ∧ ss.Nodup ∧ ∀ x ∈ ss, x < 2 := by
  match v, h with
  | 0, _ => exact ⟨[1], rfl, by decide, by decide, by decide, by decide⟩
  | 1, _ => exact ⟨[1, 0], rfl, by decide, by decide, by decide, by decide⟩
  | 2, _ => exact ⟨[0, 1], rfl, by decide, by decide, by decide, by decide⟩
  | 3, _ => exact ⟨[0], rfl, by decide, by decide, by decide, by decide⟩
def chainM (ss : List Nat) (N : Nat) : Mach := [(false, 0, [(1, [0])]), (false, 1, [(4, []), (2, ss)]), (false, ss.length, (List.range (ss.length + 1)).map fun c => (en (N / 2 ^ c), [])), (true, 0, [(4, [])]), (false, 0, [(4, [])])]
theorem VMv.nil {bs : List Nat} {f g : Nat} (h : bs[g]? = some 0) : VMv bs f (g, []) := ⟨h, fun x hx => (nomatch hx), List.nodup_nil⟩
theorem chain_valid {ss : List Nat} {N : Nat} (h3 : ss.length ≤ 2) (h4 : ss.Nodup) (h5 : ∀ x ∈ ss, x < 2) : Valid (chainM ss N) := by
  have hb : bxs (chainM ss N) = [0, 1, ss.length, 0, 0] := rfl
  refine ⟨by show 0 < 5; decide, by show 5 ≤ 400; decide, by rw [hb]; rfl, fun s hs => ?_⟩
  rw [hb]
  unfold chainM at hs
  have dead : ∀ k : Bool, VSt [0, 1, ss.length, 0, 0] (k, 0, [(4, [])]) := fun k => ⟨by show 0 ≤ 6; decide, rfl, fun c m hm => by
    match c, hm with
    | 0, hm => cases hm; exact VMv.nil rfl
    | c + 1, hm => cases hm⟩
  rcases List.mem_cons.mp hs with rfl | hs
  · refine ⟨by show 0 ≤ 6; decide, rfl, fun c m hm => ?_⟩
    match c, hm with
    | 0, hm => cases hm; exact ⟨rfl, by decide, by decide⟩
    | c + 1, hm => cases hm
  rcases List.mem_cons.mp hs with rfl | hs
  · refine ⟨by show 1 ≤ 6; decide, rfl, fun c m hm => ?_⟩
    match c, hm with
    | 0, hm => cases hm; exact VMv.nil rfl
    | 1, hm => cases hm; exact ⟨rfl, h5, h4⟩
    | c + 2, hm => cases hm
  rcases List.mem_cons.mp hs with rfl | hs
  · refine ⟨by show ss.length ≤ 6; omega, by show (List.map _ _).length = _; rw [List.length_map, List.length_range], fun c m hm => ?_⟩
    obtain ⟨y, _, rfl⟩ := getq_map hm
    refine VMv.nil ?_
    unfold en
    split <;> rfl
  rcases List.mem_cons.mp hs with rfl | hs
  · exact dead true
  rcases List.mem_cons.mp hs with rfl | hs
  · exact dead false
  cases hs
theorem chain_is (ns : List Int) : ∃ M, m__law_chain [.list (ns.map .int)] = ok (eM M) ∧ Valid M ∧ M.length ≤ 5 := by
  have key : Post (fun d => ∃ M, d = eM M ∧ Valid M ∧ M.length ≤ 5) (m__law_chain [.list (ns.map .int)]) := by
    refine post_run (by rfl) ?_
    walk_at "in"
    rw [b__law_chain]
    obtain ⟨ss, h1, h2, h3, h4, h5⟩ := chain_ss (mixv ns 101 % 4) (Nat.mod_lt _ (by decide))
    have hnum : ∃ N : Nat, ((1 : Int) + (mixv ns 102 : Nat) % (3 + 4 * ((ss.length : Nat) - 1))) = (N : Nat) := by
      have h7 : (0 : Int) < 3 + 4 * ((ss.length : Nat) - 1) := by omega
      have := Int.emod_nonneg (mixv ns 102 : Nat) (b := 3 + 4 * ((ss.length : Nat) - 1)) (by omega)
      exact ⟨(1 + (mixv ns 102 : Nat) % (3 + 4 * ((ss.length : Nat) - 1)) : Int).toNat, by omega⟩
    obtain ⟨N, hN⟩ := hnum
    have h7 : (0 : Int) < 3 + 4 * ((ss.length : Nat) - 1) := by omega
    have hr := rng1_n (n := ss.length + 1) (by omega)
    walk_at "evh"
    rw [lc_allG (enc := cN) (fun c => .tuple [cN (en (N / 2 ^ c)), .tuple []]) (List.range (ss.length + 1)) (by rw [List.length_range]; omega) fun c hc => by
      have hc2 : c < 3 := by have := List.mem_range.mp hc; omega
      have h8 := list124 hc2
      have h9 := div_n (i := N) (j := 2 ^ c) (Nat.pow_pos (by decide)) (Nat.lt_of_le_of_lt (Nat.pow_le_pow_right (by decide) (show c ≤ 2 by omega)) (by decide))
      walk_at "evh"]
    walk_at "ev"
    rw [addL (by rw [lim_is]; show 2 + 3 ≤ 1000000; decide)]
    walk_at "ev"
    refine ⟨chainM ss N, ?_, chain_valid h3 h4 h5, by show 5 ≤ 5; decide⟩
    have hm : (List.range (ss.length + 1)).map (fun c => PyData.tuple [cN (en (N / 2 ^ c)), PyData.tuple []]) = ((List.range (ss.length + 1)).map fun c => ((en (N / 2 ^ c), []) : Mv)).map eMv := by
      rw [List.map_map]; rfl
    rw [hm]; rfl
  obtain ⟨d, e, M, rfl, h⟩ := key
  exact ⟨M, e, h⟩

/-! ### the law -/
theorem whole_is (a : Nat) : m__law_whole [cN a] = ok (.bool true) := by
  rw [m__law_whole, run_fin (by rfl)]
  walk_at "in"
  rw [b__law_whole]
  walk_at "ev"
  rfl
theorem lt_ln {v w : List Nat} : oLtA (.list (v.map cN)) (.list (w.map cN)) = ok (.bool (HT.lexLt (wI v) (wI w))) := by
  unfold oLtA; simp only [intsOf_cN]; rfl
theorem isi_l {xs : List PyData} : oIsi "list" (.list xs) = ok (.bool true) := rfl
theorem ge0 {a : Nat} : oGe (cN a) (.int 0) = ok (.bool true) := by
  show ok (PyData.bool (decide ((0 : Int) ≤ (a : Int)))) = _
  rw [decide_eq_true (by omega)]
theorem min3 {a : Nat} : oMin2 [cN a, .int 3] = ok (cN (min a 3)) := by
  rw [min_i]
  congr 2
  split <;> omega
/-- what the closure holds -/
def Cov (M : Mach) (t : Nat) (S : List Nat) : Prop := ∀ d, Pth M 0 d → ∃ x ∈ S, Pth M x (d - t)
def Snd (M : Mach) (S : List Nat) : Prop := ∀ x ∈ S, x < M.length ∧ ∀ n, Pth M x n → ∃ m, Pth M 0 m
end WK

set_option Elab.async false
set_option linter.all false
set_option maxHeartbeats 4000000
set_option maxRecDepth 100000
noncomputable section
namespace WK
open PySem DL L2

local macro_rules | `(tactic| walk_at "ev") => `(tactic| simp only [ofE_ok, ofE_ok', bnd_ok, bnd_ok', sSeq_ev, sq_nx, sq_rt, sq_er, sq_bk, sq_ct, sIf_ev, sRet_ev, sDrop_ev, sSkip_ev, sRetN_ev, sRaise_ev, sFor_ev, eC_ev, e2_ev, e1_ev, eFn_ev, eCall_ev, aCons_ev, aNil_ev, nNew_ev, eTup_ev, eLst_ev, eIf_ev, eNew_ev, tTru_ev, tNot_ev, tAnd_ev, tOr_ev, tYes_ev, nLc_ev, wipe0, wipeS, tix_ev, set_ev, asg_ev, setO_ev, v0, vS, o0, o0', oS, g0, gS, own0, ownS, setAt0, setAtS, e3_ev, and_ev, or_ev, not_ev, val_ev, asB_b, iSeq_ev, seqOf_l, seqOf_t, iR1_ev, nRng_ev, gT_ev, gs_c, gs_n,
  add_i, sub_i, div_i, mod_i, mul_l, mul_r, neg_i, cmp_i, lt_i, eq_i, ne_i, isN_n, isN_i, isN_l, notN_n, notN_i, len_l, len_t, tru_l, tru_t, tru_b, tup_l, lst_l, lst_t, any_l, all_l, min_i, max_i, oIx_l, oIx_t, oIx_c0, oIx_c1, oIx_c2, limV,
  nup1, nup_le, nup_lt, nup_eq, ← Int.natCast_add,
  posts_some, postg_some, end_rt, end_nx, lp_nx, lp_ct, lp_bk, lp_rt, lp_er, sqq_nx, sqq_rt, sqq_er, sqq_bk, sqq_ct, wO_some, app_w, put_w, frz_o, frzK_some, nlit_le, nlit_lt, nlit_ge, nlit_gt, nlit_eq, nge0, in_tf, all_true, lenset_n, nm4, nm3, nm2, nd4, nd2, eq_n, le_n, mix_ev, any_b, isN_l, isN_n, eSt, 
  Option.map_some, Option.map_none, Option.bind_some, fin_nx, fin_rt, fin_er, List.length_cons, List.length_nil, List.length_map, List.length_append, List.length_range, List.set_cons_zero, List.set_cons_succ, ↓reduceIte, Nat.zero_add, Nat.add_zero, Nat.zero_le, Nat.reduceAdd, Nat.reduceLeDiff, Nat.reduceEqDiff, Int.reduceLT, Int.reduceNeg, Int.reducePow, Option.isNone_none, Option.isNone_some, Option.isSome_none, Option.isSome_some, decide_eq_true_eq, decide_true, decide_false, Bool.not_true, Bool.not_false, Bool.false_eq_true, eq_self, and_self, true_and, and_true, Bool.true_xor, Bool.false_xor])
local macro_rules | `(tactic| walk_at "in") => `(tactic| simp only [rho0, List.map_cons, List.map_nil, List.cons_append, List.nil_append, List.length_cons, List.length_nil, Nat.reduceAdd, Nat.reduceSub, Nat.zero_add, Nat.sub_self, rep0, repS])
local macro_rules | `(tactic| walk_at "evh") => `(tactic| simp only [*, ofE_ok, ofE_ok', bnd_ok, bnd_ok', sSeq_ev, sq_nx, sq_rt, sq_er, sq_bk, sq_ct, sIf_ev, sRet_ev, sDrop_ev, sSkip_ev, sRetN_ev, sRaise_ev, sFor_ev, eC_ev, e2_ev, e1_ev, eFn_ev, eCall_ev, aCons_ev, aNil_ev, nNew_ev, eTup_ev, eLst_ev, eIf_ev, eNew_ev, tTru_ev, tNot_ev, tAnd_ev, tOr_ev, tYes_ev, nLc_ev, wipe0, wipeS, tix_ev, set_ev, asg_ev, setO_ev, v0, vS, o0, o0', oS, g0, gS, own0, ownS, setAt0, setAtS, e3_ev, and_ev, or_ev, not_ev, val_ev, asB_b, iSeq_ev, seqOf_l, seqOf_t, iR1_ev, nRng_ev, gT_ev, gs_c, gs_n,
  add_i, sub_i, div_i, mod_i, mul_l, mul_r, neg_i, cmp_i, lt_i, eq_i, ne_i, isN_n, isN_i, isN_l, notN_n, notN_i, len_l, len_t, tru_l, tru_t, tru_b, tup_l, lst_l, lst_t, any_l, all_l, min_i, max_i, oIx_l, oIx_t, oIx_c0, oIx_c1, oIx_c2, limV,
  nup1, nup_le, nup_lt, nup_eq, ← Int.natCast_add,
  posts_some, postg_some, end_rt, end_nx, lp_nx, lp_ct, lp_bk, lp_rt, lp_er, sqq_nx, sqq_rt, sqq_er, sqq_bk, sqq_ct, wO_some, app_w, put_w, frz_o, frzK_some, nlit_le, nlit_lt, nlit_ge, nlit_gt, nlit_eq, nge0, in_tf, all_true, lenset_n, nm4, nm3, nm2, nd4, nd2, eq_n, le_n, mix_ev, any_b, isN_l, isN_n, eSt, 
  Option.map_some, Option.map_none, Option.bind_some, fin_nx, fin_rt, fin_er, List.length_cons, List.length_nil, List.length_map, List.length_append, List.length_range, List.set_cons_zero, List.set_cons_succ, ↓reduceIte, Nat.zero_add, Nat.add_zero, Nat.zero_le, Nat.reduceAdd, Nat.reduceLeDiff, Nat.reduceEqDiff, Int.reduceLT, Int.reduceNeg, Int.reducePow, Option.isNone_none, Option.isNone_some, Option.isSome_none, Option.isSome_some, decide_eq_true_eq, decide_true, decide_false, Bool.not_true, Bool.not_false, Bool.false_eq_true, eq_self, and_self, true_and, and_true, Bool.true_xor, Bool.false_xor])
theorem law_is (ns : List Int) (_ : ns.length ≤ 63) : m_law [.list (ns.map .int)] = ok (.bool true) := by
  have key : Post (fun d => d = .bool true) (m_law [.list (ns.map .int)]) := by
    refine post_run (by rfl) ?_
    walk_at "in"
    rw [b_law]
    obtain ⟨d1, hm1, M1, rfl, V1, hl1, hb1⟩ := machine_is ns 0 4 (by decide) (by decide)
    obtain ⟨M2, hm2, V2, hl2⟩ := chain_is ns
    have hm1' : m__law_machine [.list (ns.map .int), .int 0, .int 4] = ok (eM M1) := hm1
    walk_at "ev"
    rw [hm1']
    walk_at "ev"
    refine posts_sq (PostS.imp (Q := fun z => ∃ M, Valid M ∧ M.length ≤ 5 ∧ z = .nx [some (.d (.list (ns.map .int))), some (.d (eM M)), none, none, none, none, none, none, none, none]) ?_ ?_)
    · by_cases hc : mixv ns 100 % 4 = 0
      · walk_at "evh"
        exact ⟨M2, V2, hl2, rfl⟩
      · walk_at "evh"
        exact ⟨M1, V1, by omega, rfl⟩
    clear hb1 hm1 hm1' hm2 V1 V2 hl1 hl2 M1 M2
    rintro z ⟨M, V, hl, rfl⟩
    have hr := rng1_n (n := M.length) (by omega)
    rw [eM]
    walk_at "evh"
    have h7 : ∀ x, x < M.length → (gls (stA M x)).length ≤ 7 := fun x hx => by
      have := (V.each _ (stA_mem hx).1).moves
      have := (V.each _ (stA_mem hx).1).boxes
      rw [gls, List.length_map]; omega
    refine posts_sq (posts_for (fun i r => ∃ (S : List Nat) (j3 j4 j5 : Option B), Cov M i S ∧ Snd M S ∧ S.length ≤ 1 + 35 * i ∧ r = [some (.d (.list (ns.map .int))), some (.d (.list (M.map eSt))), some (.d (.list (S.map cN))), j3, j4, j5, none, none, none, none]) ?_ ?_ ?_)
    · refine ⟨[0], none, none, none, fun d hd => ⟨0, List.mem_singleton.mpr rfl, hd⟩, fun x hx => ?_, by decide, rfl⟩
      rw [List.mem_singleton.mp hx]
      exact ⟨V.pos, fun n hn => ⟨n, hn⟩⟩
    · rintro i x r hx ⟨S, j3, j4, j5, hcov, hsnd, hsl, rfl⟩
      obtain ⟨t, hy, rfl⟩ := getq_map hx
      obtain ⟨rfl, htl⟩ := getq_range hy
      walk_at "evh"
      refine posts_for (fun i r => ∃ (S2 : List Nat) (j4 j5 : Option B), (∀ x ∈ S, x ∈ S2) ∧ (∀ x ∈ S, x < i → ∀ g ∈ gls (stA M x), g ∈ S2) ∧ Snd M S2 ∧ S2.length ≤ 1 + 35 * t + 7 * i ∧ r = [some (.d (.list (ns.map .int))), some (.d (.list (M.map eSt))), some (.d (.list (S2.map cN))), some (.d (cN t)), j4, j5, none, none, none, none]) ?_ ?_ ?_
      · exact ⟨S, j4, j5, fun z hz => hz, fun x _ h => absurd h (Nat.not_lt_zero _), hsnd, by omega, rfl⟩
      · rintro i x r hx ⟨S2, j4, j5, g1, g2, g3, g4, rfl⟩
        obtain ⟨k, hy, rfl⟩ := getq_map hx
        obtain ⟨rfl, hkl⟩ := getq_range hy
        have hix : oIx (.list (M.map eSt)) (cN k) = ok (eSt (stA M k)) := oIx_list eSt M k _ (stA_mem hkl).2.1
        have hin := in_ln (neg := false) (a := k) (held := S2)
        by_cases hk : k ∈ S2
        · have hmv : (stA M k).2.2.length ≤ 1000000 := by
            have := h7 k hkl
            rw [gls, List.length_map] at this; omega
          rw [decide_eq_true hk] at hin
          walk_at "ev"
          rw [hin, hix]
          walk_at "ev"
          rw [lc_allG (enc := eMv) (fun m => cN m.1) _ hmv fun m hm => by
            rw [eMv]
            walk_at "ev"]
          have hg : (stA M k).2.2.map (fun m => cN m.1) = (gls (stA M k)).map cN := by rw [gls, List.map_map]; rfl
          have h7k := h7 k hkl
          have hcat := cat_l (f := cN) (xs := S2) (ys := gls (stA M k)) (by rw [lim_is]; omega)
          rw [hg]
          walk_at "ev"
          rw [hcat]
          walk_at "ev"
          refine ⟨S2 ++ gls (stA M k), _, _, fun z hz => List.mem_append_left _ (g1 z hz), fun z hz hzl g hgg => ?_, fun z hz => ?_, by rw [List.length_append]; omega, rfl⟩
          · by_cases hzk : z = k
            · subst hzk; exact List.mem_append_right _ hgg
            · exact List.mem_append_left _ (g2 z hz (by omega) g hgg)
          · rcases List.mem_append.mp hz with q | q
            · exact g3 z q
            · exact ⟨V.goals k hkl z q, fun n hn => (g3 k hk).2 (n + 1) (.go hkl q hn)⟩
        · rw [decide_eq_false hk] at hin
          walk_at "ev"
          rw [hin]
          walk_at "ev"
          refine ⟨S2, _, _, g1, fun z hz hzl => ?_, g3, by omega, rfl⟩
          by_cases hzk : z = k
          · subst hzk; exact absurd (g1 _ hz) hk
          · exact g2 z hz (by omega)
      · rintro r ⟨S2, j4, j5, g1, g2, g3, g4, rfl⟩
        rw [List.length_map, List.length_range] at g2 g4
        walk_at "ev"
        refine ⟨S2, _, _, _, fun d hd => ?_, g3, by omega, rfl⟩
        obtain ⟨x, hx, hp⟩ := hcov d hd
        by_cases hdt : d ≤ t
        · exact ⟨x, g1 _ hx, by rw [show d - (t + 1) = d - t from by omega]; exact hp⟩
        · rw [show d - t = (d - (t + 1)) + 1 from by omega] at hp
          cases hp with
          | go hxl hg hp' => exact ⟨_, g2 x hx hxl _ hg, hp'⟩
    · rintro r ⟨S, j3, j4, j5, hcov, hsnd, hsl, rfl⟩
      rw [List.length_map, List.length_range] at hcov hsl
      walk_at "ev"
      have hS : S.length ≤ 1000000 := by omega
      have hat : ∀ x ∈ S, oIx (.list (M.map eSt)) (cN x) = ok (eSt (stA M x)) := fun x hx => oIx_list eSt M x _ (stA_mem (hsnd x hx).1).2.1
      have hlw := least_is M V
      rw [eM] at hlw
      have hany : ∀ d : PyData, lcL (gN 4) tYesF (e2 oIx (e2 oIx (eO 1) (eO 4)) (eC (PyData.int 0))) [some (B.d (PyData.list (List.map PyData.int ns))), some (B.d (PyData.list (List.map eSt M))), some (B.d (PyData.list (List.map cN S))), j3, none, j5, some (B.d d), none, none, none] (S.map cN) [] = ok (S.map fun x => .bool (stA M x).1) := fun d =>
        lc_allG (enc := cN) (fun x => .bool (stA M x).1) S hS fun x hx => by
          have := hat x hx
          walk_at "evh"
      by_cases hex : (S.any fun x => (stA M x).1) = true
      · have hex2 : ∃ m, Pth M 0 m := by
          obtain ⟨x, hx, hg⟩ := List.any_eq_true.mp hex
          exact (hsnd x hx).2 0 (.good (hsnd x hx).1 hg)
        obtain ⟨found, hf, hL⟩ : ∃ found, m_least_word [.list (M.map eSt)] = ok (.list (found.map cN)) ∧ Least M found := by
          rcases hlw with ⟨_, q⟩ | q
          · obtain ⟨m, hm⟩ := hex2
            exact absurd hm (q m)
          · exact q
        have hfb := hL.low.bound
        have htk := takes_is V found
        rw [eM] at htk
        rw [hf]
        walk_at "ev"
        rw [hany]
        walk_at "ev"
        rw [hex]
        walk_at "ev"
        rw [lc_allG (enc := cN) (fun _ => .bool true) found (by omega) fun a _ => by
          have h1 := whole_is a
          have h2 := ge0 (a := a)
          walk_at "ev"
          rw [h1]
          walk_at "ev"]
        have hmn := min3 (a := found.length)
        have hr2 := rng1_n (n := min found.length 3 + 1) (by omega)
        walk_at "ev"
        rw [isi_l]
        walk_at "ev"
        rw [htk, hL.takes]
        walk_at "ev"
        rw [show ((if 3 < found.length then 3 else (found.length : Int)) + 1) = ((min found.length 3 + 1 : Nat) : Int) from by split <;> omega]
        rw [hr2]
        walk_at "ev"
        refine posts_sq (posts_for (fun i r => ∃ (j3 j4 j5 j7 j8 j9 : Option B), r = [some (.d (.list (ns.map .int))), some (.d (.list (M.map eSt))), some (.d (.list (S.map cN))), j3, j4, j5, some (.d (.list (found.map cN))), j7, j8, j9]) ?_ ?_ ?_)
        · exact ⟨_, _, _, _, _, _, rfl⟩
        · rintro i x r hx ⟨j3, j4, j5, j7, j8, j9, rfl⟩
          obtain ⟨t, hy, rfl⟩ := getq_map hx
          obtain ⟨rfl, htl⟩ := getq_range hy
          have hal := all_is t (by omega)
          rw [eWs] at hal
          walk_at "ev"
          rw [hal]
          walk_at "ev"
          refine posts_for (fun i r => ∃ (j3 j4 j5 j7 j9 : Option B), r = [some (.d (.list (ns.map .int))), some (.d (.list (M.map eSt))), some (.d (.list (S.map cN))), j3, j4, j5, some (.d (.list (found.map cN))), j7, some (.d (cN t)), j9]) ?_ ?_ ?_
          · exact ⟨_, _, _, _, _, rfl⟩
          · rintro i x r hx ⟨j3, j4, j5, j7, j9, rfl⟩
            obtain ⟨w, hw, rfl⟩ := getq_map hx
            have hwl := words_mem (List.mem_of_getElem? hw)
            have htw := takes_is V w
            rw [eM] at htw
            rw [eW]
            walk_at "ev"
            rw [htw]
            walk_at "ev"
            by_cases hac : acc M (0, []) w = true
            · have hp := acc_pth V (vc0 V) hac
              have h1 : ¬ t < found.length := fun hlt => hL.low.2 t hlt (by rw [← hwl]; exact hp)
              have h2 := hL.least w (by omega) hac
              have hlt := lt_ln (v := w) (w := found)
              rw [h2] at hlt
              rw [hac]
              walk_at "ev"
              rw [if_neg h1, hlt]
              walk_at "ev"
              exact ⟨_, _, _, _, _, rfl⟩
            · have hac' : acc M (0, []) w = false := by simpa using hac
              rw [hac']
              walk_at "ev"
              exact ⟨_, _, _, _, _, rfl⟩
          · rintro r ⟨j3, j4, j5, j7, j9, rfl⟩
            exact ⟨_, _, _, _, _, _, rfl⟩
        · rintro r ⟨j3, j4, j5, j7, j8, j9, rfl⟩
          walk_at "ev"
      · have hno : ∀ n, ¬ Pth M 0 n := fun n hn => by
          obtain ⟨d, _, hm⟩ := mP.of hn
          have hb := hm.bound
          obtain ⟨x, hx, hp⟩ := hcov d hm.1
          rw [show d - M.length = 0 from by omega] at hp
          cases hp with
          | good _ hg => exact hex (List.any_eq_true.mpr ⟨x, hx, hg⟩)
        have hf : m_least_word [.list (M.map eSt)] = ok .none := by
          rcases hlw with ⟨q, _⟩ | ⟨found, _, hL⟩
          · exact q
          · exact absurd hL.low.1 (hno _)
        have hex' : (S.any fun x => (stA M x).1) = false := by simpa using hex
        rw [hf]
        walk_at "ev"
        rw [hany]
        walk_at "ev"
        rw [hex']
        walk_at "ev"
  obtain ⟨d, e, rfl⟩ := key
  exact e
end WK

set_option Elab.async false
set_option linter.all false
set_option maxRecDepth 100000
set_option maxHeartbeats 4000000

noncomputable section
namespace WK
open PySem PySem.Spec PyProof.Rows L2 DL
def topS (i : Nat) : Stmt := PySem.Challenge.pw_boxword_k20_whole_least_words.main.body.getD i (.Pass ⟨0, 0, 0, 0⟩)
structure Txt (K : PySem.W.Frag) (mg : Str → Option Value) (F : Nat → Addr) (fd : Nat → FuncData) (ax : XN → Addr) : Prop where
  f__law_cell : Fun K "_law_cell" "_law_cell" (topS 14) (F 6) (fd 6)
  g__law_cell : mg "_law_cell" = some (.ref (F 6))
  b__law_cell : Binds K (fd 6) ["_law_script", "_law_k"] []
  f__law_mix : Fun K "_law_mix" "_law_mix" (topS 15) (F 7) (fd 7)
  g__law_mix : mg "_law_mix" = some (.ref (F 7))
  b__law_mix : Binds K (fd 7) ["_law_script", "_law_k"] []
  f__law_sources : Fun K "_law_sources" "_law_sources" (topS 17) (F 9) (fd 9)
  g__law_sources : mg "_law_sources" = some (.ref (F 9))
  b__law_sources : Binds K (fd 9) ["_law_script", "_law_k", "_law_many", "_law_most"] []
  f__law_machine : Fun K "_law_machine" "_law_machine" (topS 18) (F 10) (fd 10)
  g__law_machine : mg "_law_machine" = some (.ref (F 10))
  b__law_machine : Binds K (fd 10) ["_law_script", "_law_k", "_law_most"] []
  f_look_state : Fun K "look_state" "look_state" (topS 6) (F 0) (fd 0)
  g_look_state : mg "look_state" = some (.ref (F 0))
  b_look_state : Binds K (fd 0) ["machine", "state"] []
  f_look_machine : Fun K "look_machine" "look_machine" (topS 7) (F 1) (fd 1)
  g_look_machine : mg "look_machine" = some (.ref (F 1))
  b_look_machine : Binds K (fd 1) ["machine"] []
  f_goals_of : Fun K "goals_of" "goals_of" (topS 9) (F 3) (fd 3)
  g_goals_of : mg "goals_of" = some (.ref (F 3))
  b_goals_of : Binds K (fd 3) ["machine"] []
  f_distances : Fun K "distances" "distances" (topS 11) (F 4) (fd 4)
  g_distances : mg "distances" = some (.ref (F 4))
  b_distances : Binds K (fd 4) ["machine"] []
  f_stepped : Fun K "stepped" "stepped" (topS 8) (F 2) (fd 2)
  g_stepped : mg "stepped" = some (.ref (F 2))
  b_stepped : Binds K (fd 2) ["machine", "here", "letter"] []
  f_least_word : Fun K "least_word" "least_word" (topS 12) (F 5) (fd 5)
  g_least_word : mg "least_word" = some (.ref (F 5))
  b_least_word : Binds K (fd 5) ["machine"] []
  f__law_chain : Fun K "_law_chain" "_law_chain" (topS 22) (F 14) (fd 14)
  g__law_chain : mg "_law_chain" = some (.ref (F 14))
  b__law_chain : Binds K (fd 14) ["_law_script"] []
  f__law_come : Fun K "_law_come" "_law_come" (topS 19) (F 11) (fd 11)
  g__law_come : mg "_law_come" = some (.ref (F 11))
  b__law_come : Binds K (fd 11) ["_law_machine_here", "_law_state", "_law_held", "_law_letter"] []
  f__law_takes : Fun K "_law_takes" "_law_takes" (topS 20) (F 12) (fd 12)
  g__law_takes : mg "_law_takes" = some (.ref (F 12))
  b__law_takes : Binds K (fd 12) ["_law_machine_here", "_law_word"] []
  f__law_all : Fun K "_law_all" "_law_all" (topS 21) (F 13) (fd 13)
  g__law_all : mg "_law_all" = some (.ref (F 13))
  b__law_all : Binds K (fd 13) ["_law_long"] []
  f__law_whole : Fun K "_law_whole" "_law_whole" (topS 16) (F 8) (fd 8)
  g__law_whole : mg "_law_whole" = some (.ref (F 8))
  b__law_whole : Binds K (fd 8) ["_law_found"] []
  f_law : Fun K "law" "law" (topS 23) (F 15) (fd 15)
  g_law : mg "law" = some (.ref (F 15))
  b_law : Binds K (fd 15) ["_law_script"] []
  n_all : mg "all" = none
  n_any : mg "any" = none
  n_bool : mg "bool" = none
  n_int : mg "int" = none
  n_isinstance : mg "isinstance" = none
  n_len : mg "len" = none
  n_list : mg "list" = none
  n_min : mg "min" = none
  n_range : mg "range" = none
  n_set : mg "set" = none
  n_sorted : mg "sorted" = none
  n_tuple : mg "tuple" = none
  c_MOST_BOXES : ∃ t, mg "MOST_BOXES" = some (.int 6 t)
  c_MOST_STATES : ∃ t, mg "MOST_STATES" = some (.int 400 t)
  x_BadMachine : PySem.W.excIn K (ax .mach) [.type "ValueError", .type "Exception", .type "BaseException", .type "object"] "ValueError.__new__" = true
  g_BadMachine : mg "BadMachine" = some (.ref (ax .mach))
  k_BadMachine : PySem.W.keepIn K (.ref (ax .mach)) = true
  s_BadMachine : PySem.W.subIn K (.ref (ax .mach)) (.type "BaseException") = some true
  t_BadMachine : PySem.W.typeIn K (.ref (ax .mach)) = some (.type "type")
section
variable {P : Program} {w : World} {K : PySem.W.Frag} {mg : Str → Option Value} {base : Heap} {F : Nat → Addr} {fd : Nat → FuncData} {ax : XN → Addr}
abbrev st__law_cell : Stmt := topS 14
theorem sc__law_cell : FnScope ["_law_script", "_law_k"] ["_law_script", "_law_k"] (defScope st__law_cell) := ⟨rfl, rfl, rfl, by decide +kernel, rfl, by decide +kernel, by decide +kernel⟩
theorem ok__law_cell (T : Txt K mg F fd ax) : FnOk P w K mg base (L2.CX P w) 1 (F 6) (fd 6) ["_law_script", "_law_k"] (spD K ax m__law_cell) :=
  okD T.f__law_cell sc__law_cell fun cdv A outer s H F0 E hr =>
    (dss_cons (ds_if (dt_val (de_o (pv 0))) (dss_one (ds_ret (de_ix (de_o (pv 0)) (de_b (de_op op_mod os_mod (de_o (pv 1)) (de_b (de_callB cl_len cs_len (by rfl) T.n_len (by decide +kernel) (db_cons (de_o (pv 0)) db_nil)))))))) dss_nil)
    (dss_one (ds_ret de_int)))
abbrev st__law_mix : Stmt := topS 15
theorem sc__law_mix : FnScope ["_law_script", "_law_k", "_law_number"] ["_law_script", "_law_k"] (defScope st__law_mix) := ⟨rfl, rfl, rfl, by decide +kernel, rfl, by decide +kernel, by decide +kernel⟩
theorem ok__law_mix (T : Txt K mg F fd ax) : FnOk P w K mg base (L2.CX P w) 2 (F 7) (fd 7) ["_law_script", "_law_k"] (spD K ax m__law_mix) :=
  okD T.f__law_mix sc__law_mix fun cdv A outer s H F0 E hr =>
    (dss_cons (ds_set (i := 2) (de_op op_mod os_mod (de_b (de_op op_addS os_add (de_b (de_fn (ok__law_cell T) (hr.mono (by decide)) (by rfl) T.g__law_cell T.f__law_cell.kp T.b__law_cell (takes_of rfl rfl rfl rfl) (da_cons (de_v (pv 0)) (da_cons (de_v (pv 1)) da_nil)))) (de_b (de_op op_mul os_mulI (de_b de_int) (de_b (de_op op_addS os_add (de_o (pv 1)) (de_b de_int))))))) (de_b de_int)) sc__law_mix.nd rfl (by first | exact Or.inl rfl | exact Or.inr rfl))
    (dss_cons (ds_set (i := 2) (de_op op_mod os_mod (de_b (de_op op_mul os_mulI (de_o (pv 2)) (de_b de_int))) (de_b de_int)) sc__law_mix.nd rfl (by first | exact Or.inl rfl | exact Or.inr rfl))
    (dss_one (ds_ret (de_op op_mod os_mod (de_b (de_op op_addS os_add (de_b (de_op op_mul os_mulI (de_b (de_op op_fdiv os_div (de_o (pv 2)) (de_b de_int))) (de_b de_int))) (de_o (pv 2)))) (de_b de_int))))))
abbrev st__law_sources : Stmt := topS 17
theorem sc__law_sources : FnScope ["_law_script", "_law_k", "_law_many", "_law_most", "_law_left", "_law_found"] ["_law_script", "_law_k", "_law_many", "_law_most"] (defScope st__law_sources) := ⟨rfl, rfl, rfl, by decide +kernel, rfl, by decide +kernel, by decide +kernel⟩
theorem ok__law_sources (T : Txt K mg F fd ax) : FnOk P w K mg base (L2.CX P w) 3 (F 9) (fd 9) ["_law_script", "_law_k", "_law_many", "_law_most"] (spD K ax m__law_sources) :=
  okD T.f__law_sources sc__law_sources fun cdv A outer s H F0 E hr =>
    (dss_cons (ds_setO (i := 4) (do_rng rfl (by rfl) T.n_list (by rfl) T.n_range (de_v (pv 3))) sc__law_sources.nd rfl (by first | exact Or.inl rfl | exact Or.inr rfl))
    (dss_cons (ds_setO (i := 5) (do_lst da_nil) sc__law_sources.nd rfl (by first | exact Or.inl rfl | exact Or.inr rfl))
    (dss_cons (ds_while (passes_of rfl) (dt_cmp (op_ltA (hu0 hr)) os_ltA (de_b (de_callB cl_len cs_len (by rfl) T.n_len (by decide +kernel) (db_cons (de_o (pv 5)) db_nil))) (de_o (pv 2))) (dss_one (ds_apppop (pv 5) (pv 4) (de_b (de_op op_mod os_mod (de_b (de_fn (ok__law_mix T) (hr.mono (by decide)) (by rfl) T.g__law_mix T.f__law_mix.kp T.b__law_mix (takes_of rfl rfl rfl rfl) (da_cons (de_v (pv 0)) (da_cons (de_op op_addS os_add (de_o (pv 1)) (de_b (de_callB cl_len cs_len (by rfl) T.n_len (by decide +kernel) (db_cons (de_o (pv 5)) db_nil)))) da_nil)))) (de_b (de_callB cl_len cs_len (by rfl) T.n_len (by decide +kernel) (db_cons (de_o (pv 4)) db_nil))))))))
    (dss_one (ds_ret (de_callT cl_tuple cs_tuple (by rfl) T.n_tuple (by decide +kernel) (db_cons (de_o (pv 5)) db_nil)))))))
abbrev st__law_machine : Stmt := topS 18
theorem sc__law_machine : FnScope ["_law_script", "_law_k", "_law_most", "_law_boxes", "_law_j", "_law_found", "_law_state", "_law_moves", "_law_case", "_law_far", "_law_goals", "_law_goal"] ["_law_script", "_law_k", "_law_most"] (defScope st__law_machine) := ⟨rfl, rfl, rfl, by decide +kernel, rfl, by decide +kernel, by decide +kernel⟩
theorem ok__law_machine (T : Txt K mg F fd ax) : FnOk P w K mg base (L2.CX P w) 4 (F 10) (fd 10) ["_law_script", "_law_k", "_law_most"] (spD K ax m__law_machine) :=
  okD T.f__law_machine sc__law_machine fun cdv A outer s H F0 E hr =>
    (dss_cons (ds_setO (i := 3) (do_lst (da_cons de_int da_nil)) sc__law_machine.nd rfl (by first | exact Or.inl rfl | exact Or.inr rfl))
    (dss_cons (ds_for (passes_of rfl) rfl (di_r1 (by rfl) T.n_range (de_op op_mod os_mod (de_b (de_fn (ok__law_mix T) (hr.mono (by decide)) (by rfl) T.g__law_mix T.f__law_mix.kp T.b__law_mix (takes_of rfl rfl rfl rfl) (da_cons (de_v (pv 0)) (da_cons (de_v (pv 1)) da_nil)))) (de_o (pv 2)))) (dg_n (pg_name (i := 4) sc__law_machine.nd rfl (by first | exact Or.inl rfl | exact Or.inr rfl))) (dss_one (ds_app (pv 3) (de_ix (de_b (de_lst (da_cons de_int (da_cons de_int (da_cons de_int (da_cons de_int da_nil)))))) (de_b (de_op op_mod os_mod (de_b (de_fn (ok__law_mix T) (hr.mono (by decide)) (by rfl) T.g__law_mix T.f__law_mix.kp T.b__law_mix (takes_of rfl rfl rfl rfl) (da_cons (de_v (pv 0)) (da_cons (de_op op_addS os_add (de_b (de_op op_addS os_add (de_o (pv 1)) (de_b de_int))) (de_o (pv 4))) da_nil)))) (de_b de_int)))))))
    (dss_cons (ds_setO (i := 5) (do_lst da_nil) sc__law_machine.nd rfl (by first | exact Or.inl rfl | exact Or.inr rfl))
    (dss_cons (ds_for (passes_of rfl) rfl (di_r1 (by rfl) T.n_range (de_callB cl_len cs_len (by rfl) T.n_len (by decide +kernel) (db_cons (de_o (pv 3)) db_nil))) (dg_n (pg_name (i := 6) sc__law_machine.nd rfl (by first | exact Or.inl rfl | exact Or.inr rfl))) (dss_cons (ds_setO (i := 7) (do_lst da_nil) sc__law_machine.nd rfl (by first | exact Or.inl rfl | exact Or.inr rfl))
    (dss_cons (ds_for (passes_of rfl) rfl (di_r1 (by rfl) T.n_range (de_op op_addS os_add (de_b (de_ix (de_o (pv 3)) (de_o (pv 6)))) (de_b de_int))) (dg_n (pg_name (i := 8) sc__law_machine.nd rfl (by first | exact Or.inl rfl | exact Or.inr rfl))) (dss_cons (ds_set (i := 9) (de_op op_addS os_add (de_b (de_ix (de_o (pv 3)) (de_o (pv 6)))) (de_b (de_callT call_int1 cs_int (by rfl) T.n_int (by decide +kernel) (db_cons (de_b (de_cmp (op_eqD (hu64 hr)) os_eq (de_o (pv 8)) (de_b (de_ix (de_o (pv 3)) (de_o (pv 6)))))) db_nil)))) sc__law_machine.nd rfl (by first | exact Or.inl rfl | exact Or.inr rfl))
    (dss_cons (ds_setLc (i := 10) (own := [("_law_goal", 11)]) rfl sc__law_machine.nd rfl rfl (sw_true rfl rfl rfl (by decide +kernel)) (di_r1 (by rfl) T.n_range (de_callB cl_len cs_len (by rfl) T.n_len (by decide +kernel) (db_cons (de_o (pv 3)) db_nil))) (blkOk_by (by kernel_rfl)) (fun _ _ _ _ _ => (dg_n (pg_name (i := 11) sc__law_machine.nd rfl (by first | exact Or.inl rfl | exact Or.inr rfl)))) (fun _ _ _ _ _ => (dt_if (dt_cmp op_le os_cmp (de_b (de_ix (de_o (pv 3)) (de_o (pv 11)))) (de_o (pv 9))))) (fun _ _ _ _ _ => (de_v (pv 11))))
    (dss_cons (ds_set (i := 11) (de_ix (de_o (pv 10)) (de_b (de_op op_mod os_mod (de_b (de_fn (ok__law_mix T) (hr.mono (by decide)) (by rfl) T.g__law_mix T.f__law_mix.kp T.b__law_mix (takes_of rfl rfl rfl rfl) (da_cons (de_v (pv 0)) (da_cons (de_op op_addS os_add (de_b (de_op op_addS os_add (de_b (de_op op_addS os_add (de_o (pv 1)) (de_b de_int))) (de_b (de_op op_mul os_mulI (de_b de_int) (de_o (pv 6)))))) (de_o (pv 8))) da_nil)))) (de_b (de_callB cl_len cs_len (by rfl) T.n_len (by decide +kernel) (db_cons (de_o (pv 10)) db_nil)))))) sc__law_machine.nd rfl (by first | exact Or.inl rfl | exact Or.inr rfl))
    (dss_one (ds_app (pv 7) (de_tup (da_cons (de_v (pv 11)) (da_cons (de_fn (ok__law_sources T) (hr.mono (by decide)) (by rfl) T.g__law_sources T.f__law_sources.kp T.b__law_sources (takes_of rfl rfl rfl rfl) (da_cons (de_v (pv 0)) (da_cons (de_op op_addS os_add (de_b (de_op op_addS os_add (de_b (de_op op_addS os_add (de_o (pv 1)) (de_b de_int))) (de_b (de_op op_mul os_mulI (de_b de_int) (de_o (pv 6)))))) (de_b (de_op op_mul os_mulI (de_b de_int) (de_o (pv 8))))) (da_cons (de_ix (de_o (pv 3)) (de_o (pv 11))) (da_cons (de_v (pv 9)) da_nil))))) da_nil)))))))))
    (dss_one (ds_frz (i := 7) (ds_app (pv 5) (de_tup (da_cons (de_cmp (op_eqD (hu64 hr)) os_eq (de_b (de_op op_mod os_mod (de_b (de_op op_fdiv os_div (de_b (de_fn (ok__law_mix T) (hr.mono (by decide)) (by rfl) T.g__law_mix T.f__law_mix.kp T.b__law_mix (takes_of rfl rfl rfl rfl) (da_cons (de_v (pv 0)) (da_cons (de_op op_addS os_add (de_b (de_op op_addS os_add (de_o (pv 1)) (de_b de_int))) (de_o (pv 6))) da_nil)))) (de_b de_int))) (de_b de_int))) (de_b de_int)) (da_cons (de_ix (de_o (pv 3)) (de_o (pv 6))) (da_cons (de_v (pv 7)) da_nil))))))))))
    (dss_one (ds_frz (i := 5) (ds_ret (de_v (pv 5)))))))))
abbrev st_look_state : Stmt := topS 6
theorem sc_look_state : FnScope ["machine", "state", "good", "boxes", "moves", "case", "goal", "sources", "most", "source"] ["machine", "state"] (defScope st_look_state) := ⟨rfl, rfl, rfl, by decide +kernel, rfl, by decide +kernel, by decide +kernel⟩
theorem ok_look_state (T : Txt K mg F fd ax) : FnOk P w K mg base (L2.CX P w) 1 (F 0) (fd 0) ["machine", "state"] (spD K ax m_look_state) :=
  okD T.f_look_state sc_look_state fun cdv A outer s H F0 E hr =>
    (dss_cons (ds_asg (de_v (pv 1)) (dg_tup rfl (dgs_cons (dg_n (pg_name (i := 2) sc_look_state.nd rfl (by first | exact Or.inl rfl | exact Or.inr rfl))) (dgs_cons (dg_n (pg_name (i := 3) sc_look_state.nd rfl (by first | exact Or.inl rfl | exact Or.inr rfl))) (dgs_cons (dg_n (pg_name (i := 4) sc_look_state.nd rfl (by first | exact Or.inl rfl | exact Or.inr rfl))) dgs_nil)))))
    (dss_cons (ds_if (PW.pt (dw_or (dt_cmp (op_notInS (hu65 hr)) os_notIn (de_o (pv 2)) (de_b (de_tup (da_cons de_bl (da_cons de_bl da_nil))))) (dw_or (dt_not (dt_chain op_le op_le os_cmp os_cmp (de_b de_int) (de_o (pv 3)) (de_b (de_globI (by rfl) T.c_MOST_BOXES.choose_spec)))) (dw_or1 (dt_cmp (op_neD (hu64 hr)) os_ne (de_b (de_callB cl_len cs_len (by rfl) T.n_len (by decide +kernel) (db_cons (de_o (pv 4)) db_nil))) (de_b (de_op op_addS os_add (de_o (pv 3)) (de_b de_int)))))))) (dss_one (ds_raise (xn := .mach) rfl (takes_of rfl rfl rfl rfl) PySem.F.excBase_ValueError T.x_BadMachine T.g_BadMachine T.k_BadMachine (raises_own T.s_BadMachine T.t_BadMachine) rfl (by rfl))) dss_nil)
    (dss_one (ds_for (passes_of rfl) rfl (di_r1 (by rfl) T.n_range (de_op op_addS os_add (de_o (pv 3)) (de_b de_int))) (dg_n (pg_name (i := 5) sc_look_state.nd rfl (by first | exact Or.inl rfl | exact Or.inr rfl))) (dss_cons (ds_asg (de_ix (de_o (pv 4)) (de_o (pv 5))) (dg_tup rfl (dgs_cons (dg_n (pg_name (i := 6) sc_look_state.nd rfl (by first | exact Or.inl rfl | exact Or.inr rfl))) (dgs_cons (dg_n (pg_name (i := 7) sc_look_state.nd rfl (by first | exact Or.inl rfl | exact Or.inr rfl))) dgs_nil))))
    (dss_cons (ds_if (PW.pt (dw_or (dt_not (dt_chain op_le (op_ltA (hu0 hr)) os_cmp os_ltA (de_b de_int) (de_o (pv 6)) (de_b (de_callB cl_len cs_len (by rfl) T.n_len (by decide +kernel) (db_cons (de_o (pv 0)) db_nil))))) (dw_or1 (dt_cmp (op_neD (hu64 hr)) os_ne (de_b (de_callB cl_len cs_len (by rfl) T.n_len (by decide +kernel) (db_cons (de_o (pv 7)) db_nil))) (de_b (de_ix (de_b (de_ix (de_o (pv 0)) (de_o (pv 6)))) (de_b de_int))))))) (dss_one (ds_raise (xn := .mach) rfl (takes_of rfl rfl rfl rfl) PySem.F.excBase_ValueError T.x_BadMachine T.g_BadMachine T.k_BadMachine (raises_own T.s_BadMachine T.t_BadMachine) rfl (by rfl))) dss_nil)
    (dss_cons (ds_set (i := 8) (de_if (dt_cmp (op_ltA (hu0 hr)) os_ltA (de_o (pv 5)) (de_o (pv 3))) (de_v (pv 3)) (de_op op_addS os_add (de_o (pv 3)) (de_b de_int))) sc_look_state.nd rfl (by first | exact Or.inl rfl | exact Or.inr rfl))
    (dss_one (ds_if (PW.pt (dw_or (dt_not (dt_val (de_b (de_callB (cr_all rfl) cs_all (by rfl) T.n_all (by decide +kernel) (db_cons (de_b (de_new (do_lc (own := [("source", 9)]) rfl sc_look_state.nd (di_seq (de_v (pv 7))) (blkOk_by (by kernel_rfl)) (fun _ _ _ _ _ => (dg_n (pg_name (i := 9) sc_look_state.nd rfl (by first | exact Or.inl rfl | exact Or.inr rfl)))) (fun _ _ _ _ _ => dt_yes) (fun _ _ _ _ _ => (de_chain op_le (op_ltA (hu0 hr)) os_cmp os_ltA (de_b de_int) (de_o (pv 9)) (de_o (pv 8))))))) db_nil))))) (dw_or1 (dt_cmp (op_neD (hu64 hr)) os_ne (de_b (de_lenSet rfl (by rfl) T.n_len (by rfl) T.n_set (de_o (pv 7)))) (de_b (de_callB cl_len cs_len (by rfl) T.n_len (by decide +kernel) (db_cons (de_o (pv 7)) db_nil))))))) (dss_one (ds_raise (xn := .mach) rfl (takes_of rfl rfl rfl rfl) PySem.F.excBase_ValueError T.x_BadMachine T.g_BadMachine T.k_BadMachine (raises_own T.s_BadMachine T.t_BadMachine) rfl (by rfl))) dss_nil)))))))))
abbrev st_look_machine : Stmt := topS 7
theorem sc_look_machine : FnScope ["machine", "state"] ["machine"] (defScope st_look_machine) := ⟨rfl, rfl, rfl, by decide +kernel, rfl, by decide +kernel, by decide +kernel⟩
theorem ok_look_machine (T : Txt K mg F fd ax) : FnOk P w K mg base (L2.CX P w) 2 (F 1) (fd 1) ["machine"] (spD K ax m_look_machine) :=
  okD T.f_look_machine sc_look_machine fun cdv A outer s H F0 E hr =>
    (dss_cons (ds_if (PW.pt (dw_or (dt_not (dt_chain op_le op_le os_cmp os_cmp (de_b de_int) (de_b (de_callB cl_len cs_len (by rfl) T.n_len (by decide +kernel) (db_cons (de_o (pv 0)) db_nil))) (de_b (de_globI (by rfl) T.c_MOST_STATES.choose_spec)))) (dw_or1 (dt_cmp (op_neD (hu64 hr)) os_ne (de_b (de_ix (de_b (de_ix (de_o (pv 0)) (de_b de_int))) (de_b de_int))) (de_b de_int))))) (dss_one (ds_raise (xn := .mach) rfl (takes_of rfl rfl rfl rfl) PySem.F.excBase_ValueError T.x_BadMachine T.g_BadMachine T.k_BadMachine (raises_own T.s_BadMachine T.t_BadMachine) rfl (by rfl))) dss_nil)
    (dss_one (ds_for (passes_of rfl) rfl (di_seq (de_v (pv 0))) (dg_n (pg_name (i := 1) sc_look_machine.nd rfl (by first | exact Or.inl rfl | exact Or.inr rfl))) (dss_one (ds_expr (de_fn (ok_look_state T) (hr.mono (by decide)) (by rfl) T.g_look_state T.f_look_state.kp T.b_look_state (takes_of rfl rfl rfl rfl) (da_cons (de_v (pv 0)) (da_cons (de_v (pv 1)) da_nil))))))))
abbrev st_goals_of : Stmt := topS 9
theorem sc_goals_of : FnScope ["machine", "move", "state"] ["machine"] (defScope st_goals_of) := ⟨rfl, rfl, rfl, by decide +kernel, rfl, by decide +kernel, by decide +kernel⟩
theorem ok_goals_of (T : Txt K mg F fd ax) : FnOk P w K mg base (L2.CX P w) 1 (F 3) (fd 3) ["machine"] (spD K ax m_goals_of) :=
  okD T.f_goals_of sc_goals_of fun cdv A outer s H F0 E hr =>
    (dss_one (ds_ret (de_new (do_lc (own := [("state", 2)]) rfl sc_goals_of.nd (di_seq (de_v (pv 0))) (blkOk_by (by kernel_rfl)) (fun _ _ _ _ _ => (dg_n (pg_name (i := 2) sc_goals_of.nd rfl (by first | exact Or.inl rfl | exact Or.inr rfl)))) (fun _ _ _ _ _ => dt_yes) (fun _ _ _ _ _ => (de_new (do_lc (own := [("move", 1)]) rfl sc_goals_of.nd (di_seq (de_ix (de_o (pv 2)) (de_b de_int))) (blkOk_by (by kernel_rfl)) (fun _ _ _ _ _ => (dg_n (pg_name (i := 1) sc_goals_of.nd rfl (by first | exact Or.inl rfl | exact Or.inr rfl)))) (fun _ _ _ _ _ => dt_yes) (fun _ _ _ _ _ => (de_ix (de_o (pv 1)) (de_b de_int))))))))))
abbrev st_distances : Stmt := topS 11
theorem sc_distances : FnScope ["machine", "some", "found", "state", "far", "before", "k", "goal"] ["machine"] (defScope st_distances) := ⟨rfl, rfl, rfl, by decide +kernel, rfl, by decide +kernel, by decide +kernel⟩
theorem ok_distances (T : Txt K mg F fd ax) : FnOk P w K mg base (L2.CX P w) 2 (F 4) (fd 4) ["machine"] (spD K ax m_distances) :=
  okD T.f_distances sc_distances fun cdv A outer s H F0 E hr =>
    (dss_cons (ds_set (i := 1) (de_fn (ok_goals_of T) (hr.mono (by decide)) (by rfl) T.g_goals_of T.f_goals_of.kp T.b_goals_of (takes_of rfl rfl rfl rfl) (da_cons (de_v (pv 0)) da_nil)) sc_distances.nd rfl (by first | exact Or.inl rfl | exact Or.inr rfl))
    (dss_cons (ds_setLcO (i := 2) (own := [("state", 3)]) rfl sc_distances.nd rfl rfl (sw_true rfl rfl rfl (by decide +kernel)) (di_seq (de_v (pv 0))) (blkOk_by (by kernel_rfl)) (fun _ _ _ _ _ => (dg_n (pg_name (i := 3) sc_distances.nd rfl (by first | exact Or.inl rfl | exact Or.inr rfl)))) (fun _ _ _ _ _ => dt_yes) (fun _ _ _ _ _ => (de_if (dt_val (de_b (de_ix (de_o (pv 3)) (de_b de_int)))) de_int de_non)))
    (dss_cons (ds_set (i := 4) de_int sc_distances.nd rfl (by first | exact Or.inl rfl | exact Or.inr rfl))
    (dss_cons (ds_set (i := 5) de_non sc_distances.nd rfl (by first | exact Or.inl rfl | exact Or.inr rfl))
    (dss_cons (ds_while (passes_of rfl) (dt_cmp (op_neD (hu64 hr)) os_ne (de_o (pv 5)) (de_o (pv 2))) (dss_cons (ds_set (i := 5) (de_callT call_list_of cs_list (by rfl) T.n_list (by decide +kernel) (db_cons (de_o (pv 2)) db_nil)) sc_distances.nd rfl (by first | exact Or.inl rfl | exact Or.inr rfl))
    (dss_cons (ds_set (i := 4) (de_op op_addS os_add (de_o (pv 4)) (de_b de_int)) sc_distances.nd rfl (by first | exact Or.inl rfl | exact Or.inr rfl))
    (dss_one (ds_for (passes_of rfl) rfl (di_r1 (by rfl) T.n_range (de_callB cl_len cs_len (by rfl) T.n_len (by decide +kernel) (db_cons (de_o (pv 0)) db_nil))) (dg_n (pg_name (i := 6) sc_distances.nd rfl (by first | exact Or.inl rfl | exact Or.inr rfl))) (dss_one (ds_if (PW.pt (dw_and (dt_cmp op_isN os_isN (de_b (de_ix (de_o (pv 2)) (de_o (pv 6)))) (de_b de_non)) (dw_and1 (dt_val (de_b (de_callB (cr_any rfl) cs_any (by rfl) T.n_any (by decide +kernel) (db_cons (de_b (de_new (do_lc (own := [("goal", 7)]) rfl sc_distances.nd (di_seq (de_ix (de_o (pv 1)) (de_o (pv 6)))) (blkOk_by (by kernel_rfl)) (fun _ _ _ _ _ => (dg_n (pg_name (i := 7) sc_distances.nd rfl (by first | exact Or.inl rfl | exact Or.inr rfl)))) (fun _ _ _ _ _ => dt_yes) (fun _ _ _ _ _ => (de_cmp (op_eqD (hu64 hr)) os_eq (de_b (de_ix (de_o (pv 5)) (de_o (pv 7)))) (de_b (de_op op_sub os_sub (de_o (pv 4)) (de_b de_int)))))))) db_nil))))))) (dss_one (ds_put (pv 2) (de_o (pv 6)) (de_v (pv 4)) rfl rfl (pg_sub (pv 2) (de_o (pv 6)) set_list))) dss_nil)))))))
    (dss_one (ds_frz (i := 2) (ds_ret (de_v (pv 2))))))))))
abbrev st_stepped : Stmt := topS 8
theorem sc_stepped : FnScope ["machine", "here", "letter", "state", "held", "good", "boxes", "moves", "case", "goal", "sources", "known", "source"] ["machine", "here", "letter"] (defScope st_stepped) := ⟨rfl, rfl, rfl, by decide +kernel, rfl, by decide +kernel, by decide +kernel⟩
theorem ok_stepped (T : Txt K mg F fd ax) : FnOk P w K mg base (L2.CX P w) 1 (F 2) (fd 2) ["machine", "here", "letter"] (spD K ax m_stepped) :=
  okD T.f_stepped sc_stepped fun cdv A outer s H F0 E hr =>
    (dss_cons (ds_asg (de_v (pv 1)) (dg_tup rfl (dgs_cons (dg_n (pg_name (i := 3) sc_stepped.nd rfl (by first | exact Or.inl rfl | exact Or.inr rfl))) (dgs_cons (dg_n (pg_name (i := 4) sc_stepped.nd rfl (by first | exact Or.inl rfl | exact Or.inr rfl))) dgs_nil))))
    (dss_cons (ds_asg (de_ix (de_o (pv 0)) (de_o (pv 3))) (dg_tup rfl (dgs_cons (dg_n (pg_name (i := 5) sc_stepped.nd rfl (by first | exact Or.inl rfl | exact Or.inr rfl))) (dgs_cons (dg_n (pg_name (i := 6) sc_stepped.nd rfl (by first | exact Or.inl rfl | exact Or.inr rfl))) (dgs_cons (dg_n (pg_name (i := 7) sc_stepped.nd rfl (by first | exact Or.inl rfl | exact Or.inr rfl))) dgs_nil)))))
    (dss_cons (ds_set (i := 8) (de_if (dt_cmp (op_inS (hu65 hr)) os_in (de_o (pv 2)) (de_o (pv 4))) (de_tindex (hu65 hr) (de_o (pv 4)) (de_o (pv 2))) (de_v (pv 6))) sc_stepped.nd rfl (by first | exact Or.inl rfl | exact Or.inr rfl))
    (dss_cons (ds_asg (de_ix (de_o (pv 7)) (de_o (pv 8))) (dg_tup rfl (dgs_cons (dg_n (pg_name (i := 9) sc_stepped.nd rfl (by first | exact Or.inl rfl | exact Or.inr rfl))) (dgs_cons (dg_n (pg_name (i := 10) sc_stepped.nd rfl (by first | exact Or.inl rfl | exact Or.inr rfl))) dgs_nil))))
    (dss_cons (ds_set (i := 11) (de_op op_addS os_add (de_o (pv 4)) (de_b (de_tup (da_cons (de_v (pv 2)) da_nil)))) sc_stepped.nd rfl (by first | exact Or.inl rfl | exact Or.inr rfl))
    (dss_one (ds_ret (de_tup (da_cons (de_v (pv 9)) (da_cons (de_callT cl_tuple cs_tuple (by rfl) T.n_tuple (by decide +kernel) (db_cons (de_b (de_new (do_lc (own := [("source", 12)]) rfl sc_stepped.nd (di_seq (de_v (pv 10))) (blkOk_by (by kernel_rfl)) (fun _ _ _ _ _ => (dg_n (pg_name (i := 12) sc_stepped.nd rfl (by first | exact Or.inl rfl | exact Or.inr rfl)))) (fun _ _ _ _ _ => dt_yes) (fun _ _ _ _ _ => (de_ix (de_o (pv 11)) (de_o (pv 12))))))) db_nil)) da_nil))))))))))
abbrev st_least_word : Stmt := topS 12
theorem sc_least_word : FnScope ["machine", "far", "here", "found", "fresh", "letter", "later"] ["machine"] (defScope st_least_word) := ⟨rfl, rfl, rfl, by decide +kernel, rfl, by decide +kernel, by decide +kernel⟩
theorem ok_least_word (T : Txt K mg F fd ax) : FnOk P w K mg base (L2.CX P w) 3 (F 5) (fd 5) ["machine"] (spD K ax m_least_word) :=
  okD T.f_least_word sc_least_word fun cdv A outer s H F0 E hr =>
    (dss_cons (ds_expr (de_fn (ok_look_machine T) (hr.mono (by decide)) (by rfl) T.g_look_machine T.f_look_machine.kp T.b_look_machine (takes_of rfl rfl rfl rfl) (da_cons (de_v (pv 0)) da_nil)))
    (dss_cons (ds_set (i := 1) (de_fn (ok_distances T) (hr.mono (by decide)) (by rfl) T.g_distances T.f_distances.kp T.b_distances (takes_of rfl rfl rfl rfl) (da_cons (de_v (pv 0)) da_nil)) sc_least_word.nd rfl (by first | exact Or.inl rfl | exact Or.inr rfl))
    (dss_cons (ds_if (dt_cmp op_isN os_isN (de_b (de_ix (de_o (pv 1)) (de_b de_int))) (de_b de_non)) (dss_one (ds_ret de_non)) dss_nil)
    (dss_cons (ds_set (i := 2) (de_tup (da_cons de_int (da_cons (de_tup da_nil) da_nil))) sc_least_word.nd rfl (by first | exact Or.inl rfl | exact Or.inr rfl))
    (dss_cons (ds_setO (i := 3) (do_lst da_nil) sc_least_word.nd rfl (by first | exact Or.inl rfl | exact Or.inr rfl))
    (dss_cons (ds_while (passes_of rfl) (dt_cmp op_gt os_cmp (de_b (de_ix (de_o (pv 1)) (de_b (de_ix (de_o (pv 2)) (de_b de_int))))) (de_b de_int)) (dss_cons (ds_set (i := 4) (de_ix (de_b (de_new (do_lc (own := [("letter", 5)]) rfl sc_least_word.nd (di_r1 (by rfl) T.n_range (de_op op_addS os_add (de_b (de_callB cl_len cs_len (by rfl) T.n_len (by decide +kernel) (db_cons (de_b (de_ix (de_o (pv 2)) (de_b de_int))) db_nil))) (de_b de_int))) (blkOk_by (by kernel_rfl)) (fun _ _ _ _ _ => (dg_n (pg_name (i := 5) sc_least_word.nd rfl (by first | exact Or.inl rfl | exact Or.inr rfl)))) (fun _ _ _ _ _ => (dt_if (dt_cmp (op_notInS (hu65 hr)) os_notIn (de_o (pv 5)) (de_b (de_ix (de_o (pv 2)) (de_b de_int)))))) (fun _ _ _ _ _ => (de_v (pv 5)))))) (de_b de_int)) sc_least_word.nd rfl (by first | exact Or.inl rfl | exact Or.inr rfl))
    (dss_one (ds_for (passes_of rfl) rfl (di_seq (de_callB cl_sortedA cs_sortedA (by rfl) T.n_sorted (by decide +kernel) (db_cons (de_b (de_op op_addS os_add (de_b (de_ix (de_o (pv 2)) (de_b de_int))) (de_b (de_tup (da_cons (de_v (pv 4)) da_nil))))) db_nil))) (dg_n (pg_name (i := 5) sc_least_word.nd rfl (by first | exact Or.inl rfl | exact Or.inr rfl))) (dss_cons (ds_set (i := 6) (de_fn (ok_stepped T) (hr.mono (by decide)) (by rfl) T.g_stepped T.f_stepped.kp T.b_stepped (takes_of rfl rfl rfl rfl) (da_cons (de_v (pv 0)) (da_cons (de_v (pv 2)) (da_cons (de_v (pv 5)) da_nil)))) sc_least_word.nd rfl (by first | exact Or.inl rfl | exact Or.inr rfl))
    (dss_one (ds_if (dt_cmp (op_eqD (hu64 hr)) os_eq (de_b (de_ix (de_o (pv 1)) (de_b (de_ix (de_o (pv 6)) (de_b de_int))))) (de_b (de_op op_sub os_sub (de_b (de_ix (de_o (pv 1)) (de_b (de_ix (de_o (pv 2)) (de_b de_int))))) (de_b de_int)))) (dss_cons (ds_app (pv 3) (de_v (pv 5)))
    (dss_cons (ds_set (i := 2) (de_v (pv 6)) sc_least_word.nd rfl (by first | exact Or.inl rfl | exact Or.inr rfl))
    (dss_one ds_break))) dss_nil)))))))
    (dss_one (ds_frz (i := 3) (ds_ret (de_v (pv 3)))))))))))
abbrev st__law_chain : Stmt := topS 22
theorem sc__law_chain : FnScope ["_law_script", "_law_sources_here", "_law_boxes", "_law_number", "_law_ends", "_law_case", "_law_dead", "_law_first"] ["_law_script"] (defScope st__law_chain) := ⟨rfl, rfl, rfl, by decide +kernel, rfl, by decide +kernel, by decide +kernel⟩
theorem ok__law_chain (T : Txt K mg F fd ax) : FnOk P w K mg base (L2.CX P w) 3 (F 14) (fd 14) ["_law_script"] (spD K ax m__law_chain) :=
  okD T.f__law_chain sc__law_chain fun cdv A outer s H F0 E hr =>
    (dss_cons (ds_set (i := 1) (de_ix (de_b (de_lst (da_cons (de_tup (da_cons de_int da_nil)) (da_cons (de_tup (da_cons de_int (da_cons de_int da_nil))) (da_cons (de_tup (da_cons de_int (da_cons de_int da_nil))) (da_cons (de_tup (da_cons de_int da_nil)) da_nil)))))) (de_b (de_op op_mod os_mod (de_b (de_fn (ok__law_mix T) (hr.mono (by decide)) (by rfl) T.g__law_mix T.f__law_mix.kp T.b__law_mix (takes_of rfl rfl rfl rfl) (da_cons (de_v (pv 0)) (da_cons de_int da_nil)))) (de_b de_int)))) sc__law_chain.nd rfl (by first | exact Or.inl rfl | exact Or.inr rfl))
    (dss_cons (ds_set (i := 2) (de_callB cl_len cs_len (by rfl) T.n_len (by decide +kernel) (db_cons (de_o (pv 1)) db_nil)) sc__law_chain.nd rfl (by first | exact Or.inl rfl | exact Or.inr rfl))
    (dss_cons (ds_set (i := 3) (de_op op_addS os_add (de_b de_int) (de_b (de_op op_mod os_mod (de_b (de_fn (ok__law_mix T) (hr.mono (by decide)) (by rfl) T.g__law_mix T.f__law_mix.kp T.b__law_mix (takes_of rfl rfl rfl rfl) (da_cons (de_v (pv 0)) (da_cons de_int da_nil)))) (de_b (de_op op_addS os_add (de_b de_int) (de_b (de_op op_mul os_mulI (de_b de_int) (de_b (de_op op_sub os_sub (de_o (pv 2)) (de_b de_int)))))))))) sc__law_chain.nd rfl (by first | exact Or.inl rfl | exact Or.inr rfl))
    (dss_cons (ds_setLc (i := 4) (own := [("_law_case", 5)]) rfl sc__law_chain.nd rfl rfl (sw_true rfl rfl rfl (by decide +kernel)) (di_r1 (by rfl) T.n_range (de_op op_addS os_add (de_o (pv 2)) (de_b de_int))) (blkOk_by (by kernel_rfl)) (fun _ _ _ _ _ => (dg_n (pg_name (i := 5) sc__law_chain.nd rfl (by first | exact Or.inl rfl | exact Or.inr rfl)))) (fun _ _ _ _ _ => dt_yes) (fun _ _ _ _ _ => (de_tup (da_cons (de_ix (de_b (de_lst (da_cons de_int (da_cons de_int da_nil)))) (de_b (de_op op_mod os_mod (de_b (de_op op_fdiv os_div (de_o (pv 3)) (de_b (de_ix (de_b (de_lst (da_cons de_int (da_cons de_int (da_cons de_int da_nil))))) (de_o (pv 5)))))) (de_b de_int)))) (da_cons (de_tup da_nil) da_nil)))))
    (dss_cons (ds_set (i := 6) (de_tup (da_cons de_bl (da_cons de_int (da_cons (de_lst (da_cons (de_tup (da_cons de_int (da_cons (de_tup da_nil) da_nil))) da_nil)) da_nil)))) sc__law_chain.nd rfl (by first | exact Or.inl rfl | exact Or.inr rfl))
    (dss_cons (ds_set (i := 7) (de_lst (da_cons (de_tup (da_cons de_bl (da_cons de_int (da_cons (de_lst (da_cons (de_tup (da_cons de_int (da_cons (de_tup (da_cons de_int da_nil)) da_nil))) da_nil)) da_nil)))) (da_cons (de_tup (da_cons de_bl (da_cons de_int (da_cons (de_lst (da_cons (de_tup (da_cons de_int (da_cons (de_tup da_nil) da_nil))) (da_cons (de_tup (da_cons de_int (da_cons (de_v (pv 1)) da_nil))) da_nil))) da_nil)))) da_nil))) sc__law_chain.nd rfl (by first | exact Or.inl rfl | exact Or.inr rfl))
    (dss_one (ds_ret (de_op op_addS os_add (de_o (pv 7)) (de_b (de_lst (da_cons (de_tup (da_cons de_bl (da_cons (de_v (pv 2)) (da_cons (de_v (pv 4)) da_nil)))) (da_cons (de_tup (da_cons de_bl (da_cons de_int (da_cons (de_lst (da_cons (de_tup (da_cons de_int (da_cons (de_tup da_nil) da_nil))) da_nil)) da_nil)))) (da_cons (de_v (pv 6)) da_nil))))))))))))))
abbrev st__law_come : Stmt := topS 19
theorem sc__law_come : FnScope ["_law_machine_here", "_law_state", "_law_held", "_law_letter", "_law_good", "_law_boxes", "_law_moves", "_law_goal", "_law_sources_here", "_law_box", "_law_source"] ["_law_machine_here", "_law_state", "_law_held", "_law_letter"] (defScope st__law_come) := ⟨rfl, rfl, rfl, by decide +kernel, rfl, by decide +kernel, by decide +kernel⟩
theorem ok__law_come (T : Txt K mg F fd ax) : FnOk P w K mg base (L2.CX P w) 1 (F 11) (fd 11) ["_law_machine_here", "_law_state", "_law_held", "_law_letter"] (spD K ax m__law_come) :=
  okD T.f__law_come sc__law_come fun cdv A outer s H F0 E hr =>
    (dss_cons (ds_asg (de_ix (de_o (pv 0)) (de_o (pv 1))) (dg_tup rfl (dgs_cons (dg_n (pg_name (i := 4) sc__law_come.nd rfl (by first | exact Or.inl rfl | exact Or.inr rfl))) (dgs_cons (dg_n (pg_name (i := 5) sc__law_come.nd rfl (by first | exact Or.inl rfl | exact Or.inr rfl))) (dgs_cons (dg_n (pg_name (i := 6) sc__law_come.nd rfl (by first | exact Or.inl rfl | exact Or.inr rfl))) dgs_nil)))))
    (dss_cons (ds_asg (de_ix (de_o (pv 6)) (de_o (pv 5))) (dg_tup rfl (dgs_cons (dg_n (pg_name (i := 7) sc__law_come.nd rfl (by first | exact Or.inl rfl | exact Or.inr rfl))) (dgs_cons (dg_n (pg_name (i := 8) sc__law_come.nd rfl (by first | exact Or.inl rfl | exact Or.inr rfl))) dgs_nil))))
    (dss_cons (ds_for (passes_of rfl) rfl (di_r1 (by rfl) T.n_range (de_v (pv 5))) (dg_n (pg_name (i := 9) sc__law_come.nd rfl (by first | exact Or.inl rfl | exact Or.inr rfl))) (dss_one (ds_if (dt_cmp (op_eqD (hu64 hr)) os_eq (de_b (de_ix (de_o (pv 2)) (de_o (pv 9)))) (de_o (pv 3))) (dss_one (ds_asg (de_ix (de_o (pv 6)) (de_o (pv 9))) (dg_tup rfl (dgs_cons (dg_n (pg_name (i := 7) sc__law_come.nd rfl (by first | exact Or.inl rfl | exact Or.inr rfl))) (dgs_cons (dg_n (pg_name (i := 8) sc__law_come.nd rfl (by first | exact Or.inl rfl | exact Or.inr rfl))) dgs_nil))))) dss_nil)))
    (dss_one (ds_ret (de_tup (da_cons (de_v (pv 7)) (da_cons (de_new (do_lc (own := [("_law_source", 10)]) rfl sc__law_come.nd (di_seq (de_v (pv 8))) (blkOk_by (by kernel_rfl)) (fun _ _ _ _ _ => (dg_n (pg_name (i := 10) sc__law_come.nd rfl (by first | exact Or.inl rfl | exact Or.inr rfl)))) (fun _ _ _ _ _ => dt_yes) (fun _ _ _ _ _ => (de_if (dt_cmp (op_eqD (hu64 hr)) os_eq (de_o (pv 10)) (de_o (pv 5))) (de_v (pv 3)) (de_ix (de_o (pv 2)) (de_o (pv 10))))))) da_nil))))))))
abbrev st__law_takes : Stmt := topS 20
theorem sc__law_takes : FnScope ["_law_machine_here", "_law_word", "_law_state", "_law_held", "_law_letter"] ["_law_machine_here", "_law_word"] (defScope st__law_takes) := ⟨rfl, rfl, rfl, by decide +kernel, rfl, by decide +kernel, by decide +kernel⟩
theorem ok__law_takes (T : Txt K mg F fd ax) : FnOk P w K mg base (L2.CX P w) 2 (F 12) (fd 12) ["_law_machine_here", "_law_word"] (spD K ax m__law_takes) :=
  okD T.f__law_takes sc__law_takes fun cdv A outer s H F0 E hr =>
    (dss_cons (ds_set (i := 2) de_int sc__law_takes.nd rfl (by first | exact Or.inl rfl | exact Or.inr rfl))
    (dss_cons (ds_set (i := 3) (de_lst da_nil) sc__law_takes.nd rfl (by first | exact Or.inl rfl | exact Or.inr rfl))
    (dss_cons (ds_for (passes_of rfl) rfl (di_seq (de_v (pv 1))) (dg_n (pg_name (i := 4) sc__law_takes.nd rfl (by first | exact Or.inl rfl | exact Or.inr rfl))) (dss_one (ds_asg (de_fn (ok__law_come T) (hr.mono (by decide)) (by rfl) T.g__law_come T.f__law_come.kp T.b__law_come (takes_of rfl rfl rfl rfl) (da_cons (de_v (pv 0)) (da_cons (de_v (pv 2)) (da_cons (de_v (pv 3)) (da_cons (de_v (pv 4)) da_nil))))) (dg_tup rfl (dgs_cons (dg_n (pg_name (i := 2) sc__law_takes.nd rfl (by first | exact Or.inl rfl | exact Or.inr rfl))) (dgs_cons (dg_n (pg_name (i := 3) sc__law_takes.nd rfl (by first | exact Or.inl rfl | exact Or.inr rfl))) dgs_nil))))))
    (dss_one (ds_ret (de_ix (de_b (de_ix (de_o (pv 0)) (de_o (pv 2)))) (de_b de_int)))))))
abbrev st__law_all : Stmt := topS 21
theorem sc__law_all : FnScope ["_law_long", "_law_found", "_law_k", "_law_later", "_law_word", "_law_letter"] ["_law_long"] (defScope st__law_all) := ⟨rfl, rfl, rfl, by decide +kernel, rfl, by decide +kernel, by decide +kernel⟩
theorem ok__law_all (T : Txt K mg F fd ax) : FnOk P w K mg base (L2.CX P w) 1 (F 13) (fd 13) ["_law_long"] (spD K ax m__law_all) :=
  okD T.f__law_all sc__law_all fun cdv A outer s H F0 E hr =>
    (dss_cons (ds_set (i := 1) (de_lst (da_cons (de_lst da_nil) da_nil)) sc__law_all.nd rfl (by first | exact Or.inl rfl | exact Or.inr rfl))
    (dss_cons (ds_for (passes_of rfl) rfl (di_r1 (by rfl) T.n_range (de_v (pv 0))) (dg_n (pg_name (i := 2) sc__law_all.nd rfl (by first | exact Or.inl rfl | exact Or.inr rfl))) (dss_cons (ds_set (i := 3) (de_lst da_nil) sc__law_all.nd rfl (by first | exact Or.inl rfl | exact Or.inr rfl))
    (dss_cons (ds_for (passes_of rfl) rfl (di_seq (de_v (pv 1))) (dg_n (pg_name (i := 4) sc__law_all.nd rfl (by first | exact Or.inl rfl | exact Or.inr rfl))) (dss_one (ds_set (i := 3) (de_op op_addS os_add (de_o (pv 3)) (de_b (de_new (do_lc (own := [("_law_letter", 5)]) rfl sc__law_all.nd (di_r1 (by rfl) T.n_range de_int) (blkOk_by (by kernel_rfl)) (fun _ _ _ _ _ => (dg_n (pg_name (i := 5) sc__law_all.nd rfl (by first | exact Or.inl rfl | exact Or.inr rfl)))) (fun _ _ _ _ _ => dt_yes) (fun _ _ _ _ _ => (de_op op_addS os_add (de_o (pv 4)) (de_b (de_lst (da_cons (de_v (pv 5)) da_nil))))))))) sc__law_all.nd rfl (by first | exact Or.inl rfl | exact Or.inr rfl))))
    (dss_one (ds_set (i := 1) (de_v (pv 3)) sc__law_all.nd rfl (by first | exact Or.inl rfl | exact Or.inr rfl))))))
    (dss_one (ds_ret (de_v (pv 1))))))
abbrev st__law_whole : Stmt := topS 16
theorem sc__law_whole : FnScope ["_law_found"] ["_law_found"] (defScope st__law_whole) := ⟨rfl, rfl, rfl, by decide +kernel, rfl, by decide +kernel, by decide +kernel⟩
theorem ok__law_whole (T : Txt K mg F fd ax) : FnOk P w K mg base (L2.CX P w) 1 (F 8) (fd 8) ["_law_found"] (spD K ax m__law_whole) :=
  okD T.f__law_whole sc__law_whole fun cdv A outer s H F0 E hr =>
    (dss_one (ds_ret (de_and (de_isi (by rfl) T.n_isinstance (by rfl) T.n_int (by decide +kernel) (de_o (pv 0))) (de_one (de_not (de_isi (by rfl) T.n_isinstance (by rfl) T.n_bool (by decide +kernel) (de_o (pv 0))))))))
abbrev st_law : Stmt := topS 23
theorem sc_law : FnScope ["_law_script", "_law_machine_here", "_law_some", "_law_turn", "_law_at", "_law_move", "_law_found", "_law_letter", "_law_long", "_law_word"] ["_law_script"] (defScope st_law) := ⟨rfl, rfl, rfl, by decide +kernel, rfl, by decide +kernel, by decide +kernel⟩
theorem ok_law (T : Txt K mg F fd ax) : FnOk P w K mg base (L2.CX P w) 5 (F 15) (fd 15) ["_law_script"] (spD K ax m_law) :=
  okD T.f_law sc_law fun cdv A outer s H F0 E hr =>
    (dss_cons (ds_set (i := 1) (de_fn (ok__law_machine T) (hr.mono (by decide)) (by rfl) T.g__law_machine T.f__law_machine.kp T.b__law_machine (takes_of rfl rfl rfl rfl) (da_cons (de_v (pv 0)) (da_cons de_int (da_cons de_int da_nil)))) sc_law.nd rfl (by first | exact Or.inl rfl | exact Or.inr rfl))
    (dss_cons (ds_if (dt_cmp (op_eqD (hu64 hr)) os_eq (de_b (de_op op_mod os_mod (de_b (de_fn (ok__law_mix T) (hr.mono (by decide)) (by rfl) T.g__law_mix T.f__law_mix.kp T.b__law_mix (takes_of rfl rfl rfl rfl) (da_cons (de_v (pv 0)) (da_cons de_int da_nil)))) (de_b de_int))) (de_b de_int)) (dss_one (ds_set (i := 1) (de_fn (ok__law_chain T) (hr.mono (by decide)) (by rfl) T.g__law_chain T.f__law_chain.kp T.b__law_chain (takes_of rfl rfl rfl rfl) (da_cons (de_v (pv 0)) da_nil)) sc_law.nd rfl (by first | exact Or.inl rfl | exact Or.inr rfl))) dss_nil)
    (dss_cons (ds_set (i := 2) (de_lst (da_cons de_int da_nil)) sc_law.nd rfl (by first | exact Or.inl rfl | exact Or.inr rfl))
    (dss_cons (ds_for (passes_of rfl) rfl (di_r1 (by rfl) T.n_range (de_callB cl_len cs_len (by rfl) T.n_len (by decide +kernel) (db_cons (de_o (pv 1)) db_nil))) (dg_n (pg_name (i := 3) sc_law.nd rfl (by first | exact Or.inl rfl | exact Or.inr rfl))) (dss_one (ds_for (passes_of rfl) rfl (di_r1 (by rfl) T.n_range (de_callB cl_len cs_len (by rfl) T.n_len (by decide +kernel) (db_cons (de_o (pv 1)) db_nil))) (dg_n (pg_name (i := 4) sc_law.nd rfl (by first | exact Or.inl rfl | exact Or.inr rfl))) (dss_one (ds_if (dt_cmp (op_inS (hu65 hr)) os_in (de_o (pv 4)) (de_o (pv 2))) (dss_one (ds_set (i := 2) (de_op op_addS os_add (de_o (pv 2)) (de_b (de_new (do_lc (own := [("_law_move", 5)]) rfl sc_law.nd (di_seq (de_ix (de_b (de_ix (de_o (pv 1)) (de_o (pv 4)))) (de_b de_int))) (blkOk_by (by kernel_rfl)) (fun _ _ _ _ _ => (dg_n (pg_name (i := 5) sc_law.nd rfl (by first | exact Or.inl rfl | exact Or.inr rfl)))) (fun _ _ _ _ _ => dt_yes) (fun _ _ _ _ _ => (de_ix (de_o (pv 5)) (de_b de_int))))))) sc_law.nd rfl (by first | exact Or.inl rfl | exact Or.inr rfl))) dss_nil)))))
    (dss_cons (ds_set (i := 6) (de_fn (ok_least_word T) (hr.mono (by decide)) (by rfl) T.g_least_word T.f_least_word.kp T.b_least_word (takes_of rfl rfl rfl rfl) (da_cons (de_v (pv 1)) da_nil)) sc_law.nd rfl (by first | exact Or.inl rfl | exact Or.inr rfl))
    (dss_cons (ds_if (dt_not (dt_val (de_b (de_callB (cr_any rfl) cs_any (by rfl) T.n_any (by decide +kernel) (db_cons (de_b (de_new (do_lc (own := [("_law_at", 4)]) rfl sc_law.nd (di_seq (de_v (pv 2))) (blkOk_by (by kernel_rfl)) (fun _ _ _ _ _ => (dg_n (pg_name (i := 4) sc_law.nd rfl (by first | exact Or.inl rfl | exact Or.inr rfl)))) (fun _ _ _ _ _ => dt_yes) (fun _ _ _ _ _ => (de_ix (de_b (de_ix (de_o (pv 1)) (de_o (pv 4)))) (de_b de_int)))))) db_nil))))) (dss_one (ds_ret (de_cmp op_isN os_isN (de_o (pv 6)) (de_b de_non)))) dss_nil)
    (dss_cons (ds_if (PW.pt (dw_or (dt_not (dt_val (de_b (de_isi (by rfl) T.n_isinstance (by rfl) T.n_list (by decide +kernel) (de_o (pv 6)))))) (dw_or1 (dt_not (dt_val (de_b (de_callB (cr_all rfl) cs_all (by rfl) T.n_all (by decide +kernel) (db_cons (de_b (de_new (do_lc (own := [("_law_letter", 7)]) rfl sc_law.nd (di_seq (de_v (pv 6))) (blkOk_by (by kernel_rfl)) (fun _ _ _ _ _ => (dg_n (pg_name (i := 7) sc_law.nd rfl (by first | exact Or.inl rfl | exact Or.inr rfl)))) (fun _ _ _ _ _ => dt_yes) (fun _ _ _ _ _ => (de_and (de_fn (ok__law_whole T) (hr.mono (by decide)) (by rfl) T.g__law_whole T.f__law_whole.kp T.b__law_whole takes0 (da_cons (de_v (pv 7)) da_nil)) (de_one (de_cmp op_ge os_cmp (de_o (pv 7)) (de_b de_int)))))))) db_nil)))))))) (dss_one (ds_ret de_bl)) dss_nil)
    (dss_cons (ds_if (dt_not (dt_val (de_b (de_fn (ok__law_takes T) (hr.mono (by decide)) (by rfl) T.g__law_takes T.f__law_takes.kp T.b__law_takes (takes_of rfl rfl rfl rfl) (da_cons (de_v (pv 1)) (da_cons (de_v (pv 6)) da_nil)))))) (dss_one (ds_ret de_bl)) dss_nil)
    (dss_cons (ds_for (passes_of rfl) rfl (di_r1 (by rfl) T.n_range (de_op op_addS os_add (de_b (de_callB (call_min2 rfl) cs_min2 (by rfl) T.n_min (by decide +kernel) (db_cons (de_b (de_callB cl_len cs_len (by rfl) T.n_len (by decide +kernel) (db_cons (de_o (pv 6)) db_nil))) (db_cons (de_b de_int) db_nil)))) (de_b de_int))) (dg_n (pg_name (i := 8) sc_law.nd rfl (by first | exact Or.inl rfl | exact Or.inr rfl))) (dss_one (ds_for (passes_of rfl) rfl (di_seq (de_fn (ok__law_all T) (hr.mono (by decide)) (by rfl) T.g__law_all T.f__law_all.kp T.b__law_all (takes_of rfl rfl rfl rfl) (da_cons (de_v (pv 8)) da_nil))) (dg_n (pg_name (i := 9) sc_law.nd rfl (by first | exact Or.inl rfl | exact Or.inr rfl))) (dss_one (ds_if (PW.pt (dw_and (dt_val (de_b (de_fn (ok__law_takes T) (hr.mono (by decide)) (by rfl) T.g__law_takes T.f__law_takes.kp T.b__law_takes (takes_of rfl rfl rfl rfl) (da_cons (de_v (pv 1)) (da_cons (de_v (pv 9)) da_nil))))) (dw_and1 (PW.pt (dw_or (dt_cmp (op_ltA (hu0 hr)) os_ltA (de_o (pv 8)) (de_b (de_callB cl_len cs_len (by rfl) T.n_len (by decide +kernel) (db_cons (de_o (pv 6)) db_nil)))) (dw_or1 (dt_cmp (op_ltA (hu0 hr)) os_ltA (de_o (pv 9)) (de_o (pv 6))))))))) (dss_one (ds_ret de_bl)) dss_nil)))))
    (dss_one (ds_ret de_bl)))))))))))
end
end WK

set_option Elab.async false
set_option linter.all false
set_option maxRecDepth 100000
set_option maxHeartbeats 4000000
noncomputable section
namespace WK
open PySem PySem.Spec PyProof.Rows L2 DL
def spLaw (K : PySem.W.Frag) : Sp := fun vs H Q _ => ∃ (a : Addr) (ns : List Int), vs = [.ref a] ∧ SqL K H a (ns.map V.int) ∧ ns.length ≤ 63 ∧ ∀ H', Q (.bl true) H'
theorem law_sp {K : PySem.W.Frag} {ax : XN → Addr} (vs : List V) (H : Hp) (Q : VK) (E : XK) (h : spLaw K vs H Q E) : spD K ax m_law vs H Q E := by
  obtain ⟨a, ns, rfl, hS, hl, q⟩ := h
  refine ⟨[.list (ns.map .int)], H, Same.refl H, .cons (.lst hS dpAll_of_ints) .nil, ?_⟩
  rw [law_is ns hl]
  exact fun v H' F' _ hv => by cases hv; exact q H'
theorem cx_no {P : Program} {w : World} {l : List Env} {H : Hp} {s : Shared} {e : Value} {s' : Shared} (h : L2.CX P w l H s (fun _ _ _ => False) e s') : False := by
  obtain ⟨_, _, _, _, _, _, _, _, _, _, _, _, z⟩ := h
  exact z
theorem all_mk {P : Program} {w : World} {K : PySem.W.Frag} {h : Heap} {mg : Str → Option Value} {fa f0 f1 f2 f3 f4 f5 f6 f7 f8 f9 f10 f11 f12 f13 f14 f15 : Addr} (X : K.In h) (G : h.Ns mainGlobals mg) (hfa : mg "law" = some (.ref fa))
    {od0 an0 od1 an1 od2 an2 od3 an3 od4 an4 od5 an5 od6 an6 od7 an7 od8 an8 od9 an9 od10 an10 od11 an11 od12 an12 od13 an13 od14 an14 od15 an15 : Option Addr} {sl0 sl1 sl2 sl3 sl4 sl5 sl6 sl7 sl8 sl9 sl10 sl11 sl12 sl13 sl14 sl15 : Array (Option Value)} {oc0 kV0 dc0 pm0 cd0 ct0 oc1 kV1 dc1 pm1 cd1 ct1 oc2 kV2 dc2 pm2 cd2 ct2 oc3 kV3 dc3 pm3 cd3 ct3 oc4 kV4 dc4 pm4 cd4 ct4 oc5 kV5 dc5 pm5 cd5 ct5 oc6 kV6 dc6 pm6 cd6 ct6 oc7 kV7 dc7 pm7 cd7 ct7 oc8 kV8 dc8 pm8 cd8 ct8 oc9 kV9 dc9 pm9 cd9 ct9 oc10 kV10 dc10 pm10 cd10 ct10 oc11 kV11 dc11 pm11 cd11 ct11 oc12 kV12 dc12 pm12 cd12 ct12 oc13 kV13 dc13 pm13 cd13 ct13 oc14 kV14 dc14 pm14 cd14 ct14 oc15 kV15 dc15 pm15 cd15 ct15 : Value}
    (a0 : PySem.W.nsIn K mainGlobals "look_state" = some (some (.ref f0))) (l0 : K.lookup f0 = some ⟨oc0, od0, .func (PySem.W.fnOf "look_state" "look_state" (defArgs (topS 6)) (defBody (topS 6)) (defScope (topS 6)) .none kV0 dc0 pm0 an0 cd0 ct0), sl0⟩) (c0 : PySem.W.codeIn K cd0 "look_state" = true) (k0 : PySem.W.keepIn K (.ref f0) = true)
    (a1 : PySem.W.nsIn K mainGlobals "look_machine" = some (some (.ref f1))) (l1 : K.lookup f1 = some ⟨oc1, od1, .func (PySem.W.fnOf "look_machine" "look_machine" (defArgs (topS 7)) (defBody (topS 7)) (defScope (topS 7)) .none kV1 dc1 pm1 an1 cd1 ct1), sl1⟩) (c1 : PySem.W.codeIn K cd1 "look_machine" = true) (k1 : PySem.W.keepIn K (.ref f1) = true)
    (a2 : PySem.W.nsIn K mainGlobals "stepped" = some (some (.ref f2))) (l2 : K.lookup f2 = some ⟨oc2, od2, .func (PySem.W.fnOf "stepped" "stepped" (defArgs (topS 8)) (defBody (topS 8)) (defScope (topS 8)) .none kV2 dc2 pm2 an2 cd2 ct2), sl2⟩) (c2 : PySem.W.codeIn K cd2 "stepped" = true) (k2 : PySem.W.keepIn K (.ref f2) = true)
    (a3 : PySem.W.nsIn K mainGlobals "goals_of" = some (some (.ref f3))) (l3 : K.lookup f3 = some ⟨oc3, od3, .func (PySem.W.fnOf "goals_of" "goals_of" (defArgs (topS 9)) (defBody (topS 9)) (defScope (topS 9)) .none kV3 dc3 pm3 an3 cd3 ct3), sl3⟩) (c3 : PySem.W.codeIn K cd3 "goals_of" = true) (k3 : PySem.W.keepIn K (.ref f3) = true)
    (a4 : PySem.W.nsIn K mainGlobals "distances" = some (some (.ref f4))) (l4 : K.lookup f4 = some ⟨oc4, od4, .func (PySem.W.fnOf "distances" "distances" (defArgs (topS 11)) (defBody (topS 11)) (defScope (topS 11)) .none kV4 dc4 pm4 an4 cd4 ct4), sl4⟩) (c4 : PySem.W.codeIn K cd4 "distances" = true) (k4 : PySem.W.keepIn K (.ref f4) = true)
    (a5 : PySem.W.nsIn K mainGlobals "least_word" = some (some (.ref f5))) (l5 : K.lookup f5 = some ⟨oc5, od5, .func (PySem.W.fnOf "least_word" "least_word" (defArgs (topS 12)) (defBody (topS 12)) (defScope (topS 12)) .none kV5 dc5 pm5 an5 cd5 ct5), sl5⟩) (c5 : PySem.W.codeIn K cd5 "least_word" = true) (k5 : PySem.W.keepIn K (.ref f5) = true)
    (a6 : PySem.W.nsIn K mainGlobals "_law_cell" = some (some (.ref f6))) (l6 : K.lookup f6 = some ⟨oc6, od6, .func (PySem.W.fnOf "_law_cell" "_law_cell" (defArgs (topS 14)) (defBody (topS 14)) (defScope (topS 14)) .none kV6 dc6 pm6 an6 cd6 ct6), sl6⟩) (c6 : PySem.W.codeIn K cd6 "_law_cell" = true) (k6 : PySem.W.keepIn K (.ref f6) = true)
    (a7 : PySem.W.nsIn K mainGlobals "_law_mix" = some (some (.ref f7))) (l7 : K.lookup f7 = some ⟨oc7, od7, .func (PySem.W.fnOf "_law_mix" "_law_mix" (defArgs (topS 15)) (defBody (topS 15)) (defScope (topS 15)) .none kV7 dc7 pm7 an7 cd7 ct7), sl7⟩) (c7 : PySem.W.codeIn K cd7 "_law_mix" = true) (k7 : PySem.W.keepIn K (.ref f7) = true)
    (a8 : PySem.W.nsIn K mainGlobals "_law_whole" = some (some (.ref f8))) (l8 : K.lookup f8 = some ⟨oc8, od8, .func (PySem.W.fnOf "_law_whole" "_law_whole" (defArgs (topS 16)) (defBody (topS 16)) (defScope (topS 16)) .none kV8 dc8 pm8 an8 cd8 ct8), sl8⟩) (c8 : PySem.W.codeIn K cd8 "_law_whole" = true) (k8 : PySem.W.keepIn K (.ref f8) = true)
    (a9 : PySem.W.nsIn K mainGlobals "_law_sources" = some (some (.ref f9))) (l9 : K.lookup f9 = some ⟨oc9, od9, .func (PySem.W.fnOf "_law_sources" "_law_sources" (defArgs (topS 17)) (defBody (topS 17)) (defScope (topS 17)) .none kV9 dc9 pm9 an9 cd9 ct9), sl9⟩) (c9 : PySem.W.codeIn K cd9 "_law_sources" = true) (k9 : PySem.W.keepIn K (.ref f9) = true)
    (a10 : PySem.W.nsIn K mainGlobals "_law_machine" = some (some (.ref f10))) (l10 : K.lookup f10 = some ⟨oc10, od10, .func (PySem.W.fnOf "_law_machine" "_law_machine" (defArgs (topS 18)) (defBody (topS 18)) (defScope (topS 18)) .none kV10 dc10 pm10 an10 cd10 ct10), sl10⟩) (c10 : PySem.W.codeIn K cd10 "_law_machine" = true) (k10 : PySem.W.keepIn K (.ref f10) = true)
    (a11 : PySem.W.nsIn K mainGlobals "_law_come" = some (some (.ref f11))) (l11 : K.lookup f11 = some ⟨oc11, od11, .func (PySem.W.fnOf "_law_come" "_law_come" (defArgs (topS 19)) (defBody (topS 19)) (defScope (topS 19)) .none kV11 dc11 pm11 an11 cd11 ct11), sl11⟩) (c11 : PySem.W.codeIn K cd11 "_law_come" = true) (k11 : PySem.W.keepIn K (.ref f11) = true)
    (a12 : PySem.W.nsIn K mainGlobals "_law_takes" = some (some (.ref f12))) (l12 : K.lookup f12 = some ⟨oc12, od12, .func (PySem.W.fnOf "_law_takes" "_law_takes" (defArgs (topS 20)) (defBody (topS 20)) (defScope (topS 20)) .none kV12 dc12 pm12 an12 cd12 ct12), sl12⟩) (c12 : PySem.W.codeIn K cd12 "_law_takes" = true) (k12 : PySem.W.keepIn K (.ref f12) = true)
    (a13 : PySem.W.nsIn K mainGlobals "_law_all" = some (some (.ref f13))) (l13 : K.lookup f13 = some ⟨oc13, od13, .func (PySem.W.fnOf "_law_all" "_law_all" (defArgs (topS 21)) (defBody (topS 21)) (defScope (topS 21)) .none kV13 dc13 pm13 an13 cd13 ct13), sl13⟩) (c13 : PySem.W.codeIn K cd13 "_law_all" = true) (k13 : PySem.W.keepIn K (.ref f13) = true)
    (a14 : PySem.W.nsIn K mainGlobals "_law_chain" = some (some (.ref f14))) (l14 : K.lookup f14 = some ⟨oc14, od14, .func (PySem.W.fnOf "_law_chain" "_law_chain" (defArgs (topS 22)) (defBody (topS 22)) (defScope (topS 22)) .none kV14 dc14 pm14 an14 cd14 ct14), sl14⟩) (c14 : PySem.W.codeIn K cd14 "_law_chain" = true) (k14 : PySem.W.keepIn K (.ref f14) = true)
    (a15 : PySem.W.nsIn K mainGlobals "law" = some (some (.ref f15))) (l15 : K.lookup f15 = some ⟨oc15, od15, .func (PySem.W.fnOf "law" "law" (defArgs (topS 23)) (defBody (topS 23)) (defScope (topS 23)) .none kV15 dc15 pm15 an15 cd15 ct15), sl15⟩) (c15 : PySem.W.codeIn K cd15 "law" = true) (k15 : PySem.W.keepIn K (.ref f15) = true)
    (z_all : PySem.W.nsIn K mainGlobals "all" = some none)
    (z_any : PySem.W.nsIn K mainGlobals "any" = some none)
    (z_bool : PySem.W.nsIn K mainGlobals "bool" = some none)
    (z_int : PySem.W.nsIn K mainGlobals "int" = some none)
    (z_isinstance : PySem.W.nsIn K mainGlobals "isinstance" = some none)
    (z_len : PySem.W.nsIn K mainGlobals "len" = some none)
    (z_list : PySem.W.nsIn K mainGlobals "list" = some none)
    (z_min : PySem.W.nsIn K mainGlobals "min" = some none)
    (z_range : PySem.W.nsIn K mainGlobals "range" = some none)
    (z_set : PySem.W.nsIn K mainGlobals "set" = some none)
    (z_sorted : PySem.W.nsIn K mainGlobals "sorted" = some none)
    (z_tuple : PySem.W.nsIn K mainGlobals "tuple" = some none)
    {t_MOST_BOXES : Tok} (y_MOST_BOXES : PySem.W.nsIn K mainGlobals "MOST_BOXES" = some (some (.int 6 t_MOST_BOXES)))
    {t_MOST_STATES : Tok} (y_MOST_STATES : PySem.W.nsIn K mainGlobals "MOST_STATES" = some (some (.int 400 t_MOST_STATES)))
    {C_BadMachine : Addr} (xa_BadMachine : PySem.W.nsIn K mainGlobals "BadMachine" = some (some (.ref C_BadMachine))) (xx_BadMachine : PySem.W.excIn K C_BadMachine [.type "ValueError", .type "Exception", .type "BaseException", .type "object"] "ValueError.__new__" = true)
    (xk_BadMachine : PySem.W.keepIn K (.ref C_BadMachine) = true) (xs_BadMachine : PySem.W.subIn K (.ref C_BadMachine) (.type "BaseException") = some true) (xt_BadMachine : PySem.W.typeIn K (.ref C_BadMachine) = some (.type "type"))
    : ∃ fd : FuncData, (∀ (s : Shared) (v : Value), BindsTo s fd ⟨[v], []⟩ [("_law_script", v)]) ∧ ∀ base : Heap, K.In base → base.Ns mainGlobals mg → FnOk P w K mg base (L2.CX P w) 5 fa fd ["_law_script"] (spLaw K) := by
  have e := hfa.symm.trans (PySem.W.mg_of X G a15)
  cases e
  have F0 := fun_mk (st := topS 6) l0 c0 k0
  have b0 := F0.binds (ps := ["machine", "state"]) fun _ _ _ _ _ _ us hl => match us, hl with | [_, _], _ => rfl
  have F1 := fun_mk (st := topS 7) l1 c1 k1
  have b1 := F1.binds (ps := ["machine"]) fun _ _ _ _ _ _ us hl => match us, hl with | [_], _ => rfl
  have F2 := fun_mk (st := topS 8) l2 c2 k2
  have b2 := F2.binds (ps := ["machine", "here", "letter"]) fun _ _ _ _ _ _ us hl => match us, hl with | [_, _, _], _ => rfl
  have F3 := fun_mk (st := topS 9) l3 c3 k3
  have b3 := F3.binds (ps := ["machine"]) fun _ _ _ _ _ _ us hl => match us, hl with | [_], _ => rfl
  have F4 := fun_mk (st := topS 11) l4 c4 k4
  have b4 := F4.binds (ps := ["machine"]) fun _ _ _ _ _ _ us hl => match us, hl with | [_], _ => rfl
  have F5 := fun_mk (st := topS 12) l5 c5 k5
  have b5 := F5.binds (ps := ["machine"]) fun _ _ _ _ _ _ us hl => match us, hl with | [_], _ => rfl
  have F6 := fun_mk (st := topS 14) l6 c6 k6
  have b6 := F6.binds (ps := ["_law_script", "_law_k"]) fun _ _ _ _ _ _ us hl => match us, hl with | [_, _], _ => rfl
  have F7 := fun_mk (st := topS 15) l7 c7 k7
  have b7 := F7.binds (ps := ["_law_script", "_law_k"]) fun _ _ _ _ _ _ us hl => match us, hl with | [_, _], _ => rfl
  have F8 := fun_mk (st := topS 16) l8 c8 k8
  have b8 := F8.binds (ps := ["_law_found"]) fun _ _ _ _ _ _ us hl => match us, hl with | [_], _ => rfl
  have F9 := fun_mk (st := topS 17) l9 c9 k9
  have b9 := F9.binds (ps := ["_law_script", "_law_k", "_law_many", "_law_most"]) fun _ _ _ _ _ _ us hl => match us, hl with | [_, _, _, _], _ => rfl
  have F10 := fun_mk (st := topS 18) l10 c10 k10
  have b10 := F10.binds (ps := ["_law_script", "_law_k", "_law_most"]) fun _ _ _ _ _ _ us hl => match us, hl with | [_, _, _], _ => rfl
  have F11 := fun_mk (st := topS 19) l11 c11 k11
  have b11 := F11.binds (ps := ["_law_machine_here", "_law_state", "_law_held", "_law_letter"]) fun _ _ _ _ _ _ us hl => match us, hl with | [_, _, _, _], _ => rfl
  have F12 := fun_mk (st := topS 20) l12 c12 k12
  have b12 := F12.binds (ps := ["_law_machine_here", "_law_word"]) fun _ _ _ _ _ _ us hl => match us, hl with | [_, _], _ => rfl
  have F13 := fun_mk (st := topS 21) l13 c13 k13
  have b13 := F13.binds (ps := ["_law_long"]) fun _ _ _ _ _ _ us hl => match us, hl with | [_], _ => rfl
  have F14 := fun_mk (st := topS 22) l14 c14 k14
  have b14 := F14.binds (ps := ["_law_script"]) fun _ _ _ _ _ _ us hl => match us, hl with | [_], _ => rfl
  have F15 := fun_mk (st := topS 23) l15 c15 k15
  have b15 := F15.binds (ps := ["_law_script"]) fun _ _ _ _ _ _ us hl => match us, hl with | [_], _ => rfl
  let fd0 := PySem.W.fnOf "look_state" "look_state" (defArgs (topS 6)) (defBody (topS 6)) (defScope (topS 6)) .none kV0 dc0 pm0 an0 cd0 ct0
  let FA : Nat → Addr := fun i => ([f0, f1, f2, f3, f4, f5, f6, f7, f8, f9, f10, f11, f12, f13, f14, fa] : List Addr).getD i 0
  let FD : Nat → FuncData := fun i => ([PySem.W.fnOf "look_state" "look_state" (defArgs (topS 6)) (defBody (topS 6)) (defScope (topS 6)) .none kV0 dc0 pm0 an0 cd0 ct0, PySem.W.fnOf "look_machine" "look_machine" (defArgs (topS 7)) (defBody (topS 7)) (defScope (topS 7)) .none kV1 dc1 pm1 an1 cd1 ct1, PySem.W.fnOf "stepped" "stepped" (defArgs (topS 8)) (defBody (topS 8)) (defScope (topS 8)) .none kV2 dc2 pm2 an2 cd2 ct2, PySem.W.fnOf "goals_of" "goals_of" (defArgs (topS 9)) (defBody (topS 9)) (defScope (topS 9)) .none kV3 dc3 pm3 an3 cd3 ct3, PySem.W.fnOf "distances" "distances" (defArgs (topS 11)) (defBody (topS 11)) (defScope (topS 11)) .none kV4 dc4 pm4 an4 cd4 ct4, PySem.W.fnOf "least_word" "least_word" (defArgs (topS 12)) (defBody (topS 12)) (defScope (topS 12)) .none kV5 dc5 pm5 an5 cd5 ct5, PySem.W.fnOf "_law_cell" "_law_cell" (defArgs (topS 14)) (defBody (topS 14)) (defScope (topS 14)) .none kV6 dc6 pm6 an6 cd6 ct6, PySem.W.fnOf "_law_mix" "_law_mix" (defArgs (topS 15)) (defBody (topS 15)) (defScope (topS 15)) .none kV7 dc7 pm7 an7 cd7 ct7, PySem.W.fnOf "_law_whole" "_law_whole" (defArgs (topS 16)) (defBody (topS 16)) (defScope (topS 16)) .none kV8 dc8 pm8 an8 cd8 ct8, PySem.W.fnOf "_law_sources" "_law_sources" (defArgs (topS 17)) (defBody (topS 17)) (defScope (topS 17)) .none kV9 dc9 pm9 an9 cd9 ct9, PySem.W.fnOf "_law_machine" "_law_machine" (defArgs (topS 18)) (defBody (topS 18)) (defScope (topS 18)) .none kV10 dc10 pm10 an10 cd10 ct10, PySem.W.fnOf "_law_come" "_law_come" (defArgs (topS 19)) (defBody (topS 19)) (defScope (topS 19)) .none kV11 dc11 pm11 an11 cd11 ct11, PySem.W.fnOf "_law_takes" "_law_takes" (defArgs (topS 20)) (defBody (topS 20)) (defScope (topS 20)) .none kV12 dc12 pm12 an12 cd12 ct12, PySem.W.fnOf "_law_all" "_law_all" (defArgs (topS 21)) (defBody (topS 21)) (defScope (topS 21)) .none kV13 dc13 pm13 an13 cd13 ct13, PySem.W.fnOf "_law_chain" "_law_chain" (defArgs (topS 22)) (defBody (topS 22)) (defScope (topS 22)) .none kV14 dc14 pm14 an14 cd14 ct14, PySem.W.fnOf "law" "law" (defArgs (topS 23)) (defBody (topS 23)) (defScope (topS 23)) .none kV15 dc15 pm15 an15 cd15 ct15] : List FuncData).getD i fd0
  let AX : XN → Addr := fun x => match x with | .mach => C_BadMachine | .wrd => 0 | .many => 0 | .txt => 0
  have T : Txt K mg FA FD AX := {
    f__law_cell := F6, g__law_cell := PySem.W.mg_of X G a6, b__law_cell := b6,
    f__law_mix := F7, g__law_mix := PySem.W.mg_of X G a7, b__law_mix := b7,
    f__law_sources := F9, g__law_sources := PySem.W.mg_of X G a9, b__law_sources := b9,
    f__law_machine := F10, g__law_machine := PySem.W.mg_of X G a10, b__law_machine := b10,
    f_look_state := F0, g_look_state := PySem.W.mg_of X G a0, b_look_state := b0,
    f_look_machine := F1, g_look_machine := PySem.W.mg_of X G a1, b_look_machine := b1,
    f_goals_of := F3, g_goals_of := PySem.W.mg_of X G a3, b_goals_of := b3,
    f_distances := F4, g_distances := PySem.W.mg_of X G a4, b_distances := b4,
    f_stepped := F2, g_stepped := PySem.W.mg_of X G a2, b_stepped := b2,
    f_least_word := F5, g_least_word := PySem.W.mg_of X G a5, b_least_word := b5,
    f__law_chain := F14, g__law_chain := PySem.W.mg_of X G a14, b__law_chain := b14,
    f__law_come := F11, g__law_come := PySem.W.mg_of X G a11, b__law_come := b11,
    f__law_takes := F12, g__law_takes := PySem.W.mg_of X G a12, b__law_takes := b12,
    f__law_all := F13, g__law_all := PySem.W.mg_of X G a13, b__law_all := b13,
    f__law_whole := F8, g__law_whole := PySem.W.mg_of X G a8, b__law_whole := b8,
    f_law := F15, g_law := PySem.W.mg_of X G a15, b_law := b15,
    n_all := PySem.W.mg_none_of X G z_all,
    n_any := PySem.W.mg_none_of X G z_any,
    n_bool := PySem.W.mg_none_of X G z_bool,
    n_int := PySem.W.mg_none_of X G z_int,
    n_isinstance := PySem.W.mg_none_of X G z_isinstance,
    n_len := PySem.W.mg_none_of X G z_len,
    n_list := PySem.W.mg_none_of X G z_list,
    n_min := PySem.W.mg_none_of X G z_min,
    n_range := PySem.W.mg_none_of X G z_range,
    n_set := PySem.W.mg_none_of X G z_set,
    n_sorted := PySem.W.mg_none_of X G z_sorted,
    n_tuple := PySem.W.mg_none_of X G z_tuple,
    c_MOST_BOXES := ⟨_, PySem.W.mg_of X G y_MOST_BOXES⟩,
    c_MOST_STATES := ⟨_, PySem.W.mg_of X G y_MOST_STATES⟩,
    x_BadMachine := xx_BadMachine, g_BadMachine := PySem.W.mg_of X G xa_BadMachine, k_BadMachine := xk_BadMachine, s_BadMachine := xs_BadMachine, t_BadMachine := xt_BadMachine }
  exact ⟨_, fun s v => .of_eq rfl, fun base _ _ => (ok_law (P := P) (w := w) (base := base) T).imp law_sp⟩
end WK
open PySem PySem.W PyProof.Rows
set_option maxHeartbeats 0 in
theorem PySem.Challenge.cw_boxword_k20_whole_least_words_holds : PySem.Challenge.rw_boxword_k20_whole_least_words.Holds := by
  w_on; o_law; k_head; (case hw => w_witness2)
  k_fill
  refine L2.walk_of (l := PySem.Challenge.rw_boxword_k20_whole_least_words) (n := 63) (k := 5) (x := "_law_script") (CX := fun w => L2.CX PySem.Challenge.rw_boxword_k20_whole_least_words.prog w) (sp := fun w => WK.spLaw _) rfl (by decide) rfl ⟨rfl, by decide, by decide⟩ (fun w h Y => PySem.W.kIn_of Y) ?F (fun _ _ a ns hl _ hS => ⟨a, ns, rfl, hS, hl, fun _ => rfl⟩) (fun _ _ _ _ _ h => WK.cx_no h)
  case F =>
    intro w mg fa h KX G hmg
    refine' WK.all_mk KX G hmg ?a0 ?l0 ?c0 ?k0 ?a1 ?l1 ?c1 ?k1 ?a2 ?l2 ?c2 ?k2 ?a3 ?l3 ?c3 ?k3 ?a4 ?l4 ?c4 ?k4 ?a5 ?l5 ?c5 ?k5 ?a6 ?l6 ?c6 ?k6 ?a7 ?l7 ?c7 ?k7 ?a8 ?l8 ?c8 ?k8 ?a9 ?l9 ?c9 ?k9 ?a10 ?l10 ?c10 ?k10 ?a11 ?l11 ?c11 ?k11 ?a12 ?l12 ?c12 ?k12 ?a13 ?l13 ?c13 ?k13 ?a14 ?l14 ?c14 ?k14 ?a15 ?l15 ?c15 ?k15 ?z_all ?z_any ?z_bool ?z_int ?z_isinstance ?z_len ?z_list ?z_min ?z_range ?z_set ?z_sorted ?z_tuple ?y_MOST_BOXES ?y_MOST_STATES ?xa_BadMachine ?xx_BadMachine ?xk_BadMachine ?xs_BadMachine ?xt_BadMachine
    (case a0 => k_is)
    (case l0 => k_is)
    (case c0 => k_is)
    (case k0 => k_is)
    (case a1 => k_is)
    (case l1 => k_is)
    (case c1 => k_is)
    (case k1 => k_is)
    (case a2 => k_is)
    (case l2 => k_is)
    (case c2 => k_is)
    (case k2 => k_is)
    (case a3 => k_is)
    (case l3 => k_is)
    (case c3 => k_is)
    (case k3 => k_is)
    (case a4 => k_is)
    (case l4 => k_is)
    (case c4 => k_is)
    (case k4 => k_is)
    (case a5 => k_is)
    (case l5 => k_is)
    (case c5 => k_is)
    (case k5 => k_is)
    (case a6 => k_is)
    (case l6 => k_is)
    (case c6 => k_is)
    (case k6 => k_is)
    (case a7 => k_is)
    (case l7 => k_is)
    (case c7 => k_is)
    (case k7 => k_is)
    (case a8 => k_is)
    (case l8 => k_is)
    (case c8 => k_is)
    (case k8 => k_is)
    (case a9 => k_is)
    (case l9 => k_is)
    (case c9 => k_is)
    (case k9 => k_is)
    (case a10 => k_is)
    (case l10 => k_is)
    (case c10 => k_is)
    (case k10 => k_is)
    (case a11 => k_is)
    (case l11 => k_is)
    (case c11 => k_is)
    (case k11 => k_is)
    (case a12 => k_is)
    (case l12 => k_is)
    (case c12 => k_is)
    (case k12 => k_is)
    (case a13 => k_is)
    (case l13 => k_is)
    (case c13 => k_is)
    (case k13 => k_is)
    (case a14 => k_is)
    (case l14 => k_is)
    (case c14 => k_is)
    (case k14 => k_is)
    (case a15 => k_is)
    (case l15 => k_is)
    (case c15 => k_is)
    (case k15 => k_is)
    (case z_all => k_is)
    (case z_any => k_is)
    (case z_bool => k_is)
    (case z_int => k_is)
    (case z_isinstance => k_is)
    (case z_len => k_is)
    (case z_list => k_is)
    (case z_min => k_is)
    (case z_range => k_is)
    (case z_set => k_is)
    (case z_sorted => k_is)
    (case z_tuple => k_is)
    (case y_MOST_BOXES => k_is)
    (case y_MOST_STATES => k_is)
    (case xa_BadMachine => k_is)
    (case xx_BadMachine => first | k_is | k_exc)
    (case xk_BadMachine => k_is)
    (case xs_BadMachine => k_is)
    (case xt_BadMachine => k_is)

