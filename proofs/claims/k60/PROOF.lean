import PyProof.Rows.All
import Wide.All
import OpenK.AllK
import Wide.FinOn
import HandS.ForMost
import HandS.ForExc
import HandS.Deep
import HandS.TupAny
import KE.KDictDisplayH
import PyProof.P3In
import HandS.IsInst
import HandS.SortInts
import HandS.Style
import HandS.SetFor
import HandS.Conv
import KE.LtSeq
import HandS.ExcValue
import HandS.Strs
import HandS.ExcIs
import KE.KRevSl
import KE.DataCmp
import KE.SortData
import KE.KDictCopyH
import KE.KDictSum
import HandS.DictTup
import HandS.Text
import HandS.Steps
import PySem.Challenge.RW_boxword_k60_whole_watched
set_option Elab.async false
set_option linter.all false
set_option maxRecDepth 100000
/-! The data layer, 0: tuples of which it is known that they have no dict of their own (so that their methods may be called). -/
noncomputable section
namespace DL
open PySem PySem.Spec PyProof.Rows L2
section
variable {X : Cx} {es : List Expr} {t : TA} {pos : Pos}
theorem frz_ok {P : Program} {w : World} {H : Hp} {h : Heap} {p : Addr} {o : Obj} {xs : List V} {its : List Value} (z : xs.length ≤ sizeLine) (r : Vals xs its) (e : h.get? p = some o) (hc : o.cls = .type "tuple") (hd : ∃ n, o.data = .seq its.toArray n) : ObjOk P w H h p (.frz o (.tup xs)) :=
  ⟨e, z, its, r, o, e, hc, hd⟩
/-- (a, b, ..) -/
def tTupZ (t : TA) : TE := fun s H Q => t s H fun xs H1 => xs.length ≤ sizeLine ∧ ∀ p o, H1 p = none → o.dict = none → Q (.ref p) (upd H1 p (.frz o (.tup xs)))
theorem pe_tupZ {k : Nat} (h : PA X es t) : PE X (.Tuple es k pos) (tTupZ t) := by
  refine ⟨fun pins s σ H Q I hq => wpAny_Tuple_spliced (thn (h.run pos pins s σ H _ I hq) fun us s1 ⟨xs, H1, I1, r, z, q⟩ => ⟨by rw [← r.length]; exact z, ?_⟩)⟩
  have hf : H1 s1.heap.objs.size = none := I1.hok.fresh (Nat.le_refl _)
  have e1 : (s1.heap.push { cls := .type "tuple", data := .seq us.toArray }).get? s1.heap.objs.size = some { cls := .type "tuple", data := .seq us.toArray } := Heap.get?_push_size _ rfl
  exact ⟨.ref s1.heap.objs.size, _, I1.laid (t' := s1.toks) (fun b u e => Heap.get?_push_of_some _ e) (Nat.le_refl _) (frz_ok z r e1 rfl ⟨_, rfl⟩), rfl, q _ _ hf rfl⟩
/-- tuple(xs) -/
def rTupOf (K : PySem.W.Frag) : List V → Hp → VK → Prop := fun xs H Q => ∃ p ys, xs = [.ref p] ∧ ((SqL K H p ys ∧ ∀ l o, H l = none → o.dict = none → Q (.ref l) (upd H l (.frz o (.tup ys)))) ∨ (SqT K H p ys ∧ Q (.ref p) H))
theorem cl_tuple : CallR X (.type "tuple") (rTupOf X.K) := by
  intro pins s σ H xs us Q I r h
  obtain ⟨p, ys, rfl, h⟩ := h
  obtain ⟨u, rfl, rx⟩ := vals1 r
  cases rx
  rcases h with ⟨hq, q⟩ | ⟨hq, q⟩
  · obtain ⟨its, r', pl, hz⟩ := I.list hq
    have hlen := r'.length
    refine call_tuple_list pl.isList (fun h' kp => ?_) (by simp only [List.size_toArray]; omega)
    have I1 : Inv X pins σ H { s with heap := h' } := I.kept (t' := s.toks) kp
    have e1 : (h'.push { cls := .type "tuple", data := .seq its.toArray }).get? h'.objs.size = some { cls := .type "tuple", data := .seq its.toArray } := Heap.get?_push_size _ rfl
    exact ⟨.ref h'.objs.size, _, I1.laid (t' := s.toks) (fun b o e => Heap.get?_push_of_some _ e) (Nat.le_refl _) (frz_ok hz r' e1 rfl ⟨_, rfl⟩), rfl, q _ _ (I1.hok.fresh (Nat.le_refl _)) rfl⟩
  · obtain ⟨its, r', pl, hz⟩ := I.tuple hq
    exact call_tuple_same pl ⟨.ref p, H, I, rfl, q⟩
/-- t + u -/
def rCatZ (K : PySem.W.Frag) : R2 := fun x y H Q => ∃ a b xs ys, x = .ref a ∧ y = .ref b ∧ SqT K H a xs ∧ SqT K H b ys ∧ xs.length + ys.length ≤ sizeLine ∧
  (xs = [] → Q (.ref b) H) ∧ (xs ≠ [] → ys = [] → Q (.ref a) H) ∧ (xs ≠ [] → ys ≠ [] → ∀ p o, H p = none → o.dict = none → Q (.ref p) (upd H p (.frz o (.tup (xs ++ ys)))))
theorem op_catZ : OpR X (binaryOp .Add) (rCatZ X.K) := by
  intro pins s σ H x y v u Q I rx ry h
  obtain ⟨a, b, xs, ys, rfl, rfl, ha, hb, hz, q0, q1, q2⟩ := h
  cases rx
  cases ry
  obtain ⟨its, r1, p1, _⟩ := I.tuple ha
  obtain ⟨its2, r2, p2, _⟩ := I.tuple hb
  by_cases hx : xs = []
  · subst hx
    cases r1
    exact cat_tup0 p1 p2 ⟨.ref b, H, I, rfl, q0 rfl⟩
  · refine HT.cat_tup p1 p2 (fun z => hx (r1.nil_iff.mp z)) (fun z => ⟨.ref a, H, I, rfl, q1 hx (r2.nil_iff.mp z)⟩) (fun z => ?_) (by rw [← r1.length, ← r2.length]; exact hz)
    have e1 : (s.heap.push { cls := .type "tuple", data := .seq (its ++ its2).toArray }).get? s.heap.objs.size = some { cls := .type "tuple", data := .seq (its ++ its2).toArray } := Heap.get?_push_size _ rfl
    exact ⟨.ref s.heap.objs.size, _, I.laid (t' := s.toks) (fun b ob q => Heap.get?_push_of_some _ q) (Nat.le_refl _) (frz_ok (by rw [List.length_append]; exact hz) (r1.append r2) e1 rfl ⟨_, rfl⟩), rfl, q2 hx (fun w => z (r2.nil_iff.mpr w)) _ _ (I.hok.fresh (Nat.le_refl _)) rfl⟩
/-- t[a:b] -/
def rSlZ (K : PySem.W.Frag) : V → Option Int → Option Int → Hp → VK → Prop := fun x lo hi H Q => ∃ a xs, x = .ref a ∧ SqT K H a xs ∧
  (HT.sIx xs.length 0 lo = 0 ∧ HT.sIx xs.length xs.length hi = xs.length → Q (.ref a) H) ∧ (¬ (HT.sIx xs.length 0 lo = 0 ∧ HT.sIx xs.length xs.length hi = xs.length) → ∀ p o, H p = none → o.dict = none → Q (.ref p) (upd H p (.frz o (.tup (cutV xs lo hi)))))
theorem sl_tupZ : SlR X (rSlZ X.K) := by
  intro pins s σ H x v vl vu lo hi sl Q I rx hs pl pu h
  obtain ⟨a, xs, rfl, hx, q1, q2⟩ := h
  cases rx
  obtain ⟨its, r, ht, hz⟩ := I.tuple hx
  have hlen : its.toArray.size = xs.length := by rw [List.size_toArray]; exact r.length.symm
  refine ⟨"tuple", _, PyProof.Rows.slot_tuple_getitem.lookup, ht.typeIs, ?_⟩
  by_cases hw : HT.sIx xs.length 0 lo = 0 ∧ HT.sIx xs.length xs.length hi = xs.length
  · exact getItem_tuple_whole ht hs pl pu (by rw [hlen]; exact hw) ⟨.ref a, H, I, rfl, q1 hw⟩
  · refine HT.getItem_tuple_cut ht hs pl pu (by rw [hlen]; exact hw) ?_ (by rw [hlen]; exact hz)
    rw [hlen]
    refine ⟨.ref s.heap.objs.size, _, I.laid (t' := s.toks) (fun b ob q => Heap.get?_push_of_some _ q) (Nat.le_refl _) (frz_ok (Nat.le_trans (cutV_length xs lo hi) hz) ((r.drop (HT.sIx xs.length 0 lo)).take (HT.sIx xs.length xs.length hi - HT.sIx xs.length 0 lo)) (Heap.get?_push_size _ rfl) rfl ⟨_, rfl⟩), rfl, q2 hw _ _ (I.hok.fresh (Nat.le_refl _)) rfl⟩
end

/-! ### data in the heap, their tuples without dicts -/
def SqP (K : PySem.W.Frag) (H : Hp) (a : Addr) (xs : List V) : Prop :=
  (∃ o, H a = some (.frz o (.tup xs)) ∧ o.dict = none) ∨
    ∃ (o : Obj) (its : Array Value) (n : Nat), K.lookup a = some o ∧ o.cls = .type "tuple" ∧ o.dict = none ∧ o.data = .seq its n ∧ its.size ≤ sizeLine ∧ Vals xs its.toList
theorem SqP.t {K : PySem.W.Frag} {H : Hp} {a : Addr} {xs : List V} (h : SqP K H a xs) : SqT K H a xs := by
  rcases h with ⟨o, h, _⟩ | ⟨o, its, n, h1, h2, _, h3, h4, h5⟩
  · exact .inl (.inr ⟨o, h⟩)
  · exact .inr ⟨o, its, n, h1, h2, h3, h4, h5⟩
/-- the own errors -/
inductive XN where
  | mach | wrd | many | txt
  deriving DecidableEq, Repr
/-- a caught error of the class C at a -/
def ExK (C a : Addr) : HO := .ext fun h => ∃ (oe : Obj) (vs : Array Value), h.get? a = some oe ∧ oe.cls = .ref C ∧ oe.dict = none ∧ oe.data = .fields vs
def cdX : XN → Int
  | .mach => 0
  | .wrd => 1
  | .many => 2
  | .txt => 3
mutual
inductive Dq (K : PySem.W.Frag) (ax : XN → Addr) (H : Hp) : V → PyData → Prop
  | non : Dq K ax H .non .none
  | bl (b : Bool) : Dq K ax H (.bl b) (.bool b)
  | int (i : Int) : Dq K ax H (.int i) (.int i)
  | str (x : Str) : Dq K ax H (.str x) (.str x)
  | lst {a : Addr} {xs : List V} {ds : List PyData} : SqL K H a xs → DqAll K ax H xs ds → Dq K ax H (.ref a) (.list ds)
  | tup {a : Addr} {xs : List V} {ds : List PyData} : SqP K H a xs → DqAll K ax H xs ds → Dq K ax H (.ref a) (.tuple ds)
  | exc {a : Addr} (x : XN) : H a = some (ExK (ax x) a) → Dq K ax H (.ref a) (.dict [(.int (cdX x), .none)])
inductive DqAll (K : PySem.W.Frag) (ax : XN → Addr) (H : Hp) : List V → List PyData → Prop
  | nil : DqAll K ax H [] []
  | cons {v : V} {vs : List V} {d : PyData} {ds : List PyData} : Dq K ax H v d → DqAll K ax H vs ds → DqAll K ax H (v :: vs) (d :: ds)
end
mutual
theorem Dq.dp {K : PySem.W.Frag} {ax : XN → Addr} {H : Hp} : ∀ {d : PyData} {v : V}, Dq K ax H v d → d.canLay0 = true → Dp K H v d
  | .none, _, h, _ => by cases h; exact .non
  | .bool b, _, h, _ => by cases h; exact .bl b
  | .int i, _, h, _ => by cases h; exact .int i
  | .str x, _, h, _ => by cases h; exact .str x
  | .list ds, _, h, z => by
    rw [PyData.canLay0] at z
    cases h with
    | lst h1 h2 => exact .lst h1 (DqAll.dp h2 z)
  | .tuple ds, _, h, z => by
    rw [PyData.canLay0] at z
    cases h with
    | tup h1 h2 => exact .tup h1.t (DqAll.dp h2 z)
  | .dict _, _, h, z => by simp [PyData.canLay0] at z
theorem DqAll.dp {K : PySem.W.Frag} {ax : XN → Addr} {H : Hp} : ∀ {ds : List PyData} {vs : List V}, DqAll K ax H vs ds → PyData.canLayAll0 ds = true → DpAll K H vs ds
  | [], _, h, _ => by cases h; exact .nil
  | d :: ds, _, h, z => by
    rw [PyData.canLayAll0, Bool.and_eq_true] at z
    cases h with
    | cons h1 h2 => exact .cons (Dq.dp h1 z.1) (DqAll.dp h2 z.2)
end
theorem shaped_lay {d : PyData} (h : SeqAt.shaped d = true) : d.canLay0 = true := by
  unfold SeqAt.shaped at h
  rw [Bool.and_eq_true] at h
  exact h.1
end DL

set_option Elab.async false
set_option linter.all false
set_option maxRecDepth 100000
/-! The data layer, 1: what a slot holds, how the slots lie in the heap, answers, readings. -/
noncomputable section
namespace DL
open PySem L2

abbrev M (a : Type) := Option (Except XN a)
def ok {a : Type} (x : a) : M a := some (.ok x)
def bnd {a b : Type} (m : M a) (k : a → M b) : M b := match m with
  | none => none
  | some (.error e) => some (.error e)
  | some (.ok x) => k x
@[simp] theorem bnd_ok {a b : Type} (x : a) (k : a → M b) : bnd (ok x) k = k x := rfl
@[simp] theorem bnd_ok' {a b : Type} (x : a) (k : a → M b) : bnd (some (.ok x)) k = k x := rfl
@[simp] theorem bnd_none {a b : Type} (k : a → M b) : bnd none k = none := rfl
@[simp] theorem bnd_err {a b : Type} (e : XN) (k : a → M b) : bnd (some (.error e)) k = some (.error e) := rfl

/-- what a slot holds: data that never change more; a list of the def's own -/
inductive B where
  | d (x : PyData)
  | own (xs : List PyData)
  | dct (kvs : List (Int × PyData))
  /-- a dict with nested keys: of the def's own; frozen -/
  | dic (kvs : List (NestedKey × PyData))
  | dif (kvs : List (NestedKey × PyData))
  /-- an instance of the own class: of the def's own; frozen -/
  | obj (fs : List (Str × PyData))
  | obf (fs : List (Str × PyData))
abbrev Rho := List (Option B)

section
variable {K : PySem.W.Frag} {ax : XN → Addr} {H H' F F' : Hp}
theorem same_rd {a : Addr} {u : HO} (e : Same H H') (h : Rd H a u) : Rd H' a u := by
  rcases h with h | ⟨o, h⟩
  · exact .inl (e _ _ h)
  · exact .inr ⟨o, e _ _ h⟩
theorem same_t {a : Addr} {xs : List V} (e : Same H H') (h : SqT K H a xs) : SqT K H' a xs := by
  rcases h with h | h
  · exact .inl (same_rd e h)
  · exact .inr h
theorem same_l {a : Addr} {xs : List V} (e : Same H H') (h : SqL K H a xs) : SqL K H' a xs := e.seq h
theorem same_p {a : Addr} {xs : List V} (e : Same H H') (h : SqP K H a xs) : SqP K H' a xs := by
  rcases h with ⟨o, h, d⟩ | h
  · exact .inl ⟨o, e _ _ h, d⟩
  · exact .inr h
mutual
theorem dp_same (e : Same H H') : ∀ {d : PyData} {v : V}, Dq K ax H v d → Dq K ax H' v d
  | .none, _, h => by cases h; exact .non
  | .bool b, _, h => by cases h; exact .bl b
  | .int i, _, h => by cases h; exact .int i
  | .str x, _, h => by cases h; exact .str x
  | .list ds, _, h => by
    cases h with
    | lst h1 h2 => exact .lst (same_l e h1) (dpAll_same e h2)
  | .tuple ds, _, h => by
    cases h with
    | tup h1 h2 => exact .tup (same_p e h1) (dpAll_same e h2)
  | .dict _, _, h => by
    cases h with
    | exc x h1 => exact .exc x (e _ _ h1)
theorem dpAll_same (e : Same H H') : ∀ {ds : List PyData} {vs : List V}, DqAll K ax H vs ds → DqAll K ax H' vs ds
  | [], _, h => by cases h; exact .nil
  | d :: ds, _, h => by
    cases h with
    | cons h1 h2 => exact .cons (dp_same e h1) (dpAll_same e h2)
end
theorem dpAll_len {vs : List V} {ds : List PyData} (h : DqAll K ax H vs ds) : vs.length = ds.length := by
  induction ds generalizing vs with
  | nil => cases h; rfl
  | cons d ds ih => cases h with | cons _ h2 => simp [ih h2]
theorem dpAll_at {vs : List V} {ds : List PyData} (h : DqAll K ax H vs ds) {i : Nat} {d : PyData} (e : ds[i]? = some d) : ∃ v, vs[i]? = some v ∧ Dq K ax H v d := by
  induction ds generalizing vs i with
  | nil => simp at e
  | cons d' ds ih =>
    cases h with
    | cons h1 h2 =>
      cases i with
      | zero => simp at e; subst e; exact ⟨_, rfl, h1⟩
      | succ i => simp at e; obtain ⟨v, e1, e2⟩ := ih h2 e; exact ⟨v, by simpa using e1, e2⟩
theorem dpAll_atV {vs : List V} {ds : List PyData} (h : DqAll K ax H vs ds) {i : Nat} {v : V} (e : vs[i]? = some v) : ∃ d, ds[i]? = some d ∧ Dq K ax H v d := by
  induction ds generalizing vs i with
  | nil => cases h; simp at e
  | cons d' ds ih =>
    cases h with
    | cons h1 h2 =>
      cases i with
      | zero => simp at e; subst e; exact ⟨_, rfl, h1⟩
      | succ i => simp at e; obtain ⟨d, e1, e2⟩ := ih h2 e; exact ⟨d, by simpa using e1, e2⟩
theorem dpAll_app {vs ws : List V} {ds es : List PyData} (h : DqAll K ax H vs ds) (g : DqAll K ax H ws es) : DqAll K ax H (vs ++ ws) (ds ++ es) := by
  induction ds generalizing vs with
  | nil => cases h; exact g
  | cons d ds ih => cases h with | cons h1 h2 => exact .cons h1 (ih h2)
theorem dpAll_one {v : V} {d : PyData} (h : Dq K ax H v d) : DqAll K ax H [v] [d] := .cons h .nil
theorem dpAll_drop {vs : List V} {ds : List PyData} (n : Nat) (h : DqAll K ax H vs ds) : DqAll K ax H (vs.drop n) (ds.drop n) := by
  induction n generalizing vs ds with
  | zero => exact h
  | succ n ih => cases h with | nil => exact .nil | cons _ h2 => exact ih h2
theorem dpAll_take {vs : List V} {ds : List PyData} (n : Nat) (h : DqAll K ax H vs ds) : DqAll K ax H (vs.take n) (ds.take n) := by
  induction n generalizing vs ds with
  | zero => exact .nil
  | succ n ih => cases h with | nil => exact .nil | cons h1 h2 => exact .cons h1 (ih h2)
theorem dpAll_set {vs : List V} {ds : List PyData} {v : V} {d : PyData} (n : Nat) (h : DqAll K ax H vs ds) (g : Dq K ax H v d) : DqAll K ax H (vs.set n v) (ds.set n d) := by
  induction n generalizing vs ds with
  | zero => cases h with | nil => exact .nil | cons h1 h2 => exact .cons g h2
  | succ n ih => cases h with | nil => exact .nil | cons h1 h2 => exact .cons h1 (ih h2)
theorem dpAll_erase {vs : List V} {ds : List PyData} (n : Nat) (h : DqAll K ax H vs ds) : DqAll K ax H (vs.eraseIdx n) (ds.eraseIdx n) := by
  induction n generalizing vs ds with
  | zero => cases h with | nil => exact .nil | cons h1 h2 => exact h2
  | succ n ih => cases h with | nil => exact .nil | cons h1 h2 => exact .cons h1 (ih h2)
theorem dpAll_dropLast {vs : List V} {ds : List PyData} (h : DqAll K ax H vs ds) : DqAll K ax H vs.dropLast ds.dropLast := by
  rw [List.dropLast_eq_take, List.dropLast_eq_take, dpAll_len h]
  exact dpAll_take _ h
theorem dpAll_rev {vs : List V} {ds : List PyData} (h : DqAll K ax H vs ds) : DqAll K ax H vs.reverse ds.reverse := by
  induction ds generalizing vs with
  | nil => cases h; exact .nil
  | cons d ds ih => cases h with | cons h1 h2 => rw [List.reverse_cons, List.reverse_cons]; exact dpAll_app (ih h2) (dpAll_one h1)
theorem dpAll_ints {vs : List V} : ∀ {ns : List Int}, DqAll K ax H vs (ns.map PyData.int) → vs = ns.map V.int
  | [], h => by cases h; rfl
  | n :: ns, h => by
    cases h with
    | cons h1 h2 => cases h1; rw [dpAll_ints h2]; rfl
theorem dpAll_bls {vs : List V} : ∀ {ns : List Bool}, DqAll K ax H vs (ns.map PyData.bool) → vs = ns.map V.bl
  | [], h => by cases h; rfl
  | n :: ns, h => by
    cases h with
    | cons h1 h2 => cases h1; rw [dpAll_bls h2]; rfl
theorem dpAll_of_ints : ∀ {ns : List Int}, DqAll K ax H (ns.map V.int) (ns.map PyData.int)
  | [] => .nil
  | n :: ns => .cons (.int n) dpAll_of_ints
end

/-- the setting: the written part, the heap and the frozen part at the entry, what is wanted of an error -/
structure Cc where
  K : PySem.W.Frag
  H0 : Hp
  F0 : Hp
  ax : XN → Addr
  W : WX
  P : Program
  w : World

/-- what stands between the entry and now: F is frozen; what the caller has for itself stands -/
structure Fr (c : Cc) (H F : Hp) : Prop where
  sub : Same F H
  old : Same c.F0 F
  kept : ∀ p o, c.H0 p = some o → c.F0 p = none → H p = some o ∧ F p = none
theorem Fr.new {c : Cc} {H F : Hp} (R : Fr c H F) {p : Addr} (n : H p = none) : c.H0 p = none := by
  cases e : c.H0 p with
  | none => rfl
  | some o =>
    cases e2 : c.F0 p with
    | none => rw [(R.kept p o e e2).1] at n; cases n
    | some o2 => rw [R.sub p o2 (R.old p o2 e2)] at n; cases n
theorem Fr.newF {c : Cc} {H F : Hp} (R : Fr c H F) {p : Addr} (n : H p = none) : F p = none := R.sub.free n

/-! data as a key -/
mutual
def toKey : PyData → Option NestedKey
  | .none => some .none
  | .bool _ => none
  | .int i => some (.num i)
  | .str x => some (.text x)
  | .tuple ds => (toKeys ds).map .tup
  | .list _ => none
  | .dict _ => none
def toKeys : List PyData → Option (List NestedKey)
  | [] => some []
  | d :: ds => (toKey d).bind fun k => (toKeys ds).map (k :: ·)
end
/-- a key is a tuple, nested to depth 8 -/
def nkey : PyData → Option NestedKey
  | .tuple ds => (toKey (.tuple ds)).bind fun k => if k.depth ≤ 8 then some k else none
  | _ => none
abbrev KW := List (NestedKey × Addr × V)
/-- a dict with nested keys at a -/
def DicO (P : Program) (w : World) (a : Addr) (ws : KW) : HO := .ext fun h => ws.length ≤ sizeLine ∧ (a == sysModules) = false ∧ ∃ xs : List (NestedKey × Addr × Value),
  Paired (fun (p : NestedKey × Addr × V) (q : NestedKey × Addr × Value) => p.1 = q.1 ∧ p.2.1 = q.2.1 ∧ RelV p.2.2 q.2.2) ws xs ∧
  ∃ o es ep, h.get? a = some o ∧ o.ExactDict ∧ o.data = .dict es ep ∧ es.toList = xs.map (entryOfKey (nestedKind P w)) ∧ (xs.map (·.1)).Nodup
/-- the pairs as the heap has them and as data -/
structure KDn (K : PySem.W.Frag) (ax : XN → Addr) (F : Hp) (ws : KW) (kvs : List (NestedKey × PyData)) : Prop where
  ks : ws.map (·.1) = kvs.map (·.1)
  kt : ∀ x ∈ ws, ∃ d, nkey d = some x.1 ∧ Dq K ax F (.ref x.2.1) d
  vs : DqAll K ax F (ws.map (·.2.2)) (kvs.map (·.2))
theorem KDn.same {K : PySem.W.Frag} {ax : XN → Addr} {F F' : Hp} {ws : KW} {kvs : List (NestedKey × PyData)} (h : KDn K ax F ws kvs) (e : Same F F') : KDn K ax F' ws kvs :=
  ⟨h.ks, fun x hx => let ⟨d, a, b⟩ := h.kt x hx; ⟨d, a, dp_same e b⟩, dpAll_same e h.vs⟩
/-- the class -/
def WC (K : PySem.W.Frag) (C : Addr) : Prop := PySem.W.nsIn K mainGlobals "Watcher" = some (some (.ref C))
/-- an instance's attributes -/
def FRel (K : PySem.W.Frag) (ax : XN → Addr) (F : Hp) (fV : List (Str × V)) (fs : List (Str × PyData)) : Prop := fV.map (·.1) = fs.map (·.1) ∧ DqAll K ax F (fV.map (·.2)) (fs.map (·.2))
theorem FRel.same {K : PySem.W.Frag} {ax : XN → Addr} {F F' : Hp} {fV : List (Str × V)} {fs : List (Str × PyData)} (h : FRel K ax F fV fs) (e : Same F F') : FRel K ax F' fV fs := ⟨h.1, dpAll_same e h.2⟩
def CellOk (P : Program) (w : World) (K : PySem.W.Frag) (ax : XN → Addr) (H0 H F : Hp) : Option B → Option V → Prop
  | none, _ => True
  | some (.d x), some v => Dq K ax F v x
  | some (.own xs), some (.ref p) => ∃ vs, H p = some (.lst vs) ∧ F p = none ∧ H0 p = none ∧ DqAll K ax F vs xs
  | some (.dct kvs), some (.ref p) => ∃ ws : List (Key × V), H p = some (.dK ws) ∧ F p = none ∧ H0 p = none ∧ ws.map (·.1) = kvs.map (fun q => Sum.inl q.1) ∧ DqAll K ax F (ws.map (·.2)) (kvs.map (·.2))
  | some (.dic kvs), some (.ref p) => ∃ ws : KW, H p = some (DicO P w p ws) ∧ F p = none ∧ H0 p = none ∧ KDn K ax F ws kvs
  | some (.dif kvs), some (.ref p) => ∃ (ws : KW) (o : Obj), F p = some (.frz o (DicO P w p ws)) ∧ KDn K ax F ws kvs
  | some (.obj fs), some (.ref p) => ∃ (C dx : Addr) (fV : List (Str × V)), WC K C ∧ H p = some (.ins C dx fV) ∧ F dx = some (.own p) ∧ F p = none ∧ H0 p = none ∧ FRel K ax F fV fs
  | some (.obf fs), some (.ref p) => ∃ (C dx : Addr) (fV : List (Str × V)), WC K C ∧ F p = some (.ins C dx fV) ∧ F dx = some (.own p) ∧ FRel K ax F fV fs
  | _, _ => False
structure Rel (c : Cc) (r : Rho) (s : L2.St) (H F : Hp) : Prop where
  fr : Fr c H F
  len : s.length = r.length
  cell : ∀ (i : Nat) (b : B), r[i]? = some (some b) → ∃ v, s[i]? = some (some v) ∧ CellOk c.P c.w c.K c.ax c.H0 H F (some b) (some v)
  apart : ∀ (i j : Nat) (xs ys : List PyData) (p : Addr), r[i]? = some (some (.own xs)) → r[j]? = some (some (.own ys)) → s[i]? = some (some (V.ref p)) → s[j]? = some (some (V.ref p)) → i = j
section
variable {c : Cc} {r : Rho} {s : L2.St} {H F H' F' : Hp}
theorem Rel.data (R : Rel c r s H F) {i : Nat} {x : PyData} (e : r[i]? = some (some (.d x))) : ∃ v, s[i]? = some (some v) ∧ Dq c.K c.ax F v x := R.cell i _ e
theorem Rel.mineM (R : Rel c r s H F) {i : Nat} {kvs : List (Int × PyData)} (e : r[i]? = some (some (.dct kvs))) : ∃ p ws, s[i]? = some (some (V.ref p)) ∧ H p = some (.dK ws) ∧ F p = none ∧ c.H0 p = none ∧ ws.map (·.1) = kvs.map (fun q => Sum.inl q.1) ∧ DqAll c.K c.ax F (ws.map (·.2)) (kvs.map (·.2)) := by
  obtain ⟨v, e1, h⟩ := R.cell i _ e
  cases v <;> first | exact h.elim | skip
  rename_i p
  obtain ⟨ws, h1, h2, h3, h4, h5⟩ := h
  exact ⟨p, ws, e1, h1, h2, h3, h4, h5⟩
theorem Rel.mineK (R : Rel c r s H F) {i : Nat} {kvs : List (NestedKey × PyData)} (e : r[i]? = some (some (.dic kvs))) : ∃ p ws, s[i]? = some (some (V.ref p)) ∧ H p = some (DicO c.P c.w p ws) ∧ F p = none ∧ c.H0 p = none ∧ KDn c.K c.ax F ws kvs := by
  obtain ⟨v, e1, h⟩ := R.cell i _ e
  cases v <;> first | exact h.elim | skip
  rename_i p
  obtain ⟨ws, h1, h2, h3, h4⟩ := h
  exact ⟨p, ws, e1, h1, h2, h3, h4⟩
theorem Rel.mineF (R : Rel c r s H F) {i : Nat} {kvs : List (NestedKey × PyData)} (e : r[i]? = some (some (.dif kvs))) : ∃ p ws o, s[i]? = some (some (V.ref p)) ∧ F p = some (.frz o (DicO c.P c.w p ws)) ∧ KDn c.K c.ax F ws kvs := by
  obtain ⟨v, e1, h⟩ := R.cell i _ e
  cases v <;> first | exact h.elim | skip
  rename_i p
  obtain ⟨ws, o, h1, h2⟩ := h
  exact ⟨p, ws, o, e1, h1, h2⟩
theorem Rel.mineO (R : Rel c r s H F) {i : Nat} {fs : List (Str × PyData)} (e : r[i]? = some (some (.obj fs))) : ∃ p C dx fV, s[i]? = some (some (V.ref p)) ∧ WC c.K C ∧ H p = some (.ins C dx fV) ∧ F dx = some (.own p) ∧ F p = none ∧ c.H0 p = none ∧ FRel c.K c.ax F fV fs := by
  obtain ⟨v, e1, h⟩ := R.cell i _ e
  cases v <;> first | exact h.elim | skip
  rename_i p
  obtain ⟨C, dx, fV, h1, h2, h3, h4, h5, h6⟩ := h
  exact ⟨p, C, dx, fV, e1, h1, h2, h3, h4, h5, h6⟩
theorem Rel.mineP (R : Rel c r s H F) {i : Nat} {fs : List (Str × PyData)} (e : r[i]? = some (some (.obf fs))) : ∃ p C dx fV, s[i]? = some (some (V.ref p)) ∧ WC c.K C ∧ F p = some (.ins C dx fV) ∧ F dx = some (.own p) ∧ FRel c.K c.ax F fV fs := by
  obtain ⟨v, e1, h⟩ := R.cell i _ e
  cases v <;> first | exact h.elim | skip
  rename_i p
  obtain ⟨C, dx, fV, h1, h2, h3, h4⟩ := h
  exact ⟨p, C, dx, fV, e1, h1, h2, h3, h4⟩
theorem Rel.mine (R : Rel c r s H F) {i : Nat} {xs : List PyData} (e : r[i]? = some (some (.own xs))) : ∃ p vs, s[i]? = some (some (V.ref p)) ∧ H p = some (.lst vs) ∧ F p = none ∧ c.H0 p = none ∧ DqAll c.K c.ax F vs xs := by
  obtain ⟨v, e1, h⟩ := R.cell i _ e
  cases v <;> first | exact h.elim | skip
  obtain ⟨vs, h1, h2, h3, h4⟩ := h
  exact ⟨_, vs, e1, h1, h2, h3, h4⟩
/-- more objects; those that were not frozen stand -/
structure More (H F H' F' : Hp) : Prop where
  f : Same F F'
  h : Same H H'
  sub : Same F' H'
  un : ∀ p o, H p = some o → F p = none → F' p = none
theorem More.refl (e : Same F H) : More H F H F := ⟨Same.refl _, Same.refl _, e, fun _ _ _ n => n⟩
theorem More.trans {H1 F1 H2 F2 : Hp} (a : More H F H1 F1) (b : More H1 F1 H2 F2) : More H F H2 F2 :=
  ⟨a.f.trans b.f, a.h.trans b.h, b.sub, fun p o e n => b.un p o (a.h p o e) (a.un p o e n)⟩
theorem Fr.more (R : Fr c H F) (m : More H F H' F') : Fr c H' F' :=
  ⟨m.sub, R.old.trans m.f, fun p o e n => let ⟨a, b⟩ := R.kept p o e n; ⟨m.h p o a, m.un p o a b⟩⟩
theorem Rel.more (R : Rel c r s H F) (m : More H F H' F') : Rel c r s H' F' := by
  refine ⟨R.fr.more m, R.len, fun i b e => ?_, R.apart⟩
  cases b with
  | d x => obtain ⟨v, e1, h⟩ := R.data e; exact ⟨v, e1, dp_same m.f h⟩
  | own xs =>
    obtain ⟨p, vs, e1, h1, h2, h3, h4⟩ := R.mine e
    exact ⟨_, e1, vs, m.h _ _ h1, m.un _ _ h1 h2, h3, dpAll_same m.f h4⟩
  | dct kvs =>
    obtain ⟨p, ws, e1, h1, h2, h3, h4, h5⟩ := R.mineM e
    exact ⟨_, e1, ws, m.h _ _ h1, m.un _ _ h1 h2, h3, h4, dpAll_same m.f h5⟩
  | dic kvs =>
    obtain ⟨p, ws, e1, h1, h2, h3, h4⟩ := R.mineK e
    exact ⟨_, e1, ws, m.h _ _ h1, m.un _ _ h1 h2, h3, h4.same m.f⟩
  | dif kvs =>
    obtain ⟨p, ws, o, e1, h1, h4⟩ := R.mineF e
    exact ⟨_, e1, ws, o, m.f _ _ h1, h4.same m.f⟩
  | obj fs =>
    obtain ⟨p, C, dx, fV, e1, h1, h2, h3, h4, h5, h6⟩ := R.mineO e
    exact ⟨_, e1, C, dx, fV, h1, m.h _ _ h2, m.f _ _ h3, m.un _ _ h2 h4, h5, h6.same m.f⟩
  | obf fs =>
    obtain ⟨p, C, dx, fV, e1, h1, h2, h3, h4⟩ := R.mineP e
    exact ⟨_, e1, C, dx, fV, h1, m.f _ _ h2, m.f _ _ h3, h4.same m.f⟩
theorem same_upd' {p : Addr} {o : HO} (n : H p = none) : Same H (upd H p o) := fun b x e => by
  rw [upd_ne (ne_of_none e n)]; exact e
/-- a new object, frozen at once -/
theorem More.laid {p : Addr} {o : HO} (e : Same F H) (n : H p = none) : More H F (upd H p o) (upd F p o) := by
  refine ⟨same_upd' (e.free n), same_upd' n, fun b x q => ?_, fun b x q m => ?_⟩
  · by_cases hb : b = p
    · subst hb; rw [upd_same] at q ⊢; exact q
    · rw [upd_ne hb] at q ⊢; exact e b x q
  · rw [upd_ne (ne_of_none q n)]; exact m
/-- a new object, not frozen -/
theorem More.loose {p : Addr} {o : HO} (e : Same F H) (n : H p = none) : More H F (upd H p o) F :=
  ⟨Same.refl _, same_upd' n, fun b x q => by rw [upd_ne (ne_of_none (e b x q) n)]; exact e b x q, fun _ _ _ m => m⟩
end

/-- an answer, carried from here on -/
def Ans {a : Type} (c : Cc) (r : Rho) (s : L2.St) (H F : Hp) (m : M a) (P : a → Hp → Hp → Prop) : Prop := match m with
  | none => False
  | some (.ok x) => ∀ H' F', Rel c r s H' F' → More H F H' F' → P x H' F'
  | some (.error e) => ∀ H' F', Rel c r s H' F' → More H F H' F' → c.W (.ref (c.ax e)) none s H'
section
variable {a b : Type} {c : Cc} {r : Rho} {s : L2.St} {H F H' F' : Hp} {m : M a} {P P' : a → Hp → Hp → Prop}
theorem Ans.mono (h : Ans c r s H F m P) (e : More H F H' F') : Ans c r s H' F' m P := by
  unfold Ans at h ⊢
  split at h
  · exact h
  · exact fun H2 F2 R e2 => h H2 F2 R (e.trans e2)
  · exact fun H2 F2 R e2 => h H2 F2 R (e.trans e2)
theorem Ans.imp (h : Ans c r s H F m P) (k : ∀ x H' F', Rel c r s H' F' → More H F H' F' → P x H' F' → P' x H' F') : Ans c r s H F m P' := by
  unfold Ans at h ⊢
  split at h
  · exact h
  · exact fun H2 F2 R e2 => k _ H2 F2 R e2 (h H2 F2 R e2)
  · exact h
theorem Ans.bnd {k : a → M b} {P : b → Hp → Hp → Prop} (h : Ans c r s H F (bnd m k) P) : Ans c r s H F m (fun x H1 F1 => Ans c r s H1 F1 (k x) P) := by
  cases m with
  | none => exact h
  | some z =>
    cases z with
    | error e => exact h
    | ok x => exact fun H2 F2 R e2 => Ans.mono (show Ans c r s H F (k x) P from h) e2
theorem Ans.now {x : a} (h : Ans c r s H F (ok x) P) (R : Rel c r s H F) : P x H F := h H F R (More.refl R.fr.sub)
theorem Ans.of {x : a} (h : ∀ H' F', Rel c r s H' F' → More H F H' F' → P x H' F') : Ans c r s H F (ok x) P := h
end

/-- a value on hand: frozen data, or a list at the top that is not (its items are) -/
def Bp (K : PySem.W.Frag) (ax : XN → Addr) (H F : Hp) (v : V) (d : PyData) : Prop :=
  Dq K ax F v d ∨ ∃ p vs xs, v = .ref p ∧ d = .list xs ∧ H p = some (.lst vs) ∧ DqAll K ax F vs xs
section
variable {K : PySem.W.Frag} {ax : XN → Addr} {H F H' F' : Hp} {v : V} {d : PyData} {c : Cc} {r : Rho} {s : L2.St}
theorem Bp.more (h : Bp K ax H F v d) (m : More H F H' F') : Bp K ax H' F' v d := by
  rcases h with h | ⟨p, vs, xs, e1, e2, h1, h2⟩
  · exact .inl (dp_same m.f h)
  · exact .inr ⟨p, vs, xs, e1, e2, m.h _ _ h1, dpAll_same m.f h2⟩
theorem Bp.dq (h : Bp K ax H F v d) (e : Same F H) : Dq K ax H v d := by
  rcases h with h | ⟨p, vs, xs, rfl, rfl, h1, h2⟩
  · exact dp_same e h
  · exact .lst (SqL.of h1) (dpAll_same e h2)
theorem Bp.list {xs : List PyData} (h : Bp K ax H F v (.list xs)) (e : Same F H) : ∃ p vs, v = .ref p ∧ SqL K H p vs ∧ DqAll K ax F vs xs := by
  rcases h with h | ⟨p, vs, ys, rfl, e2, h1, h2⟩
  · cases h with | lst h1 h2 => exact ⟨_, _, rfl, same_l e h1, h2⟩
  · cases e2; exact ⟨p, vs, rfl, SqL.of h1, h2⟩
theorem Bp.tup {xs : List PyData} (h : Bp K ax H F v (.tuple xs)) (e : Same F H) : ∃ p vs, v = .ref p ∧ SqT K H p vs ∧ DqAll K ax F vs xs := by
  rcases h with h | ⟨p, vs, ys, rfl, e2, h1, h2⟩
  · cases h with | tup h1 h2 => exact ⟨_, _, rfl, same_t e h1.t, h2⟩
  · cases e2
theorem Bp.tupP {xs : List PyData} (h : Bp K ax H F v (.tuple xs)) (e : Same F H) : ∃ p vs, v = .ref p ∧ SqP K H p vs ∧ DqAll K ax F vs xs := by
  rcases h with h | ⟨p, vs, ys, rfl, e2, h1, h2⟩
  · cases h with | tup h1 h2 => exact ⟨_, _, rfl, same_p e h1, h2⟩
  · cases e2
theorem Bp.dp (h : Bp K ax H F v d) (e : Same F H) (z : SeqAt.shaped d = true) : Dp K H v d := (h.dq e).dp (shaped_lay z)
theorem Bp.int {i : Int} (h : Bp K ax H F v (.int i)) : v = .int i := by
  rcases h with h | ⟨p, vs, ys, rfl, e2, h1, h2⟩
  · cases h; rfl
  · cases e2
theorem Bp.bool {i : Bool} (h : Bp K ax H F v (.bool i)) : v = .bl i := by
  rcases h with h | ⟨p, vs, ys, rfl, e2, h1, h2⟩
  · cases h; rfl
  · cases e2
theorem Bp.str {i : Str} (h : Bp K ax H F v (.str i)) : v = .str i := by
  rcases h with h | ⟨p, vs, ys, rfl, e2, h1, h2⟩
  · cases h; rfl
  · cases e2
theorem Bp.none (h : Bp K ax H F v .none) : v = .non := by
  rcases h with h | ⟨p, vs, ys, rfl, e2, h1, h2⟩
  · cases h; rfl
  · cases e2
end

abbrev Ef := Rho → M PyData
/-- an expression whose value is frozen data -/
def teD (c : Cc) (f : Ef) : TE := fun s H Q => ∃ r F, Rel c r s H F ∧ Ans c r s H F (f r) (fun d H' F' => ∀ v, Dq c.K c.ax F' v d → Q v H')
/-- .. on hand -/
def teB (c : Cc) (f : Ef) : TE := fun s H Q => ∃ r F, Rel c r s H F ∧ Ans c r s H F (f r) (fun d H' F' => ∀ v, Bp c.K c.ax H' F' v d → Q v H')
/-- .. a new list, not frozen, none of the slots' -/
def teO (c : Cc) (f : Rho → M (List PyData)) : TE := fun s H Q => ∃ r F, Rel c r s H F ∧ Ans c r s H F (f r) (fun xs H' F' => ∀ p vs, H' p = some (.lst vs) → F' p = none → H p = none → DqAll c.K c.ax F' vs xs → Q (.ref p) H')
/-- an argument list -/
def taD (c : Cc) (f : Rho → M (List PyData)) : TA := fun s H Q => ∃ r F, Rel c r s H F ∧ Ans c r s H F (f r) (fun ds H' F' => ∀ vs, DqAll c.K c.ax F' vs ds → Q vs H')
/-- a test -/
def ttD (c : Cc) (f : Rho → M Bool) : TT := fun s H Q => ∃ r F, Rel c r s H F ∧ Ans c r s H F (f r) (fun b H' _ => Q b H')

theorem PE.weak {X : Cx} {e : Expr} {t t' : TE} (h : PE X e t) (k : ∀ s H Q, t' s H Q → t s H Q) : PE X e t' := ⟨fun pins s σ H Q I z => h.run pins s σ H Q I (k σ H Q z)⟩
theorem PT.weak {X : Cx} {e : Expr} {t t' : TT} (h : PT X e t) (k : ∀ s H Q, t' s H Q → t s H Q) : PT X e t' := ⟨fun pins s σ H Q I z => h.run pins s σ H Q I (k σ H Q z)⟩
theorem PW.weak {X : Cx} {e : Expr} {t t' : TT} (h : PW X e t) (k : ∀ s H Q, t' s H Q → t s H Q) : PW X e t' := ⟨fun wh pins s σ H Q I z => h.run wh pins s σ H Q I (k σ H Q z)⟩
theorem PA.weak {X : Cx} {e : List Expr} {t t' : TA} (h : PA X e t) (k : ∀ s H Q, t' s H Q → t s H Q) : PA X e t' := ⟨fun pos pins s σ H Q I z => h.run pos pins s σ H Q I (k σ H Q z)⟩
theorem PS.weak {X : Cx} {e : Stmt} {t t' : TS} (h : PS X e t) (k : ∀ D s H, t' D s H → t D s H) : PS X e t' := ⟨fun pins s σ H D I z => h.run pins s σ H D I (k D σ H z)⟩
theorem PSs.weak {X : Cx} {e : List Stmt} {t t' : TS} (h : PSs X e t) (k : ∀ D s H, t' D s H → t D s H) : PSs X e t' := ⟨fun pins s σ H D I z => h.run pins s σ H D I (k D σ H z)⟩
end DL

set_option Elab.async false
set_option linter.all false
set_option maxRecDepth 100000
/-! The data layer, 2: expressions. -/
noncomputable section
namespace DL
open PySem L2

/-- how long lists and texts may grow -/
theorem lim_ex : ∃ n : Nat, n = 1000000 := ⟨_, rfl⟩
/-- the longest list; held back from the kernel's reckoning -/
def lim : Nat := lim_ex.choose
theorem lim_is : lim = 1000000 := lim_ex.choose_spec
theorem inW_ex : ∃ f : Int → Bool, ∀ i, f i = (decide (-(2 ^ 64) < i) && decide (i < 2 ^ 64)) := ⟨_, fun _ => rfl⟩
def inW : Int → Bool := inW_ex.choose
theorem inW_of {i : Int} : inW i = true ↔ -(2 ^ 64) < i ∧ i < 2 ^ 64 := by
  rw [show inW i = _ from inW_ex.choose_spec i, Bool.and_eq_true, decide_eq_true_eq, decide_eq_true_eq]
theorem inR_ex : ∃ f : Int → Bool, ∀ i, f i = (decide (-(2 ^ 60) ≤ i) && decide (i < 2 ^ 60)) := ⟨_, fun _ => rfl⟩
def inR : Int → Bool := inR_ex.choose
theorem inR_iff {i : Int} : inR i = true ↔ -(2 ^ 60) ≤ i ∧ i < 2 ^ 60 := by
  rw [show inR i = _ from inR_ex.choose_spec i, Bool.and_eq_true, decide_eq_true_eq, decide_eq_true_eq]
theorem inL_ex : ∃ f : Int → Bool, ∀ i, f i = (decide (-(2 ^ 60) ≤ i) && decide (i ≤ 1000000)) := ⟨_, fun _ => rfl⟩
def inL : Int → Bool := inL_ex.choose
theorem inL_iff {i : Int} : inL i = true ↔ -(2 ^ 60) ≤ i ∧ i ≤ 1000000 := by
  rw [show inL i = _ from inL_ex.choose_spec i, Bool.and_eq_true, decide_eq_true_eq, decide_eq_true_eq]
theorem lim_line {n : Nat} (h : n ≤ lim) : n ≤ sizeLine := Nat.le_trans h (by rw [lim_is]; decide)
theorem lim_lt {n : Nat} (h : n < lim) : n < sizeLine := Nat.lt_of_lt_of_le h (by rw [lim_is]; decide)

section
variable {X : Cx} {c : Cc} {e a b : Expr} {f g : Ef} {pos : Pos}

/-! ### frozen values are on hand -/
theorem de_b (h : PE X e (teD c f)) : PE X e (teB c f) := PE.weak h fun s H Q ⟨r, F, R, k⟩ => ⟨r, F, R, k.imp fun d H1 F1 _ _ q v hv => q v (.inl hv)⟩
theorem de_eq {f' : Ef} (h : PE X e (teD c f)) (z : ∀ r, f' r = f r) : PE X e (teD c f') := by
  have : f' = f := funext z
  rw [this]; exact h

/-! ### constants, names -/
def eC (d : PyData) : Ef := fun _ => ok d
theorem te_c {v : V} {d : PyData} {s : L2.St} {H : Hp} {Q : VK} (hd : ∀ F, Dq c.K c.ax F v d) : teD c (eC d) s H Q → tC v s H Q := fun ⟨r, F, R, k⟩ => k.now R v (hd F)
theorem de_int {i : Int} {j : Nat} : PE X (.Constant (.int i) j pos) (teD c (eC (.int i))) := PE.weak pe_int fun _ _ _ => te_c fun _ => .int i
theorem de_bl {i : Bool} {j : Nat} : PE X (.Constant (.bool i) j pos) (teD c (eC (.bool i))) := PE.weak pe_bl fun _ _ _ => te_c fun _ => .bl i
theorem de_non {j : Nat} : PE X (.Constant .none j pos) (teD c (eC .none)) := PE.weak pe_non fun _ _ _ => te_c fun _ => .non
theorem de_str {i : Str} {j : Nat} : PE X (.Constant (.str i) j pos) (teD c (eC (.str i))) := PE.weak pe_str fun _ _ _ => te_c fun _ => .str i
/-- a module's constant, an int -/
theorem de_globI {x : Str} {i : Int} {t : Tok} (hg : Gl X x) (hm : X.mg x = some (.int i t)) (hd : (x == ("__debug__" : Str)) = false := by decide) : PE X (.Name x pos) (teD c (eC (.int i))) :=
  PE.weak (pe_glob (v := .int i) hg hm ⟨t, rfl⟩ hd) fun _ _ _ => te_c fun _ => .int i
theorem de_globS {x : Str} {i : Str} {t : Tok} (hg : Gl X x) (hm : X.mg x = some (.str i t)) (hd : (x == ("__debug__" : Str)) = false := by decide) : PE X (.Name x pos) (teD c (eC (.str i))) :=
  PE.weak (pe_glob (v := .str i) hg hm ⟨t, rfl⟩ hd) fun _ _ _ => te_c fun _ => .str i

/-- a slot's data -/
def eV (i : Nat) : Ef := fun r => match r[i]? with
  | some (some (.d x)) => ok x
  | _ => none
/-- a slot's data, or what its list holds now -/
def eO (i : Nat) : Ef := fun r => match r[i]? with
  | some (some (.d x)) => ok x
  | some (some (.own xs)) => ok (.list xs)
  | _ => none
theorem de_v {i : Nat} (h : PE X e (tVar i)) : PE X e (teD c (eV i)) := by
  refine PE.weak h fun s H Q ⟨r, F, R, k⟩ => ?_
  unfold eV at k
  split at k
  · rename_i x e
    obtain ⟨v, e1, h1⟩ := R.data e
    exact ⟨v, e1, k.now R v h1⟩
  · exact k.elim
theorem de_o {i : Nat} (h : PE X e (tVar i)) : PE X e (teB c (eO i)) := by
  refine PE.weak h fun s H Q ⟨r, F, R, k⟩ => ?_
  unfold eO at k
  split at k
  · rename_i x e
    obtain ⟨v, e1, h1⟩ := R.data e
    exact ⟨v, e1, k.now R v (.inl h1)⟩
  · rename_i xs e
    obtain ⟨p, vs, e1, h1, h2, h3, h4⟩ := R.mine e
    exact ⟨_, e1, k.now R _ (.inr ⟨p, vs, xs, rfl, rfl, h1, h4⟩)⟩
  · exact k.elim

/-! ### operators -/
def e2 (o : PyData → PyData → M PyData) (f g : Ef) : Ef := fun r => bnd (f r) fun x => bnd (g r) fun y => o x y
def e1 (o : PyData → M PyData) (f : Ef) : Ef := fun r => bnd (f r) o
def OpS (c : Cc) (rr : R2) (o : PyData → PyData → M PyData) : Prop := ∀ (r : Rho) (s : L2.St) (H F : Hp) (x y : V) (a b : PyData) (Q : VK), Rel c r s H F → Bp c.K c.ax H F x a → Bp c.K c.ax H F y b →
  Ans c r s H F (o a b) (fun d H' F' => ∀ v, Dq c.K c.ax F' v d → Q v H') → rr x y H Q
theorem te_op {rr : R2} {o : PyData → PyData → M PyData} (os : OpS c rr o) {s : L2.St} {H : Hp} {Q : VK} : teD c (e2 o f g) s H Q → tOp rr (teB c f) (teB c g) s H Q := fun ⟨r, F, R, h⟩ =>
  ⟨r, F, R, h.bnd.imp fun x H1 F1 R1 m1 h1 v hv => ⟨r, F1, R1, h1.bnd.imp fun y H2 F2 R2 m2 h2 u hu => os r s H2 F2 v u x y Q R2 (hv.more m2) hu h2⟩⟩
theorem de_op {op : Operator} {rr : R2} {o : PyData → PyData → M PyData} (ho : OpR X (binaryOp op) rr) (os : OpS c rr o) (ha : PE X a (teB c f)) (hb : PE X b (teB c g)) : PE X (.BinOp a op b pos) (teD c (e2 o f g)) :=
  PE.weak (pe_op ho ha hb) fun _ _ _ => te_op os
theorem de_cmp {op : CmpOp} {rr : R2} {o : PyData → PyData → M PyData} (ho : OpR X (compareOp op) rr) (os : OpS c rr o) (ha : PE X a (teB c f)) (hb : PE X b (teB c g)) (hm : behindInMarks op b = false := by first | exact nomark _ | rfl) : PE X (.Compare a [op] [b] pos) (teD c (e2 o f g)) :=
  PE.weak (pe_cmpR ho ha hb hm) fun _ _ _ => te_op os
theorem de_un {op : UnaryOp} {rr : V → Hp → VK → Prop} {o : PyData → M PyData} (ho : UnR X (unaryOp op) rr) (os : ∀ (r : Rho) (s : L2.St) (H F : Hp) (x : V) (a : PyData) (Q : VK), Rel c r s H F → Bp c.K c.ax H F x a → Ans c r s H F (o a) (fun d H' F' => ∀ v, Dq c.K c.ax F' v d → Q v H') → rr x H Q)
    (ha : PE X a (teB c f)) : PE X (.UnaryOp op a pos) (teD c (e1 o f)) :=
  PE.weak (pe_un ho ha) fun s H Q ⟨r, F, R, h⟩ => ⟨r, F, R, h.bnd.imp fun x H1 F1 R1 m1 h1 v hv => os r s H1 F1 v x Q R1 hv h1⟩
/-- a < b < c -/
def e3 (o o' : PyData → PyData → M PyData) (f g h : Ef) : Ef := fun r => bnd (f r) fun x => bnd (g r) fun y => bnd (o x y) fun z => match z with
  | .bool true => bnd (h r) fun w => o' y w
  | .bool false => ok (.bool false)
  | _ => none
theorem de_chain {d : Expr} {op op' : CmpOp} {rr rr' : R2} {o o' : PyData → PyData → M PyData} {h : Ef} (ho : OpR X (compareOp op) rr) (ho' : OpR X (compareOp op') rr') (os : OpS c rr o) (os' : OpS c rr' o') (ha : PE X a (teB c f)) (hb : PE X b (teB c g)) (hd : PE X d (teB c h))
    (hm : lastMarks [op, op'] [b, d] = false := by with_unfolding_all rfl) : PE X (.Compare a [op, op'] [b, d] pos) (teD c (e3 o o' f g h)) := by
  refine PE.weak (pe_chain ho ho' ha hb hd hm) fun s H Q ⟨r, F, R, k⟩ => ?_
  refine ⟨r, F, R, k.bnd.imp fun x H1 F1 R1 m1 k1 v hv => ⟨r, F1, R1, k1.bnd.imp fun y H2 F2 R2 m2 k2 u hu => ?_⟩⟩
  refine os r s H2 F2 v u x y _ R2 (hv.more m2) hu (k2.bnd.imp fun z H3 F3 R3 m3 k3 t ht => ?_)
  split at k3
  · cases ht
    refine ⟨true, rfl, ?_⟩
    rw [if_pos rfl]
    exact ⟨r, F3, R3, k3.bnd.imp fun w H4 F4 R4 m4 k4 p hp => os' r s H4 F4 u p y w Q R4 (hu.more (m3.trans m4)) hp k4⟩
  · cases ht
    refine ⟨false, rfl, ?_⟩
    rw [if_neg (by decide)]
    exact k3.now R3 _ (.bl false)
  · exact k3.elim

/-! ### the operators by name -/
def oAdd : PyData → PyData → M PyData
  | .int i, .int j => ok (.int (i + j))
  | .str x, .str y => if x.length + y.length ≤ lim then ok (.str (x ++ y)) else none
  | .tuple xs, .tuple ys => if xs.length + ys.length ≤ lim then ok (.tuple (xs ++ ys)) else none
  | .list xs, .list ys => if xs.length + ys.length ≤ lim then ok (.list (xs ++ ys)) else none
  | _, _ => none
def rCatS (K : PySem.W.Frag) : R2 := fun x y H Q => ∃ l b xs zs, x = .ref l ∧ y = .ref b ∧ SqL K H l xs ∧ SqL K H b zs ∧ xs.length + zs.length ≤ sizeLine ∧ ∀ p, H p = none → Q (.ref p) (upd H p (.lst (xs ++ zs)))
theorem op_catS : OpR X (binaryOp .Add) (rCatS X.K) := by
  intro pins s σ H x y v u Q I rx ry h
  obtain ⟨l, b, xs, zs, rfl, rfl, h1, h2, hz, q⟩ := h
  cases rx
  cases ry
  obtain ⟨its, r1, ⟨⟨cls, dd, data, sl⟩, n, ho, hc, hdn, hd⟩, z1⟩ := I.list h1
  obtain ⟨its2, r2, ⟨⟨cls2, dd2, data2, sl2⟩, n2, ho2, hc2, hdn2, hd2⟩, z2⟩ := I.list h2
  simp only at hc hd hdn hc2 hd2 hdn2
  subst hc hd hdn hc2 hd2 hdn2
  have e1 := r1.length
  have e2 := r2.length
  have ez : its.toArray.size + its2.toArray.size ≤ sizeLine := by rw [List.size_toArray, List.size_toArray]; omega
  have ea : its.toArray ++ its2.toArray = (its ++ its2).toArray := by simp
  refine PySem.concat_meets ⟨_, ho, rfl⟩ ⟨_, ho2, rfl⟩ PySem.noFill_list_add PySem.seq_list_add PySem.F.slot_list_add PySem.F.entry_list_add
    (PySem.F.args_list_add_2 _ _) (PyProof.Rows.list_addW l b its.toArray its2.toArray n n2 none none sl sl2 ez) ⟨ho, ho2, ?_⟩
  rw [ea]
  exact ⟨.ref _, _, I.lnew (t' := s.toks) (r1.append r2) (by rw [List.length_append]; omega), rfl, q _ I.fresh⟩
def rAddS (K : PySem.W.Frag) : R2 := fun x y H Q => ((rI0 fun i j => .int (i + j)) x y H Q ∨ (∃ i j, x = .str i ∧ y = .str j ∧ i.length + j.length ≤ sizeLine ∧ Q (.str (i ++ j)) H)) ∨ (rCatZ K x y H Q ∨ rCatS K x y H Q)
theorem op_addS : OpR X (binaryOp .Add) (rAddS X.K) := (op_add.or op_add_str).or (op_catZ.or op_catS)
/-- a new object, frozen at once: the answer's end -/
theorem lay_t {r : Rho} {s : L2.St} {H F : Hp} {P : PyData → Hp → Hp → Prop} {vs : List V} {ds : List PyData} {p : Addr} {ob : Obj} (R : Rel c r s H F) (h : Ans c r s H F (ok (.tuple ds)) P) (n : H p = none) (od : ob.dict = none) (hv : DqAll c.K c.ax F vs ds) : P (.tuple ds) (upd H p (.frz ob (.tup vs))) (upd F p (.frz ob (.tup vs))) ∧ Dq c.K c.ax (upd F p (.frz ob (.tup vs))) (.ref p) (.tuple ds) :=
  have m := More.laid (o := .frz ob (.tup vs)) R.fr.sub n
  ⟨h _ _ (R.more m) m, .tup (.inl ⟨ob, upd_same, od⟩) (dpAll_same m.f hv)⟩
theorem lay_l {r : Rho} {s : L2.St} {H F : Hp} {P : PyData → Hp → Hp → Prop} {vs : List V} {ds : List PyData} {p : Addr} (R : Rel c r s H F) (h : Ans c r s H F (ok (.list ds)) P) (n : H p = none) (hv : DqAll c.K c.ax F vs ds) : P (.list ds) (upd H p (.lst vs)) (upd F p (.lst vs)) ∧ Dq c.K c.ax (upd F p (.lst vs)) (.ref p) (.list ds) :=
  have m := More.laid (o := .lst vs) R.fr.sub n
  ⟨h _ _ (R.more m) m, .lst (SqL.of upd_same) (dpAll_same m.f hv)⟩
theorem os_add : OpS c (rAddS c.K) oAdd := by
  intro r s H F x y a b Q R hx hy h
  unfold oAdd at h
  split at h
  · exact .inl (.inl ⟨_, _, hx.int, hy.int, h.now R _ (.int _)⟩)
  · split at h
    · exact .inl (.inr ⟨_, _, hx.str, hy.str, lim_line (by assumption), h.now R _ (.str _)⟩)
    · exact h.elim
  · rename_i xs ys
    split at h
    · rename_i hz
      obtain ⟨p, vs, rfl, hs, hd⟩ := hx.tup R.fr.sub
      obtain ⟨q, ws, rfl, ht, he⟩ := hy.tup R.fr.sub
      have l1 := dpAll_len hd
      have l2 := dpAll_len he
      refine .inr (.inl ⟨p, q, vs, ws, rfl, rfl, hs, ht, lim_line (by omega), fun z => ?_, fun z1 z2 => ?_, fun _ _ o ob no od => ?_⟩)
      · subst z
        cases hd
        rcases hy with hy | ⟨_, _, _, _, ey, _⟩
        · exact h.now R _ hy
        · cases ey
      · subst z2
        cases he
        rcases hx with hx | ⟨_, _, _, _, ey, _⟩
        · exact h.now R _ (by rw [List.append_nil]; exact hx)
        · cases ey
      · have := lay_t R h no od (dpAll_app hd he)
        exact this.1 _ this.2
    · exact h.elim
  · rename_i xs ys
    split at h
    · rename_i hz
      obtain ⟨p, vs, rfl, hs, hd⟩ := hx.list R.fr.sub
      obtain ⟨q, ws, rfl, ht, he⟩ := hy.list R.fr.sub
      have l1 := dpAll_len hd
      have l2 := dpAll_len he
      refine .inr (.inr ⟨p, q, vs, ws, rfl, rfl, hs, ht, lim_line (by omega), fun o no => ?_⟩)
      have := lay_l R h no (dpAll_app hd he)
      exact this.1 _ this.2
    · exact h.elim
  · exact h.elim

def oSub : PyData → PyData → M PyData
  | .int i, .int j => ok (.int (i - j))
  | _, _ => none
def oDiv : PyData → PyData → M PyData
  | .int i, .int j => if 0 < j ∧ j < 1073741824 then ok (.int (i / j)) else none
  | _, _ => none
def oMod : PyData → PyData → M PyData
  | .int i, .int j => if 0 < j then ok (.int (i % j)) else none
  | _, _ => none
def oMul : PyData → PyData → M PyData
  | .int i, .int j => if inW i = true ∨ inW j = true then ok (.int (i * j)) else none
  | .list xs, .int k => if inR k = true ∧ xs.length * k.toNat ≤ lim then ok (.list (List.replicate k.toNat xs).flatten) else none
  | _, _ => none
theorem os_sub : OpS c (rI0 fun i j => .int (i - j)) oSub := by
  intro r s H F x y a b Q R hx hy h
  unfold oSub at h
  split at h
  · exact ⟨_, _, hx.int, hy.int, h.now R _ (.int _)⟩
  · exact h.elim
theorem os_div : OpS c (rI CDiv fun i j => .int (i / j)) oDiv := by
  intro r s H F x y a b Q R hx hy h
  unfold oDiv at h
  split at h
  · split at h
    · exact ⟨_, _, hx.int, hy.int, by assumption, h.now R _ (.int _)⟩
    · exact h.elim
  · exact h.elim
theorem os_mod : OpS c (rI (fun _ j => 0 < j) fun i j => .int (i % j)) oMod := by
  intro r s H F x y a b Q R hx hy h
  unfold oMod at h
  split at h
  · split at h
    · exact ⟨_, _, hx.int, hy.int, by assumption, h.now R _ (.int _)⟩
    · exact h.elim
  · exact h.elim
theorem os_neg (r : Rho) (s : L2.St) (H F : Hp) (x : V) (a : PyData) (Q : VK) (R : Rel c r s H F) (hx : Bp c.K c.ax H F x a) (h : Ans c r s H F ((fun d => match d with | .int i => ok (.int (-i)) | _ => none) a) (fun d H' F' => ∀ v, Dq c.K c.ax F' v d → Q v H')) : rU (fun i => .int (-i)) x H Q := by
  dsimp only at h
  split at h
  · exact ⟨_, hx.int, h.now R _ (.int _)⟩
  · exact h.elim
def oNeg : PyData → M PyData := fun d => match d with
  | .int i => ok (.int (-i))
  | _ => none
theorem de_neg (ha : PE X a (teB c f)) : PE X (.UnaryOp .USub a pos) (teD c (e1 oNeg f)) := de_un un_neg os_neg ha

theorem dpAll_rep {K : PySem.W.Frag} {ax : XN → Addr} {H : Hp} {vs : List V} {ds : List PyData} (h : DqAll K ax H vs ds) : ∀ k : Nat, DqAll K ax H (List.replicate k vs).flatten (List.replicate k ds).flatten
  | 0 => .nil
  | k + 1 => by rw [List.replicate_succ, List.replicate_succ, List.flatten_cons, List.flatten_cons]; exact dpAll_app h (dpAll_rep h k)
def rRepS (K : PySem.W.Frag) : R2 := fun x y H Q => ∃ l k xs, x = .ref l ∧ y = .int k ∧ H l = some (.lst xs) ∧ -(2 ^ 63) ≤ k ∧ k < 2 ^ 63 ∧ xs.length * k.toNat ≤ sizeLine ∧ ∀ p, H p = none → Q (.ref p) (upd H p (.lst (List.replicate k.toNat xs).flatten))

/-! ### comparisons -/
def oCmp (p : Int → Int → Bool) : PyData → PyData → M PyData
  | .int i, .int j => ok (.bool (p i j))
  | _, _ => none
theorem os_cmp {p : Int → Int → Bool} : OpS c (rI0 fun i j => .bl (p i j)) (oCmp p) := by
  intro r s H F x y a b Q R hx hy h
  unfold oCmp at h
  split at h
  · exact ⟨_, _, hx.int, hy.int, h.now R _ (.bl _)⟩
  · exact h.elim
abbrev oLt := oCmp fun i j => decide (i < j)
abbrev oLe := oCmp fun i j => decide (i ≤ j)
abbrev oGt := oCmp fun i j => decide (j < i)
abbrev oGe := oCmp fun i j => decide (j ≤ i)
def oEq : PyData → PyData → M PyData := fun a b => if SeqAt.shaped a = true ∧ SeqAt.shaped b = true then ok (.bool (PyData.eqv a b)) else none
def oNe : PyData → PyData → M PyData := fun a b => if SeqAt.shaped a = true ∧ SeqAt.shaped b = true then ok (.bool (!PyData.eqv a b)) else none
theorem os_eq : OpS c (rEqD c.K) oEq := by
  intro r s H F x y a b Q R hx hy h
  unfold oEq at h
  split at h
  · rename_i z
    exact ⟨a, b, hx.dp R.fr.sub z.1, hy.dp R.fr.sub z.2, z.1, z.2, h.now R _ (.bl _)⟩
  · exact h.elim
theorem os_ne : OpS c (rNeD c.K) oNe := by
  intro r s H F x y a b Q R hx hy h
  unfold oNe at h
  split at h
  · rename_i z
    exact ⟨a, b, hx.dp R.fr.sub z.1, hy.dp R.fr.sub z.2, z.1, z.2, h.now R _ (.bl _)⟩
  · exact h.elim
def isN : PyData → Bool
  | .none => true
  | _ => false
def oIsN : PyData → PyData → M PyData := fun a b => match b with
  | .none => ok (.bool (isN a))
  | _ => none
def oNotN : PyData → PyData → M PyData := fun a b => match b with
  | .none => ok (.bool (!isN a))
  | _ => none
theorem bp_non {K : PySem.W.Frag} {ax : XN → Addr} {H F : Hp} {v : V} {d : PyData} (h : Bp K ax H F v d) : decide (v = .non) = isN d := by
  rcases h with h | ⟨p, vs, xs, rfl, rfl, _, _⟩
  · cases h <;> rfl
  · rfl
theorem bp_non' {K : PySem.W.Frag} {ax : XN → Addr} {H F : Hp} {v : V} {d : PyData} (h : Bp K ax H F v d) : (!decide (v = .non)) = !isN d := by
  rw [bp_non h]
theorem os_isN : OpS c (fun x y H Q => y = .non ∧ Q (.bl (decide (x = .non))) H) oIsN := by
  intro r s H F x y a b Q R hx hy h
  unfold oIsN at h
  split at h
  · refine ⟨hy.none, ?_⟩
    rw [bp_non hx]
    exact h.now R _ (Dq.bl (isN a))
  · exact h.elim
theorem os_notN : OpS c (fun x y H Q => y = .non ∧ Q (.bl (!decide (x = .non))) H) oNotN := by
  intro r s H F x y a b Q R hx hy h
  unfold oNotN at h
  split at h
  · refine ⟨hy.none, ?_⟩
    rw [bp_non' hx]
    exact h.now R _ (Dq.bl (!isN a))
  · exact h.elim
/-- in, not in: lists and tuples of data -/
def oIn (neg : Bool) : PyData → PyData → M PyData := fun a b => match b with
  | .list ds => if SeqAt.shaped a = true ∧ SeqAt.shaped (.list ds) = true then ok (.bool (neg ^^ ds.any fun z => PyData.eqv z a)) else none
  | .tuple ds => if SeqAt.shaped a = true ∧ SeqAt.shaped (.tuple ds) = true then ok (.bool (neg ^^ ds.any fun z => PyData.eqv z a)) else none
  | _ => none
def rInT (K : PySem.W.Frag) (neg : Bool) : R2 := fun x y H Q => ∃ d ds, Dp K H x d ∧ Dp K H y (.tuple ds) ∧ SeqAt.shaped d = true ∧ SeqAt.shaped (.tuple ds) = true ∧ Q (.bl (neg ^^ ds.any fun z => PyData.eqv z d)) H
theorem room_in_tup {A : Around} {d : PyData} {ds : List PyData} (h : SeqAt.shaped d = true) (hu : A.units + 65 < cLine) : A.units + 1 + min (PyData.depthAll ds) d.depth < cLine := by
  have h1 := SeqAt.depth_of_shaped h
  have h2 : min (PyData.depthAll ds) d.depth ≤ d.depth := Nat.min_le_right _ _
  omega
theorem canAll_of {ds : List PyData} (h : SeqAt.shaped (.tuple ds) = true) : PyData.canLayAll0 ds = true := by
  have q := SeqAt.canLay_of_shaped h
  simpa only [PyData.canLay0] using q
theorem op_inT (hu : X.A.units + 65 < cLine) : OpR X (compareOp .In) (rInT X.K false) := by
  intro pins s σ H x y v u Q I rx ry h
  obtain ⟨d, ds, hd, he, sd, se, q⟩ := h
  obtain ⟨as, r1⟩ := Dp.reads I d x v hd rx
  obtain ⟨bs, r2⟩ := Dp.reads I (.tuple ds) y u he ry
  exact SeqAt.in_tuple_reads r2 r1 (canAll_of se) (SeqAt.canLay_of_shaped sd) (room_in_tup sd hu) ⟨.bl _, H, I, rfl, by rw [Bool.false_xor] at q; exact q⟩
theorem op_notInT (hu : X.A.units + 65 < cLine) : OpR X (compareOp .NotIn) (rInT X.K true) := by
  intro pins s σ H x y v u Q I rx ry h
  obtain ⟨d, ds, hd, he, sd, se, q⟩ := h
  obtain ⟨as, r1⟩ := Dp.reads I d x v hd rx
  obtain ⟨bs, r2⟩ := Dp.reads I (.tuple ds) y u he ry
  exact SeqAt.notIn_tuple_reads r2 r1 (canAll_of se) (SeqAt.canLay_of_shaped sd) (room_in_tup sd hu) ⟨.bl _, H, I, rfl, by rw [Bool.true_xor] at q; exact q⟩
def rInS (K : PySem.W.Frag) : R2 := fun x y H Q => rInD K x y H Q ∨ rInT K false x y H Q
def rNotInS (K : PySem.W.Frag) : R2 := fun x y H Q => rNotInD K x y H Q ∨ rInT K true x y H Q
theorem op_inS (hu : X.A.units + 65 < cLine) : OpR X (compareOp .In) (rInS X.K) := (op_inD hu).or (op_inT hu)
theorem op_notInS (hu : X.A.units + 65 < cLine) : OpR X (compareOp .NotIn) (rNotInS X.K) := (op_notInD hu).or (op_notInT hu)
theorem os_in : OpS c (rInS c.K) (oIn false) := by
  intro r s H F x y a b Q R hx hy h
  unfold oIn at h
  split at h
  · split at h
    · rename_i z
      exact .inl ⟨_, _, hx.dp R.fr.sub z.1, hy.dp R.fr.sub z.2, z.1, z.2, by have := h.now R _ (.bl _); rw [Bool.false_xor] at this; exact this⟩
    · exact h.elim
  · split at h
    · rename_i z
      exact .inr ⟨_, _, hx.dp R.fr.sub z.1, hy.dp R.fr.sub z.2, z.1, z.2, h.now R _ (.bl _)⟩
    · exact h.elim
  · exact h.elim
theorem os_notIn : OpS c (rNotInS c.K) (oIn true) := by
  intro r s H F x y a b Q R hx hy h
  unfold oIn at h
  split at h
  · split at h
    · rename_i z
      exact .inl ⟨_, _, hx.dp R.fr.sub z.1, hy.dp R.fr.sub z.2, z.1, z.2, by have := h.now R _ (.bl _); rw [Bool.true_xor] at this; exact this⟩
    · exact h.elim
  · split at h
    · rename_i z
      exact .inr ⟨_, _, hx.dp R.fr.sub z.1, hy.dp R.fr.sub z.2, z.1, z.2, h.now R _ (.bl _)⟩
    · exact h.elim
  · exact h.elim
end
end DL

set_option Elab.async false
set_option linter.all false
set_option maxRecDepth 100000
/-! The data layer, 3: tests, displays, places, slices, built-ins, calls of defs. -/
noncomputable section
namespace DL
open PySem L2

section
variable {X : Cx} {c : Cc} {e a b : Expr} {f g : Ef} {pos : Pos}

/-! ### truths as values -/
def eAnd (f g : Ef) : Ef := fun r => bnd (f r) fun x => match x with
  | .bool true => g r
  | .bool false => ok (.bool false)
  | _ => none
def eOr (f g : Ef) : Ef := fun r => bnd (f r) fun x => match x with
  | .bool true => ok (.bool true)
  | .bool false => g r
  | _ => none
def eNot (f : Ef) : Ef := fun r => bnd (f r) fun x => match x with
  | .bool k => ok (.bool (!k))
  | _ => none
theorem de_one {op : BoolOp} (h : PE X e (teD c f)) : PE X (.BoolOp op [e] pos) (teD c f) := pe_one h
theorem de_and {rest : List Expr} (ha : PE X a (teD c f)) (hb : PE X (.BoolOp .And (b :: rest) pos) (teD c g)) : PE X (.BoolOp .And (a :: b :: rest) pos) (teD c (eAnd f g)) := by
  refine PE.weak (pe_and ha hb) fun s H Q ⟨r, F, R, k⟩ => ⟨r, F, R, k.bnd.imp fun x H1 F1 R1 m1 k1 v hv => ?_⟩
  split at k1
  · cases hv
    exact ⟨true, rfl, by rw [if_pos rfl]; exact ⟨r, F1, R1, k1⟩⟩
  · cases hv
    exact ⟨false, rfl, by rw [if_neg (by decide)]; exact k1.now R1 _ (.bl false)⟩
  · exact k1.elim
theorem de_or {rest : List Expr} (ha : PE X a (teD c f)) (hb : PE X (.BoolOp .Or (b :: rest) pos) (teD c g)) : PE X (.BoolOp .Or (a :: b :: rest) pos) (teD c (eOr f g)) := by
  refine PE.weak (pe_or ha hb) fun s H Q ⟨r, F, R, k⟩ => ⟨r, F, R, k.bnd.imp fun x H1 F1 R1 m1 k1 v hv => ?_⟩
  split at k1
  · cases hv
    exact ⟨true, rfl, by rw [if_pos rfl]; exact k1.now R1 _ (.bl true)⟩
  · cases hv
    exact ⟨false, rfl, by rw [if_neg (by decide)]; exact ⟨r, F1, R1, k1⟩⟩
  · exact k1.elim
theorem de_not (ha : PE X a (teD c f)) : PE X (.UnaryOp .Not a pos) (teD c (eNot f)) := by
  refine PE.weak (pe_not ha) fun s H Q ⟨r, F, R, k⟩ => ⟨r, F, R, k.bnd.imp fun x H1 F1 R1 m1 k1 v hv => ?_⟩
  split at k1
  · cases hv
    exact ⟨_, rfl, k1.now R1 _ (.bl _)⟩
  · exact k1.elim

/-! ### tests -/
abbrev Tf := Rho → M Bool
def tCmpF (o : PyData → PyData → M PyData) (f g : Ef) : Tf := fun r => bnd (e2 o f g r) fun z => match z with
  | .bool k => ok k
  | _ => none
def tValF (f : Ef) : Tf := fun r => bnd (f r) fun z => match z with
  | .bool k => ok k
  | _ => none
theorem tt_of {f : Ef} {s : L2.St} {H : Hp} {Q : Bool → Hp → Prop} : ttD c (tValF f) s H Q → teD c f s H (fun x H' => ∃ k, x = .bl k ∧ Q k H') := fun ⟨r, F, R, h⟩ =>
  ⟨r, F, R, h.bnd.imp fun z H1 F1 R1 m1 k1 v hv => by
    split at k1
    · cases hv; exact ⟨_, rfl, k1.now R1⟩
    · exact k1.elim⟩
theorem dt_cmp {op : CmpOp} {rr : R2} {o : PyData → PyData → M PyData} (ho : OpR X (compareOp op) rr) (os : OpS c rr o) (ha : PE X a (teB c f)) (hb : PE X b (teB c g)) (hm : behindInMarks op b = false := by first | exact nomark _ | rfl) : PT X (.Compare a [op] [b] pos) (ttD c (tValF (e2 o f g))) :=
  PT.weak (pt_cmpR ho ha hb hm) fun s H Q q => te_op os (tt_of q)
theorem te_chain {rr rr' : R2} {o o' : PyData → PyData → M PyData} {h : Ef} (os : OpS c rr o) (os' : OpS c rr' o') (s : L2.St) (H : Hp) (Q : VK) : teD c (e3 o o' f g h) s H Q → tChain rr rr' (teB c f) (teB c g) (teB c h) s H Q := fun ⟨r, F, R, k⟩ => by
  refine ⟨r, F, R, k.bnd.imp fun x H1 F1 R1 m1 k1 v hv => ⟨r, F1, R1, k1.bnd.imp fun y H2 F2 R2 m2 k2 u hu => ?_⟩⟩
  refine os r s H2 F2 v u x y _ R2 (hv.more m2) hu (k2.bnd.imp fun z H3 F3 R3 m3 k3 t ht => ?_)
  split at k3
  · cases ht
    refine ⟨true, rfl, ?_⟩
    rw [if_pos rfl]
    exact ⟨r, F3, R3, k3.bnd.imp fun w H4 F4 R4 m4 k4 p hp => os' r s H4 F4 u p y w Q R4 (hu.more (m3.trans m4)) hp k4⟩
  · cases ht
    refine ⟨false, rfl, ?_⟩
    rw [if_neg (by decide)]
    exact k3.now R3 _ (.bl false)
  · exact k3.elim
theorem dt_chain {d : Expr} {op op' : CmpOp} {rr rr' : R2} {o o' : PyData → PyData → M PyData} {h : Ef} (ho : OpR X (compareOp op) rr) (ho' : OpR X (compareOp op') rr') (os : OpS c rr o) (os' : OpS c rr' o') (ha : PE X a (teB c f)) (hb : PE X b (teB c g)) (hd : PE X d (teB c h))
    (hm : lastMarks [op, op'] [b, d] = false := by with_unfolding_all rfl) : PT X (.Compare a [op, op'] [b, d] pos) (ttD c (tValF (e3 o o' f g h))) :=
  PT.weak (pt_chain ho ho' ha hb hd hm) fun s H Q q => te_chain os os' s H _ (tt_of q)
/-- a value's truth -/
def tru : PyData → M Bool
  | .none => ok false
  | .bool b => ok b
  | .int i => ok (i != 0)
  | .str y => if y.length ≤ lim then ok ((y.length : Int) != 0) else none
  | .list xs => ok (!xs.isEmpty)
  | .tuple xs => ok (!xs.isEmpty)
  | .dict _ => none
def tTruF (f : Ef) : Tf := fun r => bnd (f r) tru
theorem dpAll_empty {K : PySem.W.Frag} {ax : XN → Addr} {H : Hp} {vs : List V} {ds : List PyData} (h : DqAll K ax H vs ds) : vs.isEmpty = ds.isEmpty := by cases h <;> rfl
theorem dt_val (ha : PE X a (teB c f)) (hK : X.K = c.K := by rfl) (he : ∀ whole, isTrue a X.env whole = (do let v ← whole; standAt a.pos; holding [v] (truthy v)) := by intro _; rfl) : PT X a (ttD c (tTruF f)) := by
  refine PT.weak (pt_truth ha he) fun s H Q ⟨r, F, R, k⟩ => ⟨r, F, R, k.bnd.imp fun x H1 F1 R1 m1 k1 v hv => ?_⟩
  rw [hK]
  unfold tru at k1
  split at k1
  · rw [hv.none]; exact ⟨false, rfl, k1.now R1⟩
  · rw [hv.bool]; exact ⟨_, rfl, k1.now R1⟩
  · rw [hv.int]; exact ⟨_, rfl, k1.now R1⟩
  · split at k1
    · rename_i z
      rw [hv.str]; exact ⟨_, ⟨lim_line z, rfl⟩, k1.now R1⟩
    · exact k1.elim
  · obtain ⟨p, vs, rfl, hs, hd⟩ := hv.list R1.fr.sub
    exact ⟨_, .inl ⟨vs, hs, rfl⟩, by rw [dpAll_empty hd]; exact k1.now R1⟩
  · obtain ⟨p, vs, rfl, hs, hd⟩ := hv.tup R1.fr.sub
    exact ⟨_, .inr (.inl ⟨vs, hs, rfl⟩), by rw [dpAll_empty hd]; exact k1.now R1⟩
  · exact k1.elim
def tNotF (f : Tf) : Tf := fun r => bnd (f r) fun k => ok (!k)
def tAndF (f g : Tf) : Tf := fun r => bnd (f r) fun k => if k = true then g r else ok false
def tOrF (f g : Tf) : Tf := fun r => bnd (f r) fun k => if k = true then ok true else g r
variable {tf tg : Tf}
theorem dt_not (ha : PT X a (ttD c tf)) : PT X (.UnaryOp .Not a pos) (ttD c (tNotF tf)) :=
  PT.weak (pt_not ha) fun s H Q ⟨r, F, R, k⟩ => ⟨r, F, R, k.bnd.imp fun x H1 F1 R1 m1 k1 => k1.now R1⟩
theorem dw_and1 (ha : PT X a (ttD c tf)) : PW X (.BoolOp .And [a] pos) (ttD c tf) := pw_and1 ha
theorem dw_or1 (ha : PT X a (ttD c tf)) : PW X (.BoolOp .Or [a] pos) (ttD c tf) := pw_or1 ha
theorem dw_and {rest : List Expr} (ha : PT X a (ttD c tf)) (hb : PW X (.BoolOp .And (b :: rest) pos) (ttD c tg)) : PW X (.BoolOp .And (a :: b :: rest) pos) (ttD c (tAndF tf tg)) := by
  refine PW.weak (pw_and ha hb) fun s H Q ⟨r, F, R, k⟩ => ⟨r, F, R, k.bnd.imp fun x H1 F1 R1 m1 k1 => ?_⟩
  split at k1
  · rename_i z
    rw [if_pos z]; exact ⟨r, F1, R1, k1⟩
  · rename_i z
    rw [if_neg z]; exact k1.now R1
theorem dw_or {rest : List Expr} (ha : PT X a (ttD c tf)) (hb : PW X (.BoolOp .Or (b :: rest) pos) (ttD c tg)) : PW X (.BoolOp .Or (a :: b :: rest) pos) (ttD c (tOrF tf tg)) := by
  refine PW.weak (pw_or ha hb) fun s H Q ⟨r, F, R, k⟩ => ⟨r, F, R, k.bnd.imp fun x H1 F1 R1 m1 k1 => ?_⟩
  split at k1
  · rename_i z
    rw [if_pos z]; exact k1.now R1
  · rename_i z
    rw [if_neg z]; exact ⟨r, F1, R1, k1⟩
/-- a if t else b -/
def eIf (t : Tf) (f g : Ef) : Ef := fun r => bnd (t r) fun k => if k = true then f r else g r
theorem de_if {d : Expr} (hc : PT X d (ttD c tf)) (ha : PE X a (teD c f)) (hb : PE X b (teD c g)) : PE X (.IfExp d a b pos) (teD c (eIf tf f g)) := by
  refine PE.weak (pe_ifExp hc ha hb) fun s H Q ⟨r, F, R, k⟩ => ⟨r, F, R, k.bnd.imp fun x H1 F1 R1 m1 k1 => ?_⟩
  split at k1
  · rename_i z
    rw [if_pos z]; exact ⟨r, F1, R1, k1⟩
  · rename_i z
    rw [if_neg z]; exact ⟨r, F1, R1, k1⟩

/-! ### argument lists, displays -/
abbrev Af := Rho → M (List PyData)
def aNil : Af := fun _ => ok []
def aCons (f : Ef) (g : Af) : Af := fun r => bnd (f r) fun x => bnd (g r) fun xs => ok (x :: xs)
inductive BpAll (K : PySem.W.Frag) (ax : XN → Addr) (H F : Hp) : List V → List PyData → Prop
  | nil : BpAll K ax H F [] []
  | cons {v : V} {vs : List V} {d : PyData} {ds : List PyData} : Bp K ax H F v d → BpAll K ax H F vs ds → BpAll K ax H F (v :: vs) (d :: ds)
def taB (c : Cc) (f : Af) : TA := fun s H Q => ∃ r F, Rel c r s H F ∧ Ans c r s H F (f r) (fun ds H' F' => ∀ vs, BpAll c.K c.ax H' F' vs ds → Q vs H')
variable {af : Af} {es : List Expr}
theorem da_nil : PA X [] (taD c aNil) := PA.weak pa_nil fun s H Q ⟨r, F, R, k⟩ => k.now R [] .nil
theorem da_cons (ha : PE X e (teD c f)) (hr : PA X es (taD c af)) (hs : starEach (e :: es) X.env = (false, eval e X.env) :: starEach es X.env := by rfl) : PA X (e :: es) (taD c (aCons f af)) :=
  PA.weak (pa_cons ha hr hs) fun s H Q ⟨r, F, R, k⟩ => ⟨r, F, R, k.bnd.imp fun x H1 F1 R1 m1 k1 v hv => ⟨r, F1, R1, k1.bnd.imp fun xs H2 F2 R2 m2 k2 vs hvs => k2.now R2 _ (.cons (dp_same m2.f hv) hvs)⟩⟩
theorem db_nil : PA X [] (taB c aNil) := PA.weak pa_nil fun s H Q ⟨r, F, R, k⟩ => k.now R [] .nil
theorem db_cons (ha : PE X e (teB c f)) (hr : PA X es (taB c af)) (hs : starEach (e :: es) X.env = (false, eval e X.env) :: starEach es X.env := by rfl) : PA X (e :: es) (taB c (aCons f af)) :=
  PA.weak (pa_cons ha hr hs) fun s H Q ⟨r, F, R, k⟩ => ⟨r, F, R, k.bnd.imp fun x H1 F1 R1 m1 k1 v hv => ⟨r, F1, R1, k1.bnd.imp fun xs H2 F2 R2 m2 k2 vs hvs => k2.now R2 _ (.cons (hv.more m2) hvs)⟩⟩
def eTup (g : Af) : Ef := fun r => bnd (g r) fun xs => if xs.length ≤ lim then ok (.tuple xs) else none
def eLst (g : Af) : Ef := fun r => bnd (g r) fun xs => if xs.length ≤ lim then ok (.list xs) else none
def nLst (g : Af) : Af := fun r => bnd (g r) fun xs => if xs.length ≤ lim then ok xs else none
theorem de_tup {k : Nat} (h : PA X es (taD c af)) : PE X (.Tuple es k pos) (teD c (eTup af)) := by
  refine PE.weak (pe_tupZ h) fun s H Q ⟨r, F, R, k⟩ => ⟨r, F, R, k.bnd.imp fun xs H1 F1 R1 m1 k1 vs hv => ?_⟩
  split at k1
  · rename_i z
    refine ⟨lim_line (by rw [dpAll_len hv]; exact z), fun p ob np od => ?_⟩
    have := lay_t R1 k1 np od hv
    exact this.1 _ this.2
  · exact k1.elim
theorem de_lst (h : PA X es (taD c af)) : PE X (.List es pos) (teD c (eLst af)) := by
  refine PE.weak (pe_lst h) fun s H Q ⟨r, F, R, k⟩ => ⟨r, F, R, k.bnd.imp fun xs H1 F1 R1 m1 k1 vs hv => ?_⟩
  split at k1
  · rename_i z
    refine ⟨lim_line (by rw [dpAll_len hv]; exact z), fun p np => ?_⟩
    have := lay_l R1 k1 np hv
    exact this.1 _ this.2
  · exact k1.elim

/-! ### places and slices -/
def oIx : PyData → PyData → M PyData
  | .list xs, .int i => match atI xs i with | some d => ok d | none => none
  | .tuple xs, .int i => match atI xs i with | some d => ok d | none => none
  | .str z, .int i => if z.length ≤ lim then (match atI z.cps.toList i with | some k => ok (.str ⟨#[k]⟩) | none => none) else none
  | _, _ => none
theorem dp_atI {K : PySem.W.Frag} {ax : XN → Addr} {H : Hp} {vs : List V} {ds : List PyData} (h : DqAll K ax H vs ds) {i : Int} {d : PyData} (e : atI ds i = some d) : ∃ v, atI vs i = some v ∧ Dq K ax H v d := by
  unfold atI at e ⊢
  rw [dpAll_len h]
  cases q : ixN ds.length i with
  | none => rw [q] at e; cases e
  | some j => rw [q] at e; exact dpAll_at h e
theorem os_ix : OpS c (rIx c.K) oIx := by
  intro r s H F x y a b Q R hx hy h
  unfold oIx at h
  split at h
  · split at h
    · rename_i e
      obtain ⟨p, vs, rfl, hs, hd⟩ := hx.list R.fr.sub
      obtain ⟨v, e1, h1⟩ := dp_atI hd e
      exact .inl ⟨p, vs, _, v, rfl, hy.int, hs, e1, h.now R v h1⟩
    · exact h.elim
  · split at h
    · rename_i e
      obtain ⟨p, vs, rfl, hs, hd⟩ := hx.tup R.fr.sub
      obtain ⟨v, e1, h1⟩ := dp_atI hd e
      exact .inr (.inl ⟨p, vs, _, v, rfl, hy.int, hs, e1, h.now R v h1⟩)
    · exact h.elim
  · split at h
    · rename_i z
      split at h
      · rename_i e
        exact .inr (.inr ⟨_, _, _, hx.str, hy.int, lim_line z, e, h.now R _ (.str _)⟩)
      · exact h.elim
    · exact h.elim
  · exact h.elim
theorem de_ix (ha : PE X a (teB c f)) (hb : PE X b (teB c g)) (hK : X.K = c.K := by rfl) (hs : PlainIx b := by exact fun _ _ => rfl) : PE X (.Subscript a b pos) (teD c (e2 oIx f g)) :=
  PE.weak (pe_ix (r := rIx c.K) (by rw [← hK]; exact ix_seq) ha hb hs) fun _ _ _ => te_op os_ix
abbrev Of := Rho → M (Option Int)
def pNo : Of := fun _ => ok none
def pSome (f : Ef) : Of := fun r => bnd (f r) fun x => match x with
  | .int i => ok (some i)
  | _ => none
def toD (c : Cc) (f : Of) : TO := fun s H Q => ∃ r F, Rel c r s H F ∧ Ans c r s H F (f r) (fun o H' _ => Q o H')
theorem PO.weak {X : Cx} {e : Option Expr} {t t' : TO} (h : PO X e t) (k : ∀ s H Q, t' s H Q → t s H Q) : PO X e t' := ⟨fun pins s σ H Q I z => h.run pins s σ H Q I (k σ H Q z)⟩
theorem dp_no : PO X none (toD c pNo) := PO.weak po_none fun s H Q ⟨r, F, R, k⟩ => k.now R
theorem dp_some (h : PE X e (teB c f)) : PO X (some e) (toD c (pSome f)) := by
  refine PO.weak (po_some h) fun s H Q ⟨r, F, R, k⟩ => ⟨r, F, R, k.bnd.imp fun x H1 F1 R1 m1 k1 v hv => ?_⟩
  split at k1
  · exact ⟨_, hv.int, k1.now R1⟩
  · exact k1.elim
def cutG {α : Type} (xs : List α) (lo hi : Option Int) : List α := (xs.drop (HT.sIx xs.length 0 lo)).take (HT.sIx xs.length xs.length hi - HT.sIx xs.length 0 lo)
theorem dpAll_cut {K : PySem.W.Frag} {ax : XN → Addr} {H : Hp} {vs : List V} {ds : List PyData} (h : DqAll K ax H vs ds) (lo hi : Option Int) : DqAll K ax H (cutV vs lo hi) (cutG ds lo hi) := by
  unfold cutV cutG
  rw [dpAll_len h]
  exact dpAll_take _ (dpAll_drop _ h)
def oSl : PyData → Option Int → Option Int → M PyData
  | .list xs, lo, hi => ok (.list (cutG xs lo hi))
  | .tuple xs, lo, hi => ok (.tuple (cutG xs lo hi))
  | .str z, lo, hi => if z.length ≤ lim then ok (.str (cutS z lo hi)) else none
  | _, _, _ => none
def eSl (f : Ef) (lo hi : Of) : Ef := fun r => bnd (f r) fun x => bnd (lo r) fun l => bnd (hi r) fun h => oSl x l h
def rSlS' (K : PySem.W.Frag) : V → Option Int → Option Int → Hp → VK → Prop := fun x lo hi H Q => rSlL K x lo hi H Q ∨ (rSlZ K x lo hi H Q ∨ rSlS x lo hi H Q)
theorem sl_all : SlR X (rSlS' X.K) := sl_list.or (sl_tupZ.or sl_str)
theorem cutG_whole {α : Type} (xs : List α) {lo hi : Option Int} (h : HT.sIx xs.length 0 lo = 0 ∧ HT.sIx xs.length xs.length hi = xs.length) : cutG xs lo hi = xs := by
  unfold cutG
  rw [h.1, h.2]
  simp
theorem de_sl {lo hi : Option Expr} {lf hf : Of} {p2 : Pos} (he : PE X e (teB c f)) (hl : PO X lo (toD c lf)) (hu : PO X hi (toD c hf)) (hK : X.K = c.K := by rfl) : PE X (.Subscript e (.Slice lo hi none p2) pos) (teD c (eSl f lf hf)) := by
  refine PE.weak (pe_slice (r := rSlS' c.K) (by rw [← hK]; exact sl_all) he hl hu) fun s H Q ⟨r, F, R, k⟩ => ?_
  refine ⟨r, F, R, k.bnd.imp fun x H1 F1 R1 m1 k1 v hv => ⟨r, F1, R1, k1.bnd.imp fun l H2 F2 R2 m2 k2 => ⟨r, F2, R2, k2.bnd.imp fun u H3 F3 R3 m3 k3 => ?_⟩⟩⟩
  have hv3 := hv.more (m2.trans m3)
  unfold oSl at k3
  split at k3
  · obtain ⟨p, vs, rfl, hs, hd⟩ := hv3.list R3.fr.sub
    refine .inl ⟨p, vs, rfl, hs, fun q nq => ?_⟩
    have := lay_l R3 k3 nq (dpAll_cut hd _ _)
    exact this.1 _ this.2
  · rename_i xs
    obtain ⟨p, vs, rfl, hs, hd⟩ := hv3.tup R3.fr.sub
    have el := dpAll_len hd
    refine .inr (.inl ⟨p, vs, rfl, hs, fun z => ?_, fun z q ob nq od => ?_⟩)
    · rw [el] at z
      rcases hv3 with hv3 | ⟨_, _, _, _, ey, _⟩
      · exact k3.now R3 _ (by rw [cutG_whole xs z]; exact hv3)
      · cases ey
    · have := lay_t R3 k3 nq od (dpAll_cut hd _ _)
      exact this.1 _ this.2
  · split at k3
    · rename_i z
      rw [hv3.str]
      exact .inr (.inr ⟨_, rfl, lim_line z, k3.now R3 _ (.str _)⟩)
    · exact k3.elim
  · exact k3.elim

/-! ### built-ins by their names -/
def CallS (c : Cc) (rr : List V → Hp → VK → Prop) (o : List PyData → M PyData) : Prop := ∀ (r : Rho) (s : L2.St) (H F : Hp) (vs : List V) (ds : List PyData) (Q : VK), Rel c r s H F → BpAll c.K c.ax H F vs ds →
  Ans c r s H F (o ds) (fun d H' F' => ∀ v, Dq c.K c.ax F' v d → Q v H') → rr vs H Q
def eCall (o : List PyData → M PyData) (g : Af) : Ef := fun r => bnd (g r) o
theorem te_callB {rr : List V → Hp → VK → Prop} {o : List PyData → M PyData} (os : CallS c rr o) {s : L2.St} {H : Hp} {Q : VK} : teD c (eCall o af) s H Q → tCB rr (taB c af) s H Q := fun ⟨r, F, R, h⟩ =>
  ⟨r, F, R, h.bnd.imp fun x H1 F1 R1 m1 h1 vs hv => os r s H1 F1 vs x Q R1 hv h1⟩
theorem de_callB {rr : List V → Hp → VK → Prop} {o : List PyData → M PyData} {id : String} {x : Str} {p : Pos} (hc : CallR X (.builtin id) rr) (os : CallS c rr o) (hg : Gl X x) (hm : X.mg x = none) (hv : bootBuiltins x = some (.builtin id)) (ha : PA X (e :: es) (taB c af)) (hn : x ≠ "__name__" := by decide) (hdb : (x == ("__debug__" : Str)) = false := by decide)
    (he : starEach (e :: es) X.env = (false, eval e X.env) :: starEach es X.env := by rfl) (hpl : (backTo pos (starEach es X.env)).any (·.1) = false := by rfl) : PE X (.Call (.Name x p) (e :: es) [] pos) (teD c (eCall o af)) :=
  PE.weak (pe_callB hc hg hm hv ha hn hdb he hpl) fun _ _ _ => te_callB os
theorem de_callT {rr : List V → Hp → VK → Prop} {o : List PyData → M PyData} {T : String} {x : Str} {p : Pos} (hc : CallR X (.type T) rr) (os : CallS c rr o) (hg : Gl X x) (hm : X.mg x = none) (hv : bootBuiltins x = some (.type T)) (ha : PA X (e :: es) (taB c af)) (hn : x ≠ "__name__" := by decide) (hdb : (x == ("__debug__" : Str)) = false := by decide)
    (he : starEach (e :: es) X.env = (false, eval e X.env) :: starEach es X.env := by rfl) (hpl : (backTo pos (starEach es X.env)).any (·.1) = false := by rfl) : PE X (.Call (.Name x p) (e :: es) [] pos) (teD c (eCall o af)) :=
  PE.weak (pe_callTy hc hg hm hv ha hn hdb he hpl) fun _ _ _ => te_callB os
end
end DL

set_option Elab.async false
set_option linter.all false
set_option maxRecDepth 100000
/-! The data layer, 4: statements, targets, loops. -/
noncomputable section
namespace DL
open PySem L2

inductive SR where
  | nx (r : Rho)
  | rt (d : PyData)
  | bk (r : Rho)
  | ct (r : Rho)
  | er (e : XN) (r : Rho)
abbrev Sf := Rho → Option SR
/-- a statement's answer: what is frozen stays so -/
def Sans (c : Cc) (F : Hp) (m : Option SR) (D : Ends) : Prop := match m with
  | none => False
  | some (.nx r') => ∀ s' H' F', Rel c r' s' H' F' → Same F F' → D.nx s' H'
  | some (.bk r') => ∀ s' H' F', Rel c r' s' H' F' → Same F F' → D.bk s' H'
  | some (.ct r') => ∀ s' H' F', Rel c r' s' H' F' → Same F F' → D.ct s' H'
  | some (.rt d) => ∀ v H' F', Fr c H' F' → Same F F' → Dq c.K c.ax F' v d → D.rt v H'
  | some (.er e r') => ∀ s' H' F', Rel c r' s' H' F' → Same F F' → c.W (.ref (c.ax e)) none s' H'
def tsD (c : Cc) (g : Sf) : TS := fun D s H => ∃ r F, Rel c r s H F ∧ Sans c F (g r) D
section
variable {c : Cc} {F F' : Hp} {m : Option SR} {D D' : Ends} {r : Rho} {s : L2.St} {H : Hp}
theorem Sans.mono (h : Sans c F m D) (e : Same F F') : Sans c F' m D := by
  unfold Sans at h ⊢
  split at h
  · exact h
  · exact fun s' H' F' R q => h s' H' F' R (e.trans q)
  · exact fun s' H' F' R q => h s' H' F' R (e.trans q)
  · exact fun s' H' F' R q => h s' H' F' R (e.trans q)
  · exact fun v H' F' R q => h v H' F' R (e.trans q)
  · exact fun s' H' F' R q => h s' H' F' R (e.trans q)
theorem Sans.at (h : Sans c F (some (.nx r)) D) (R : Rel c r s H F) : D.nx s H := h s H F R (Same.refl _)

theorem set_get {a : Type} {l : List a} {i j : Nat} {x y : a} (h : (l.set i x)[j]? = some y) : (j = i ∧ y = x) ∨ (j ≠ i ∧ l[j]? = some y) := by
  by_cases e : j = i
  · subst e
    by_cases z : j < l.length
    · rw [List.getElem?_set_self z] at h; cases h; exact .inl ⟨rfl, rfl⟩
    · rw [List.getElem?_eq_none (by simpa using z)] at h; cases h
  · rw [List.getElem?_set_ne (Ne.symm e)] at h; exact .inr ⟨e, h⟩
theorem Rel.set {i : Nat} {v : V} {d : PyData} (R : Rel c r s H F) (hi : i < r.length) (hv : Dq c.K c.ax F v d) : Rel c (r.set i (some (.d d))) (s.set i (some v)) H F := by
  refine ⟨R.fr, by rw [List.length_set, List.length_set]; exact R.len, fun j b e => ?_, fun j k xs ys p e1 e2 e3 e4 => ?_⟩
  · rcases set_get e with ⟨rfl, eb⟩ | ⟨ne, e'⟩
    · cases eb
      exact ⟨v, List.getElem?_set_self (by rw [R.len]; exact hi), hv⟩
    · obtain ⟨w, q1, q2⟩ := R.cell j b e'
      exact ⟨w, by rw [List.getElem?_set_ne (Ne.symm ne)]; exact q1, q2⟩
  · rcases set_get e1 with ⟨_, eb⟩ | ⟨n1, e1'⟩
    · cases eb
    · rcases set_get e2 with ⟨_, eb⟩ | ⟨n2, e2'⟩
      · cases eb
      · rw [List.getElem?_set_ne (Ne.symm n1)] at e3
        rw [List.getElem?_set_ne (Ne.symm n2)] at e4
        exact R.apart j k xs ys p e1' e2' e3 e4
/-- a slot takes a list of the def's own, which no slot has -/
theorem Rel.setO {i : Nat} {p : Addr} {vs : List V} {ds : List PyData} (R : Rel c r s H F) (hi : i < r.length) (h1 : H p = some (.lst vs)) (h2 : F p = none) (h3 : c.H0 p = none) (h4 : DqAll c.K c.ax F vs ds)
    (h5 : ∀ (j : Nat) (xs : List PyData), r[j]? = some (some (.own xs)) → s[j]? ≠ some (some (V.ref p))) : Rel c (r.set i (some (.own ds))) (s.set i (some (.ref p))) H F := by
  refine ⟨R.fr, by rw [List.length_set, List.length_set]; exact R.len, fun j b e => ?_, fun j k xs ys q e1 e2 e3 e4 => ?_⟩
  · rcases set_get e with ⟨rfl, eb⟩ | ⟨ne, e'⟩
    · cases eb
      exact ⟨_, List.getElem?_set_self (by rw [R.len]; exact hi), vs, h1, h2, h3, h4⟩
    · obtain ⟨w, q1, q2⟩ := R.cell j b e'
      exact ⟨w, by rw [List.getElem?_set_ne (Ne.symm ne)]; exact q1, q2⟩
  · rcases set_get e1 with ⟨z1, _⟩ | ⟨n1, e1'⟩
    · rcases set_get e2 with ⟨z2, _⟩ | ⟨n2, e2'⟩
      · rw [z1, z2]
      · subst z1
        rw [List.getElem?_set_self (by rw [R.len]; exact hi)] at e3
        rw [List.getElem?_set_ne (Ne.symm n2)] at e4
        cases e3
        exact absurd e4 (h5 k ys e2')
    · rcases set_get e2 with ⟨z2, _⟩ | ⟨n2, e2'⟩
      · subst z2
        rw [List.getElem?_set_self (by rw [R.len]; exact hi)] at e4
        rw [List.getElem?_set_ne (Ne.symm n1)] at e3
        cases e4
        exact absurd e3 (h5 j xs e1')
      · rw [List.getElem?_set_ne (Ne.symm n1)] at e3
        rw [List.getElem?_set_ne (Ne.symm n2)] at e4
        exact R.apart j k xs ys q e1' e2' e3 e4
theorem Fr.write {p : Addr} {o : HO} (R : Fr c H F) (h2 : F p = none) (h3 : c.H0 p = none) : Fr c (upd H p o) F := by
  refine ⟨fun b x e => ?_, R.old, fun b x e n => ?_⟩
  · rw [upd_ne (ne_of_none e h2)]; exact R.sub b x e
  · rw [upd_ne (ne_of_none e h3)]; exact R.kept b x e n
/-- the list of a slot is changed in place -/
theorem Rel.write {i : Nat} {p : Addr} {vs : List V} {xs ds : List PyData} (R : Rel c r s H F) (e : r[i]? = some (some (.own xs))) (es : s[i]? = some (some (V.ref p))) (h2 : F p = none) (h3 : c.H0 p = none) (h4 : DqAll c.K c.ax F vs ds) :
    Rel c (r.set i (some (.own ds))) s (upd H p (.lst vs)) F := by
  have hi : i < r.length := (List.getElem?_eq_some_iff.mp e).1
  refine ⟨R.fr.write h2 h3, by rw [List.length_set]; exact R.len, fun j b q => ?_, fun j k ys zs q e1 e2 e3 e4 => ?_⟩
  · rcases set_get q with ⟨rfl, eb⟩ | ⟨ne, e'⟩
    · cases eb
      exact ⟨_, es, vs, upd_same, h2, h3, h4⟩
    · cases b with
      | d x => obtain ⟨w, q1, q2⟩ := R.data e'; exact ⟨w, q1, q2⟩
      | own ys =>
        obtain ⟨p', vs', q1, q2, q3, q4, q5⟩ := R.mine e'
        refine ⟨_, q1, vs', ?_, q3, q4, q5⟩
        rw [upd_ne ?_]; exact q2
        rintro rfl
        exact ne (R.apart j i ys xs _ e' e q1 es)
      | dct ys =>
        obtain ⟨p', ws, q1, q2, q3, q4, q5, q6⟩ := R.mineM e'
        obtain ⟨p2, vs2, t1, t2, _⟩ := R.mine e
        refine ⟨_, q1, ws, ?_, q3, q4, q5, q6⟩
        rw [upd_ne ?_]; exact q2
        rintro rfl
        rw [es] at t1
        cases t1
        rw [q2] at t2; cases t2
      | dic ys =>
        obtain ⟨p', ws, q1, q2, q3, q4, q5⟩ := R.mineK e'
        obtain ⟨p2, vs2, t1, t2, _⟩ := R.mine e
        refine ⟨_, q1, ws, ?_, q3, q4, q5⟩
        rw [upd_ne ?_]; exact q2
        rintro rfl
        rw [es] at t1
        cases t1
        rw [q2] at t2; cases t2
      | dif ys =>
        obtain ⟨p', ws, o', q1, q2, q3⟩ := R.mineF e'
        exact ⟨_, q1, ws, o', q2, q3⟩
      | obj fs =>
        obtain ⟨p', C, dx, fV, q1, q2, q3, q4, q5, q6, q7⟩ := R.mineO e'
        obtain ⟨p2, vs2, t1, t2, _⟩ := R.mine e
        refine ⟨_, q1, C, dx, fV, q2, ?_, q4, q5, q6, q7⟩
        rw [upd_ne ?_]; exact q3
        rintro rfl
        rw [es] at t1
        cases t1
        rw [q3] at t2; cases t2
      | obf fs =>
        obtain ⟨p', C, dx, fV, q1, q2, q3, q4, q5⟩ := R.mineP e'
        exact ⟨_, q1, C, dx, fV, q2, q3, q4, q5⟩
  · have pick : ∀ {l : Nat} {ws : List PyData}, (r.set i (some (.own ds)))[l]? = some (some (.own ws)) → ∃ ws', r[l]? = some (some (.own ws')) := fun {l ws} h => by
      rcases set_get h with ⟨rfl, _⟩ | ⟨_, h'⟩
      · exact ⟨xs, e⟩
      · exact ⟨ws, h'⟩
    obtain ⟨y1, f1⟩ := pick e1
    obtain ⟨y2, f2⟩ := pick e2
    exact R.apart j k y1 y2 q f1 f2 e3 e4
/-- the list of a slot is frozen -/
theorem Rel.freeze {i : Nat} {xs : List PyData} (R : Rel c r s H F) (e : r[i]? = some (some (.own xs))) : ∃ F', Rel c (r.set i (some (.d (.list xs)))) s H F' ∧ Same F F' := by
  obtain ⟨p, vs, es, h1, h2, h3, h4⟩ := R.mine e
  have sm : Same F (upd F p (.lst vs)) := same_upd' h2
  refine ⟨upd F p (.lst vs), ⟨⟨fun b x q => ?_, R.fr.old.trans sm, fun b x q n => ?_⟩, by rw [List.length_set]; exact R.len, fun j b q => ?_, fun j k ys zs q e1 e2 e3 e4 => ?_⟩, sm⟩
  · by_cases hb : b = p
    · subst hb; rw [upd_same] at q; cases q; exact h1
    · rw [upd_ne hb] at q; exact R.fr.sub b x q
  · rw [upd_ne (ne_of_none q h3)]; exact R.fr.kept b x q n
  · rcases set_get q with ⟨rfl, eb⟩ | ⟨ne, e'⟩
    · cases eb
      exact ⟨_, es, .lst (SqL.of upd_same) (dpAll_same sm h4)⟩
    · cases b with
      | d x => obtain ⟨w, q1, q2⟩ := R.data e'; exact ⟨w, q1, dp_same sm q2⟩
      | own ys =>
        obtain ⟨p', vs', q1, q2, q3, q4, q5⟩ := R.mine e'
        refine ⟨_, q1, vs', q2, ?_, q4, dpAll_same sm q5⟩
        rw [upd_ne ?_]; exact q3
        rintro rfl
        exact ne (R.apart j i ys xs _ e' e q1 es)
      | dct ys =>
        obtain ⟨p', ws, q1, q2, q3, q4, q5, q6⟩ := R.mineM e'
        refine ⟨_, q1, ws, q2, ?_, q4, q5, dpAll_same sm q6⟩
        rw [upd_ne ?_]; exact q3
        rintro rfl
        rw [q2] at h1; cases h1
      | dic ys =>
        obtain ⟨p', ws, q1, q2, q3, q4, q5⟩ := R.mineK e'
        refine ⟨_, q1, ws, q2, ?_, q4, q5.same sm⟩
        rw [upd_ne ?_]; exact q3
        rintro rfl
        rw [q2] at h1; cases h1
      | dif ys =>
        obtain ⟨p', ws, o', q1, q2, q3⟩ := R.mineF e'
        exact ⟨_, q1, ws, o', sm _ _ q2, q3.same sm⟩
      | obj fs =>
        obtain ⟨p', C, dx, fV, q1, q2, q3, q4, q5, q6, q7⟩ := R.mineO e'
        refine ⟨_, q1, C, dx, fV, q2, q3, sm _ _ q4, ?_, q6, q7.same sm⟩
        rw [upd_ne ?_]; exact q5
        rintro rfl
        rw [q3] at h1; cases h1
      | obf fs =>
        obtain ⟨p', C, dx, fV, q1, q2, q3, q4, q5⟩ := R.mineP e'
        exact ⟨_, q1, C, dx, fV, q2, sm _ _ q3, sm _ _ q4, q5.same sm⟩
  · rcases set_get e1 with ⟨_, eb⟩ | ⟨n1, e1'⟩
    · cases eb
    · rcases set_get e2 with ⟨_, eb⟩ | ⟨n2, e2'⟩
      · cases eb
      · exact R.apart j k ys zs q e1' e2' e3 e4
/-- a slot is forgotten -/
theorem Rel.forget {i : Nat} (R : Rel c r s H F) : Rel c (r.set i none) s H F := by
  refine ⟨R.fr, by rw [List.length_set]; exact R.len, fun j b q => ?_, fun j k ys zs q e1 e2 e3 e4 => ?_⟩
  · rcases set_get q with ⟨_, eb⟩ | ⟨ne, e'⟩
    · cases eb
    · exact R.cell j b e'
  · rcases set_get e1 with ⟨_, eb⟩ | ⟨n1, e1'⟩
    · cases eb
    · rcases set_get e2 with ⟨_, eb⟩ | ⟨n2, e2'⟩
      · cases eb
      · exact R.apart j k ys zs q e1' e2' e3 e4
end

theorem PG.weak {X : Cx} {e : Expr} {t t' : TG} (h : PG X e t) (k : ∀ v s H Q, t' v s H Q → t v s H Q) : PG X e t' := ⟨fun pins s σ H v u Q I r z => h.run pins s σ H v u Q I r (k v σ H Q z)⟩
theorem PGs.weak {X : Cx} {e : List Expr} {t t' : TGs} (h : PGs X e t) (k : ∀ v s H Q, t' v s H Q → t v s H Q) : PGs X e t' := ⟨fun pins s σ H v u Q I r z => h.run pins s σ H v u Q I r (k v σ H Q z)⟩

section
variable {X : Cx} {c : Cc} {e a b : Expr} {f g : Ef} {pos : Pos} {st : Stmt} {rest body els : List Stmt} {sf sg : Sf}

/-! ### blocks -/
def sSkip : Sf := fun r => some (.nx r)
def sSeq (g h : Sf) : Sf := fun r => match g r with
  | some (.nx r') => h r'
  | x => x
theorem dss_nil : PSs X [] (tsD c sSkip) := PSs.weak pss_nil fun D s H ⟨r, F, R, h⟩ => h.at R
theorem dss_cons (h1 : PS X st (tsD c sf)) (h2 : PSs X rest (tsD c sg)) : PSs X (st :: rest) (tsD c (sSeq sf sg)) := by
  refine PSs.weak (pss_cons h1 h2) fun D s H ⟨r, F, R, h⟩ => ⟨r, F, R, ?_⟩
  unfold sSeq at h
  split at h
  · rename_i r' e
    rw [e]
    exact fun s' H' F' R' sm => ⟨r', F', R', h.mono sm⟩
  · rename_i ne
    cases q : sf r with
    | none => rw [q] at h; exact h
    | some z =>
      rw [q] at h
      cases z with
      | nx r' => exact absurd q (ne r')
      | rt d => exact h
      | bk r' => exact h
      | ct r' => exact h
      | er x r' => exact h
theorem dss_one (h1 : PS X st (tsD c sf)) : PSs X [st] (tsD c sf) := pss_one h1
theorem ds_pass : PS X (.Pass pos) (tsD c sSkip) := PS.weak ps_pass fun D s H ⟨r, F, R, h⟩ => h.at R
theorem ds_break : PS X (.Break pos) (tsD c fun r => some (.bk r)) := PS.weak ps_break fun D s H ⟨r, F, R, h⟩ => h s H F R (Same.refl _)
theorem ds_cont : PS X (.Continue pos) (tsD c fun r => some (.ct r)) := PS.weak ps_continue fun D s H ⟨r, F, R, h⟩ => h s H F R (Same.refl _)

/-! ### from an expression to a statement -/
def ofE {α : Type} (m : M α) (r : Rho) (k : α → Option SR) : Option SR := match m with
  | none => none
  | some (.error e) => some (.er e r)
  | some (.ok x) => k x
@[simp] theorem ofE_ok {α : Type} (x : α) (r : Rho) (k : α → Option SR) : ofE (ok x) r k = k x := rfl
@[simp] theorem ofE_ok' {α : Type} (x : α) (r : Rho) (k : α → Option SR) : ofE (some (.ok x)) r k = k x := rfl
@[simp] theorem ofE_none {α : Type} (r : Rho) (k : α → Option SR) : ofE none r k = none := rfl
@[simp] theorem ofE_err {α : Type} (e : XN) (r : Rho) (k : α → Option SR) : ofE (some (.error e)) r k = some (.er e r) := rfl
theorem ans_of {α : Type} {r : Rho} {s : L2.St} {H F : Hp} {m : M α} {k : α → Option SR} {D : Ends} (h : Sans c F (ofE m r k) D) : Ans c r s H F m (fun x H1 F1 => Sans c F1 (k x) D) := by
  cases m with
  | none => exact h
  | some z =>
    cases z with
    | error e => exact fun H' F' R' m' => h s H' F' R' m'.f
    | ok x => exact fun H' F' R' m' => Sans.mono (show Sans c F (k x) D from h) m'.f
def sRet (f : Ef) : Sf := fun r => ofE (f r) r fun d => some (.rt d)
theorem ds_ret (h : PE X e (teD c f)) : PS X (.Return (some e) pos) (tsD c (sRet f)) :=
  PS.weak (ps_ret h) fun D s H ⟨r, F, R, h⟩ => ⟨r, F, R, (ans_of h).imp fun d H1 F1 R1 m1 k1 v hv => k1 v H1 F1 R1.fr (Same.refl _) hv⟩
def sRetN : Sf := fun r => some (.rt .none)
theorem ds_retN : PS X (.Return none pos) (tsD c sRetN) := PS.weak ps_retN fun D s H ⟨r, F, R, h⟩ => h .non H F R.fr (Same.refl _) .non
def sDrop (f : Ef) : Sf := fun r => ofE (f r) r fun _ => some (.nx r)
theorem ds_expr (h : PE X e (teD c f)) (hs : swapsWith e none pos.line X.env = pure false := by rfl) : PS X (.Expr e pos) (tsD c (sDrop f)) :=
  PS.weak (ps_expr h hs) fun D s H ⟨r, F, R, h⟩ => ⟨r, F, R, (ans_of h).imp fun d H1 F1 R1 m1 k1 v hv => k1.at R1⟩
def sIf (t : Tf) (g h : Sf) : Sf := fun r => ofE (t r) r fun k => if k = true then g r else h r
theorem ds_if {tf : Tf} (hc : PT X e (ttD c tf)) (ha : PSs X body (tsD c sf)) (hb : PSs X els (tsD c sg)) : PS X (.If e body els pos) (tsD c (sIf tf sf sg)) := by
  refine PS.weak (ps_if hc ha hb) fun D s H ⟨r, F, R, h⟩ => ⟨r, F, R, (ans_of h).imp fun k H1 F1 R1 m1 k1 => ?_⟩
  split at k1
  · rename_i z
    rw [if_pos z]; exact ⟨r, F1, R1, k1⟩
  · rename_i z
    rw [if_neg z]; exact ⟨r, F1, R1, k1⟩

/-! ### targets -/
abbrev Gf := PyData → Rho → Option Rho
abbrev Gsf := List PyData → Rho → Option Rho
/-- s' is s but for the slots ts -/
def But (ts : List Nat) (s s' : L2.St) : Prop := s'.length = s.length ∧ ∀ j, j ∉ ts → s'[j]? = s[j]?
theorem But.trans {ts us : List Nat} {s s1 s2 : L2.St} (a : But ts s s1) (b : But us s1 s2) : But (ts ++ us) s s2 := ⟨b.1.trans a.1, fun j h => by
  rw [List.mem_append, not_or] at h
  rw [b.2 j h.2, a.2 j h.1]⟩
def tgD (c : Cc) (ts : List Nat) (G : Gf) : TG := fun v s H Q => ∃ r F d, Rel c r s H F ∧ Dq c.K c.ax F v d ∧ ∃ r', G d r = some r' ∧ ∀ s', Rel c r' s' H F → But ts s s' → Q s' H
def tgsD (c : Cc) (ts : List Nat) (G : Gsf) : TGs := fun vs s H Q => ∃ r F ds, Rel c r s H F ∧ DqAll c.K c.ax F vs ds ∧ ∃ r', G ds r = some r' ∧ ∀ s', Rel c r' s' H F → But ts s s' → Q s' H
def gN (i : Nat) : Gf := fun d r => if i < r.length then some (r.set i (some (.d d))) else none
def gsNil : Gsf := fun ds r => match ds with
  | [] => some r
  | _ => none
def gsCons (G : Gf) (Gs : Gsf) : Gsf := fun ds r => match ds with
  | d :: rest => (G d r).bind (Gs rest)
  | _ => none
def gT (n : Nat) (Gs : Gsf) : Gf := fun d r => match d with
  | .tuple ds => if ds.length = n then Gs ds r else none
  | _ => none
theorem dg_n {i : Nat} (h : PG X e (gName i)) : PG X e (tgD c [i] (gN i)) := by
  refine PG.weak h fun v s H Q ⟨r, F, d, R, hv, r', e, q⟩ => ?_
  unfold gN at e
  split at e
  · rename_i z
    cases e
    exact q _ (R.set z hv) ⟨by rw [List.length_set], fun j hj => List.getElem?_set_ne (fun e => hj (by simp [e]))⟩
  · cases e
theorem dgs_nil : PGs X [] (tgsD c [] gsNil) := by
  refine PGs.weak pgs_nil fun vs s H Q ⟨r, F, ds, R, hv, r', e, q⟩ => ?_
  unfold gsNil at e
  split at e
  · cases e
    cases hv
    exact ⟨rfl, q _ R ⟨rfl, fun _ _ => rfl⟩⟩
  · cases e
theorem dgs_cons {es : List Expr} {ts us : List Nat} {G : Gf} {Gs : Gsf} (h1 : PG X e (tgD c ts G)) (h2 : PGs X es (tgsD c us Gs))
    (hs : (assignEach (e :: es) X.env).map (·.2) = assign e X.env :: (assignEach es X.env).map (·.2) := by rfl) : PGs X (e :: es) (tgsD c (ts ++ us) (gsCons G Gs)) := by
  refine PGs.weak (pgs_cons h1 h2 hs) fun vs s H Q ⟨r, F, ds, R, hv, r', e, q⟩ => ?_
  unfold gsCons at e
  split at e
  · rename_i d rest
    cases hv with
    | cons hv1 hv2 =>
      cases eG : G d r with
      | none => rw [eG] at e; cases e
      | some r1 =>
        rw [eG] at e
        exact ⟨_, _, rfl, r, F, d, R, hv1, r1, eG, fun s' R' b1 => ⟨r1, F, rest, R', hv2, r', e, fun s2 R2 b2 => q s2 R2 (b1.trans b2)⟩⟩
  · cases e
theorem dg_tup {es : List Expr} {ts : List Nat} {k n : Nat} {Gs : Gsf} (hc : X.calm = true) (h : PGs X es (tgsD c ts Gs)) (hK : X.K = c.K := by rfl)
    (hn : (assignEach es X.env).length = n := by rfl) (hst : (assignEach es X.env).findIdx? (·.1) = none := by rfl) : PG X (.Tuple es k pos) (tgD c ts (gT n Gs)) := by
  refine PG.weak (pg_tup hc h hn hst) fun v s H Q ⟨r, F, d, R, hv, r', e, q⟩ => ?_
  unfold gT at e
  split at e
  · split at e
    · rename_i z
      cases hv with
      | tup h1 h2 =>
        refine ⟨_, _, rfl, ?_, (dpAll_len h2).trans z, r, F, _, R, h2, r', e, q⟩
        rw [hK]; exact same_t R.fr.sub h1.t
    · cases e
  · cases e

/-! ### assignments -/
def sAsg (f : Ef) (G : Gf) : Sf := fun r => ofE (f r) r fun d => (G d r).map SR.nx
theorem ds_asg {tg : Expr} {ts : List Nat} {G : Gf} (he : PE X e (teD c f)) (hg : PG X tg (tgD c ts G)) (hs : swapsWithSole [tg] e pos.line X.env = pure false := by rfl) (hw : swappedStores [tg] e X.env = pure none := by rfl)
    (h1 : (assignEach [tg] X.env).map (·.2) = [assign tg X.env] := by rfl) : PS X (.Assign [tg] e pos) (tsD c (sAsg f G)) := by
  refine PS.weak (ps_asg he hg hs hw h1) fun D s H ⟨r, F, R, h⟩ => ⟨r, F, R, (ans_of h).imp fun d H1 F1 R1 m1 k1 v hv => ?_⟩
  cases eG : G d r with
  | none => rw [eG] at k1; exact k1.elim
  | some r1 =>
    rw [eG] at k1
    exact ⟨r, F1, d, R1, hv, r1, eG, fun s' R' _ => k1.at R'⟩
def sSet (i : Nat) (f : Ef) : Sf := sAsg f (gN i)
theorem ds_set {i : Nat} {x : Str} {px : Pos} (he : PE X e (teD c f)) (hN : X.N.Nodup) (hi : X.N[i]? = some x) (hx : Loc X.env.scope x) (hs : swapsWith e (some (.Name x px)) pos.line X.env = pure false := by rfl)
    (hf : X.fn x = true ∨ X.env.scope.names.lookup x = some .local := by first | exact .inl rfl | exact .inr rfl | assumption) : PS X (.Assign [.Name x px] e pos) (tsD c (sSet i f)) := by
  refine PS.weak (ps_set hN hi hx he hs hf) fun D s H ⟨r, F, R, h⟩ => ⟨r, F, R, (ans_of h).imp fun d H1 F1 R1 m1 k1 v hv => ?_⟩
  unfold gN at k1
  split at k1
  · rename_i z
    exact k1.at (R1.set z hv)
  · exact k1.elim
/-- a new list of the def's own -/
def sSetO (i : Nat) (f : Rho → M (List PyData)) : Sf := fun r => ofE (f r) r fun xs => if i < r.length then some (.nx (r.set i (some (.own xs)))) else none
theorem sSetO_ok {i : Nat} {xs : List PyData} {r : Rho} {s : L2.St} {H F H1 F1 : Hp} {D : Ends} {p : Addr} {vs : List V} (R : Rel c r s H F) (R1 : Rel c r s H1 F1) (k1 : Sans c F1 (if i < r.length then some (SR.nx (r.set i (some (.own xs)))) else none) D)
    (h1 : H1 p = some (.lst vs)) (h2 : F1 p = none) (h3 : H p = none) (h4 : DqAll c.K c.ax F1 vs xs) : D.nx (s.set i (some (.ref p))) H1 := by
  split at k1
  · rename_i z
    refine k1.at (R1.setO z h1 h2 (R.fr.new h3) h4 fun j ys ej es => ?_)
    obtain ⟨q, ws, q1, q2, _⟩ := R.mine ej
    rw [es] at q1
    cases q1
    rw [h3] at q2; cases q2
  · exact k1.elim
theorem ds_setO {i : Nat} {x : Str} {px : Pos} {nf : Rho → M (List PyData)} (he : PE X e (teO c nf)) (hN : X.N.Nodup) (hi : X.N[i]? = some x) (hx : Loc X.env.scope x) (hs : swapsWith e (some (.Name x px)) pos.line X.env = pure false := by rfl)
    (hf : X.fn x = true ∨ X.env.scope.names.lookup x = some .local := by first | exact .inl rfl | exact .inr rfl | assumption) : PS X (.Assign [.Name x px] e pos) (tsD c (sSetO i nf)) := by
  refine PS.weak (ps_set hN hi hx he hs hf) fun D s H ⟨r, F, R, h⟩ => ⟨r, F, R, (ans_of h).imp fun xs H1 F1 R1 m1 k1 p vs h1 h2 h3 h4 => ?_⟩
  exact sSetO_ok R R1 k1 h1 h2 h3 h4
/-- a list is frozen ahead of a statement -/
def sFrz (i : Nat) (g : Sf) : Sf := fun r => match r[i]? with
  | some (some (.own xs)) => g (r.set i (some (.d (.list xs))))
  | _ => g r
theorem tsD_frz {i : Nat} {D : Ends} {s : L2.St} {H : Hp} : tsD c (sFrz i sf) D s H → tsD c sf D s H := fun ⟨r, F, R, h⟩ => by
  unfold sFrz at h
  split at h
  · rename_i xs e
    obtain ⟨F', R', sm⟩ := R.freeze e
    exact ⟨_, F', R', h.mono sm⟩
  · exact ⟨r, F, R, h⟩
theorem ds_frz {i : Nat} (h : PS X st (tsD c sf)) : PS X st (tsD c (sFrz i sf)) := PS.weak h fun _ _ _ => tsD_frz

/-! ### lists of the def's own -/
def nNew (g : Af) : Rho → M (List PyData) := fun r => bnd (g r) fun xs => if xs.length ≤ lim then ok xs else none
theorem do_lst {es : List Expr} {af : Af} (h : PA X es (taD c af)) : PE X (.List es pos) (teO c (nNew af)) := by
  refine PE.weak (pe_lst h) fun s H Q ⟨r, F, R, k⟩ => ⟨r, F, R, k.bnd.imp fun xs H1 F1 R1 m1 k1 vs hv => ?_⟩
  split at k1
  · rename_i z
    refine ⟨lim_line (by rw [dpAll_len hv]; exact z), fun p np => ?_⟩
    have m := More.loose (o := .lst vs) R1.fr.sub np
    exact k1 _ _ (R1.more m) m p vs upd_same (R1.fr.newF np) (m1.h.free np) hv
  · exact k1.elim
/-- x.append(e) -/
def sApp (i : Nat) (f : Ef) : Sf := fun r => match r[i]? with
  | some (some (.own xs)) => ofE (f r) r fun d => if xs.length < lim then some (.nx (r.set i (some (.own (xs ++ [d]))))) else none
  | _ => none
theorem ds_app {i : Nat} {apos cpos : Pos} (hv : PE X a (tVar i)) (he : PE X e (teD c f)) (hK : X.K = c.K := by rfl)
    (hbase : attributeBase a "append" X.env (eval a X.env) = eval a X.env := by rfl)
    (hfew : ((backTo cpos (starEach (e :: []) X.env)).all (fun x => !x.1) && (backToKw cpos (keywordEach [] X.env)).all (fun x => x.1.isSome)
      && decide ((e :: []).length + ([] : List Keyword).length + (if ([] : List Keyword).isEmpty then 0 else 1) < 30)) = true := by rfl)
    (hline : (apos.endLine == cpos.line) = true := by rfl) (hst : starEach (e :: []) X.env = (false, eval e X.env) :: starEach [] X.env := by rfl) (hplain : (backTo cpos (starEach [] X.env)).any (·.1) = false := by rfl)
    (hs : swapsWith (.Call (.Attribute a "append" apos) [e] [] cpos) none pos.line X.env = pure false := by rfl) : PS X (.Expr (.Call (.Attribute a "append" apos) [e] [] cpos) pos) (tsD c (sApp i f)) := by
  refine PS.weak (ps_expr (pe_bm PySem.F.plainAttrs_list PySem.F.slot_list_append PySem.F.type_list_append mt_append hv (pa_cons he pa_nil hst) hbase hfew hline hst hplain) hs) fun D s H ⟨r, F, R, h⟩ => ?_
  unfold sApp at h
  split at h
  · rename_i xs eo
    obtain ⟨p, vs, q1, q2, q3, q4, q5⟩ := R.mine eo
    refine ⟨_, q1, .inl ⟨rfl, vs, SqL.of q2⟩, r, F, R, (ans_of h).imp fun d H1 F1 R1 m1 k1 v hv => ?_⟩
    split at k1
    · rename_i z
      have q2' := m1.h _ _ q2
      refine ⟨p, vs, v, rfl, rfl, q2', lim_lt (by rw [dpAll_len q5]; exact z), ?_⟩
      exact k1.at (R1.write eo q1 (m1.un _ _ q2 q3) q4 (dpAll_app (dpAll_same m1.f q5) (dpAll_one hv)))
    · exact k1.elim
  · exact h.elim
/-- x[k] = e -/
def sPut (i : Nat) (k f : Ef) : Sf := fun r => match r[i]? with
  | some (some (.own xs)) => ofE (f r) r fun d => ofE (k r) r fun z => match z with
    | .int j => (match ixN xs.length j with | some n => some (.nx (r.set i (some (.own (xs.set n d))))) | none => none)
    | _ => none
  | _ => none
theorem ds_put {i : Nat} {spos : Pos} {kf : Ef} (hv : PE X a (tVar i)) (hk : PE X b (teB c kf)) (he : PE X e (teD c f)) 
    (hs : swapsWithSole [.Subscript a b spos] e pos.line X.env = pure false := by rfl) (hw : swappedStores [.Subscript a b spos] e X.env = pure none := by rfl)
    (hsub : PG X (.Subscript a b spos) (gSub (tVar i) (teB c kf) rSetL)) : PS X (.Assign [.Subscript a b spos] e pos) (tsD c (sPut i kf f)) := by
  refine PS.weak (ps_asg he hsub hs hw) fun D s H ⟨r, F, R, h⟩ => ?_
  unfold sPut at h
  split at h
  · rename_i xs eo
    obtain ⟨p, vs, q1, q2, q3, q4, q5⟩ := R.mine eo
    refine ⟨r, F, R, (ans_of h).imp fun d H1 F1 R1 m1 k1 v hv => ⟨_, q1, r, F1, R1, (ans_of k1).imp fun z H2 F2 R2 m2 k2 u hu => ?_⟩⟩
    split at k2
    · split at k2
      · rename_i n en
        have m12 := m1.trans m2
        refine ⟨p, vs, _, n, rfl, hu.int, m12.h _ _ q2, by rw [dpAll_len q5]; exact en, ?_⟩
        exact k2.at (R2.write eo q1 (m12.un _ _ q2 q3) q4 (dpAll_set n (dpAll_same m12.f q5) (dp_same m2.f hv)))
      · exact k2.elim
    · exact k2.elim
  · exact h.elim
end
end DL

set_option Elab.async false
set_option linter.all false
set_option maxRecDepth 100000
/-! The data layer, 5: loops, comprehensions, calls, defs. -/
noncomputable section
namespace DL
open PySem L2

/-! ### what is walked -/
structure Walks (K : PySem.W.Frag) (ax : XN → Addr) (J : It) (xs : List PyData) (F : Hp) : Prop where
  go : ∀ (i : Nat) (H : Hp), Same F H → i < xs.length → J.go i H
  stop : ∀ (H : Hp), Same F H → J.stop xs.length H
  yld : ∀ (i : Nat) (H : Hp) (x : V) (H' : Hp), Same F H → i < xs.length → J.yld i H x H' → H' = H ∧ ∃ d, xs[i]? = some d ∧ Dq K ax F x d
def tiD (c : Cc) (f : Af) : TI := fun s H W => ∃ r F, Rel c r s H F ∧ Ans c r s H F (f r) (fun xs H' F' => ∀ J, Walks c.K c.ax J xs F' → W J H')
theorem PI.weak {X : Cx} {tg e : Expr} {t t' : TI} (h : PI X tg e t) (k : ∀ s H Q, t' s H Q → t s H Q) : PI X tg e t' := ⟨fun pins s σ H Q I z => h.run pins s σ H Q I (k σ H Q z)⟩
section
variable {X : Cx} {c : Cc} {e a b tg : Expr} {f g : Ef} {pos : Pos} {body : List Stmt} {sf sg : Sf}

theorem walks_list {K : PySem.W.Frag} {ax : XN → Addr} {F : Hp} {p : Addr} {vs : List V} {xs : List PyData} (h1 : SqL K F p vs) (h2 : DqAll K ax F vs xs) : Walks K ax (Itl K p) xs F := by
  have el := dpAll_len h2
  refine ⟨fun i H sm hi => ⟨vs, vs[i], same_l sm h1, by simp [el ▸ hi]⟩, fun H sm => ⟨vs, same_l sm h1, by omega⟩, fun i H x H' sm hi y => ?_⟩
  obtain ⟨eH, hy⟩ := y
  obtain ⟨d, e1, e2⟩ := dpAll_atV h2 (hy vs (same_l sm h1))
  exact ⟨eH, d, e1, e2⟩
theorem walks_tup {K : PySem.W.Frag} {ax : XN → Addr} {F : Hp} {p : Addr} {vs : List V} {xs : List PyData} (h1 : SqT K F p vs) (h2 : DqAll K ax F vs xs) : Walks K ax (Itt K p) xs F := by
  have el := dpAll_len h2
  refine ⟨fun i H sm hi => ⟨vs, vs[i], same_t sm h1, by simp [el ▸ hi]⟩, fun H sm => ⟨vs, same_t sm h1, by omega⟩, fun i H x H' sm hi y => ?_⟩
  obtain ⟨eH, hy⟩ := y
  obtain ⟨d, e1, e2⟩ := dpAll_atV h2 (hy vs (same_t sm h1))
  exact ⟨eH, d, e1, e2⟩
def iL (f : Ef) : Af := fun r => bnd (f r) fun x => match x with
  | .list xs => ok xs
  | _ => none
def iT (f : Ef) : Af := fun r => bnd (f r) fun x => match x with
  | .tuple xs => ok xs
  | _ => none
theorem di_list (h : PE X e (teD c f)) (hK : X.K = c.K := by rfl) : PI X tg e (tiD c (iL f)) := by
  refine PI.weak (pi_list h) fun s H W ⟨r, F, R, k⟩ => ⟨r, F, R, k.bnd.imp fun x H1 F1 R1 m1 k1 v hv => ?_⟩
  split at k1
  · cases hv with
    | lst h1 h2 =>
      rw [hK]
      exact ⟨_, rfl, ⟨_, same_l R1.fr.sub h1⟩, k1.now R1 _ (walks_list h1 h2)⟩
  · exact k1.elim
theorem di_tup (h : PE X e (teD c f)) (hK : X.K = c.K := by rfl) : PI X tg e (tiD c (iT f)) := by
  refine PI.weak (pi_tup h) fun s H W ⟨r, F, R, k⟩ => ⟨r, F, R, k.bnd.imp fun x H1 F1 R1 m1 k1 v hv => ?_⟩
  split at k1
  · cases hv with
    | tup h1 h2 =>
      rw [hK]
      exact ⟨_, rfl, ⟨_, same_t R1.fr.sub h1.t⟩, k1.now R1 _ (walks_tup h1.t h2)⟩
  · exact k1.elim
def rng (lo : Int) (n : Nat) : List PyData := (List.range n).map fun (i : Nat) => PyData.int (lo + i)
theorem rng_len {lo : Int} {n : Nat} : (rng lo n).length = n := by unfold rng; rw [List.length_map, List.length_range]
theorem walks_rng {K : PySem.W.Frag} {ax : XN → Addr} {F : Hp} {lo : Int} {n : Nat} : Walks K ax (Itr lo n) (rng lo n) F := by
  refine ⟨fun i H sm hi => by rw [rng_len] at hi; exact hi, fun H sm => by rw [rng_len]; exact Nat.le_refl _, fun i H x H' sm hi y => ?_⟩
  obtain ⟨eH, rfl⟩ := y
  rw [rng_len] at hi
  exact ⟨eH, _, by unfold rng; rw [List.getElem?_map, List.getElem?_range hi]; rfl, .int _⟩
theorem inR_of {i : Int} (h : inR i = true) : -(2 ^ 62) ≤ i ∧ i < 2 ^ 62 := by
  have := inR_iff.mp h
  omega
def iR1 (f : Ef) : Af := fun r => bnd (f r) fun x => match x with
  | .int n => if inR n = true then ok (rng 0 n.toNat) else none
  | _ => none
def iR2 (f g : Ef) : Af := fun r => bnd (f r) fun x => bnd (g r) fun y => match x, y with
  | .int i, .int j => if inR i = true ∧ inR j = true then ok (rng i (j - i).toNat) else none
  | _, _ => none
theorem di_r1 {p : Pos} (hg : Gl X "range") (hm : X.mg "range" = none) (h : PE X a (teD c f)) (hs : starEach [a] X.env = [(false, eval a X.env)] := by rfl) : PI X tg (.Call (.Name "range" p) [a] [] pos) (tiD c (iR1 f)) := by
  refine PI.weak (pi_range1 hg hm (pa_cons h pa_nil hs) hs) fun s H W ⟨r, F, R, k⟩ => ⟨r, F, R, k.bnd.imp fun x H1 F1 R1 m1 k1 v hv => ?_⟩
  split at k1
  · split at k1
    · rename_i z
      cases hv
      exact ⟨_, rfl, (inR_of z).1, (inR_of z).2, k1.now R1 _ walks_rng⟩
    · exact k1.elim
  · exact k1.elim
theorem di_r2 {p : Pos} (hg : Gl X "range") (hm : X.mg "range" = none) (h : PE X a (teD c f)) (h2 : PE X b (teD c g)) (hs : starEach [a, b] X.env = [(false, eval a X.env), (false, eval b X.env)] := by rfl) (hs2 : starEach [b] X.env = [(false, eval b X.env)] := by rfl) :
    PI X tg (.Call (.Name "range" p) [a, b] [] pos) (tiD c (iR2 f g)) := by
  refine PI.weak (pi_range2 hg hm (pa_cons h (pa_cons h2 pa_nil hs2) (by rw [hs, hs2])) hs hs2) fun s H W ⟨r, F, R, k⟩ => ⟨r, F, R, k.bnd.imp fun x H1 F1 R1 m1 k1 v hv => ⟨r, F1, R1, k1.bnd.imp fun y H2 F2 R2 m2 k2 u hu => ?_⟩⟩
  split at k2
  · split at k2
    · rename_i z
      cases hv
      cases hu
      exact ⟨_, _, rfl, ⟨(inR_of z.1).1, (inR_of z.1).2, (inR_of z.2).1, (inR_of z.2).2⟩, k2.now R2 _ walks_rng⟩
    · exact k2.elim
  · exact k2.elim

/-! ### for, while -/
def forL (G : Gf) (body : Sf) : List PyData → Sf
  | [], r => some (.nx r)
  | x :: xs, r => match G x r with
    | none => none
    | some r1 => match body r1 with
      | some (.nx r2) => forL G body xs r2
      | some (.ct r2) => forL G body xs r2
      | some (.bk r2) => some (.nx r2)
      | some (.rt d) => some (.rt d)
      | some (.er e r2) => some (.er e r2)
      | none => none
def sFor (src : Af) (G : Gf) (body : Sf) : Sf := fun r => ofE (src r) r fun xs => forL G body xs r
/-- a loop runs, its iterator at hand -/
theorem for_run {r : Rho} {s : L2.St} {H1 F1 : Hp} {ts : List Nat} {G : Gf} {xs : List PyData} {J : It} {D : Ends} (R1 : Rel c r s H1 F1) (k1 : Sans c F1 (forL G sf xs r) D) (w : Walks c.K c.ax J xs F1) :
    ∃ W : Nat → Nat → L2.St → Hp → Prop, (∃ m, W 0 m s H1) ∧ ∀ i m σ H, W i m σ H →
      (J.stop i H ∧ D.nx σ H) ∨ (J.go i H ∧ ∃ N : L2.St → Hp → Prop, (∀ σ' H', N σ' H' → ∃ m', m' < m ∧ W (i + 1) m' σ' H') ∧ ∀ x H', J.yld i H x H' → tgD c ts G x σ H' fun σ2 H2 => tsD c sf { D with nx := N, ct := N, bk := D.nx } σ2 H2) := by
  refine ⟨fun i m s H => ∃ r F, Rel c r s H F ∧ Same F1 F ∧ m = xs.length - i ∧ i ≤ xs.length ∧ Sans c F (forL G sf (xs.drop i) r) D, ⟨xs.length, r, F1, R1, Same.refl _, by omega, Nat.zero_le _, k1⟩, ?_⟩
  rintro i m s H ⟨r, F, R, sm, rfl, hi, k⟩
  by_cases hl : i < xs.length
  · refine .inr ⟨w.go i H (sm.trans R.fr.sub) hl, fun s H => ∃ r F, Rel c r s H F ∧ Same F1 F ∧ Sans c F (forL G sf (xs.drop (i + 1)) r) D, ?_, ?_⟩
    · rintro s' H' ⟨r', F', R', sm', k'⟩
      exact ⟨xs.length - (i + 1), by omega, r', F', R', sm', rfl, hl, k'⟩
    · intro x H' y
      obtain ⟨rfl, d, ed, hd⟩ := w.yld i H x H' (sm.trans R.fr.sub) hl y
      have ex : xs.drop i = d :: xs.drop (i + 1) := by
        obtain ⟨z, e⟩ := List.getElem?_eq_some_iff.mp ed
        rw [List.drop_eq_getElem_cons z, e]
      rw [ex] at k
      unfold forL at k
      cases eG : G d r with
      | none => rw [eG] at k; exact k.elim
      | some r1 =>
        rw [eG] at k
        refine ⟨r, F, d, R, dp_same sm hd, r1, eG, fun s' R' _ => ⟨r1, F, R', ?_⟩⟩
        dsimp only at k
        cases eb : sf r1 with
        | none => rw [eb] at k; exact k.elim
        | some z =>
          rw [eb] at k
          cases z with
          | nx r2 => exact fun s2 H2 F2 R2 m2 => ⟨r2, F2, R2, sm.trans m2, k.mono m2⟩
          | ct r2 => exact fun s2 H2 F2 R2 m2 => ⟨r2, F2, R2, sm.trans m2, k.mono m2⟩
          | bk r2 => exact k
          | rt d2 => exact k
          | er e2 r2 => exact k
  · have ei : i = xs.length := by omega
    subst ei
    rw [List.drop_length] at k
    exact .inl ⟨w.stop H (sm.trans R.fr.sub), k.at R⟩
theorem ds_for {src : Af} {ts : List Nat} {G : Gf} (hp : PassesOwn (model X.prog X.w) X.A X.env X.xe) (hc : X.calm = true) (hi : PI X tg e (tiD c src)) (hg : PG X tg (tgD c ts G)) (hb : PSs X body (tsD c sf)) (hfs : ∀ x, foldedSetIterable e X.env x = pure x := by intro _; rfl) :
    PS X (.For tg e body [] pos) (tsD c (sFor src G sf)) :=
  PS.weak (ps_for hp hc hi hg hb hfs) fun D s H ⟨r, F, R, h⟩ => ⟨r, F, R, (ans_of h).imp fun xs H1 F1 R1 m1 k1 J w => for_run R1 k1 w⟩
/-- .. whose walked thing changes a list of the def's own when it is asked for -/
def tiP (c : Cc) (src : Rho → Option (Rho × List PyData)) : TI := fun s H W => ∃ r F r' xs, Rel c r s H F ∧ src r = some (r', xs) ∧ ∀ J H' F', Rel c r' s H' F' → Same F F' → Walks c.K c.ax J xs F' → W J H'
def sForP (src : Rho → Option (Rho × List PyData)) (G : Gf) (body : Sf) : Sf := fun r => match src r with
  | some (r', xs) => forL G body xs r'
  | none => none
theorem ds_forP {src : Rho → Option (Rho × List PyData)} {ts : List Nat} {G : Gf} (hp : PassesOwn (model X.prog X.w) X.A X.env X.xe) (hc : X.calm = true) (hi : PI X tg e (tiP c src)) (hg : PG X tg (tgD c ts G)) (hb : PSs X body (tsD c sf)) (hfs : ∀ x, foldedSetIterable e X.env x = pure x := by intro _; rfl) :
    PS X (.For tg e body [] pos) (tsD c (sForP src G sf)) := by
  refine PS.weak (ps_for hp hc hi hg hb hfs) fun D s H ⟨r, F, R, h⟩ => ?_
  unfold sForP at h
  split at h
  · rename_i r' xs es
    exact ⟨r, F, r', xs, R, es, fun J H' F' R' sm w => for_run R' (h.mono sm) w⟩
  · exact h.elim
def whileN (t : Tf) (body : Sf) : Nat → Sf
  | 0, _ => none
  | n + 1, r => ofE (t r) r fun k => if k = true then (match body r with
      | some (.nx r2) => whileN t body n r2
      | some (.ct r2) => whileN t body n r2
      | some (.bk r2) => some (.nx r2)
      | some (.rt d) => some (.rt d)
      | some (.er e r2) => some (.er e r2)
      | none => none) else some (.nx r)
/-- as many turns as it takes, below this number -/
theorem fuel_ex : ∃ n : Nat, n = 100000 := ⟨_, rfl⟩
/-- the most turns of a while; held back from the kernel's reckoning -/
def fuel : Nat := fuel_ex.choose
theorem fuel_is : fuel = 100000 := fuel_ex.choose_spec
def sWhile (t : Tf) (body : Sf) : Sf := whileN t body fuel
theorem ds_while {tf : Tf} (hp : PassesOwn (model X.prog X.w) X.A X.env X.xe) (ht : PT X e (ttD c tf)) (hb : PSs X body (tsD c sf)) : PS X (.While e body [] pos) (tsD c (sWhile tf sf)) := by
  refine PS.weak (ps_while hp ht hb) fun D s H ⟨r, F, R, h⟩ => ?_
  refine ⟨fun m s H => ∃ r F, Rel c r s H F ∧ Sans c F (whileN tf sf m r) D, ⟨fuel, r, F, R, h⟩, ?_⟩
  rintro m s H ⟨r, F, R, h⟩
  cases m with
  | zero => exact h.elim
  | succ n =>
    refine ⟨r, F, R, (ans_of h).imp fun k H1 F1 R1 m1 k1 => ?_⟩
    cases k with
    | false => rw [if_neg (by decide)] at k1 ⊢; exact k1.at R1
    | true =>
      rw [if_pos rfl] at k1 ⊢
      refine ⟨fun s H => ∃ r F, Rel c r s H F ∧ Sans c F (whileN tf sf n r) D, fun s' H' z => ⟨n, by omega, z⟩, r, F1, R1, ?_⟩
      cases eb : sf r with
      | none => rw [eb] at k1; exact k1.elim
      | some z =>
        rw [eb] at k1
        cases z with
        | nx r2 => exact fun s2 H2 F2 R2 m2 => ⟨r2, F2, R2, k1.mono m2⟩
        | ct r2 => exact fun s2 H2 F2 R2 m2 => ⟨r2, F2, R2, k1.mono m2⟩
        | bk r2 => exact k1
        | rt d2 => exact k1
        | er e2 r2 => exact k1

/-! ### comprehensions -/
def wipeR (r : Rho) : List Nat → Rho
  | [] => r
  | v :: vs => (wipeR r vs).set v none
theorem Rel.wipe {r : Rho} {s : L2.St} {H F : Hp} (R : Rel c r s H F) (vs : List Nat) : Rel c (wipeR r vs) (L2.wipe s vs) H F := by
  induction vs with
  | nil => exact R
  | cons v vs ih =>
    refine ⟨ih.fr, by show ((L2.wipe s vs).set v none).length = ((wipeR r vs).set v none).length; rw [List.length_set, List.length_set]; exact ih.len, fun j b q => ?_, fun j k ys zs q e1 e2 e3 e4 => ?_⟩
    · rcases set_get q with ⟨_, eb⟩ | ⟨ne, e'⟩
      · cases eb
      · obtain ⟨w, q1, q2⟩ := ih.cell j b e'
        exact ⟨w, by show ((L2.wipe s vs).set v none)[j]? = _; rw [List.getElem?_set_ne (Ne.symm ne)]; exact q1, q2⟩
    · rcases set_get e1 with ⟨_, eb⟩ | ⟨n1, e1'⟩
      · cases eb
      · rcases set_get e2 with ⟨_, eb⟩ | ⟨n2, e2'⟩
        · cases eb
        · have e3' : ((L2.wipe s vs).set v none)[j]? = _ := e3
          have e4' : ((L2.wipe s vs).set v none)[k]? = _ := e4
          rw [List.getElem?_set_ne (Ne.symm n1)] at e3'
          rw [List.getElem?_set_ne (Ne.symm n2)] at e4'
          exact ih.apart j k ys zs q e1' e2' e3' e4'
/-- a comprehension's turns from the wiped slots; no error leaves -/
def lcL (G : Gf) (t : Tf) (f : Ef) (r : Rho) : List PyData → List PyData → M (List PyData)
  | [], acc => ok acc
  | x :: xs, acc => match G x r with
    | none => none
    | some r1 => match t r1 with
      | some (.ok true) => (match f r1 with
        | some (.ok d) => if acc.length < lim then lcL G t f r xs (acc ++ [d]) else none
        | _ => none)
      | some (.ok false) => lcL G t f r xs acc
      | _ => none
def nLc (src : Af) (G : Gf) (t : Tf) (f : Ef) (vs : List Nat) : Af := fun r => bnd (src r) fun xs => lcL G t f (wipeR r vs) xs []
def eLc (src : Af) (G : Gf) (t : Tf) (f : Ef) (vs : List Nat) : Ef := fun r => bnd (nLc src G t f vs r) fun xs => ok (.list xs)
/-- within a comprehension no error is let out -/
def Cc.still (c : Cc) : Cc := { c with W := fun _ _ _ _ => False }
theorem rel_still {r : Rho} {s : L2.St} {H F : Hp} (R : Rel c r s H F) : Rel c.still r s H F := ⟨⟨R.fr.sub, R.fr.old, R.fr.kept⟩, R.len, R.cell, R.apart⟩
theorem rel_unstill {r : Rho} {s : L2.St} {H F : Hp} (R : Rel c.still r s H F) : Rel c r s H F := ⟨⟨R.fr.sub, R.fr.old, R.fr.kept⟩, R.len, R.cell, R.apart⟩
theorem wipe_in {j : Nat} {u : L2.St} : ∀ {vs : List Nat}, j ∈ vs → (L2.wipe u vs)[j]? = if j < u.length then some none else none
  | [], h => by simp at h
  | w :: ws, h => by
    show ((L2.wipe u ws).set w none)[j]? = _
    by_cases e : j = w
    · subst e
      by_cases z : j < u.length
      · rw [List.getElem?_set_self (by rw [wipe_length]; exact z), if_pos z]
      · rw [List.getElem?_eq_none (by simp only [List.length_set, wipe_length]; omega), if_neg z]
    · rw [List.getElem?_set_ne (Ne.symm e)]
      exact wipe_in ((List.mem_cons.mp h).resolve_left e)
theorem wipe_but {vs ts : List Nat} {s s' : L2.St} (b : But ts (L2.wipe s vs) s') (h : ∀ j ∈ ts, j ∈ vs) : L2.wipe s' vs = L2.wipe s vs := by
  apply List.ext_getElem?
  intro j
  have hl : s'.length = s.length := by rw [b.1, wipe_length]
  by_cases hj : j ∈ vs
  · rw [wipe_in hj, wipe_in hj, hl]
  · rw [wipe_out hj, wipe_out hj, b.2 j (fun z => hj (h j z)), wipe_out hj]
/-- what no slot has may be changed -/
theorem Rel.other {r : Rho} {s : L2.St} {H F : Hp} {p : Addr} {o : HO} (R : Rel c r s H F) (h2 : F p = none) (h3 : c.H0 p = none) (h5 : ∀ (j : Nat) (b : B), r[j]? = some (some b) → (∀ x, b ≠ .d x) → s[j]? ≠ some (some (V.ref p))) : Rel c r s (upd H p o) F := by
  refine ⟨R.fr.write h2 h3, R.len, fun j b e => ?_, R.apart⟩
  cases b with
  | d x => exact R.data e
  | own ys =>
    obtain ⟨q, ws, q1, q2, q3, q4, q5⟩ := R.mine e
    refine ⟨_, q1, ws, ?_, q3, q4, q5⟩
    rw [upd_ne ?_]; exact q2
    rintro rfl
    exact h5 j _ e (fun _ z => nomatch z) q1
  | dct ys =>
    obtain ⟨q, ws, q1, q2, q3, q4, q5, q6⟩ := R.mineM e
    refine ⟨_, q1, ws, ?_, q3, q4, q5, q6⟩
    rw [upd_ne ?_]; exact q2
    rintro rfl
    exact h5 j _ e (fun _ z => nomatch z) q1
  | dic ys =>
    obtain ⟨q, ws, q1, q2, q3, q4, q5⟩ := R.mineK e
    refine ⟨_, q1, ws, ?_, q3, q4, q5⟩
    rw [upd_ne ?_]; exact q2
    rintro rfl
    exact h5 j _ e (fun _ z => nomatch z) q1
  | dif ys =>
    obtain ⟨q, ws, o', q1, q2, q3⟩ := R.mineF e
    exact ⟨_, q1, ws, o', q2, q3⟩
  | obj fs =>
    obtain ⟨q, C, dx, fV, q1, q2, q3, q4, q5, q6, q7⟩ := R.mineO e
    refine ⟨_, q1, C, dx, fV, q2, ?_, q4, q5, q6, q7⟩
    rw [upd_ne ?_]; exact q3
    rintro rfl
    exact h5 j _ e (fun _ z => nomatch z) q1
  | obf fs =>
    obtain ⟨q, C, dx, fV, q1, q2, q3, q4, q5⟩ := R.mineP e
    exact ⟨_, q1, C, dx, fV, q2, q3, q4, q5⟩
theorem Rel.notmine {r : Rho} {s : L2.St} {H F : Hp} {p : Addr} (R : Rel c r s H F) (n : H p = none) : ∀ (j : Nat) (b : B), r[j]? = some (some b) → (∀ x, b ≠ .d x) → s[j]? ≠ some (some (V.ref p)) := fun j b e nd es => by
  cases b with
  | d x => exact nd x rfl
  | own xs =>
    obtain ⟨q, ws, q1, q2, _⟩ := R.mine e
    rw [es] at q1
    cases q1
    rw [n] at q2; cases q2
  | dct xs =>
    obtain ⟨q, ws, q1, q2, _⟩ := R.mineM e
    rw [es] at q1
    cases q1
    rw [n] at q2; cases q2
  | dic xs =>
    obtain ⟨q, ws, q1, q2, _⟩ := R.mineK e
    rw [es] at q1
    cases q1
    rw [n] at q2; cases q2
  | dif xs =>
    obtain ⟨q, ws, o', q1, q2, _⟩ := R.mineF e
    rw [es] at q1
    cases q1
    rw [R.fr.newF n] at q2; cases q2
  | obj fs =>
    obtain ⟨q, C, dx, fV, q1, q2, q3, _⟩ := R.mineO e
    rw [es] at q1
    cases q1
    rw [n] at q3; cases q3
  | obf fs =>
    obtain ⟨q, C, dx, fV, q1, q2, q3, _⟩ := R.mineP e
    rw [es] at q1
    cases q1
    rw [R.fr.newF n] at q3; cases q3
theorem lcL_no {G : Gf} {t : Tf} {f : Ef} {r : Rho} : ∀ (xs acc : List PyData) (e : XN), lcL G t f r xs acc ≠ some (.error e)
  | [], acc, e => fun h => by cases h
  | x :: xs, acc, e => fun h => by
    unfold lcL at h
    split at h
    · cases h
    · split at h
      · split at h
        · split at h
          · exact lcL_no _ _ _ h
          · cases h
        · cases h
      · exact lcL_no _ _ _ h
      · cases h
theorem te_lc {src : Af} {G : Gf} {tf : Tf} {vs ts : List Nat} {s : L2.St} {H : Hp} {Q : VK} (hts : ∀ j ∈ ts, j ∈ vs) :
    teO c (nLc src G tf f vs) s H Q → tLc (tiD c src) (tgD c.still ts G) (ttD c.still tf) (teD c.still f) vs s H Q := fun ⟨r, F, R, h⟩ => by
  refine ⟨r, F, R, Ans.imp (Ans.bnd h) fun xs H1 F1 R1 m1 k1 J w D nD => ?_⟩
  cases eR : lcL G tf f (wipeR r vs) xs [] with
  | none => rw [eR] at k1; exact k1.elim
  | some z =>
  cases z with
  | error e => exact absurd eR (lcL_no _ _ _)
  | ok res =>
  rw [eR] at k1
  have n0 : c.H0 D = none := R1.fr.new nD
  refine ⟨fun i m H => ∃ F acc accV, Rel c r s H F ∧ More H1 F1 H F ∧ H D = some (.lst accV) ∧ F D = none ∧ DqAll c.K c.ax F accV acc ∧ m = xs.length - i ∧ i ≤ xs.length ∧ lcL G tf f (wipeR r vs) (xs.drop i) acc = some (.ok res), ⟨xs.length, F1, [], [], ?_, ?_, upd_same, R1.fr.newF nD, .nil, by omega, Nat.zero_le _, eR⟩, ?_⟩
  · exact R1.more (More.loose R1.fr.sub nD)
  · exact More.loose R1.fr.sub nD
  rintro i m H ⟨F, acc, accV, R, mm, hD, fD, dA, rfl, hi, eq⟩
  by_cases hl : i < xs.length
  · refine .inr ⟨w.go i H (mm.f.trans mm.sub) hl, fun H => ∃ F acc accV, Rel c r s H F ∧ More H1 F1 H F ∧ H D = some (.lst accV) ∧ F D = none ∧ DqAll c.K c.ax F accV acc ∧ lcL G tf f (wipeR r vs) (xs.drop (i + 1)) acc = some (.ok res), ?_, ?_⟩
    · rintro H' ⟨F', acc', accV', R', mm', hD', fD', dA', eq'⟩
      exact ⟨xs.length - (i + 1), by omega, F', acc', accV', R', mm', hD', fD', dA', rfl, hl, eq'⟩
    · intro x H' y
      obtain ⟨rfl, d, ed, hd⟩ := w.yld i H x H' (mm.f.trans mm.sub) hl y
      have ex : xs.drop i = d :: xs.drop (i + 1) := by
        obtain ⟨z, e⟩ := List.getElem?_eq_some_iff.mp ed
        rw [List.drop_eq_getElem_cons z, e]
      rw [ex] at eq
      unfold lcL at eq
      cases eG : G d (wipeR r vs) with
      | none => rw [eG] at eq; cases eq
      | some r1 =>
        rw [eG] at eq
        dsimp only at eq
        refine ⟨wipeR r vs, F, d, rel_still (R.wipe vs), dp_same mm.f hd, r1, eG, fun s2 R2 b2 => ⟨wipe_but b2 hts, r1, F, R2, ?_⟩⟩
        cases et : tf r1 with
        | none => rw [et] at eq; cases eq
        | some z =>
        rw [et] at eq
        cases z with
        | error e => cases eq
        | ok k =>
        intro H3 F3 R3 m3
        cases k with
        | false =>
          rw [if_neg (by decide)]
          exact ⟨F3, acc, accV, R.more m3, mm.trans m3, m3.h _ _ hD, m3.un _ _ hD fD, dpAll_same m3.f dA, eq⟩
        | true =>
          rw [if_pos rfl]
          dsimp only at eq
          cases ef : f r1 with
          | none => rw [ef] at eq; cases eq
          | some z =>
          rw [ef] at eq
          cases z with
          | error e => cases eq
          | ok d2 =>
          dsimp only at eq
          split at eq
          · rename_i hz
            refine ⟨r1, F3, R3, ?_⟩
            rw [ef]
            intro H4 F4 R4 m4 v hv
            have m34 := m3.trans m4
            have hD4 := m34.h _ _ hD
            have fD4 := m34.un _ _ hD fD
            have dA4 := dpAll_same m34.f dA
            have mm4 := mm.trans m34
            refine ⟨accV, hD4, lim_lt (by rw [dpAll_len dA]; exact hz), F4, acc ++ [d2], accV ++ [v], (R.more m34).other fD4 n0 (R1.notmine nD), ⟨mm4.f, fun b o q => ?_, fun b o q => ?_, mm4.un⟩, upd_same, fD4, dpAll_app dA4 (dpAll_one hv), eq⟩
            · rw [upd_ne (ne_of_none q nD)]; exact mm4.h b o q
            · rw [upd_ne (ne_of_none q fD4)]; exact mm4.sub b o q
          · cases eq
  · have ei : i = xs.length := by omega
    subst ei
    rw [List.drop_length] at eq
    unfold lcL at eq
    cases eq
    exact .inl ⟨w.stop H (mm.f.trans mm.sub), k1 H F R mm D accV hD fD (m1.h.free nD) dA⟩
/-- a new list, then frozen -/
def eNew (nf : Af) : Ef := fun r => bnd (nf r) fun xs => ok (.list xs)
theorem te_new {nf : Af} {s : L2.St} {H : Hp} {Q : VK} : teD c (eNew nf) s H Q → teO c nf s H Q := fun ⟨r, F, R, h⟩ => by
  refine ⟨r, F, R, ?_⟩
  unfold eNew at h
  cases e : nf r with
  | none => rw [e] at h; exact h
  | some z =>
  rw [e] at h
  cases z with
  | error x => exact h
  | ok xs =>
  intro H1 F1 R1 m1 p vs h1 h2 h3 h4
  have sm : Same F1 (upd F1 p (.lst vs)) := same_upd' h2
  have sub : Same (upd F1 p (.lst vs)) H1 := fun b o q => by
    by_cases hb : b = p
    · subst hb; rw [upd_same] at q; cases q; exact h1
    · rw [upd_ne hb] at q; exact R1.fr.sub b o q
  have n0 := R.fr.new h3
  have mm : More H F H1 (upd F1 p (.lst vs)) := ⟨m1.f.trans sm, m1.h, sub, fun b o q n => by rw [upd_ne (ne_of_none q h3)]; exact m1.un b o q n⟩
  exact h H1 _ (R.more mm) mm _ (.lst (SqL.of upd_same) (dpAll_same sm h4))
/-- .. or a borrowed one -/
theorem de_new {nf : Af} (h : PE X e (teO c nf)) : PE X e (teD c (eNew nf)) := PE.weak h fun _ _ _ => te_new

theorem do_lc {elt iter : Expr} {ifs : List Expr} {scope : Scope} {own : List (Str × Nat)} {src : Af} {ts : List Nat} {G : Gf} {tf : Tf} (hc : X.calm = true) (hN : X.N.Nodup) (hi : PI X tg iter (tiD c src)) (okb : BlkOk X.N X.env.scope scope own)
    (hg : ∀ (s : Shared) (H : Hp) (C : Addr) (cl : List (Str × Addr)) (fp : List Addr), PG (X.blk s H scope (compEnvC scope cl C X.env) fp) tg (tgD c.still ts G))
    (ht : ∀ (s : Shared) (H : Hp) (C : Addr) (cl : List (Str × Addr)) (fp : List Addr), PTs (X.blk s H scope (compEnvC scope cl C X.env) fp) ifs (ttD c.still tf))
    (he : ∀ (s : Shared) (H : Hp) (C : Addr) (cl : List (Str × Addr)) (fp : List Addr), PE (X.blk s H scope (compEnvC scope cl C X.env) fp) elt (teD c.still f))
    (hts : ∀ j ∈ ts, j ∈ own.map (·.2) := by decide) (hs : ∀ x, foldedSetIterable iter X.env x = pure x := by intro _; rfl) :
    PE X (.ListComp elt [⟨tg, iter, ifs, 0⟩] scope pos) (teO c (nLc src G tf f (own.map (·.2)))) :=
  PE.weak (pe_lc hc hN hi okb hg ht he hs) fun _ _ _ => te_lc hts
def tYesF : Tf := fun _ => ok true
theorem dt_yes : PTs X [] (ttD c tYesF) := ⟨fun pins s σ H Q I ⟨r, F, R, h⟩ => pts_nil.run pins s σ H Q I (h.now R)⟩
theorem dt_if (h : PT X a (ttD c tf)) : PTs X [a] (ttD c tf) := pts_one h
/-- x = [..], frozen | the def's own -/
theorem ds_setLc {elt iter : Expr} {ifs : List Expr} {scope : Scope} {own : List (Str × Nat)} {src : Af} {ts : List Nat} {G : Gf} {tf : Tf} {i : Nat} {y : Str} {py spos : Pos} (hc : X.calm = true) (hN : X.N.Nodup) (hy : X.N[i]? = some y) (hyl : X.env.scope.names.lookup y = some .local)
    (hsw : swapsWith (.ListComp elt [⟨tg, iter, ifs, 0⟩] scope pos) (some (.Name y py)) spos.line X.env = pure true) (hi : PI X tg iter (tiD c src)) (okb : BlkOk X.N X.env.scope scope own)
    (hg : ∀ (s : Shared) (H : Hp) (C : Addr) (cl : List (Str × Addr)) (fp : List Addr), PG (X.blk s H scope (compEnvC scope cl C X.env) fp) tg (tgD c.still ts G))
    (ht : ∀ (s : Shared) (H : Hp) (C : Addr) (cl : List (Str × Addr)) (fp : List Addr), PTs (X.blk s H scope (compEnvC scope cl C X.env) fp) ifs (ttD c.still tf))
    (he : ∀ (s : Shared) (H : Hp) (C : Addr) (cl : List (Str × Addr)) (fp : List Addr), PE (X.blk s H scope (compEnvC scope cl C X.env) fp) elt (teD c.still f))
    (hts : ∀ j ∈ ts, j ∈ own.map (·.2) := by decide) (hs : ∀ x, foldedSetIterable iter X.env x = pure x := by intro _; rfl) :
    PS X (.Assign [.Name y py] (.ListComp elt [⟨tg, iter, ifs, 0⟩] scope pos) spos) (tsD c (sSet i (eNew (nLc src G tf f (own.map (·.2)))))) := by
  refine PS.weak (ps_setLc hc hN hy hyl hsw hi okb hg ht he hs) fun D s H ⟨r, F, R, h⟩ => te_lc hts (te_new ⟨r, F, R, (ans_of h).imp fun d H1 F1 R1 m1 k1 v hv => ?_⟩)
  unfold gN at k1
  split at k1
  · rename_i z
    exact k1.at (R1.set z hv)
  · exact k1.elim
theorem ds_setLcO {elt iter : Expr} {ifs : List Expr} {scope : Scope} {own : List (Str × Nat)} {src : Af} {ts : List Nat} {G : Gf} {tf : Tf} {i : Nat} {y : Str} {py spos : Pos} (hc : X.calm = true) (hN : X.N.Nodup) (hy : X.N[i]? = some y) (hyl : X.env.scope.names.lookup y = some .local)
    (hsw : swapsWith (.ListComp elt [⟨tg, iter, ifs, 0⟩] scope pos) (some (.Name y py)) spos.line X.env = pure true) (hi : PI X tg iter (tiD c src)) (okb : BlkOk X.N X.env.scope scope own)
    (hg : ∀ (s : Shared) (H : Hp) (C : Addr) (cl : List (Str × Addr)) (fp : List Addr), PG (X.blk s H scope (compEnvC scope cl C X.env) fp) tg (tgD c.still ts G))
    (ht : ∀ (s : Shared) (H : Hp) (C : Addr) (cl : List (Str × Addr)) (fp : List Addr), PTs (X.blk s H scope (compEnvC scope cl C X.env) fp) ifs (ttD c.still tf))
    (he : ∀ (s : Shared) (H : Hp) (C : Addr) (cl : List (Str × Addr)) (fp : List Addr), PE (X.blk s H scope (compEnvC scope cl C X.env) fp) elt (teD c.still f))
    (hts : ∀ j ∈ ts, j ∈ own.map (·.2) := by decide) (hs : ∀ x, foldedSetIterable iter X.env x = pure x := by intro _; rfl) :
    PS X (.Assign [.Name y py] (.ListComp elt [⟨tg, iter, ifs, 0⟩] scope pos) spos) (tsD c (sSetO i (nLc src G tf f (own.map (·.2))))) := by
  refine PS.weak (ps_setLc hc hN hy hyl hsw hi okb hg ht he hs) fun D s H ⟨r, F, R, h⟩ => te_lc hts ⟨r, F, R, (ans_of h).imp fun xs H1 F1 R1 m1 k1 p vs h1 h2 h3 h4 => ?_⟩
  exact sSetO_ok R R1 k1 h1 h2 h3 h4

/-! ### defs and their calls -/
/-- a def's promise: what phi says of the arguments' data -/
def spD (K : PySem.W.Frag) (ax : XN → Addr) (phi : List PyData → M PyData) : Sp := fun vs H Q E => ∃ ds F, Same F H ∧ DqAll K ax F vs ds ∧ match phi ds with
  | none => False
  | some (.ok d) => ∀ v H' F', More H F H' F' → Dq K ax F' v d → Q v H'
  | some (.error x) => ∀ H' F', More H F H' F' → E (.ref (ax x)) none H'
theorem Rel.call {r : Rho} {s : L2.St} {H F H' F' : Hp} (R : Rel c r s H F) (m : More H F H' F') : Rel c r s H' F' := R.more m
def eFn (phi : List PyData → M PyData) (g : Af) : Ef := fun r => bnd (g r) phi
theorem te_fn {phi : List PyData → M PyData} {af : Af} {s : L2.St} {H : Hp} {Q : VK} : teD c (eFn phi af) s H Q → tCallS (spD c.K c.ax phi) (WE c.W) (taD c af) s H Q := fun ⟨r, F, R, h⟩ => by
  refine ⟨r, F, R, h.bnd.imp fun xs H1 F1 R1 m1 k1 vs hv => ⟨xs, F1, R1.fr.sub, hv, ?_⟩⟩
  cases e : phi xs with
  | none => rw [e] at k1; exact k1.elim
  | some z =>
    rw [e] at k1
    cases z with
    | error x => exact fun H' F' m => k1 H' F' (R1.more m) m
    | ok d => exact fun v H' F' m hv => k1 H' F' (R1.more m) m v hv
theorem de_fn {phi : List PyData → M PyData} {af : Af} {es : List Expr} {x : Str} {p : Pos} {k : Nat} {fa : Addr} {fd : FuncData} {ps : List Str} (G : FnOk X.prog X.w X.K X.mg X.base (L2.CX X.prog X.w) k fa fd ps (spD c.K c.ax phi)) (hr : Room k X.A) (hg : Gl X x) (hm : X.mg x = some (.ref fa)) (hk : PySem.W.keepIn X.K (.ref fa) = true) (hb : Binds X.K fd ps [])
    (tk : Takes X c.W) (ha : PA X (e :: es) (taD c af)) (hdb : (x == ("__debug__" : Str)) = false := by decide) (he : starEach (e :: es) X.env = (false, eval e X.env) :: starEach es X.env := by rfl) (hpl : (backTo pos (starEach es X.env)).any (·.1) = false := by rfl) :
    PE X (.Call (.Name x p) (e :: es) [] pos) (teD c (eFn phi af)) :=
  PE.weak (pe_callS G hr hg hm hk hb (fun _ => passAt tk _) ha hdb he hpl) fun _ _ _ => te_fn

/-- the slots at a def's entry -/
def rho0 (n : Nat) (ds : List PyData) : Rho := ds.map (fun d => some (.d d)) ++ List.replicate (n - ds.length) none
/-- what a def makes of its arguments: n slots, k parameters -/
def runD (n k : Nat) (g : Sf) : List PyData → M PyData := fun ds => if ds.length = k then (match g (rho0 n ds) with
  | some (.nx _) => ok .none
  | some (.rt d) => ok d
  | some (.er e _) => some (.error e)
  | _ => none) else none
theorem rel_start {K : PySem.W.Frag} {ax : XN → Addr} {W : WX} {P : Program} {w : World} {N : List Str} {vs : List V} {ds : List PyData} {H F : Hp} (sm : Same F H) (hv : DqAll K ax F vs ds) : Rel ⟨K, H, F, ax, W, P, w⟩ (rho0 N.length ds) (L2.start N vs) H F := by
  have el := dpAll_len hv
  refine ⟨⟨sm, Same.refl _, fun p o e n => ⟨e, n⟩⟩, ?_, fun i b e => ?_, fun i j xs ys p e1 => ?_⟩
  · unfold L2.start rho0
    rw [List.length_append, List.length_append, List.length_map, List.length_map, List.length_replicate, List.length_replicate, el]
  · unfold rho0 at e
    by_cases hi : i < ds.length
    · rw [List.getElem?_append_left (by rw [List.length_map]; exact hi), List.getElem?_map, List.getElem?_eq_getElem hi] at e
      cases e
      obtain ⟨v, e1, h1⟩ := dpAll_at hv (List.getElem?_eq_getElem hi)
      refine ⟨v, ?_, h1⟩
      unfold L2.start
      rw [List.getElem?_append_left (by rw [List.length_map, el]; exact hi), List.getElem?_map, e1]
      rfl
    · rw [List.getElem?_append_right (by rw [List.length_map]; omega)] at e
      obtain ⟨_, q⟩ := List.getElem?_eq_some_iff.mp e
      rw [List.getElem_replicate] at q; cases q
  · unfold rho0 at e1
    by_cases hi : i < ds.length
    · rw [List.getElem?_append_left (by rw [List.length_map]; exact hi), List.getElem?_map, List.getElem?_eq_getElem hi] at e1
      cases e1
    · rw [List.getElem?_append_right (by rw [List.length_map]; omega)] at e1
      obtain ⟨_, q⟩ := List.getElem?_eq_some_iff.mp e1
      rw [List.getElem_replicate] at q; cases q
theorem Fr.out {H F H' F' : Hp} {K : PySem.W.Frag} {ax : XN → Addr} {W : WX} {P : Program} {w : World} (sm : Same F H) (R : Fr ⟨K, H, F, ax, W, P, w⟩ H' F') : More H F H' F' := by
  refine ⟨R.old, fun p o e => ?_, R.sub, fun p o e n => (R.kept p o e n).2⟩
  cases q : F p with
  | none => exact (R.kept p o e q).1
  | some o2 =>
    have z := sm p o2 q
    rw [e] at z; cases z
    exact R.sub p o (R.old p o q)
/-- THE RULE for a def: its body, shown at every entry -/
theorem okD {P : Program} {w : World} {K : PySem.W.Frag} {ax : XN → Addr} {mg : Str → Option Value} {base : Heap} {x qual : Str} {st : Stmt} {fa : Addr} {fd : FuncData} {N ps : List Str} {k : Nat} {g : Sf} (F : Fun K x qual st fa fd) (S : FnScope N ps (defScope st))
    (hb : ∀ (cdv : Value) (A : Around) (outer : List Env) (s : Shared) (H F : Hp) (E : XK), Room k (A.deeper (PyProof.Rows.envOfC qual (defScope st) s.heap.objs.size fa cdv)) →
      PSs (cxOf (L2.CX P w) P w K mg base N qual (defScope st) fa cdv A outer s H E) (defBody st) (tsD ⟨K, H, F, ax, fun cls d _ H => E cls d H, P, w⟩ g)) :
    FnOk P w K mg base (L2.CX P w) (k + 1) fa fd ps (spD K ax (runD N.length ps.length g)) := by
  refine F.okX S (fun vs H Q E h => ?_) (fun cdv A outer s H vs Q E hr h => ?_)
  · obtain ⟨ds, F, sm, hv, h⟩ := h
    unfold runD at h
    rw [dpAll_len hv]
    by_cases z : ds.length = ps.length
    · exact z
    · rw [if_neg z] at h; exact h.elim
  · obtain ⟨ds, F, sm, hv, h⟩ := h
    refine ⟨_, hb cdv A outer s H F E hr, rho0 N.length ds, F, rel_start sm hv, ?_⟩
    unfold runD at h
    by_cases z : ds.length = ps.length
    · rw [if_pos z] at h
      cases e : g (rho0 N.length ds) with
      | none => rw [e] at h; exact h.elim
      | some y =>
        rw [e] at h
        cases y with
        | nx r => exact fun s' H' F' R q => h .non H' F' (R.fr.out sm) .non
        | rt d => exact fun v H' F' R q hv => h v H' F' (R.out sm) hv
        | bk r => exact h.elim
        | ct r => exact h.elim
        | er e r => exact fun s' H' F' R q => h H' F' (R.fr.out sm)
    · rw [if_neg z] at h; exact h.elim
/-- raise X('..') -/
def sRaise (x : XN) : Sf := fun r => some (.er x r)
theorem ds_raise {C : Addr} {bmB : List Value} {B newId initId : String} {xn : XN} {x m : Str} {j : Nat} {p p2 pos2 : Pos} (hc : X.calm = true) (tk : Takes X c.W) (F : ExcBaseFacts B newId initId bmB) (q : PySem.W.excIn X.K C bmB newId = true) (gC : X.mg x = some (.ref C)) (kC : PySem.W.keepIn X.K (.ref C) = true) (rs : Raises X (.ref C)) (ea : c.ax xn = C) (hg : Gl X x)
    (hdb : (x == ("__debug__" : Str)) = false := by decide) : PS X (.Raise (some (.Call (.Name x p) [.Constant (.str m) j p2] [] pos)) none pos2) (tsD c (sRaise xn)) := by
  refine PS.weak (ps_raise hc tk (pmk_own F q gC kC rs hg hdb)) fun D s H ⟨r, F, R, h⟩ => ?_
  have h' := h s H F R (Same.refl _)
  rw [ea] at h'
  exact h'
end
end DL

set_option Elab.async false
set_option linter.all false
set_option maxRecDepth 100000
/-! The data layer, 7: built-ins. -/
noncomputable section
namespace DL
open PySem L2

/-! ### lists of ints in data -/
def intsOf : List PyData → Option (List Int)
  | [] => some []
  | .int i :: r => (intsOf r).map (i :: ·)
  | _ => none
theorem intsOf_eq : ∀ {ds : List PyData} {ns : List Int}, intsOf ds = some ns → ds = ns.map PyData.int
  | [], ns, h => by cases h; rfl
  | .int i :: q, ns, h => by
    rw [intsOf] at h
    cases z : intsOf q with
    | none => rw [z] at h; cases h
    | some ms =>
      rw [z] at h
      cases h
      rw [intsOf_eq z]; rfl
  | .none :: q, ns, h => by simp [intsOf] at h
  | .bool _ :: q, ns, h => by simp [intsOf] at h
  | .str _ :: q, ns, h => by simp [intsOf] at h
  | .list _ :: q, ns, h => by simp [intsOf] at h
  | .tuple _ :: q, ns, h => by simp [intsOf] at h
  | .dict _ :: q, ns, h => by simp [intsOf] at h
@[simp] theorem intsOf_map : ∀ ns : List Int, intsOf (ns.map PyData.int) = some ns
  | [] => rfl
  | n :: r => by rw [List.map_cons, intsOf, intsOf_map r]; rfl
def blsOf : List PyData → Option (List Bool)
  | [] => some []
  | .bool i :: r => (blsOf r).map (i :: ·)
  | _ => none
theorem blsOf_eq : ∀ {ds : List PyData} {ns : List Bool}, blsOf ds = some ns → ds = ns.map PyData.bool
  | [], ns, h => by cases h; rfl
  | .bool i :: q, ns, h => by
    rw [blsOf] at h
    cases z : blsOf q with
    | none => rw [z] at h; cases h
    | some ms =>
      rw [z] at h
      cases h
      rw [blsOf_eq z]; rfl
  | .none :: q, ns, h => by simp [blsOf] at h
  | .int _ :: q, ns, h => by simp [blsOf] at h
  | .str _ :: q, ns, h => by simp [blsOf] at h
  | .list _ :: q, ns, h => by simp [blsOf] at h
  | .tuple _ :: q, ns, h => by simp [blsOf] at h
  | .dict _ :: q, ns, h => by simp [blsOf] at h
@[simp] theorem blsOf_map : ∀ ns : List Bool, blsOf (ns.map PyData.bool) = some ns
  | [] => rfl
  | n :: r => by rw [List.map_cons, blsOf, blsOf_map r]; rfl
theorem bp_one {K : PySem.W.Frag} {ax : XN → Addr} {H F : Hp} {vs : List V} {d : PyData} (h : BpAll K ax H F vs [d]) : ∃ v, vs = [v] ∧ Bp K ax H F v d := by
  cases h with | cons h1 h2 => cases h2; exact ⟨_, rfl, h1⟩
theorem bp_two {K : PySem.W.Frag} {ax : XN → Addr} {H F : Hp} {vs : List V} {d e : PyData} (h : BpAll K ax H F vs [d, e]) : ∃ v u, vs = [v, u] ∧ Bp K ax H F v d ∧ Bp K ax H F u e := by
  cases h with | cons h1 h2 => cases h2 with | cons h2 h3 => cases h3; exact ⟨_, _, rfl, h1, h2⟩

section
variable {X : Cx} {c : Cc} {e a b : Expr} {f g : Ef} {pos : Pos} {af : Af} {es : List Expr}

/-! ### len, list, tuple, int, str, min, max, any, all, sum -/
def oLen : List PyData → M PyData
  | [.list xs] => ok (.int xs.length)
  | [.tuple xs] => ok (.int xs.length)
  | [.str z] => if z.length ≤ lim then ok (.int z.length) else none
  | _ => none
def rLen (K : PySem.W.Frag) : List V → Hp → VK → Prop := fun xs H Q => (∃ p ys, xs = [.ref p] ∧ (SqL K H p ys ∨ SqT K H p ys) ∧ Q (.int ys.length) H) ∨ (∃ z, xs = [.str z] ∧ z.length ≤ sizeLine ∧ Q (.int z.length) H)
theorem cl_len : CallR X (.builtin "len") (rLen X.K) := call_len_seq.or call_len_str
theorem cs_len : CallS c (rLen c.K) oLen := by
  intro r s H F vs ds Q R hv h
  unfold oLen at h
  split at h
  · obtain ⟨v, rfl, hb⟩ := bp_one hv
    obtain ⟨p, ws, rfl, hs, hd⟩ := hb.list R.fr.sub
    exact .inl ⟨p, ws, rfl, .inl hs, by rw [dpAll_len hd]; exact h.now R _ (.int _)⟩
  · obtain ⟨v, rfl, hb⟩ := bp_one hv
    obtain ⟨p, ws, rfl, hs, hd⟩ := hb.tup R.fr.sub
    exact .inl ⟨p, ws, rfl, .inr hs, by rw [dpAll_len hd]; exact h.now R _ (.int _)⟩
  · obtain ⟨v, rfl, hb⟩ := bp_one hv
    split at h
    · rename_i z
      rw [hb.str]
      exact .inr ⟨_, rfl, lim_line z, h.now R _ (.int _)⟩
    · exact h.elim
  · exact h.elim
def oList : List PyData → M PyData
  | [.list xs] => ok (.list xs)
  | [.tuple xs] => ok (.list xs)
  | _ => none
def rListOf (K : PySem.W.Frag) : List V → Hp → VK → Prop := fun xs H Q => ∃ p ys, xs = [.ref p] ∧ (SqL K H p ys ∨ SqT K H p ys) ∧ ∀ l, H l = none → Q (.ref l) (upd H l (.lst ys))
theorem cs_list : CallS c (rListOf c.K) oList := by
  intro r s H F vs ds Q R hv h
  unfold oList at h
  split at h
  · obtain ⟨v, rfl, hb⟩ := bp_one hv
    obtain ⟨p, ws, rfl, hs, hd⟩ := hb.list R.fr.sub
    exact ⟨p, ws, rfl, .inl hs, fun l nl => have z := lay_l R h nl hd; z.1 _ z.2⟩
  · obtain ⟨v, rfl, hb⟩ := bp_one hv
    obtain ⟨p, ws, rfl, hs, hd⟩ := hb.tup R.fr.sub
    exact ⟨p, ws, rfl, .inr hs, fun l nl => have z := lay_l R h nl hd; z.1 _ z.2⟩
  · exact h.elim
def oTuple : List PyData → M PyData
  | [.list xs] => ok (.tuple xs)
  | [.tuple xs] => ok (.tuple xs)
  | _ => none
theorem cs_tuple : CallS c (rTupOf c.K) oTuple := by
  intro r s H F vs ds Q R hv h
  unfold oTuple at h
  split at h
  · obtain ⟨v, rfl, hb⟩ := bp_one hv
    obtain ⟨p, ws, rfl, hs, hd⟩ := hb.list R.fr.sub
    exact ⟨p, ws, rfl, .inl ⟨hs, fun l ob nl od => have z := lay_t R h nl od hd; z.1 _ z.2⟩⟩
  · obtain ⟨v, rfl, hb⟩ := bp_one hv
    obtain ⟨p, ws, rfl, hs, hd⟩ := hb.tup R.fr.sub
    refine ⟨p, ws, rfl, .inr ⟨hs, ?_⟩⟩
    rcases hb with hb | ⟨_, _, _, _, ey, _⟩
    · exact h.now R _ hb
    · cases ey
  · exact h.elim
def oInt : List PyData → M PyData
  | [.int i] => ok (.int i)
  | [.bool k] => ok (.int (if k then 1 else 0))
  | _ => none
theorem cs_int : CallS c (fun xs H Q => (∃ i, xs = [.int i] ∧ Q (.int i) H) ∨ ∃ k, xs = [.bl k] ∧ Q (.int (if k then 1 else 0)) H) oInt := by
  intro r s H F vs ds Q R hv h
  unfold oInt at h
  split at h
  · obtain ⟨v, rfl, hb⟩ := bp_one hv
    rw [hb.int]
    exact .inl ⟨_, rfl, h.now R _ (.int _)⟩
  · obtain ⟨v, rfl, hb⟩ := bp_one hv
    rw [hb.bool]
    exact .inr ⟨_, rfl, h.now R _ (.int _)⟩
  · exact h.elim
def oStr : List PyData → M PyData
  | [.int i] => if inW i = true then ok (.str (toString i)) else none
  | _ => none
theorem cs_str : CallS c (fun xs H Q => ∃ i, xs = [.int i] ∧ i.natAbs.log2 < 1920 ∧ Q (.str (toString i)) H) oStr := by
  intro r s H F vs ds Q R hv h
  unfold oStr at h
  split at h
  · split at h
    · rename_i i z
      have z : i.natAbs < 2 ^ 64 := by have := inW_of.mp z; omega
      obtain ⟨v, rfl, hb⟩ := bp_one hv
      rw [hb.int]
      refine ⟨_, rfl, ?_, h.now R _ (.str _)⟩
      by_cases z0 : i.natAbs = 0
      · rw [z0]; decide
      · exact Nat.lt_of_lt_of_le ((Nat.log2_lt z0).mpr z) (by decide)
    · exact h.elim
  · exact h.elim
def oMax2 : List PyData → M PyData
  | [.int i, .int j] => ok (.int (if j > i then j else i))
  | _ => none
def oMin2 : List PyData → M PyData
  | [.int i, .int j] => ok (.int (if j < i then j else i))
  | _ => none
theorem cs_max2 : CallS c (fun xs H Q => ∃ i j, xs = [.int i, .int j] ∧ Q (.int (if j > i then j else i)) H) oMax2 := by
  intro r s H F vs ds Q R hv h
  unfold oMax2 at h
  split at h
  · obtain ⟨v, u, rfl, h1, h2⟩ := bp_two hv
    rw [h1.int, h2.int]
    exact ⟨_, _, rfl, h.now R _ (.int _)⟩
  · exact h.elim
theorem cs_min2 : CallS c (fun xs H Q => ∃ i j, xs = [.int i, .int j] ∧ Q (.int (if j < i then j else i)) H) oMin2 := by
  intro r s H F vs ds Q R hv h
  unfold oMin2 at h
  split at h
  · obtain ⟨v, u, rfl, h1, h2⟩ := bp_two hv
    rw [h1.int, h2.int]
    exact ⟨_, _, rfl, h.now R _ (.int _)⟩
  · exact h.elim
def oAny : List PyData → M PyData
  | [.list xs] => match blsOf xs with
    | some bs => ok (.bool (bs.any id))
    | none => none
  | _ => none
def oAll : List PyData → M PyData
  | [.list xs] => match blsOf xs with
    | some bs => ok (.bool (bs.all id))
    | none => none
  | _ => none
def oSum : List PyData → M PyData
  | [.list xs] => match intsOf xs with
    | some ns => ok (.int ns.sum)
    | none => none
  | _ => none
theorem cs_any : CallS c (rAny c.K) oAny := by
  intro r s H F vs ds Q R hv h
  unfold oAny at h
  split at h
  · split at h
    · rename_i e
      obtain ⟨v, rfl, hb⟩ := bp_one hv
      obtain ⟨p, ws, rfl, hs, hd⟩ := hb.list R.fr.sub
      rw [blsOf_eq e] at hd
      exact ⟨p, _, rfl, by rw [← dpAll_bls hd]; exact hs, h.now R _ (.bl _)⟩
    · exact h.elim
  · exact h.elim
theorem cs_all : CallS c (rAll c.K) oAll := by
  intro r s H F vs ds Q R hv h
  unfold oAll at h
  split at h
  · split at h
    · rename_i e
      obtain ⟨v, rfl, hb⟩ := bp_one hv
      obtain ⟨p, ws, rfl, hs, hd⟩ := hb.list R.fr.sub
      rw [blsOf_eq e] at hd
      exact ⟨p, _, rfl, by rw [← dpAll_bls hd]; exact hs, h.now R _ (.bl _)⟩
    · exact h.elim
  · exact h.elim
theorem cs_sum : CallS c (rSum c.K) oSum := by
  intro r s H F vs ds Q R hv h
  unfold oSum at h
  split at h
  · split at h
    · rename_i e
      obtain ⟨v, rfl, hb⟩ := bp_one hv
      obtain ⟨p, ws, rfl, hs, hd⟩ := hb.list R.fr.sub
      rw [intsOf_eq e] at hd
      exact ⟨p, _, rfl, by rw [← dpAll_ints hd]; exact hs, h.now R _ (.int _)⟩
    · exact h.elim
  · exact h.elim
/-- the greatest -/
def greatest : List Int → Int
  | [] => 0
  | [x] => x
  | x :: r => if greatest r > x then greatest r else x
theorem greatest_mem : ∀ {l : List Int}, l ≠ [] → greatest l ∈ l
  | [], h => absurd rfl h
  | [x], _ => by simp [greatest]
  | x :: y :: r, _ => by
    have ih := greatest_mem (l := y :: r) (by simp)
    show (if greatest (y :: r) > x then greatest (y :: r) else x) ∈ _
    split
    · exact List.mem_cons_of_mem _ ih
    · exact List.mem_cons_self
theorem greatest_ge : ∀ {l : List Int} {z : Int}, z ∈ l → z ≤ greatest l
  | [], z, h => by simp at h
  | [x], z, h => by simp at h; subst h; exact Int.le_refl _
  | x :: y :: r, z, h => by
    show z ≤ (if greatest (y :: r) > x then greatest (y :: r) else x)
    rcases List.mem_cons.mp h with rfl | h
    · split <;> omega
    · have ih := greatest_ge (l := y :: r) h
      split <;> omega
def oMaxL : List PyData → M PyData
  | [.list xs] => match intsOf xs with
    | some (n :: ns) => ok (.int (greatest (n :: ns)))
    | _ => none
  | _ => none
theorem cs_maxL : CallS c (rMax c.K) oMaxL := by
  intro r s H F vs ds Q R hv h
  unfold oMaxL at h
  split at h
  · split at h
    · rename_i n ns e
      obtain ⟨v, rfl, hb⟩ := bp_one hv
      obtain ⟨p, ws, rfl, hs, hd⟩ := hb.list R.fr.sub
      rw [intsOf_eq e] at hd
      refine ⟨p, _, rfl, by rw [← dpAll_ints hd]; exact hs, by simp, fun m hm hall => ?_⟩
      have e1 : m = greatest (n :: ns) := by
        have := hall _ (greatest_mem (by simp))
        have := greatest_ge hm
        omega
      rw [e1]
      exact h.now R _ (.int _)
    · exact h.elim
  · exact h.elim

/-! ### sorted ints -/
def ins (x : Int) : List Int → List Int
  | [] => [x]
  | y :: r => if x ≤ y then x :: y :: r else y :: ins x r
def isort : List Int → List Int
  | [] => []
  | x :: r => ins x (isort r)
theorem ins_perm (x : Int) : ∀ l : List Int, (ins x l).Perm (x :: l)
  | [] => List.Perm.refl _
  | y :: r => by
    unfold ins
    split
    · exact List.Perm.refl _
    · exact ((ins_perm x r).cons y).trans (List.Perm.swap x y r)
theorem isort_perm : ∀ l : List Int, (isort l).Perm l
  | [] => List.Perm.refl _
  | x :: r => (ins_perm x _).trans ((isort_perm r).cons x)
theorem ins_sorted (x : Int) : ∀ {l : List Int}, l.Pairwise (· ≤ ·) → (ins x l).Pairwise (· ≤ ·)
  | [], _ => by simp [ins]
  | y :: r, h => by
    unfold ins
    rw [List.pairwise_cons] at h
    split
    · rename_i hxy
      refine List.pairwise_cons.mpr ⟨fun z hz => ?_, List.pairwise_cons.mpr h⟩
      rcases List.mem_cons.mp hz with rfl | hz
      · exact hxy
      · exact Int.le_trans hxy (h.1 z hz)
    · rename_i hxy
      refine List.pairwise_cons.mpr ⟨fun z hz => ?_, ins_sorted x h.2⟩
      rcases List.mem_cons.mp ((ins_perm x r).mem_iff.mp hz) with rfl | hz
      · omega
      · exact h.1 z hz
theorem isort_sorted : ∀ l : List Int, (isort l).Pairwise (· ≤ ·)
  | [] => List.Pairwise.nil
  | x :: r => ins_sorted x (isort_sorted r)
theorem isort_of {l m : List Int} (hp : m.Perm l) (hs : m.Pairwise (· ≤ ·)) : m = isort l :=
  (hp.trans (isort_perm l).symm).eq_of_pairwise (fun _ _ _ _ h1 h2 => Int.le_antisymm h1 h2) hs (isort_sorted l)
def oSorted : List PyData → M PyData
  | [.list xs] => match intsOf xs with
    | some ns => ok (.list ((isort ns).map .int))
    | none => none
  | _ => none
theorem cs_sorted : CallS c (rSortedI c.K) oSorted := by
  intro r s H F vs ds Q R hv h
  unfold oSorted at h
  split at h
  · split at h
    · rename_i e
      obtain ⟨v, rfl, hb⟩ := bp_one hv
      obtain ⟨p, ws, rfl, hs, hd⟩ := hb.list R.fr.sub
      rw [intsOf_eq e] at hd
      refine ⟨p, _, rfl, by rw [← dpAll_ints hd]; exact hs, fun ns' q hp hs np => ?_⟩
      rw [isort_of hp hs]
      have z := lay_l R h np dpAll_of_ints
      exact z.1 _ z.2
    · exact h.elim
  · exact h.elim
end

/-! ### sorted of a tuple of ints -/
section
open PySem.Spec PyProof.Rows SrtO
variable {prog : Program} {w : World} {A : Around} {E : Value → Shared → Prop} {s : Shared}
theorem sorted_tupI {l : Addr} {vs : List Value} {ns : List Int} {Q : Value → Shared → Prop} (hl : IsTup s.heap l vs.toArray) (hi : IntsAre vs ns) (hz : vs.length ≤ sizeLine)
    (h : ∀ (h' : Heap) (d : Addr) (out : List Value) (ns' : List Int) (n : Nat), IntsAre out ns' → ns'.Perm ns → ns'.Pairwise (· ≤ ·) → (∀ b o, s.heap.get? b = some o → h'.get? b = some o) → s.heap.get? d = none → h'.get? d = some (seqObj "list" out.toArray n) → Q (.ref d) { s with heap := h' }) :
    wpAny (model prog w) A (call (.builtin "sorted") [.ref l]) Q E s := by
  obtain ⟨o, ho, hc, n0, hd⟩ := hl
  refine Calls.call_function_entry kind_sorted plain_sorted entry_sorted (args_sorted1 _) ?_
  unfold Builtin.«sorted»
  refine wpAny_bind (m := checkCount "sorted" 1 1 _) (wpAny_pure ?_)
  refine wpAny_bind (wpAny_collect_seq l (.inr rfl) ho hc hd (fun h1 k1 => ?_) (by rw [List.size_toArray]; exact hz))
  refine wpAny_bind (wpAny_newList ?_ hz)
  have hoL : (h1.push (seqObj "list" vs.toArray 0)).get? h1.objs.size = some (seqObj "list" vs.toArray 0) := Heap.get?_push_size _ rfl
  have gone : s.heap.get? h1.objs.size = none := by
    cases q : s.heap.get? h1.objs.size with
    | none => rfl
    | some o2 => exact absurd (Heap.lt_size (k1 _ o2 q)) (Nat.lt_irrefl _)
  refine wpAny_bind (wpAny_holding (wpAny_call_entry slot_list_sort ⟨_, hoL, rfl⟩ entry_list_sort (list_sort_ord (ltv := ltIv) swo_int hoL hz (fun h2 => ints_sortable hi h2) fun out hs hb => ⟨_, rfl, ?_⟩) (args_list_sort _)))
  refine wpAny_pure ⟨_, rfl, ?_⟩
  obtain ⟨z1, z2, z3⟩ := ints_out hi hs hb
  obtain ⟨n, hat⟩ := sortedHeap_at (out := out.toArray) hoL
  refine h _ _ out _ n z1 z2 z3 (fun b o2 e => ?_) gone hat
  have e1 := k1 b o2 e
  have lt1 := Heap.lt_size e1
  rw [sortedHeap_old (Nat.ne_of_lt lt1) (by rw [Heap.size_push]; exact Nat.lt_succ_of_lt lt1)]
  exact Heap.get?_push_of_some _ e1
end
end DL

set_option Elab.async false
set_option linter.all false
set_option maxRecDepth 100000
/-! The data layer, 8: more built-ins, methods. -/
noncomputable section
namespace DL
open PySem PySem.Spec PyProof.Rows L2

section
variable {X : Cx} {c : Cc} {e a b o : Expr} {f g : Ef} {pos : Pos} {af : Af} {es : List Expr}

/-! ### sorted -/
def rSortedT (K : PySem.W.Frag) : List V → Hp → VK → Prop := fun vs H Q => ∃ (a : Addr) (ns : List Int), vs = [V.ref a] ∧ SqT K H a (ns.map V.int) ∧
  ∀ (ns' : List Int) (p : Addr), ns'.Perm ns → ns'.Pairwise (· ≤ ·) → H p = none → Q (.ref p) (upd H p (.lst (ns'.map V.int)))
theorem cl_sortedT : CallR X (.builtin "sorted") (rSortedT X.K) := by
  intro pins s σ H vs us Q I r h
  obtain ⟨a, ns, rfl, hs, q⟩ := h
  obtain ⟨its, rv, hl, hz⟩ := I.tuple hs
  rw [Vals.ref1 r]
  have hi := rv.ints
  refine sorted_tupI hl hi (by rw [← rv.length]; exact hz) fun h' d out ns' n z1 z2 z3 k gone hat => ?_
  have hn : H d = none := I.hok.gone gone
  have hlen : (ns'.map V.int).length ≤ sizeLine := by
    rw [List.length_map, z2.length_eq]
    rw [List.length_map] at hz
    exact hz
  exact ⟨.ref d, _, I.laidN (t' := s.toks) k gone hn (show ObjOk X.prog X.w _ _ _ (.lst (ns'.map V.int)) from ⟨hlen, out, n, vals_of_ints z1, hat⟩), rfl, q _ _ z2 z3 hn⟩
def oSortedA : List PyData → M PyData
  | [.list xs] => match intsOf xs with
    | some ns => ok (.list ((isort ns).map .int))
    | none => none
  | [.tuple xs] => match intsOf xs with
    | some ns => ok (.list ((isort ns).map .int))
    | none => none
  | _ => none
def rSortedA (K : PySem.W.Frag) : List V → Hp → VK → Prop := fun vs H Q => rSortedI K vs H Q ∨ rSortedT K vs H Q
theorem cl_sortedA : CallR X (.builtin "sorted") (rSortedA X.K) := cr_sortedI.or cl_sortedT
theorem cs_sortedA : CallS c (rSortedA c.K) oSortedA := by
  intro r s H F vs ds Q R hv h
  unfold oSortedA at h
  split at h
  · split at h
    · rename_i e
      obtain ⟨v, rfl, hb⟩ := bp_one hv
      obtain ⟨p, ws, rfl, hs, hd⟩ := hb.list R.fr.sub
      rw [intsOf_eq e] at hd
      refine .inl ⟨p, _, rfl, by rw [← dpAll_ints hd]; exact hs, fun ns' q hp hs np => ?_⟩
      rw [isort_of hp hs]
      have z := lay_l R h np dpAll_of_ints
      exact z.1 _ z.2
    · exact h.elim
  · split at h
    · rename_i e
      obtain ⟨v, rfl, hb⟩ := bp_one hv
      obtain ⟨p, ws, rfl, hs, hd⟩ := hb.tup R.fr.sub
      rw [intsOf_eq e] at hd
      refine .inr ⟨p, _, rfl, by rw [← dpAll_ints hd]; exact hs, fun ns' q hp hs np => ?_⟩
      rw [isort_of hp hs]
      have z := lay_l R h np dpAll_of_ints
      exact z.1 _ z.2
    · exact h.elim
  · exact h.elim

/-! ### len(set(t)) -/
def dd : List Int → List Int
  | [] => []
  | x :: r => if x ∈ r then dd r else x :: dd r
theorem mem_dd {z : Int} : ∀ {l : List Int}, z ∈ dd l ↔ z ∈ l
  | [] => Iff.rfl
  | x :: r => by
    unfold dd
    split
    · rename_i h
      rw [mem_dd, List.mem_cons]
      exact ⟨.inr, fun q => q.elim (fun e => e ▸ h) id⟩
    · rw [List.mem_cons, List.mem_cons, mem_dd]
theorem nodup_dd : ∀ l : List Int, (dd l).Nodup
  | [] => List.nodup_nil
  | x :: r => by
    unfold dd
    split
    · exact nodup_dd r
    · rename_i h
      exact List.nodup_cons.mpr ⟨fun q => h (mem_dd.mp q), nodup_dd r⟩
theorem nodup_len_le : ∀ {l m : List Int}, l.Nodup → (∀ z ∈ l, z ∈ m) → l.length ≤ m.length
  | [], m, _, _ => Nat.zero_le _
  | x :: r, m, h, s => by
    rw [List.nodup_cons] at h
    have hx := s x List.mem_cons_self
    have ih := nodup_len_le (l := r) (m := m.erase x) h.2 fun z hz => (List.mem_erase_of_ne (fun (e : z = x) => h.1 (by rw [← e]; exact hz))).mpr (s z (List.mem_cons_of_mem _ hz))
    rw [List.length_erase_of_mem hx] at ih
    have : 0 < m.length := List.length_pos_of_mem hx
    rw [List.length_cons]; omega
theorem nodup_len {l m : List Int} (h : l.Nodup) (g : m.Nodup) (s : ∀ z, z ∈ l ↔ z ∈ m) : l.length = m.length :=
  Nat.le_antisymm (nodup_len_le h fun z => (s z).mp) (nodup_len_le g fun z => (s z).mpr)
theorem dd_len (l : List Int) : (dd l).length = l.length ↔ l.Nodup := by
  constructor
  · intro h
    induction l with
    | nil => exact List.nodup_nil
    | cons x r ih =>
      unfold dd at h
      have le : (dd r).length ≤ r.length := nodup_len_le (nodup_dd r) fun z => mem_dd.mp
      split at h
      · rw [List.length_cons] at h; omega
      · rename_i hx
        rw [List.length_cons, List.length_cons] at h
        exact List.nodup_cons.mpr ⟨hx, ih (by omega)⟩
  · intro h
    exact nodup_len (nodup_dd l) h fun z => mem_dd
def oLenSet : PyData → M PyData
  | .tuple xs => match intsOf xs with
    | some ns => if ns.length < 4000 then ok (.int (dd ns).length) else none
    | none => none
  | _ => none
def tLenSetT (K : PySem.W.Frag) (ta : TE) : TE := fun σ H Q => ta σ H fun x H1 => ∃ (l : Addr) (ns : List Int), x = .ref l ∧ SqT K H1 l (ns.map V.int) ∧ ns.length < 4000 ∧ Q (.int ((dd ns).length : Nat)) H1
theorem pe_lenSetT {ta : TE} {p p2 q : Pos} (hc : X.calm = true) (hg : Gl X "len") (hm : X.mg "len" = none) (hg2 : Gl X "set") (hm2 : X.mg "set" = none) (ha : PE X a ta)
    (na : starEach [a] X.env = (false, eval a X.env) :: starEach [] X.env := by rfl) : PE X (.Call (.Name "len" p) [.Call (.Name "set" p2) [a] [] q] [] pos) (tLenSetT X.K ta) := by
  refine ⟨fun pins s σ H Q I h => ?_⟩
  refine Call_ (ld_blt I hg hm boot_len ?_)
  refine PyProof.Rows.callWith_builtin1 (PyProof.Rows.args_cons ?_ rfl) rfl rfl
  refine Call_ (ld_blt I hg2 hm2 boot_set ?_)
  refine PyProof.Rows.callWith_type1 (PyProof.Rows.args_cons (thn (ha.run pins s σ H _ I h) fun v s1 ⟨x, H1, I1, r1, q1⟩ => PyProof.Rows.args_nil ?_) na) na rfl
  obtain ⟨l, ns, rfl, hq, hl, q1⟩ := q1
  cases r1
  obtain ⟨its, r, pl, hz⟩ := I1.tuple hq
  refine call_set_tupI ns (I1.ok.hd hc) pl (by simpa using r.ints) (by unfold scanBound; omega) fun h' tk cc hS hcc hk => ?_
  refine PyProof.Rows.args_nil ?_
  obtain ⟨o, es, ep, t, ho, hex, hd, hg, hnd, hmem, hsc, hf, hn, _⟩ := hS
  have I2 : L2.Inv X pins σ H1 { s1 with heap := h', toks := tk } := I1.kept hk
  have ec : cc = (dd ns).length := by
    rw [← hn, ← Array.length_toList, ← List.length_map (f := keyOf)]
    refine nodup_len hnd (nodup_dd ns) fun z => ?_
    rw [← hmem, mem_dd]
    exact decide_eq_true_iff
  exact PySem.call_len_set ho hex hd hf (by omega) ⟨.int ((dd ns).length : Nat), H1, I2.tok _, ⟨_, by rw [hn, ec]⟩, q1⟩
theorem de_lenSet {p p2 q : Pos} (hc : X.calm = true) (hg : Gl X "len") (hm : X.mg "len" = none) (hg2 : Gl X "set") (hm2 : X.mg "set" = none) (ha : PE X a (teB c f)) (hK : X.K = c.K := by rfl)
    (na : starEach [a] X.env = (false, eval a X.env) :: starEach [] X.env := by rfl) : PE X (.Call (.Name "len" p) [.Call (.Name "set" p2) [a] [] q] [] pos) (teD c (e1 oLenSet f)) := by
  refine PE.weak (pe_lenSetT hc hg hm hg2 hm2 ha na) fun s H Q ⟨r, F, R, k⟩ => ⟨r, F, R, k.bnd.imp fun x H1 F1 R1 m1 k1 v hv => ?_⟩
  unfold oLenSet at k1
  split at k1
  · split at k1
    · split at k1
      · rename_i e z
        obtain ⟨p, ws, rfl, hs, hd⟩ := hv.tup R1.fr.sub
        rw [intsOf_eq e] at hd
        exact ⟨p, _, rfl, by rw [hK, ← dpAll_ints hd]; exact hs, z, k1.now R1 _ (.int _)⟩
      · exact k1.elim
    · exact k1.elim
  · exact k1.elim

/-! ### the order of lists and tuples of ints -/
theorem firstLt_map {e r : Nat → Bool} {z : Bool} {g : Nat → Nat} : ∀ {l : List Nat}, SeqAt.firstLt e r z (l.map g) = SeqAt.firstLt (fun j => e (g j)) (fun j => r (g j)) z l
  | [] => rfl
  | j :: t => by
    rw [List.map_cons]
    unfold SeqAt.firstLt
    rw [firstLt_map]
theorem firstLt_lex : ∀ (ns ms : List Int), SeqAt.firstLt (fun j => decide (ns.getD j 0 = ms.getD j 0)) (fun j => decide (ns.getD j 0 < ms.getD j 0)) (decide (ns.length < ms.length)) (List.range (min ns.length ms.length)) = HT.lexLt ns ms
  | [], [] => rfl
  | [], m :: ms => by simp [SeqAt.firstLt, HT.lexLt]
  | n :: ns, [] => by simp [SeqAt.firstLt, HT.lexLt]
  | n :: ns, m :: ms => by
    have e1 : min (n :: ns).length (m :: ms).length = min ns.length ms.length + 1 := by rw [List.length_cons, List.length_cons]; omega
    have ih := firstLt_lex ns ms
    rw [e1, List.range_succ_eq_map]
    unfold SeqAt.firstLt
    rw [firstLt_map, HT.lexLt_cons]
    by_cases h : n = m
    · rw [if_pos (by simp [h]), if_pos h, ← ih]
      simp only [List.getD_cons_succ, List.length_cons, Nat.add_lt_add_iff_right]
    · rw [if_neg (by simp [h]), if_neg h]
      rfl
def rLtS (K : PySem.W.Frag) : R2 := fun x y H Q => ∃ a b ns ms, x = .ref a ∧ y = .ref b ∧ SqL K H a (ns.map V.int) ∧ SqL K H b (ms.map V.int) ∧ Q (.bl (HT.lexLt ns ms)) H
theorem op_ltS (hu : X.A.units < cLine) : OpR X (compareOp .Lt) (rLtS X.K) := by
  intro pins s σ H x y v u Q I rx ry h
  obtain ⟨a, b, ns, ms, rfl, rfl, ha, hb, q⟩ := h
  cases rx
  cases ry
  obtain ⟨its, r1, p1, _⟩ := I.list ha
  obtain ⟨its2, r2, p2, _⟩ := I.list hb
  have i1 : IntsAre its ns := r1.ints
  have i2 : IntsAre its2 ms := r2.ints
  have e1 : its.toArray.size = ns.length := by rw [List.size_toArray]; exact i1.length
  have e2 : its2.toArray.size = ms.length := by rw [List.size_toArray]; exact i2.length
  have at1 : ∀ j (h1 : j < its.toArray.size), ∃ t, its.toArray[j] = .int (ns.getD j 0) t := fun j h1 => PyProof.Rows.IntsAre.int_at i1 _ _ (by simp at h1; simp [h1])
  have at2 : ∀ j (h1 : j < its2.toArray.size), ∃ t, its2.toArray[j] = .int (ms.getD j 0) t := fun j h1 => PyProof.Rows.IntsAre.int_at i2 _ _ (by simp at h1; simp [h1])
  have L := SeqAt.RcLt.lists (A := X.A) (s := s) (e := fun j => decide (ns.getD j 0 = ms.getD j 0)) (r := fun j => decide (ns.getD j 0 < ms.getD j 0)) p1.isList p2.isList hu
    (fun j h1 h2 => by
      obtain ⟨t, et⟩ := at1 j h1
      obtain ⟨t', et'⟩ := at2 j h2
      rw [et, et', ← Bool.beq_eq_decide_eq]
      exact SeqAt.EqAt.int_int _ _ _ _)
    (fun j h1 h2 _ => by
      obtain ⟨t, et⟩ := at1 j h1
      obtain ⟨t', et'⟩ := at2 j h2
      rw [et, et']
      exact fun prog w E Q q => HT.rcLt_int _ _ _ _ _ _ prog w E Q q)
  rw [e1, e2, firstLt_lex] at L
  have z : wpAny (model X.prog X.w) X.A (compareOp .Lt (.ref a) (.ref b)) (EP X pins σ Q) X.xe s := L X.prog X.w X.xe (EP X pins σ Q) ⟨.bl _, H, I, rfl, q⟩
  exact z
def oLtA : PyData → PyData → M PyData
  | .int i, .int j => ok (.bool (decide (i < j)))
  | .list xs, .list ys => match intsOf xs, intsOf ys with
    | some ns, some ms => ok (.bool (HT.lexLt ns ms))
    | _, _ => none
  | .tuple xs, .tuple ys => match intsOf xs, intsOf ys with
    | some ns, some ms => ok (.bool (HT.lexLt ns ms))
    | _, _ => none
  | _, _ => none
def rLtA (K : PySem.W.Frag) : R2 := fun x y H Q => (rI0 fun i j => .bl (decide (i < j))) x y H Q ∨ (rLtS K x y H Q ∨ rLtT K x y H Q)
theorem op_ltA (hu : X.A.units < cLine) : OpR X (compareOp .Lt) (rLtA X.K) := op_lt.or ((op_ltS hu).or (op_ltT hu))
theorem os_ltA : OpS c (rLtA c.K) oLtA := by
  intro r s H F x y a b Q R hx hy h
  unfold oLtA at h
  split at h
  · exact .inl ⟨_, _, hx.int, hy.int, h.now R _ (.bl _)⟩
  · split at h
    · rename_i e1 e2
      obtain ⟨p, vs, rfl, hs, hd⟩ := hx.list R.fr.sub
      obtain ⟨q, ws, rfl, ht, he⟩ := hy.list R.fr.sub
      rw [intsOf_eq e1] at hd
      rw [intsOf_eq e2] at he
      exact .inr (.inl ⟨p, q, _, _, rfl, rfl, by rw [← dpAll_ints hd]; exact hs, by rw [← dpAll_ints he]; exact ht, h.now R _ (.bl _)⟩)
    · exact h.elim
  · split at h
    · rename_i e1 e2
      obtain ⟨p, vs, rfl, hs, hd⟩ := hx.tup R.fr.sub
      obtain ⟨q, ws, rfl, ht, he⟩ := hy.tup R.fr.sub
      rw [intsOf_eq e1] at hd
      rw [intsOf_eq e2] at he
      exact .inr (.inr ⟨p, q, _, _, rfl, rfl, by rw [← dpAll_ints hd]; exact hs, by rw [← dpAll_ints he]; exact ht, h.now R _ (.bl _)⟩)
    · exact h.elim
  · exact h.elim

/-! ### list(range(n)) -/
def oRng : PyData → M PyData
  | .int n => if inL n = true then ok (.list (rng 0 n.toNat)) else none
  | _ => none
def nRng (f : Ef) : Af := fun r => bnd (f r) fun x => match x with
  | .int n => if inL n = true then ok (rng 0 n.toNat) else none
  | _ => none
theorem dq_rng {K : PySem.W.Frag} {ax : XN → Addr} {F : Hp} {n : Int} : DqAll K ax F (rgV 0 n) (rng 0 n.toNat) := by
  have key : ∀ l : List Nat, DqAll K ax F (l.map fun i => V.int ((0 : Int) + (i : Nat))) (l.map fun i => PyData.int ((0 : Int) + (i : Nat))) := by
    intro l
    induction l with
    | nil => exact .nil
    | cons x l ih => exact .cons (.int _) ih
  unfold rgV rng
  rw [Int.sub_zero]
  exact key _
theorem do_rng {p p2 q : Pos} (hc : X.calm = true) (hg : Gl X "list") (hm : X.mg "list" = none) (hg2 : Gl X "range") (hm2 : X.mg "range" = none) (ha : PE X a (teD c f))
    (na : starEach [a] X.env = (false, eval a X.env) :: starEach [] X.env := by rfl) (nb : starEach [.Call (.Name "range" p2) [a] [] q] X.env = (false, eval (.Call (.Name "range" p2) [a] [] q) X.env) :: starEach [] X.env := by rfl) : PE X (.Call (.Name "list" p) [.Call (.Name "range" p2) [a] [] q] [] pos) (teO c (nRng f)) := by
  refine PE.weak (pe_listRg hc hg hm (prg_1 hg2 hm2 ha na) nb) fun s H Q ⟨r, F, R, k⟩ => ⟨r, F, R, k.bnd.imp fun x H1 F1 R1 m1 k1 v hv => ?_⟩
  split at k1
  · split at k1
    · rename_i n z
      cases hv
      have z1 := inL_iff.mp z
      refine ⟨n, rfl, ⟨by omega, by omega, by omega, by omega, by omega⟩, fun q nq => ?_⟩
      have m := More.loose (o := .lst (rgV 0 n)) R1.fr.sub nq
      exact k1 _ _ (R1.more m) m q _ upd_same (R1.fr.newF nq) (m1.h.free nq) dq_rng
    · exact k1.elim
  · exact k1.elim
/-- a new list out of a call that gives a new frozen one: list(x) -/
theorem do_list {p : Pos} (hg : Gl X "list") (hm : X.mg "list" = none) (ha : PE X a (teB c f)) (hK : X.K = c.K := by rfl)
    (na : starEach [a] X.env = (false, eval a X.env) :: starEach [] X.env := by rfl) : PE X (.Call (.Name "list" p) [a] [] pos) (teO c fun r => bnd (f r) fun x => match x with | .list xs => ok xs | .tuple xs => ok xs | _ => none) := by
  refine PE.weak (pe_callTy call_list_of hg hm (by decide +kernel) (pa_cons ha pa_nil na) (by decide) (by decide) na) fun s H Q ⟨r, F, R, k⟩ => ⟨r, F, R, k.bnd.imp fun x H1 F1 R1 m1 k1 v hv => ?_⟩
  split at k1
  · obtain ⟨p, vs, rfl, hs, hd⟩ := hv.list R1.fr.sub
    refine ⟨p, vs, rfl, .inl (by rw [hK]; exact hs), fun q nq => ?_⟩
    have m := More.loose (o := .lst vs) R1.fr.sub nq
    exact k1 _ _ (R1.more m) m q _ upd_same (R1.fr.newF nq) (m1.h.free nq) hd
  · obtain ⟨p, vs, rfl, hs, hd⟩ := hv.tup R1.fr.sub
    refine ⟨p, vs, rfl, .inr (by rw [hK]; exact hs), fun q nq => ?_⟩
    have m := More.loose (o := .lst vs) R1.fr.sub nq
    exact k1 _ _ (R1.more m) m q _ upd_same (R1.fr.newF nq) (m1.h.free nq) hd
  · exact k1.elim

/-! ### t.index(x), xs.index(x): flat items -/
def firstAt (d : PyData) : List PyData → Option Nat
  | [] => none
  | x :: r => if PyData.eqv x d = true then some 0 else (firstAt d r).map (· + 1)
theorem firstAt_some {d : PyData} : ∀ {l : List PyData} {j : Nat}, firstAt d l = some j → (∃ z, l[j]? = some z ∧ PyData.eqv z d = true) ∧ ∀ (m : Nat) (z : PyData), m < j → l[m]? = some z → PyData.eqv z d = false
  | [], j, h => by cases h
  | x :: r, j, h => by
    unfold firstAt at h
    split at h
    · rename_i z
      cases h
      exact ⟨⟨x, rfl, z⟩, fun m z hm => absurd hm (Nat.not_lt_zero _)⟩
    · rename_i z
      cases q : firstAt d r with
      | none => rw [q] at h; cases h
      | some k =>
        rw [q] at h
        cases h
        obtain ⟨⟨y, e1, e2⟩, h2⟩ := firstAt_some q
        refine ⟨⟨y, by simpa using e1, e2⟩, fun m y hm e => ?_⟩
        cases m with
        | zero => cases e; simpa using z
        | succ m =>
          have hm' : m + 1 < k + 1 := hm
          exact h2 m y (by omega) (by simpa using e)
def rTIndex (K : PySem.W.Frag) : V → List V → Hp → VK → Prop := fun x xs H Q => ∃ (p : Addr) (y : V) (d : PyData) (ds : List PyData) (vs : List V) (j : Nat) (z : PyData), x = V.ref p ∧ xs = [y] ∧ SqT K H p vs ∧ DpAll K H vs ds ∧ Dp K H y d ∧
  SeqAt.shaped (.tuple ds) = true ∧ SeqAt.shaped d = true ∧ ds[j]? = some z ∧ PyData.eqv z d = true ∧ (∀ (m : Nat) (z' : PyData), m < j → ds[m]? = some z' → PyData.eqv z' d = false) ∧ Q (.int (j : Nat)) H
theorem mt_tindex (hu : X.A.units + 65 < cLine) : MtR X "tuple.index" (rTIndex X.K) := by
  intro pins s σ H x xs v us Q I rx rxs h
  obtain ⟨p, y, d, ds, vs, j, z, rfl, rfl, hs, ha, hy, sl, sd, hz, hzj, hno, q⟩ := h
  cases rx
  cases rxs with
  | cons ry rt =>
    rename_i uy ut
    cases rt
    obtain ⟨bs, r1⟩ := Dp.reads I d y uy hy ry
    have hxs : PyData.canLayAll0 ds = true := canAll_of sl
    have hroom : X.A.units + 1 + min (PyData.depthAll ds) d.depth < cLine := room_in_tup sd hu
    obtain ⟨its, rv, ⟨⟨cls, dd, data, sls⟩, ho, hc, n, hdt⟩, hlen⟩ := I.tuple hs
    simp only at hc hdt
    subst hc hdt
    obtain ⟨as, h4⟩ := Dp.readsAll I ds _ its ha rv
    have hn : its.length = ds.length := SeqAt.ReadsAll.length ds its as h4
    have hmap : its.map (SeqAt.readOf s.heap) = ds := SeqAt.readsAll_map ds its as hxs h4
    obtain ⟨hjd, _⟩ := List.getElem?_eq_some_iff.mp hz
    have hj : j < its.toArray.size := by rw [List.size_toArray]; omega
    have look : ∀ (m : Nat) (hm : m < its.toArray.size) (z' : PyData), ds[m]? = some z' → SeqAt.readOf s.heap its.toArray[m] = z' := by
      intro m hm z' hz'
      have hml : m < its.length := by simpa using hm
      rw [← hmap, List.getElem?_map, List.getElem?_eq_getElem hml] at hz'
      have e1 : SeqAt.readOf s.heap its[m] = z' := Option.some.inj hz'
      simpa using e1
    refine call_meets PySem.F.slot_tuple_index ⟨_, ho, rfl⟩ PySem.F.entry_tuple_index (PySem.F.args_tuple_index_2 _ _)
      (_root_.TI.tuple_indexAt p its.toArray n dd sls uy (fun u => PyData.eqv (SeqAt.readOf s.heap u) d) j hj ?_ ?_) ⟨ho, SeqAt.items_eqAt (vs := its.toArray) (show ReadsAll s.heap its.toArray.toList ds as from h4) r1 hxs (SeqAt.canLay_of_shaped sd) hroom, ⟨.int (j : Nat), H, I.tok _, ⟨_, rfl⟩, q⟩⟩
    · show PyData.eqv (SeqAt.readOf s.heap its.toArray[j]) d = true
      rw [look j hj z hz]
      exact hzj
    · intro m hm hmj
      have hmd : m < ds.length := by omega
      show PyData.eqv (SeqAt.readOf s.heap its.toArray[m]) d = false
      rw [look m hm _ (List.getElem?_eq_getElem hmd)]
      exact hno m _ hmj (List.getElem?_eq_getElem hmd)

/-- the call of a method of a tuple that has no dict of its own -/
theorem pe_tbm {to : TE} {t : TA} {name : Str} {id : String} {apos cpos : Pos} {rr : V → List V → Hp → VK → Prop} (slot : Slot "tuple" name id) (hty : typeOf (.builtin id) = pure (.type "method_descriptor")) (hm : MtR X id rr) (ho : PE X o to) (ha : PA X (e :: es) t)
    (hbase : attributeBase o name X.env (eval o X.env) = eval o X.env := by rfl)
    (hfew : ((backTo cpos (starEach (e :: es) X.env)).all (fun x => !x.1) && (backToKw cpos (keywordEach [] X.env)).all (fun x => x.1.isSome)
      && decide ((e :: es).length + ([] : List Keyword).length + (if ([] : List Keyword).isEmpty then 0 else 1) < 30)) = true := by rfl)
    (hline : (apos.endLine == cpos.line) = true := by rfl) (hs : starEach (e :: es) X.env = (false, eval e X.env) :: starEach es X.env := by rfl) (hplain : (backTo cpos (starEach es X.env)).any (·.1) = false := by rfl) :
    PE X (.Call (.Attribute o name apos) (e :: es) [] cpos) (fun σ H Q => to σ H fun x H1 => (∃ p vs, x = .ref p ∧ SqP X.K H1 p vs) ∧ t σ H1 fun xs H2 => rr x xs H2 Q) := by
  refine ⟨fun pins s σ H Q I h => ?_⟩
  refine wpAny_Call_method_late hbase hfew hline rfl (thn (ho.run pins s σ H _ I h) fun v s1 ⟨x, H1, I1, r1, ⟨p, vs, ex, hp⟩, q1⟩ => ?_)
  subst ex
  cases r1
  have hob : ∃ ob, s1.heap.get? p = some ob ∧ ob.cls = .type "tuple" ∧ ob.dict = none := by
    rcases hp with ⟨ob, h1, h2⟩ | ⟨ob, its, n, h1, h2, h3, _⟩
    · obtain ⟨e1, _, its, _, ob', e2, hc, _⟩ := I1.hok p _ h1
      rw [e1] at e2; cases e2
      exact ⟨ob, e1, hc, h2⟩
    · exact ⟨ob, I1.kIn p ob h1, h2, h3⟩
  obtain ⟨ob, e1, e2, e3⟩ := hob
  refine ⟨"tuple", id, PySem.F.plainAttrs_tuple, slot, hty, ⟨ob, e1, e2⟩, fun a ea => by cases ea; exact ⟨ob, e1, e3⟩, ?_⟩
  have hA := ha.run cpos pins s1 σ H1 _ I1 q1
  rw [hs] at hA ⊢
  refine Calls.callWith_builtin (by show (false || (backTo cpos (starEach es X.env)).any (·.1)) = false; rw [hplain]; rfl) (Calls.evalArgs_plain ?_)
  exact thn hA fun us s2 ⟨vs2, H2, I2, r2, q2⟩ => hm pins s2 σ H2 (.ref p) vs2 _ us Q I2 rfl r2 q2
def eTIndex (f g : Ef) : Ef := fun r => bnd (f r) fun x => match x with
  | .tuple ds => bnd (g r) fun d => if SeqAt.shaped (.tuple ds) = true ∧ SeqAt.shaped d = true then (match firstAt d ds with | some j => ok (.int (j : Nat)) | none => none) else none
  | _ => none
theorem de_tindex {apos cpos : Pos} (hu : X.A.units + 65 < cLine) (ho : PE X o (teB c f)) (ha : PE X e (teB c g)) (hK : X.K = c.K := by rfl)
    (hbase : attributeBase o "index" X.env (eval o X.env) = eval o X.env := by rfl)
    (hfew : ((backTo cpos (starEach (e :: []) X.env)).all (fun x => !x.1) && (backToKw cpos (keywordEach [] X.env)).all (fun x => x.1.isSome)
      && decide ((e :: []).length + ([] : List Keyword).length + (if ([] : List Keyword).isEmpty then 0 else 1) < 30)) = true := by rfl)
    (hline : (apos.endLine == cpos.line) = true := by rfl) (hs : starEach (e :: []) X.env = (false, eval e X.env) :: starEach [] X.env := by rfl) (hplain : (backTo cpos (starEach [] X.env)).any (·.1) = false := by rfl) :
    PE X (.Call (.Attribute o "index" apos) [e] [] cpos) (teD c (eTIndex f g)) := by
  refine PE.weak (pe_tbm PySem.F.slot_tuple_index PySem.F.type_tuple_index (mt_tindex hu) ho (pa_cons ha pa_nil hs) hbase hfew hline hs hplain) fun s H Q ⟨r, F, R, k⟩ => ⟨r, F, R, k.bnd.imp fun x H1 F1 R1 m1 k1 v hv => ?_⟩
  split at k1
  · obtain ⟨p, vs, rfl, hp, hd⟩ := hv.tupP R1.fr.sub
    refine ⟨⟨p, vs, rfl, by rw [hK]; exact hp⟩, r, F1, R1, k1.bnd.imp fun d H2 F2 R2 m2 k2 u hu => ?_⟩
    split at k2
    · rename_i z
      split at k2
      · rename_i j ej
        obtain ⟨⟨y, q1, q2⟩, q3⟩ := firstAt_some ej
        rw [hK]
        exact ⟨p, u, d, _, vs, j, y, rfl, rfl, same_t m2.h hp.t, (dpAll_same (m2.f.trans R2.fr.sub) hd).dp (by have := shaped_lay z.1; rwa [PyData.canLay0] at this), hu.dp R2.fr.sub z.2, z.1, z.2, q1, q2, q3, k2.now R2 _ (.int _)⟩
      · exact k2.elim
    · exact k2.elim
  · exact k1.elim
/-- xs.index(x) -/
def eLIndex (f g : Ef) : Ef := fun r => bnd (f r) fun x => match x with
  | .list ds => bnd (g r) fun d => if SeqAt.shaped (.list ds) = true ∧ SeqAt.shaped d = true then (match firstAt d ds with | some j => ok (.int (j : Nat)) | none => none) else none
  | _ => none
theorem de_lindex {apos cpos : Pos} (hu : X.A.units + 65 < cLine) (ho : PE X o (teB c f)) (ha : PE X e (teB c g)) (hK : X.K = c.K := by rfl)
    (hbase : attributeBase o "index" X.env (eval o X.env) = eval o X.env := by rfl)
    (hfew : ((backTo cpos (starEach (e :: []) X.env)).all (fun x => !x.1) && (backToKw cpos (keywordEach [] X.env)).all (fun x => x.1.isSome)
      && decide ((e :: []).length + ([] : List Keyword).length + (if ([] : List Keyword).isEmpty then 0 else 1) < 30)) = true := by rfl)
    (hline : (apos.endLine == cpos.line) = true := by rfl) (hs : starEach (e :: []) X.env = (false, eval e X.env) :: starEach [] X.env := by rfl) (hplain : (backTo cpos (starEach [] X.env)).any (·.1) = false := by rfl) :
    PE X (.Call (.Attribute o "index" apos) [e] [] cpos) (teD c (eLIndex f g)) := by
  refine PE.weak (pe_bm PySem.F.plainAttrs_list PySem.F.slot_list_index PySem.F.type_list_index (mt_indexD hu) ho (pa_cons ha pa_nil hs) hbase hfew hline hs hplain) fun s H Q ⟨r, F, R, k⟩ => ⟨r, F, R, k.bnd.imp fun x H1 F1 R1 m1 k1 v hv => ?_⟩
  split at k1
  · obtain ⟨p, vs, rfl, hp, hd⟩ := hv.list R1.fr.sub
    refine ⟨.inl ⟨rfl, vs, by rw [hK]; exact hp⟩, r, F1, R1, k1.bnd.imp fun d H2 F2 R2 m2 k2 u hu => ?_⟩
    split at k2
    · rename_i z
      split at k2
      · rename_i j ej
        obtain ⟨⟨y, q1, q2⟩, q3⟩ := firstAt_some ej
        rw [hK]
        exact ⟨p, u, d, _, j, y, rfl, rfl, .lst (same_l m2.h hp) ((dpAll_same (m2.f.trans R2.fr.sub) hd).dp (by have := shaped_lay z.1; rwa [PyData.canLay0] at this)), hu.dp R2.fr.sub z.2, z.1, z.2, q1, q2, q3, k2.now R2 _ (.int _)⟩
      · exact k2.elim
    · exact k2.elim
  · exact k1.elim

/-! ### lists that shrink -/
/-- x.append(y.pop(e)) -/
def sAppPop (i j : Nat) (f : Ef) : Sf := fun r => match r[i]?, r[j]? with
  | some (some (.own xs)), some (some (.own ys)) => if i = j then none else ofE (f r) r fun k => match k with
    | .int n => (match ixN ys.length n with
      | some m => (match ys[m]? with
        | some d => if xs.length < lim ∧ inR n = true then some (.nx ((r.set j (some (.own (ys.eraseIdx m)))).set i (some (.own (xs ++ [d]))))) else none
        | none => none)
      | none => none)
    | _ => none
  | _, _ => none
theorem ds_apppop {i j : Nat} {y : Expr} {apos cpos apos2 cpos2 : Pos} (hv : PE X a (tVar i)) (hw : PE X y (tVar j)) (he : PE X e (teB c f)) (hK : X.K = c.K := by rfl)
    (hbase : attributeBase a "append" X.env (eval a X.env) = eval a X.env := by rfl) (hbase2 : attributeBase y "pop" X.env (eval y X.env) = eval y X.env := by rfl)
    (hfew : ((backTo cpos (starEach ((.Call (.Attribute y "pop" apos2) [e] [] cpos2) :: []) X.env)).all (fun x => !x.1) && (backToKw cpos (keywordEach [] X.env)).all (fun x => x.1.isSome)
      && decide (((Expr.Call (.Attribute y "pop" apos2) [e] [] cpos2) :: []).length + ([] : List Keyword).length + (if ([] : List Keyword).isEmpty then 0 else 1) < 30)) = true := by rfl)
    (hfew2 : ((backTo cpos2 (starEach (e :: []) X.env)).all (fun x => !x.1) && (backToKw cpos2 (keywordEach [] X.env)).all (fun x => x.1.isSome)
      && decide ((e :: []).length + ([] : List Keyword).length + (if ([] : List Keyword).isEmpty then 0 else 1) < 30)) = true := by rfl)
    (hline : (apos.endLine == cpos.line) = true := by rfl) (hline2 : (apos2.endLine == cpos2.line) = true := by rfl)
    (hst : starEach ((.Call (.Attribute y "pop" apos2) [e] [] cpos2) :: []) X.env = (false, eval (.Call (.Attribute y "pop" apos2) [e] [] cpos2) X.env) :: starEach [] X.env := by rfl) (hst2 : starEach (e :: []) X.env = (false, eval e X.env) :: starEach [] X.env := by rfl)
    (hplain : (backTo cpos (starEach [] X.env)).any (·.1) = false := by rfl) (hplain2 : (backTo cpos2 (starEach [] X.env)).any (·.1) = false := by rfl)
    (hs : swapsWith (.Call (.Attribute a "append" apos) [.Call (.Attribute y "pop" apos2) [e] [] cpos2] [] cpos) none pos.line X.env = pure false := by rfl) :
    PS X (.Expr (.Call (.Attribute a "append" apos) [.Call (.Attribute y "pop" apos2) [e] [] cpos2] [] cpos) pos) (tsD c (sAppPop i j f)) := by
  refine PS.weak (ps_expr (pe_bm PySem.F.plainAttrs_list PySem.F.slot_list_append PySem.F.type_list_append mt_append hv (pa_cons (pe_bm PySem.F.plainAttrs_list PySem.F.slot_list_pop PySem.F.type_list_pop mt_popAt hw (pa_cons he pa_nil hst2) hbase2 hfew2 hline2 hst2 hplain2) pa_nil hst) hbase hfew hline hst hplain) hs) fun D s H ⟨r, F, R, h⟩ => ?_
  unfold sAppPop at h
  split at h
  · rename_i xs ys eo ep
    obtain ⟨p, vs, q1, q2, q3, q4, q5⟩ := R.mine eo
    obtain ⟨p', ws, w1, w2, w3, w4, w5⟩ := R.mine ep
    split at h
    · exact h.elim
    rename_i hij
    have npp : p ≠ p' := by
      rintro rfl
      exact hij (R.apart i j xs ys p eo ep q1 w1)
    refine ⟨_, q1, .inl ⟨rfl, vs, SqL.of q2⟩, _, w1, .inl ⟨rfl, ws, SqL.of w2⟩, r, F, R, (ans_of h).imp fun z H1 F1 R1 m1 k1 v hv => ?_⟩
    split at k1
    · rename_i n
      split at k1
      · rename_i m em
        split at k1
        · rename_i d ed
          split at k1
          · rename_i hz
            obtain ⟨en, _, _, _⟩ := ixN_seq em
            have b := inR_of hz.2
            have l1 := dpAll_len w5
            obtain ⟨u, eu, hu⟩ := dpAll_at (dpAll_same m1.f w5) ed
            refine ⟨p', ws, n, m, u, rfl, by rw [hv.int], m1.h _ _ w2, by omega, by omega, by rw [l1]; exact en, eu, ?_⟩
            have R2 := R1.write ep w1 (m1.un _ _ w2 w3) w4 (dpAll_erase m (dpAll_same m1.f w5))
            have q2' : (upd H1 p' (.lst (ws.eraseIdx m))) p = some (.lst vs) := by rw [upd_ne npp]; exact m1.h _ _ q2
            have eo' : (r.set j (some (B.own (ys.eraseIdx m))))[i]? = some (some (.own xs)) := by rw [List.getElem?_set_ne (Ne.symm hij)]; exact eo
            refine ⟨p, vs, u, rfl, rfl, q2', lim_lt (by rw [dpAll_len q5]; exact hz.1), ?_⟩
            exact k1.at (R2.write eo' q1 (m1.un _ _ q2 q3) q4 (dpAll_app (dpAll_same m1.f q5) (dpAll_one hu)))
          · exact k1.elim
        · exact k1.elim
      · exact k1.elim
    · exact k1.elim
  · exact h.elim
/-- for .. in x[y.pop()]: y the def's own list -/
def srcIxPop (f : Ef) (j : Nat) : Rho → Option (Rho × List PyData) := fun r => match f r, r[j]? with
  | some (.ok (.list xs)), some (some (.own ys)) => match ys.getLast? with
    | some (.int n) => (match atI xs n with
      | some (.list zs) => some (r.set j (some (.own ys.dropLast)), zs)
      | _ => none)
    | _ => none
  | _, _ => none
theorem di_ixpop {tg : Expr} {y : Expr} {j : Nat} {apos cpos : Pos} (ha : PE X a (teD c f)) (hw : PE X y (tVar j)) (hK : X.K = c.K := by rfl)
    (hbase : attributeBase y "pop" X.env (eval y X.env) = eval y X.env := by rfl) (hline : (apos.endLine == cpos.line) = true := by rfl) (hs : PlainIx (.Call (.Attribute y "pop" apos) [] [] cpos) := by exact fun _ _ => rfl) :
    PI X tg (.Subscript a (.Call (.Attribute y "pop" apos) [] [] cpos) pos) (tiP c (srcIxPop f j)) := by
  refine PI.weak (pi_list (pe_ix (r := rIxL X.K) ix_list ha (pe_bm0 PySem.F.plainAttrs_list PySem.F.slot_list_pop PySem.F.type_list_pop mt_pop hw hbase hline) hs)) fun s H W ⟨r, F, r', zs, R, es, k⟩ => ?_
  unfold srcIxPop at es
  split at es
  · rename_i xs ys ef eo
    split at es
    · rename_i n en
      split at es
      · rename_i zs' ez
        cases es
        refine ⟨r, F, R, ?_⟩
        rw [ef]
        intro H1 F1 R1 m1 v hv
        obtain ⟨p, vs, q1, q2, q3, q4, q5⟩ := R1.mine eo
        have l1 := dpAll_len q5
        rw [List.getLast?_eq_getElem?] at en
        obtain ⟨u, eu, hu⟩ := dpAll_at q5 en
        cases hu
        refine ⟨_, q1, .inl ⟨rfl, vs, SqL.of q2⟩, p, vs, .int n, rfl, rfl, q2, by rw [l1]; exact eu, ?_⟩
        have R2 := R1.write eo q1 q3 q4 (dpAll_dropLast q5)
        cases hv with
        | lst h1 h2 =>
          rename_i b bs
          obtain ⟨w, ew, hw⟩ := dp_atI h2 ez
          have h1' : SqL X.K (upd H1 p (.lst vs.dropLast)) b bs := by rw [hK]; exact same_l R2.fr.sub h1
          refine ⟨b, bs, n, w, rfl, rfl, h1', ew, ?_⟩
          cases hw with
          | lst g1 g2 =>
            rw [hK]
            exact ⟨_, rfl, ⟨_, same_l R2.fr.sub g1⟩, k _ _ F1 R2 m1.f (walks_list g1 g2)⟩
      · cases es
    · cases es
  · cases es
end
end DL

set_option Elab.async false
set_option linter.all false
set_option maxRecDepth 100000
/-! The data layer, 9: isinstance against built-in classes. -/
noncomputable section
namespace DL
open PySem PySem.Spec PyProof.Rows L2
section
variable {X : Cx} {c : Cc} {e a b o : Expr} {f g : Ef} {pos : Pos} {af : Af} {es : List Expr}
def tyName : PyData → Option String
  | .bool _ => some "bool"
  | .int _ => some "int"
  | .str _ => some "str"
  | .none => some "NoneType"
  | .list _ => some "list"
  | .tuple _ => some "tuple"
  | .dict _ => none
def oIsi (T : String) : PyData → M PyData := fun d => match tyName d with
  | some n => (match kitB n T with
    | some k => ok (.bool k)
    | none => none)
  | none => none
theorem ty_of {K : PySem.W.Frag} {ax : XN → Addr} {H F : Hp} {v : V} {d : PyData} {n : String} (h : Bp K ax H F v d) (sm : Same F H) (e : tyName d = some n) : TyX K H v (.type n) := by
  cases d with
  | none => cases e; rw [h.none]; exact .base .non
  | bool b => cases e; rw [h.bool]; exact .base (.bl _)
  | int i => cases e; rw [h.int]; exact .base (.int _)
  | str x => cases e; rw [h.str]; exact .base (.str _)
  | list xs =>
    cases e
    obtain ⟨p, vs, rfl, hs, _⟩ := h.list sm
    rcases hs with (hs | ⟨o, hs⟩) | ⟨o, its, k, h1, h2, _⟩
    · exact .base (.lst hs)
    · exact .base (.frz hs)
    · exact .kList h1 h2
  | tuple xs =>
    cases e
    obtain ⟨p, vs, rfl, hs, _⟩ := h.tup sm
    rcases hs with (hs | ⟨o, hs⟩) | ⟨o, its, k, h1, h2, _⟩
    · exact .base (.tup hs)
    · exact .fTuple hs
    · exact .kTuple h1 h2
  | dict _ => cases e
theorem de_isi {T : String} {x : Str} {p p2 : Pos} (hg : Gl X "isinstance") (hm : X.mg "isinstance" = none) (hgT : Gl X x) (hmT : X.mg x = none) (hvT : bootBuiltins x = some (.type T)) (ha : PE X a (teB c f)) (hK : X.K = c.K := by rfl) (hn : x ≠ "__name__" := by decide) (hdb : (x == ("__debug__" : Str)) = false := by decide)
    (na : starEach (a :: .Name x p2 :: []) X.env = (false, eval a X.env) :: starEach (.Name x p2 :: []) X.env := by rfl) (nb : starEach (.Name x p2 :: []) X.env = (false, eval (.Name x p2) X.env) :: starEach [] X.env := by rfl) (hpl : (backTo pos (starEach (.Name x p2 :: []) X.env)).any (·.1) = false := by rfl) :
    PE X (.Call (.Name "isinstance" p) [a, .Name x p2] [] pos) (teD c (e1 (oIsi T) f)) := by
  refine PE.weak (pe_callB call_isi hg hm (by decide +kernel) (pa_cons ha (pa_cons (pe_bltn (v := .ty T) hgT hmT hvT rfl hn hdb) pa_nil nb) na) (by decide) (by decide) na hpl) fun s H Q ⟨r, F, R, k⟩ => ⟨r, F, R, k.bnd.imp fun d H1 F1 R1 m1 k1 v hv => ?_⟩
  unfold oIsi at k1
  split at k1
  · rename_i n en
    split at k1
    · rename_i b eb
      refine ⟨v, .ty T, .type n, .type T, b, rfl, .ty T, ?_, kit_ty eb, k1.now R1 _ (.bl _)⟩
      rw [hK]; exact ty_of hv R1.fr.sub en
    · exact k1.elim
  · exact k1.elim

/-! ### a list or a tuple, walked -/
def tSeqI (K : PySem.W.Frag) (tl : TE) : TI := fun σ H W => tl σ H fun x H1 => ∃ a, x = .ref a ∧ (((∃ xs, SqL K H1 a xs) ∧ W (Itl K a) H1) ∨ ((∃ xs, SqT K H1 a xs) ∧ W (Itt K a) H1))
theorem pi_seqI {tg : Expr} {tl : TE} (hl : PE X a tl) : PI X tg a (tSeqI X.K tl) := by
  refine ⟨fun pins s σ H W I h => thn (hl.run pins s σ H _ I h) fun v s1 ⟨x, H1, I1, r1, p, ex, q1⟩ => ?_⟩
  subst ex
  cases r1
  have fresh : ∀ b, b ∈ [s1.heap.objs.size] → FpOk X pins H1 b := fun b hb => by
    have e : b = s1.heap.objs.size := by simpa using hb
    subst e
    exact I1.fpOk (Nat.le_refl _) (I1.hok.fresh (Nat.le_refl _))
  rcases q1 with ⟨⟨xs, hq⟩, q⟩ | ⟨⟨xs, hq⟩, q⟩
  · obtain ⟨its, rv, pl, hz⟩ := I1.list hq
    exact wpAny_pyIter_list pl.isList ⟨s1.heap.objs.size, [s1.heap.objs.size], _, _, H1, rfl, I1.kept (t' := s1.toks) fun b o e => Heap.get?_push_of_some _ e, turn_list p _, ⟨_, Heap.get?_push_size _ rfl, rfl, rfl⟩, fresh, q⟩
  · obtain ⟨its, rv, pl, hz⟩ := I1.tuple hq
    exact wpAny_pyIter_tuple (show s1.heap.IsTuple p its.toArray from pl) ⟨s1.heap.objs.size, [s1.heap.objs.size], _, _, H1, rfl, I1.kept (t' := s1.toks) fun b o e => Heap.get?_push_of_some _ e, turn_tuple p _, ⟨_, Heap.get?_push_size _ rfl, rfl, rfl⟩, fresh, q⟩
def iSeq (f : Ef) : Af := fun r => bnd (f r) fun x => match x with
  | .list xs => ok xs
  | .tuple xs => ok xs
  | _ => none
theorem di_seq {tg : Expr} (h : PE X a (teD c f)) (hK : X.K = c.K := by rfl) : PI X tg a (tiD c (iSeq f)) := by
  refine PI.weak (pi_seqI h) fun s H W ⟨r, F, R, k⟩ => ⟨r, F, R, k.bnd.imp fun x H1 F1 R1 m1 k1 v hv => ?_⟩
  rw [hK]
  split at k1
  · cases hv with
    | lst h1 h2 => exact ⟨_, rfl, .inl ⟨⟨_, same_l R1.fr.sub h1⟩, k1.now R1 _ (walks_list h1 h2)⟩⟩
  · cases hv with
    | tup h1 h2 => exact ⟨_, rfl, .inr ⟨⟨_, same_t R1.fr.sub h1.t⟩, k1.now R1 _ (walks_tup h1.t h2)⟩⟩
  · exact k1.elim

/-! ### products -/
def rRepA (K : PySem.W.Frag) : R2 := fun x y H Q => ∃ l k xs, x = .ref l ∧ y = .int k ∧ SqL K H l xs ∧ -(2 ^ 63) ≤ k ∧ k < 2 ^ 63 ∧ xs.length * k.toNat ≤ sizeLine ∧ ∀ p, H p = none → Q (.ref p) (upd H p (.lst (List.replicate k.toNat xs).flatten))
def oMulI : PyData → PyData → M PyData
  | .int i, .int j => if inW i = true ∨ inW j = true then ok (.int (i * j)) else none
  | _, _ => none
theorem os_mulI : OpS c (rI CMul fun i j => .int (i * j)) oMulI := by
  intro r s H F x y a b Q R hx hy h
  unfold oMulI at h
  split at h
  · split at h
    · rename_i z
      exact ⟨_, _, hx.int, hy.int, z.imp (fun w => inW_of.mp w) (fun w => inW_of.mp w), h.now R _ (.int _)⟩
    · exact h.elim
  · exact h.elim
theorem hu65 {k : Nat} {A : Around} (hr : Room k A) : A.units + 65 < cLine := by have := hr.un; omega
theorem hu64 {k : Nat} {A : Around} (hr : Room k A) : A.units + 64 < cLine := by have := hr.un; omega
theorem hu0 {k : Nat} {A : Around} (hr : Room k A) : A.units < cLine := by have := hr.un; omega
end
end DL

set_option Elab.async false
set_option linter.all false
set_option maxRecDepth 100000
set_option maxHeartbeats 2000000
/-! The data layer: an error caught, kept, asked for its class. -/
noncomputable section
namespace DL
open PySem PySem.Spec PyProof.Rows L2

section
variable {X : Cx} {pins : List (Addr × Obj)} {σ : L2.St} {H : Hp} {s : Shared}
/-- an object that is there, untracked and younger than the def's entry, is tracked from here on -/
theorem track {a : Addr} {o : HO} {oe : Obj} (I : Inv X pins σ H s) (ha : s.heap.get? a = some oe) (na : H a = none) (n0 : X.s_0.heap.get? a = none) (nL : a ≠ X.env.locals) (nC : ∀ x c, X.env.cells.lookup x = some c → c ≠ a) (nP : ∀ p ∈ X.pn ++ pins, p.1 ≠ a)
    (new : ObjOk X.prog X.w (upd H a o) s.heap a o) : Inv X pins σ (upd H a o) s := by
  have ne0 : ∀ b u, X.s_0.heap.get? b = some u → b ≠ a := fun b u e z => by rw [z, n0] at e; cases e
  refine ⟨I.ok, I.os, I.bare, ⟨I.base.keep, I.base.slot, fun b u e n hq => ?_, I.base.there, fun b xs e => ?_, fun b u v e => ?_, fun b ps e => ?_⟩, I.loc, I.cell, ?_, fun x c e => ?_, fun p hp => ?_, fun b u e => ?_, I.len⟩
  · rw [upd_ne (ne0 b u e)]; exact I.base.free b u e n hq
  · have q := I.base.tups b xs e
    rw [upd_ne (ne_of_none q na)]; exact q
  · have q := I.base.frzs b u v e
    rw [upd_ne (ne_of_none q na)]; exact q
  · obtain ⟨m, q⟩ := I.base.tbls b ps e
    exact ⟨m, by rw [upd_ne (ne_of_none q na)]; exact q⟩
  · rw [upd_ne (Ne.symm nL)]; exact I.free
  · rw [upd_ne (nC x c e)]; exact I.freeC x c e
  · obtain ⟨e, n, ne, nf, d⟩ := I.pin p hp
    exact ⟨e, by rw [upd_ne (nP p hp)]; exact n, ne, nf, d⟩
  · by_cases hb : b = a
    · subst hb; rw [upd_same] at e; cases e; exact new
    · rw [upd_ne hb] at e
      exact (I.hok b u e).stay (fun c v _ q => q) (fun c q => by rw [upd_ne (ne_of_none q na)]; exact q) fun c xs q => by rw [upd_ne (ne_of_none q na)]; exact q
theorem exK_ok {P : Program} {w : World} {h : Heap} {a C : Addr} {oe : Obj} (e : h.get? a = some oe) (z : Zc (.ref C) none oe) (d : ∃ vs, oe.data = .fields vs) : ObjOk P w H h a (ExK C a) := by
  obtain ⟨vs, d⟩ := d
  exact ⟨⟨oe, vs, e, z.1, z.2, d⟩, ⟨oe, e⟩, fun _ _ ⟨o, v, q, r⟩ k => ⟨o, v, k o q, r⟩⟩
/-- what 'except x as n: suite' wishes of an error of the body, the error being kept behind the suite -/
def wKeep (K : PySem.W.Frag) (c : Value) (i : Nat) (ts : Addr → TS) (Wout : WX) (D : Ends) : WX := fun cls d σ H =>
  ∃ b, PySem.W.exmOne K cls c = some b ∧ (b = true → ∃ C, cls = .ref C ∧ d = none ∧ ∀ a, H a = none → ts a { nx := fun σ' H' => D.nx (σ'.set i none) (upd H' a (ExK C a)), rt := fun _ _ => False, bk := fun _ _ => False, ct := fun _ _ => False } (σ.set i (some (.ref a))) H) ∧
    (b = false → Wout cls d σ H)
end
section
variable {X : Cx} {x n : Str} {c : Value} {i : Nat} {body : List Stmt} {b₀ : Stmt} {np pos pos' : Pos} {tb : WX → TS} {ts : Addr → TS} {Wout : WX}
theorem ps_try_keep (hex : X.ex = []) (hs : X.stack = X.env :: X.outer) (hf : X.env.frame = some X.env.locals) (hN : X.N.Nodup) (hi : X.N[i]? = some n) (hln : X.env.kindOf n = some .local) (hc : Names X x c) (tk : Takes X Wout)
    (hb : ∀ (W : WX) (pn : List (Addr × Obj)) (xe : Value → Shared → Prop), Takes (X.tr pn xe) W → PassesOwn (model X.prog X.w) X.A X.env xe → PSs (X.tr pn xe) body (tb W))
    (hsu : ∀ (a : Addr) (pn : List (Addr × Obj)), PSs (X.suite a pn) [b₀] (ts a)) :
    PS X (.Try body [.ExceptHandler (some (.Name x np)) (some n) [b₀] pos'] [] [] pos) (fun D σ H => tb (wKeep X.K c i ts Wout D) D σ H) := by
  refine ⟨fun pins s σ H D I h => ?_⟩
  have ok := I.ok
  have hfr : X.A.frames = some (X.env :: X.outer) := by rw [ok.frames, hs]
  have hloc : Loc X.env.scope n := .inl hln
  refine wpAny_Try_except ?_
  refine wpAny_mono ((hb (wKeep X.K c i ts Wout D) (X.pn ++ pins) (fun e s₁ => wpAny (model X.prog X.w) X.A (noteFrame e X.env) (fun _ s₂ => wpAny (model X.prog X.w) X.A (setFlight e none) (fun _ s₃ =>
    wpAny (model X.prog X.w) X.A (handleBy e X.env [.ExceptHandler (some (.Name x np)) (some n) [b₀] pos']) (SP X pins D) X.xe s₃) X.xe s₂) X.xe s₁) (fun u s' xx => ?_) PassesOwn.looking).run [] s σ H D (I.toTry _) h) (fun f s1 hsp => ?_) (fun e s1 he => he)
  · obtain ⟨a, B, sI, pins', σ', H', cls, d, rfl, J', nb, up, sky, na, os, ag, b, hb1, hyes, hno⟩ := xx
    have J : Inv X pins σ' H' sI := J'.ofTry ok
    have sky' : Sky B (X.env :: X.outer) a (Zc cls d) X.env.locals s'.heap := by rw [← hs]; exact sky
    have nB : B.get? a = none := by
      rcases sky' with z | z | z
      · exact z.2.1
      · exact z.2.1
      · exact z.2.1
    show wpAny _ _ (noteFrame (.ref a) X.env) _ _ _
    refine Sky.land Zc.steady hfr hf sky' fun h3 fl3 up3 => ?_
    have J3 : Inv X pins σ' H' { s' with heap := h3 } := J.landed nb fl3.1 (up.trans up3) os ag
    obtain ⟨oe3, vs3, he3, hz3, hd3⟩ := fl3.there
    have notFr : ∀ {h : Heap} {o : Obj} {vs : Array Value}, h.FunFrames B (X.env :: X.outer) → h.get? a = some o → o.data = .fields vs → a ∉ frs (X.env :: X.outer) := fun {h o vs} ff e dd hm => by
      obtain ⟨_, o', e', hnf⟩ := ff.mem hm
      rw [e] at e'; cases e'
      exact hnf _ dd
    have nfr := notFr fl3.2.2.1 he3 hd3
    have nI : sI.heap.get? a = none := by
      cases e : sI.heap.get? a with
      | none => rfl
      | some o =>
        have z := nb a o e (by rw [hs]; exact nfr)
        rw [nB] at z; cases z
    have n0 : X.s_0.heap.get? a = none := by
      cases e : X.s_0.heap.get? a with
      | none => rfl
      | some o =>
        obtain ⟨o', z⟩ := J.base.there a o e (by rw [hex]; exact fun z => nomatch z)
        rw [nI] at z; cases z
    have nC : ∀ y k, X.env.cells.lookup y = some k → k ≠ a := fun y k e z => by
      obtain ⟨v, o, ho, _⟩ := J.cell y k e
      rw [z, nI] at ho; cases ho
    have nP : ∀ p ∈ X.pn ++ pins, p.1 ≠ a := fun p hp z => by
      have := (J.pin p hp).1
      rw [z, nI] at this; cases this
    have nL : a ≠ X.env.locals := fun z => nfr (List.mem_filterMap.mpr ⟨X.env, List.mem_cons_self, by rw [hf, z]⟩)
    have nF : a ∉ X.fs := fun hm => by
      obtain ⟨e, he, q⟩ := List.mem_filterMap.mp hm
      exact nfr (List.mem_filterMap.mpr ⟨e, List.mem_cons_of_mem _ he, q⟩)
    have S3 := J3.suite he3 hd3 na nL nF
    refine wpAny_handleBy_cons (codeAny_handlers_test ?_) (by intro q; cases q)
    have LT : PySem.W.Looks (model X.prog X.w) h3 (typeOf (.ref a)) cls := fun A Q E s k q => wpAny_typeOf_ref (k _ _ he3) (by rw [hz3.1]; exact q)
    have LM := PySem.W.exm_one (M := model X.prog X.w) (J3.kIn) LT hb1
    have test : ∀ {Q : Value → Shared → Prop} {E : Value → Shared → Prop}, Q c { s' with heap := h3 } → wpAny (model X.prog X.w) (X.A.mark (some (.ref a))) (eval (.Name x np) X.env) Q E { s' with heap := h3 } := fun {Q E} q => by
      obtain ⟨hg, hdbg, hm | ⟨hm, hv, hnn⟩⟩ := hc
      · exact ld_glob (X := X.suite a ((a, oe3) :: (X.pn ++ pins))) S3 hg hm q hdbg
      · exact ld_blt (X := X.suite a ((a, oe3) :: (X.pn ++ pins))) S3 hg hm hv q hnn hdbg
    refine test (LM.here ?_)
    cases b with
    | true =>
      refine codeAny_handlers_suite_as ?_
      refine HandSPX.lands_againZ fl3 fun h4 fl4 up4 => ?_
      have J4 : Inv X pins σ' H' { s' with heap := h4 } := J.landed nb fl4.1 ((up.trans up3).trans up4) os ag
      obtain ⟨oe4, vs4, he4, hz4, hd4⟩ := fl4.there
      have S4 := J4.suite he4 hd4 na nL nF
      obtain ⟨C, rfl, rfl, hts⟩ := hyes rfl
      refine store_ok (X := X.suite a ((a, oe4) :: (X.pn ++ pins))) (v := .ref a) S4 hN hi hloc rfl (fun s5 S5 => ?_) (.inr hln)
      refine wpAny_mono ((hsu a ((a, oe4) :: (X.pn ++ pins))).run [] s5 _ H' _ S5 (hts a na)) (fun f s6 hsp => ?_) (fun _ _ z => False.elim z)
      cases f with
      | next =>
        obtain ⟨σ6, H6, S6, q6⟩ := hsp
        obtain ⟨ha6, na6, _⟩ := S6.pin (a, oe4) (List.mem_append_left _ List.mem_cons_self)
        have I6 : Inv X pins σ6 H6 s6 := S6.unsuite ok
        have T6 := track (o := ExK C a) I6 ha6 na6 n0 nL nC nP (exK_ok ha6 hz4 ⟨_, hd4⟩)
        exact gone_ok T6 hN hi hln fun s7 J7 => ⟨_, _, J7, q6⟩
      | brk =>
        obtain ⟨σ6, H6, S6, q6⟩ := hsp
        exact q6.elim
      | cont =>
        obtain ⟨σ6, H6, S6, q6⟩ := hsp
        exact q6.elim
      | ret u =>
        obtain ⟨v6, σ6, H6, S6, r6, q6⟩ := hsp
        exact q6.elim
    | false =>
      show wpAny _ X.A (handleBy (.ref a) X.env []) _ _ _
      refine wpAny_handleBy_nil ?_
      obtain ⟨k1, k2, k3, oe, vs, T, oT, ts', he, hz, hd, h1, hr⟩ := id fl3
      unfold PySem.passOn
      refine wpAny_bind (wpAny_field he hd h1 ?_)
      rw [if_neg (show ¬ ((Value.ref T == Value.none) = true) from by simp)]
      have fin : wpAny (model X.prog X.w) X.A (setFlight (.ref a) X.env.frame) (fun _ s4 => wpAny (model X.prog X.w) X.A (throw (.ref a) : Sem Flow) (SP X pins D) X.xe s4) X.xe { s' with heap := h3 } := by
        rw [hf]
        refine HandSPX.setFlight_upZ fl3 fun h4 hh4 up4 => wpAny_throw (tk _ _ ?_)
        exact ⟨a, B, sI, pins, σ', H', cls, d, rfl, J, nb, (up.trans up3).trans up4, .inr (.inr (by rw [hs]; exact hh4)), na, os, ag, hno rfl⟩
      first
        | exact wpAny_bind (wpAny_pure (wpAny_bind fin))
        | exact wpAny_bind fin
  · cases f with
    | next =>
      obtain ⟨σ', H', J', q⟩ := hsp
      exact wpAny_execs_nil ⟨σ', H', J'.ofTry ok, q⟩
    | brk =>
      obtain ⟨σ', H', J', q⟩ := hsp
      exact ⟨σ', H', J'.ofTry ok, q⟩
    | cont =>
      obtain ⟨σ', H', J', q⟩ := hsp
      exact ⟨σ', H', J'.ofTry ok, q⟩
    | ret u =>
      obtain ⟨v, σ', H', J', r, q⟩ := hsp
      exact ⟨v, σ', H', J'.ofTry ok, r, q⟩
end

/-- a caught error as data -/
abbrev excD (x : XN) : PyData := .dict [(.int (cdX x), .none)]
/-- try: g; except .. as e: kept = e. Slot i is e's, slot j is kept's. -/
def sTryK (i j : Nat) (g : Sf) : Sf := fun r => match g r with
  | some (.er x r') => if i < r'.length ∧ j < r'.length then some (.nx (((r'.set i (some (.d (excD x)))).set j (some (.d (excD x)))).set i none)) else none
  | z => z
section
variable {X : Cx} {c : Cc} {x n kn : Str} {cv : Value} {i j : Nat} {body : List Stmt} {np np2 kp ap pos pos' : Pos} {sf : Sf}
theorem ds_tryK (hex : X.ex = [] := by rfl) (hs : X.stack = X.env :: X.outer) (hf : X.env.frame = some X.env.locals) (hN : X.N.Nodup) (hi : X.N[i]? = some n) (hj : X.N[j]? = some kn) (hln : X.env.kindOf n = some .local) (hv : Vis X.env.scope n) (hlk : Loc X.env.scope kn) (hc : Names X x cv) (tk : Takes X c.W) (hK : X.K = c.K := by rfl)
    (hcat : ∀ xn, PySem.W.exmOne X.K (.ref (c.ax xn)) cv = some true)
    (hb : ∀ (W : WX) (pn : List (Addr × Obj)) (xe : Value → Shared → Prop), Takes (X.tr pn xe) W → PSs (X.tr pn xe) body (tsD { c with W := W } sf))
    (hsw : swapsWith (.Name n np2) (some (.Name kn kp)) ap.line X.env = pure false := by rfl) (hdb : (n == ("__debug__" : Str)) = false := by decide) (hcd : (n == ("__classdict__" : Str)) = false := by decide)
    (hfk : X.fn kn = true ∨ X.env.scope.names.lookup kn = some .local := by first | exact .inl rfl | exact .inr rfl | assumption) :
    PS X (.Try body [.ExceptHandler (some (.Name x np)) (some n) [.Assign [.Name kn kp] (.Name n np2) ap] pos'] [] [] pos) (tsD c (sTryK i j sf)) := by
  refine PS.weak (ps_try_keep (ts := fun a => tAsg (tVar i) (gName j)) hex hs hf hN hi hln hc tk (fun W pn xe t _ => hb W pn xe t) fun a pn => pss_one (ps_set (X := X.suite a pn) hN hj hlk (pe_var hi hv hdb hcd) hsw hfk)) fun D s H ⟨r, F, R, h⟩ => ?_
  refine ⟨r, F, ⟨⟨R.fr.sub, R.fr.old, R.fr.kept⟩, R.len, R.cell, R.apart⟩, ?_⟩
  unfold sTryK at h
  cases e : sf r with
  | none => rw [e] at h; exact h.elim
  | some z =>
    rw [e] at h
    cases z with
    | nx r' => exact fun s' H' F' R' sm => h s' H' F' ⟨⟨R'.fr.sub, R'.fr.old, R'.fr.kept⟩, R'.len, R'.cell, R'.apart⟩ sm
    | bk r' => exact fun s' H' F' R' sm => h s' H' F' ⟨⟨R'.fr.sub, R'.fr.old, R'.fr.kept⟩, R'.len, R'.cell, R'.apart⟩ sm
    | ct r' => exact fun s' H' F' R' sm => h s' H' F' ⟨⟨R'.fr.sub, R'.fr.old, R'.fr.kept⟩, R'.len, R'.cell, R'.apart⟩ sm
    | rt d => exact fun v H' F' R' sm hv => h v H' F' ⟨R'.sub, R'.old, R'.kept⟩ sm hv
    | er xn r' =>
      intro s' H' F' R' sm
      have R2 : Rel c r' s' H' F' := ⟨⟨R'.fr.sub, R'.fr.old, R'.fr.kept⟩, R'.len, R'.cell, R'.apart⟩
      dsimp only at h
      split at h
      · rename_i hl
        refine ⟨true, hcat xn, fun _ => ⟨c.ax xn, rfl, rfl, fun a na => ?_⟩, fun z => by cases z⟩
        have m := More.laid (p := a) (o := ExK (c.ax xn) a) R2.fr.sub na
        have R3 := R2.more m
        have hx : Dq c.K c.ax (upd F' a (ExK (c.ax xn) a)) (.ref a) (excD xn) := .exc xn upd_same
        have R4 := R3.set (i := i) hl.1 hx
        have R5 := R4.set (i := j) (by rw [List.length_set]; exact hl.2) hx
        have R6 := R5.wipe [i]
        refine ⟨.ref a, by rw [List.getElem?_set_self (by rw [R2.len]; exact hl.1)], ?_⟩
        exact h _ _ _ R6 (sm.trans m.f)
      · exact h.elim
end

/-! ### isinstance(e, C), e a caught error -/
def unX : PyData → Option XN
  | .dict [(.int 0, .none)] => some .mach
  | .dict [(.int 1, .none)] => some .wrd
  | .dict [(.int 2, .none)] => some .many
  | .dict [(.int 3, .none)] => some .txt
  | _ => none
theorem unX_is {d : PyData} {x : XN} (h : unX d = some x) : d = excD x := by
  unfold unX at h
  split at h <;> cases h <;> rfl
def oIsX (p : XN → Bool) : PyData → M PyData := fun d => match unX d with
  | some x => ok (.bool (p x))
  | none => none
theorem cdX_inj : ∀ {x y : XN}, cdX x = cdX y → x = y
  | .mach, .mach, _ => rfl
  | .wrd, .wrd, _ => rfl
  | .many, .many, _ => rfl
  | .txt, .txt, _ => rfl
  | .mach, .wrd, h => by cases h
  | .mach, .many, h => by cases h
  | .mach, .txt, h => by cases h
  | .wrd, .mach, h => by cases h
  | .wrd, .many, h => by cases h
  | .wrd, .txt, h => by cases h
  | .many, .mach, h => by cases h
  | .many, .wrd, h => by cases h
  | .many, .txt, h => by cases h
  | .txt, .mach, h => by cases h
  | .txt, .wrd, h => by cases h
  | .txt, .many, h => by cases h
theorem dq_exc {K : PySem.W.Frag} {ax : XN → Addr} {F : Hp} {v : V} {d : PyData} {x : XN} (h : Dq K ax F v d) (e : d = excD x) : ∃ b, v = .ref b ∧ F b = some (ExK (ax x) b) := by
  cases h with
  | exc x' h1 =>
    have : x' = x := cdX_inj (by simpa using e)
    subst this
    exact ⟨_, rfl, h1⟩
  | _ => cases e
def rIsX (K : PySem.W.Frag) : List V → Hp → VK → Prop := fun xs H Q => ∃ (a C : Addr) (c : V) (u : Value) (b : Bool), xs = [.ref a, c] ∧ (∀ w, RelV c w → w = u) ∧ H a = some (ExK C a) ∧ ExcC K C ∧ PySem.W.kitOne K (.ref C) u = some b ∧ Q (.bl b) H
section
variable {X : Cx} {c : Cc} {a e : Expr} {f : Ef} {pos : Pos}
theorem call_isX : CallR X (.builtin "isinstance") (rIsX X.K) := by
  intro pins s σ H xs us Q I r h
  obtain ⟨a, C, c, u, b, rfl, hc, hH, hC, e, q⟩ := h
  obtain ⟨u1, u2, rfl, r1, r2⟩ := vals2 r
  cases (show u1 = Value.ref a from r1)
  cases hc _ r2
  obtain ⟨⟨oe, vs, hget, h1, h2, h3⟩, _⟩ := (show ObjOk X.prog X.w H s.heap a (ExK C a) from I.hok a _ hH)
  have J : PySem.W.InstAt s.heap a oe C none := by
    obtain ⟨oc, od, oda, osl⟩ := oe
    dsimp only at h1 h2 h3
    subst h1 h2 h3
    exact ⟨hget, rfl, rfl, trivial⟩
  exact PySem.W.kia_one (PySem.W.handS_kitx_exc hC.hg hC.hk hC.hs hC.hd hC.ha hC.hn hC.ht hC.hm) I.kIn J e (fun z => nomatch z) fun tk => ⟨.bl b, H, I.tok tk, rfl, q⟩
theorem de_isx {p : XN → Bool} {x : Str} {cv : V} {cu : Value} {q p2 : Pos} (hg : Gl X "isinstance") (hm : X.mg "isinstance" = none) (hx : PE X (.Name x p2) (tC cv)) (ha : PE X a (teB c f)) (hcv : ∀ w, RelV cv w → w = cu)
    (hC : ∀ xn, ExcC X.K (c.ax xn)) (hp : ∀ xn, PySem.W.kitOne X.K (.ref (c.ax xn)) cu = some (p xn)) (hK : X.K = c.K := by rfl)
    (na : starEach (a :: .Name x p2 :: []) X.env = (false, eval a X.env) :: starEach (.Name x p2 :: []) X.env := by rfl) (nb : starEach (.Name x p2 :: []) X.env = (false, eval (.Name x p2) X.env) :: starEach [] X.env := by rfl) (hpl : (backTo pos (starEach (.Name x p2 :: []) X.env)).any (·.1) = false := by rfl) :
    PE X (.Call (.Name "isinstance" q) [a, .Name x p2] [] pos) (teD c (e1 (oIsX p) f)) := by
  refine PE.weak (pe_callB call_isX hg hm (by decide +kernel) (pa_cons ha (pa_cons hx pa_nil nb) na) (by decide) (by decide) na hpl) fun s H Q ⟨r, F, R, k⟩ => ⟨r, F, R, k.bnd.imp fun d H1 F1 R1 m1 k1 v hv => ?_⟩
  unfold oIsX at k1
  split at k1
  · rename_i xn en
    cases unX_is en
    obtain ⟨b, rfl, hb⟩ : ∃ b, v = .ref b ∧ F1 b = some (ExK (c.ax xn) b) := by
      rcases hv with h | ⟨_, _, _, _, e, _⟩
      · exact dq_exc h rfl
      · cases e
    exact ⟨b, c.ax xn, cv, cu, p xn, rfl, hcv, R1.fr.sub _ _ hb, hC xn, hp xn, k1.now R1 _ (.bl _)⟩
  · exact k1.elim
end
end DL

set_option Elab.async false
set_option linter.all false
set_option maxRecDepth 100000
set_option maxHeartbeats 2000000
/-! The data layer: xs.count(d), [..] * k. -/
noncomputable section
namespace DL
open PySem PySem.Spec PyProof.Rows L2
section
variable {X : Cx} {c : Cc} {a b e o : Expr} {f g : Ef} {pos p2 : Pos} {es : List Expr} {af : Af}

/-! ### xs.count(d) -/
def rCountQ (K : PySem.W.Frag) : V → List V → Hp → VK → Prop := fun x xs H Q => ∃ (a : Addr) (y : V) (d : PyData) (ds : List PyData), x = V.ref a ∧ xs = [y] ∧ Dp K H (V.ref a) (.list ds) ∧ Dp K H y d ∧
  SeqAt.shaped (.list ds) = true ∧ SeqAt.shaped d = true ∧ Q (.int (ds.countP fun z => PyData.eqv z d : Nat)) H
theorem mt_countQ (hu : X.A.units + 65 < cLine) : MtR X "list.count" (rCountQ X.K) := by
  intro pins s σ H x xs v us Q I rx rxs h
  obtain ⟨a, y, d, ds, rfl, rfl, hl, hy, sl, sd, q⟩ := h
  cases rx
  obtain ⟨uy, rfl, ry⟩ := rxs.one
  obtain ⟨bs, r1⟩ := Dp.reads I d y uy hy ry
  have hxs : PyData.canLayAll0 ds = true := SeqAt.canLay_of_shaped sl
  cases hl with
  | lst hs ha =>
    obtain ⟨its, rv, ⟨⟨cls, dd, data, sls⟩, n, ho, hc, hdn, hdt⟩, hlen⟩ := I.list hs
    simp only at hc hdt
    subst hc hdt
    obtain ⟨as, h4⟩ := Dp.readsAll I ds _ its ha rv
    have hmap : its.map (SeqAt.readOf s.heap) = ds := SeqAt.readsAll_map ds its as hxs h4
    refine call_meets PySem.F.slot_list_count ⟨_, ho, rfl⟩ PySem.F.entry_list_count (PySem.F.args_list_count_2 _ _)
      (SeqAt.list_countAt a its.toArray n dd sls uy fun u => PyData.eqv (SeqAt.readOf s.heap u) d) ⟨ho, SeqAt.items_eqAt (vs := its.toArray) (show ReadsAll s.heap its.toArray.toList ds as from h4) r1 hxs (SeqAt.canLay_of_shaped sd) (room_in_shaped sd hu), ?_⟩
    refine ⟨.int (ds.countP fun z => PyData.eqv z d : Nat), H, I.tok _, ⟨s.toks, ?_⟩, q⟩
    show Value.int ((its.toArray.toList.countP _ : Nat) : Int) s.toks = Value.int _ s.toks
    rw [← hmap, List.countP_map]
    rfl
def eLCount (f g : Ef) : Ef := fun r => bnd (f r) fun x => match x with
  | .list ds => bnd (g r) fun d => if SeqAt.shaped (.list ds) = true ∧ SeqAt.shaped d = true then ok (.int (ds.countP fun z => PyData.eqv z d : Nat)) else none
  | _ => none
theorem de_lcount {apos cpos : Pos} (hu : X.A.units + 65 < cLine) (ho : PE X o (teB c f)) (ha : PE X e (teB c g)) (hK : X.K = c.K := by rfl)
    (hbase : attributeBase o "count" X.env (eval o X.env) = eval o X.env := by rfl)
    (hfew : ((backTo cpos (starEach (e :: []) X.env)).all (fun x => !x.1) && (backToKw cpos (keywordEach [] X.env)).all (fun x => x.1.isSome)
      && decide ((e :: []).length + ([] : List Keyword).length + (if ([] : List Keyword).isEmpty then 0 else 1) < 30)) = true := by rfl)
    (hline : (apos.endLine == cpos.line) = true := by rfl) (hs : starEach (e :: []) X.env = (false, eval e X.env) :: starEach [] X.env := by rfl) (hplain : (backTo cpos (starEach [] X.env)).any (·.1) = false := by rfl) :
    PE X (.Call (.Attribute o "count" apos) [e] [] cpos) (teD c (eLCount f g)) := by
  refine PE.weak (pe_bm PySem.F.plainAttrs_list PySem.F.slot_list_count PySem.F.type_list_count (mt_countQ hu) ho (pa_cons ha pa_nil hs) hbase hfew hline hs hplain) fun s H Q ⟨r, F, R, k⟩ => ⟨r, F, R, k.bnd.imp fun x H1 F1 R1 m1 k1 v hv => ?_⟩
  split at k1
  · obtain ⟨p, vs, rfl, hp, hd⟩ := hv.list R1.fr.sub
    refine ⟨.inl ⟨rfl, vs, by rw [hK]; exact hp⟩, r, F1, R1, k1.bnd.imp fun d H2 F2 R2 m2 k2 u hu => ?_⟩
    split at k2
    · rename_i z
      rw [hK]
      exact ⟨p, u, d, _, rfl, rfl, .lst (same_l m2.h hp) ((dpAll_same (m2.f.trans R2.fr.sub) hd).dp (by have := shaped_lay z.1; rwa [PyData.canLay0] at this)), hu.dp R2.fr.sub z.2, z.1, z.2, k2.now R2 _ (.int _)⟩
    · exact k2.elim
  · exact k1.elim

/-! ### list(x), a new list -/
def nList (f : Ef) : Af := fun r => bnd (f r) fun x => match x with | .list xs => ok xs | .tuple xs => ok xs | _ => none
theorem do_listN {p : Pos} (hg : Gl X "list") (hm : X.mg "list" = none) (ha : PE X a (teB c f)) (hK : X.K = c.K := by rfl)
    (na : starEach [a] X.env = (false, eval a X.env) :: starEach [] X.env := by rfl) : PE X (.Call (.Name "list" p) [a] [] pos) (teO c (nList f)) := do_list hg hm ha hK na
/-! ### [..] * k, a new list -/
def nRep (af : Af) (g : Ef) : Af := fun r => bnd (af r) fun xs => if xs.length ≤ lim then bnd (g r) fun z => match z with
  | .int k => if inR k = true ∧ xs.length * k.toNat ≤ lim then ok (List.replicate k.toNat xs).flatten else none
  | _ => none
  else none
theorem do_rep {lp : Pos} (h : PA X es (taD c af)) (hb : PE X b (teB c g)) : PE X (.BinOp (.List es lp) .Mult b pos) (teO c (nRep af g)) := by
  refine PE.weak (pe_op op_rep (pe_lst h) hb) fun s H Q ⟨r, F, R, k⟩ => ⟨r, F, R, k.bnd.imp fun xs H1 F1 R1 m1 k1 vs hv => ?_⟩
  split at k1
  · rename_i z
    refine ⟨lim_line (by rw [dpAll_len hv]; exact z), fun p np => ?_⟩
    have m := More.loose (o := .lst vs) R1.fr.sub np
    refine ⟨r, F1, R1.more m, (k1.mono m).bnd.imp fun y H2 F2 R2 m2 k2 u hu => ?_⟩
    split at k2
    · split at k2
      · rename_i n zz
        have zr := inR_iff.mp zz.1
        refine ⟨p, n, vs, rfl, hu.int, m2.h _ _ upd_same, by omega, by omega, lim_line (by rw [dpAll_len hv]; exact zz.2), fun q nq => ?_⟩
        have m3 := More.loose (o := .lst (List.replicate n.toNat vs).flatten) R2.fr.sub nq
        exact k2 _ _ (R2.more m3) m3 q _ upd_same (R2.fr.newF nq) ((m1.trans (m.trans m2)).h.free nq) (dpAll_rep (dpAll_same m2.f hv) _)
      · exact k2.elim
    · exact k2.elim
  · exact k1.elim
end
end DL

set_option Elab.async false
set_option linter.all false
set_option maxRecDepth 100000
/-! The data layer, 6: a set made of a list of ints (with what its order needs). -/
noncomputable section
namespace DL
open PySem PySem.Spec PyProof.Rows L2
section
variable {P : Program} {w : World} {A : Around} {E : Value → Shared → Prop} {s : Shared}
abbrev bareSet (w : World) : Obj := { cls := .type "set", dict := none, data := .set #[] 0 (.fresh 0 0 (!w.params.followText "set-order")) }
set_option maxHeartbeats 6400000 in
theorem set_of_list {l : Addr} {items : Array Value} (ns : List Int) {Q : Value → Shared → Prop} (hh : A.handled = none) (hl : s.heap.IsList l items) (hit : IntsAre items.toList ns) (hb : ns.length + 1 < scanBound)
    (h : ∀ (h' : Heap) (tk c : Nat), SetR w h' s.heap.objs.size (fun j => decide (j ∈ ns)) c → c ≤ ns.length → (∀ b o, s.heap.get? b = some o → h'.get? b = some o) → Q (.ref s.heap.objs.size) { s with heap := h', toks := tk }) :
    wpAny (model P w) A (call (.type "set") [.ref l]) Q E s := by
  have isz : items.size = ns.length := by rw [← Array.length_toList]; exact IntsAre.length hit
  obtain ⟨c, tl, hmro⟩ := F.called_set.mro
  have hmade := F.called_set.made
  have hsub := F.called_set.sub
  have h1 := F.called_set.notType
  have h2 := F.called_set.canCreate
  have hct := F.typeCall_set_1 (.ref l)
  refine wpAny_call (codeAny_of_tree ?_)
  show wpAny _ _ (callAny (.type "set") _) _ _ _
  refine wpAny_pure ⟨Code.quiet_builtin _ (by decide +kernel), codeAny_builtin F.entry_type_call ?_⟩
  rw [Around.under_plain (weight_type_call_type "set" [.ref l] []) rfl]
  repeat (any_goals (first | assumption | wp_step))
  refine codeAny_mono (code_set_led1 (.ref l) (E := E) (Q₁ := fun obj s1 => obj = .ref s.heap.objs.size ∧ s1 = { s with heap := s.heap.push (bareSet w) }) ⟨rfl, rfl⟩) fun r s1 hr => ?_
  cases r with
  | error e => exact hr
  | ok fl =>
    cases fl with
    | ret obj =>
      obtain ⟨rfl, rfl⟩ := hr
      have hS : (s.heap.push (bareSet w)).get? s.heap.objs.size = some (bareSet w) := Heap.get?_push_size _ rfl
      have hT : Shared.TypeIs { s with heap := s.heap.push (bareSet w) } (.ref s.heap.objs.size) "set" := ⟨_, hS, rfl⟩
      have hli := F.called_set.init.lookup
      have hbi := F.called_set.init.bind (.ref s.heap.objs.size)
      repeat (any_goals (first | assumption | wp_step))
      refine codeAny_mono (codeAny_call_builtin (R := wants (fun r s2 => r = .none ∧ ∃ h' tk c, s2 = { s with heap := h', toks := tk } ∧ SetR w h' s.heap.objs.size (fun j => decide (j ∈ ns)) c ∧ c ≤ ns.length ∧
          (∀ b o, s.heap.get? b = some o → h'.get? b = some o)) E) F.called_set.init.plain F.entry_set_init (PySem.check_set_init_1 hT ?_)) fun r2 s2 hr2 => ?_
      · obtain ⟨⟨ocls, odict, odata, oslots⟩, hol, hcl, nl, hdl⟩ := hl
        simp only at hcl hdl
        subst hcl; subst hdl
        have hol' : (s.heap.push (bareSet w)).get? l = some { cls := .type "list", dict := odict, data := .seq items nl, slots := oslots } := Heap.get?_push_of_some _ hol
        have hsls := F.sub_list_set
        have hslf := F.sub_list_frozenset
        have hne : (Value.type "list" == Value.type "dict") = false := by decide
        have hl1 : (s.heap.push (bareSet w)).IsList l items := ⟨_, hol', rfl, nl, rfl⟩
        unfold Builtin.«set.__init__» noKeywords Builtin.Frozenset.updateFrom
        generalize hPI : pyIter = PI
        wp_walk
        subst hPI
        refine wpAny_pyIter_list hl1 ?_
        refine wpAny_bind (wpAny_runValue ?_)
        have lS : l < s.heap.objs.size := Heap.lt_size hol
        have hz1 : (s.heap.push (bareSet w)).objs.size = s.heap.objs.size + 1 := Heap.size_push ..
        have neI : l ≠ (s.heap.push (bareSet w)).objs.size := by rw [hz1]; exact Nat.ne_of_lt (Nat.lt_succ_of_lt lS)
        have nSf : s.heap.objs.size ∉ [(s.heap.push (bareSet w)).objs.size, l] := by
          rw [hz1]
          simp only [List.mem_cons, List.not_mem_nil, or_false, not_or]
          exact ⟨Nat.ne_of_lt (Nat.lt_succ_self _), Nat.ne_of_gt lS⟩
        have hval : ∀ (i : Nat) (v : Value), items[i]? = some v → ∃ k t, ns[i]? = some k ∧ v = .int k t := fun i v hv => by
          have hi : i < ns.length := by rw [← isz]; exact (Array.getElem?_eq_some_iff.mp hv).1
          obtain ⟨t, e⟩ := PyProof.Rows.IntsAre.int_at hit i v (by rw [Array.getElem?_toList]; exact hv)
          exact ⟨ns[i], t, List.getElem?_eq_getElem hi, by rw [e, List.getD_eq_getElem?_getD, List.getElem?_eq_getElem hi] <;> rfl⟩
        refine set_update_ints ((Walks.list (by simp [hh]) _ l neI items).toS) s.heap.objs.size nSf ns isz hb hval (items.size - 0) 0 _ (by omega) (Nat.zero_le _)
          ⟨⟨_, Heap.get?_push_size _ rfl, rfl, rfl⟩, (hl1.push _)⟩ ⟨0, Nat.le_refl 0, setR_new_at (Heap.get?_push_of_some _ hS)⟩ ?_
        intro s' c' hm hc' hS'
        obtain ⟨h', g2, d', tk', os'⟩ := s'
        have eg : g2 = s.gens := hm.gens
        have ed : d' = s.drawn := hm.drawn
        have eo : os' = s.os := hm.os
        subst eg; subst ed; subst eo
        show wpAny _ _ _ _ _ _
        refine wpAny_pure ?_
        show wpAny _ _ (ret Value.none) _ _ _
        rw [isz] at hc'
        refine wpAny_pure ⟨rfl, h', tk', c', rfl, hS', hc', fun b o e => ?_⟩
        have b0 : b < s.heap.objs.size := Heap.lt_size e
        refine hm.heap b o ?_ (Heap.get?_push_of_some _ (Heap.get?_push_of_some _ e))
        simp only [List.mem_cons, List.not_mem_nil, or_false, not_or]
        rw [hz1]
        exact ⟨Nat.ne_of_lt b0, Nat.ne_of_lt (Nat.lt_succ_of_lt b0)⟩
      · cases r2 with
        | error e => exact hr2
        | ok fl2 =>
          cases fl2 with
          | ret r =>
            obtain ⟨rfl, h', tk, c', rfl, hS', hc', hk'⟩ := hr2
            repeat (any_goals (first | assumption | wp_step))
            exact h _ _ _ hS' hc' hk'
          | _ => exact hr2.elim
    | _ => exact hr.elim
end
end DL

set_option Elab.async false
set_option linter.all false
set_option maxRecDepth 100000
set_option maxHeartbeats 2000000
/-! The data layer: sorted(set(xs)). -/
noncomputable section
namespace DL
open PySem PySem.Spec PyProof.Rows L2
section
variable {X : Cx} {c : Cc} {a : Expr} {f : Ef} {pos : Pos}
theorem perm_of : ∀ {l m : List Int}, l.Nodup → m.Nodup → (∀ z, z ∈ l ↔ z ∈ m) → l.Perm m
  | [], m, _, _, h => by
    cases m with
    | nil => exact List.Perm.refl _
    | cons x m => exact absurd ((h x).mpr List.mem_cons_self) (by simp)
  | x :: l, m, hl, hm, h => by
    rw [List.nodup_cons] at hl
    have hx : x ∈ m := (h x).mp List.mem_cons_self
    have ih := perm_of (l := l) (m := m.erase x) hl.2 (hm.erase x) fun z => by
      rw [List.Nodup.mem_erase_iff hm, ← h z, List.mem_cons]
      constructor
      · exact fun q => ⟨fun e => hl.1 (e ▸ q), .inr q⟩
      · rintro ⟨q1, rfl | q2⟩
        · exact absurd rfl q1
        · exact q2
    exact (ih.cons x).trans (List.perm_cons_erase hx).symm
def tSortedSetL (K : PySem.W.Frag) (ta : TE) : TE := fun σ H Q => ta σ H fun x H1 => ∃ (l : Addr) (ns : List Int), x = .ref l ∧ SqL K H1 l (ns.map V.int) ∧ ns.length < 64 ∧ ∀ p, H1 p = none → Q (.ref p) (upd H1 p (.lst ((isort (dd ns)).map V.int)))
theorem pe_sortedSetL {ta : TE} {p p2 q : Pos} (hc : X.calm = true) (hg : Gl X "sorted") (hm : X.mg "sorted" = none) (hg2 : Gl X "set") (hm2 : X.mg "set" = none) (ha : PE X a ta)
    (na : starEach [a] X.env = (false, eval a X.env) :: starEach [] X.env := by rfl) : PE X (.Call (.Name "sorted" p) [.Call (.Name "set" p2) [a] [] q] [] pos) (tSortedSetL X.K ta) := by
  refine ⟨fun pins s σ H Q I h => ?_⟩
  refine Call_ (ld_blt I hg hm boot_sorted ?_)
  refine PyProof.Rows.callWith_builtin1 (PyProof.Rows.args_cons ?_ rfl) rfl rfl
  refine Call_ (ld_blt I hg2 hm2 boot_set ?_)
  refine PyProof.Rows.callWith_type1 (PyProof.Rows.args_cons (thn (ha.run pins s σ H _ I h) fun v s1 ⟨x, H1, I1, r1, q1⟩ => PyProof.Rows.args_nil ?_) na) na rfl
  obtain ⟨l, ns, rfl, hq, hl, q1⟩ := q1
  cases r1
  obtain ⟨its, r, pl, hz⟩ := I1.list hq
  refine set_of_list ns (I1.ok.hd hc) pl.isList (by simpa using r.ints) (by unfold scanBound; omega) fun h' tk cc hS hcc hk => ?_
  refine PyProof.Rows.args_nil ?_
  have I2 : L2.Inv X pins σ H1 { s1 with heap := h', toks := tk } := I1.kept hk
  refine sorted_set hS (I2.ok.hd hc) (by omega) fun s' p out k ns' kk g o hp hg' hi hs hm' hl' => ?_
  have en : ns' = isort (dd ns) := by
    refine isort_of (perm_of (hs.imp fun h => Int.ne_of_lt h) (nodup_dd ns) fun z => ?_) (hs.imp fun h => Int.le_of_lt h)
    rw [hm', mem_dd]
    exact decide_eq_true_iff
  have hlen : (ns'.map V.int).length ≤ sizeLine := by rw [List.length_map, hl', sizeLine_eq]; omega
  have hn : H1 p = none := I2.hok.fresh hp
  have J : Inv X pins σ (upd H1 p (.lst (ns'.map V.int))) { ({ s1 with heap := h', toks := tk } : Shared) with heap := s'.heap, gens := s'.gens, drawn := s'.drawn, toks := s'.toks } :=
    I2.call (ch := []) (Un.laid kk hp hn) (I2.hok.laid kk hp ⟨hlen, out.toList, k, vals_of_ints hi, hg'⟩) (by rw [g]; exact I2.bare) (fun _ z => nomatch z)
  have e : s' = { ({ s1 with heap := h', toks := tk } : Shared) with heap := s'.heap, gens := s'.gens, drawn := s'.drawn, toks := s'.toks } := by
    cases s'
    cases s1
    cases o
    rfl
  rw [e]
  rw [en] at J
  exact ⟨.ref p, _, J, rfl, q1 p hn⟩
def oSortedSet : PyData → M PyData
  | .list xs => match intsOf xs with
    | some ns => if ns.length < 64 then ok (.list ((isort (dd ns)).map .int)) else none
    | none => none
  | _ => none
theorem de_sortedSet {p p2 q : Pos} (hc : X.calm = true) (hg : Gl X "sorted") (hm : X.mg "sorted" = none) (hg2 : Gl X "set") (hm2 : X.mg "set" = none) (ha : PE X a (teB c f)) (hK : X.K = c.K := by rfl)
    (na : starEach [a] X.env = (false, eval a X.env) :: starEach [] X.env := by rfl) : PE X (.Call (.Name "sorted" p) [.Call (.Name "set" p2) [a] [] q] [] pos) (teD c (e1 oSortedSet f)) := by
  refine PE.weak (pe_sortedSetL hc hg hm hg2 hm2 ha na) fun s H Q ⟨r, F, R, k⟩ => ⟨r, F, R, k.bnd.imp fun x H1 F1 R1 m1 k1 v hv => ?_⟩
  unfold oSortedSet at k1
  split at k1
  · split at k1
    · split at k1
      · rename_i ns e z
        obtain ⟨p, ws, rfl, hs, hd⟩ := hv.list R1.fr.sub
        rw [intsOf_eq e] at hd
        refine ⟨p, _, rfl, by rw [hK, ← dpAll_ints hd]; exact hs, z, fun q nq => ?_⟩
        have z2 := lay_l R1 k1 nq dpAll_of_ints
        exact z2.1 _ z2.2
      · exact k1.elim
    · exact k1.elim
  · exact k1.elim
end
end DL

set_option Elab.async false
set_option linter.all false
set_option maxRecDepth 100000
set_option maxHeartbeats 2000000
/-! The data layer: a dict of the def's own, its keys ints. -/
noncomputable section
namespace DL
open PySem PySem.Spec PyProof.Rows L2

def lookM (kvs : List (Int × PyData)) (n : Int) : Option PyData := (kvs.find? fun q => decide (q.1 = n)).map (·.2)
def putM (kvs : List (Int × PyData)) (n : Int) (d : PyData) : List (Int × PyData) :=
  if (kvs.any fun q => decide (q.1 = n)) = true then kvs.map fun q => if q.1 = n then (q.1, d) else q else kvs ++ [(n, d)]
section
variable {K : PySem.W.Frag} {ax : XN → Addr} {F : Hp}
/-- the dict's pairs, as the heap has them and as data -/
def KD (K : PySem.W.Frag) (ax : XN → Addr) (F : Hp) (ws : List (Key × V)) (kvs : List (Int × PyData)) : Prop := ws.map (·.1) = kvs.map (fun q => (Sum.inl q.1 : Key)) ∧ DqAll K ax F (ws.map (·.2)) (kvs.map (·.2))
theorem KD.nil : KD K ax F [] [] := ⟨rfl, .nil⟩
theorem KD.cons_inv {w : Key × V} {ws : List (Key × V)} {q : Int × PyData} {kvs : List (Int × PyData)} (h : KD K ax F (w :: ws) (q :: kvs)) : w.1 = Sum.inl q.1 ∧ Dq K ax F w.2 q.2 ∧ KD K ax F ws kvs := by
  obtain ⟨h1, h2⟩ := h
  rw [List.map_cons, List.map_cons] at h1 h2
  obtain ⟨e1, e2⟩ := List.cons.inj h1
  cases h2 with
  | cons a b => exact ⟨e1, a, e2, b⟩
theorem KD.cons {w : Key × V} {ws : List (Key × V)} {q : Int × PyData} {kvs : List (Int × PyData)} (h1 : w.1 = Sum.inl q.1) (h2 : Dq K ax F w.2 q.2) (h3 : KD K ax F ws kvs) : KD K ax F (w :: ws) (q :: kvs) :=
  ⟨by rw [List.map_cons, List.map_cons, h1, h3.1], .cons h2 h3.2⟩
theorem KD.len {ws : List (Key × V)} {kvs : List (Int × PyData)} (h : KD K ax F ws kvs) : ws.length = kvs.length := by
  have := congrArg List.length h.1
  simpa using this
theorem KD.look {n : Int} : ∀ {ws : List (Key × V)} {kvs : List (Int × PyData)}, KD K ax F ws kvs → (lookM kvs n = none ∧ valV ws (.inl n) = none) ∨ ∃ v d, lookM kvs n = some d ∧ valV ws (.inl n) = some v ∧ Dq K ax F v d
  | [], [], _ => .inl ⟨rfl, rfl⟩
  | [], q :: kvs, h => by have := h.len; cases this
  | w :: ws, [], h => by have := h.len; cases this
  | w :: ws, q :: kvs, h => by
    obtain ⟨e, a, b⟩ := h.cons_inv
    by_cases hq : q.1 = n
    · refine .inr ⟨w.2, q.2, ?_, valV_pos (by rw [e, hq]), a⟩
      simp [lookM, List.find?_cons, hq]
    · have e2 : lookM (q :: kvs) n = lookM kvs n := by simp [lookM, List.find?_cons, hq]
      rw [e2, valV_neg (by rw [e]; exact fun z => hq (Sum.inl.inj z))]
      exact KD.look b
theorem KD.same {F' : Hp} (e : Same F F') {ws : List (Key × V)} {kvs : List (Int × PyData)} (h : KD K ax F ws kvs) : KD K ax F' ws kvs := ⟨h.1, dpAll_same e h.2⟩
theorem KD.map {n : Int} {v : V} {d : PyData} (hv : Dq K ax F v d) : ∀ {ws : List (Key × V)} {kvs : List (Int × PyData)}, KD K ax F ws kvs → KD K ax F (ws.map fun kv => if kv.1 = .inl n then (kv.1, v) else kv) (kvs.map fun q => if q.1 = n then (q.1, d) else q)
  | [], [], _ => KD.nil
  | [], q :: kvs, h => by have := h.len; cases this
  | w :: ws, [], h => by have := h.len; cases this
  | w :: ws, q :: kvs, h => by
    obtain ⟨e, a, b⟩ := h.cons_inv
    rw [List.map_cons, List.map_cons]
    by_cases hq : q.1 = n
    · rw [if_pos hq, if_pos (by rw [e, hq])]
      exact KD.cons e hv (KD.map hv b)
    · rw [if_neg hq, if_neg (by rw [e]; exact fun z => hq (Sum.inl.inj z))]
      exact KD.cons e a (KD.map hv b)
theorem KD.snoc {n : Int} {v : V} {d : PyData} (hv : Dq K ax F v d) {ws : List (Key × V)} {kvs : List (Int × PyData)} (h : KD K ax F ws kvs) : KD K ax F (ws ++ [(.inl n, v)]) (kvs ++ [(n, d)]) :=
  ⟨by rw [List.map_append, List.map_append, h.1]; rfl, by rw [List.map_append, List.map_append]; exact dpAll_app h.2 (dpAll_one hv)⟩
theorem KD.any {n : Int} : ∀ {ws : List (Key × V)} {kvs : List (Int × PyData)}, KD K ax F ws kvs → (ws.any fun kv => decide (kv.1 = .inl n)) = kvs.any fun q => decide (q.1 = n)
  | [], [], _ => rfl
  | [], q :: kvs, h => by have := h.len; cases this
  | w :: ws, [], h => by have := h.len; cases this
  | w :: ws, q :: kvs, h => by
    obtain ⟨e, a, b⟩ := h.cons_inv
    rw [List.any_cons, List.any_cons, KD.any b, e]
    congr 1
    by_cases hq : q.1 = n
    · rw [decide_eq_true hq, decide_eq_true (by rw [hq])]
    · rw [decide_eq_false hq, decide_eq_false (fun z => hq (Sum.inl.inj z))]
theorem KD.put {n : Int} {v : V} {d : PyData} (hv : Dq K ax F v d) {ws : List (Key × V)} {kvs : List (Int × PyData)} (h : KD K ax F ws kvs) : KD K ax F (putK ws (.inl n) v) (putM kvs n d) := by
  unfold putK putM
  rw [h.any]
  split
  · exact h.map hv
  · exact h.snoc hv
end

section
variable {c : Cc} {r : Rho} {s : L2.St} {H F : Hp}
theorem Rel.setM {i : Nat} {p : Addr} {ws : List (Key × V)} {kvs : List (Int × PyData)} (R : Rel c r s H F) (hi : i < r.length) (h1 : H p = some (.dK ws)) (h2 : F p = none) (h3 : c.H0 p = none) (h4 : KD c.K c.ax F ws kvs) : Rel c (r.set i (some (.dct kvs))) (s.set i (some (.ref p))) H F := by
  refine ⟨R.fr, by rw [List.length_set, List.length_set]; exact R.len, fun j b e => ?_, fun j k ys zs q e1 e2 e3 e4 => ?_⟩
  · rcases set_get e with ⟨rfl, eb⟩ | ⟨ne, e'⟩
    · cases eb
      exact ⟨.ref p, by rw [List.getElem?_set_self (by rw [R.len]; exact hi)], ws, h1, h2, h3, h4.1, h4.2⟩
    · obtain ⟨w, q1, q2⟩ := R.cell j b e'
      exact ⟨w, by rw [List.getElem?_set_ne (Ne.symm ne)]; exact q1, q2⟩
  · rcases set_get e1 with ⟨_, eb⟩ | ⟨n1, e1'⟩
    · cases eb
    · rcases set_get e2 with ⟨_, eb⟩ | ⟨n2, e2'⟩
      · cases eb
      · rw [List.getElem?_set_ne (Ne.symm n1)] at e3
        rw [List.getElem?_set_ne (Ne.symm n2)] at e4
        exact R.apart j k ys zs q e1' e2' e3 e4
/-- no other slot has a dict -/
def onlyM (r : Rho) (i : Nat) : Bool := (r.set i none).all fun b => match b with
  | some (.dct _) => false
  | _ => true
theorem onlyM_is {i j : Nat} {kvs : List (Int × PyData)} (h : onlyM r i = true) (e : r[j]? = some (some (.dct kvs))) : j = i := by
  by_cases hj : j = i
  · exact hj
  · have e2 : (r.set i none)[j]? = some (some (.dct kvs)) := by rw [List.getElem?_set_ne (Ne.symm hj)]; exact e
    have := List.all_eq_true.mp h _ (List.mem_of_getElem? e2)
    cases this
theorem Rel.writeM {i : Nat} {p : Addr} {ws : List (Key × V)} {kvs kvs' : List (Int × PyData)} (R : Rel c r s H F) (e : r[i]? = some (some (.dct kvs))) (es : s[i]? = some (some (V.ref p))) (ho : onlyM r i = true) (h2 : F p = none) (h3 : c.H0 p = none) (h4 : KD c.K c.ax F ws kvs') :
    Rel c (r.set i (some (.dct kvs'))) s (upd H p (.dK ws)) F := by
  refine ⟨R.fr.write h2 h3, by rw [List.length_set]; exact R.len, fun j b q => ?_, fun j k ys zs q e1 e2 e3 e4 => ?_⟩
  · rcases set_get q with ⟨rfl, eb⟩ | ⟨ne, e'⟩
    · cases eb
      exact ⟨_, es, ws, upd_same, h2, h3, h4.1, h4.2⟩
    · cases b with
      | d x => obtain ⟨w, q1, q2⟩ := R.data e'; exact ⟨w, q1, q2⟩
      | own ys =>
        obtain ⟨p', vs', q1, q2, q3, q4, q5⟩ := R.mine e'
        obtain ⟨p2, ws2, t1, t2, _⟩ := R.mineM e
        refine ⟨_, q1, vs', ?_, q3, q4, q5⟩
        rw [upd_ne ?_]; exact q2
        rintro rfl
        rw [es] at t1
        cases t1
        rw [q2] at t2; cases t2
      | dct ys => exact absurd (onlyM_is ho e') ne
      | dic ys =>
        obtain ⟨p', ws', q1, q2, q3, q4, q5⟩ := R.mineK e'
        obtain ⟨p2, ws2, t1, t2, _⟩ := R.mineM e
        refine ⟨_, q1, ws', ?_, q3, q4, q5⟩
        rw [upd_ne ?_]; exact q2
        rintro rfl
        rw [es] at t1
        cases t1
        rw [q2] at t2; cases t2
      | dif ys =>
        obtain ⟨p', ws', o', q1, q2, q3⟩ := R.mineF e'
        exact ⟨_, q1, ws', o', q2, q3⟩
      | obj fs =>
        obtain ⟨p', C, dx, fV, q1, q2, q3, q4, q5, q6, q7⟩ := R.mineO e'
        obtain ⟨p2, ws2, t1, t2, _⟩ := R.mineM e
        refine ⟨_, q1, C, dx, fV, q2, ?_, q4, q5, q6, q7⟩
        rw [upd_ne ?_]; exact q3
        rintro rfl
        rw [es] at t1
        cases t1
        rw [q3] at t2; cases t2
      | obf fs =>
        obtain ⟨p', C, dx, fV, q1, q2, q3, q4, q5⟩ := R.mineP e'
        exact ⟨_, q1, C, dx, fV, q2, q3, q4, q5⟩
  · rcases set_get e1 with ⟨_, eb⟩ | ⟨n1, e1'⟩
    · cases eb
    · rcases set_get e2 with ⟨_, eb⟩ | ⟨n2, e2'⟩
      · cases eb
      · exact R.apart j k ys zs q e1' e2' e3 e4
end
def sSetM (i : Nat) : Sf := fun r => if i < r.length then some (.nx (r.set i (some (.dct [])))) else none
def eMGet2 (i : Nat) (f g : Ef) : Ef := fun r => match r[i]? with
  | some (some (.dct kvs)) => bnd (f r) fun k => bnd (g r) fun d => match k with
    | .int n => ok ((lookM kvs n).getD d)
    | _ => none
  | _ => none
def eMIx (i : Nat) (f : Ef) : Ef := fun r => match r[i]? with
  | some (some (.dct kvs)) => bnd (f r) fun k => match k with
    | .int n => (match lookM kvs n with
      | some d => ok d
      | none => none)
    | _ => none
  | _ => none
def eMIn (neg : Bool) (i : Nat) (f : Ef) : Ef := fun r => bnd (f r) fun k => match r[i]?, k with
  | some (some (.dct kvs)), .int n => ok (.bool (neg ^^ (lookM kvs n).isSome))
  | _, _ => none
def eMLen (i : Nat) : Ef := fun r => match r[i]? with
  | some (some (.dct kvs)) => ok (.int (kvs.length : Nat))
  | _ => none
def sMPut (i : Nat) (k f : Ef) : Sf := fun r => match r[i]? with
  | some (some (.dct kvs)) => ofE (f r) r fun d => ofE (k r) r fun z => match z with
    | .int n => if kvs.length < lim ∧ onlyM r i = true then some (.nx (r.set i (some (.dct (putM kvs n d))))) else none
    | _ => none
  | _ => none
section
variable {X : Cx} {c : Cc} {i : Nat} {x : Str} {o e e' : Expr} {f g : Ef} {px dp pos apos cpos : Pos}
theorem ds_setM (hN : X.N.Nodup) (hi : X.N[i]? = some x) (hx : Loc X.env.scope x) (hs : swapsWith (.Dict [] [] dp) (some (.Name x px)) pos.line X.env = pure false := by rfl)
    (hf : X.fn x = true ∨ X.env.scope.names.lookup x = some .local := by first | exact .inl rfl | exact .inr rfl | assumption) : PS X (.Assign [.Name x px] (.Dict [] [] dp) pos) (tsD c (sSetM i)) := by
  refine PS.weak (ps_set hN hi hx pe_dnewK hs hf) fun D s H ⟨r, F, R, h⟩ => fun p np => ?_
  unfold sSetM at h
  split at h
  · rename_i z
    have m := More.loose (o := .dK []) R.fr.sub np
    have R1 := R.more m
    have R2 := R1.setM (i := i) (kvs := []) z upd_same (R.fr.newF np) (R.fr.new np) KD.nil
    exact h _ _ _ R2 (Same.refl _)
  · exact h.elim
theorem de_mget2 (hu : X.A.units + 1 < cLine) (hv : PE X o (tVar i)) (ha : PE X e (teD c f)) (hb : PE X e' (teD c g)) (m : M2 X o "get" apos e e' cpos) : PE X (.Call (.Attribute o "get" apos) [e, e'] [] cpos) (teD c (eMGet2 i f g)) := by
  refine PE.weak (pe_dget2 hu hv ha hb m) fun s H Q ⟨r, F, R, h⟩ => ?_
  unfold eMGet2 at h
  split at h
  · rename_i kvs eo
    obtain ⟨p, ws, q1, q2, q3, q4, q5⟩ := R.mineM eo
    refine ⟨_, q1, p, rfl, .inl ⟨ws, .inl q2⟩, r, F, R, h.bnd.imp fun k H1 F1 R1 m1 k1 v hv => ⟨r, F1, R1, k1.bnd.imp fun d H2 F2 R2 m2 k2 u hu => ?_⟩⟩
    split at k2
    · rename_i n
      have m12 := m1.trans m2
      have kd : KD c.K c.ax F2 ws kvs := KD.same m12.f q5
      cases hv
      refine ⟨_, DGet.k (k := .inl n) (m12.h _ _ q2), ?_⟩
      rcases kd.look (n := n) with ⟨l1, l2⟩ | ⟨w, d', l1, l2, l3⟩
      · rw [l2]
        rw [l1] at k2
        exact k2.now R2 _ hu
      · rw [l2]
        rw [l1] at k2
        exact k2.now R2 _ l3
    · exact k2.elim
  · exact h.elim
theorem de_mix (hu : X.A.units + 1 < cLine) (hv : PE X o (tVar i)) (ha : PE X e (teD c f)) (hs : NoSl e) : PE X (.Subscript o e pos) (teD c (eMIx i f)) := by
  refine PE.weak (pe_dget hu hv ha hs) fun s H Q ⟨r, F, R, h⟩ => ?_
  unfold eMIx at h
  split at h
  · rename_i kvs eo
    obtain ⟨p, ws, q1, q2, q3, q4, q5⟩ := R.mineM eo
    refine ⟨_, q1, r, F, R, h.bnd.imp fun k H1 F1 R1 m1 k1 v hv => ?_⟩
    split at k1
    · rename_i n
      have kd : KD c.K c.ax F1 ws kvs := KD.same m1.f q5
      cases hv
      split at k1
      · rename_i d l1
        rcases kd.look (n := n) with ⟨l1', l2⟩ | ⟨w, d', l1', l2, l3⟩
        · rw [l1] at l1'; cases l1'
        · rw [l1] at l1'; cases l1'
          exact ⟨p, w, rfl, by rw [← l2]; exact DGet.k (k := .inl n) (m1.h _ _ q2), k1.now R1 _ l3⟩
      · exact k1.elim
    · exact k1.elim
  · exact h.elim
theorem in_m {neg : Bool} {s : L2.St} {H : Hp} {Q : VK} (h : teD c (eMIn neg i f) s H Q) : (teD c f) s H fun y H1 => tVar i s H1 fun x H2 => ∃ a o, x = .ref a ∧ DGet H2 a y o ∧ Q (.bl (neg ^^ o.isSome)) H2 := by
  obtain ⟨r, F, R, h⟩ := h
  refine ⟨r, F, R, h.bnd.imp fun k H1 F1 R1 m1 k1 v hv => ?_⟩
  split at k1
  · rename_i kvs n eo
    obtain ⟨p, ws, q1, q2, q3, q4, q5⟩ := R1.mineM eo
    cases hv
    refine ⟨_, q1, p, _, rfl, DGet.k (k := .inl n) q2, ?_⟩
    rcases KD.look (n := n) q5 with ⟨l1, l2⟩ | ⟨w, d', l1, l2, l3⟩
    · rw [l2]
      rw [l1] at k1
      exact k1.now R1 _ (.bl _)
    · rw [l2]
      rw [l1] at k1
      exact k1.now R1 _ (.bl _)
  · exact k1.elim
theorem ds_mput {spos : Pos} (hu : X.A.units + 1 < cLine) (hv : PE X o (tVar i)) (hk : PE X e (teD c g)) (he : PE X e' (teD c f)) (hs : swapsWith e' (some (.Subscript o e spos)) pos.line X.env = pure false := by rfl) :
    PS X (.Assign [.Subscript o e spos] e' pos) (tsD c (sMPut i g f)) := by
  refine PS.weak (ps_dput hu hv hk he hs) fun D s H ⟨r, F, R, h⟩ => ?_
  unfold sMPut at h
  split at h
  · rename_i kvs eo
    obtain ⟨p, ws, q1, q2, q3, q4, q5⟩ := R.mineM eo
    refine ⟨r, F, R, (ans_of h).imp fun d H1 F1 R1 m1 k1 v hv => ⟨_, q1, r, F1, R1, (ans_of k1).imp fun z H2 F2 R2 m2 k2 u hu => ?_⟩⟩
    split at k2
    · split at k2
      · rename_i n zz
        have m12 := m1.trans m2
        cases hu
        have kd : KD c.K c.ax F2 ws kvs := KD.same m12.f q5
        refine ⟨p, _, rfl, DPut.k (k := .inl n) (m12.h _ _ q2) (by rw [kd.len]; exact lim_lt zz.1), ?_⟩
        exact k2.at (R2.writeM eo q1 zz.2 (m12.un _ _ q2 q3) q4 (kd.put (dp_same m2.f hv)))
      · exact k2.elim
    · exact k2.elim
  · exact h.elim
def rLenM : List V → Hp → VK → Prop := fun xs H Q => ∃ (a : Addr) (ws : List (Key × V)), xs = [.ref a] ∧ H a = some (.dK ws) ∧ Q (.int (ws.length : Nat)) H
theorem call_lenM : CallR X (.builtin "len") rLenM := by
  intro pins s σ H xs us Q I r h
  obtain ⟨a, ws, rfl, e, q⟩ := h
  rw [Vals.ref1 r]
  exact d_len I (.inl e) fun t s' I' => ⟨.int (ws.length : Nat), H, I', ⟨t, rfl⟩, q⟩
theorem de_mlen {p : Pos} (hg : Gl X "len") (hm : X.mg "len" = none) (hv : PE X o (tVar i)) (na : starEach [o] X.env = (false, eval o X.env) :: starEach [] X.env := by rfl) : PE X (.Call (.Name "len" p) [o] [] pos) (teD c (eMLen i)) := by
  refine PE.weak (pe_callB call_lenM hg hm (by decide +kernel) (pa_cons hv pa_nil na) (by decide) (by decide) na rfl) fun s H Q ⟨r, F, R, h⟩ => ?_
  unfold eMLen at h
  split at h
  · rename_i kvs eo
    obtain ⟨p, ws, q1, q2, q3, q4, q5⟩ := R.mineM eo
    have kd : KD c.K c.ax F ws kvs := q5
    refine ⟨_, q1, p, ws, rfl, q2, ?_⟩
    rw [kd.len]
    exact h.now R _ (.int _)
  · exact h.elim
theorem in_m0 {s : L2.St} {H : Hp} {Q : VK} (h : teD c (eMIn false i f) s H Q) : tDIn (teD c f) (tVar i) s H Q := by
  have := in_m h
  simp only [Bool.false_xor] at this
  exact this
theorem in_m1 {s : L2.St} {H : Hp} {Q : VK} (h : teD c (eMIn true i f) s H Q) : tDNotIn (teD c f) (tVar i) s H Q := by
  have := in_m h
  simp only [Bool.true_xor] at this
  exact this
theorem de_min (hu : X.A.units + 1 < cLine) (ha : PE X e (teD c f)) (hv : PE X o (tVar i)) (hm : behindInMarks .In o = false := by first | exact nobehind _ (by decide) (by decide) | rfl) : PE X (.Compare e [.In] [o] pos) (teD c (eMIn false i f)) :=
  PE.weak (pe_cmp (pc_din hu ha hv) hm) fun _ _ _ => in_m0
theorem de_mnotin (hu : X.A.units + 1 < cLine) (ha : PE X e (teD c f)) (hv : PE X o (tVar i)) (hm : behindInMarks .NotIn o = false := by first | exact nobehind _ (by decide) (by decide) | rfl) : PE X (.Compare e [.NotIn] [o] pos) (teD c (eMIn true i f)) :=
  PE.weak (pe_cmp (pc_dnotin hu ha hv) hm) fun _ _ _ => in_m1
theorem dt_min (hu : X.A.units + 1 < cLine) (ha : PE X e (teD c f)) (hv : PE X o (tVar i)) (hm : behindInMarks .In o = false := by first | exact nobehind _ (by decide) (by decide) | rfl) : PT X (.Compare e [.In] [o] pos) (ttD c (tValF (eMIn false i f))) :=
  PT.weak (pt_cmp (pc_din hu ha hv) hm) fun _ _ _ q => in_m0 (tt_of q)
theorem dt_mnotin (hu : X.A.units + 1 < cLine) (ha : PE X e (teD c f)) (hv : PE X o (tVar i)) (hm : behindInMarks .NotIn o = false := by first | exact nobehind _ (by decide) (by decide) | rfl) : PT X (.Compare e [.NotIn] [o] pos) (ttD c (tValF (eMIn true i f))) :=
  PT.weak (pt_cmp (pc_dnotin hu ha hv) hm) fun _ _ _ q => in_m1 (tt_of q)
end
theorem hu1 {k : Nat} {A : Around} (hr : Room k A) : A.units + 1 < cLine := by have := hr.un; omega
end DL

set_option Elab.async false
set_option linter.all false
set_option maxRecDepth 100000
set_option maxHeartbeats 2000000
/-! The data layer: dicts with nested keys. -/
noncomputable section
namespace DL
open PySem PySem.Spec PyProof.Rows L2

/-! ### what they hold -/
def lookN (kvs : List (NestedKey × PyData)) (k : NestedKey) : Option PyData := (kvs.find? fun q => decide (q.1 = k)).map (·.2)
def putN (kvs : List (NestedKey × PyData)) (k : NestedKey) (d : PyData) : List (NestedKey × PyData) :=
  if (lookN kvs k).isSome = true then kvs.map fun q => if q.1 = k then (q.1, d) else q else kvs ++ [(k, d)]
def lookW (ws : KW) (k : NestedKey) : Option V := (ws.find? fun q => decide (q.1 = k)).map (·.2.2)
def putW (ws : KW) (k : NestedKey) (b : Addr) (v : V) : KW :=
  if (lookW ws k).isSome = true then ws.map fun q => if q.1 = k then (q.1, q.2.1, v) else q else ws ++ [(k, b, v)]
section
variable {K : PySem.W.Frag} {ax : XN → Addr} {F : Hp}
theorem KDn.nil : KDn K ax F [] [] := ⟨rfl, fun _ h => (nomatch h), .nil⟩
theorem KDn.len {ws : KW} {kvs : List (NestedKey × PyData)} (h : KDn K ax F ws kvs) : ws.length = kvs.length := by
  have := congrArg List.length h.ks
  rwa [List.length_map, List.length_map] at this
theorem KDn.cons_inv {w : NestedKey × Addr × V} {ws : KW} {q : NestedKey × PyData} {kvs : List (NestedKey × PyData)} (h : KDn K ax F (w :: ws) (q :: kvs)) : w.1 = q.1 ∧ Dq K ax F w.2.2 q.2 ∧ KDn K ax F ws kvs := by
  have h1 := h.ks
  have h2 := h.vs
  simp only [List.map_cons, List.cons.injEq] at h1
  cases h2 with
  | cons a b => exact ⟨h1.1, a, h1.2, fun x hx => h.kt x (List.mem_cons_of_mem _ hx), b⟩
theorem KDn.look {k : NestedKey} : ∀ {ws : KW} {kvs : List (NestedKey × PyData)}, KDn K ax F ws kvs → (lookN kvs k = none ∧ lookW ws k = none) ∨ ∃ v d, lookN kvs k = some d ∧ lookW ws k = some v ∧ Dq K ax F v d
  | [], [], _ => .inl ⟨rfl, rfl⟩
  | [], _ :: _, h => by have := h.len; cases this
  | _ :: _, [], h => by have := h.len; cases this
  | w :: ws, q :: kvs, h => by
    obtain ⟨e, hd, ht⟩ := h.cons_inv
    by_cases z : q.1 = k
    · refine .inr ⟨w.2.2, q.2, ?_, ?_, hd⟩
      · unfold lookN; rw [List.find?_cons, decide_eq_true z]; rfl
      · unfold lookW; rw [List.find?_cons, decide_eq_true (e.trans z)]; rfl
    · have z2 : ¬ w.1 = k := fun y => z (e.symm.trans y)
      rcases KDn.look (k := k) ht with ⟨a, b⟩ | ⟨v, d, a, b, c⟩
      · refine .inl ⟨?_, ?_⟩
        · unfold lookN at a ⊢; rw [List.find?_cons, decide_eq_false z]; exact a
        · unfold lookW at b ⊢; rw [List.find?_cons, decide_eq_false z2]; exact b
      · refine .inr ⟨v, d, ?_, ?_, c⟩
        · unfold lookN at a ⊢; rw [List.find?_cons, decide_eq_false z]; exact a
        · unfold lookW at b ⊢; rw [List.find?_cons, decide_eq_false z2]; exact b
theorem dq_repl {k : NestedKey} {v : V} {d : PyData} (hv : Dq K ax F v d) : ∀ {ws : KW} {kvs : List (NestedKey × PyData)}, KDn K ax F ws kvs → DqAll K ax F ((ws.map fun q => if q.1 = k then (q.1, q.2.1, v) else q).map (·.2.2)) ((kvs.map fun q => if q.1 = k then (q.1, d) else q).map (·.2))
  | [], [], _ => .nil
  | [], _ :: _, h => by have := h.len; cases this
  | _ :: _, [], h => by have := h.len; cases this
  | w :: ws, q :: kvs, h => by
    obtain ⟨e, hd, ht⟩ := h.cons_inv
    refine .cons ?_ (dq_repl hv ht)
    show Dq K ax F (if w.1 = k then (w.1, w.2.1, v) else w).2.2 (if q.1 = k then (q.1, d) else q).2
    by_cases z : q.1 = k
    · rw [if_pos z, if_pos (e.trans z)]; exact hv
    · rw [if_neg z, if_neg (fun y => z (e.symm.trans y))]; exact hd
theorem KDn.put {k : NestedKey} {b : Addr} {dk d : PyData} {v : V} {ws : KW} {kvs : List (NestedKey × PyData)} (h : KDn K ax F ws kvs) (hk : nkey dk = some k) (hb : Dq K ax F (.ref b) dk) (hv : Dq K ax F v d) : KDn K ax F (putW ws k b v) (putN kvs k d) := by
  have hs : (lookW ws k).isSome = (lookN kvs k).isSome := by
    rcases h.look (k := k) with ⟨a, b⟩ | ⟨v, d, a, b, c⟩
    · rw [a, b]; rfl
    · rw [a, b]; rfl
  unfold putW putN
  rw [hs]
  split
  · refine ⟨?_, fun x hx => ?_, dq_repl hv h⟩
    · have e1 : ∀ q : NestedKey × Addr × V, (if q.1 = k then (q.1, q.2.1, v) else q).1 = q.1 := fun q => by split <;> rfl
      have e2 : ∀ q : NestedKey × PyData, (if q.1 = k then (q.1, d) else q).1 = q.1 := fun q => by split <;> rfl
      rw [List.map_map, List.map_map]
      exact (List.map_congr_left (fun q _ => e1 q)).trans (h.ks.trans (List.map_congr_left (fun q _ => (e2 q).symm)))
    · obtain ⟨y, hy, rfl⟩ := List.mem_map.mp hx
      obtain ⟨z, z1, z2⟩ := h.kt y hy
      refine ⟨z, ?_, ?_⟩
      · split <;> exact z1
      · split <;> exact z2
  · refine ⟨by rw [List.map_append, List.map_append, h.ks]; rfl, fun x hx => ?_, by rw [List.map_append, List.map_append]; exact dpAll_app h.vs (dpAll_one hv)⟩
    rcases List.mem_append.mp hx with q | q
    · exact h.kt x q
    · rw [List.mem_singleton.mp q]; exact ⟨dk, hk, hb⟩
end

/-! ### in the heap -/
abbrev PW3 (ws : KW) (xs : List (NestedKey × Addr × Value)) : Prop := Paired (fun (p : NestedKey × Addr × V) (q : NestedKey × Addr × Value) => p.1 = q.1 ∧ p.2.1 = q.2.1 ∧ RelV p.2.2 q.2.2) ws xs
theorem PW3.look {k : NestedKey} {ws : KW} {xs : List (NestedKey × Addr × Value)} (h : PW3 ws xs) : RelO (lookW ws k) ((atKey xs k).map (·.2)) := by
  induction h with
  | nil => exact True.intro
  | @cons p q ps qs hq t ih =>
    unfold lookW atKey at ih ⊢
    by_cases z : q.1 = k
    · rw [List.find?_cons, List.find?_cons, decide_eq_true z, decide_eq_true (hq.1.trans z)]
      exact hq.2.2
    · rw [List.find?_cons, List.find?_cons, decide_eq_false z, decide_eq_false (fun y => z (hq.1.symm.trans y))]
      exact ih
theorem PW3.put {k : NestedKey} {b : Addr} {v : V} {u : Value} {ws : KW} {xs : List (NestedKey × Addr × Value)} (h : PW3 ws xs) (hv : RelV v u) : PW3 (putW ws k b v) (storedH xs k b u) := by
  have hs : (lookW ws k).isSome = (atKey xs k).isSome := by
    have := (h.look (k := k)).isSome_eq
    rw [Option.isSome_map] at this
    exact this
  unfold putW storedH
  rw [hs]
  split
  · have rep : ∀ {ws : KW} {xs : List (NestedKey × Addr × Value)}, PW3 ws xs → PW3 (ws.map fun q => if q.1 = k then (q.1, q.2.1, v) else q) (xs.map (putAt k u)) := fun {ws xs} h => by
      induction h with
      | nil => exact .nil
      | @cons p q ps qs hq t ih =>
        refine .cons ?_ ih
        unfold putAt
        dsimp only
        by_cases z : q.1 = k
        · rw [if_pos z, if_pos (hq.1.trans z)]; exact ⟨hq.1, hq.2.1, hv⟩
        · rw [if_neg z, if_neg (fun y => z (hq.1.symm.trans y))]; exact hq
    exact rep h
  · exact Paired.snoc h ⟨rfl, rfl, hv⟩
theorem putW_len (ws : KW) (k : NestedKey) (b : Addr) (v : V) : (putW ws k b v).length ≤ ws.length + 1 := by
  unfold putW
  split
  · rw [List.length_map]; omega
  · rw [List.length_append, List.length_singleton]; omega
section
variable {X : Cx} {pins : List (Addr × Obj)} {σ : L2.St} {H F : Hp} {s : Shared} {ax : XN → Addr}
mutual
theorem nest_of (I : Inv X pins σ H s) (sm : Same F H) : ∀ {d : PyData} {v : V} {u : Value} {k : NestedKey}, Dq X.K ax F v d → toKey d = some k → RelV v u → NestedIs s.heap k u
  | .none, _, _, _, h, e, r => by
    rw [toKey] at e
    cases e
    cases h
    cases r
    exact .none
  | .bool b, _, _, _, h, e, r => by
    rw [toKey] at e
    cases e
  | .int i, _, _, _, h, e, r => by
    rw [toKey] at e
    cases e
    cases h
    obtain ⟨t, rfl⟩ := r
    exact .int _ _
  | .str x, _, _, _, h, e, r => by
    rw [toKey] at e
    cases e
    cases h
    obtain ⟨t, rfl⟩ := r
    exact .text _ _
  | .tuple ds, _, _, _, h, e, r => by
    rw [toKey] at e
    obtain ⟨ks, e2, rfl⟩ := Option.map_eq_some_iff.mp e
    cases h with
    | tup h1 h2 =>
      cases r
      obtain ⟨its, rv, ⟨o, g1, g2, n, g3⟩, _⟩ := I.tuple (same_t sm h1.t)
      exact .tup g1 g2 g3 (nests_of I sm h2 e2 (by simpa using rv))
  | .list ds, _, _, _, h, e, r => by rw [toKey] at e; cases e
  | .dict ds, _, _, _, h, e, r => by rw [toKey] at e; cases e
theorem nests_of (I : Inv X pins σ H s) (sm : Same F H) : ∀ {ds : List PyData} {vs : List V} {us : List Value} {ks : List NestedKey}, DqAll X.K ax F vs ds → toKeys ds = some ks → Vals vs us → NestedAll s.heap ks us
  | [], _, _, _, h, e, r => by
    rw [toKeys] at e
    cases e
    cases h
    cases r
    exact .nil
  | d :: ds, _, _, _, h, e, r => by
    rw [toKeys] at e
    obtain ⟨k, e1, e2⟩ := Option.bind_eq_some_iff.mp e
    obtain ⟨ks, e3, rfl⟩ := Option.map_eq_some_iff.mp e2
    cases h with
    | cons h1 h2 =>
      cases r with
      | cons r1 r2 => exact .cons (nest_of I sm h1 e1 r1) (nests_of I sm h2 e3 r2)
end
theorem isK_of (I : Inv X pins σ H s) (sm : Same F H) {b : Addr} {d : PyData} {k : NestedKey} (h : Dq X.K ax F (.ref b) d) (e : nkey d = some k) : (nestedKind X.prog X.w).is s.heap k b := by
  unfold nkey at e
  split at e
  · obtain ⟨k', e1, e2⟩ := Option.bind_eq_some_iff.mp e
    split at e2
    · cases e2
      exact ⟨nest_of I sm h e1 rfl, by assumption⟩
    · cases e2
  · cases e
/-- such a dict, its own or frozen -/
def KAt (P : Program) (w : World) (H : Hp) (a : Addr) (ws : KW) : Prop := H a = some (DicO P w a ws) ∨ ∃ o, H a = some (.frz o (DicO P w a ws))
theorem KAt.same {P : Program} {w : World} {H H' : Hp} {a : Addr} {ws : KW} (h : KAt P w H a ws) (m : Same H H') : KAt P w H' a ws := by
  rcases h with h | ⟨o, h⟩
  · exact .inl (m _ _ h)
  · exact .inr ⟨o, m _ _ h⟩
theorem KAt.ok (I : Inv X pins σ H s) {a : Addr} {ws : KW} (h : KAt X.prog X.w H a ws) : ObjOk X.prog X.w H s.heap a (DicO X.prog X.w a ws) := by
  rcases h with e | ⟨o, e⟩
  · exact I.hok a _ e
  · exact (I.hok a _ e).2
theorem dic_at (I : Inv X pins σ H s) (sm : Same F H) {a : Addr} {ws : KW} {kvs : List (NestedKey × PyData)} (e : KAt X.prog X.w H a ws) (kd : KDn X.K ax F ws kvs) :
    ws.length ≤ sizeLine ∧ (a == sysModules) = false ∧ ∃ xs, PW3 ws xs ∧ s.heap.DictOfH (nestedKind X.prog X.w) a xs := by
  obtain ⟨⟨z, hd, xs, pr, o, es, ep, h1, h2, h3, h4, h5⟩, _, _⟩ := e.ok I
  refine ⟨z, hd, xs, pr, o, es, ep, h1, h2, h3, h4, fun x hx => ?_, h5⟩
  have all : ∀ {ws : KW} {xs : List (NestedKey × Addr × Value)}, PW3 ws xs → (∀ x ∈ ws, ∃ d, nkey d = some x.1 ∧ Dq X.K ax F (.ref x.2.1) d) → ∀ x ∈ xs, (nestedKind X.prog X.w).is s.heap x.1 x.2.1 := by
    intro ws xs q
    induction q with
    | nil => intro _ x hx; exact nomatch hx
    | @cons p q ps qs hq t ih =>
      intro hk x hx
      rcases List.mem_cons.mp hx with e | hx
      · subst e
        obtain ⟨d, d1, d2⟩ := hk p List.mem_cons_self
        rw [← hq.1, ← hq.2.1]
        exact isK_of I sm d2 d1
      · exact ih (fun y hy => hk y (List.mem_cons_of_mem _ hy)) x hx
  exact all pr kd.kt x hx
theorem dicO_ok {P : Program} {w : World} {H : Hp} {h : Heap} {a : Addr} {ws : KW} {xs : List (NestedKey × Addr × Value)} (z : ws.length ≤ sizeLine) (hd : (a == sysModules) = false) (pr : PW3 ws xs) (dd : h.DictOfH (nestedKind P w) a xs) : ObjOk P w H h a (DicO P w a ws) := by
  obtain ⟨o, es, ep, h1, h2, h3, h4, _, h5⟩ := dd
  exact ⟨⟨z, hd, xs, pr, o, es, ep, h1, h2, h3, h4, h5⟩, ⟨o, h1⟩, fun g1 g2 ⟨z, hd, xs, pr, o, es, ep, h1, h2, h3, h4, h5⟩ k => ⟨z, hd, xs, pr, o, es, ep, k _ h1, h2, h3, h4, h5⟩⟩
theorem nk_room {A : Around} (hu : A.units + 65 < cLine) : (nestedKind X.prog X.w).room A.in1 := by
  show A.units + 1 + 8 < cLine
  omega
end
/-- what the dict at a holds at the key y -/
def KGet (P : Program) (w : World) (K : PySem.W.Frag) (H : Hp) (a : Addr) (y : V) (o : Option V) : Prop :=
  ∃ (ax : XN → Addr) (F : Hp) (ws : KW) (kvs : List (NestedKey × PyData)) (b : Addr) (d : PyData) (k : NestedKey), Same F H ∧ KAt P w H a ws ∧ KDn K ax F ws kvs ∧ y = .ref b ∧ Dq K ax F (.ref b) d ∧ nkey d = some k ∧ o = lookW ws k
def KPut (P : Program) (w : World) (K : PySem.W.Frag) (H : Hp) (a : Addr) (y v : V) (H' : Hp) : Prop :=
  ∃ (ax : XN → Addr) (F : Hp) (ws : KW) (kvs : List (NestedKey × PyData)) (b : Addr) (d : PyData) (k : NestedKey), Same F H ∧ H a = some (DicO P w a ws) ∧ KDn K ax F ws kvs ∧ y = .ref b ∧ Dq K ax F (.ref b) d ∧ nkey d = some k ∧
    ws.length < sizeLine ∧ H' = upd H a (DicO P w a (putW ws k b v))
section
variable {X : Cx} {pins : List (Addr × Obj)} {σ : L2.St} {H H' : Hp} {s : Shared} {a : Addr} {y v x : V} {u r : Value} {o : Option V} {A : Around} {E : Value → Shared → Prop}
theorem kget_getItem {Q : Value → Shared → Prop} (hu : A.units + 65 < cLine) (I : Inv X pins σ H s) (g : KGet X.prog X.w X.K H a y (some v)) (ry : RelV y u) (h : ∀ w' s', Inv X pins σ H s' → RelV v w' → Q w' s') :
    wpAny (model X.prog X.w) A (getItem (.ref a) u) Q E s := by
  obtain ⟨ax, F, ws, kvs, b, d, k, sm, e, kd, ey, hb, hk, l⟩ := g
  subst ey
  cases (show u = Value.ref b from ry)
  obtain ⟨z, hd, xs, pr, dd⟩ := dic_at I sm e kd
  obtain ⟨w', hw, rw'⟩ := RelO.some_of (v := v) (o := (atKey xs k).map (·.2)) (by rw [l]; exact pr.look)
  obtain ⟨p, hp, hp2⟩ := Option.map_eq_some_iff.mp hw
  refine wpAny_getItem_heap (nk_room hu) (isK_of I sm hb hk) dd hp ?_
  rw [hp2]
  exact h w' _ (I.tok _) rw'
theorem kget_in {Q : Value → Shared → Prop} (hu : A.units + 65 < cLine) (I : Inv X pins σ H s) (g : KGet X.prog X.w X.K H a y o) (ry : RelV y u) (h : ∀ s', Inv X pins σ H s' → Q (.bool o.isSome) s') :
    wpAny (model X.prog X.w) A (compareOp .In u (.ref a)) Q E s := by
  obtain ⟨ax, F, ws, kvs, b, d, k, sm, e, kd, ey, hb, hk, l⟩ := g
  subst ey
  cases (show u = Value.ref b from ry)
  obtain ⟨z, hd, xs, pr, dd⟩ := dic_at I sm e kd
  refine wpAny_in_heap (nk_room hu) (isK_of I sm hb hk) hd dd ?_
  have q := (pr.look (k := k)).isSome_eq
  rw [Option.isSome_map] at q
  rw [← q, ← l]
  exact h _ (I.tok _)
theorem kget_notIn {Q : Value → Shared → Prop} (hu : A.units + 65 < cLine) (I : Inv X pins σ H s) (g : KGet X.prog X.w X.K H a y o) (ry : RelV y u) (h : ∀ s', Inv X pins σ H s' → Q (.bool (!o.isSome)) s') :
    wpAny (model X.prog X.w) A (compareOp .NotIn u (.ref a)) Q E s := by
  obtain ⟨ax, F, ws, kvs, b, d, k, sm, e, kd, ey, hb, hk, l⟩ := g
  subst ey
  cases (show u = Value.ref b from ry)
  obtain ⟨z, hd, xs, pr, dd⟩ := dic_at I sm e kd
  refine wpAny_notIn_heap (nk_room hu) (isK_of I sm hb hk) hd dd ?_
  have q := (pr.look (k := k)).isSome_eq
  rw [Option.isSome_map] at q
  rw [← q, ← l]
  exact h _ (I.tok _)
theorem kput_setItem {Q : Unit → Shared → Prop} (hu : A.units + 65 < cLine) (I : Inv X pins σ H s) (g : KPut X.prog X.w X.K H a y v H') (ry : RelV y u) (rv : RelV v r) (h : ∀ s', Inv X pins σ H' s' → Q () s') :
    wpAny (model X.prog X.w) A (setItem (.ref a) u r) Q E s := by
  obtain ⟨ax, F, ws, kvs, b, d, k, sm, e, kd, ey, hb, hk, l, eH⟩ := g
  subst ey eH
  cases (show u = Value.ref b from ry)
  obtain ⟨z, hd, xs, pr, dd⟩ := dic_at I sm (.inl e) kd
  have hz : xs.length ≤ sizeLine := by rw [← Paired.length pr]; exact z
  have hl : (putW ws k b v).length ≤ sizeLine := by have := putW_len ws k b v; omega
  refine wpAny_setItem_heap (hsz := hz) (nk_room hu) (isK_of I sm hb hk) dd fun h' dd' hs => h _ ?_
  have he : ∃ q, h'.get? a = some q := let ⟨q, _, _, hq, _⟩ := dd'; ⟨q, hq⟩
  exact d_write I (by rw [e]; exact True.intro) hs he (dicO_ok hl hd (pr.put rv) dd')
theorem kget_get2 {Q : Value → Shared → Prop} (hu : A.units + 65 < cLine) (I : Inv X pins σ H s) (g : KGet X.prog X.w X.K H a y o) (ry : RelV y u) (rd : RelV x r) (h : ∀ w' s', Inv X pins σ H s' → RelV (o.getD x) w' → Q w' s') :
    wpAny (model X.prog X.w) A (call (.builtin "dict.get") [.ref a, u, r]) Q E s := by
  obtain ⟨ax, F, ws, kvs, b, d, k, sm, e, kd, ey, hb, hk, l⟩ := g
  subst ey
  cases (show u = Value.ref b from ry)
  obtain ⟨z, hd, xs, pr, dd⟩ := dic_at I sm e kd
  refine call_meetsIn PySem.F.slot_dict_get dd.typeIs PySem.F.entry_dict_get (PySem.F.args_dict_get_3 _ _ _) (meetsH_dict_get_default (nestedKind X.prog X.w) a b hd r) ⟨nk_room hu, k, xs, isK_of I sm hb hk, dd, h _ _ (I.tok _) ?_⟩
  rw [l]
  exact (pr.look (k := k)).getD rd
/-- a is such a dict -/
def IsK (P : Program) (w : World) (H : Hp) (a : Addr) : Prop := ∃ ws, KAt P w H a ws
theorem isK_at (I : Inv X pins σ H s) (d : IsK X.prog X.w H a) : s.TypeIs (.ref a) "dict" ∧ ∀ b, Value.ref a = .ref b → ∃ ob, s.heap.get? b = some ob ∧ ob.dict = none := by
  obtain ⟨ws, e⟩ := d
  obtain ⟨⟨z, hd, xs, pr, o, es, ep, h1, h2, h3, h4, h5⟩, _, _⟩ := e.ok I
  exact ⟨⟨o, h1, h2.1⟩, fun b q => by cases q; exact ⟨o, h1, h2.2.1⟩⟩
theorem KGet.is (g : KGet X.prog X.w X.K H a y o) : IsK X.prog X.w H a := let ⟨_, _, ws, _, _, _, _, _, e, _⟩ := g; ⟨ws, e⟩
end

/-! ### readings, rules -/
/-- .. then what it answers, or another thing, is locked for good -/
def tLk (t : TE) : TE := fun σ H Q => t σ H fun v H1 => ∃ d u, H1 d = some u ∧ Mut (some u) ∧ ∀ od, Q v (upd H1 d (.frz od u))
theorem pe_lk {X : Cx} {e : Expr} {t : TE} (h : PE X e t) : PE X e (tLk t) :=
  ⟨fun pins s σ H Q I hq => thn (h.run pins s σ H _ I hq) fun _ _ ⟨x, _, I1, rx, _, _, hd, mu, q⟩ => let ⟨od, I2⟩ := I1.lock hd mu; ⟨x, _, I2, rx, q od⟩⟩
def tKGet (X : Cx) (td ty : TE) : TE := fun σ H Q => td σ H fun x H1 => ty σ H1 fun y H2 => ∃ a v, x = .ref a ∧ KGet X.prog X.w X.K H2 a y (some v) ∧ Q v H2
def tKIn (X : Cx) (neg : Bool) (ty td : TE) : TE := fun σ H Q => ty σ H fun y H1 => td σ H1 fun x H2 => ∃ a o, x = .ref a ∧ KGet X.prog X.w X.K H2 a y o ∧ Q (.bl (neg ^^ o.isSome)) H2
def sKPutR (X : Cx) (td ty tv : TE) : TS := fun D σ H => tv σ H fun v H1 => td σ H1 fun x H2 => ty σ H2 fun y H3 => ∃ a H4, x = .ref a ∧ KPut X.prog X.w X.K H3 a y v H4 ∧ D.nx σ H4
def tKGet2 (X : Cx) (td ty tx : TE) : TE := fun σ H Q => td σ H fun x H1 => ∃ a, x = .ref a ∧ IsK X.prog X.w H1 a ∧ ty σ H1 fun y H2 => tx σ H2 fun z H3 => ∃ o, KGet X.prog X.w X.K H3 a y o ∧ Q (o.getD z) H3
section
variable {X : Cx} {o i e f value : Expr} {pos pos' apos cpos : Pos} {td ty tv tx : TE}
theorem pe_kget (hu : X.A.units + 65 < cLine) (ho : PE X o td) (hi : PE X i ty) (hs : NoSl i) : PE X (.Subscript o i pos) (tKGet X td ty) := by
  refine ⟨fun pins s σ H Q I h => ?_⟩
  refine subD_of PySem.F.slot_dict_getitem.lookup hs (thn (ho.run pins s σ H _ I h) fun u s1 ⟨x, H1, I1, rx, q1⟩ => thn (hi.run pins s1 σ H1 _ I1 q1) fun iv s2 ⟨y, H2, I2, ry, a, v, ex, g, q2⟩ => ?_)
  cases ex
  cases rx
  exact ⟨(isK_at I2 g.is).1, kget_getItem hu I2 g ry fun w' s3 I3 rw' => ⟨v, H2, I3, rw', q2⟩⟩
theorem pc_kin (hu : X.A.units + 65 < cLine) (hi : PE X i ty) (ho : PE X o td) : PC X .In i o (tKIn X false ty td) := by
  refine ⟨fun pins s σ H Q I h => ?_⟩
  refine thn (hi.run pins s σ H _ I h) fun iv s1 ⟨y, H1, I1, ry, q1⟩ => thn (ho.run pins s1 σ H1 _ I1 q1) fun u s2 ⟨x, H2, I2, rx, a, ov, ex, g, q2⟩ => ?_
  cases ex
  cases rx
  rw [Bool.false_xor] at q2
  exact kget_in hu I2 g ry fun s3 I3 => ⟨.bl ov.isSome, H2, I3, rfl, q2⟩
theorem pc_knotin (hu : X.A.units + 65 < cLine) (hi : PE X i ty) (ho : PE X o td) : PC X .NotIn i o (tKIn X true ty td) := by
  refine ⟨fun pins s σ H Q I h => ?_⟩
  refine thn (hi.run pins s σ H _ I h) fun iv s1 ⟨y, H1, I1, ry, q1⟩ => thn (ho.run pins s1 σ H1 _ I1 q1) fun u s2 ⟨x, H2, I2, rx, a, ov, ex, g, q2⟩ => ?_
  cases ex
  cases rx
  rw [Bool.true_xor] at q2
  exact kget_notIn hu I2 g ry fun s3 I3 => ⟨.bl (!ov.isSome), H2, I3, rfl, q2⟩
theorem ps_kput (hu : X.A.units + 65 < cLine) (ho : PE X o td) (hi : PE X i ty) (hv : PE X value tv) (hs : swapsWith value (some (.Subscript o i pos')) pos.line X.env = pure false) :
    PS X (.Assign [.Subscript o i pos'] value pos) (sKPutR X td ty tv) := by
  refine ⟨fun pins s σ H D I h => ?_⟩
  refine wpAny_Assign_Subscript (thn (hv.run pins s σ H _ I h) fun r s1 ⟨v, H1, I1, rv, q1⟩ => thn (ho.run pins s1 σ H1 _ I1 q1) fun u s2 ⟨x, H2, I2, rx, q2⟩ => thn (hi.run pins s2 σ H2 _ I2 q2) fun iv s3 ⟨y, H3, I3, ry, a, H4, ex, g, q3⟩ => ?_) hs
  cases ex
  cases rx
  exact kput_setItem hu I3 g ry rv fun s4 I4 => ⟨σ, H4, I4, q3⟩
theorem pe_kget2 (hu : X.A.units + 65 < cLine) (ho : PE X o td) (he : PE X e ty) (hf : PE X f tx) (m : M2 X o "get" apos e f cpos) : PE X (.Call (.Attribute o "get" apos) [e, f] [] cpos) (tKGet2 X td ty tx) := by
  refine ⟨fun pins s σ H Q I h => ?_⟩
  refine wpAny_Call_method m.base m.few m.line PySem.F.plainAttrs_dict PySem.F.slot_dict_get PySem.F.type_dict_get (thn (ho.run pins s σ H _ I h) fun u s1 ⟨x, H1, I1, rx, a, ex, d, q1⟩ => ?_)
  cases ex
  cases rx
  obtain ⟨t1, t2⟩ := isK_at I1 d
  refine ⟨t1, t2, ?_⟩
  rw [m.trees]
  refine Calls.callWith_builtin rfl (Calls.evalArgs_plain (Calls.spliced_cons (thn (he.run pins s1 σ H1 _ I1 q1) fun iv s2 ⟨y, H2, I2, ry, q2⟩ =>
    Calls.spliced_cons (thn (hf.run pins s2 σ H2 _ I2 q2) fun fv s3 ⟨z, H3, I3, rz, ov, g, q3⟩ => Calls.spliced_nil ?_))))
  exact kget_get2 hu I3 g ry rz fun w' s4 I4 rw' => ⟨_, H3, I4, rw', q3⟩
theorem dic_empty {P : Program} {w : World} {H : Hp} (h : Heap) (hb : sysModules < h.objs.size) : ObjOk P w H (h.push { cls := .type "dict", data := .dict #[] }) h.objs.size (DicO P w h.objs.size []) :=
  dicO_ok (Nat.zero_le _) (beq_eq_false_iff_ne.mpr (Ne.symm (Nat.ne_of_lt hb))) .nil (Heap.DictOfH.new h)
def tKNew (X : Cx) : TE := fun _ H Q => ∀ p, H p = none → Q (.ref p) (upd H p (DicO X.prog X.w p []))
theorem pe_knew : PE X (.Dict [] [] pos) (tKNew X) := ⟨fun pins s σ H Q I h =>
  wpAny_Dict_empty ⟨.ref s.heap.objs.size, _, I.laid (a := s.heap.objs.size) (o := DicO X.prog X.w s.heap.objs.size []) (t' := s.toks) (fun _ _ q => Heap.get?_push_of_some _ q) (Nat.le_refl _) (dic_empty s.heap I.big), rfl, h _ (I.hok.fresh (Nat.le_refl _))⟩⟩
/-- {k: v} -/
def tKOne (X : Cx) (tk tv : TE) : TE := fun σ H Q => ∀ p, H p = none → tPairs [(tk, tv)] σ (upd H p (DicO X.prog X.w p [])) fun ps H2 => H2 p = some (DicO X.prog X.w p []) ∧
  ∃ (ax : XN → Addr) (F : Hp) (b : Addr) (v : V) (d : PyData) (k : NestedKey), Same F H2 ∧ ps = [(.ref b, v)] ∧ Dq X.K ax F (.ref b) d ∧ nkey d = some k ∧ Q (.ref p) (upd H2 p (DicO X.prog X.w p [(k, b, v)]))
theorem pe_kone (hu : X.A.units + 65 < cLine) (he : PE X e ty) (hf : PE X f tx) : PE X (.Dict [some e] [f] pos) (tKOne X ty tx) := by
  refine ⟨fun pins s σ H Q I h => ?_⟩
  have hn := I.hok.fresh (Nat.le_refl s.heap.objs.size)
  have I1 := I.laid (a := s.heap.objs.size) (o := DicO X.prog X.w s.heap.objs.size []) (h' := s.heap.push { cls := .type "dict", data := .dict #[] }) (t' := s.toks) (fun _ _ q => Heap.get?_push_of_some _ q) (Nat.le_refl _) (dic_empty s.heap I.big)
  have hsh := zip_pairTrees [some e] [f] X.env pos rfl rfl
  have hne : pairTrees [some e] [f] X.env pos ≠ [] := fun q => by
    have := pairTrees_length [some e] [f] X.env pos rfl rfl
    rw [q] at this; cases this
  have hl := pairTrees_length [some e] [f] X.env pos rfl rfl
  rw [arm_eval_Dict, hsh, dictDisplay_pairs _ hne (by rw [hl, List.length_singleton]; omega)]
  refine wpAny_bind (wpAny_standAt (wpAny_bind (wpAny_subDictH (knd := nestedKind X.prog X.w) (Q := fun d s' => wpAny (model X.prog X.w) X.A (pure (Value.ref d)) _ X.xe s') (show X.A.units + 8 < cLine by omega) (by rw [hl, List.length_singleton]; omega) ?_)))
  refine thn ((pps_cons he hf pps_nil).run pins _ σ _ _ I1 (h _ hn)) fun vs s1 ⟨ps, H2, I2, rel, e2, ax, F, b, v, d, k, sm, ey, hb, hk, q⟩ => ?_
  subst ey
  cases rel with
  | @cons p w2 ps ws2 r1 r2 =>
    cases r2
    obtain ⟨w2a, w2b⟩ := w2
    obtain ⟨r1a, r1b⟩ := r1
    cases (show w2a = Value.ref b from r1a)
    obtain ⟨z, hd, xs, pr, dd⟩ := dic_at (ax := ax) I2 sm (.inl e2) KDn.nil
    cases pr
    refine ⟨[(k, b, w2b)], ⟨rfl, rfl, isK_of I2 sm hb hk, True.intro⟩, dd, fun h' tk dd' hs => wpAny_pure ⟨.ref s.heap.objs.size, _, ?_, rfl, q⟩⟩
    have he : ∃ q, h'.get? s.heap.objs.size = some q := let ⟨q, _, _, hq, _⟩ := dd'; ⟨q, hq⟩
    exact d_write I2 (by rw [e2]; exact True.intro) hs he (dicO_ok (ws := [(k, b, v)]) (by show 1 ≤ sizeLine; rw [sizeLine_eq]; decide) hd (.cons ⟨rfl, rfl, r1b⟩ .nil) dd')
end

/-! ### slots -/
section
variable {c : Cc} {r : Rho} {s : L2.St} {H F : Hp}
theorem Rel.setK {i : Nat} {p : Addr} {ws : KW} {kvs : List (NestedKey × PyData)} (R : Rel c r s H F) (hi : i < r.length) (h1 : H p = some (DicO c.P c.w p ws)) (h2 : F p = none) (h3 : c.H0 p = none) (h4 : KDn c.K c.ax F ws kvs) : Rel c (r.set i (some (.dic kvs))) (s.set i (some (.ref p))) H F := by
  refine ⟨R.fr, by rw [List.length_set, List.length_set]; exact R.len, fun j b e => ?_, fun j k ys zs q e1 e2 e3 e4 => ?_⟩
  · rcases set_get e with ⟨rfl, eb⟩ | ⟨ne, e'⟩
    · cases eb
      exact ⟨.ref p, by rw [List.getElem?_set_self (by rw [R.len]; exact hi)], ws, h1, h2, h3, h4⟩
    · obtain ⟨w, q1, q2⟩ := R.cell j b e'
      exact ⟨w, by rw [List.getElem?_set_ne (Ne.symm ne)]; exact q1, q2⟩
  · rcases set_get e1 with ⟨_, eb⟩ | ⟨n1, e1'⟩
    · cases eb
    · rcases set_get e2 with ⟨_, eb⟩ | ⟨n2, e2'⟩
      · cases eb
      · rw [List.getElem?_set_ne (Ne.symm n1)] at e3
        rw [List.getElem?_set_ne (Ne.symm n2)] at e4
        exact R.apart j k ys zs q e1' e2' e3 e4
theorem Rel.setF {i : Nat} {p : Addr} {ws : KW} {o : Obj} {kvs : List (NestedKey × PyData)} (R : Rel c r s H F) (hi : i < r.length) (h1 : F p = some (.frz o (DicO c.P c.w p ws))) (h4 : KDn c.K c.ax F ws kvs) : Rel c (r.set i (some (.dif kvs))) (s.set i (some (.ref p))) H F := by
  refine ⟨R.fr, by rw [List.length_set, List.length_set]; exact R.len, fun j b e => ?_, fun j k ys zs q e1 e2 e3 e4 => ?_⟩
  · rcases set_get e with ⟨rfl, eb⟩ | ⟨ne, e'⟩
    · cases eb
      exact ⟨.ref p, by rw [List.getElem?_set_self (by rw [R.len]; exact hi)], ws, o, h1, h4⟩
    · obtain ⟨w, q1, q2⟩ := R.cell j b e'
      exact ⟨w, by rw [List.getElem?_set_ne (Ne.symm ne)]; exact q1, q2⟩
  · rcases set_get e1 with ⟨_, eb⟩ | ⟨n1, e1'⟩
    · cases eb
    · rcases set_get e2 with ⟨_, eb⟩ | ⟨n2, e2'⟩
      · cases eb
      · rw [List.getElem?_set_ne (Ne.symm n1)] at e3
        rw [List.getElem?_set_ne (Ne.symm n2)] at e4
        exact R.apart j k ys zs q e1' e2' e3 e4
/-- no other slot has a dict of its own with nested keys -/
def onlyK (r : Rho) (i : Nat) : Bool := (r.set i none).all fun b => match b with
  | some (.dic _) => false
  | _ => true
theorem onlyK_is {i j : Nat} {kvs : List (NestedKey × PyData)} (h : onlyK r i = true) (e : r[j]? = some (some (.dic kvs))) : j = i := by
  by_cases hj : j = i
  · exact hj
  · have e2 : (r.set i none)[j]? = some (some (.dic kvs)) := by rw [List.getElem?_set_ne (Ne.symm hj)]; exact e
    have := List.all_eq_true.mp h _ (List.mem_of_getElem? e2)
    cases this
theorem Rel.writeK {i : Nat} {p : Addr} {ws : KW} {kvs kvs' : List (NestedKey × PyData)} (R : Rel c r s H F) (e : r[i]? = some (some (.dic kvs))) (es : s[i]? = some (some (V.ref p))) (ho : onlyK r i = true) (h2 : F p = none) (h3 : c.H0 p = none) (h4 : KDn c.K c.ax F ws kvs') :
    Rel c (r.set i (some (.dic kvs'))) s (upd H p (DicO c.P c.w p ws)) F := by
  obtain ⟨p2, ws2, t1, t2, _⟩ := R.mineK e
  rw [es] at t1
  cases t1
  refine ⟨R.fr.write h2 h3, by rw [List.length_set]; exact R.len, fun j b q => ?_, fun j k ys zs q e1 e2 e3 e4 => ?_⟩
  · rcases set_get q with ⟨rfl, eb⟩ | ⟨ne, e'⟩
    · cases eb
      exact ⟨_, es, ws, upd_same, h2, h3, h4⟩
    · cases b with
      | d x => obtain ⟨w, q1, q2⟩ := R.data e'; exact ⟨w, q1, q2⟩
      | own ys =>
        obtain ⟨p', vs', q1, q2, q3, q4, q5⟩ := R.mine e'
        refine ⟨_, q1, vs', ?_, q3, q4, q5⟩
        rw [upd_ne ?_]; exact q2
        rintro rfl
        rw [q2] at t2; cases t2
      | dct ys =>
        obtain ⟨p', vs', q1, q2, q3, q4, q5, q6⟩ := R.mineM e'
        refine ⟨_, q1, vs', ?_, q3, q4, q5, q6⟩
        rw [upd_ne ?_]; exact q2
        rintro rfl
        rw [q2] at t2; cases t2
      | dic ys => exact absurd (onlyK_is ho e') ne
      | dif ys =>
        obtain ⟨p', ws', o', q1, q2, q3⟩ := R.mineF e'
        exact ⟨_, q1, ws', o', q2, q3⟩
      | obj fs =>
        obtain ⟨p', C, dx, fV, q1, q2, q3, q4, q5, q6, q7⟩ := R.mineO e'
        refine ⟨_, q1, C, dx, fV, q2, ?_, q4, q5, q6, q7⟩
        rw [upd_ne ?_]; exact q3
        rintro rfl
        rw [q3] at t2; cases t2
      | obf fs =>
        obtain ⟨p', C, dx, fV, q1, q2, q3, q4, q5⟩ := R.mineP e'
        exact ⟨_, q1, C, dx, fV, q2, q3, q4, q5⟩
  · rcases set_get e1 with ⟨_, eb⟩ | ⟨n1, e1'⟩
    · cases eb
    · rcases set_get e2 with ⟨_, eb⟩ | ⟨n2, e2'⟩
      · cases eb
      · exact R.apart j k ys zs q e1' e2' e3 e4
/-- an object that no slot has is frozen -/
theorem Rel.layF {p : Addr} {o : HO} (R : Rel c r s H F) (h2 : F p = none) (h3 : c.H0 p = none) (h5 : ∀ (j : Nat) (b : B), r[j]? = some (some b) → (∀ x, b ≠ .d x) → s[j]? ≠ some (some (V.ref p))) : Rel c r s (upd H p o) (upd F p o) := by
  have sm : Same F (upd F p o) := same_upd' h2
  refine ⟨⟨fun b x q => ?_, R.fr.old.trans sm, fun b x q n => ?_⟩, R.len, fun j b e' => ?_, R.apart⟩
  · by_cases hb : b = p
    · subst hb; rw [upd_same] at q ⊢; exact q
    · rw [upd_ne hb] at q ⊢; exact R.fr.sub b x q
  · rw [upd_ne (ne_of_none q h3), upd_ne (ne_of_none q h3)]; exact R.fr.kept b x q n
  · cases b with
    | d x => obtain ⟨w, q1, q2⟩ := R.data e'; exact ⟨w, q1, dp_same sm q2⟩
    | own ys =>
      obtain ⟨p', vs', q1, q2, q3, q4, q5⟩ := R.mine e'
      have ne : p' ≠ p := by
        rintro rfl
        exact h5 j _ e' (fun _ z => nomatch z) q1
      refine ⟨_, q1, vs', ?_, ?_, q4, dpAll_same sm q5⟩
      · rw [upd_ne ne]; exact q2
      · rw [upd_ne ne]; exact q3
    | dct ys =>
      obtain ⟨p', ws', q1, q2, q3, q4, q5, q6⟩ := R.mineM e'
      have ne : p' ≠ p := by
        rintro rfl
        exact h5 j _ e' (fun _ z => nomatch z) q1
      refine ⟨_, q1, ws', ?_, ?_, q4, q5, dpAll_same sm q6⟩
      · rw [upd_ne ne]; exact q2
      · rw [upd_ne ne]; exact q3
    | dic ys =>
      obtain ⟨p', ws', q1, q2, q3, q4, q5⟩ := R.mineK e'
      have ne : p' ≠ p := by
        rintro rfl
        exact h5 j _ e' (fun _ z => nomatch z) q1
      refine ⟨_, q1, ws', ?_, ?_, q4, q5.same sm⟩
      · rw [upd_ne ne]; exact q2
      · rw [upd_ne ne]; exact q3
    | dif ys =>
      obtain ⟨p', ws', o', q1, q2, q3⟩ := R.mineF e'
      exact ⟨_, q1, ws', o', sm _ _ q2, q3.same sm⟩
    | obj fs =>
      obtain ⟨p', C, dx, fV, q1, q2, q3, q4, q5, q6, q7⟩ := R.mineO e'
      have ne : p' ≠ p := by
        rintro rfl
        exact h5 j _ e' (fun _ z => nomatch z) q1
      refine ⟨_, q1, C, dx, fV, q2, ?_, sm _ _ q4, ?_, q6, q7.same sm⟩
      · rw [upd_ne ne]; exact q3
      · rw [upd_ne ne]; exact q5
    | obf fs =>
      obtain ⟨p', C, dx, fV, q1, q2, q3, q4, q5⟩ := R.mineP e'
      exact ⟨_, q1, C, dx, fV, q2, sm _ _ q3, sm _ _ q4, q5.same sm⟩
/-- a slot's dict is frozen -/
theorem Rel.freezeK {i : Nat} {p : Addr} {ws : KW} {kvs : List (NestedKey × PyData)} (R : Rel c r s H F) (e : r[i]? = some (some (.dic kvs))) (ho : onlyK r i = true) (es : s[i]? = some (some (V.ref p))) (h1 : H p = some (DicO c.P c.w p ws)) (h2 : F p = none) (h3 : c.H0 p = none) (h4 : KDn c.K c.ax F ws kvs) (od : Obj) :
    Rel c (r.set i (some (.dif kvs))) s (upd H p (.frz od (DicO c.P c.w p ws))) (upd F p (.frz od (DicO c.P c.w p ws))) := by
  have sm : Same F (upd F p (.frz od (DicO c.P c.w p ws))) := same_upd' h2
  refine ⟨⟨fun b x q => ?_, R.fr.old.trans sm, fun b x q n => ?_⟩, by rw [List.length_set]; exact R.len, fun j b q => ?_, fun j k ys zs q e1 e2 e3 e4 => ?_⟩
  · by_cases hb : b = p
    · subst hb; rw [upd_same] at q ⊢; exact q
    · rw [upd_ne hb] at q ⊢; exact R.fr.sub b x q
  · rw [upd_ne (ne_of_none q h3), upd_ne (ne_of_none q h3)]; exact R.fr.kept b x q n
  · rcases set_get q with ⟨rfl, eb⟩ | ⟨ne, e'⟩
    · cases eb
      exact ⟨_, es, ws, od, upd_same, h4.same sm⟩
    · cases b with
      | d x => obtain ⟨w, q1, q2⟩ := R.data e'; exact ⟨w, q1, dp_same sm q2⟩
      | own ys =>
        obtain ⟨p', vs', q1, q2, q3, q4, q5⟩ := R.mine e'
        have ne : p' ≠ p := by
          rintro rfl
          rw [q2] at h1; cases h1
        refine ⟨_, q1, vs', ?_, ?_, q4, dpAll_same sm q5⟩
        · rw [upd_ne ne]; exact q2
        · rw [upd_ne ne]; exact q3
      | dct ys =>
        obtain ⟨p', ws', q1, q2, q3, q4, q5, q6⟩ := R.mineM e'
        have ne : p' ≠ p := by
          rintro rfl
          rw [q2] at h1; cases h1
        refine ⟨_, q1, ws', ?_, ?_, q4, q5, dpAll_same sm q6⟩
        · rw [upd_ne ne]; exact q2
        · rw [upd_ne ne]; exact q3
      | dic ys => exact absurd (onlyK_is ho e') ne
      | dif ys =>
        obtain ⟨p', ws', o', q1, q2, q3⟩ := R.mineF e'
        exact ⟨_, q1, ws', o', sm _ _ q2, q3.same sm⟩
      | obj fs =>
        obtain ⟨p', C, dx, fV, q1, q2, q3, q4, q5, q6, q7⟩ := R.mineO e'
        have ne : p' ≠ p := by
          rintro rfl
          rw [q3] at h1; cases h1
        refine ⟨_, q1, C, dx, fV, q2, ?_, sm _ _ q4, ?_, q6, q7.same sm⟩
        · rw [upd_ne ne]; exact q3
        · rw [upd_ne ne]; exact q5
      | obf fs =>
        obtain ⟨p', C, dx, fV, q1, q2, q3, q4, q5⟩ := R.mineP e'
        exact ⟨_, q1, C, dx, fV, q2, sm _ _ q3, sm _ _ q4, q5.same sm⟩
  · rcases set_get e1 with ⟨_, eb⟩ | ⟨n1, e1'⟩
    · cases eb
    · rcases set_get e2 with ⟨_, eb⟩ | ⟨n2, e2'⟩
      · cases eb
      · exact R.apart j k ys zs q e1' e2' e3 e4
/-- a slot's dict, its own or frozen -/
def dicAt (i : Nat) (r : Rho) : Option (List (NestedKey × PyData)) := match r[i]? with
  | some (some (.dic kvs)) => some kvs
  | some (some (.dif kvs)) => some kvs
  | _ => none
theorem Rel.dic {i : Nat} {kvs : List (NestedKey × PyData)} (R : Rel c r s H F) (e : dicAt i r = some kvs) : ∃ p ws, s[i]? = some (some (V.ref p)) ∧ KAt c.P c.w H p ws ∧ KDn c.K c.ax F ws kvs := by
  unfold dicAt at e
  split at e
  · rename_i kvs' e'
    cases e
    obtain ⟨p, ws, e1, h1, h2, h3, h4⟩ := R.mineK e'
    exact ⟨p, ws, e1, .inl h1, h4⟩
  · rename_i kvs' e'
    cases e
    obtain ⟨p, ws, o, e1, h1, h4⟩ := R.mineF e'
    exact ⟨p, ws, e1, .inr ⟨o, R.fr.sub _ _ h1⟩, h4⟩
  · cases e
end
def wK {a : Type} (o : Option a) (k : a → M PyData) : M PyData := match o with
  | some x => k x
  | none => none
/-- d[f] -/
def eKIx (i : Nat) (f : Ef) : Ef := fun r => wK (dicAt i r) fun kvs => bnd (f r) fun d => wK (nkey d) fun k => wK (lookN kvs k) ok
/-- f in d -/
def eKIn (neg : Bool) (i : Nat) (f : Ef) : Ef := fun r => bnd (f r) fun d => wK (dicAt i r) fun kvs => wK (nkey d) fun k => ok (.bool (neg ^^ (lookN kvs k).isSome))
/-- d.get(f, g) -/
def eKGet2 (i : Nat) (f g : Ef) : Ef := fun r => wK (dicAt i r) fun kvs => bnd (f r) fun d => bnd (g r) fun x => wK (nkey d) fun k => ok ((lookN kvs k).getD x)
def wS {a : Type} (o : Option a) (k : a → Option SR) : Option SR := match o with
  | some x => k x
  | none => none
def dicO (i : Nat) (r : Rho) : Option (List (NestedKey × PyData)) := match r[i]? with
  | some (some (.dic kvs)) => some kvs
  | _ => none
/-- d[k] = f -/
def sKPut (i : Nat) (k f : Ef) : Sf := fun r => ofE (f r) r fun d => wS (dicO i r) fun kvs => ofE (k r) r fun z => wS (nkey z) fun n => if kvs.length < lim ∧ onlyK r i = true then some (.nx (r.set i (some (.dic (putN kvs n d))))) else none
/-- x = {} -/
def sSetK (i : Nat) : Sf := fun r => if i < r.length then some (.nx (r.set i (some (.dic [])))) else none
/-- x = {k: f} -/
def sSetK1 (i : Nat) (k f : Ef) : Sf := fun r => ofE (k r) r fun z => ofE (f r) r fun d => wS (nkey z) fun n => if i < r.length then some (.nx (r.set i (some (.dic [(n, d)])))) else none
/-- x = {k: f}, frozen at once -/
def sSetKF (i : Nat) (k f : Ef) : Sf := fun r => ofE (k r) r fun z => ofE (f r) r fun d => wS (nkey z) fun n => if i < r.length then some (.nx (r.set i (some (.dif [(n, d)])))) else none
/-- x = y, y's dict is frozen -/
def sMvK (i j : Nat) : Sf := fun r => wS (dicO j r) fun kvs => if i < r.length ∧ onlyK r j = true then some (.nx ((r.set j (some (.dif kvs))).set i (some (.dif kvs)))) else none
theorem dicO_eq {i : Nat} {r : Rho} {kvs : List (NestedKey × PyData)} (h : dicO i r = some kvs) : r[i]? = some (some (.dic kvs)) := by
  unfold dicO at h
  split at h
  · cases h; assumption
  · cases h
section
variable {X : Cx} {c : Cc} {i j : Nat} {x y : Str} {o e e' : Expr} {f g : Ef} {px py dp pos apos cpos : Pos}
theorem kget_of {F H : Hp} {p : Addr} {ws : KW} {kvs : List (NestedKey × PyData)} {b : V} {d : PyData} {k : NestedKey} (sm : Same F H) (e : KAt c.P c.w H p ws) (kd : KDn c.K c.ax F ws kvs) (hb : Dq c.K c.ax F b d) (hk : nkey d = some k) : ∃ a, b = .ref a ∧ KGet c.P c.w c.K H p b (lookW ws k) := by
  have : ∃ ds, d = .tuple ds := by
    unfold nkey at hk
    split at hk
    · exact ⟨_, rfl⟩
    · cases hk
  obtain ⟨ds, rfl⟩ := this
  cases hb with
  | tup h1 h2 => exact ⟨_, rfl, c.ax, F, ws, kvs, _, _, k, sm, e, kd, rfl, .tup h1 h2, hk, rfl⟩
theorem de_kix (hu : X.A.units + 65 < cLine) (hv : PE X o (tVar i)) (ha : PE X e (teD c f)) (hs : NoSl e) (hK : X.K = c.K := by rfl) (hP : X.prog = c.P := by rfl) (hw : X.w = c.w := by rfl) : PE X (.Subscript o e pos) (teD c (eKIx i f)) := by
  refine PE.weak (pe_kget hu hv ha hs) fun s H Q ⟨r, F, R, h⟩ => ?_
  unfold eKIx at h
  cases ed : dicAt i r with
  | none => rw [ed] at h; exact h.elim
  | some kvs =>
    rw [ed] at h
    obtain ⟨p, ws, q1, q2, q3⟩ := R.dic ed
    refine ⟨_, q1, r, F, R, Ans.imp (Ans.bnd (k := fun d => wK (nkey d) fun k => wK (lookN kvs k) ok) h) fun d H1 F1 R1 m1 k1 v hv => ?_⟩
    cases ek : nkey d with
    | none => rw [ek] at k1; exact k1.elim
    | some k =>
      rw [ek] at k1
      obtain ⟨a, rfl, g⟩ := kget_of (R1.fr.sub) (q2.same m1.h) (q3.same m1.f) hv ek
      change Ans c r s H1 F1 (wK (lookN kvs k) ok) _ at k1
      rcases (q3.same m1.f).look (k := k) with ⟨l1, l2⟩ | ⟨w, d', l1, l2, l3⟩
      · rw [l1] at k1; exact k1.elim
      · rw [l1] at k1
        rw [l2] at g
        exact ⟨p, w, rfl, by rw [hK, hP, hw]; exact g, k1.now R1 _ l3⟩
theorem in_k {neg : Bool} {s : L2.St} {H : Hp} {Q : VK} (hK : X.K = c.K) (hP : X.prog = c.P) (hw : X.w = c.w) (h : teD c (eKIn neg i f) s H Q) : tKIn X neg (teD c f) (tVar i) s H Q := by
  obtain ⟨r, F, R, h⟩ := h
  refine ⟨r, F, R, h.bnd.imp fun d H1 F1 R1 m1 k1 v hv => ?_⟩
  cases ed : dicAt i r with
  | none => rw [ed] at k1; exact k1.elim
  | some kvs =>
    rw [ed] at k1
    obtain ⟨p, ws, q1, q2, q3⟩ := R1.dic ed
    refine ⟨_, q1, ?_⟩
    change Ans c r s H1 F1 (wK (nkey d) fun k => ok (PyData.bool (neg ^^ (lookN kvs k).isSome))) _ at k1
    cases ek : nkey d with
    | none => rw [ek] at k1; exact k1.elim
    | some k =>
      rw [ek] at k1
      obtain ⟨a, rfl, g⟩ := kget_of (R1.fr.sub) q2 q3 hv ek
      refine ⟨p, _, rfl, by rw [hK, hP, hw]; exact g, ?_⟩
      change Ans c r s H1 F1 (ok (PyData.bool (neg ^^ (lookN kvs k).isSome))) _ at k1
      rcases q3.look (k := k) with ⟨l1, l2⟩ | ⟨w, d', l1, l2, l3⟩
      · rw [l2]
        rw [l1] at k1
        exact k1.now R1 _ (.bl _)
      · rw [l2]
        rw [l1] at k1
        exact k1.now R1 _ (.bl _)
theorem de_kin (hu : X.A.units + 65 < cLine) (ha : PE X e (teD c f)) (hv : PE X o (tVar i)) (hK : X.K = c.K := by rfl) (hP : X.prog = c.P := by rfl) (hw : X.w = c.w := by rfl) (hm : behindInMarks .In o = false := by first | exact nobehind _ (by decide) (by decide) | rfl) : PE X (.Compare e [.In] [o] pos) (teD c (eKIn false i f)) :=
  PE.weak (pe_cmp (pc_kin hu ha hv) hm) fun _ _ _ => in_k hK hP hw
theorem de_knotin (hu : X.A.units + 65 < cLine) (ha : PE X e (teD c f)) (hv : PE X o (tVar i)) (hK : X.K = c.K := by rfl) (hP : X.prog = c.P := by rfl) (hw : X.w = c.w := by rfl) (hm : behindInMarks .NotIn o = false := by first | exact nobehind _ (by decide) (by decide) | rfl) : PE X (.Compare e [.NotIn] [o] pos) (teD c (eKIn true i f)) :=
  PE.weak (pe_cmp (pc_knotin hu ha hv) hm) fun _ _ _ => in_k hK hP hw
theorem dt_kin (hu : X.A.units + 65 < cLine) (ha : PE X e (teD c f)) (hv : PE X o (tVar i)) (hK : X.K = c.K := by rfl) (hP : X.prog = c.P := by rfl) (hw : X.w = c.w := by rfl) (hm : behindInMarks .In o = false := by first | exact nobehind _ (by decide) (by decide) | rfl) : PT X (.Compare e [.In] [o] pos) (ttD c (tValF (eKIn false i f))) :=
  PT.weak (pt_cmp (pc_kin hu ha hv) hm) fun _ _ _ q => in_k hK hP hw (tt_of q)
theorem dt_knotin (hu : X.A.units + 65 < cLine) (ha : PE X e (teD c f)) (hv : PE X o (tVar i)) (hK : X.K = c.K := by rfl) (hP : X.prog = c.P := by rfl) (hw : X.w = c.w := by rfl) (hm : behindInMarks .NotIn o = false := by first | exact nobehind _ (by decide) (by decide) | rfl) : PT X (.Compare e [.NotIn] [o] pos) (ttD c (tValF (eKIn true i f))) :=
  PT.weak (pt_cmp (pc_knotin hu ha hv) hm) fun _ _ _ q => in_k hK hP hw (tt_of q)
theorem de_kget2 (hu : X.A.units + 65 < cLine) (hv : PE X o (tVar i)) (ha : PE X e (teD c f)) (hb : PE X e' (teD c g)) (m : M2 X o "get" apos e e' cpos) (hK : X.K = c.K := by rfl) (hP : X.prog = c.P := by rfl) (hw : X.w = c.w := by rfl) : PE X (.Call (.Attribute o "get" apos) [e, e'] [] cpos) (teD c (eKGet2 i f g)) := by
  refine PE.weak (pe_kget2 hu hv ha hb m) fun s H Q ⟨r, F, R, h⟩ => ?_
  unfold eKGet2 at h
  cases ed : dicAt i r with
  | none => rw [ed] at h; exact h.elim
  | some kvs =>
    rw [ed] at h
    obtain ⟨p, ws, q1, q2, q3⟩ := R.dic ed
    refine ⟨_, q1, p, rfl, ⟨ws, by rw [hP, hw]; exact q2⟩, r, F, R, Ans.imp (Ans.bnd (k := fun d => bnd (g r) fun x => wK (nkey d) fun k => ok ((lookN kvs k).getD x)) h) fun d H1 F1 R1 m1 k1 v hv => ⟨r, F1, R1, Ans.imp (Ans.bnd (k := fun x => wK (nkey d) fun k => ok ((lookN kvs k).getD x)) k1) fun x H2 F2 R2 m2 k2 u hu => ?_⟩⟩
    have m12 := m1.trans m2
    cases ek : nkey d with
    | none => rw [ek] at k2; exact k2.elim
    | some k =>
      rw [ek] at k2
      obtain ⟨a, rfl, g'⟩ := kget_of (R2.fr.sub) (q2.same m12.h) (q3.same m12.f) (dp_same m2.f hv) ek
      refine ⟨_, by rw [hK, hP, hw]; exact g', ?_⟩
      change Ans c r s H2 F2 (ok ((lookN kvs k).getD x)) _ at k2
      rcases (q3.same m12.f).look (k := k) with ⟨l1, l2⟩ | ⟨w, d', l1, l2, l3⟩
      · rw [l2]
        rw [l1] at k2
        exact k2.now R2 _ hu
      · rw [l2]
        rw [l1] at k2
        exact k2.now R2 _ l3
theorem ds_kput {spos : Pos} (hu : X.A.units + 65 < cLine) (hv : PE X o (tVar i)) (hk : PE X e (teD c g)) (he : PE X e' (teD c f)) (hs : swapsWith e' (some (.Subscript o e spos)) pos.line X.env = pure false := by rfl) (hK : X.K = c.K := by rfl) (hP : X.prog = c.P := by rfl) (hw : X.w = c.w := by rfl) :
    PS X (.Assign [.Subscript o e spos] e' pos) (tsD c (sKPut i g f)) := by
  refine PS.weak (ps_kput hu hv hk he hs) fun D s H ⟨r, F, R, h⟩ => ?_
  refine ⟨r, F, R, (ans_of h).imp fun d H1 F1 R1 m1 k1 v hv => ?_⟩
  cases ed : dicO i r with
  | none => rw [ed] at k1; exact k1.elim
  | some kvs =>
    have eo := dicO_eq ed
    obtain ⟨p, ws, q1, q2, q3, q4, q5⟩ := R1.mineK eo
    rw [ed] at k1
    refine ⟨_, q1, r, F1, R1, Ans.imp (ans_of (k := fun z => wS (nkey z) fun n => if kvs.length < lim ∧ onlyK r i = true then some (SR.nx (r.set i (some (.dic (putN kvs n d))))) else none) k1) fun z H2 F2 R2 m2 k2 u hu => ?_⟩
    change Sans c F2 (wS (nkey z) fun n => if kvs.length < lim ∧ onlyK r i = true then some (SR.nx (r.set i (some (.dic (putN kvs n d))))) else none) D at k2
    cases ek : nkey z with
    | none => rw [ek] at k2; exact k2.elim
    | some k =>
      rw [ek] at k2
      change Sans c F2 (if kvs.length < lim ∧ onlyK r i = true then some (SR.nx (r.set i (some (.dic (putN kvs k d))))) else none) D at k2
      split at k2
      · rename_i zz
        obtain ⟨a, rfl, g'⟩ := kget_of (R2.fr.sub) (.inl (m2.h _ _ q2)) (q5.same m2.f) hu ek
        refine ⟨p, _, rfl, ⟨c.ax, F2, ws, kvs, a, z, k, R2.fr.sub, by rw [hP, hw]; exact m2.h _ _ q2, by rw [hK]; exact q5.same m2.f, rfl, by rw [hK]; exact hu, ek, by rw [q5.len]; exact lim_lt zz.1, rfl⟩, ?_⟩
        have := R2.writeK eo q1 zz.2 (m2.un _ _ q2 q3) q4 ((q5.same m2.f).put (v := v) ek hu (dp_same m2.f hv))
        rw [hP, hw]
        exact k2.at this
      · exact k2.elim
theorem ds_setK (hN : X.N.Nodup) (hi : X.N[i]? = some x) (hx : Loc X.env.scope x) (hP : X.prog = c.P := by rfl) (hw : X.w = c.w := by rfl) (hs : swapsWith (.Dict [] [] dp) (some (.Name x px)) pos.line X.env = pure false := by rfl)
    (hf : X.fn x = true ∨ X.env.scope.names.lookup x = some .local := by first | exact .inl rfl | exact .inr rfl | assumption) : PS X (.Assign [.Name x px] (.Dict [] [] dp) pos) (tsD c (sSetK i)) := by
  refine PS.weak (ps_set hN hi hx pe_knew hs hf) fun D s H ⟨r, F, R, h⟩ => fun p np => ?_
  unfold sSetK at h
  split at h
  · rename_i z
    rw [hP, hw]
    have m := More.loose (o := DicO c.P c.w p []) R.fr.sub np
    have R1 := R.more m
    have R2 := R1.setK (i := i) (kvs := []) z upd_same (R.fr.newF np) (R.fr.new np) KDn.nil
    exact h _ _ _ R2 (Same.refl _)
  · exact h.elim
theorem ds_setK1 (hu : X.A.units + 65 < cLine) (hk : PE X e (teD c g)) (he : PE X e' (teD c f)) (hN : X.N.Nodup) (hi : X.N[i]? = some x) (hx : Loc X.env.scope x) (hK : X.K = c.K := by rfl) (hP : X.prog = c.P := by rfl) (hw : X.w = c.w := by rfl) (hs : swapsWith (.Dict [some e] [e'] dp) (some (.Name x px)) pos.line X.env = pure false := by rfl)
    (hf : X.fn x = true ∨ X.env.scope.names.lookup x = some .local := by first | exact .inl rfl | exact .inr rfl | assumption) : PS X (.Assign [.Name x px] (.Dict [some e] [e'] dp) pos) (tsD c (sSetK1 i g f)) := by
  refine PS.weak (ps_set hN hi hx (pe_kone hu hk he) hs hf) fun D s H ⟨r, F, R, h⟩ => fun p np => ?_
  rw [hP, hw]
  have m := More.loose (o := DicO c.P c.w p []) R.fr.sub np
  have R0 := R.more m
  refine ⟨r, F, R0, (ans_of h).imp fun z H1 F1 R1 m1 k1 u hu => ⟨r, F1, R1, (ans_of k1).imp fun d H2 F2 R2 m2 k2 v hv => ?_⟩⟩
  have m12 := m1.trans m2
  have hp := m12.h p _ upd_same
  refine ⟨hp, ?_⟩
  cases ek : nkey z with
  | none => rw [ek] at k2; exact k2.elim
  | some k =>
    rw [ek] at k2
    change Sans c F2 (if i < r.length then some (SR.nx (r.set i (some (.dic [(k, d)])))) else none) D at k2
    split at k2
    · rename_i zz
      obtain ⟨a, rfl, _⟩ := kget_of (R2.fr.sub) (.inl hp) KDn.nil (dp_same m2.f hu) ek
      have fp : F2 p = none := m12.un _ _ upd_same (R.fr.newF np)
      refine ⟨c.ax, F2, a, v, z, k, R2.fr.sub, rfl, by rw [hK]; exact dp_same m2.f hu, ek, ?_⟩
      have R3 := R2.other (o := DicO c.P c.w p [(k, a, v)]) fp (R.fr.new np) (R.notmine np)
      have R4 := R3.setK (i := i) (kvs := [(k, d)]) zz upd_same fp (R.fr.new np) ⟨rfl, fun y hy => by
        rw [List.mem_singleton.mp hy]; exact ⟨z, ek, dp_same m2.f hu⟩, .cons hv .nil⟩
      exact k2.at R4
    · exact k2.elim
theorem ds_mvK (hv : PE X (.Name y py) (tVar j)) (hN : X.N.Nodup) (hi : X.N[i]? = some x) (hx : Loc X.env.scope x) (hs : swapsWith (.Name y py) (some (.Name x px)) pos.line X.env = pure false := by rfl)
    (hf : X.fn x = true ∨ X.env.scope.names.lookup x = some .local := by first | exact .inl rfl | exact .inr rfl | assumption) : PS X (.Assign [.Name x px] (.Name y py) pos) (tsD c (sMvK i j)) := by
  refine PS.weak (ps_set hN hi hx (pe_lk hv) hs hf) fun D s H ⟨r, F, R, h⟩ => ?_
  unfold sMvK at h
  cases ed : dicO j r with
  | none => rw [ed] at h; exact h.elim
  | some kvs =>
    rw [ed] at h
    change Sans c F (if i < r.length ∧ onlyK r j = true then some (SR.nx ((r.set j (some (.dif kvs))).set i (some (.dif kvs)))) else none) D at h
    split at h
    · rename_i zz
      have eo := dicO_eq ed
      have hj : j < r.length := (List.getElem?_eq_some_iff.mp eo).1
      obtain ⟨p, ws, q1, q2, q3, q4, q5⟩ := R.mineK eo
      refine ⟨_, q1, p, _, q2, True.intro, fun od => ?_⟩
      have R' := R.freezeK eo zz.2 q1 q2 q3 q4 q5 od
      have sm : Same F (upd F p (.frz od (DicO c.P c.w p ws))) := same_upd' q3
      have := R'.setF (i := i) (by rw [List.length_set]; exact zz.1) upd_same (q5.same sm)
      exact h _ _ _ this sm
    · exact h.elim
/-- x = {k: f}, frozen -/
theorem ds_setKF (hu : X.A.units + 65 < cLine) (hk : PE X e (teD c g)) (he : PE X e' (teD c f)) (hN : X.N.Nodup) (hi : X.N[i]? = some x) (hx : Loc X.env.scope x) (hK : X.K = c.K := by rfl) (hP : X.prog = c.P := by rfl) (hw : X.w = c.w := by rfl) (hs : swapsWith (.Dict [some e] [e'] dp) (some (.Name x px)) pos.line X.env = pure false := by rfl)
    (hf : X.fn x = true ∨ X.env.scope.names.lookup x = some .local := by first | exact .inl rfl | exact .inr rfl | assumption) : PS X (.Assign [.Name x px] (.Dict [some e] [e'] dp) pos) (tsD c (sSetKF i g f)) := by
  refine PS.weak (ps_set hN hi hx (pe_lk (pe_kone hu hk he)) hs hf) fun D s H ⟨r, F, R, h⟩ => fun p np => ?_
  rw [hP, hw]
  have m := More.loose (o := DicO c.P c.w p []) R.fr.sub np
  have R0 := R.more m
  refine ⟨r, F, R0, (ans_of h).imp fun z H1 F1 R1 m1 k1 u hu => ⟨r, F1, R1, (ans_of k1).imp fun d H2 F2 R2 m2 k2 v hv => ?_⟩⟩
  have m12 := m1.trans m2
  have hp := m12.h p _ upd_same
  refine ⟨hp, ?_⟩
  cases ek : nkey z with
  | none => rw [ek] at k2; exact k2.elim
  | some k =>
    rw [ek] at k2
    change Sans c F2 (if i < r.length then some (SR.nx (r.set i (some (.dif [(k, d)])))) else none) D at k2
    split at k2
    · rename_i zz
      obtain ⟨a, rfl, _⟩ := kget_of (R2.fr.sub) (.inl hp) KDn.nil (dp_same m2.f hu) ek
      have fp : F2 p = none := m12.un _ _ upd_same (R.fr.newF np)
      refine ⟨c.ax, F2, a, v, z, k, R2.fr.sub, rfl, by rw [hK]; exact dp_same m2.f hu, ek, p, _, upd_same, True.intro, fun od => ?_⟩
      have R3 := (R2.other (o := DicO c.P c.w p [(k, a, v)]) fp (R.fr.new np) (R.notmine np)).layF (o := .frz od (DicO c.P c.w p [(k, a, v)])) fp (R.fr.new np) (R.notmine np)
      have sm : Same F2 (upd F2 p (.frz od (DicO c.P c.w p [(k, a, v)]))) := same_upd' fp
      have R5 := R3.setF (i := i) (kvs := [(k, d)]) zz upd_same (ws := [(k, a, v)]) ⟨rfl, fun y hy => by
        rw [List.mem_singleton.mp hy]; exact ⟨z, ek, dp_same sm (dp_same m2.f hu)⟩, .cons (dp_same sm hv) .nil⟩
      exact k2 _ _ _ R5 sm
    · exact k2.elim
end
end DL

set_option Elab.async false
set_option linter.all false
set_option maxRecDepth 100000
set_option maxHeartbeats 2000000
/-! The data layer: defs without parameters, a module's tuples, tuple(range(n)). -/
noncomputable section
namespace DL
open PySem PySem.Spec PyProof.Rows L2
section
variable {X : Cx} {c : Cc} {a e : Expr} {f : Ef} {pos : Pos}
theorem de_fn0 {phi : List PyData → M PyData} {x : Str} {p : Pos} {k : Nat} {fa : Addr} {fd : FuncData} (G : FnOk X.prog X.w X.K X.mg X.base (L2.CX X.prog X.w) k fa fd [] (spD c.K c.ax phi)) (hr : Room k X.A) (hg : Gl X x) (hm : X.mg x = some (.ref fa)) (hk : PySem.W.keepIn X.K (.ref fa) = true) (hb : Binds X.K fd [] [])
    (tk : Takes X c.W) (hdb : (x == ("__debug__" : Str)) = false := by decide) : PE X (.Call (.Name x p) [] [] pos) (teD c (eFn phi aNil)) := by
  have h0 : PE X (.Call (.Name x p) [] [] pos) (tCallS (spD c.K c.ax phi) (WE c.W) (taD c aNil)) := by
    refine ⟨fun pins s σ H Q I h => ?_⟩
    obtain ⟨r, F, R, h⟩ := h
    refine wpAny_Call_Name_kw (ld_glob I hg hm ?_ hdb)
    exact PySem.W.callWith_K0 I.kIn hk (run_fnS (us := []) G hr hb (passAt tk σ) I .nil (h.now R [] .nil))
  exact PE.weak h0 fun _ _ _ => te_fn
/-- a module's constant, a tuple -/
theorem de_globT {x : Str} {t : Addr} {ds : List PyData} (hg : Gl X x) (hm : X.mg x = some (.ref t)) (hq : ∀ F, Dq c.K c.ax F (.ref t) (.tuple ds)) (hd : (x == ("__debug__" : Str)) = false := by decide) : PE X (.Name x pos) (teD c (eC (.tuple ds))) :=
  PE.weak (pe_glob (v := .ref t) hg hm rfl hd) fun _ _ _ => te_c hq
/-- a tuple of the written part -/
theorem dq_K {K : PySem.W.Frag} {ax : XN → Addr} {F : Hp} {a : Addr} {n : Nat} {its : Array Value} {sl : Array (Option Value)} {vs : List V} {ds : List PyData} (h : K.lookup a = some ⟨.type "tuple", none, .seq its n, sl⟩) (hz : its.size ≤ sizeLine) (hv : Vals vs its.toList) (hd : DqAll K ax F vs ds) : Dq K ax F (.ref a) (.tuple ds) :=
  .tup (.inr ⟨_, its, n, h, rfl, rfl, rfl, hz, hv⟩) hd
theorem rv_str {x : Str} {t : Tok} : RelV (.str x) (.str x t) := ⟨t, rfl⟩
theorem rv_int {x : Int} {t : Tok} : RelV (.int x) (.int x t) := ⟨t, rfl⟩
theorem rv_ref {x : Addr} : RelV (.ref x) (.ref x) := rfl
def tTupRgZ (te : L2.St → Hp → (Int → Int → Hp → Prop) → Prop) : TE := fun σ H Q => te σ H fun a b H1 => RgOk a b ∧ ∀ q o, H1 q = none → o.dict = none → Q (.ref q) (upd H1 q (.frz o (.tup (rgV a b))))
theorem pe_tupRgZ {te : L2.St → Hp → (Int → Int → Hp → Prop) → Prop} {p : Pos} (hc : X.calm = true) (hg : Gl X "tuple") (hm : X.mg "tuple" = none) (he : PRg X e te) (na : starEach [e] X.env = (false, eval e X.env) :: starEach [] X.env := by rfl) : PE X (.Call (.Name "tuple" p) [e] [] pos) (tTupRgZ te) := by
  refine ⟨fun pins s σ H Q I h => ?_⟩
  refine Call_ (ld_blt I hg hm boot_tuple (PyProof.Rows.callWith_type1 (PyProof.Rows.args_cons (thn (he pins s σ H _ I h) fun x s1 ⟨r, a, b, t, u, v, H1, ex, hr, I1, ok, q⟩ => PyProof.Rows.args_nil ?_) na) na))
  cases ex
  obtain ⟨b1, b2, b3, b4, b5⟩ := ok
  refine call_tuple_range (n := (b - a).toNat) (I1.ok.hd hc) hr (small_one b1 b2 b3 b4) (rangeSize_nat a b) b5 fun h' tk acc hk hi => ?_
  have I2 : L2.Inv X pins σ H1 { s1 with heap := h', toks := tk } := I1.kept hk
  have e1 : (h'.push { cls := .type "tuple", data := .seq acc }).get? h'.objs.size = some { cls := .type "tuple", data := .seq acc } := Heap.get?_push_size _ rfl
  exact ⟨.ref h'.objs.size, _, I2.laid (t' := tk) (fun c o e => Heap.get?_push_of_some _ e) (Nat.le_refl _) (frz_ok (its := acc.toList) (by rw [rgV_length, sizeLine_eq]; omega) (vals_rg hi) e1 rfl ⟨0, by simp⟩), rfl, q _ _ (I2.hok.fresh (Nat.le_refl _)) rfl⟩
def oTupRng : PyData → M PyData
  | .int n => if inL n = true then ok (.tuple (rng 0 n.toNat)) else none
  | _ => none
theorem de_tupRng {p p2 q : Pos} (hc : X.calm = true) (hg : Gl X "tuple") (hm : X.mg "tuple" = none) (hg2 : Gl X "range") (hm2 : X.mg "range" = none) (ha : PE X a (teD c f))
    (na : starEach [a] X.env = (false, eval a X.env) :: starEach [] X.env := by rfl) (nb : starEach [.Call (.Name "range" p2) [a] [] q] X.env = (false, eval (.Call (.Name "range" p2) [a] [] q) X.env) :: starEach [] X.env := by rfl) : PE X (.Call (.Name "tuple" p) [.Call (.Name "range" p2) [a] [] q] [] pos) (teD c (e1 oTupRng f)) := by
  refine PE.weak (pe_tupRgZ hc hg hm (prg_1 hg2 hm2 ha na) nb) fun s H Q ⟨r, F, R, k⟩ => ⟨r, F, R, k.bnd.imp fun x H1 F1 R1 m1 k1 v hv => ?_⟩
  unfold oTupRng at k1
  split at k1
  · split at k1
    · rename_i n z
      cases hv
      have z1 := inL_iff.mp z
      refine ⟨n, rfl, ⟨by omega, by omega, by omega, by omega, by omega⟩, fun q o nq od => ?_⟩
      have := lay_t R1 k1 nq od dq_rng
      exact this.1 _ this.2
    · exact k1.elim
  · exact k1.elim
end
end DL

set_option Elab.async false
set_option linter.all false
set_option maxRecDepth 100000
set_option maxHeartbeats 2000000
/-! The data layer: xs[::-1], <= of lists of ints, a, b, c = x, y, z. -/
noncomputable section
namespace DL
open PySem PySem.Spec PyProof.Rows L2
section
variable {prog : Program} {w : World} {A : Around} {E : Value → Shared → Prop} {s : Shared}
theorem applied_rev {sl : Addr} {vl vu vs : Value} {n : Nat} {Q : Int × Int × Nat → Shared → Prop} (hs : s.heap.IsSliceOf sl vl vu vs) (pl : IsPart vl none) (pu : IsPart vu none) (ps : IsPart vs (some (-1)))
    (h : Q ((n : Int) - 1, -1, n) s) : wpAny (model prog w) A (Builtin.Slice.sliceApplied (.ref sl) (pure (n : Int))) Q E s := by
  obtain ⟨os, hos, hcs, hds⟩ := id hs
  unfold Builtin.Slice.sliceApplied Builtin.Slice.sliceFields
  refine wpAny_bind (wpAny_bind (wpAny_field hos hds (x := vl) rfl (wpAny_bind (wpAny_field hos hds (x := vu) rfl (wpAny_bind (wpAny_field hos hds (x := vs) rfl (wpAny_pure ?_)))))))
  refine wpAny_bind (HT.slicePart_ ps ?_)
  show wpAny _ _ (if ((-1 : Int) == 0) = true then _ else _) _ _ s
  rw [if_neg (by decide)]
  refine wpAny_bind (HT.slicePart_ pl (wpAny_bind (HT.slicePart_ pu (wpAny_bind (wpAny_pure ?_)))))
  show wpAny _ _ (pure ((n : Int) - 1, (-1 : Int), Builtin.Slice.slicePlaces ((n : Int) - 1) (-1) (-1))) _ _ s
  have e : Builtin.Slice.slicePlaces ((n : Int) - 1) (-1) (-1) = n := by
    unfold Builtin.Slice.slicePlaces
    rw [if_neg (by decide)]
    by_cases z : (n : Int) - 1 > -1
    · rw [if_pos z, show (- -1 : Int) = 1 by decide, Int.ediv_one]; omega
    · rw [if_neg z]; omega
  rw [e]
  exact wpAny_pure h
theorem pick_rev (xs : Array Value) : ((List.range xs.size).filterMap fun (k : Nat) => xs[(((xs.size : Int) - 1) + (k : Int) * (-1)).toNat]?).toArray = xs.toList.reverse.toArray := by
  congr 1
  refine List.ext_getElem? fun i => ?_
  have e : (List.range xs.size).filterMap (fun (k : Nat) => xs[(((xs.size : Int) - 1) + (k : Int) * (-1)).toNat]?) = (List.range xs.size).map fun (k : Nat) => xs.toList.getD (xs.size - 1 - k) .none := by
    have gen : ∀ l : List Nat, (∀ k ∈ l, k < xs.size) → l.filterMap (fun (k : Nat) => xs[(((xs.size : Int) - 1) + (k : Int) * (-1)).toNat]?) = l.map fun (k : Nat) => xs.toList.getD (xs.size - 1 - k) .none := by
      intro l
      induction l with
      | nil => intro _; rfl
      | cons k l ih =>
        intro hk
        have hk' := hk k List.mem_cons_self
        have e1 : (((xs.size : Int) - 1) + (k : Int) * (-1)).toNat = xs.size - 1 - k := by omega
        have e2 : xs[(((xs.size : Int) - 1) + (k : Int) * (-1)).toNat]? = some (xs.toList.getD (xs.size - 1 - k) .none) := by
          rw [e1, List.getD_eq_getElem?_getD, Array.getElem?_toList, Array.getElem?_eq_getElem (by omega)]; rfl
        rw [List.filterMap_cons, e2, List.map_cons, ih fun j hj => hk j (List.mem_cons_of_mem _ hj)]
    exact gen _ fun k hk => List.mem_range.mp hk
  rw [e, List.getElem?_map]
  by_cases hi : i < xs.size
  · rw [List.getElem?_range hi, List.getElem?_reverse (by rw [Array.length_toList]; exact hi), Array.length_toList, Option.map_some, List.getD_eq_getElem?_getD, Array.getElem?_toList, Array.getElem?_eq_getElem (by omega)]; rfl
  · rw [List.getElem?_eq_none (by rw [List.length_range]; omega), List.getElem?_eq_none (by rw [List.length_reverse, Array.length_toList]; omega)]; rfl
theorem getItem_tuple_rev {t sl : Addr} {items : Array Value} {vl vu vs : Value} {Q : Value → Shared → Prop} (ht : IsTup s.heap t items) (hs : s.heap.IsSliceOf sl vl vu vs) (pl : IsPart vl none) (pu : IsPart vu none) (ps : IsPart vs (some (-1)))
    (h : Q (.ref s.heap.objs.size) { s with heap := s.heap.push { cls := .type "tuple", data := .seq items.toList.reverse.toArray } })
    (hsz : items.size ≤ sizeLine) : wpAny (model prog w) A (getItem (.ref t) (.ref sl)) Q E s := by
  have htake : sizeOk (.seq items.toList.reverse.toArray) := by
    show items.toList.reverse.toArray.size ≤ sizeLine
    rw [List.size_toArray, List.length_reverse, Array.length_toList]
    exact hsz
  obtain ⟨os, hos, hcs, hds⟩ := id hs
  have hTs : s.TypeIs (.ref sl) "slice" := ⟨os, hos, hcs⟩
  unfold getItem
  try with_reducible refine wpAny_holding ?_
  first | refine wpAny_bind (wpAny_pure ?_) | skip
  refine wpAny_bind (wpAny_sequenceKey ht.typeIs (by decide) ?_)
  refine wpAny_bind (wpAny_callSpecial?_slot (name := Str.ofString "__getitem__") ht.typeIs PyProof.Rows.slot_tuple_getitem
    (wpAny_call_entry PyProof.Rows.slot_tuple_getitem ht.typeIs PyProof.Rows.entry_tuple_getitem ?_ (PyProof.Rows.args_tuple_getitem _ _)))
  show wpAny _ _ (Builtin.Tuple.tupleItemsOf (.ref t) >>= _) _ _ s
  refine wpAny_bind (tupleItemsOf_ ht ?_)
  refine wpAny_bind (wpAny_typeOf hTs ?_)
  rw [if_pos (by decide)]
  refine wpAny_bind (applied_rev hs pl pu ps ?_)
  show wpAny _ _ (if ((((items.size : Int) - 1) == 0 && (-1 : Int) == 1 && items.size == items.size) = true) then _ else _) _ _ s
  rw [if_neg (by simp), pick_rev]
  first
    | exact wpAny_bind (m := Builtin.Tuple.tupleExact _) (wpAny_newObj_type (wpAny_pure ⟨_, rfl, wpAny_pure h⟩) htake)
    | exact wpAny_bind (m := Builtin.Tuple.tupleExact _) (wpAny_newObj_type (wpAny_bind (wpAny_pure (wpAny_pure ⟨_, rfl, wpAny_pure h⟩))) htake)
    | exact wpAny_bind (wpAny_bind (m := Builtin.Tuple.tupleExact _) (wpAny_newObj_type (wpAny_pure (wpAny_pure ⟨_, rfl, wpAny_pure h⟩)) htake))
    | exact wpAny_bind (wpAny_bind (m := Builtin.Tuple.tupleExact _) (wpAny_newObj_type (wpAny_pure ⟨_, rfl, wpAny_pure h⟩) htake))
end
def tRevA (K : PySem.W.Frag) (te : TE) : TE := fun σ H Q => te σ H fun x H1 => ∃ a xs, x = .ref a ∧ ((SqL K H1 a xs ∧ ∀ p, H1 p = none → Q (.ref p) (upd H1 p (.lst xs.reverse))) ∨ (SqT K H1 a xs ∧ ∀ p o, H1 p = none → o.dict = none → Q (.ref p) (upd H1 p (.frz o (.tup xs.reverse)))))
theorem pe_revA {X : Cx} {e : Expr} {te : TE} {k : Nat} {p1 p2 p3 pos : Pos} (he : PE X e te) : PE X (.Subscript e (.Slice none none (some (.UnaryOp .USub (.Constant (.int 1) k p1) p2)) p3) pos) (tRevA X.K te) := by
  refine ⟨fun pins s σ H Q I h => ?_⟩
  refine Subscript_ (thn (he.run pins s σ H _ I h) fun v s1 ⟨x, H1, I1, r1, q1⟩ => ?_)
  obtain ⟨a, xs, ex, hq⟩ := q1
  cases ex
  cases r1
  have hst : PO X (some (.UnaryOp .USub (.Constant (.int 1) k p1) p2)) (tPart (tUn (rU fun i => .int (-i)) (tC (.int 1)))) := po_some (pe_un un_neg pe_int)
  refine wpAny_Slice (thn (po_none.run pins s1 σ H1 (fun o H2 => o = none ∧ H2 = H1) I1 ⟨rfl, rfl⟩) fun vl s2 ⟨l, H2, I2, pl, el, e2⟩ => ?_)
  subst el e2
  refine thn (po_none.run pins s2 σ H2 (fun o H3 => o = none ∧ H3 = H2) I2 ⟨rfl, rfl⟩) fun vu s3 ⟨u, H3, I3, pu, eu, e3⟩ => ?_
  subst eu e3
  refine thn (hst.run pins s3 σ H3 (fun o H4 => o = some (-1) ∧ H4 = H3) I3 ⟨1, rfl, -1, rfl, rfl, rfl⟩) fun vs s4 ⟨o, H4, I4, ps, eo, e4⟩ => ?_
  subst eo e4
  have I5 : Inv X pins σ H4 { s4 with heap := s4.heap.push { cls := .type "slice", data := .fields #[vl, vu, vs] } } := I4.kept (t' := s4.toks) fun b ob q => Heap.get?_push_of_some _ q
  rcases hq with ⟨hx, q⟩ | ⟨hx, q⟩
  · obtain ⟨its, r, ht, hz⟩ := I5.list hx
    have hlen := r.length
    show wpAny (model X.prog X.w) X.A (subscriptTail e (.Slice none none (some (.UnaryOp .USub (.Constant (.int 1) k p1) p2)) p3) (.ref a) (.ref s4.heap.objs.size)) (EP X pins σ Q) X.xe { s4 with heap := s4.heap.push { cls := .type "slice", data := .fields #[vl, vu, vs] } }
    refine tail_any (ops := [.ref a, .ref s4.heap.objs.size]) ht.isList.typeIs (PySem.slot_list_getitem.lookup) ?_ (by with_unfolding_all rfl)
    refine wpAny_getItem_list_slice ht.isList (Heap.IsSliceOf.new _ vl vu vs) pl pu ps (by decide) ?_ (by rw [List.size_toArray]; omega)
    rw [PySem.W.krv_pick]
    exact ⟨.ref _, _, I5.laid (t' := s4.toks) (o := .lst xs.reverse) (fun b ob q => Heap.get?_push_of_some _ q) (Nat.le_refl _) ⟨by rw [List.length_reverse]; exact hz, _, 0, r.reverse, Heap.get?_push_size _ rfl⟩, rfl, q _ (I5.hok.fresh (Nat.le_refl _))⟩
  · obtain ⟨its, r, ht, hz⟩ := I5.tuple hx
    have hlen := r.length
    show wpAny (model X.prog X.w) X.A (subscriptTail e (.Slice none none (some (.UnaryOp .USub (.Constant (.int 1) k p1) p2)) p3) (.ref a) (.ref s4.heap.objs.size)) (EP X pins σ Q) X.xe { s4 with heap := s4.heap.push { cls := .type "slice", data := .fields #[vl, vu, vs] } }
    refine tail_any (ops := [.ref a, .ref s4.heap.objs.size]) ht.typeIs (PyProof.Rows.slot_tuple_getitem.lookup) ?_ (by with_unfolding_all rfl)
    refine getItem_tuple_rev ht (Heap.IsSliceOf.new _ vl vu vs) pl pu ps ?_ (by rw [List.size_toArray]; omega)
    have e1 : ((s4.heap.push { cls := .type "slice", data := .fields #[vl, vu, vs] }).push { cls := .type "tuple", data := .seq its.reverse.toArray }).get? (s4.heap.push { cls := .type "slice", data := .fields #[vl, vu, vs] }).objs.size = some { cls := .type "tuple", data := .seq its.reverse.toArray } := Heap.get?_push_size _ rfl
    exact ⟨.ref _, _, I5.laid (t' := s4.toks) (fun b ob q => Heap.get?_push_of_some _ q) (Nat.le_refl _) (frz_ok (by rw [List.length_reverse]; exact hz) r.reverse e1 rfl ⟨_, rfl⟩), rfl, q _ _ (I5.hok.fresh (Nat.le_refl _)) rfl⟩
section
variable {X : Cx} {c : Cc} {a e : Expr} {f : Ef} {pos : Pos}
def oRev : PyData → M PyData
  | .list xs => ok (.list xs.reverse)
  | .tuple xs => ok (.tuple xs.reverse)
  | _ => none
theorem de_rev {k : Nat} {p1 p2 p3 : Pos} (he : PE X e (teB c f)) (hK : X.K = c.K := by rfl) : PE X (.Subscript e (.Slice none none (some (.UnaryOp .USub (.Constant (.int 1) k p1) p2)) p3) pos) (teD c (e1 oRev f)) := by
  refine PE.weak (pe_revA he) fun s H Q ⟨r, F, R, k⟩ => ⟨r, F, R, k.bnd.imp fun x H1 F1 R1 m1 k1 v hv => ?_⟩
  unfold oRev at k1
  split at k1
  · obtain ⟨p, vs, rfl, hs, hd⟩ := hv.list R1.fr.sub
    refine ⟨p, vs, rfl, .inl ⟨by rw [hK]; exact hs, fun q nq => ?_⟩⟩
    have := lay_l R1 k1 nq (dpAll_rev hd)
    exact this.1 _ this.2
  · obtain ⟨p, vs, rfl, hs, hd⟩ := hv.tup R1.fr.sub
    refine ⟨p, vs, rfl, .inr ⟨by rw [hK]; exact hs, fun q o nq od => ?_⟩⟩
    have := lay_t R1 k1 nq od (dpAll_rev hd)
    exact this.1 _ this.2
  · exact k1.elim
/-- <= -/
theorem firstLe_lex : ∀ (ns ms : List Int), SeqAt.firstLt (fun j => decide (ns.getD j 0 = ms.getD j 0)) (fun j => decide (ns.getD j 0 ≤ ms.getD j 0)) (decide (ns.length ≤ ms.length)) (List.range (min ns.length ms.length)) = !HT.lexLt ms ns
  | [], [] => rfl
  | [], m :: ms => by simp [SeqAt.firstLt, HT.lexLt]
  | n :: ns, [] => by simp [SeqAt.firstLt, HT.lexLt]
  | n :: ns, m :: ms => by
    have e1 : min (n :: ns).length (m :: ms).length = min ns.length ms.length + 1 := by rw [List.length_cons, List.length_cons]; omega
    have ih := firstLe_lex ns ms
    rw [e1, List.range_succ_eq_map]
    unfold SeqAt.firstLt
    rw [firstLt_map, HT.lexLt_cons]
    by_cases h : n = m
    · rw [if_pos (by simp [h]), if_pos h.symm, ← ih]
      simp only [List.getD_cons_succ, List.length_cons, Nat.add_le_add_iff_right]
    · rw [if_neg (by simp [h]), if_neg (fun q => h q.symm)]
      simp only [List.getD_cons_zero]
      by_cases z : n ≤ m
      · rw [decide_eq_true z, decide_eq_false (by omega)]; rfl
      · rw [decide_eq_false z, decide_eq_true (by omega)]; rfl
def rLeS (K : PySem.W.Frag) : R2 := fun x y H Q => ∃ a b ns ms, x = .ref a ∧ y = .ref b ∧ SqL K H a (ns.map V.int) ∧ SqL K H b (ms.map V.int) ∧ Q (.bl (!HT.lexLt ms ns)) H
theorem op_leS (hu : X.A.units < cLine) : OpR X (compareOp .LtE) (rLeS X.K) := by
  intro pins s σ H x y v u Q I rx ry h
  obtain ⟨a, b, ns, ms, rfl, rfl, ha, hb, q⟩ := h
  cases rx
  cases ry
  obtain ⟨its, r1, p1, _⟩ := I.list ha
  obtain ⟨its2, r2, p2, _⟩ := I.list hb
  have i1 : IntsAre its ns := r1.ints
  have i2 : IntsAre its2 ms := r2.ints
  have e1 : its.toArray.size = ns.length := by rw [List.size_toArray]; exact i1.length
  have e2 : its2.toArray.size = ms.length := by rw [List.size_toArray]; exact i2.length
  have at1 : ∀ j (h1 : j < its.toArray.size), ∃ t, its.toArray[j] = .int (ns.getD j 0) t := fun j h1 => PyProof.Rows.IntsAre.int_at i1 _ _ (by simp at h1; simp [h1])
  have at2 : ∀ j (h1 : j < its2.toArray.size), ∃ t, its2.toArray[j] = .int (ms.getD j 0) t := fun j h1 => PyProof.Rows.IntsAre.int_at i2 _ _ (by simp at h1; simp [h1])
  have L := SeqAt.RcOp.lists_le (A := X.A) (s := s) (e := fun j => decide (ns.getD j 0 = ms.getD j 0)) (r := fun j => decide (ns.getD j 0 ≤ ms.getD j 0)) p1.isList p2.isList hu
    (fun j h1 h2 => by
      obtain ⟨t, et⟩ := at1 j h1
      obtain ⟨t', et'⟩ := at2 j h2
      rw [et, et', ← Bool.beq_eq_decide_eq]
      exact SeqAt.EqAt.int_int _ _ _ _)
    (fun j h1 h2 _ => by
      obtain ⟨t, et⟩ := at1 j h1
      obtain ⟨t', et'⟩ := at2 j h2
      rw [et, et']
      exact fun prog w E Q q => PyProof.Rows.le_int q)
  rw [e1, e2, firstLe_lex] at L
  have z : wpAny (model X.prog X.w) X.A (compareOp .LtE (.ref a) (.ref b)) (EP X pins σ Q) X.xe s := L X.prog X.w X.xe (EP X pins σ Q) ⟨.bl _, H, I, rfl, q⟩
  exact z
def oLeA : PyData → PyData → M PyData
  | .int i, .int j => ok (.bool (decide (i ≤ j)))
  | .list xs, .list ys => match intsOf xs, intsOf ys with
    | some ns, some ms => ok (.bool (!HT.lexLt ms ns))
    | _, _ => none
  | _, _ => none
def rLeA (K : PySem.W.Frag) : R2 := fun x y H Q => (rI0 fun i j => .bl (decide (i ≤ j))) x y H Q ∨ rLeS K x y H Q
theorem op_leA (hu : X.A.units < cLine) : OpR X (compareOp .LtE) (rLeA X.K) := op_le.or (op_leS hu)
theorem os_leA : OpS c (rLeA c.K) oLeA := by
  intro r s H F x y a b Q R hx hy h
  unfold oLeA at h
  split at h
  · exact .inl ⟨_, _, hx.int, hy.int, h.now R _ (.bl _)⟩
  · split at h
    · rename_i e1 e2
      obtain ⟨p, vs, rfl, hs, hd⟩ := hx.list R.fr.sub
      obtain ⟨q, ws, rfl, ht, he⟩ := hy.list R.fr.sub
      rw [intsOf_eq e1] at hd
      rw [intsOf_eq e2] at he
      exact .inr ⟨p, q, _, _, rfl, rfl, by rw [← dpAll_ints hd]; exact hs, by rw [← dpAll_ints he]; exact ht, h.now R _ (.bl _)⟩
    · exact h.elim
  · exact h.elim
/-- x, y, z = e1, e2, e3 -/
def sPar3 (i j l : Nat) (af : Af) : Sf := fun r => ofE (af r) r fun xs => match xs with
  | [a, b, d] => if i < r.length ∧ j < r.length ∧ l < r.length then some (.nx (((r.set i (some (.d a))).set j (some (.d b))).set l (some (.d d)))) else none
  | _ => none
theorem ds_par3 {i j l : Nat} {x y z : Str} {a b d : Expr} {af : Af} {px py pz pt pos : Pos} {kt k2 : Nat} {pt2 : Pos} (ha : PA X [a, b, d] (taD c af)) (hc : X.calm = true) (hN : X.N.Nodup) (hi : X.N[i]? = some x) (hj : X.N[j]? = some y) (hl : X.N[l]? = some z) (hij : i ≠ j) (hil : i ≠ l) (hjl : j ≠ l)
    (hx : X.env.scope.names.lookup x = some .local) (hy : X.env.scope.names.lookup y = some .local) (hz : X.env.scope.names.lookup z = some .local)
    (hw : swappedStores [.Tuple [.Name x px, .Name y py, .Name z pz] kt pt] (.Tuple [a, b, d] k2 pt2) X.env = pure (some [x, y, z]))
    (hs : swapsWithSole [.Tuple [.Name x px, .Name y py, .Name z pz] kt pt] (.Tuple [a, b, d] k2 pt2) pos.line X.env = pure false := by rfl) :
    PS X (.Assign [.Tuple [.Name x px, .Name y py, .Name z pz] kt pt] (.Tuple [a, b, d] k2 pt2) pos) (tsD c (sPar3 i j l af)) := by
  refine PS.weak (ps_par3 hc hN hi hj hl hij hil hjl hx hy hz ha hw hs) fun D s H ⟨r, F, R, h⟩ => ⟨r, F, R, (ans_of h).imp fun xs H1 F1 R1 m1 k1 vs hv => ?_⟩
  split at k1
  · rename_i p q t
    split at k1
    · rename_i zz
      cases hv with
      | cons h1 h2 =>
        cases h2 with
        | cons h2 h3 =>
          cases h3 with
          | cons h3 h4 =>
            cases h4
            refine ⟨_, _, _, rfl, ?_⟩
            exact k1.at (((R1.set zz.1 h1).set (by rw [List.length_set]; exact zz.2.1) h2).set (by rw [List.length_set, List.length_set]; exact zz.2.2) h3)
    · exact k1.elim
  · exact k1.elim
end
end DL

set_option Elab.async false
set_option linter.all false
set_option maxRecDepth 100000
/-! The data layer: a list of lists, all of the def's own, written in place by loops; ere it is frozen no other list is the def's own. -/
noncomputable section
namespace DL
open PySem PySem.Spec L2

def okB : Option B → Bool
  | none => true
  | some (.d _) => true
  | _ => false
def nok (h : Nat) (r : Rho) : Bool := (match r[h]? with | some none => true | _ => false) && r.all okB
theorem nok_n {h : Nat} {r : Rho} (z : nok h r = true) : r[h]? = some none := by
  unfold nok at z
  rw [Bool.and_eq_true] at z
  have := z.1
  split at this
  · assumption
  · cases this
theorem nok_a {h : Nat} {r : Rho} (z : nok h r = true) {i : Nat} {b : B} (e : r[i]? = some (some b)) : ∃ d, b = .d d := by
  unfold nok at z
  rw [Bool.and_eq_true] at z
  have := List.all_eq_true.mp z.2 _ (List.mem_of_getElem? e)
  cases b <;> first | exact ⟨_, rfl⟩ | cases this
abbrev XS := List (List PyData)
structure Row1 (c : Cc) (H F : Hp) (q : Addr) (xs : List PyData) : Prop where
  ex : ∃ vs, H q = some (.lst vs) ∧ DqAll c.K c.ax F vs xs
  f : F q = none
  h0 : c.H0 q = none
structure Nst (c : Cc) (s : L2.St) (H F : Hp) (h : Nat) (p : Addr) (qs : List Addr) (X : XS) : Prop where
  s : s[h]? = some (some (V.ref p))
  o : H p = some (.lst (qs.map V.ref))
  f : F p = none
  h0 : c.H0 p = none
  ne : p ∉ qs
  nod : qs.Nodup
  len : qs.length = X.length
  row : ∀ (i : Nat) (q : Addr) (xs : List PyData), qs[i]? = some q → X[i]? = some xs → Row1 c H F q xs
structure RelN (c : Cc) (h : Nat) (p : Addr) (qs : List Addr) (r : Rho) (X : XS) (s : L2.St) (H F : Hp) : Prop where
  R : Rel c r s H F
  n : nok h r = true
  x : Nst c s H F h p qs X
section
variable {c : Cc} {h : Nat} {p : Addr} {qs : List Addr} {r : Rho} {X : XS} {s s' : L2.St} {H F H' F' : Hp}
theorem Row1.more {q : Addr} {xs : List PyData} (k : Row1 c H F q xs) (m : More H F H' F') : Row1 c H' F' q xs := by
  obtain ⟨vs, h1, h2⟩ := k.ex
  exact ⟨⟨vs, m.h _ _ h1, dpAll_same m.f h2⟩, m.un _ _ h1 k.f, k.h0⟩
theorem Nst.more (k : Nst c s H F h p qs X) (m : More H F H' F') (e : s'[h]? = s[h]?) : Nst c s' H' F' h p qs X :=
  ⟨e.trans k.s, m.h _ _ k.o, m.un _ _ k.o k.f, k.h0, k.ne, k.nod, k.len, fun i q xs e1 e2 => (k.row i q xs e1 e2).more m⟩
theorem RelN.more (k : RelN c h p qs r X s H F) (R' : Rel c r s H' F') (m : More H F H' F') : RelN c h p qs r X s H' F' := ⟨R', k.n, k.x.more m rfl⟩
theorem rel_upd {q : Addr} {o : HO} (R : Rel c r s H F) (n : nok h r = true) (h2 : F q = none) (h3 : c.H0 q = none) : Rel c r s (upd H q o) F := by
  refine ⟨R.fr.write h2 h3, R.len, fun i b e => ?_, R.apart⟩
  obtain ⟨d, rfl⟩ := nok_a n e
  obtain ⟨v, e1, h1⟩ := R.data e
  exact ⟨v, e1, h1⟩
/-- one of the rows is written -/
theorem RelN.put (k : RelN c h p qs r X s H F) {i : Nat} {q : Addr} {xs ys : List PyData} {vs : List V} (e1 : qs[i]? = some q) (e2 : X[i]? = some xs) (h4 : DqAll c.K c.ax F vs ys) :
    RelN c h p qs r (X.set i ys) s (upd H q (.lst vs)) F := by
  have hr := k.x.row i q xs e1 e2
  have hm := List.mem_of_getElem? e1
  have hpq : p ≠ q := fun e => k.x.ne (by rw [e]; exact hm)
  refine ⟨rel_upd k.R k.n hr.f hr.h0, k.n, ⟨k.x.s, by rw [upd_ne hpq]; exact k.x.o, k.x.f, k.x.h0, k.x.ne, k.x.nod, by rw [List.length_set]; exact k.x.len, fun j q' zs f1 f2 => ?_⟩⟩
  by_cases z : j = i
  · subst z
    rw [e1] at f1
    cases f1
    have hl := (List.getElem?_eq_some_iff.mp e2).1
    rw [List.getElem?_set_self hl] at f2
    cases f2
    exact ⟨⟨vs, upd_same, h4⟩, hr.f, hr.h0⟩
  · rw [List.getElem?_set_ne (Ne.symm z)] at f2
    have hr' := k.x.row j q' zs f1 f2
    have hne : q' ≠ q := fun e => z (by
      subst e
      obtain ⟨a1, a2⟩ := List.getElem?_eq_some_iff.mp f1
      obtain ⟨b1, b2⟩ := List.getElem?_eq_some_iff.mp e1
      exact (List.getElem_inj k.x.nod).mp (a2.trans b2.symm))
    obtain ⟨ws, g1, g2⟩ := hr'.ex
    exact ⟨⟨ws, by rw [upd_ne hne]; exact g1, g2⟩, hr'.f, hr'.h0⟩
end

abbrev NSf := Rho → XS → Option (Rho × XS)
def tsN (c : Cc) (h : Nat) (p : Addr) (qs : List Addr) (g : NSf) : TS := fun D s H => ∃ r F X, RelN c h p qs r X s H F ∧ ∃ r' X', g r X = some (r', X') ∧ ∀ s' H' F', RelN c h p qs r' X' s' H' F' → Same F F' → D.nx s' H'
def okO {a b : Type} (m : M a) (k : a → Option b) : Option b := match m with
  | some (.ok x) => k x
  | _ => none
theorem okO_some {a b : Type} {m : M a} {k : a → Option b} {z : b} (h : okO m k = some z) : ∃ x, m = ok x ∧ k x = some z := by
  unfold okO at h
  split at h
  · exact ⟨_, rfl, h⟩
  · cases h
def nSkip : NSf := fun r X => some (r, X)
def nIf (t : Tf) (g : NSf) : NSf := fun r X => okO (t r) fun k => if k = true then g r X else some (r, X)
def nL (h : Nat) (G : Gf) (body : NSf) : List PyData → NSf
  | [], r, X => some (r, X)
  | x :: xs, r, X => match G x r with
    | some r1 => if nok h r1 = true then (match body r1 X with
      | some (r2, X2) => nL h G body xs r2 X2
      | none => none) else none
    | none => none
def nFor (h : Nat) (src : Af) (G : Gf) (body : NSf) : NSf := fun r X => okO (src r) fun xs => nL h G body xs r X
/-- x[a][k] = e -/
def nPut (a k f : Ef) : NSf := fun r X => okO (f r) fun d => okO (a r) fun y => okO (k r) fun z => match y, z with
  | .int i, .int j => (match ixN X.length i with
    | some m => (match X[m]? with
      | some xs => (match ixN xs.length j with
        | some n => some (r, X.set m (xs.set n d))
        | none => none)
      | none => none)
    | none => none)
  | _, _ => none
section
variable {X : Cx} {c : Cc} {h : Nat} {p : Addr} {qs : List Addr} {e a b : Expr} {body : List Stmt} {pos : Pos} {g : NSf}
theorem dn_one {st : Stmt} (h1 : PS X st (tsN c h p qs g)) : PSs X [st] (tsN c h p qs g) := pss_one h1
theorem dn_nil : PSs X [] (tsN c h p qs nSkip) := PSs.weak pss_nil fun D s H ⟨r, F, Y, RN, r', Y', e, k⟩ => by
  cases e
  exact k s H F RN (Same.refl _)
theorem dn_if {tf : Tf} (hc : PT X e (ttD c tf)) (ha : PSs X body (tsN c h p qs g)) : PS X (.If e body [] pos) (tsN c h p qs (nIf tf g)) := by
  refine PS.weak (ps_if hc ha (dn_nil (c := c) (h := h) (p := p) (qs := qs))) fun D s H ⟨r, F, Y, RN, r', Y', e, k⟩ => ?_
  unfold nIf at e
  obtain ⟨x, ex, e⟩ := okO_some e
  refine ⟨r, F, RN.R, ?_⟩
  rw [ex]
  intro H1 F1 R1 m1
  cases x with
  | true => exact ⟨r, F1, Y, RN.more R1 m1, r', Y', e, fun s' H' F' R' sm => k s' H' F' R' (m1.f.trans sm)⟩
  | false =>
    rw [if_neg (by decide)] at e
    cases e
    exact ⟨r, F1, Y, RN.more R1 m1, r, Y, rfl, fun s' H' F' R' sm => k s' H' F' R' (m1.f.trans sm)⟩
theorem dn_put {f kf af : Ef} {i1 : Expr} {p1 p2 : Pos} (he : PE X e (teD c f)) (hsub : PG X (.Subscript (.Subscript a i1 p1) b p2) (gSub (tOp (rIx X.K) (tVar h) (teB c af)) (teB c kf) rSetL))
    (hs : swapsWithSole [.Subscript (.Subscript a i1 p1) b p2] e pos.line X.env = pure false := by rfl) (hw : swappedStores [.Subscript (.Subscript a i1 p1) b p2] e X.env = pure none := by rfl)
    (h1 : (assignEach [.Subscript (.Subscript a i1 p1) b p2] X.env).map (·.2) = [assign (.Subscript (.Subscript a i1 p1) b p2) X.env] := by rfl) :
    PS X (.Assign [.Subscript (.Subscript a i1 p1) b p2] e pos) (tsN c h p qs (nPut af kf f)) := by
  refine PS.weak (ps_asg he hsub hs hw h1) fun D s H ⟨r, F, Y, RN, r', Y', e, k⟩ => ?_
  unfold nPut at e
  obtain ⟨d, ed, e⟩ := okO_some e
  obtain ⟨y, ey, e⟩ := okO_some e
  obtain ⟨z, ez, e⟩ := okO_some e
  refine ⟨r, F, RN.R, ?_⟩
  rw [ed]
  intro H1 F1 R1 m1 v hv
  have N1 := RN.more R1 m1
  refine ⟨_, N1.x.s, r, F1, R1, ?_⟩
  rw [ey]
  intro H2 F2 R2 m2 u hu
  have N2 := N1.more R2 m2
  obtain ⟨i, rfl⟩ : ∃ i, y = .int i := by cases y <;> first | exact ⟨_, rfl⟩ | cases e
  obtain ⟨j, rfl⟩ : ∃ j, z = .int j := by cases z <;> first | exact ⟨_, rfl⟩ | cases e
  dsimp only at e
  split at e
  · rename_i m em
    split at e
    · rename_i xs exs
      split at e
      · rename_i n en
        cases e
        have hml := (List.getElem?_eq_some_iff.mp exs).1
        have hql : m < qs.length := by rw [N2.x.len]; exact hml
        have hq : qs[m]? = some qs[m] := List.getElem?_eq_getElem hql
        refine .inl ⟨p, qs.map V.ref, i, V.ref qs[m], rfl, hu.int, SqL.of N2.x.o, ?_, ?_⟩
        · unfold atI
          rw [List.length_map, N2.x.len, em]
          show (qs.map V.ref)[m]? = _
          rw [List.getElem?_map, hq]; rfl
        · refine ⟨r, F2, R2, ?_⟩
          rw [ez]
          intro H3 F3 R3 m3 w hw'
          have N3 := N2.more R3 m3
          obtain ⟨vs, g1, g2⟩ := (N3.x.row m _ xs hq exs).ex
          refine ⟨_, vs, j, n, rfl, hw'.int, g1, by rw [dpAll_len g2]; exact en, ?_⟩
          exact k _ _ F3 (N3.put hq exs (dpAll_set n g2 (dp_same (m2.f.trans m3.f) hv))) (m1.f.trans (m2.f.trans m3.f))
      · cases e
    · cases e
  · cases e
end
end DL

set_option Elab.async false
set_option linter.all false
set_option maxRecDepth 100000
/-! The data layer: the loop over such a list of lists; how it comes to be and how it is frozen. -/
noncomputable section
namespace DL
open PySem PySem.Spec L2

section
variable {X : Cx} {c : Cc} {h : Nat} {p : Addr} {qs : List Addr} {e a b tg : Expr} {body : List Stmt} {pos : Pos} {g : NSf}
theorem for_runN {r : Rho} {Y : XS} {s : L2.St} {H1 F1 : Hp} {ts : List Nat} {G : Gf} {xs : List PyData} {J : It} {D : Ends} (R1 : RelN c h p qs r Y s H1 F1) {r' : Rho} {Y' : XS} (k1 : nL h G g xs r Y = some (r', Y')) (kd : ∀ s' H' F', RelN c h p qs r' Y' s' H' F' → Same F1 F' → D.nx s' H') (w : Walks c.K c.ax J xs F1) (ht : h ∉ ts) :
    ∃ W : Nat → Nat → L2.St → Hp → Prop, (∃ m, W 0 m s H1) ∧ ∀ i m σ H, W i m σ H →
      (J.stop i H ∧ D.nx σ H) ∨ (J.go i H ∧ ∃ N : L2.St → Hp → Prop, (∀ σ' H', N σ' H' → ∃ m', m' < m ∧ W (i + 1) m' σ' H') ∧ ∀ x H', J.yld i H x H' → tgD c ts G x σ H' fun σ2 H2 => tsN c h p qs g { D with nx := N, ct := N, bk := D.nx } σ2 H2) := by
  refine ⟨fun i m s H => ∃ r F Z, RelN c h p qs r Z s H F ∧ Same F1 F ∧ m = xs.length - i ∧ i ≤ xs.length ∧ nL h G g (xs.drop i) r Z = some (r', Y'), ⟨xs.length, r, F1, Y, R1, Same.refl _, by omega, Nat.zero_le _, k1⟩, ?_⟩
  rintro i m s H ⟨r, F, Z, R, sm, rfl, hi, k⟩
  by_cases hl : i < xs.length
  · refine .inr ⟨w.go i H (sm.trans R.R.fr.sub) hl, fun s H => ∃ r F Z, RelN c h p qs r Z s H F ∧ Same F1 F ∧ nL h G g (xs.drop (i + 1)) r Z = some (r', Y'), ?_, ?_⟩
    · rintro s' H' ⟨r2, F', Z', R', sm', k'⟩
      exact ⟨xs.length - (i + 1), by omega, r2, F', Z', R', sm', rfl, hl, k'⟩
    · intro x H' y
      obtain ⟨rfl, d, ed, hd⟩ := w.yld i H x H' (sm.trans R.R.fr.sub) hl y
      have ex : xs.drop i = d :: xs.drop (i + 1) := by
        obtain ⟨z, e⟩ := List.getElem?_eq_some_iff.mp ed
        rw [List.drop_eq_getElem_cons z, e]
      rw [ex] at k
      unfold nL at k
      cases eG : G d r with
      | none => rw [eG] at k; cases k
      | some r1 =>
        rw [eG] at k
        dsimp only at k
        split at k
        · rename_i zn
          cases eb : g r1 Z with
          | none => rw [eb] at k; cases k
          | some z =>
            rw [eb] at k
            obtain ⟨r2, Z2⟩ := z
            refine ⟨r, F, d, R.R, dp_same sm hd, r1, eG, fun s' R' bt => ⟨r1, F, Z, ⟨R', zn, R.x.more (More.refl R.R.fr.sub) (bt.2 h ht)⟩, r2, Z2, eb, fun s2 H2 F2 R2 m2 => ⟨r2, F2, Z2, R2, sm.trans m2, k⟩⟩⟩
        · cases k
  · have ei : i = xs.length := by omega
    subst ei
    rw [List.drop_length] at k
    cases k
    exact .inl ⟨w.stop H (sm.trans R.R.fr.sub), kd s H F R sm⟩
theorem dn_for {src : Af} {ts : List Nat} {G : Gf} (hp : PassesOwn (model X.prog X.w) X.A X.env X.xe) (hc : X.calm = true) (hi : PI X tg e (tiD c src)) (hg : PG X tg (tgD c ts G)) (hb : PSs X body (tsN c h p qs g)) (ht : h ∉ ts) (hfs : ∀ x, foldedSetIterable e X.env x = pure x := by intro _; rfl) :
    PS X (.For tg e body [] pos) (tsN c h p qs (nFor h src G g)) := by
  refine PS.weak (ps_for hp hc hi hg hb hfs) fun D s H ⟨r, F, Y, RN, r', Y', e, k⟩ => ?_
  unfold nFor at e
  obtain ⟨xs, ex, e⟩ := okO_some e
  refine ⟨r, F, RN.R, ?_⟩
  rw [ex]
  intro H1 F1 R1 m1 J w
  exact for_runN (RN.more R1 m1) e (fun s' H' F' R' sm => k s' H' F' R' (m1.f.trans sm)) w ht
/-- whatever the list's place -/
def tsA (c : Cc) (h : Nat) (g : NSf) : TS := fun D s H => ∃ p qs, tsN c h p qs g D s H
theorem dn_any {st : Stmt} (z : ∀ p qs, PS X st (tsN c h p qs g)) : PS X st (tsA c h g) := ⟨fun pins s σ H D I ⟨p, qs, k⟩ => (z p qs).run pins s σ H D I k⟩
end

section
variable {c : Cc} {h : Nat} {p : Addr} {qs : List Addr} {r : Rho} {X : XS} {s s' : L2.St} {H F H' F' : Hp}
theorem rel_frz {q : Addr} {o : HO} (R : Rel c r s H F) (n : nok h r = true) (h1 : H q = some o) (h2 : F q = none) (h3 : c.H0 q = none) : Rel c r s H (upd F q o) := by
  have sm : Same F (upd F q o) := same_upd' h2
  refine ⟨⟨fun b x z => ?_, R.fr.old.trans sm, fun b x z n => ?_⟩, R.len, fun i b e => ?_, R.apart⟩
  · by_cases hb : b = q
    · subst hb; rw [upd_same] at z; cases z; exact h1
    · rw [upd_ne hb] at z; exact R.fr.sub b x z
  · rw [upd_ne (ne_of_none z h3)]; exact R.fr.kept b x z n
  · obtain ⟨d, rfl⟩ := nok_a n e
    obtain ⟨v, e1, h1⟩ := R.data e
    exact ⟨v, e1, dp_same sm h1⟩
theorem frz_rows : ∀ (qs : List Addr) (X : XS) (F : Hp), Rel c r s H F → nok h r = true → qs.Nodup → qs.length = X.length → (∀ (i : Nat) q xs, qs[i]? = some q → X[i]? = some xs → Row1 c H F q xs) →
    ∃ F', Same F F' ∧ Rel c r s H F' ∧ DqAll c.K c.ax F' (qs.map V.ref) (X.map PyData.list) ∧ ∀ b, b ∉ qs → F' b = F b
  | [], [], F, R, _, _, _, _ => ⟨F, Same.refl _, R, .nil, fun _ _ => rfl⟩
  | q :: qs, xs :: X, F, R, n, nd, hl, hr => by
    rw [List.nodup_cons] at nd
    have r1 := hr 0 q xs rfl rfl
    obtain ⟨vs, g1, g2⟩ := r1.ex
    have sm : Same F (upd F q (.lst vs)) := same_upd' r1.f
    obtain ⟨F', s1, R', da, hn⟩ := frz_rows qs X (upd F q (.lst vs)) (rel_frz R n g1 r1.f r1.h0) n nd.2 (by simpa using hl) fun i q' xs' e1 e2 => by
      have k := hr (i + 1) q' xs' e1 e2
      have hne : q' ≠ q := fun e => nd.1 (by rw [← e]; exact List.mem_of_getElem? e1)
      obtain ⟨ws, a1, a2⟩ := k.ex
      exact ⟨⟨ws, a1, dpAll_same sm a2⟩, by rw [upd_ne hne]; exact k.f, k.h0⟩
    refine ⟨F', sm.trans s1, R', .cons (.lst (SqL.of (s1 q _ upd_same)) (dpAll_same (sm.trans s1) g2)) da, fun b hb => ?_⟩
    rw [List.mem_cons, not_or] at hb
    rw [hn b hb.2, upd_ne hb.1]
  | [], _ :: _, _, _, _, _, hl, _ => by cases hl
  | _ :: _, [], _, _, _, _, hl, _ => by cases hl
theorem RelN.freeze (k : RelN c h p qs r X s H F) : ∃ F', Rel c (r.set h (some (.d (.list (X.map .list))))) s H F' ∧ Same F F' := by
  obtain ⟨F1, s1, R1, da, hn⟩ := frz_rows qs X F k.R k.n k.x.nod k.x.len k.x.row
  have f1 : F1 p = none := by rw [hn p k.x.ne]; exact k.x.f
  have s2 : Same F1 (upd F1 p (.lst (qs.map V.ref))) := same_upd' f1
  have R2 := rel_frz R1 k.n k.x.o f1 k.x.h0
  refine ⟨_, ⟨R2.fr, by rw [List.length_set]; exact R2.len, fun j b e => ?_, fun j i xs ys q e1 e2 e3 e4 => ?_⟩, s1.trans s2⟩
  · rcases set_get e with ⟨rfl, eb⟩ | ⟨ne, e'⟩
    · cases eb
      exact ⟨_, k.x.s, .lst (SqL.of upd_same) (dpAll_same s2 da)⟩
    · exact R2.cell j b e'
  · rcases set_get e1 with ⟨_, eb⟩ | ⟨n1, e1'⟩
    · cases eb
    · obtain ⟨d, e⟩ := nok_a k.n e1'
      cases e
theorem Rel.cover {i : Nat} {v : V} (R : Rel c r s H F) (n : nok i (r.set i none) = true) : Rel c (r.set i none) (s.set i (some v)) H F := by
  refine ⟨R.fr, by rw [List.length_set, List.length_set]; exact R.len, fun j b e => ?_, fun j k xs ys q e1 e2 e3 e4 => ?_⟩
  · rcases set_get e with ⟨rfl, eb⟩ | ⟨ne, e'⟩
    · cases eb
    · obtain ⟨w, q1, q2⟩ := R.cell j b e'
      exact ⟨w, by rw [List.getElem?_set_ne (Ne.symm ne)]; exact q1, q2⟩
  · obtain ⟨d, e⟩ := nok_a n e1
    cases e
end
/-- x = [xs, ys]; a statement that writes into them; then they are frozen -/
def sNest (h : Nat) (f1 f2 : Af) (g : NSf) : Sf := fun r => ofE (f1 r) r fun xs => ofE (f2 r) r fun ys => if nok h (r.set h none) = true ∧ h < r.length then (match g (r.set h none) [xs, ys] with
  | some (r', Y) => some (.nx (r'.set h (some (.d (.list (Y.map .list))))))
  | none => none) else none
section
variable {X : Cx} {c : Cc} {h : Nat} {e1 e2 : Expr} {st : Stmt} {rest : List Stmt} {pos px lp : Pos} {g : NSf} {sf : Sf} {x : Str} {f1 f2 : Af}
theorem ds_nest (h1 : PE X e1 (teO c f1)) (h2 : PE X e2 (teO c f2)) (hN : X.N.Nodup) (hi : X.N[h]? = some x) (hx : Loc X.env.scope x) (hS : PS X st (tsA c h g)) (hr : PSs X rest (tsD c sf))
    (hs : swapsWith (.List [e1, e2] lp) (some (.Name x px)) pos.line X.env = pure false := by rfl) (ha : starEach [e1, e2] X.env = (false, eval e1 X.env) :: starEach [e2] X.env := by rfl) (hb : starEach [e2] X.env = (false, eval e2 X.env) :: starEach [] X.env := by rfl)
    (hf : X.fn x = true ∨ X.env.scope.names.lookup x = some .local := by first | exact .inl rfl | exact .inr rfl | assumption) :
    PSs X (.Assign [.Name x px] (.List [e1, e2] lp) pos :: st :: rest) (tsD c (sSeq (sNest h f1 f2 g) sf)) := by
  refine PSs.weak (pss_cons (ps_set hN hi hx (pe_lst (pa_cons h1 (pa_cons h2 pa_nil hb) ha)) hs hf) (pss_cons hS hr)) fun D s H ⟨r, F, R, k⟩ => ?_
  have k : Sans c F (sNest h f1 f2 g r) { D with nx := fun s' H' => ∃ r' F', Rel c r' s' H' F' ∧ Same F F' ∧ Sans c F' (sf r') D } := by
    unfold sSeq at k
    cases q : sNest h f1 f2 g r with
    | none => rw [q] at k; exact k
    | some z =>
      rw [q] at k
      cases z with
      | nx r' => exact fun s' H' F' R' sm => ⟨r', F', R', sm, k.mono sm⟩
      | rt d => exact k
      | bk r' => exact k
      | ct r' => exact k
      | er y r' => exact k
  unfold sNest at k
  refine ⟨r, F, R, (ans_of k).imp fun xs H1 F1 R1 m1 k1 q1 vs1 a1 a2 a3 a4 => ?_⟩
  refine ⟨r, F1, R1, (ans_of k1).imp fun ys H2 F2 R2 m2 k2 q2 vs2 b1 b2 b3 b4 => ?_⟩
  refine ⟨by simp [sizeLine], fun p np => ?_⟩
  split at k2
  · rename_i zn
    have m3 := More.loose (o := .lst [V.ref q1, V.ref q2]) R2.fr.sub np
    have R3 := R2.more m3
    have c1 : H2 q1 = some (.lst vs1) := m2.h _ _ a1
    have n1 : q1 ≠ p := fun e => by rw [e, np] at c1; cases c1
    have n2 : q2 ≠ p := fun e => by rw [e, np] at b1; cases b1
    have n12 : q1 ≠ q2 := fun e => by rw [e, b3] at a1; cases a1
    have hsl : h < s.length := by rw [R.len]; exact zn.2
    have N : RelN c h p [q1, q2] (r.set h none) [xs, ys] (s.set h (some (.ref p))) (upd H2 p (.lst [V.ref q1, V.ref q2])) F2 := by
      refine ⟨R3.cover zn.1, zn.1, ⟨List.getElem?_set_self hsl, upd_same, R2.fr.newF np, R2.fr.new np, by simp [Ne.symm n1, Ne.symm n2], by simp [n12], rfl, fun i q zs e3 e4 => ?_⟩⟩
      match i with
      | 0 =>
        cases e3; cases e4
        exact ⟨⟨vs1, by rw [upd_ne n1]; exact c1, dpAll_same m2.f a4⟩, m2.un _ _ a1 a2, R.fr.new a3⟩
      | 1 =>
        cases e3; cases e4
        exact ⟨⟨vs2, by rw [upd_ne n2]; exact b1, b4⟩, b2, R1.fr.new b3⟩
      | i + 2 => cases e3
    cases eg : g (r.set h none) [xs, ys] with
    | none => rw [eg] at k2; exact k2.elim
    | some z =>
      obtain ⟨r', Y⟩ := z
      rw [eg] at k2
      refine ⟨p, [q1, q2], r.set h none, F2, [xs, ys], N, r', Y, eg, fun s' H' F' RN sm => ?_⟩
      obtain ⟨F4, R4, s4⟩ := RN.freeze
      obtain ⟨r5, F5, R5, s5, k5⟩ := k2 s' H' F4 R4 (sm.trans s4)
      exact ⟨r5, F5, R5, k5⟩
  · exact k2.elim
end
end DL

set_option Elab.async false
set_option linter.all false
set_option maxRecDepth 100000
set_option maxHeartbeats 2000000
/-! The data layer: dicts whose keys are pairs of numbers: sorted, items. -/
noncomputable section
namespace DL
open PySem PySem.Spec PyProof.Rows L2

/-! ### keys that are pairs -/
def encP (p : Int × Int) : PyData := .tuple [.int p.1, .int p.2]
def pairK : NestedKey → Option (Int × Int)
  | .tup [.num a, .num b] => some (a, b)
  | _ => none
def pairsK : List (NestedKey × PyData) → Option (List (Int × Int))
  | [] => some []
  | q :: r => (pairK q.1).bind fun p => (pairsK r).map (p :: ·)
def itemsP : List (NestedKey × PyData) → Option (List PyData)
  | [] => some []
  | q :: r => (pairK q.1).bind fun p => (itemsP r).map (.tuple [encP p, q.2] :: ·)
theorem toKey_num {d : PyData} {i : Int} (h : toKey d = some (.num i)) : d = .int i := by
  cases d with
  | int j => rw [toKey] at h; cases h; rfl
  | none => rw [toKey] at h; cases h
  | bool b => rw [toKey] at h; cases h
  | str x => rw [toKey] at h; cases h
  | tuple ds => rw [toKey] at h; obtain ⟨ks, _, h⟩ := Option.map_eq_some_iff.mp h; cases h
  | list ds => rw [toKey] at h; cases h
  | dict ds => rw [toKey] at h; cases h
theorem pairK_is {k : NestedKey} {p : Int × Int} (h : pairK k = some p) : k = .tup [.num p.1, .num p.2] := by
  unfold pairK at h
  split at h
  · cases h; rfl
  · cases h
theorem pairK_data {d : PyData} {k : NestedKey} {p : Int × Int} (e : nkey d = some k) (h : pairK k = some p) : d = encP p := by
  rw [pairK_is h] at e
  unfold nkey at e
  split at e
  · rename_i ds
    obtain ⟨k', e1, e2⟩ := Option.bind_eq_some_iff.mp e
    split at e2
    · cases e2
      rw [toKey] at e1
      obtain ⟨ks, e3, e4⟩ := Option.map_eq_some_iff.mp e1
      cases e4
      cases ds with
      | nil => rw [toKeys] at e3; cases e3
      | cons d1 ds =>
        rw [toKeys] at e3
        obtain ⟨k1, f1, f2⟩ := Option.bind_eq_some_iff.mp e3
        obtain ⟨ks, f3, f4⟩ := Option.map_eq_some_iff.mp f2
        cases f4
        cases ds with
        | nil => rw [toKeys] at f3; cases f3
        | cons d2 ds =>
          rw [toKeys] at f3
          obtain ⟨k2, g1, g2⟩ := Option.bind_eq_some_iff.mp f3
          obtain ⟨ks, g3, g4⟩ := Option.map_eq_some_iff.mp g2
          cases g4
          cases ds with
          | nil => rw [toKey_num f1, toKey_num g1]; rfl
          | cons d3 ds =>
            rw [toKeys] at g3
            obtain ⟨k3, i1, i2⟩ := Option.bind_eq_some_iff.mp g3
            obtain ⟨_, _, i4⟩ := Option.map_eq_some_iff.mp i2
            cases i4
    · cases e2
  · cases e

/-! ### sorted -/
section
variable {K : PySem.W.Frag} {ax : XN → Addr} {F : Hp}
/-- a value that stands for a pair -/
def IsP (K : PySem.W.Frag) (ax : XN → Addr) (F : Hp) (v : Value) (p : Int × Int) : Prop := ∃ a, v = .ref a ∧ Dq K ax F (.ref a) (encP p)
theorem isP_each : ∀ {ws : KW} {kvs : List (NestedKey × PyData)} {ps : List (Int × Int)}, KDn K ax F ws kvs → pairsK kvs = some ps → PySem.W.EachIs (IsP K ax F) (ws.map fun x => Value.ref x.2.1) ps
  | [], [], ps, _, h => by cases h; exact .nil
  | [], _ :: _, _, h, _ => by have := h.len; cases this
  | _ :: _, [], _, h, _ => by have := h.len; cases this
  | w :: ws, q :: kvs, ps, h, hp => by
    obtain ⟨e, hd, ht⟩ := h.cons_inv
    unfold pairsK at hp
    obtain ⟨p, p1, p2⟩ := Option.bind_eq_some_iff.mp hp
    obtain ⟨r, r1, rfl⟩ := Option.map_eq_some_iff.mp p2
    obtain ⟨d, d1, d2⟩ := h.kt w List.mem_cons_self
    rw [e] at d1
    rw [pairK_data d1 p1] at d2
    exact .cons ⟨_, rfl, d2⟩ (isP_each ht r1)
theorem isP_vals : ∀ {out : List Value} {ps : List (Int × Int)}, PySem.W.EachIs (IsP K ax F) out ps → ∃ vs, Vals vs out ∧ DqAll K ax F vs (ps.map encP)
  | _, _, .nil => ⟨[], .nil, .nil⟩
  | _, _, .cons ⟨a, e, h⟩ t => by
    obtain ⟨vs, v1, v2⟩ := isP_vals t
    subst e
    exact ⟨.ref a :: vs, .cons rfl v1, .cons h v2⟩
end
theorem pw3_at : ∀ {ws : KW} {xs : List (NestedKey × Addr × Value)}, PW3 ws xs → ∀ (i : Nat) (x : NestedKey × Addr × Value), xs[i]? = some x → ∃ y : NestedKey × Addr × V, ws[i]? = some y ∧ y.2.1 = x.2.1 ∧ RelV y.2.2 x.2.2 := by
  intro ws xs q
  induction q with
  | nil => intro i x hx; simp at hx
  | @cons p q ps qs hq t ih =>
    intro i x hx
    cases i with
    | zero => simp at hx; subst hx; exact ⟨p, rfl, hq.2.1, hq.2.2⟩
    | succ i => simpa using ih i x (by simpa using hx)
def ksort (ps : List (Int × Int)) : List (Int × Int) := ps.mergeSort (PySem.W.dataLe false encP)
theorem ksort_perm (ps : List (Int × Int)) : (ksort ps).Perm ps := List.mergeSort_perm _ _
section
variable {X : Cx} {pins : List (Addr × Obj)} {σ : L2.St} {H F : Hp} {s : Shared} {ax : XN → Addr}
theorem isP_reads (I : Inv X pins σ H s) (sm : Same F H) {h : Heap} (k : ∀ b o, s.heap.get? b = some o → h.get? b = some o) {v : Value} {p : Int × Int} (hp : IsP X.K ax F v p) : Reads h v (encP p) [] := by
  obtain ⟨a, rfl, hd⟩ := hp
  unfold encP at hd
  cases hd with
  | tup h1 h2 =>
    obtain ⟨its, rv, ⟨o, g1, g2, n, g3⟩, _⟩ := I.tuple (same_t sm h1.t)
    have e : ∃ t1 t2, its = [Value.int p.1 t1, Value.int p.2 t2] := by
      cases h2 with
      | cons a1 a2 =>
        cases a2 with
        | cons a3 a4 =>
          cases a4
          cases a1
          cases a3
          cases rv with
          | cons r1 r2 =>
            cases r2 with
            | cons r3 r4 =>
              cases r4
              obtain ⟨t1, rfl⟩ := r1
              obtain ⟨t2, rfl⟩ := r3
              exact ⟨t1, t2, rfl⟩
    obtain ⟨t1, t2, rfl⟩ := e
    exact .tuple (k _ _ g1) g2 g3 (.cons (as := []) (bs := []) (.int _ _) (.cons (as := []) (bs := []) (.int _ _) .nil))
def rSortK (X : Cx) : List V → Hp → VK → Prop := fun xs H Q => ∃ (ax : XN → Addr) (F : Hp) (p : Addr) (ws : KW) (kvs : List (NestedKey × PyData)) (ps : List (Int × Int)), xs = [.ref p] ∧ Same F H ∧ KAt X.prog X.w H p ws ∧ KDn X.K ax F ws kvs ∧ pairsK kvs = some ps ∧
  ∀ q vs, H q = none → DqAll X.K ax F vs ((ksort ps).map encP) → Q (.ref q) (upd H q (.lst vs))
theorem cl_sortK (hc : X.calm = true) (hu : X.A.units + 65 < cLine) : CallR X (.builtin "sorted") (rSortK X) := by
  intro pins s σ H xs us Q I r h
  obtain ⟨ax, F, p, ws, kvs, ps, rfl, sm, ka, kd, hp, q⟩ := h
  obtain rfl := Vals.ref1 r
  obtain ⟨⟨z, hd, xs, pr, o, es, ep, h1, h2, h3, h4, h5⟩, _, _⟩ := ka.ok I
  have hh : X.A.handled = none := I.ok.hd hc
  have l1 : ws.length = xs.length := Paired.length pr
  have l2 : es.size = xs.length := by
    have := congrArg List.length h4
    rwa [Array.length_toList, List.length_map] at this
  have each := isP_each kd hp
  refine Calls.call_function_entry kind_sorted plain_sorted entry_sorted (args_sorted1 _) ?_
  unfold Builtin.«sorted»
  refine wpAny_bind (m := checkCount "sorted" 1 1 _) (wpAny_pure ?_)
  refine wpAny_bind (PySem.W.kdu_collect (A := X.A.in1) (PySem.KdlSrc.rawDict (es := es) (ep := ep) hd) hh ⟨o, h1, h2, h3⟩ (by omega) fun h' tk acc hk hacc => ?_)
  have hl : acc.toList = ws.map fun x => Value.ref x.2.1 := by
    apply List.ext_getElem?
    intro i
    by_cases hi : i < ws.length
    · have hai : i < acc.size := by rw [hacc.1]; omega
      obtain ⟨hi2, e2⟩ := hacc.2 i _ (Array.getElem?_eq_getElem hai)
      rw [Array.getElem?_toList, Array.getElem?_eq_getElem hai, e2]
      have e3 : es.toList[i]? = some es[i] := by rw [Array.getElem?_toList, Array.getElem?_eq_getElem hi2]
      rw [h4, List.getElem?_map] at e3
      obtain ⟨x, x1, x2⟩ := Option.map_eq_some_iff.mp e3
      rw [← x2, List.getElem?_map]
      obtain ⟨y, y1, y2, _⟩ := pw3_at pr i x x1
      rw [y1]
      show some (Value.ref x.2.1) = some (Value.ref y.2.1)
      rw [y2]
    · rw [List.getElem?_eq_none (by rw [Array.length_toList, hacc.1]; omega), List.getElem?_eq_none (by rw [List.length_map]; omega)]
  have hzl : acc.toList.length ≤ sizeLine := by rw [hl, List.length_map]; exact z
  refine wpAny_bind (wpAny_newList ?_ hzl)
  have hoL : (h'.push (seqObj "list" acc.toList.toArray 0)).get? h'.objs.size = some (seqObj "list" acc.toList.toArray 0) := Heap.get?_push_size _ rfl
  have gone : s.heap.get? h'.objs.size = none := by
    cases q : s.heap.get? h'.objs.size with
    | none => rfl
    | some o2 => exact absurd (Heap.lt_size (hk _ o2 q)) (Nat.lt_irrefl _)
  have hn : H h'.objs.size = none := I.hok.gone gone
  have kb : ∀ b o, s.heap.get? b = some o → (h'.push (seqObj "list" acc.toList.toArray 0)).get? b = some o := fun b o e => Heap.get?_push_of_some _ (hk b o e)
  have each' : PySem.W.EachIs (IsP X.K ax F) acc.toList ps := by rw [hl]; exact each
  have hps : ps.length ≤ sizeLine := by rw [← each'.length]; exact hzl
  refine wpAny_bind (wpAny_holding (PySem.W.list_sort_data (enc := encP) (bs := ps) (vs := acc.toList) (R := IsP X.K ax F) hoL each' (each'.mono fun v b hv => ⟨[], isP_reads I sm kb hv, by simp⟩)
    (PySem.W.AllAlike.of fun b b' => rfl) (PySem.W.Sortable.tuples fun b => ⟨_, _, rfl⟩) hps (fun b _ => ?_) fun out ho eo => ?_))
  · show X.A.in1.units + 1 + (encP b).depth < cLine
    have : (encP b).depth = 1 := rfl
    rw [this]
    show X.A.units + 1 + 1 + 1 < cLine
    omega
  · refine wpAny_pure ⟨_, rfl, ?_⟩
    obtain ⟨vs, v1, v2⟩ := isP_vals eo
    obtain ⟨n, hat⟩ := sortedHeap_at (vs := acc.toList) (out := out.toArray) hoL
    have hlen : vs.length ≤ sizeLine := by rw [v1.length, ho]; exact hps
    refine ⟨.ref h'.objs.size, _, I.laidN (t' := tk) (fun b o2 e => ?_) gone hn (show ObjOk X.prog X.w _ _ _ (.lst vs) from ⟨hlen, out, n, v1, hat⟩), rfl, q _ vs hn v2⟩
    have e1 := hk b o2 e
    have lt1 := Heap.lt_size e1
    rw [sortedHeap_old (Nat.ne_of_lt lt1) (by rw [Heap.size_push]; exact Nat.lt_succ_of_lt lt1)]
    exact Heap.get?_push_of_some _ e1
end
def eKSorted (i : Nat) : Ef := fun r => wK (dicAt i r) fun kvs => wK (pairsK kvs) fun ps => ok (.list ((ksort ps).map encP))
section
variable {X : Cx} {c : Cc} {i : Nat} {o : Expr} {pos : Pos}
theorem de_sortedK {p : Pos} (hc : X.calm = true) (hu : X.A.units + 65 < cLine) (hg : Gl X "sorted") (hm : X.mg "sorted" = none) (hv : PE X o (tVar i)) (hK : X.K = c.K := by rfl) (hP : X.prog = c.P := by rfl) (hw : X.w = c.w := by rfl) (na : starEach [o] X.env = (false, eval o X.env) :: starEach [] X.env := by rfl) :
    PE X (.Call (.Name "sorted" p) [o] [] pos) (teD c (eKSorted i)) := by
  refine PE.weak (pe_callB (cl_sortK hc hu) hg hm (by decide +kernel) (pa_cons hv pa_nil na) (by decide) (by decide) na rfl) fun s H Q ⟨r, F, R, h⟩ => ?_
  unfold eKSorted at h
  cases ed : dicAt i r with
  | none => rw [ed] at h; exact h.elim
  | some kvs =>
    rw [ed] at h
    cases ep : pairsK kvs with
    | none => rw [show (wK (some kvs) fun kvs => wK (pairsK kvs) fun ps => ok (PyData.list ((ksort ps).map encP))) = wK (pairsK kvs) fun ps => ok (PyData.list ((ksort ps).map encP)) from rfl, ep] at h; exact h.elim
    | some ps =>
      rw [show (wK (some kvs) fun kvs => wK (pairsK kvs) fun ps => ok (PyData.list ((ksort ps).map encP))) = wK (pairsK kvs) fun ps => ok (PyData.list ((ksort ps).map encP)) from rfl, ep] at h
      obtain ⟨p, ws, q1, q2, q3⟩ := R.dic ed
      refine ⟨_, q1, c.ax, F, p, ws, kvs, ps, rfl, R.fr.sub, by rw [hP, hw]; exact q2, by rw [hK]; exact q3, ep, fun q vs nq dv => ?_⟩
      rw [hK] at dv
      have z := lay_l R (show Ans c r s H F (ok (PyData.list ((ksort ps).map encP))) _ from h) nq dv
      exact z.1 _ z.2
end

/-! ### items -/
/-- the items of the frozen dict at d, each in a new pair -/
def ItK (P : Program) (w : World) (d : Addr) (o : Obj) (ws : KW) : It :=
  ⟨fun i H => H d = some (.frz o (DicO P w d ws)) ∧ i < ws.length, fun i H x H' => ∃ T k b v ot, ws[i]? = some (k, b, v) ∧ x = .ref T ∧ H T = none ∧ ot.dict = none ∧ H' = upd H T (.frz ot (.tup [.ref b, v])), fun i H => H d = some (.frz o (DicO P w d ws)) ∧ ws.length ≤ i⟩
theorem frzK_at {X : Cx} {pins : List (Addr × Obj)} {σ : L2.St} {H : Hp} {s : Shared} {d : Addr} {o : Obj} {ws : KW} (I : Inv X pins σ H s) (hd : H d = some (.frz o (DicO X.prog X.w d ws))) :
    ∃ es ep xs, (d == sysModules) = false ∧ PW3 ws xs ∧ s.heap.get? d = some o ∧ o.ExactDict ∧ o.data = .dict es ep ∧ es.toList = xs.map (entryOfKey (nestedKind X.prog X.w)) := by
  obtain ⟨g, ⟨z, hs, xs, pr, o', es, ep, h1, h2, h3, h4, h5⟩, _, _⟩ := I.hok d _ hd
  rw [g] at h1
  cases h1
  exact ⟨es, ep, xs, hs, pr, g, h2, h3, h4⟩
theorem turn_itemsK {P : Program} {w : World} {K : PySem.W.Frag} {d : Addr} {o : Obj} {es : Array DictEntry} {ep : Nat} {ws : KW} {elts : List Expr} {kk : Nat} {tpos : Pos} (it : Addr) (hod : o.data = .dict es ep) (hsz : es.size = ws.length) :
    Turn P w K (.Tuple elts kk tpos) (ItK P w d o ws) [it] it (fun i h => ∃ ok ov, IsItemIter h it d i es.size ep ok ov) where
  mem := by simp
  obj := fun i h st b hb => by
    have e : b = it := by simpa using hb
    subst e
    obtain ⟨ok, ov, e⟩ := st
    exact ⟨_, e, fun v z => nomatch z⟩
  keep := fun i h h' st k => let ⟨ok, ov, e⟩ := st; ⟨ok, ov, k it (by simp) _ e⟩
  item := by
    intro X hP hw hK hc i pins s σ H E I hf st hg
    subst hP hw hK
    obtain ⟨hd, hi⟩ := hg
    obtain ⟨es', ep', xs, hs, pr, g, hx, hdat, hes⟩ := frzK_at I hd
    obtain ⟨rfl, rfl⟩ := dict_ep hod hdat
    obtain ⟨ok, ov, he⟩ := st
    have hlt : it < s.heap.objs.size := Heap.lt_size he
    have hi2 : i < es'.size := by omega
    have e3 : es'.toList[i]? = some es'[i] := by rw [Array.getElem?_toList, Array.getElem?_eq_getElem hi2]
    rw [hes, List.getElem?_map] at e3
    obtain ⟨x, x1, x2⟩ := Option.map_eq_some_iff.mp e3
    obtain ⟨⟨k, b, v⟩, y1, y2, y3⟩ := pw3_at pr i x x1
    have ek : es'[i].key = .ref b := by rw [← x2]; show Value.ref x.2.1 = _; rw [← y2]
    have ev : RelV v es'[i].val := by rw [← x2]; exact y3
    refine DT.nextI he ⟨o, g, hx, hod⟩ hi2 fun h' ho hT hz hk => ⟨_, rfl, wpAny_letOwnedTupleGo_items (s := { s with heap := h' }) ho fun h'' he' sb => ?_⟩
    have hT2 : h''.get? s.heap.objs.size = some { cls := .type "tuple", data := .seq #[es'[i].key, es'[i].val] } := (sb.2 _ (Nat.ne_of_gt hlt)).trans hT
    have new : ObjOk X.prog X.w (upd H s.heap.objs.size (.frz { cls := .type "tuple", data := .seq #[es'[i].key, es'[i].val] } (.tup [.ref b, v]))) h'' s.heap.objs.size (.frz { cls := .type "tuple", data := .seq #[es'[i].key, es'[i].val] } (.tup [.ref b, v])) :=
      frz_ok (its := [es'[i].key, es'[i].val]) (by show 2 ≤ sizeLine; decide) (.cons (by rw [ek]; exact rfl) (.cons ev .nil)) hT2 rfl ⟨_, rfl⟩
    have I1 : Inv X pins σ (upd H s.heap.objs.size (.frz { cls := .type "tuple", data := .seq #[es'[i].key, es'[i].val] } (.tup [.ref b, v]))) { s with heap := h'' } :=
      I.turnedNew (t' := s.toks) (ch := [it]) (fun b ob hb e => (sb.2 b (by simpa using hb)).trans (hk b ob (by simpa using hb) e)) hf (Nat.le_refl _) new
    refine ⟨.ref s.heap.objs.size, _, I1, rfl, ⟨_, k, b, v, _, y1, rfl, I.hok.fresh (Nat.le_refl _), rfl, rfl⟩, ⟨_, _, he'⟩, fun b hb => ?_⟩
    have e : b = it := by simpa using hb
    rw [e, upd_ne (Nat.ne_of_lt hlt)]
    exact (hf it (by simp)).1
  done := by
    intro X hP hw hK hc i pins s σ H E I hf st hg
    subst hP hw hK
    obtain ⟨hd, hi⟩ := hg
    obtain ⟨f0, f1, f2, f3, f4, f5⟩ := hf it (by simp)
    obtain ⟨es', ep', xs, hs, pr, g, hx, hdat, hes⟩ := frzK_at I hd
    obtain ⟨rfl, rfl⟩ := dict_ep hod hdat
    obtain ⟨ok, ov, he⟩ := st
    exact DT.endI (I.ok.hd hc) he ⟨o, g, hx, hod⟩ (by omega) fun h' eb => ⟨rfl, I.turned (t' := s.toks) (fun b ob hb e => eb b ob hb e) f0 f1 f3 f4 f5⟩
  self := fun A i s Q E st h => let ⟨_, _, e⟩ := st; PySem.W.kcp_self e h
def iItemsK (X : Cx) (td : TE) : TI := fun σ H R => td σ H fun x H1 => ∃ d o ws, x = .ref d ∧ H1 d = some (.frz o (DicO X.prog X.w d ws)) ∧ R (ItK X.prog X.w d o ws) H1
theorem pi_itemsK {X : Cx} {e : Expr} {td : TE} {apos cpos : Pos} {elts : List Expr} {kk : Nat} {tpos : Pos} (he : PE X e td) (hbase : attributeBase e "items" X.env (eval e X.env) = eval e X.env := by rfl) (hline : (apos.endLine == cpos.line) = true := by rfl) :
    PI X (.Tuple elts kk tpos) (.Call (.Attribute e "items" apos) [] [] cpos) (iItemsK X td) := by
  refine ⟨fun pins s σ H R I h => ?_⟩
  refine wpAny_Call_method (T := "dict") (id := "dict.items") hbase rfl hline F.plainAttrs_dict F.slot_dict_items F.type_dict_items (thn (he.run pins s σ H _ I h) fun u s1 ⟨x, H1, I1, rx, d, o, ws, ex, hd, q⟩ => ?_)
  subst ex
  obtain rfl : u = Value.ref d := rx
  obtain ⟨t1, t2⟩ := isK_at I1 ⟨ws, .inr ⟨o, hd⟩⟩
  refine ⟨t1, t2, ?_⟩
  obtain ⟨es, ep, xs, hs, pr, g, hx, hdat, hes⟩ := frzK_at I1 hd
  have hsz : es.size = ws.length := by
    have := congrArg List.length hes
    rw [Array.length_toList, List.length_map] at this
    rw [this, Paired.length pr]
  have raw : DT.Raw s1.heap d es ep := ⟨o, g, hx, hdat⟩
  have I2 : Inv X pins σ H1 { s1 with heap := s1.heap.push { cls := .type "dict_items", data := .fields #[.ref d] } } := I1.kept (t' := s1.toks) fun b ob q => Heap.get?_push_of_some _ q
  have fin : wpAny (model X.prog X.w) X.A (pyIter (.ref s1.heap.objs.size)) (PIE X pins σ (.Tuple elts kk tpos) R) X.xe { s1 with heap := s1.heap.push { cls := .type "dict_items", data := .fields #[.ref d] } } := by
    refine DT.iterI (d := d) (es := es) (ep := ep) ⟨_, Heap.get?_push_size _ rfl, rfl, rfl⟩ (raw.push _) (pi_one (tk := s1.toks) I2 _ (turn_itemsK _ hdat hsz) ⟨.none, .none, ?_⟩ q)
    exact Heap.get?_push_size _ rfl
  show wpAny _ _ (callWith cpos (.builtin "dict.items") [.ref d] [] []) _ X.xe s1
  exact method_meetsIn F.slot_dict_items F.entry_dict_items rfl (PySem.evalArgs_none ⟨rfl, t1, F.args_dict_items_1 _, _, DT.meetsItems (es := es) (ep := ep) hs, raw, fin⟩)

/-! ### what lays new things at each turn -/
structure WalksG (K : PySem.W.Frag) (ax : XN → Addr) (J : It) (xs : List PyData) (F : Hp) : Prop where
  go : ∀ (i : Nat) (H : Hp), Same F H → i < xs.length → J.go i H
  stop : ∀ (H : Hp), Same F H → J.stop xs.length H
  yld : ∀ (i : Nat) (H : Hp) (x : V) (H' F2 : Hp), Same F F2 → Same F2 H → i < xs.length → J.yld i H x H' → ∃ F3 d, More H F2 H' F3 ∧ xs[i]? = some d ∧ Dq K ax F3 x d
def tiG (c : Cc) (f : Af) : TI := fun s H W => ∃ r F, Rel c r s H F ∧ Ans c r s H F (f r) (fun xs H' F' => ∀ J, WalksG c.K c.ax J xs F' → W J H')
def difAt (i : Nat) (r : Rho) : Option (List (NestedKey × PyData)) := match r[i]? with
  | some (some (.dif kvs)) => some kvs
  | _ => none
theorem difAt_eq {i : Nat} {r : Rho} {kvs : List (NestedKey × PyData)} (h : difAt i r = some kvs) : r[i]? = some (some (.dif kvs)) := by
  unfold difAt at h
  split at h
  · cases h; assumption
  · cases h
def wA {a b : Type} (o : Option a) (k : a → M b) : M b := match o with
  | some x => k x
  | none => none
def iKItems (i : Nat) : Af := fun r => wA (difAt i r) fun kvs => wA (itemsP kvs) ok
theorem itemsP_len : ∀ {kvs : List (NestedKey × PyData)} {xs : List PyData}, itemsP kvs = some xs → xs.length = kvs.length
  | [], xs, h => by cases h; rfl
  | q :: r, xs, h => by
    unfold itemsP at h
    obtain ⟨p, _, h⟩ := Option.bind_eq_some_iff.mp h
    obtain ⟨ys, h1, rfl⟩ := Option.map_eq_some_iff.mp h
    rw [List.length_cons, List.length_cons, itemsP_len h1]
theorem itemsP_at {K : PySem.W.Frag} {ax : XN → Addr} {F : Hp} : ∀ {ws : KW} {kvs : List (NestedKey × PyData)} {xs : List PyData}, KDn K ax F ws kvs → itemsP kvs = some xs → ∀ {i : Nat} {w : NestedKey × Addr × V}, ws[i]? = some w → ∃ p d, xs[i]? = some (.tuple [encP p, d]) ∧ Dq K ax F (.ref w.2.1) (encP p) ∧ Dq K ax F w.2.2 d
  | [], [], _, _, _, i, w, hw => by simp at hw
  | [], _ :: _, _, h, _, _, _, _ => by have := h.len; cases this
  | _ :: _, [], _, h, _, _, _, _ => by have := h.len; cases this
  | w0 :: ws, q :: kvs, xs, h, hx, i, w, hw => by
    obtain ⟨e, hd, ht⟩ := h.cons_inv
    unfold itemsP at hx
    obtain ⟨p, p1, p2⟩ := Option.bind_eq_some_iff.mp hx
    obtain ⟨ys, y1, rfl⟩ := Option.map_eq_some_iff.mp p2
    cases i with
    | zero =>
      simp at hw
      subst hw
      obtain ⟨d, d1, d2⟩ := h.kt _ List.mem_cons_self
      rw [e] at d1
      rw [pairK_data d1 p1] at d2
      exact ⟨p, q.2, rfl, d2, hd⟩
    | succ i =>
      obtain ⟨p, d, a, b, c⟩ := itemsP_at ht y1 (i := i) (w := w) (by simpa using hw)
      exact ⟨p, d, by simpa using a, b, c⟩
theorem walks_itemsK {P : Program} {w : World} {K : PySem.W.Frag} {ax : XN → Addr} {F : Hp} {d : Addr} {o : Obj} {ws : KW} {kvs : List (NestedKey × PyData)} {xs : List PyData} (h : F d = some (.frz o (DicO P w d ws))) (kd : KDn K ax F ws kvs) (hx : itemsP kvs = some xs) : WalksG K ax (ItK P w d o ws) xs F := by
  have el : xs.length = ws.length := by rw [itemsP_len hx, kd.len]
  refine ⟨fun i H sm hi => ⟨sm _ _ h, by omega⟩, fun H sm => ⟨sm _ _ h, by omega⟩, fun i H x H' F2 sm sm2 hi y => ?_⟩
  obtain ⟨T, k, b, v, ot, e1, rfl, hT, od, rfl⟩ := y
  obtain ⟨p, dd, a1, a2, a3⟩ := itemsP_at kd hx e1
  have m := More.laid (o := .frz ot (.tup [.ref b, v])) sm2 hT
  have s3 : Same F (upd F2 T (.frz ot (.tup [.ref b, v]))) := sm.trans m.f
  exact ⟨_, _, m, a1, .tup (.inl ⟨ot, upd_same, od⟩) (.cons (dp_same s3 a2) (.cons (dp_same s3 a3) .nil))⟩
section
variable {X : Cx} {c : Cc} {i : Nat} {e : Expr} {f : Ef} {pos : Pos}
theorem di_itemsK {apos cpos : Pos} {elts : List Expr} {kk : Nat} {tpos : Pos} (hv : PE X e (tVar i)) (hP : X.prog = c.P := by rfl) (hw : X.w = c.w := by rfl) (hbase : attributeBase e "items" X.env (eval e X.env) = eval e X.env := by rfl) (hline : (apos.endLine == cpos.line) = true := by rfl) :
    PI X (.Tuple elts kk tpos) (.Call (.Attribute e "items" apos) [] [] cpos) (tiG c (iKItems i)) := by
  refine PI.weak (pi_itemsK hv hbase hline) fun s H W ⟨r, F, R, h⟩ => ?_
  unfold iKItems at h
  cases ed : difAt i r with
  | none => rw [ed] at h; exact h.elim
  | some kvs =>
    rw [ed] at h
    change Ans c r s H F (wA (itemsP kvs) ok) _ at h
    cases ei : itemsP kvs with
    | none => rw [ei] at h; exact h.elim
    | some xs =>
      rw [ei] at h
      obtain ⟨p, ws, o, q1, q2, q3⟩ := R.mineF (difAt_eq ed)
      unfold iItemsK; rw [hP, hw]
      exact ⟨_, q1, p, o, ws, rfl, R.fr.sub _ _ q2, h.now R _ (walks_itemsK q2 q3 ei)⟩
theorem te_lcG {src : Af} {G : Gf} {tf : Tf} {vs ts : List Nat} {s : L2.St} {H : Hp} {Q : VK} (hts : ∀ j ∈ ts, j ∈ vs) :
    teO c (nLc src G tf f vs) s H Q → tLc (tiG c src) (tgD c.still ts G) (ttD c.still tf) (teD c.still f) vs s H Q := fun ⟨r, F, R, h⟩ => by
  refine ⟨r, F, R, Ans.imp (Ans.bnd h) fun xs H1 F1 R1 m1 k1 J w D nD => ?_⟩
  cases eR : lcL G tf f (wipeR r vs) xs [] with
  | none => rw [eR] at k1; exact k1.elim
  | some z =>
  cases z with
  | error e => exact absurd eR (lcL_no _ _ _)
  | ok res =>
  rw [eR] at k1
  have n0 : c.H0 D = none := R1.fr.new nD
  refine ⟨fun i m H => ∃ F acc accV, Rel c r s H F ∧ More H1 F1 H F ∧ H D = some (.lst accV) ∧ F D = none ∧ DqAll c.K c.ax F accV acc ∧ m = xs.length - i ∧ i ≤ xs.length ∧ lcL G tf f (wipeR r vs) (xs.drop i) acc = some (.ok res), ⟨xs.length, F1, [], [], ?_, ?_, upd_same, R1.fr.newF nD, .nil, by omega, Nat.zero_le _, eR⟩, ?_⟩
  · exact R1.more (More.loose R1.fr.sub nD)
  · exact More.loose R1.fr.sub nD
  rintro i m H ⟨F, acc, accV, R, mm, hD, fD, dA, rfl, hi, eq⟩
  by_cases hl : i < xs.length
  · refine .inr ⟨w.go i H (mm.f.trans mm.sub) hl, fun H => ∃ F acc accV, Rel c r s H F ∧ More H1 F1 H F ∧ H D = some (.lst accV) ∧ F D = none ∧ DqAll c.K c.ax F accV acc ∧ lcL G tf f (wipeR r vs) (xs.drop (i + 1)) acc = some (.ok res), ?_, ?_⟩
    · rintro H' ⟨F', acc', accV', R', mm', hD', fD', dA', eq'⟩
      exact ⟨xs.length - (i + 1), by omega, F', acc', accV', R', mm', hD', fD', dA', rfl, hl, eq'⟩
    · intro x H' y
      obtain ⟨F', d, my, ed, hd⟩ := w.yld i H x H' F mm.f mm.sub hl y
      replace R := R.more my
      replace mm := mm.trans my
      have fD' := my.un _ _ hD fD
      replace hD := my.h _ _ hD
      replace dA := dpAll_same my.f dA
      clear fD
      have ex : xs.drop i = d :: xs.drop (i + 1) := by
        obtain ⟨z, e⟩ := List.getElem?_eq_some_iff.mp ed
        rw [List.drop_eq_getElem_cons z, e]
      rw [ex] at eq
      unfold lcL at eq
      cases eG : G d (wipeR r vs) with
      | none => rw [eG] at eq; cases eq
      | some r1 =>
        rw [eG] at eq
        dsimp only at eq
        refine ⟨wipeR r vs, F', d, rel_still (R.wipe vs), hd, r1, eG, fun s2 R2 b2 => ⟨wipe_but b2 hts, r1, F', R2, ?_⟩⟩
        cases et : tf r1 with
        | none => rw [et] at eq; cases eq
        | some z =>
        rw [et] at eq
        cases z with
        | error e => cases eq
        | ok k =>
        intro H3 F3 R3 m3
        cases k with
        | false =>
          rw [if_neg (by decide)]
          exact ⟨F3, acc, accV, R.more m3, mm.trans m3, m3.h _ _ hD, m3.un _ _ hD fD', dpAll_same m3.f dA, eq⟩
        | true =>
          rw [if_pos rfl]
          dsimp only at eq
          cases ef : f r1 with
          | none => rw [ef] at eq; cases eq
          | some z =>
          rw [ef] at eq
          cases z with
          | error e => cases eq
          | ok d2 =>
          dsimp only at eq
          split at eq
          · rename_i hz
            refine ⟨r1, F3, R3, ?_⟩
            rw [ef]
            intro H4 F4 R4 m4 v hv
            have m34 := m3.trans m4
            have hD4 := m34.h _ _ hD
            have fD4 := m34.un _ _ hD fD'
            have dA4 := dpAll_same m34.f dA
            have mm4 := mm.trans m34
            refine ⟨accV, hD4, lim_lt (by rw [dpAll_len dA]; exact hz), F4, acc ++ [d2], accV ++ [v], (R.more m34).other fD4 n0 (R1.notmine nD), ⟨mm4.f, fun b o q => ?_, fun b o q => ?_, mm4.un⟩, upd_same, fD4, dpAll_app dA4 (dpAll_one hv), eq⟩
            · rw [upd_ne (ne_of_none q nD)]; exact mm4.h b o q
            · rw [upd_ne (ne_of_none q fD4)]; exact mm4.sub b o q
          · cases eq
  · have ei : i = xs.length := by omega
    subst ei
    rw [List.drop_length] at eq
    unfold lcL at eq
    cases eq
    exact .inl ⟨w.stop H (mm.f.trans mm.sub), k1 H F R mm D accV hD fD (m1.h.free nD) dA⟩
theorem do_lcG {tg elt iter : Expr} {ifs : List Expr} {scope : Scope} {own : List (Str × Nat)} {src : Af} {ts : List Nat} {G : Gf} {tf : Tf} (hc : X.calm = true) (hN : X.N.Nodup) (hi : PI X tg iter (tiG c src)) (okb : BlkOk X.N X.env.scope scope own)
    (hg : ∀ (s : Shared) (H : Hp) (C : Addr) (cl : List (Str × Addr)) (fp : List Addr), PG (X.blk s H scope (compEnvC scope cl C X.env) fp) tg (tgD c.still ts G))
    (ht : ∀ (s : Shared) (H : Hp) (C : Addr) (cl : List (Str × Addr)) (fp : List Addr), PTs (X.blk s H scope (compEnvC scope cl C X.env) fp) ifs (ttD c.still tf))
    (he : ∀ (s : Shared) (H : Hp) (C : Addr) (cl : List (Str × Addr)) (fp : List Addr), PE (X.blk s H scope (compEnvC scope cl C X.env) fp) elt (teD c.still f))
    (hts : ∀ j ∈ ts, j ∈ own.map (·.2) := by decide) (hs : ∀ x, foldedSetIterable iter X.env x = pure x := by intro _; rfl) :
    PE X (.ListComp elt [⟨tg, iter, ifs, 0⟩] scope pos) (teO c (nLc src G tf f (own.map (·.2)))) :=
  PE.weak (pe_lc hc hN hi okb hg ht he hs) fun _ _ _ => te_lcG hts
end
end DL

set_option Elab.async false
set_option linter.all false
set_option maxRecDepth 100000
set_option maxHeartbeats 2000000
/-! A list comprehension that lets an exception out. -/
noncomputable section
namespace PySem
open Sem (wp)
section
variable {M : Model} {A : Around} {E : Value → Shared → Prop} {s : Shared} {env : Env}
/-- as compPost, the frame known where an exception goes on -/
def compPostE (M : Model) (A : Around) (E : Value → Shared → Prop) (fr : Option Addr) (use : Option (Value → Sem Unit)) (Q : Value → Shared → Prop) (acc : Value) (C : Addr) (r : Result) (s' : Shared) : Prop :=
  match r, use with
  | .ok _, none => ∃ m, s'.heap.Ns C m ∧ ∀ h', Heap.SameBut C s'.heap h' → Q acc { s' with heap := h' }
  | .ok _, some u => wpAny M A (u acc) (fun _ s'' => ∃ m, s''.heap.Ns C m ∧ ∀ h', Heap.SameBut C s''.heap h' → Q .none { s'' with heap := h' }) E s'
  | .error x, _ => ∃ m, s'.heap.Ns C m ∧ ∀ h', Heap.SameBut C s'.heap h' → ∀ cenv : Env, cenv.frame = fr → wpAny M A (passOn "comprehension.variables-let-go" x cenv : Sem Value) (fun _ _ => False) E { s' with heap := h' }
theorem wpAny_comprehension_freeE {e : Expr} {scope : Scope} {pos : Pos} {newAcc first : Sem Value} {g : Comprehension} {gs : List Comprehension} {cl : List (Str × Addr)} {use : Option (Value → Sem Unit)} {Q : Value → Shared → Prop}
    (hcl : clausesOf e = g :: gs) (hs : ∀ x, foldedSetIterable g.iter env x = pure x) (hclos : closureFor scope env = pure cl)
    (hkind : scope.kind = .function) (hnames : ∀ x ∈ scope.names, x.2 = .local → scope.names.lookup x.1 = some .local)
    (h : wpAny M A first (fun x s₁ => wpAny M A (pyIter x) (fun it s₂ => wpAny M A newAcc (fun acc s₃ =>
      wpAny M A (newFunctionEnv scope env.globals cl [] env.qual none .none (some env)) (fun cenv s₄ => cenv.frame = env.frame ∧
        codeAny M A (.compStart e 0 it acc { cenv with scope := relabel scope env }) (compPostE M A E env.frame use Q acc cenv.locals) s₄) E s₃) E s₂) E s₁) E s) :
    wpAny M A (comprehension e scope env pos newAcc false first use) Q E s := by
  unfold comprehension
  rw [hclos, hcl]
  refine wpAny_bind (wpAny_mono h (fun x s₁ h₁ => wpAny_bind (wpAny_standAt (wpAny_bind (wpAny_of_eq (hs x) (wpAny_bind (wpAny_holding (wpAny_mono h₁ (fun it s₂ h₂ =>
    wpAny_standIf (wpAny_bind (wpAny_mono h₂ (fun acc s₃ h₃ => wpAny_bind (wpAny_pure (wpAny_bind (wpAny_mono h₃ (fun cenv s₄ h₄ => ?_) fun _ _ h' => h')))) fun _ _ h' => h')))
      fun _ _ h' => h'))))))) fun _ _ h' => h')
  obtain ⟨hfr, h₄⟩ := h₄
  dsimp only
  have hv : ∀ x ∈ (scope.names.filter fun x => (x.2 == .local || x.2 == .cell) && x.1 != (".0" : Str)).reverse, x.2 = .local →
      Env.kindOf { cenv with scope := relabel scope env } x.1 = some .local := fun x hx hl => lookup_relabel_local (hnames x (List.mem_filter.mp (List.mem_reverse.mp hx)).1 hl)
  have hv' : ∀ x ∈ (scope.names.filter fun x => (x.2 == .local || x.2 == .cell) && x.1 != (".0" : Str)).reverse.drop 1 ++ (scope.names.filter fun x => (x.2 == .local || x.2 == .cell) && x.1 != (".0" : Str)).reverse.take 1,
      x.2 = .local → Env.kindOf { cenv with scope := relabel scope env } x.1 = some .local := fun x hx hl => by
    rcases List.mem_append.mp hx with h1 | h1
    · exact hv x (List.mem_of_mem_drop h1) hl
    · exact hv x (List.mem_of_mem_take h1) hl
  refine wpAny_holding (wpAny_bind (wpAny_attempt (wpAny_holding (wpAny_run (codeAny_mono h₄ fun r s' hr => ?_)))))
  cases r with
  | ok f =>
    cases use with
    | none =>
      obtain ⟨m, hn, hr⟩ := hr
      exact wpAny_bind (wpAny_holding (wpAny_comp_letGo (cenv := { cenv with scope := relabel scope env }) hkind _ s' m hv hn fun h' m' _ hs' => wpAny_pure (hr h' hs')))
    | some u =>
      refine wpAny_bind (wpAny_rule (wpAny_bind (wpAny_holding (wpAny_mono hr (fun _ s'' hr' => ?_) fun _ _ h' => h'))))
      obtain ⟨m, hn, hr'⟩ := hr'
      exact wpAny_bind (wpAny_comp_letGo (cenv := { cenv with scope := relabel scope env }) hkind _ s'' m hv' hn fun h' m' _ hs' => wpAny_pure (hr' h' hs'))
  | error x =>
    have hr' : ∃ m, s'.heap.Ns cenv.locals m ∧ ∀ h', Heap.SameBut cenv.locals s'.heap h' → ∀ cenv' : Env, cenv'.frame = env.frame → wpAny M A (passOn "comprehension.variables-let-go" x cenv' : Sem Value) (fun _ _ => False) E { s' with heap := h' } := by cases use <;> exact hr
    obtain ⟨m, hn, hr⟩ := hr'
    exact wpAny_bind (wpAny_holding (wpAny_comp_letGo (cenv := { cenv with scope := relabel scope env }) hkind _ s' m hv hn fun h' m' _ hs' => wpAny_mono (hr h' hs' { cenv with scope := relabel scope env } hfr) (fun _ _ f => f.elim) fun _ _ y => y))
end
namespace HandSPX
section
variable {M : Model} {A : Around} {E : Value → Shared → Prop} {s : Shared} {Z : Obj → Prop} {base : Heap} {env : Env} {outer : List Env} {L e : Addr}
/-- an exception that has a traceback is noted by a frame that it isn't in flight at -/
theorem looks_anyZ {fl : Value} {Q : Unit → Shared → Prop} (hZ : Steady Z) (hfr : A.frames = some (env :: outer)) (hf : env.frame = some L) (hkb : base.StaysIn s.heap) (hen : base.get? e = none) (hl : s.heap.FunFrames base (env :: outer)) (ht : TracedZ s.heap base e Z fl) (hfl : (fl == rawInt L) = false)
    (hQ : ∀ h', HeldZ base (env :: outer) e Z L h' → s.heap.UpToSlots h' → Q () { s with heap := h' }) : wpAny M A (noteFrame (.ref e) env) Q E s := by
  obtain ⟨oe, vs, T, oT, ts, he, hz, hd, h1, hnT, hTe, hT, hdT, h3⟩ := ht
  unfold noteFrame
  simp only [hf]
  refine wpAny_bind (wpAny_field he hd h1 ?_)
  rw [if_pos (show (Value.ref T != Value.none) = true from by simp)]
  refine wpAny_bind (wpAny_field hT hdT h3 ?_)
  rw [if_neg (by rw [hfl]; exact Bool.false_ne_true)]
  refine wpAny_bind (wpAny_setField hT hdT (Array.getElem?_eq_some_iff.mp h3).1 ?_)
  have other : ∀ b, b ≠ T → (s.heap.update T (Obj.mapFields (·.setIfInBounds 3 Value.none))).get? b = s.heap.get? b := fun b hb => Heap.get?_update_other _ _ (Ne.symm hb)
  have noRecord : ∀ b o, s.heap.get? b = some o → (∀ vs, o.data ≠ .fields vs) → b ≠ T := fun b o hb hnf q => by
    rw [q, hT] at hb; injection hb with hb; subst hb; exact hnf ts hdT
  refine wpAny_entryZ hZ hfr (hl.of_keeps fun b o hb hnf => ⟨o, (other b (noRecord b o hb hnf)).trans hb, rfl⟩) hf ((other e (Ne.symm hTe)).trans he)
    (fun b o hbo => (other b fun q => by rw [q, hnT] at hbo; cases hbo).trans (hkb b o hbo)) hen hd (Array.getElem?_eq_some_iff.mp h1).1 hz fun h' hN => ?_
  obtain ⟨x1, x2, x3, x4⟩ := hN
  exact hQ h' ⟨x1, hen, x2, x3⟩ fun b o hb hnf => x4 b o ((other b (noRecord b o hb hnf)).trans hb) hnf
end
theorem funFrames_sub {h base base' : Heap} (hb : ∀ b, base.get? b = none → base'.get? b = none) : ∀ {l : List Env}, h.FunFrames base l → h.FunFrames base' l
  | [], _ => trivial
  | _ :: _, ⟨k, ⟨L, o, a, b, c, d⟩, r⟩ => ⟨k, ⟨L, o, a, hb L b, c, d⟩, funFrames_sub hb r⟩
end HandSPX
end PySem

namespace L2
open PySem PySem.Spec PyProof.Rows
/-- the context of a block that may let an exception out -/
abbrev Cx.blkE (X : Cx) (s : Shared) (H : Hp) (scope : Scope) (cenv : Env) (fp : List Addr) (xe : Value → Shared → Prop) : Cx := { X with s_0 := s, H_0 := H, env := cenv, outer := X.stack, ex := fp, fn := fun x => scope.names.lookup x == some .cell, pn := [], xe := xe }
section
variable {X : Cx} {pins : List (Addr × Obj)} {σ : St} {H : Hp} {s : Shared} {scope : Scope} {cenv : Env} {fp : List Addr} {xe : Value → Shared → Prop}
theorem blkE_ok (ok : (X.blk s H scope cenv fp).Ok) : (X.blkE s H scope cenv fp xe).Ok :=
  ⟨ok.mod, ok.kind, ok.glob, ok.blt, ok.above, ok.inj, ok.has, ok.cab, ok.hd, ok.frames, ok.stk, ok.exf, ok.bs, ok.bsz, ok.noex, ok.exfs, ok.funs, ok.frf⟩
theorem Inv.toE {s0 : Shared} {H0 : Hp} (I : Inv (X.blk s0 H0 scope cenv fp) pins σ H s) : Inv (X.blkE s0 H0 scope cenv fp xe) pins σ H s :=
  ⟨blkE_ok I.ok, I.os, I.bare, I.base, I.loc, I.cell, I.free, I.freeC, I.pin, I.hok, I.len⟩
theorem noteFrame_eq {x : Value} {e1 e2 : Env} (h : e1.frame = e2.frame) : noteFrame x e1 = noteFrame x e2 := by
  unfold noteFrame PySem.frameOf
  rw [h]
/-- an exception in the block's air goes on in ours -/
theorem takes_blk {W : WX} {use : Option (Value → Sem Unit)} {Q : Value → Shared → Prop} {D : Value} {fp : List Addr} {H3 : Hp} {s3 : Shared} {ce : Env} (hs : X.stack = X.env :: X.outer) (hf : X.env.frame = some X.env.locals) (tk : Takes X W) (I3 : Inv X pins σ H3 s3) (hce : ce.frame = X.env.frame) (hC : s3.heap.objs.size ≤ ce.locals)
    (hfp : ∀ b ∈ fp, (b ∈ X.ex ∨ X.s_0.heap.objs.size ≤ b) ∧ b ≠ X.env.locals ∧ (∀ x c, X.env.cells.lookup x = some c → c ≠ b) ∧ ∀ p ∈ X.pn ++ pins, p.1 ≠ b) :
    Takes (X.blkE s3 H3 scope ce fp (notedBy (model X.prog X.w) X.A ce fun e s' => compPostE (model X.prog X.w) X.A X.xe X.env.frame use Q D ce.locals (.error e) s')) (fun cls d _ H' => W cls d σ H') := by
  rintro u s' ⟨a, B, sI, pins', σb, H', cls, d, rfl, I, nb, up, sky, na, os, ag, w⟩
  have hfr : X.A.frames = some (X.env :: X.outer) := by rw [I3.ok.frames, hs]
  have nb : ∀ b o, sI.heap.get? b = some o → b ∉ frs X.stack → B.get? b = some o := nb
  have sky : Sky B X.stack a (Zc cls d) ce.locals s'.heap := sky
  rw [hs] at sky
  have hL : X.env.locals < s3.heap.objs.size := I3.lt
  have hCL : ce.locals ≠ X.env.locals := fun z => by rw [z] at hC; exact absurd (Nat.lt_of_lt_of_le hL hC) (Nat.lt_irrefl _)
  -- C's dict
  obtain ⟨m, hn, _⟩ := I.loc
  have hn : sI.heap.Ns ce.locals m := hn
  have hCF : ce.locals ∉ frs X.stack := fun hm => by
    obtain ⟨_, o, e, _⟩ := I3.stack.mem hm
    exact absurd (Nat.lt_of_lt_of_le (Heap.lt_size e) hC) (Nat.lt_irrefl _)
  obtain ⟨oC, esC, epC, hoC, restC⟩ := id hn
  have hBC : B.get? ce.locals = some oC := nb _ _ hoC hCF
  show wpAny _ _ (noteFrame (.ref a) ce) _ _ _
  rw [noteFrame_eq hce]
  -- what comes behind the note
  have fin : ∀ h1, HandSPX.HeldZ B (X.env :: X.outer) a (Zc cls d) X.env.locals h1 → s'.heap.UpToSlots h1 →
      compPostE (model X.prog X.w) X.A X.xe X.env.frame use Q D ce.locals (.error (.ref a)) { s' with heap := h1 } := fun h1 hh up1 => by
    obtain ⟨k1, k2, k3, k4⟩ := hh
    suffices hyp : ∃ m, h1.Ns ce.locals m ∧ ∀ h', Heap.SameBut ce.locals h1 h' → ∀ cenv : Env, cenv.frame = X.env.frame → wpAny (model X.prog X.w) X.A (passOn "comprehension.variables-let-go" (.ref a) cenv : Sem Value) (fun _ _ => False) X.xe { s' with heap := h' } by cases use <;> exact hyp
    refine ⟨m, ⟨oC, esC, epC, k1 _ _ hBC, restC⟩, fun h2 sb cenv hcf => ?_⟩
    have neC : ∀ b, B.get? b = none → b ≠ ce.locals := fun b e z => by rw [z, hBC] at e; cases e
    generalize hB' : PySem.W.hideAll B [ce.locals] = B'
    have toB : ∀ b o, B'.get? b = some o → b ≠ ce.locals ∧ B.get? b = some o := fun b o e => by
      rw [← hB'] at e
      refine ⟨fun z => ?_, PySem.W.of_hideAll _ e⟩
      rw [z, PySem.W.hideAll_none _ (List.mem_singleton.mpr rfl)] at e; cases e
    have ofB : ∀ b o, b ≠ ce.locals → B.get? b = some o → B'.get? b = some o := fun b o z e => by
      rw [← hB']
      exact PySem.W.hideAll_get _ e (by simpa using z)
    have noB : ∀ b, B.get? b = none → B'.get? b = none := fun b e => by
      cases q : B'.get? b with
      | none => rfl
      | some o => rw [(toB b o q).2] at e; cases e
    have sk : ∀ b o, b ≠ ce.locals → h1.get? b = some o → h2.get? b = some o := fun b o z e => (sb.2 b z).trans e
    have st2 : B'.StaysIn h2 := fun b o e => sk b o (toB b o e).1 (k1 b o (toB b o e).2)
    have ff2 : h2.FunFrames B' (X.env :: X.outer) := by
      have f1 : h1.FunFrames B' (X.env :: X.outer) := HandSPX.funFrames_sub noB k3
      have : ∀ {l : List Env}, h1.FunFrames B l → h1.FunFrames B' l → h2.FunFrames B' l := by
        intro l
        induction l with
        | nil => intro _ _; trivial
        | cons e r ih =>
          rintro ⟨_, ⟨L, o, a1, a2, a3, a4⟩, a5⟩ ⟨b0, ⟨L', o', b1, b2, b3, b4⟩, b5⟩
          rw [a1] at b1
          cases b1
          exact ⟨b0, ⟨L, o, a1, b2, sk _ _ (neC _ a2) a3, a4⟩, ih a5 b5⟩
      exact this k3 f1
    obtain ⟨oe, vs, T, oT, ts, he, hz, hd, h1', hnT, hTe, hT, hdT, h3⟩ := k4
    have tr2 : HandSPX.TracedZ h2 B' a (Zc cls d) (rawInt X.env.locals) := ⟨oe, vs, T, oT, ts, sk _ _ (neC _ k2) he, hz, hd, h1', noB _ hnT, hTe, sk _ _ (neC _ hnT) hT, hdT, h3⟩
    unfold PySem.passOn
    refine wpAny_bind (wpAny_field (sk _ _ (neC _ k2) he) hd h1' ?_)
    rw [if_neg (show ¬ ((Value.ref T == Value.none) = true) from by simp)]
    have last : wpAny (model X.prog X.w) X.A (setFlight (.ref a) cenv.frame) (fun _ s4 => wpAny (model X.prog X.w) X.A (throw (.ref a) : Sem Value) (fun _ _ => False) X.xe s4) X.xe { s' with heap := h2 } := by
      rw [hcf, hf]
      refine HandSPX.setFlight_anyZ (fl := rawInt X.env.locals) (fr := some X.env.locals) st2 ff2 tr2 fun h4 q1 q2 q3 q4 => wpAny_throw (tk _ _ ?_)
      -- the state without it, in our context
      generalize hG : PySem.W.hideAll sI.heap [ce.locals] = G
      have toG : ∀ b o, G.get? b = some o → b ≠ ce.locals ∧ sI.heap.get? b = some o := fun b o e => by
        rw [← hG] at e
        refine ⟨fun z => ?_, PySem.W.of_hideAll _ e⟩
        rw [z, PySem.W.hideAll_none _ (List.mem_singleton.mpr rfl)] at e; cases e
      have ofG : ∀ b o, b ≠ ce.locals → sI.heap.get? b = some o → G.get? b = some o := fun b o z e => by
        rw [← hG]
        exact PySem.W.hideAll_get _ e (by simpa using z)
      have old : ∀ b o, s3.heap.get? b = some o → b ≠ ce.locals := fun b o e z => by
        have q := Heap.lt_size e
        rw [z] at q
        exact absurd (Nat.lt_of_lt_of_le q hC) (Nat.lt_irrefl _)
      have bs : Un (frs X.stack) fp H3 H' s3.heap sI.heap := I.base
      have J : Inv X pins σ H' { sI with heap := G } := by
        refine I3.call' (s' := { sI with heap := G }) (ch := fp) I.os ⟨fun b o e n hb hx => ofG b o (old b o e) (bs.keep b o e n hb hx), fun b o e n hb hx => ?_, bs.free, fun b o e hx => ?_, bs.tups, bs.frzs, bs.tbls⟩ (fun b o q => ?_) I.bare hfp
        · obtain ⟨sl, q⟩ := bs.slot b o e n hb hx
          exact ⟨sl, ofG b _ (old b o e) q⟩
        · obtain ⟨o', q⟩ := bs.there b o e hx
          exact ⟨o', ofG b _ (old b o e) q⟩
        · exact (I.hok b o q).stay (fun c u hc r => ofG c u (fun z => by
            have zz : H' ce.locals = none := I.free
            rw [← z] at zz
            rcases hc with hc | hc
            · rw [hc, q] at zz; cases zz
            · rw [hc] at zz; cases zz) r) (fun _ r => r) fun _ _ r => r
      refine ⟨a, B', { sI with heap := G }, pins, σ, H', cls, d, rfl, J, fun b o e hb => ofB b o (toG b o e).1 (nb b o (toG b o e).2 hb), fun b o e hnf => ?_, .inr (.inr ⟨?_, noB _ k2, ?_, ?_⟩), na, os, ag, w⟩
      · obtain ⟨e1, e2⟩ := toG b o e
        obtain ⟨sl, e3⟩ := up b o e2 hnf
        obtain ⟨sl2, e4⟩ := up1 b _ e3 hnf
        obtain ⟨sl3, e5⟩ := q4 b _ (sk _ _ e1 e4) hnf
        exact ⟨sl3, e5⟩
      · exact q1
      · rw [hs]; exact q2
      · exact q3
    first
      | exact wpAny_bind (wpAny_pure (wpAny_bind last))
      | exact wpAny_bind last
  rcases sky with ⟨hB, hn', hl, oe, vs, he, hz, hd, h1⟩ | ⟨f1, f2, f3, f4⟩ | ⟨f1, f2, f3, f4⟩
  · exact HandSPX.look_newZ Zc.steady hfr hl hf he hB hn' hd h1 hz fin
  · exact HandSPX.looks_anyZ Zc.steady hfr hf f1 f2 f3 f4 (by simp [rawInt]) fin
  · exact HandSPX.looks_anyZ Zc.steady hfr hf f1 f2 f3 f4 (by
      have : ¬ (((ce.locals : Nat) : Int) = ((X.env.locals : Nat) : Int)) := fun z => hCL (Int.ofNat_inj.mp z)
      simpa [rawInt] using this) fin
end
end L2

set_option Elab.async false
set_option linter.all false
set_option maxRecDepth 100000
set_option maxHeartbeats 2000000
/-! A list comprehension that lets an exception out: the rule (its proof follows the library's lc_core). -/
noncomputable section
namespace L2
open PySem PySem.Spec PyProof.Rows
section
variable {X : Cx}
def tLcE (W : WX) (wi : TI) (g : WX → TG) (tt : WX → TT) (te : WX → TE) (vs : List Nat) : TE := fun σ H Q => tLc wi (g fun cls d _ H' => W cls d σ H') (tt fun cls d _ H' => W cls d σ H') (te fun cls d _ H' => W cls d σ H') vs σ H Q
theorem lc_coreE {pins : List (Addr × Obj)} {s : Shared} {σ : St} {H : Hp} {Q : VK} {elt tg iter : Expr} {ifs : List Expr} {scope : Scope} {own : List (Str × Nat)} {pos pos' : Pos} {wi : TI} {g : WX → TG} {tt : WX → TT} {te : WX → TE} {W : WX} {use : Option (Value → Sem Unit)} {Qf : Value → Shared → Prop} (hst : X.stack = X.env :: X.outer) (hf : X.env.frame = some X.env.locals) (tk : Takes X W) (hc : X.calm = true) (hN : X.N.Nodup) (I : Inv X pins σ H s) (hi : PI X tg iter wi) (ok : BlkOk X.N X.env.scope scope own)
    (hg : ∀ (W : WX) (s : Shared) (H : Hp) (C : Addr) (cl : List (Str × Addr)) (fp : List Addr) (xe : Value → Shared → Prop), PG (X.blkE s H scope (compEnvC scope cl C X.env) fp xe) tg (g W)) (ht : ∀ (W : WX) (s : Shared) (H : Hp) (C : Addr) (cl : List (Str × Addr)) (fp : List Addr) (xe : Value → Shared → Prop), PTs (X.blkE s H scope (compEnvC scope cl C X.env) fp xe) ifs (tt W))
    (he : ∀ (W : WX) (s : Shared) (H : Hp) (C : Addr) (cl : List (Str × Addr)) (fp : List Addr) (xe : Value → Shared → Prop), Takes (X.blkE s H scope (compEnvC scope cl C X.env) fp xe) W → PE (X.blkE s H scope (compEnvC scope cl C X.env) fp xe) elt (te W)) (hs : ∀ x, foldedSetIterable iter X.env x = pure x)
    (h : tLcE W wi g tt te (own.map (·.2)) σ H Q)
    (hRR : ∀ D C s' m H', Inv X pins σ H' s' → Q (.ref D) H' → s'.heap.Ns C m → FpOk X pins H' C → compPostE (model X.prog X.w) X.A X.xe X.env.frame use Qf (.ref D) C (.ok .next) s') :
    wpAny (model X.prog X.w) X.A (comprehension (.ListComp elt [⟨tg, iter, ifs, 0⟩] scope pos) scope X.env pos' (newList []) false (eval iter X.env) use) Qf X.xe s := by
  unfold tLcE at h
  generalize hW' : (fun (cls : Value) (d : Option Addr) (_ : St) (H' : Hp) => W cls d σ H' : WX) = W' at h
  have hg := hg W'
  have ht := ht W'
  have he := he W'
  have hfree : ∀ y ∈ scope.names, y.2 = .free → ∃ c, X.env.cells.lookup y.1 = some c := fun y hy e => by
    rcases ok.free y hy e with k | k
    · exact I.ok.has _ (.inl k)
    · exact I.ok.has _ (.inr k)
  refine wpAny_comprehension_freeE (use := use) rfl hs (closure_ok hfree) ok.kind (fun y hy e => by rw [ok.uniq y hy, e])
    (thn (hi.run pins s σ H _ I h) fun xv s1 hx => thn hx fun itv s2 h2 => ?_)
  obtain ⟨it, fp, tn, J, H2, e, I2, T, st2, f2, q⟩ := h2
  subst e
  refine wpAny_newObj_type (newEnv_comp ⟨rfl, ?_⟩) (by show 0 ≤ sizeLine; decide)
  generalize hD : s2.heap.objs.size = D
  have hDn : H2 D = none := I2.hok.fresh (Nat.le_of_eq hD)
  obtain ⟨Wm, ⟨m0, w0⟩, turn⟩ := q D hDn
  -- the new list
  generalize hs3 : ({ s2 with heap := s2.heap.push { cls := .type "list", data := .seq ([] : List Value).toArray } } : Shared) = s3
  have I3 : Inv X pins σ (upd H2 D (.lst [])) s3 := by
    rw [← hs3]
    refine I2.laid (t' := s2.toks) (fun b o e => Heap.get?_push_of_some _ e) (Nat.le_of_eq hD) ⟨Nat.zero_le _, [], 0, .nil, ?_⟩
    rw [← hD]
    exact Heap.get?_push_size _ rfl
  have h3 : s3.heap = s2.heap.push { cls := .type "list", data := .seq ([] : List Value).toArray } := by rw [← hs3]
  have sz : ∀ b ∈ fp, b < s2.heap.objs.size := fun b hb => by
    obtain ⟨o, e, _⟩ := T.obj _ _ st2 b hb
    exact Heap.lt_size e
  have f3 : ∀ b ∈ fp, FpOk X pins (upd H2 D (.lst [])) b ∧ b < s3.heap.objs.size := fun b hb => by
    have hlt := sz b hb
    refine ⟨⟨?_, (f2 b hb).2⟩, by rw [h3, Heap.size_push]; exact Nat.lt_succ_of_lt hlt⟩
    rw [upd_ne (by rw [← hD]; exact Nat.ne_of_lt hlt)]
    exact (f2 b hb).1
  have st3 : tn 0 s3.heap := T.keep _ _ _ st2 fun b _ o e => by rw [h3]; exact Heap.get?_push_of_some _ e
  have I4 := block_start I3 ok hN f3
  have pg := hg s3 (upd H2 D (.lst [])) s3.heap.objs.size (cellsFrom (s3.heap.objs.size + 1) scope.names (cloFrom X.env.cells scope.names [])) fp
  have pt := ht s3 (upd H2 D (.lst [])) s3.heap.objs.size (cellsFrom (s3.heap.objs.size + 1) scope.names (cloFrom X.env.cells scope.names [])) fp
  have pe := he s3 (upd H2 D (.lst [])) s3.heap.objs.size (cellsFrom (s3.heap.objs.size + 1) scope.names (cloFrom X.env.cells scope.names [])) fp
  show codeAny _ _ (.compStart (.ListComp elt [⟨tg, iter, ifs, 0⟩] scope pos) 0 (.ref it) (.ref D) (compEnvC scope (cellsFrom (s3.heap.objs.size + 1) scope.names (cloFrom X.env.cells scope.names [])) s3.heap.objs.size X.env)) (compPostE (model X.prog X.w) X.A X.xe X.env.frame use Qf (.ref D) s3.heap.objs.size) { s3 with heap := pushCells (s3.heap.push { cls := .type "dict", data := .dict #[] }) scope.names }
  have nfp : ∀ b ∈ fp, (upd H2 D (.lst [])) b = none := fun b hb => (f3 b hb).1.1
  generalize hce : compEnvC scope (cellsFrom (s3.heap.objs.size + 1) scope.names (cloFrom X.env.cells scope.names [])) s3.heap.objs.size X.env = ce at I4 pg pt pe ⊢
  have cL : ce.locals = s3.heap.objs.size := by subst hce; rfl
  have cF : ce.frame = X.env.frame := by subst hce; rfl
  generalize hH3 : upd H2 D (.lst []) = H3 at I3 I4 pg pt pe w0 nfp f3
  generalize hs4 : ({ s3 with heap := pushCells (s3.heap.push { cls := .type "dict", data := .dict #[] }) scope.names } : Shared) = s4 at I4 ⊢
  have st4 : tn 0 s4.heap := T.keep _ _ _ st3 fun b _ o e => by rw [← hs4]; exact pushCells_keeps _ _ _ _ (Heap.get?_push_of_some _ e)
  have chp : ∀ b ∈ fp, (b ∈ X.ex ∨ X.s_0.heap.objs.size ≤ b) ∧ b ≠ X.env.locals ∧ (∀ x c, X.env.cells.lookup x = some c → c ≠ b) ∧ ∀ p ∈ X.pn ++ pins, p.1 ≠ b := fun b hb => ⟨(f3 b hb).1.2.2.2.1, (f3 b hb).1.2.1, (f3 b hb).1.2.2.2.2.1, (f3 b hb).1.2.2.2.2.2⟩
  have tkb := takes_blk (scope := scope) (use := use) (Q := Qf) (D := .ref D) (ce := ce) hst hf tk I3 cF (Nat.le_of_eq cL.symm) chp
  rw [hW'] at tkb
  have pg := pg (notedBy (model X.prog X.w) X.A ce fun e s' => compPostE (model X.prog X.w) X.A X.xe X.env.frame use Qf (.ref D) ce.locals (.error e) s')
  have pt := pt (notedBy (model X.prog X.w) X.A ce fun e s' => compPostE (model X.prog X.w) X.A X.xe X.env.frame use Qf (.ref D) ce.locals (.error e) s')
  have pe := pe _ tkb
  replace I4 := I4.toE (xe := notedBy (model X.prog X.w) X.A ce fun e s' => compPostE (model X.prog X.w) X.A X.xe X.env.frame use Qf (.ref D) ce.locals (.error e) s')
  rw [← cL]
  generalize hxe : (notedBy (model X.prog X.w) X.A ce fun e s' => compPostE (model X.prog X.w) X.A X.xe X.env.frame use Qf (.ref D) ce.locals (.error e) s') = xe at pg pt pe I4
  have stat : ∀ {σ' : St} {H' : Hp} {s' : Shared}, Inv (X.blkE s3 H3 scope ce fp xe) [] σ' H' s' → (∀ b ∈ fp, H' b = none) → ∀ b ∈ fp, FpOk (X.blkE s3 H3 scope ce fp xe) [] H' b := fun {σ' H' s'} I' hn b hb =>
    ⟨hn b hb, (I'.ok.exf b hb).1, I'.ok.exfs b hb, .inl hb, fun x c e => (I'.ok.exf b hb).2 x c e, fun p hp => absurd (show p ∈ ([] : List (Addr × Obj)) ++ [] from hp) (by simp)⟩
  have loop : codeAny (model X.prog X.w) X.A (.compLoop (.ListComp elt [⟨tg, iter, ifs, 0⟩] scope pos) 0 (.ref it) (.ref D) ce) (compPostE (model X.prog X.w) X.A X.xe X.env.frame use Qf (.ref D) ce.locals) s4 := by
    refine compLoop_any (fun n s' => ∃ i H', Inv (X.blkE s3 H3 scope ce fp xe) [] (wipe σ (own.map (·.2))) H' s' ∧ tn i s'.heap ∧ (∀ b ∈ fp, H' b = none) ∧ Wm i n H') ?_ m0 ⟨0, H3, I4, st4, nfp, w0⟩
    rintro n s5 ⟨i, H5, I5, st5, n5, w5⟩
    rw [hxe]
    rcases turn i n H5 w5 with ⟨stop, qq⟩ | ⟨go, Nx, hNx, step⟩
    · have td := T.done (X.blkE s3 H3 scope ce fp xe) rfl rfl rfl hc i [] s5 _ H5 (fun _ _ => False) I5 (stat I5 n5) st5 stop
      refine thnF td fun r s6 ⟨hr, I6⟩ => ?_
      subst hr
      -- back in the def's context
      have I7 : Inv X pins σ H5 s6 := I3.call' (ch := fp) I6.os I6.base I6.hok I6.bare chp
      have nC : H5 ce.locals = none := I6.free
      obtain ⟨m, hn, _⟩ := I6.loc
      have hn : s6.heap.Ns ce.locals m := hn
      exact hRR D ce.locals s6 m H5 I7 qq hn (I3.fpOk (Nat.le_of_eq cL.symm) nC)
    · have ti := T.item (X.blkE s3 H3 scope ce fp xe) rfl rfl rfl hc i [] s5 _ H5 (fun _ _ => False) I5 (stat I5 n5) st5 go
      refine thnF ti fun r s6 ⟨u, hr, h6⟩ => ?_
      subst hr
      refine thnF h6 fun _ s7 ⟨x, H7, I7, r7, y7, st7, n7⟩ => ?_
      have I7' := I7.pinned (stat I7 n7) (T.obj _ _ st7)
      refine thn (pg.run _ s7 _ H7 x u _ I7' r7 (step x H7 y7)) fun _ s8 ⟨σ8, H8, I8, hw8, q8⟩ => ?_
      refine thn (pt.run _ s8 σ8 H8 _ I8 q8) fun b s9 ⟨H9, I9, q9⟩ => ?_
      -- the turn's end
      have fin : ∀ {s' : Shared} {H' : Hp}, Inv (X.blkE s3 H3 scope ce fp xe) ([] ++ pinsAt fp s7.heap) σ8 H' s' → Nx H' → ∃ m, m < n ∧ ∃ i H', Inv (X.blkE s3 H3 scope ce fp xe) [] (wipe σ (own.map (·.2))) H' s' ∧ tn i s'.heap ∧ (∀ b ∈ fp, H' b = none) ∧ Wm i m H' := fun {s' H'} I' nx => by
        obtain ⟨m', hm, w'⟩ := hNx H' nx
        have pin' : ∀ b ∈ fp, ∀ o, s7.heap.get? b = some o → s'.heap.get? b = some o ∧ H' b = none := fun b hb o e =>
          let z := I'.pin (b, o) (List.mem_append_right _ (List.mem_append_right _ (mem_pinsAt hb e)))
          ⟨z.1, z.2.1⟩
        have hl : (wipe σ (own.map (·.2))).length = σ8.length := by rw [← hw8, wipe_length]
        refine ⟨m', hm, i + 1, H', (I'.unpinned (pins := [])).weak hl (fun j v e => ?_), T.keep _ _ _ st7 fun b hb o e => (pin' b hb o e).1, fun b hb => ?_, w'⟩
        · rw [← hw8] at e
          exact (wipe_some e).1
        · obtain ⟨o, e, _⟩ := T.obj _ _ st7 b hb
          exact (pin' b hb o e).2
      cases b with
      | false =>
        simp only [Bool.false_eq_true, if_false] at q9 ⊢
        exact fin I9 q9
      | true =>
        simp only [if_true] at q9 ⊢
        refine thn (pe.run _ s9 σ8 H9 _ I9 q9) fun z s10 ⟨yv, H10, I10, r10, acc, hD10, hz10, nx⟩ => ?_
        exact app_ok (X := X.blkE s3 H3 scope ce fp xe) I10 hD10 hz10 r10 fun s11 I11 => fin I11 nx
  exact codeAny_compStart_list loop (T.self X.A 0 _ _ _ st4 loop)
/-- as a value -/
theorem pe_lcE {elt tg iter : Expr} {ifs : List Expr} {scope : Scope} {own : List (Str × Nat)} {pos : Pos} {wi : TI} {g : WX → TG} {tt : WX → TT} {te : WX → TE} {W : WX} (hst : X.stack = X.env :: X.outer) (hf : X.env.frame = some X.env.locals) (tk : Takes X W) (hc : X.calm = true) (hN : X.N.Nodup) (hi : PI X tg iter wi) (ok : BlkOk X.N X.env.scope scope own)
    (hg : ∀ (W : WX) (s : Shared) (H : Hp) (C : Addr) (cl : List (Str × Addr)) (fp : List Addr) (xe : Value → Shared → Prop), PG (X.blkE s H scope (compEnvC scope cl C X.env) fp xe) tg (g W)) (ht : ∀ (W : WX) (s : Shared) (H : Hp) (C : Addr) (cl : List (Str × Addr)) (fp : List Addr) (xe : Value → Shared → Prop), PTs (X.blkE s H scope (compEnvC scope cl C X.env) fp xe) ifs (tt W))
    (he : ∀ (W : WX) (s : Shared) (H : Hp) (C : Addr) (cl : List (Str × Addr)) (fp : List Addr) (xe : Value → Shared → Prop), Takes (X.blkE s H scope (compEnvC scope cl C X.env) fp xe) W → PE (X.blkE s H scope (compEnvC scope cl C X.env) fp xe) elt (te W)) (hs : ∀ x, foldedSetIterable iter X.env x = pure x := by intro _; rfl) :
    PE X (.ListComp elt [⟨tg, iter, ifs, 0⟩] scope pos) (tLcE W wi g tt te (own.map (·.2))) := by
  refine ⟨fun pins s σ H Q I h => ?_⟩
  rw [eval_ListComp]
  refine lc_coreE hst hf tk hc hN I hi ok hg ht he hs h fun D C s' m H' I' q hn f => ⟨m, hn, fun h'' sb => ?_⟩
  obtain ⟨f0, f1, f2, f3, f4, f5⟩ := f
  exact ⟨.ref D, H', I'.turned (t' := s'.toks) (fun b o hb e => (sb.2 b hb).trans e) f0 f1 f3 f4 f5, rfl, q⟩
/-- name = [..] on one line, the name a local -/
theorem ps_setLcE {i : Nat} {y : Str} {py : Pos} {elt tg iter : Expr} {ifs : List Expr} {scope : Scope} {own : List (Str × Nat)} {pos spos : Pos} {wi : TI} {g : WX → TG} {tt : WX → TT} {te : WX → TE} {W : WX} (hst : X.stack = X.env :: X.outer) (hf : X.env.frame = some X.env.locals) (tk : Takes X W) (hc : X.calm = true) (hN : X.N.Nodup) (hy : X.N[i]? = some y) (hyl : X.env.scope.names.lookup y = some .local)
    (hsw : swapsWith (.ListComp elt [⟨tg, iter, ifs, 0⟩] scope pos) (some (.Name y py)) spos.line X.env = pure true) (hi : PI X tg iter wi) (ok : BlkOk X.N X.env.scope scope own)
    (hg : ∀ (W : WX) (s : Shared) (H : Hp) (C : Addr) (cl : List (Str × Addr)) (fp : List Addr) (xe : Value → Shared → Prop), PG (X.blkE s H scope (compEnvC scope cl C X.env) fp xe) tg (g W)) (ht : ∀ (W : WX) (s : Shared) (H : Hp) (C : Addr) (cl : List (Str × Addr)) (fp : List Addr) (xe : Value → Shared → Prop), PTs (X.blkE s H scope (compEnvC scope cl C X.env) fp xe) ifs (tt W))
    (he : ∀ (W : WX) (s : Shared) (H : Hp) (C : Addr) (cl : List (Str × Addr)) (fp : List Addr) (xe : Value → Shared → Prop), Takes (X.blkE s H scope (compEnvC scope cl C X.env) fp xe) W → PE (X.blkE s H scope (compEnvC scope cl C X.env) fp xe) elt (te W)) (hs : ∀ x, foldedSetIterable iter X.env x = pure x := by intro _; rfl) :
    PS X (.Assign [.Name y py] (.ListComp elt [⟨tg, iter, ifs, 0⟩] scope pos) spos) (tAsg (tLcE W wi g tt te (own.map (·.2))) (gName i)) := by
  refine ⟨fun pins s σ H D I h => ?_⟩
  rw [exec_Assign_Name_used _ _ _ _ hsw]
  refine wpAny_bind (wpAny_standAt (wpAny_bind ?_))
  show wpAny _ X.A (do let _ ← comprehension (.ListComp elt [⟨tg, iter, ifs, 0⟩] scope pos) scope X.env (firstIterPos [⟨tg, iter, ifs, 0⟩] pos) (newList []) false (eval iter X.env) (some (assign (.Name y py) X.env))) _ _ s
  have h : tLcE W wi g tt te (own.map (·.2)) σ H (fun x H1 => gName i x σ H1 D.nx) := h
  refine wpAny_bind (thn (lc_coreE (Qf := fun _ s' => SP X pins D .next s') hst hf tk hc hN I hi ok hg ht he hs h fun L C s' m H' I' q hn f => ?_) fun _ s' hq => wpAny_pure (wpAny_pure hq))
  show wpAny _ _ (assign (.Name y py) X.env (.ref L)) _ _ _
  refine wpAny_assign_Name (store_ok2 (v := V.ref L) I' hN hy (.inl hyl) rfl (fun s2 I2 ⟨a, sb, ha⟩ => ?_) (.inr hyl))
  obtain ⟨f0, f1, f2, f3, f4, f5⟩ := f
  have haC : C ≠ a := by
    rcases ha with z | z
    · rw [z]; exact f1
    · exact fun e => f4 y a z e.symm
  refine ⟨m, hn.sameBut sb haC, fun h3 sb3 => ?_⟩
  exact ⟨_, H', I2.turned (t' := s2.toks) (fun b o hb e => (sb3.2 b hb).trans e) f0 f1 f3 f4 f5, q⟩
end
end L2

set_option Elab.async false
set_option linter.all false
set_option maxRecDepth 100000
set_option maxHeartbeats 2000000
/-! The data layer: comprehensions that let an error out. -/
noncomputable section
namespace DL
open PySem L2
/-- a comprehension's turns from the wiped slots; the value may be an error -/
def lcLE (G : Gf) (t : Tf) (f : Ef) (r : Rho) : List PyData → List PyData → M (List PyData)
  | [], acc => ok acc
  | x :: xs, acc => match G x r with
    | none => none
    | some r1 => match t r1 with
      | some (.ok true) => (match f r1 with
        | some (.ok d) => if acc.length < lim then lcLE G t f r xs (acc ++ [d]) else none
        | some (.error e) => some (.error e)
        | none => none)
      | some (.ok false) => lcLE G t f r xs acc
      | _ => none
def nLcE (src : Af) (G : Gf) (t : Tf) (f : Ef) (vs : List Nat) : Af := fun r => bnd (src r) fun xs => lcLE G t f (wipeR r vs) xs []
def Cc.thr (c : Cc) (W : WX) : Cc := { c with W := W }
section
variable {X : Cx} {c : Cc} {e a b tg : Expr} {f g : Ef} {pos : Pos} {W : WX}
theorem rel_thr {r : Rho} {s : L2.St} {H F : Hp} (R : Rel c r s H F) : Rel (c.thr W) r s H F := ⟨⟨R.fr.sub, R.fr.old, R.fr.kept⟩, R.len, R.cell, R.apart⟩
theorem te_lcE {src : Af} {G : Gf} {tf : Tf} {vs ts : List Nat} {s : L2.St} {H : Hp} {Q : VK} (hts : ∀ j ∈ ts, j ∈ vs) :
    teO c (nLcE src G tf f vs) s H Q → tLcE c.W (tiD c src) (fun W => tgD (c.thr W) ts G) (fun W => ttD (c.thr W) tf) (fun W => teD (c.thr W) f) vs s H Q := fun ⟨r, F, R, h⟩ => by
  refine ⟨r, F, R, Ans.imp (Ans.bnd h) fun xs H1 F1 R1 m1 k1 J w D nD => ?_⟩
  cases eR : lcLE G tf f (wipeR r vs) xs [] with
  | none => rw [eR] at k1; exact k1.elim
  | some res =>
  rw [eR] at k1
  have n0 : c.H0 D = none := R1.fr.new nD
  refine ⟨fun i m H => ∃ F acc accV, Rel c r s H F ∧ More H1 F1 H F ∧ H D = some (.lst accV) ∧ F D = none ∧ DqAll c.K c.ax F accV acc ∧ m = xs.length - i ∧ i ≤ xs.length ∧ lcLE G tf f (wipeR r vs) (xs.drop i) acc = some res, ⟨xs.length, F1, [], [], ?_, ?_, upd_same, R1.fr.newF nD, .nil, by omega, Nat.zero_le _, eR⟩, ?_⟩
  · exact R1.more (More.loose R1.fr.sub nD)
  · exact More.loose R1.fr.sub nD
  rintro i m H ⟨F, acc, accV, R, mm, hD, fD, dA, rfl, hi, eq⟩
  by_cases hl : i < xs.length
  · refine .inr ⟨w.go i H (mm.f.trans mm.sub) hl, fun H => ∃ F acc accV, Rel c r s H F ∧ More H1 F1 H F ∧ H D = some (.lst accV) ∧ F D = none ∧ DqAll c.K c.ax F accV acc ∧ lcLE G tf f (wipeR r vs) (xs.drop (i + 1)) acc = some res, ?_, ?_⟩
    · rintro H' ⟨F', acc', accV', R', mm', hD', fD', dA', eq'⟩
      exact ⟨xs.length - (i + 1), by omega, F', acc', accV', R', mm', hD', fD', dA', rfl, hl, eq'⟩
    · intro x H' y
      obtain ⟨rfl, d, ed, hd⟩ := w.yld i H x H' (mm.f.trans mm.sub) hl y
      have ex : xs.drop i = d :: xs.drop (i + 1) := by
        obtain ⟨z, e⟩ := List.getElem?_eq_some_iff.mp ed
        rw [List.drop_eq_getElem_cons z, e]
      rw [ex] at eq
      unfold lcLE at eq
      cases eG : G d (wipeR r vs) with
      | none => rw [eG] at eq; cases eq
      | some r1 =>
        rw [eG] at eq
        dsimp only at eq
        refine ⟨wipeR r vs, F, d, rel_thr (R.wipe vs), dp_same mm.f hd, r1, eG, fun s2 R2 b2 => ⟨wipe_but b2 hts, r1, F, R2, ?_⟩⟩
        cases et : tf r1 with
        | none => rw [et] at eq; cases eq
        | some z =>
        rw [et] at eq
        cases z with
        | error e => cases eq
        | ok k =>
        intro H3 F3 R3 m3
        cases k with
        | false =>
          rw [if_neg (by decide)]
          exact ⟨F3, acc, accV, R.more m3, mm.trans m3, m3.h _ _ hD, m3.un _ _ hD fD, dpAll_same m3.f dA, eq⟩
        | true =>
          rw [if_pos rfl]
          dsimp only at eq
          cases ef : f r1 with
          | none => rw [ef] at eq; cases eq
          | some z =>
          rw [ef] at eq
          cases z with
          | error e =>
            dsimp only at eq
            cases eq
            refine ⟨r1, F3, R3, ?_⟩
            rw [ef]
            intro H4 F4 R4 m4
            have m34 := m3.trans m4
            exact k1 H4 F4 (R.more m34) (mm.trans m34)
          | ok d2 =>
          dsimp only at eq
          split at eq
          · rename_i hz
            refine ⟨r1, F3, R3, ?_⟩
            rw [ef]
            intro H4 F4 R4 m4 v hv
            have m34 := m3.trans m4
            have hD4 := m34.h _ _ hD
            have fD4 := m34.un _ _ hD fD
            have dA4 := dpAll_same m34.f dA
            have mm4 := mm.trans m34
            refine ⟨accV, hD4, lim_lt (by rw [dpAll_len dA]; exact hz), F4, acc ++ [d2], accV ++ [v], (R.more m34).other fD4 n0 (R1.notmine nD), ⟨mm4.f, fun b o q => ?_, fun b o q => ?_, mm4.un⟩, upd_same, fD4, dpAll_app dA4 (dpAll_one hv), eq⟩
            · rw [upd_ne (ne_of_none q nD)]; exact mm4.h b o q
            · rw [upd_ne (ne_of_none q fD4)]; exact mm4.sub b o q
          · cases eq
  · have ei : i = xs.length := by omega
    subst ei
    rw [List.drop_length] at eq
    unfold lcLE at eq
    cases eq
    exact .inl ⟨w.stop H (mm.f.trans mm.sub), k1 H F R mm D accV hD fD (m1.h.free nD) dA⟩
theorem do_lcE {elt iter : Expr} {ifs : List Expr} {scope : Scope} {own : List (Str × Nat)} {src : Af} {ts : List Nat} {G : Gf} {tf : Tf} (hst : X.stack = X.env :: X.outer) (hf : X.env.frame = some X.env.locals) (tk : Takes X c.W) (hc : X.calm = true) (hN : X.N.Nodup) (hi : PI X tg iter (tiD c src)) (okb : BlkOk X.N X.env.scope scope own)
    (hg : ∀ (W : WX) (s : Shared) (H : Hp) (C : Addr) (cl : List (Str × Addr)) (fp : List Addr) (xe : Value → Shared → Prop), PG (X.blkE s H scope (compEnvC scope cl C X.env) fp xe) tg (tgD (c.thr W) ts G))
    (ht : ∀ (W : WX) (s : Shared) (H : Hp) (C : Addr) (cl : List (Str × Addr)) (fp : List Addr) (xe : Value → Shared → Prop), PTs (X.blkE s H scope (compEnvC scope cl C X.env) fp xe) ifs (ttD (c.thr W) tf))
    (he : ∀ (W : WX) (s : Shared) (H : Hp) (C : Addr) (cl : List (Str × Addr)) (fp : List Addr) (xe : Value → Shared → Prop), Takes (X.blkE s H scope (compEnvC scope cl C X.env) fp xe) W → PE (X.blkE s H scope (compEnvC scope cl C X.env) fp xe) elt (teD (c.thr W) f))
    (hts : ∀ j ∈ ts, j ∈ own.map (·.2) := by decide) (hs : ∀ x, foldedSetIterable iter X.env x = pure x := by intro _; rfl) :
    PE X (.ListComp elt [⟨tg, iter, ifs, 0⟩] scope pos) (teO c (nLcE src G tf f (own.map (·.2)))) :=
  PE.weak (pe_lcE hst hf tk hc hN hi okb hg ht he hs) fun _ _ _ => te_lcE hts
theorem ds_setLcE {elt iter : Expr} {ifs : List Expr} {scope : Scope} {own : List (Str × Nat)} {src : Af} {ts : List Nat} {G : Gf} {tf : Tf} {i : Nat} {y : Str} {py spos : Pos} (hst : X.stack = X.env :: X.outer) (hf : X.env.frame = some X.env.locals) (tk : Takes X c.W) (hc : X.calm = true) (hN : X.N.Nodup) (hy : X.N[i]? = some y) (hyl : X.env.scope.names.lookup y = some .local)
    (hsw : swapsWith (.ListComp elt [⟨tg, iter, ifs, 0⟩] scope pos) (some (.Name y py)) spos.line X.env = pure true) (hi : PI X tg iter (tiD c src)) (okb : BlkOk X.N X.env.scope scope own)
    (hg : ∀ (W : WX) (s : Shared) (H : Hp) (C : Addr) (cl : List (Str × Addr)) (fp : List Addr) (xe : Value → Shared → Prop), PG (X.blkE s H scope (compEnvC scope cl C X.env) fp xe) tg (tgD (c.thr W) ts G))
    (ht : ∀ (W : WX) (s : Shared) (H : Hp) (C : Addr) (cl : List (Str × Addr)) (fp : List Addr) (xe : Value → Shared → Prop), PTs (X.blkE s H scope (compEnvC scope cl C X.env) fp xe) ifs (ttD (c.thr W) tf))
    (he : ∀ (W : WX) (s : Shared) (H : Hp) (C : Addr) (cl : List (Str × Addr)) (fp : List Addr) (xe : Value → Shared → Prop), Takes (X.blkE s H scope (compEnvC scope cl C X.env) fp xe) W → PE (X.blkE s H scope (compEnvC scope cl C X.env) fp xe) elt (teD (c.thr W) f))
    (hts : ∀ j ∈ ts, j ∈ own.map (·.2) := by decide) (hs : ∀ x, foldedSetIterable iter X.env x = pure x := by intro _; rfl) :
    PS X (.Assign [.Name y py] (.ListComp elt [⟨tg, iter, ifs, 0⟩] scope pos) spos) (tsD c (sSet i (eNew (nLcE src G tf f (own.map (·.2)))))) := by
  refine PS.weak (ps_setLcE hst hf tk hc hN hy hyl hsw hi okb hg ht he hs) fun D s H ⟨r, F, R, h⟩ => te_lcE hts (te_new ⟨r, F, R, (ans_of h).imp fun d H1 F1 R1 m1 k1 v hv => ?_⟩)
  unfold gN at k1
  split at k1
  · rename_i z
    exact k1.at (R1.set z hv)
  · exact k1.elim
end
end DL

set_option Elab.async false
set_option linter.all false
set_option maxRecDepth 100000
set_option maxHeartbeats 2000000
/-! The data layer: texts. -/
noncomputable section
namespace DL
open PySem L2
def strsOf : List PyData → Option (List Str)
  | [] => some []
  | .str i :: r => (strsOf r).map (i :: ·)
  | _ => none
theorem strsOf_eq : ∀ {ds : List PyData} {ns : List Str}, strsOf ds = some ns → ds = ns.map PyData.str
  | [], ns, h => by cases h; rfl
  | .str i :: q, ns, h => by
    rw [strsOf] at h
    cases z : strsOf q with
    | none => rw [z] at h; cases h
    | some ms =>
      rw [z] at h
      cases h
      rw [strsOf_eq z]; rfl
  | .none :: q, ns, h => by simp [strsOf] at h
  | .bool _ :: q, ns, h => by simp [strsOf] at h
  | .int _ :: q, ns, h => by simp [strsOf] at h
  | .list _ :: q, ns, h => by simp [strsOf] at h
  | .tuple _ :: q, ns, h => by simp [strsOf] at h
  | .dict _ :: q, ns, h => by simp [strsOf] at h
@[simp] theorem strsOf_map : ∀ ns : List Str, strsOf (ns.map PyData.str) = some ns
  | [] => rfl
  | n :: r => by rw [List.map_cons, strsOf, strsOf_map r]; rfl
section
variable {K : PySem.W.Frag} {ax : XN → Addr} {H F : Hp}
theorem dpAll_strs {vs : List V} : ∀ {ns : List Str}, DqAll K ax H vs (ns.map PyData.str) → vs = ns.map V.str
  | [], h => by cases h; rfl
  | n :: ns, h => by
    cases h with
    | cons h1 h2 => cases h1; rw [dpAll_strs h2]; rfl
theorem dpAll_of_strs : ∀ {ns : List Str}, DqAll K ax H (ns.map V.str) (ns.map PyData.str)
  | [] => .nil
  | n :: ns => .cons (.str n) dpAll_of_strs
end
/-- a.join(list) -/
def oJoin (a : Str) : PyData → M PyData
  | .list xs => match strsOf xs with
    | some ys => if (ys.map (·.length)).sum + ys.length * a.length ≤ lim then ok (.str (Txt.join a ys)) else none
    | none => none
  | _ => none
def eJoin (f g : Ef) : Ef := fun r => bnd (f r) fun x => match x with
  | .str a => bnd (g r) (oJoin a)
  | _ => none
def oSplit (a : Str) : PyData → M PyData
  | .str b => if (b.length == 0) = false ∧ a.length + 2 ≤ lim then ok (.list ((Txt.split a b).map .str)) else none
  | _ => none
def eSplit (f g : Ef) : Ef := fun r => bnd (f r) fun x => match x with
  | .str a => bnd (g r) (oSplit a)
  | _ => none
section
variable {X : Cx} {c : Cc} {o e : Expr} {f g : Ef} {pos apos : Pos}
theorem de_join (ho : PE X o (teB c f)) (he : PE X e (teB c g)) (hK : X.K = c.K := by rfl) (hs : starEach [e] X.env = [(false, eval e X.env)] := by rfl) (hbase : attributeBase o "join" X.env (eval o X.env) = eval o X.env := by rfl) (hline : (apos.endLine == pos.line) = true := by rfl) :
    PE X (.Call (.Attribute o "join" apos) [e] [] pos) (teD c (eJoin f g)) := by
  refine PE.weak (pe_join ho he hs hbase hline) fun s H Q ⟨r, F, R, h⟩ => ⟨r, F, R, (Ans.bnd h).imp fun x H1 F1 R1 m1 k1 v hv => ?_⟩
  split at k1
  · rename_i a
    rw [hv.str]
    refine ⟨⟨a, rfl⟩, r, F1, R1, (Ans.bnd k1).imp fun y H2 F2 R2 m2 k2 u hu => ?_⟩
    unfold oJoin at k2
    split at k2
    · rename_i xs
      split at k2
      · rename_i ys ey
        split at k2
        · rename_i z
          obtain ⟨p, ws, rfl, hs, hd⟩ := hu.list R2.fr.sub
          rw [strsOf_eq ey] at hd
          rw [hK]
          exact ⟨a, p, ys, rfl, rfl, .inl (by rw [← dpAll_strs hd]; exact hs), Nat.le_trans z (by rw [lim_is]; decide), k2.now R2 _ (.str _)⟩
        · exact k2.elim
      · exact k2.elim
    · exact k2.elim
  · exact k1.elim
theorem de_split (ho : PE X o (teB c f)) (he : PE X e (teB c g)) (hs : starEach [e] X.env = [(false, eval e X.env)] := by rfl) (hbase : attributeBase o "split" X.env (eval o X.env) = eval o X.env := by rfl) (hline : (apos.endLine == pos.line) = true := by rfl) :
    PE X (.Call (.Attribute o "split" apos) [e] [] pos) (teD c (eSplit f g)) := by
  refine PE.weak (pe_split ho he hs hbase hline) fun s H Q ⟨r, F, R, h⟩ => ⟨r, F, R, (Ans.bnd h).imp fun x H1 F1 R1 m1 k1 v hv => ?_⟩
  split at k1
  · rename_i a
    rw [hv.str]
    refine ⟨⟨a, rfl⟩, r, F1, R1, (Ans.bnd k1).imp fun y H2 F2 R2 m2 k2 u hu => ?_⟩
    unfold oSplit at k2
    split at k2
    · split at k2
      · rename_i b z
        rw [hu.str]
        exact ⟨a, b, rfl, rfl, z.1, lim_line z.2, fun p np => have q := lay_l R2 k2 np dpAll_of_strs; q.1 _ q.2⟩
      · exact k2.elim
    · exact k2.elim
  · exact k1.elim
/-- the signs of a text, walked -/
def sgn (k : Nat) : PyData := .str ⟨#[k]⟩
def iText (f : Ef) : Af := fun r => bnd (f r) fun x => match x with
  | .str a => ok (a.cps.toList.map sgn)
  | _ => none
theorem walks_text {K : PySem.W.Frag} {ax : XN → Addr} {F : Hp} {a : Str} : Walks K ax (Its a) (a.cps.toList.map sgn) F := by
  have el : (a.cps.toList.map sgn).length = a.cps.size := by rw [List.length_map, Array.length_toList]
  refine ⟨fun i H sm hi => by rw [el] at hi; exact hi, fun H sm => by rw [el]; exact Nat.le_refl _, fun i H x H' sm hi y => ?_⟩
  obtain ⟨eH, k, hk, rfl⟩ := y
  exact ⟨eH, sgn k, by rw [List.getElem?_map, Array.getElem?_toList, hk]; rfl, .str _⟩
theorem di_text {tg : Expr} (h : PE X e (teD c f)) : PI X tg e (tiD c (iText f)) := by
  refine PI.weak (pi_str h) fun s H W ⟨r, F, R, k⟩ => ⟨r, F, R, k.bnd.imp fun x H1 F1 R1 m1 k1 v hv => ?_⟩
  split at k1
  · rename_i a
    cases hv
    exact ⟨a, rfl, k1.now R1 _ walks_text⟩
  · exact k1.elim
/-- one sign in a text -/
def oInTx : PyData → PyData → M PyData
  | .str x, .str z => match x.cps.toList with
    | [k] => ok (.bool (decide (k ∈ z.cps.toList)))
    | _ => none
  | _, _ => none
theorem os_inTx : OpS c L2.rInS oInTx := by
  intro r s H F x y a b Q R hx hy h
  unfold oInTx at h
  split at h
  · rename_i u z
    split at h
    · rename_i k ek
      have : u = ⟨#[k]⟩ := Str.ext' (by rw [← Array.toList_inj, ek])
      subst this
      exact ⟨k, z, hx.str, hy.str, h.now R _ (.bl _)⟩
    · exact h.elim
  · exact h.elim
theorem op_inTx : OpR X (compareOp .In) L2.rInS := op_in_sign
/-- int(text) -/
def oIntText : List PyData → M PyData
  | [.str a] => match PySem.intText? a with
    | some n => if a.length ≤ 640 then ok (.int n) else none
    | none => none
  | _ => none
theorem cs_intText : CallS c (fun xs H Q => ∃ a n, xs = [.str a] ∧ PySem.intText? a = some n ∧ a.length ≤ 640 ∧ Q (.int n) H) oIntText := by
  intro r s H F vs ds Q R hv h
  unfold oIntText at h
  split at h
  · rename_i a
    split at h
    · rename_i n en
      split at h
      · rename_i z
        obtain ⟨v, rfl, hb⟩ := bp_one hv
        rw [hb.str]
        exact ⟨a, n, rfl, en, z, h.now R _ (.int _)⟩
      · exact h.elim
    · exact h.elim
  · exact h.elim
end
end DL

set_option Elab.async false
set_option linter.all false
set_option maxRecDepth 100000
set_option maxHeartbeats 2000000
/-! The data layer: except X as e: kept = e, where X takes some errors only. -/
noncomputable section
namespace DL
open PySem PySem.Spec PyProof.Rows L2
def sTryM (p : XN → Bool) (i j : Nat) (g : Sf) : Sf := fun r => match g r with
  | some (.er x r') => if p x = true then (if i < r'.length ∧ j < r'.length then some (.nx (((r'.set i (some (.d (excD x)))).set j (some (.d (excD x)))).set i none)) else none) else some (.er x r')
  | z => z
section
variable {X : Cx} {c : Cc} {x n kn : Str} {cv : Value} {i j : Nat} {body : List Stmt} {np np2 kp ap pos pos' : Pos} {sf : Sf} {p : XN → Bool}
theorem ds_tryM (hex : X.ex = [] := by rfl) (hs : X.stack = X.env :: X.outer) (hf : X.env.frame = some X.env.locals) (hN : X.N.Nodup) (hi : X.N[i]? = some n) (hj : X.N[j]? = some kn) (hln : X.env.kindOf n = some .local) (hv : Vis X.env.scope n) (hlk : Loc X.env.scope kn) (hc : Names X x cv) (tk : Takes X c.W) (hK : X.K = c.K := by rfl)
    (hcat : ∀ xn, PySem.W.exmOne X.K (.ref (c.ax xn)) cv = some (p xn))
    (hb : ∀ (W : WX) (pn : List (Addr × Obj)) (xe : Value → Shared → Prop), Takes (X.tr pn xe) W → PSs (X.tr pn xe) body (tsD { c with W := W } sf))
    (hsw : swapsWith (.Name n np2) (some (.Name kn kp)) ap.line X.env = pure false := by rfl) (hdb : (n == ("__debug__" : Str)) = false := by decide) (hcd : (n == ("__classdict__" : Str)) = false := by decide)
    (hfk : X.fn kn = true ∨ X.env.scope.names.lookup kn = some .local := by first | exact .inl rfl | exact .inr rfl | assumption) :
    PS X (.Try body [.ExceptHandler (some (.Name x np)) (some n) [.Assign [.Name kn kp] (.Name n np2) ap] pos'] [] [] pos) (tsD c (sTryM p i j sf)) := by
  refine PS.weak (ps_try_keep (ts := fun a => tAsg (tVar i) (gName j)) hex hs hf hN hi hln hc tk (fun W pn xe t _ => hb W pn xe t) fun a pn => pss_one (ps_set (X := X.suite a pn) hN hj hlk (pe_var hi hv hdb hcd) hsw hfk)) fun D s H ⟨r, F, R, h⟩ => ?_
  refine ⟨r, F, ⟨⟨R.fr.sub, R.fr.old, R.fr.kept⟩, R.len, R.cell, R.apart⟩, ?_⟩
  unfold sTryM at h
  cases e : sf r with
  | none => rw [e] at h; exact h.elim
  | some z =>
    rw [e] at h
    cases z with
    | nx r' => exact fun s' H' F' R' sm => h s' H' F' ⟨⟨R'.fr.sub, R'.fr.old, R'.fr.kept⟩, R'.len, R'.cell, R'.apart⟩ sm
    | bk r' => exact fun s' H' F' R' sm => h s' H' F' ⟨⟨R'.fr.sub, R'.fr.old, R'.fr.kept⟩, R'.len, R'.cell, R'.apart⟩ sm
    | ct r' => exact fun s' H' F' R' sm => h s' H' F' ⟨⟨R'.fr.sub, R'.fr.old, R'.fr.kept⟩, R'.len, R'.cell, R'.apart⟩ sm
    | rt d => exact fun v H' F' R' sm hv => h v H' F' ⟨R'.sub, R'.old, R'.kept⟩ sm hv
    | er xn r' =>
      intro s' H' F' R' sm
      have R2 : Rel c r' s' H' F' := ⟨⟨R'.fr.sub, R'.fr.old, R'.fr.kept⟩, R'.len, R'.cell, R'.apart⟩
      dsimp only at h
      cases hp : p xn with
      | true =>
        rw [if_pos hp] at h
        split at h
        · rename_i hl
          refine ⟨true, by rw [← hp]; exact hcat xn, fun _ => ⟨c.ax xn, rfl, rfl, fun a na => ?_⟩, fun z => by cases z⟩
          have m := More.laid (p := a) (o := ExK (c.ax xn) a) R2.fr.sub na
          have R3 := R2.more m
          have hx : Dq c.K c.ax (upd F' a (ExK (c.ax xn) a)) (.ref a) (excD xn) := .exc xn upd_same
          have R4 := R3.set (i := i) hl.1 hx
          have R5 := R4.set (i := j) (by rw [List.length_set]; exact hl.2) hx
          have R6 := R5.wipe [i]
          refine ⟨.ref a, by rw [List.getElem?_set_self (by rw [R2.len]; exact hl.1)], ?_⟩
          exact h _ _ _ R6 (sm.trans m.f)
        · exact h.elim
      | false =>
        rw [if_neg (by rw [hp]; decide)] at h
        exact ⟨false, by rw [← hp]; exact hcat xn, (fun z => by cases z), fun _ => h s' H' F' R2 sm⟩
end
end DL

set_option Elab.async false
set_option linter.all false
set_option maxRecDepth 100000
/-! Instances of the own class: attributes, methods that only read, a method that writes. -/
noncomputable section
namespace DL
open PySem L2

/-! ### what a heap's data do not need -/
section
variable {K : PySem.W.Frag} {ax : XN → Addr}
/-- the same data, an instance left out -/
def drp (F : Hp) (p : Addr) : Hp := fun a => if a = p then none else F a
theorem drp_ne {F : Hp} {p a : Addr} (h : a ≠ p) : drp F p a = F a := if_neg h
theorem drp_self {F : Hp} {p : Addr} : drp F p p = none := if_pos rfl
def SameB (p : Addr) (F F' : Hp) : Prop := ∀ a o, F a = some o → a ≠ p → F' a = some o
def InsAt (F : Hp) (p : Addr) : Prop := ∃ C dx fs, F p = some (.ins C dx fs)
theorem sl_drp {F : Hp} {p a : Addr} {xs : List V} (i : InsAt F p) (h : SqL K F a xs) : SqL K (drp F p) a xs := by
  obtain ⟨C, dx, fs, i⟩ := i
  rcases h with h | h
  · left
    rcases h with h | ⟨o, h⟩
    · left
      rw [drp_ne ?_]; exact h
      rintro rfl
      rw [i] at h; cases h
    · right
      refine ⟨o, ?_⟩
      rw [drp_ne ?_]; exact h
      rintro rfl
      rw [i] at h; cases h
  · exact .inr h
theorem sp_drp {F : Hp} {p a : Addr} {xs : List V} (i : InsAt F p) (h : SqP K F a xs) : SqP K (drp F p) a xs := by
  obtain ⟨C, dx, fs, i⟩ := i
  rcases h with ⟨o, h, d⟩ | h
  · left
    refine ⟨o, ?_, d⟩
    rw [drp_ne ?_]; exact h
    rintro rfl
    rw [i] at h; cases h
  · exact .inr h
mutual
theorem dq_drp {F : Hp} {p : Addr} (i : InsAt F p) : ∀ {d : PyData} {v : V}, Dq K ax F v d → Dq K ax (drp F p) v d
  | .none, _, h => by cases h; exact .non
  | .bool b, _, h => by cases h; exact .bl b
  | .int i, _, h => by cases h; exact .int i
  | .str x, _, h => by cases h; exact .str x
  | .list ds, _, h => by
    cases h with
    | lst h1 h2 => exact .lst (sl_drp i h1) (dqs_drp i h2)
  | .tuple ds, _, h => by
    cases h with
    | tup h1 h2 => exact .tup (sp_drp i h1) (dqs_drp i h2)
  | .dict _, _, h => by
    cases h with
    | exc x h1 =>
      refine .exc x ?_
      rw [drp_ne ?_]; exact h1
      rintro rfl
      obtain ⟨C, dx, fs, i⟩ := i
      rw [i] at h1; cases h1
theorem dqs_drp {F : Hp} {p : Addr} (i : InsAt F p) : ∀ {ds : List PyData} {vs : List V}, DqAll K ax F vs ds → DqAll K ax (drp F p) vs ds
  | [], _, h => by cases h; exact .nil
  | d :: ds, _, h => by
    cases h with
    | cons h1 h2 => exact .cons (dq_drp i h1) (dqs_drp i h2)
end
theorem frel_lookup {F : Hp} {n : Str} : ∀ {fV : List (Str × V)} {fs : List (Str × PyData)}, FRel K ax F fV fs → ∀ {x : PyData}, fs.lookup n = some x → ∃ v, fV.lookup n = some v ∧ Dq K ax F v x
  | [], [], h, x, e => by cases e
  | [], _ :: _, h, x, e => by cases h.1
  | _ :: _, [], h, x, e => by cases e
  | (a, v) :: fV, (b, y) :: fs, h, x, e => by
    have h1 := h.1
    have h2 := h.2
    simp only [List.map_cons, List.cons.injEq] at h1
    obtain ⟨rfl, h1⟩ := h1
    cases h2 with
    | cons g1 g2 =>
      unfold List.lookup at e ⊢
      split at e
      · cases e; exact ⟨_, rfl, g1⟩
      · exact frel_lookup ⟨h1, g2⟩ e
theorem frel_none {F : Hp} {n : Str} : ∀ {fV : List (Str × V)} {fs : List (Str × PyData)}, FRel K ax F fV fs → fs.lookup n = none → fV.lookup n = none
  | [], [], h, e => rfl
  | [], _ :: _, h, e => by cases h.1
  | _ :: _, [], h, e => by cases h.1
  | (a, v) :: fV, (b, y) :: fs, h, e => by
    have h1 := h.1
    have h2 := h.2
    simp only [List.map_cons, List.cons.injEq] at h1
    obtain ⟨rfl, h1⟩ := h1
    cases h2 with
    | cons g1 g2 =>
      unfold List.lookup at e ⊢
      split at e
      · cases e
      · exact frel_none ⟨h1, g2⟩ e
/-- a field is stored -/
def putP (f : Str) (d : PyData) : List (Str × PyData) → List (Str × PyData)
  | [] => [(f, d)]
  | (g, x) :: r => if g = f then (g, d) :: r else (g, x) :: putP f d r
theorem frel_put {F : Hp} {n : Str} {v : V} {d : PyData} (hv : Dq K ax F v d) : ∀ {fV : List (Str × V)} {fs : List (Str × PyData)}, FRel K ax F fV fs → FRel K ax F (putF n v fV) (putP n d fs)
  | [], [], h => ⟨rfl, .cons hv .nil⟩
  | [], _ :: _, h => by cases h.1
  | _ :: _, [], h => by cases h.1
  | (a, x) :: fV, (b, y) :: fs, h => by
    have h1 := h.1
    have h2 := h.2
    simp only [List.map_cons, List.cons.injEq] at h1
    obtain ⟨rfl, h1⟩ := h1
    cases h2 with
    | cons g1 g2 =>
      unfold putF putP
      by_cases e : a = n
      · rw [if_pos e, if_pos e]
        exact ⟨by simp only [List.map_cons]; rw [h1], .cons hv g2⟩
      · rw [if_neg e, if_neg e]
        have ih := frel_put (n := n) hv ⟨h1, g2⟩
        exact ⟨by simp only [List.map_cons]; rw [ih.1], .cons g1 ih.2⟩
theorem frel_len {F : Hp} {fV : List (Str × V)} {fs : List (Str × PyData)} (h : FRel K ax F fV fs) : fV.length = fs.length := by
  have := dpAll_len h.2
  simpa using this
end

section
variable {X : Cx} {c : Cc} {e a b : Expr} {f g : Ef} {pos : Pos} {sf sg : Sf}
theorem wc_eq {K : PySem.W.Frag} {C C' : Addr} (h : WC K C) (h' : WC K C') : C = C' := by
  unfold WC at h h'
  rw [h] at h'
  cases h'; rfl
/-- o.name -/
def eAttr (i : Nat) (n : Str) : Ef := fun r => match r[i]? with
  | some (some (.obj fs)) => (match fs.lookup n with | some d => ok d | none => none)
  | some (some (.obf fs)) => (match fs.lookup n with | some d => ok d | none => none)
  | _ => none
theorem de_attr {i : Nat} {n : Str} {C : Addr} (hv : PE X a (tVar i)) (wc : WC c.K C) (cl : Cls c.K C) (na : NoAttr c.K C n) (hK : X.K = c.K := by rfl) (hb : attributeBase a n X.env (eval a X.env) = eval a X.env := by rfl) : PE X (.Attribute a n pos) (teD c (eAttr i n)) := by
  refine PE.weak (pe_fld hv hb) fun s H Q ⟨r, F, R, h⟩ => ?_
  rw [hK]
  unfold eAttr at h
  split at h
  · rename_i fs eo
    split at h
    · rename_i d ed
      obtain ⟨p, C', dx, fV, q1, q2, q3, q4, q5, q6, q7⟩ := R.mineO eo
      cases wc_eq wc q2
      obtain ⟨v, l1, l2⟩ := frel_lookup q7 ed
      exact ⟨_, q1, p, C, dx, fV, v, rfl, q3, cl, na, l1, h.now R v l2⟩
    · exact h.elim
  · rename_i fs eo
    split at h
    · rename_i d ed
      obtain ⟨p, C', dx, fV, q1, q2, q3, q4, q5⟩ := R.mineP eo
      cases wc_eq wc q2
      obtain ⟨v, l1, l2⟩ := frel_lookup q5 ed
      exact ⟨_, q1, p, C, dx, fV, v, rfl, R.fr.sub _ _ q3, cl, na, l1, h.now R v l2⟩
    · exact h.elim
  · exact h.elim
/-- no other slot holds an instance that may change -/
def onlyO (r : Rho) (i : Nat) : Bool := (r.set i none).all fun b => match b with
  | some (.obj _) => false
  | _ => true
theorem onlyO_is {r : Rho} {i j : Nat} {fs : List (Str × PyData)} (h : onlyO r i = true) (e : r[j]? = some (some (.obj fs))) : j = i := by
  by_cases ne : j = i
  · exact ne
  · unfold onlyO at h
    rw [List.all_eq_true] at h
    have : some (B.obj fs) ∈ r.set i none := by
      rw [List.mem_iff_getElem?]
      exact ⟨j, by rw [List.getElem?_set_ne (Ne.symm ne)]; exact e⟩
    have := h _ this
    cases this
theorem Rel.writeO {r : Rho} {s : L2.St} {H F : Hp} {i : Nat} {p C dx : Addr} {fV : List (Str × V)} {fs fs' : List (Str × PyData)} (R : Rel c r s H F) (e : r[i]? = some (some (.obj fs))) (es : s[i]? = some (some (V.ref p))) (ho : onlyO r i = true) (wc : WC c.K C)
    (h1 : F dx = some (.own p)) (h2 : F p = none) (h3 : c.H0 p = none) (h4 : FRel c.K c.ax F fV fs') : Rel c (r.set i (some (.obj fs'))) s (upd H p (.ins C dx fV)) F := by
  have hi : i < r.length := (List.getElem?_eq_some_iff.mp e).1
  have R' : Rel c (r.set i none) s H F := R.forget
  have R2 : Rel c (r.set i none) s (upd H p (.ins C dx fV)) F := by
    refine R'.other h2 h3 fun j b ej nd ep => ?_
    rcases set_get ej with ⟨_, eb⟩ | ⟨ne, e'⟩
    · cases eb
    obtain ⟨p0, C0, dx0, fV0, t1, t2, t3, _⟩ := R.mineO e
    rw [es] at t1
    cases t1
    cases b with
    | d x => exact nd x rfl
    | own xs =>
      obtain ⟨q, ws, q1, q2, _⟩ := R.mine e'
      rw [ep] at q1
      cases q1
      rw [t3] at q2; cases q2
    | dct xs =>
      obtain ⟨q, ws, q1, q2, _⟩ := R.mineM e'
      rw [ep] at q1
      cases q1
      rw [t3] at q2; cases q2
    | dic xs =>
      obtain ⟨q, ws, q1, q2, _⟩ := R.mineK e'
      rw [ep] at q1
      cases q1
      rw [t3] at q2; cases q2
    | dif xs =>
      obtain ⟨q, ws, o', q1, q2, _⟩ := R.mineF e'
      rw [ep] at q1
      cases q1
      rw [h2] at q2; cases q2
    | obj fs => exact ne (onlyO_is ho e')
    | obf fs =>
      obtain ⟨q, C', dx', fV', q1, q2, q3, _⟩ := R.mineP e'
      rw [ep] at q1
      cases q1
      rw [h2] at q3; cases q3
  refine ⟨R2.fr, by rw [List.length_set]; exact R.len, fun j b q => ?_, fun j k ys zs q e1 e2 e3 e4 => ?_⟩
  · rcases set_get q with ⟨rfl, eb⟩ | ⟨ne, e'⟩
    · cases eb
      exact ⟨_, es, C, dx, fV, wc, upd_same, h1, h2, h3, h4⟩
    · exact R2.cell j b (by rw [List.getElem?_set_ne (Ne.symm ne)]; exact e')
  · rcases set_get e1 with ⟨_, eb⟩ | ⟨n1, e1'⟩
    · cases eb
    · rcases set_get e2 with ⟨_, eb⟩ | ⟨n2, e2'⟩
      · cases eb
      · exact R.apart j k ys zs q e1' e2' e3 e4
/-- o.name = e -/
def sAttr (i : Nat) (n : Str) (f : Ef) : Sf := fun r => match r[i]? with
  | some (some (.obj fs)) => if onlyO r i = true ∧ fs.length < 1000 then ofE (f r) r fun d => some (.nx (r.set i (some (.obj (putP n d fs))))) else none
  | _ => none
theorem ds_attr {i : Nat} {n : Str} {C : Addr} {pos' : Pos} (hv : PE X a (tVar i)) (he : PE X e (teD c f)) (wc : WC c.K C) (cl : Cls c.K C) (na : NoAttr c.K C n) (hK : X.K = c.K := by rfl) (hs : swapsWith e (some (.Attribute a n pos')) pos.line X.env = pure false := by rfl) :
    PS X (.Assign [.Attribute a n pos'] e pos) (tsD c (sAttr i n f)) := by
  refine PS.weak (ps_fld hv he hs) fun D s H ⟨r, F, R, h⟩ => ?_
  rw [hK]
  unfold sAttr at h
  split at h
  · rename_i fs eo
    split at h
    · rename_i z
      refine ⟨r, F, R, (ans_of h).imp fun d H1 F1 R1 m1 k1 v hv => ?_⟩
      obtain ⟨p, C', dx, fV, q1, q2, q3, q4, q5, q6, q7⟩ := R1.mineO eo
      cases wc_eq wc q2
      exact ⟨_, q1, p, C, dx, fV, rfl, q3, cl, na, by rw [frel_len q7]; exact z.2, k1.at (R1.writeO eo q1 z.1 wc q4 q5 q6 (frel_put hv q7))⟩
    · exact h.elim
  · exact h.elim

/-! ### methods that only read, without arguments -/
/-- the promise: told of the attributes -/
def spI (K : PySem.W.Frag) (ax : XN → Addr) (phi : List (Str × PyData) → M PyData) : Sp := fun vs H Q E => ∃ p C dx fV fs F, vs = [V.ref p] ∧ WC K C ∧ Same F H ∧ F p = some (.ins C dx fV) ∧ F dx = some (.own p) ∧ FRel K ax F fV fs ∧ match phi fs with
  | some (.ok d) => ∀ v H' F', More H F H' F' → Dq K ax F' v d → Q v H'
  | _ => False
def runI (n : Nat) (g : Sf) : List (Str × PyData) → M PyData := fun fs => match g (some (B.obf fs) :: List.replicate (n - 1) none) with
  | some (.nx _) => ok .none
  | some (.rt d) => ok d
  | _ => none
theorem rep_no {n i : Nat} {b : B} (h : (List.replicate n (none : Option B))[i]? = some (some b)) : False := by
  obtain ⟨_, q⟩ := List.getElem?_eq_some_iff.mp h
  rw [List.getElem_replicate] at q; cases q
theorem okI {P : Program} {w : World} {K : PySem.W.Frag} {ax : XN → Addr} {mg : Str → Option Value} {base : Heap} {x qual : Str} {st : Stmt} {fa : Addr} {fd : FuncData} {N : List Str} {self : Str} {k : Nat} {g : Sf} (Fn : Fun K x qual st fa fd) (S : FnScope N [self] (defScope st)) (hN : 1 ≤ N.length)
    (hb : ∀ (cdv : Value) (A : Around) (outer : List Env) (s : Shared) (H F : Hp) (E : XK), Room k (A.deeper (PyProof.Rows.envOfC qual (defScope st) s.heap.objs.size fa cdv)) →
      PSs (cxOf (L2.CX P w) P w K mg base N qual (defScope st) fa cdv A outer s H E) (defBody st) (tsD ⟨K, H, F, ax, fun cls d _ H => E cls d H, P, w⟩ g)) :
    FnOk P w K mg base (L2.CX P w) (k + 1) fa fd [self] (spI K ax (runI N.length g)) := by
  refine Fn.okX S (fun vs H Q E h => ?_) (fun cdv A outer s H vs Q E hr h => ?_)
  · obtain ⟨p, C, dx, fV, fs, F, rfl, _⟩ := h
    rfl
  · obtain ⟨p, C, dx, fV, fs, F, rfl, wc, sm, h1, h2, h3, h⟩ := h
    have R : Rel ⟨K, H, F, ax, fun cls d _ H => E cls d H, P, w⟩ (some (B.obf fs) :: List.replicate (N.length - 1) none) (L2.start N [V.ref p]) H F := by
      refine ⟨⟨sm, Same.refl _, fun p o e n => ⟨e, n⟩⟩, ?_, fun i b e => ?_, fun i j xs ys q e1 => ?_⟩
      · unfold L2.start
        simp
      · cases i with
        | zero => cases e; exact ⟨_, rfl, C, dx, fV, wc, h1, h2, h3⟩
        | succ i => exact (rep_no e).elim
      · cases i with
        | zero => cases e1
        | succ i => exact (rep_no e1).elim
    refine ⟨_, hb cdv A outer s H F E hr, _, F, R, ?_⟩
    unfold runI at h
    cases e : g (some (B.obf fs) :: List.replicate (N.length - 1) none) with
    | none => rw [e] at h; exact h.elim
    | some y =>
      rw [e] at h
      cases y with
      | nx r => exact fun s' H' F' R q => h .non H' F' (R.fr.out sm) .non
      | rt d => exact fun v H' F' R q hv => h v H' F' (R.out sm) hv
      | bk r => exact h.elim
      | ct r => exact h.elim
      | er e r => exact h.elim
theorem passNo {X : Cx} : Passes (L2.CX X.prog X.w) X (fun _ _ _ => False) := fun _ _ _ _ _ _ _ h => by
  obtain ⟨_, _, _, _, _, _, _, _, _, _, _, _, z⟩ := h
  exact z.elim
/-- o.m() -/
def eMeth (i : Nat) (m : Str) (phi : List (Str × PyData) → M PyData) : Ef := fun r => match r[i]? with
  | some (some (.obj fs)) => if fs.lookup m = none then (match phi fs with | some (.ok d) => ok d | _ => none) else none
  | some (some (.obf fs)) => if fs.lookup m = none then (match phi fs with | some (.ok d) => ok d | _ => none) else none
  | _ => none
theorem te_meth {i : Nat} {m : Str} {phi : List (Str × PyData) → M PyData} {C : Addr} (wc : WC c.K C) {s : L2.St} {H : Hp} {Q : VK} : teD c (eMeth i m phi) s H Q → tMeth C m (spI c.K c.ax phi) [] (fun _ _ _ => False) (tVar i) tNil s H Q := fun ⟨r, F, R, h⟩ => by
  unfold eMeth at h
  split at h
  · rename_i fs eo
    split at h
    · rename_i z
      split at h
      · rename_i d ed
        obtain ⟨p, C', dx, fV, q1, q2, q3, q4, q5, q6, q7⟩ := R.mineO eo
        cases wc_eq wc q2
        refine ⟨_, q1, p, dx, fV, rfl, q3, frel_none q7 z, ?_⟩
        have s1 : Same F (upd F p (.ins C dx fV)) := same_upd' q5
        have ndx : dx ≠ p := ne_of_none q4 q5
        refine ⟨p, C, dx, fV, fs, upd F p (.ins C dx fV), rfl, wc, fun b o q => ?_, upd_same, by rw [upd_ne ndx]; exact q4, q7.same s1, ?_⟩
        · by_cases hb : b = p
          · subst hb; rw [upd_same] at q; cases q; exact q3
          · rw [upd_ne hb] at q; exact R.fr.sub b o q
        · rw [ed]
          intro v H' F' mm hv
          have ip : InsAt F' p := ⟨C, dx, fV, mm.f _ _ upd_same⟩
          have m2 : More H F H' (drp F' p) := by
            refine ⟨fun b o q => ?_, mm.h, fun b o q => ?_, fun b o q n => ?_⟩
            · have hb : b ≠ p := ne_of_none q q5
              rw [drp_ne hb]
              exact mm.f b o (s1 b o q)
            · by_cases hb : b = p
              · subst hb; rw [drp_self] at q; cases q
              · rw [drp_ne hb] at q; exact mm.sub b o q
            · by_cases hb : b = p
              · subst hb; exact drp_self
              · rw [drp_ne hb]
                exact mm.un b o q (by rw [upd_ne hb]; exact n)
          exact h H' _ (R.more m2) m2 v (dq_drp ip hv)
      · exact h.elim
    · exact h.elim
  · rename_i fs eo
    split at h
    · rename_i z
      split at h
      · rename_i d ed
        obtain ⟨p, C', dx, fV, q1, q2, q3, q4, q5⟩ := R.mineP eo
        cases wc_eq wc q2
        refine ⟨_, q1, p, dx, fV, rfl, R.fr.sub _ _ q3, frel_none q5 z, ?_⟩
        refine ⟨p, C, dx, fV, fs, F, rfl, wc, R.fr.sub, q3, q4, q5, ?_⟩
        rw [ed]
        intro v H' F' mm hv
        exact h H' F' (R.more mm) mm v hv
      · exact h.elim
    · exact h.elim
  · exact h.elim
theorem de_meth {i k : Nat} {m : Str} {phi : List (Str × PyData) → M PyData} {C fm : Addr} {fd : FuncData} {ps : List Str} {o : Expr} {apos : Pos} {pl : Sem Bool} (hv : PE X o (tVar i)) (wc : WC c.K C) (cl : Cls X.K C) (hm : Meth X.K C m fm) (Fo : FnOk X.prog X.w X.K X.mg X.base (L2.CX X.prog X.w) k fm fd ps (spI c.K c.ax phi)) (hr : Room k X.A) (hb : Binds X.K fd ps [])
    (ht : eval (.Call (.Attribute o m apos) [] [] pos) X.env = (do
      let ov ← eval o X.env
      standAt apos.atName
      let (f, first) ← holding [ov] (getMethod ov m pl)
      callWith pos f first (backTo pos (starEach [] X.env)) (backToKw pos (keywordEach [] X.env))) := by rfl) :
    PE X (.Call (.Attribute o m apos) [] [] pos) (teD c (eMeth i m phi)) :=
  PE.weak (pe_meth0 hv cl hm Fo hr hb .nil passNo (ht := ht)) fun _ _ _ => te_meth wc
end
end DL

set_option Elab.async false
set_option linter.all false
set_option maxRecDepth 100000
/-! Instances: kept, come, the making; a machine copied, row by row. -/
noncomputable section
namespace DL
open PySem L2

section
variable {X : Cx} {c : Cc} {e a b : Expr} {f g : Ef} {pos : Pos} {sf sg : Sf} {st : Stmt}
/-! ### self.name = e; return e2: the slots at the end known -/
def tsR (c : Cc) (i : Nat) (n : Str) (f g : Ef) : TS := fun D s H => ∃ r F fs d1 d2, Rel c r s H F ∧ r[i]? = some (some (B.obj fs)) ∧ onlyO r i = true ∧ fs.length < 1000 ∧ f r = ok d1 ∧ g (r.set i (some (.obj (putP n d1 fs)))) = ok d2 ∧
  ∀ v H' F', Rel c (r.set i (some (.obj (putP n d1 fs)))) s H' F' → Same F F' → Dq c.K c.ax F' v d2 → D.rt v H'
theorem dsR {i : Nat} {n : Str} {C : Addr} {pos' pos2 : Pos} (hv : PE X a (tVar i)) (he : PE X e (teD c f)) (h2 : PE X b (teD c g)) (wc : WC c.K C) (cl : Cls c.K C) (na : NoAttr c.K C n) (hK : X.K = c.K := by rfl) (hs : swapsWith e (some (.Attribute a n pos')) pos.line X.env = pure false := by rfl) :
    PSs X [.Assign [.Attribute a n pos'] e pos, .Return (some b) pos2] (tsR c i n f g) := by
  refine PSs.weak (pss_cons (ps_fld hv he hs) (pss_one (ps_ret h2))) fun D s H ⟨r, F, fs, d1, d2, R, eo, oo, hl, e1, e2, k⟩ => ?_
  rw [hK]
  refine ⟨r, F, R, ?_⟩
  rw [e1]
  intro H1 F1 R1 m1 v hv
  obtain ⟨p, C', dx, fV, q1, q2, q3, q4, q5, q6, q7⟩ := R1.mineO eo
  cases wc_eq wc q2
  have R2 := R1.writeO eo q1 oo wc q4 q5 q6 (frel_put (n := n) hv q7)
  refine ⟨_, q1, p, C, dx, fV, rfl, q3, cl, na, by rw [frel_len q7]; exact hl, _, F1, R2, ?_⟩
  rw [e2]
  exact fun H2 F2 R3 m2 v hv => k v H2 F2 R3 (m1.f.trans m2.f) hv

/-! ### come -/
/-- the promise of a method that changes the attributes, of one argument -/
def spC (K : PySem.W.Frag) (ax : XN → Addr) (phi : List (Str × PyData) → PyData → Option (List (Str × PyData) × PyData)) : Sp := fun vs H Q E => ∃ p C dx fV fs v1 d1 F, vs = [V.ref p, v1] ∧ WC K C ∧ Same F H ∧ H p = some (.ins C dx fV) ∧ F p = none ∧ F dx = some (.own p) ∧ FRel K ax F fV fs ∧ Dq K ax F v1 d1 ∧ match phi fs d1 with
  | some (fs', d) => ∀ v H' F' fV' dx', Same F F' → Same F' H' → (∀ q o, H q = some o → q ≠ p → H' q = some o) → (∀ q o, H q = some o → F q = none → F' q = none) → H' p = some (.ins C dx' fV') → F' dx' = some (.own p) → F' p = none → FRel K ax F' fV' fs' → Dq K ax F' v d → Q v H'
  | none => False
def runC (n : Nat) (nm : Str) (f g : Ef) : List (Str × PyData) → PyData → Option (List (Str × PyData) × PyData) := fun fs d =>
  match f (some (B.obj fs) :: some (.d d) :: List.replicate (n - 2) none) with
  | some (.ok d1) => if fs.length < 1000 then (match g (some (B.obj (putP nm d1 fs)) :: some (.d d) :: List.replicate (n - 2) none) with
    | some (.ok d2) => some (putP nm d1 fs, d2)
    | _ => none) else none
  | _ => none
theorem only_rep {fs : List (Str × PyData)} {d : PyData} {n : Nat} : onlyO (some (B.obj fs) :: some (B.d d) :: List.replicate n none) 0 = true := by
  unfold onlyO
  rw [List.all_eq_true]
  intro x hx
  simp only [List.set_cons_zero, List.mem_cons, List.mem_replicate] at hx
  rcases hx with rfl | rfl | ⟨_, rfl⟩ <;> rfl
theorem okC {P : Program} {w : World} {K : PySem.W.Frag} {ax : XN → Addr} {mg : Str → Option Value} {base : Heap} {x qual : Str} {st0 : Stmt} {fa : Addr} {fd : FuncData} {N : List Str} {p1 p2 nm : Str} {k : Nat} {f g : Ef} (Fn : Fun K x qual st0 fa fd) (S : FnScope N [p1, p2] (defScope st0)) (hN : 2 ≤ N.length)
    (hb : ∀ (cdv : Value) (A : Around) (outer : List Env) (s : Shared) (H H0 F : Hp) (E : XK), Room k (A.deeper (PyProof.Rows.envOfC qual (defScope st0) s.heap.objs.size fa cdv)) →
      PSs (cxOf (L2.CX P w) P w K mg base N qual (defScope st0) fa cdv A outer s H E) (defBody st0) (tsR ⟨K, H0, F, ax, fun cls d _ H => E cls d H, P, w⟩ 0 nm f g)) :
    FnOk P w K mg base (L2.CX P w) (k + 1) fa fd [p1, p2] (spC K ax (runC N.length nm f g)) := by
  refine Fn.okX S (fun vs H Q E h => ?_) (fun cdv A outer s H vs Q E hr h => ?_)
  · obtain ⟨p, C, dx, fV, fs, v1, d1, F, rfl, _⟩ := h
    rfl
  · obtain ⟨p, C, dx, fV, fs, v1, d1, F, rfl, wc, sm, h1, h2, h3, h4, h5, h⟩ := h
    have R : Rel ⟨K, drp H p, F, ax, fun cls d _ H => E cls d H, P, w⟩ (some (B.obj fs) :: some (.d d1) :: List.replicate (N.length - 2) none) (L2.start N [V.ref p, v1]) H F := by
      refine ⟨⟨sm, Same.refl _, fun q o e n => ?_⟩, ?_, fun i b e => ?_, fun i j xs ys q e1 => ?_⟩
      · have e : drp H p q = some o := e
        have n : F q = none := n
        by_cases hq : q = p
        · subst hq; rw [drp_self] at e; cases e
        · rw [drp_ne hq] at e
          exact ⟨e, n⟩
      · unfold L2.start
        simp
      · cases i with
        | zero => cases e; exact ⟨_, rfl, C, dx, fV, wc, h1, h3, h2, drp_self, h4⟩
        | succ i =>
          cases i with
          | zero => cases e; exact ⟨_, rfl, h5⟩
          | succ i => exact (rep_no e).elim
      · cases i with
        | zero => cases e1
        | succ i =>
          cases i with
          | zero => cases e1
          | succ i => exact (rep_no e1).elim
    unfold runC at h
    cases e1 : f (some (B.obj fs) :: some (.d d1) :: List.replicate (N.length - 2) none) with
    | none => rw [e1] at h; exact h.elim
    | some z =>
    rw [e1] at h
    cases z with
    | error e => exact h.elim
    | ok y =>
    dsimp only at h
    by_cases hl : fs.length < 1000
    · rw [if_pos hl] at h
      cases e2 : g (some (B.obj (putP nm y fs)) :: some (.d d1) :: List.replicate (N.length - 2) none) with
      | none => rw [e2] at h; exact h.elim
      | some z =>
      rw [e2] at h
      cases z with
      | error e => exact h.elim
      | ok d2 =>
      dsimp only at h
      refine ⟨_, hb cdv A outer s H (drp H p) F E hr, _, F, fs, y, d2, R, rfl, only_rep, hl, e1, e2, fun v H' F' R' sm' hv => ?_⟩
      obtain ⟨p', C', dx', fV', q1, q2, q3, q4, q5, q6, q7⟩ := R'.mineO (i := 0) rfl
      cases q1
      cases wc_eq wc q2
      have kp := R'.fr.kept
      refine h v H' F' fV' dx' sm' R'.fr.sub (fun q o e ne => ?_) (fun q o e n => ?_) q3 q4 q5 q7 hv
      · cases hF : F q with
        | none => exact (kp q o (by show drp H p q = _; rw [drp_ne ne]; exact e) hF).1
        | some o2 =>
          have z := sm q o2 hF
          rw [e] at z; cases z
          exact R'.fr.sub q o (sm' q o hF)
      · by_cases hq : q = p
        · subst hq; exact q5
        · exact (kp q o (by show drp H p q = _; rw [drp_ne hq]; exact e) n).2
    · rw [if_neg hl] at h; exact h.elim
/-- x = o.m(e), m a method that changes the attributes -/
def sCome (j i : Nat) (m : Str) (f : Ef) (phi : List (Str × PyData) → PyData → Option (List (Str × PyData) × PyData)) : Sf := fun r => match r[i]? with
  | some (some (.obj fs)) => if onlyO r i = true ∧ fs.lookup m = none ∧ j < r.length ∧ j ≠ i then ofE (f r) r fun d => (match phi fs d with
    | some (fs', d') => some (.nx ((r.set i (some (.obj fs'))).set j (some (.d d'))))
    | none => none) else none
  | _ => none
/-- another heap, in which one instance stands otherwise -/
theorem Rel.moved {r : Rho} {s : L2.St} {H F H' F' : Hp} {i : Nat} {p C dx : Addr} {fV : List (Str × V)} {fs fs' : List (Str × PyData)} (R : Rel c r s H F) (e : r[i]? = some (some (.obj fs))) (es : s[i]? = some (some (V.ref p))) (ho : onlyO r i = true) (wc : WC c.K C)
    (sf : Same F F') (sh : Same F' H') (kp : ∀ q o, H q = some o → q ≠ p → H' q = some o) (un : ∀ q o, H q = some o → F q = none → F' q = none) (h1 : H' p = some (.ins C dx fV)) (h2 : F' dx = some (.own p)) (h4 : FRel c.K c.ax F' fV fs') : Rel c (r.set i (some (.obj fs'))) s H' F' := by
  obtain ⟨p0, C0, dx0, fV0, t1, t2, t3, t4, t5, t6, t7⟩ := R.mineO e
  rw [es] at t1
  cases t1
  have hp : F' p = none := un p _ t3 t5
  -- H' with the old instance put back
  have R1 : Rel c r s (upd H' p (.ins C0 dx0 fV0)) F' := by
    refine R.more ⟨sf, fun q o h => ?_, fun q o h => ?_, un⟩
    · by_cases hq : q = p
      · subst hq; rw [upd_same]; rw [t3] at h; exact h
      · rw [upd_ne hq]; exact kp q o h hq
    · rw [upd_ne (ne_of_none h hp)]; exact sh q o h
  have R2 := R1.writeO (fs' := fs') e es ho wc h2 hp t6 h4
  have eq : upd (upd H' p (.ins C0 dx0 fV0)) p (.ins C dx fV) = H' := by
    funext q
    by_cases hq : q = p
    · subst hq; rw [upd_same]; exact h1.symm
    · rw [upd_ne hq, upd_ne hq]
  rw [eq] at R2
  exact R2
theorem ds_come {i j k : Nat} {m x : Str} {px : Pos} {phi : List (Str × PyData) → PyData → Option (List (Str × PyData) × PyData)} {C fm : Addr} {fd : FuncData} {ps : List Str} {o : Expr} {apos cpos : Pos} {pl : Sem Bool} (hv : PE X o (tVar i)) (he : PE X e (teD c f)) (wc : WC c.K C) (cl : Cls X.K C) (hm : Meth X.K C m fm)
    (Fo : FnOk X.prog X.w X.K X.mg X.base (L2.CX X.prog X.w) k fm fd ps (spC c.K c.ax phi)) (hr : Room k X.A) (hb : Binds X.K fd ps []) (hN : X.N.Nodup) (hi : X.N[j]? = some x) (hx : Loc X.env.scope x)
    (hst : starEach [e] X.env = (false, eval e X.env) :: starEach [] X.env := by rfl) (hpl : (backTo cpos (starEach [] X.env)).any (·.1) = false := by rfl)
    (ht : eval (.Call (.Attribute o m apos) [e] [] cpos) X.env = (do
      let ov ← eval o X.env
      standAt apos.atName
      let (f, first) ← holding [ov] (getMethod ov m pl)
      callWith cpos f first (backTo cpos (starEach [e] X.env)) (backToKw cpos (keywordEach [] X.env))) := by rfl)
    (hs : swapsWith (.Call (.Attribute o m apos) [e] [] cpos) (some (.Name x px)) pos.line X.env = pure false := by rfl) (hf : X.fn x = true ∨ X.env.scope.names.lookup x = some .local := by first | exact .inl rfl | exact .inr rfl | assumption) :
    PS X (.Assign [.Name x px] (.Call (.Attribute o m apos) [e] [] cpos) pos) (tsD c (sCome j i m f phi)) := by
  refine PS.weak (ps_set hN hi hx (pe_meth hv cl hm Fo hr hb .nil passNo (pa_cons he pa_nil hst) hst hpl (ht := ht)) hs hf) fun D s H ⟨r, F, R, h⟩ => ?_
  unfold sCome at h
  split at h
  · rename_i fs eo
    split at h
    · rename_i z
      obtain ⟨oo, z, hj, nj⟩ := z
      obtain ⟨p, C', dx, fV, q1, q2, q3, q4, q5, q6, q7⟩ := R.mineO eo
      cases wc_eq wc q2
      refine ⟨_, q1, p, dx, fV, rfl, q3, frel_none q7 z, r, F, R, (ans_of h).imp fun d H1 F1 R1 m1 k1 v hv => ?_⟩
      obtain ⟨p', C', dx1, fV1, w1, w2, w3, w4, w5, w6, w7⟩ := R1.mineO eo
      rw [q1] at w1
      cases w1
      cases wc_eq wc w2
      refine ⟨p, C, dx1, fV1, fs, v, d, F1, rfl, wc, R1.fr.sub, w3, w5, w4, w7, hv, ?_⟩
      cases e1 : phi fs d with
      | none => rw [e1] at k1; exact k1.elim
      | some y =>
        obtain ⟨fs', d'⟩ := y
        rw [e1] at k1
        intro u H' F' fV' dx' sf sh kp un h1 h2 h3 h4 h5
        have R2 := R1.moved eo q1 oo wc sf sh kp un h1 h2 h4
        exact k1 _ H' F' (R2.set (by rw [List.length_set]; exact hj) h5) sf
    · exact h.elim
  · exact h.elim
end
end DL

set_option Elab.async false
set_option linter.all false
set_option maxRecDepth 100000
/-! Instances: a method that gives a new sorted list of what an attribute holds; a call that may raise, of a class. -/
noncomputable section
namespace DL
open PySem L2

section
variable {X : Cx} {c : Cc} {e a b : Expr} {f g : Ef} {pos : Pos} {sf sg : Sf} {st : Stmt}
/-- the promise of kept: sorted(self.here[1]) -/
def spK (K : PySem.W.Frag) : Sp := fun vs H Q E => ∃ p C dx fV h sv hv, vs = [V.ref p] ∧ WC K C ∧ H p = some (.ins C dx fV) ∧ fV.lookup ("here" : Str) = some (.ref h) ∧ SqT K H h [sv, hv] ∧ rSortedT K [hv] H Q
theorem okK {P : Program} {w : World} {K : PySem.W.Frag} {mg : Str → Option Value} {base : Heap} {x qual : Str} {st0 : Stmt} {fa C : Addr} {fd : FuncData} {N : List Str} {p1 : Str} (Fn : Fun K x qual st0 fa fd) (S : FnScope N [p1] (defScope st0)) (wc : WC K C) (cl : Cls K C) (na : NoAttr K C "here")
    (hb : ∀ (cdv : Value) (A : Around) (outer : List Env) (s : Shared) (H : Hp) (E : XK), Room 0 (A.deeper (PyProof.Rows.envOfC qual (defScope st0) s.heap.objs.size fa cdv)) →
      PSs (cxOf (L2.CX P w) P w K mg base N qual (defScope st0) fa cdv A outer s H E) (defBody st0) (tRet (tCB (rSortedT K) (tCons (tOp (rIx K) (tFld K (tVar 0) "here") (tC (.int 1))) tNil)))) :
    FnOk P w K mg base (L2.CX P w) 1 fa fd [p1] (spK K) := by
  refine Fn.okX S (fun vs H Q E h => ?_) (fun cdv A outer s H vs Q E hr h => ?_)
  · obtain ⟨p, C, dx, fV, h, sv, hv, rfl, _⟩ := h
    rfl
  · obtain ⟨p, C', dx, fV, h, sv, hv, rfl, wc', h1, h2, h3, h4⟩ := h
    cases wc_eq wc wc'
    exact ⟨_, hb cdv A outer s H E hr, V.ref p, rfl, p, C, dx, fV, _, rfl, h1, cl, na, h2, .inr (.inl ⟨h, _, 1, hv, rfl, rfl, h3, rfl, h4⟩)⟩
def heldOf (fs : List (Str × PyData)) : Option (List Int) := match fs.lookup ("here" : Str) with
  | some (.tuple [_, .tuple ds]) => intsOf ds
  | _ => none
/-- o.kept() -/
def eKept (i : Nat) (m : Str) : Ef := fun r => match r[i]? with
  | some (some (.obj fs)) => if fs.lookup m = none then (match heldOf fs with | some ns => ok (.list ((isort ns).map .int)) | none => none) else none
  | some (some (.obf fs)) => if fs.lookup m = none then (match heldOf fs with | some ns => ok (.list ((isort ns).map .int)) | none => none) else none
  | _ => none
theorem held_is {F : Hp} {fV : List (Str × V)} {fs : List (Str × PyData)} {ns : List Int} (h : FRel c.K c.ax F fV fs) (e : heldOf fs = some ns) : ∃ q sv p, fV.lookup ("here" : Str) = some (.ref q) ∧ SqT c.K F q [sv, .ref p] ∧ SqT c.K F p (ns.map V.int) := by
  unfold heldOf at e
  split at e
  · rename_i d0 ds el
    obtain ⟨v, l1, l2⟩ := frel_lookup h el
    cases l2 with
    | tup h1 h2 =>
      cases h2 with
      | cons g1 g2 =>
        cases g2 with
        | cons g3 g4 =>
          cases g4
          cases g3 with
          | tup h5 h6 =>
            rw [intsOf_eq e] at h6
            refine ⟨_, _, _, l1, h1.t, ?_⟩
            rw [← dpAll_ints h6]
            exact h5.t
  · cases e
theorem te_kept {i : Nat} {m : Str} {C : Addr} (wc : WC c.K C) {s : L2.St} {H : Hp} {Q : VK} : teD c (eKept i m) s H Q → tMeth C m (spK c.K) [] (fun _ _ _ => False) (tVar i) tNil s H Q := fun ⟨r, F, R, h⟩ => by
  unfold eKept at h
  split at h
  · rename_i fs eo
    split at h
    · rename_i z
      split at h
      · rename_i ns en
        obtain ⟨p, C', dx, fV, q1, q2, q3, q4, q5, q6, q7⟩ := R.mineO eo
        cases wc_eq wc q2
        obtain ⟨q, sv, hv, l1, l2, l3⟩ := held_is q7 en
        refine ⟨_, q1, p, dx, fV, rfl, q3, frel_none q7 z, p, C, dx, fV, q, sv, .ref hv, rfl, wc, q3, l1, same_t R.fr.sub l2, hv, ns, rfl, same_t R.fr.sub l3, fun ns' q hp hs np => ?_⟩
        rw [isort_of hp hs]
        have z := lay_l R h np dpAll_of_ints
        exact z.1 _ z.2
      · exact h.elim
    · exact h.elim
  · rename_i fs eo
    split at h
    · rename_i z
      split at h
      · rename_i ns en
        obtain ⟨p, C', dx, fV, q1, q2, q3, q4, q5⟩ := R.mineP eo
        cases wc_eq wc q2
        obtain ⟨q, sv, hv, l1, l2, l3⟩ := held_is q5 en
        refine ⟨_, q1, p, dx, fV, rfl, R.fr.sub _ _ q3, frel_none q5 z, p, C, dx, fV, q, sv, .ref hv, rfl, wc, R.fr.sub _ _ q3, l1, same_t R.fr.sub l2, hv, ns, rfl, same_t R.fr.sub l3, fun ns' q hp hs np => ?_⟩
        rw [isort_of hp hs]
        have z := lay_l R h np dpAll_of_ints
        exact z.1 _ z.2
      · exact h.elim
    · exact h.elim
  · exact h.elim
section
variable {i k : Nat} {m : Str} {C fm : Addr} {fd : FuncData} {ps : List Str} {o : Expr} {apos : Pos} {pl : Sem Bool}
theorem de_kept (hv : PE X o (tVar i)) (wc : WC c.K C) (cl : Cls X.K C) (hm : Meth X.K C m fm) (Fo : FnOk X.prog X.w X.K X.mg X.base (L2.CX X.prog X.w) k fm fd ps (spK c.K)) (hr : Room k X.A) (hb : Binds X.K fd ps [])
    (ht : eval (.Call (.Attribute o m apos) [] [] pos) X.env = (do
      let ov ← eval o X.env
      standAt apos.atName
      let (f, first) ← holding [ov] (getMethod ov m pl)
      callWith pos f first (backTo pos (starEach [] X.env)) (backToKw pos (keywordEach [] X.env))) := by rfl) :
    PE X (.Call (.Attribute o m apos) [] [] pos) (teD c (eKept i m)) :=
  PE.weak (pe_meth0 hv cl hm Fo hr hb .nil passNo (ht := ht)) fun _ _ _ => te_kept wc
/-- o.kept().append(e): nothing is left of it -/
def sKeptApp (i : Nat) (m : Str) (f : Ef) : Sf := fun r => match r[i]? with
  | some (some (.obj fs)) => if fs.lookup m = none then (match heldOf fs with | some ns => if ns.length < lim then ofE (f r) r fun _ => some (.nx r) else none | none => none) else none
  | _ => none
theorem ds_keptApp {mp cp apos2 : Pos} (hv : PE X o (tVar i)) (he : PE X e (teD c f)) (wc : WC c.K C) (cl : Cls X.K C) (hm : Meth X.K C m fm) (Fo : FnOk X.prog X.w X.K X.mg X.base (L2.CX X.prog X.w) k fm fd ps (spK c.K)) (hr : Room k X.A) (hb : Binds X.K fd ps []) (hK : X.K = c.K := by rfl)
    (ht : eval (.Call (.Attribute o m apos) [] [] mp) X.env = (do
      let ov ← eval o X.env
      standAt apos.atName
      let (f, first) ← holding [ov] (getMethod ov m pl)
      callWith mp f first (backTo mp (starEach [] X.env)) (backToKw mp (keywordEach [] X.env))) := by rfl)
    (hbase : attributeBase (.Call (.Attribute o m apos) [] [] mp) "append" X.env (eval (.Call (.Attribute o m apos) [] [] mp) X.env) = eval (.Call (.Attribute o m apos) [] [] mp) X.env := by rfl)
    (hfew : ((backTo cp (starEach (e :: []) X.env)).all (fun x => !x.1) && (backToKw cp (keywordEach [] X.env)).all (fun x => x.1.isSome)
      && decide ((e :: []).length + ([] : List Keyword).length + (if ([] : List Keyword).isEmpty then 0 else 1) < 30)) = true := by rfl)
    (hline : (apos2.endLine == cp.line) = true := by rfl) (hst : starEach (e :: []) X.env = (false, eval e X.env) :: starEach [] X.env := by rfl) (hplain : (backTo cp (starEach [] X.env)).any (·.1) = false := by rfl)
    (hs : swapsWith (.Call (.Attribute (.Call (.Attribute o m apos) [] [] mp) "append" apos2) [e] [] cp) none pos.line X.env = pure false := by rfl) :
    PS X (.Expr (.Call (.Attribute (.Call (.Attribute o m apos) [] [] mp) "append" apos2) [e] [] cp) pos) (tsD c (sKeptApp i m f)) := by
  refine PS.weak (ps_expr (pe_bm PySem.F.plainAttrs_list PySem.F.slot_list_append PySem.F.type_list_append mt_append (pe_meth0 hv cl hm Fo hr hb .nil passNo (ht := ht)) (pa_cons he pa_nil hst) hbase hfew hline hst hplain) hs) fun D s H ⟨r, F, R, h⟩ => ?_
  unfold sKeptApp at h
  split at h
  · rename_i fs eo
    split at h
    · rename_i z
      split at h
      · rename_i ns en
        split at h
        · rename_i hl
          obtain ⟨p, C', dx, fV, q1, q2, q3, q4, q5, q6, q7⟩ := R.mineO eo
          cases wc_eq wc q2
          obtain ⟨q, sv, hv, l1, l2, l3⟩ := held_is q7 en
          refine ⟨_, q1, p, dx, fV, rfl, q3, frel_none q7 z, p, C, dx, fV, q, sv, .ref hv, rfl, wc, q3, l1, same_t R.fr.sub l2, hv, ns, rfl, same_t R.fr.sub l3, fun ns' l hp hs nl => ?_⟩
          have m0 : More H F (upd H l (.lst (ns'.map V.int))) F := More.loose R.fr.sub nl
          have R0 := R.more m0
          rw [hK]
          refine ⟨.inl ⟨rfl, _, SqL.of upd_same⟩, r, F, R0, (ans_of h).imp fun d H1 F1 R1 m1 k1 v hv => ?_⟩
          have nF : F l = none := R.fr.newF nl
          have nF1 := m1.un _ _ upd_same nF
          have hl1 := m1.h _ _ upd_same
          refine ⟨l, _, v, rfl, rfl, hl1, ?_, ?_⟩
          · rw [List.length_map, hp.length_eq]
            exact lim_lt hl
          · have R2 := R1.other (o := .lst (ns'.map V.int ++ [v])) nF1 (R.fr.new nl) (R.notmine nl)
            exact k1.at R2
        · exact h.elim
      · exact h.elim
    · exact h.elim
  · exact h.elim
end
end
end DL

set_option Elab.async false
set_option linter.all false
set_option maxRecDepth 100000
/-! A machine copied, row by row: [(good, boxes, list(moves)) for good, boxes, moves in machine]. -/
noncomputable section
namespace DL
open PySem L2

section
variable {K : PySem.W.Frag} {ax : XN → Addr}
/-- a row as it stands in the heap H, its entries frozen in F -/
def HRow (K : PySem.W.Frag) (ax : XN → Addr) (F H : Hp) (v : V) (d : PyData) : Prop := ∃ t gv bv q mV g b ms, v = .ref t ∧ d = .tuple [g, b, .list ms] ∧ SqP K H t [gv, bv, .ref q] ∧ Dq K ax F gv g ∧ Dq K ax F bv b ∧ SqL K H q mV ∧ DqAll K ax F mV ms
/-- .. new over B -/
def HRowN (K : PySem.W.Frag) (ax : XN → Addr) (F B H : Hp) (v : V) (d : PyData) : Prop := ∃ t o gv bv q mV g b ms, v = .ref t ∧ d = .tuple [g, b, .list ms] ∧ H t = some (.frz o (.tup [gv, bv, .ref q])) ∧ o.dict = none ∧ Dq K ax F gv g ∧ Dq K ax F bv b ∧ H q = some (.lst mV) ∧ DqAll K ax F mV ms ∧ B t = none ∧ B q = none
theorem HRowN.row {F B H : Hp} {v : V} {d : PyData} (h : HRowN K ax F B H v d) : HRow K ax F H v d := by
  obtain ⟨t, o, gv, bv, q, mV, g, b, ms, h1, h2, h3, h4, h5, h6, h7, h8, _⟩ := h
  exact ⟨t, gv, bv, q, mV, g, b, ms, h1, h2, .inl ⟨o, h3, h4⟩, h5, h6, SqL.of h7, h8⟩
theorem HRow.same {F H H' : Hp} {v : V} {d : PyData} (h : HRow K ax F H v d) (e : Same H H') : HRow K ax F H' v d := by
  obtain ⟨t, gv, bv, q, mV, g, b, ms, h1, h2, h3, h4, h5, h6, h7⟩ := h
  exact ⟨t, gv, bv, q, mV, g, b, ms, h1, h2, same_p e h3, h4, h5, same_l e h6, h7⟩
theorem HRow.fr {F F' H : Hp} {v : V} {d : PyData} (h : HRow K ax F H v d) (e : Same F F') : HRow K ax F' H v d := by
  obtain ⟨t, gv, bv, q, mV, g, b, ms, h1, h2, h3, h4, h5, h6, h7⟩ := h
  exact ⟨t, gv, bv, q, mV, g, b, ms, h1, h2, h3, dp_same e h4, dp_same e h5, h6, dpAll_same e h7⟩
/-- what stood stands -/
def SameOn (B H H' : Hp) : Prop := ∀ a o, H a = some o → B a = none → H' a = some o
theorem HRowN.keep {F B H H' : Hp} {v : V} {d : PyData} (h : HRowN K ax F B H v d) (e : SameOn B H H') : HRowN K ax F B H' v d := by
  obtain ⟨t, o, gv, bv, q, mV, g, b, ms, h1, h2, h3, h4, h5, h6, h7, h8, h9, h10⟩ := h
  exact ⟨t, o, gv, bv, q, mV, g, b, ms, h1, h2, e _ _ h3 h9, h4, h5, h6, e _ _ h7 h10, h8, h9, h10⟩
inductive All2 {A B : Type} (R : A → B → Prop) : List A → List B → Prop
  | nil : All2 R [] []
  | cons {a : A} {b : B} {as : List A} {bs : List B} : R a b → All2 R as bs → All2 R (a :: as) (b :: bs)
theorem All2.imp {A B : Type} {R S : A → B → Prop} (k : ∀ a b, R a b → S a b) {as : List A} {bs : List B} (h : All2 R as bs) : All2 S as bs := by
  induction h with
  | nil => exact .nil
  | cons h1 _ ih => exact .cons (k _ _ h1) ih
theorem All2.len {A B : Type} {R : A → B → Prop} {as : List A} {bs : List B} (h : All2 R as bs) : as.length = bs.length := by
  induction h with
  | nil => rfl
  | cons _ _ ih => simp [ih]
theorem All2.at {A B : Type} {R : A → B → Prop} {as : List A} {bs : List B} (h : All2 R as bs) {i : Nat} {a : A} (e : as[i]? = some a) : ∃ b, bs[i]? = some b ∧ R a b := by
  induction h generalizing i with
  | nil => simp at e
  | cons h1 _ ih =>
    cases i with
    | zero => simp at e; subst e; exact ⟨_, rfl, h1⟩
    | succ i => simp at e; obtain ⟨b, e1, e2⟩ := ih e; exact ⟨b, by simpa using e1, e2⟩
theorem All2.snoc {A B : Type} {R : A → B → Prop} {as : List A} {bs : List B} {a : A} {b : B} (h : All2 R as bs) (g : R a b) : All2 R (as ++ [a]) (bs ++ [b]) := by
  induction h with
  | nil => exact .cons g .nil
  | cons h1 _ ih => exact .cons h1 ih
theorem wipe3 {s : L2.St} {i j k : Nat} {x y z : Option V} : L2.wipe ((((L2.wipe s [i, j, k]).set i x).set j y).set k z) [i, j, k] = L2.wipe s [i, j, k] := by
  refine wipe_but (ts := [i, j, k]) ⟨by simp, fun a ha => ?_⟩ fun j h => h
  simp only [List.mem_cons, List.not_mem_nil, or_false, not_or] at ha
  rw [List.getElem?_set_ne (Ne.symm ha.2.2), List.getElem?_set_ne (Ne.symm ha.2.1), List.getElem?_set_ne (Ne.symm ha.1)]
abbrev rList (K : PySem.W.Frag) : List V → Hp → VK → Prop := fun xs H Q => ∃ p ys, xs = [.ref p] ∧ (SqL K H p ys ∨ SqT K H p ys) ∧ ∀ l, H l = none → Q (.ref l) (upd H l (.lst ys))
/-- the reading of the comprehension -/
abbrev tCopy (K : PySem.W.Frag) (src i j k : Nat) : TE := tLc (iList K (tVar src)) (gTup K 3 (gCons (gName i) (gCons (gName j) (gCons (gName k) gNil)))) (fun _ H Q => Q true H)
  (tTupZ (tCons (tVar i) (tCons (tVar j) (tCons (tCB (rList K) (tCons (tVar k) tNil)) tNil)))) [i, j, k]
theorem copy_lc {F H : Hp} {s : L2.St} {Q : VK} {src i j k : Nat} {p : Addr} {tV : List V} {M : List PyData} (hs : s[src]? = some (some (V.ref p))) (hp : SqL K H p tV) (hM : All2 (HRow K ax F H) tV M) (hl : M.length < sizeLine) (nij : i ≠ j) (nik : i ≠ k) (njk : j ≠ k) (hi : i < s.length) (hj : j < s.length) (hk : k < s.length)
    (q : ∀ D H' accV, Same (upd H D (.lst [])) (upd H' D (.lst [])) → H D = none → H' D = some (.lst accV) → All2 (HRowN K ax F (upd H D (.lst [])) H') accV M → Q (.ref D) H') : tCopy K src i j k s H Q := by
  refine ⟨_, hs, p, rfl, ⟨_, hp⟩, fun D nD => ?_⟩
  have s0 : Same H (upd H D (.lst [])) := same_upd' nD
  have hlen := hM.len
  refine ⟨fun n m H' => m = tV.length - n ∧ n ≤ tV.length ∧ Same (upd H D (.lst [])) (upd H' D (.lst [])) ∧ ∃ accV, H' D = some (.lst accV) ∧ All2 (HRowN K ax F (upd H D (.lst [])) H') accV (M.take n), ⟨_, rfl, Nat.zero_le _, ?_, [], upd_same, by rw [List.take_zero]; exact .nil⟩, ?_⟩
  · intro a o h
    by_cases ha : a = D
    · subst ha; rw [upd_same] at h ⊢; exact h
    · rw [upd_ne ha, upd_ne ha]; rw [upd_ne ha] at h; exact h
  rintro n m H' ⟨rfl, hn, sm, accV, hD, hA⟩
  have sm' : Same H H' := fun a o h => by
    have ha : a ≠ D := ne_of_none h nD
    have := sm a o (s0 a o h)
    rw [upd_ne ha] at this
    exact this
  by_cases hlt : n < tV.length
  · refine .inr ⟨⟨tV, tV[n], same_l sm' hp, by simp⟩, fun H2 => n + 1 ≤ tV.length ∧ Same (upd H D (.lst [])) (upd H2 D (.lst [])) ∧ ∃ accV, H2 D = some (.lst accV) ∧ All2 (HRowN K ax F (upd H D (.lst [])) H2) accV (M.take (n + 1)), ?_, ?_⟩
    · rintro H2 ⟨z1, z2, z3⟩
      exact ⟨_, by omega, rfl, z1, z2, z3⟩
    · intro x H2 y
      obtain ⟨rfl, hy⟩ := y
      have ex := hy tV (same_l sm' hp)
      obtain ⟨d, ed, hrow⟩ := hM.at ex
      obtain ⟨t, gv, bv, qa, mV, g, b, ms, rfl, rfl, h3, h4, h5, h6, h7⟩ := hrow
      refine ⟨t, _, rfl, same_t sm' h3.t, rfl, gv, _, rfl, bv, _, rfl, .ref qa, _, rfl, rfl, wipe3, ?_⟩
      show if true = true then _ else _
      rw [if_pos rfl]
      have l0 : (L2.wipe s [i, j, k]).length = s.length := wipe_length ..
      refine ⟨gv, ?_, bv, ?_, .ref qa, ?_, qa, mV, rfl, .inl (same_l sm' h6), fun l nl => ⟨by simp; decide, fun t2 o2 nt od => ?_⟩⟩
      · rw [List.getElem?_set_ne (Ne.symm nik), List.getElem?_set_ne (Ne.symm nij), List.getElem?_set_self (by rw [l0]; exact hi)]
      · rw [List.getElem?_set_ne (Ne.symm njk), List.getElem?_set_self (by rw [List.length_set, l0]; exact hj)]
      · rw [List.getElem?_set_self (by rw [List.length_set, List.length_set, l0]; exact hk)]
      have nlD : l ≠ D := fun e => by rw [e, hD] at nl; cases nl
      have nt' : H2 t2 = none := by
        by_cases e : t2 = l
        · subst e; rw [upd_same] at nt; cases nt
        · rw [upd_ne e] at nt; exact nt
      have ntl : t2 ≠ l := fun e => by subst e; rw [upd_same] at nt; cases nt
      have ntD : t2 ≠ D := fun e => by rw [e, hD] at nt'; cases nt'
      have g1 : ∀ a o, H2 a = some o → (upd (upd H2 l (.lst mV)) t2 (.frz o2 (.tup [gv, bv, .ref l]))) a = some o := fun a o h => by
        rw [upd_ne (ne_of_none h nt'), upd_ne (ne_of_none h nl)]; exact h
      have bl : ∀ a, H2 a = none → a ≠ D → (upd H D (.lst [])) a = none := fun a h ne => by
        rw [upd_ne ne]
        exact sm'.free h
      refine ⟨accV, g1 _ _ hD, ?_, by omega, ?_, _, upd_same, ?_⟩
      · rw [hA.len, List.length_take]; omega
      · intro a o h
        have := sm a o h
        by_cases ha : a = D
        · subst ha; rw [upd_same] at this ⊢; exact this
        · rw [upd_ne ha] at this
          rw [upd_ne ha, upd_ne ha]
          exact g1 a o this
      · have eM : M.take (n + 1) = M.take n ++ [PyData.tuple [g, b, .list ms]] := by
          rw [List.take_succ, ed]; rfl
        rw [eM]
        have so : SameOn (upd H D (.lst [])) H2 (upd (upd (upd H2 l (.lst mV)) t2 (.frz o2 (.tup [gv, bv, .ref l]))) D (.lst (accV ++ [.ref t2]))) := fun a o h nb => by
          have ha : a ≠ D := fun e => by subst e; rw [upd_same] at nb; cases nb
          rw [upd_ne ha]; exact g1 a o h
        refine (hA.imp fun _ _ h => h.keep so).snoc ⟨t2, o2, gv, bv, l, mV, g, b, ms, rfl, rfl, ?_, od, h4, h5, ?_, h7, bl _ nt' ntD, bl _ nl nlD⟩
        · rw [upd_ne ntD, upd_same]
        · rw [upd_ne nlD, upd_ne (Ne.symm ntl), upd_same]
  · have en : n = tV.length := by omega
    subst en
    refine .inl ⟨⟨tV, same_l sm' hp, Nat.le_refl _⟩, q D H' accV sm nD hD ?_⟩
    rw [hlen, List.take_length] at hA
    exact hA
end
end DL

set_option Elab.async false
set_option linter.all false
set_option maxRecDepth 100000
/-! Instances: __init__, and the call of the class. -/
noncomputable section
namespace DL
open PySem L2

section
variable {X : Cx} {c : Cc} {e a b : Expr} {f g : Ef} {pos : Pos} {sf sg : Sf} {st : Stmt} {rest : List Stmt}
/-! ### blocks that leave the slots' values -/
def tsV (c : Cc) (g : Sf) : TS := fun D s H => ∃ r F r', Rel c r s H F ∧ g r = some (.nx r') ∧ ∀ H' F', Rel c r' s H' F' → Same F F' → D.nx s H'
theorem dsA_one (h : PS X st (tsV c sf)) : PSs X [st] (tsV c sf) := pss_one h
theorem dsA_cons (h1 : PS X st (tsV c sf)) (h2 : PSs X rest (tsV c sg)) : PSs X (st :: rest) (tsV c (sSeq sf sg)) := by
  refine PSs.weak (pss_cons h1 h2) fun D s H ⟨r, F, r', R, h, k⟩ => ?_
  unfold sSeq at h
  split at h
  · rename_i r1 e
    exact ⟨r, F, r1, R, e, fun H' F' R' sm => ⟨r1, F', r', R', h, fun H2 F2 R2 sm2 => k H2 F2 R2 (sm.trans sm2)⟩⟩
  · rename_i ne
    exact absurd h (ne r')
theorem ds_attrA {i : Nat} {n : Str} {C : Addr} {pos' : Pos} (hv : PE X a (tVar i)) (he : PE X e (teD c f)) (wc : WC c.K C) (cl : Cls c.K C) (na : NoAttr c.K C n) (hK : X.K = c.K := by rfl) (hs : swapsWith e (some (.Attribute a n pos')) pos.line X.env = pure false := by rfl) :
    PS X (.Assign [.Attribute a n pos'] e pos) (tsV c (sAttr i n f)) := by
  refine PS.weak (ps_fld hv he hs) fun D s H ⟨r, F, r', R, h, k⟩ => ?_
  rw [hK]
  unfold sAttr at h
  split at h
  · rename_i fs eo
    split at h
    · rename_i z
      cases ef : f r with
      | none => rw [ef] at h; cases h
      | some y =>
        cases y with
        | error e => rw [ef] at h; cases h
        | ok d =>
          rw [ef] at h
          cases h
          refine ⟨r, F, R, ?_⟩
          rw [ef]
          intro H1 F1 R1 m1 v hv
          obtain ⟨p, C', dx, fV, q1, q2, q3, q4, q5, q6, q7⟩ := R1.mineO eo
          cases wc_eq wc q2
          exact ⟨_, q1, p, C, dx, fV, rfl, q3, cl, na, by rw [frel_len q7]; exact z.2, k _ _ (R1.writeO eo q1 z.1 wc q4 q5 q6 (frel_put hv q7)) m1.f⟩
    · cases h
  · cases h

/-! ### __init__ -/
theorem HRow.dq {K : PySem.W.Frag} {ax : XN → Addr} {F H : Hp} {v : V} {d : PyData} (h : HRow K ax F H v d) (e : Same F H) : Dq K ax H v d := by
  obtain ⟨t, gv, bv, q, mV, g, b, ms, rfl, rfl, h3, h4, h5, h6, h7⟩ := h
  exact .tup h3 (.cons (dp_same e h4) (.cons (dp_same e h5) (.cons (.lst h6 (dpAll_same e h7)) .nil)))
theorem rows_dq {K : PySem.W.Frag} {ax : XN → Addr} {F H : Hp} {tV : List V} {M : List PyData} (h : All2 (HRow K ax F H) tV M) (e : Same F H) : DqAll K ax H tV M := by
  induction h with
  | nil => exact .nil
  | cons h1 _ ih => exact .cons (h1.dq e) ih
/-- what is new is frozen -/
def frs (B H F : Hp) : Hp := fun a => if B a = none then H a else F a
theorem HRowN.frz {K : PySem.W.Frag} {ax : XN → Addr} {F B H G : Hp} {v : V} {d : PyData} (h : HRowN K ax F B H v d) (e : Same F G) (k : ∀ a, B a = none → G a = H a) : Dq K ax G v d := by
  obtain ⟨t, o, gv, bv, q, mV, g, b, ms, rfl, rfl, h3, h4, h5, h6, h7, h8, h9, h10⟩ := h
  refine .tup (.inl ⟨o, by rw [k t h9]; exact h3, h4⟩) (.cons (dp_same e h5) (.cons (dp_same e h6) (.cons (.lst (SqL.of (by rw [k q h10]; exact h7)) (dpAll_same e h8)) .nil)))
theorem rows_frz {K : PySem.W.Frag} {ax : XN → Addr} {F B H G : Hp} {tV : List V} {M : List PyData} (h : All2 (HRowN K ax F B H) tV M) (e : Same F G) (k : ∀ a, B a = none → G a = H a) : DqAll K ax G tV M := by
  induction h with
  | nil => exact .nil
  | cons h1 _ ih => exact .cons (h1.frz e k) ih
/-- the promise of __init__: what it makes of a machine -/
def spInit (K : PySem.W.Frag) (ax : XN → Addr) (phi : List PyData → M (List (Str × PyData))) : Sp := fun vs H Q E => ∃ x C dx p0 tV M F, vs = [V.ref x, .ref p0] ∧ WC K C ∧ H x = some (.ins C dx []) ∧ H dx = some (.own x) ∧ Same F H ∧ F x = none ∧ F dx = none ∧ SqL K H p0 tV ∧ All2 (HRow K ax F H) tV M ∧ match phi M with
  | some (.ok fs) => ∀ H' F' fV dx', Same F F' → Same F' H' → (∀ a o, H a = some o → a ≠ x → H' a = some o) → (∀ a o, H a = some o → F a = none → a ≠ dx → F' a = none) → H' x = some (.ins C dx' fV) → F' dx' = some (.own x) → F' x = none → FRel K ax F' fV fs → Q .non H'
  | some (.error e) => ∀ H', Same H H' → E (.ref (ax e)) none H'
  | none => False
def runInit (n : Nat) (phiL : List PyData → M PyData) (g : Sf) : List PyData → M (List (Str × PyData)) := fun M => if M.length < lim then bnd (phiL [.list M]) fun _ => (match g (some (B.obj [("machine", .list M)]) :: List.replicate (n - 1) none) with
  | some (.nx r') => (match (r'[0]? : Option (Option B)) with | some (some (.obj fs)) => ok fs | _ => none)
  | _ => none) else none
theorem okInit {P : Program} {w : World} {K : PySem.W.Frag} {ax : XN → Addr} {mg : Str → Option Value} {base : Heap} {x qual : Str} {st0 st1 st2 : Stmt} {rest : List Stmt} {fa C : Addr} {fd : FuncData} {N : List Str} {p1 p2 : Str} {k i j l : Nat} {phiL : List PyData → M PyData} {g : Sf} (Fn : Fun K x qual st0 fa fd) (S : FnScope N [p1, p2] (defScope st0)) (wc : WC K C) (cl : Cls K C) (na : NoAttr K C "machine")
    (nij : i ≠ j) (nil : i ≠ l) (njl : j ≠ l) (hi : i < N.length) (hj : j < N.length) (hl : l < N.length) (hN : 2 ≤ N.length) (eb : defBody st0 = st1 :: st2 :: rest)
    (h1 : ∀ (cdv : Value) (A : Around) (outer : List Env) (s : Shared) (H : Hp) (E : XK), Room k (A.deeper (PyProof.Rows.envOfC qual (defScope st0) s.heap.objs.size fa cdv)) →
      PS (cxOf (L2.CX P w) P w K mg base N qual (defScope st0) fa cdv A outer s H E) st1 (tDrop (tCallS (spD K ax phiL) (WE fun cls d _ H => E cls d H) (tCons (tVar 1) tNil))))
    (h2 : ∀ (cdv : Value) (A : Around) (outer : List Env) (s : Shared) (H : Hp) (E : XK), Room k (A.deeper (PyProof.Rows.envOfC qual (defScope st0) s.heap.objs.size fa cdv)) →
      PS (cxOf (L2.CX P w) P w K mg base N qual (defScope st0) fa cdv A outer s H E) st2 (sFld K (tVar 0) (tCopy K 1 i j l) "machine"))
    (h3 : ∀ (cdv : Value) (A : Around) (outer : List Env) (s : Shared) (H H0 F : Hp) (E : XK), Room k (A.deeper (PyProof.Rows.envOfC qual (defScope st0) s.heap.objs.size fa cdv)) →
      PSs (cxOf (L2.CX P w) P w K mg base N qual (defScope st0) fa cdv A outer s H E) rest (tsV ⟨K, H0, F, ax, fun cls d _ H => E cls d H, P, w⟩ g)) :
    FnOk P w K mg base (L2.CX P w) (k + 1) fa fd [p1, p2] (spInit K ax (runInit N.length phiL g)) := by
  refine Fn.okX S (fun vs H Q E h => ?_) (fun cdv A outer s H vs Q E hr h => ?_)
  · obtain ⟨x, C, dx, p0, tV, M, F, rfl, _⟩ := h
    rfl
  · obtain ⟨x, C', dx, p0, tV, M, F, rfl, wc', hx, hdx, sm, nx, ndx, hp, hM, h⟩ := h
    cases wc_eq wc wc'
    rw [eb]
    refine ⟨_, pss_cons (h1 cdv A outer s H E hr) (pss_cons (h2 cdv A outer s H E hr) (h3 cdv A outer s H (drp H x) (upd F dx (.own x)) E hr)), ?_⟩
    refine ⟨V.ref p0, rfl, [.list M], H, Same.refl H, .cons (.lst hp (rows_dq hM sm)) .nil, ?_⟩
    unfold runInit at h
    by_cases hml : M.length < lim
    · rw [if_pos hml] at h
      cases e1 : phiL [.list M] with
      | none => rw [e1] at h; exact h.elim
      | some y =>
      rw [e1] at h
      cases y with
      | error e => exact fun H' F' mm => h H' mm.h
      | ok y =>
      intro v H1 F1 m1 _
      have s1 : Same H H1 := m1.h
      have hs0 : (L2.start N [V.ref x, .ref p0]).length = N.length := by unfold L2.start; simp; omega
      have hM1 : All2 (HRow K ax F H1) tV M := hM.imp fun _ _ h => h.same s1
      dsimp only [tSeq, sFld]
      refine copy_lc (src := 1) (F := F) (p := p0) rfl (same_l s1 hp) hM1 (lim_lt hml) nij nil njl (by rw [hs0]; exact hi) (by rw [hs0]; exact hj) (by rw [hs0]; exact hl) fun Dl H2 accV sm2 nD hD hA => ?_
      have s2 : Same H1 H2 := fun a o h => by
        have ha : a ≠ Dl := ne_of_none h nD
        have := sm2 a o (by rw [upd_ne ha]; exact h)
        rw [upd_ne ha] at this; exact this
      have hx2 := s2 _ _ (s1 _ _ hx)
      have hdx2 := s2 _ _ (s1 _ _ hdx)
      have ndx' : dx ≠ x := fun e => by rw [e] at hdx; rw [hx] at hdx; cases hdx
      refine ⟨V.ref x, rfl, x, C, dx, [], rfl, hx2, cl, na, by decide, ?_⟩
      -- what is frozen now
      let F0 : Hp := upd F dx (.own x)
      have sF0 : Same F F0 := same_upd' ndx
      have sF0H1 : Same F0 H1 := fun a o h => by
        by_cases ha : a = dx
        · subst ha; rw [show F0 a = some (.own x) from upd_same] at h; cases h; exact s1 _ _ hdx
        · rw [show F0 a = F a from upd_ne ha] at h; exact s1 _ _ (sm a o h)
      let G : Hp := frs H1 H2 F0
      have sG : Same F0 G := fun a o h => by
        show (if H1 a = none then H2 a else F0 a) = some o
        rw [if_neg (by rw [sF0H1 a o h]; exact fun z => by cases z)]; exact h
      have gN : ∀ a, H1 a = none → G a = H2 a := fun a h => if_pos h
      have gO : ∀ a, H1 a ≠ none → G a = F0 a := fun a h => if_neg h
      have nGx : G x = none := by
        rw [gO x (by rw [s1 _ _ hx]; exact fun z => by cases z), show F0 x = F x from upd_ne (Ne.symm ndx')]; exact nx
      have sGH2 : Same G H2 := fun a o h => by
        by_cases z : H1 a = none
        · rw [gN a z] at h; exact h
        · rw [gO a z] at h; exact s2 _ _ (sF0H1 _ _ h)
      have dM : Dq K ax G (.ref Dl) (.list M) := by
        refine .lst (SqL.of (by rw [gN Dl nD]; exact hD)) (rows_frz hA (sF0.trans sG) fun a h => ?_)
        by_cases ha : a = Dl
        · subst ha; rw [upd_same] at h; cases h
        · rw [upd_ne ha] at h; exact gN a h
      have sub3 : Same G (upd H2 x (.ins C dx (putF "machine" (.ref Dl) []))) := fun a o h => by
        rw [upd_ne (ne_of_none h nGx)]; exact sGH2 a o h
      have R : Rel ⟨K, drp H x, F0, ax, fun cls d _ H => E cls d H, P, w⟩ (some (B.obj [("machine", .list M)]) :: List.replicate (N.length - 1) none) (L2.start N [V.ref x, .ref p0]) (upd H2 x (.ins C dx (putF "machine" (.ref Dl) []))) G := by
        refine ⟨⟨sub3, sG, fun q o e n => ?_⟩, ?_, fun i b e => ?_, fun i j xs ys q e1 => ?_⟩
        · have e : drp H x q = some o := e
          have n : F0 q = none := n
          have hq : q ≠ x := fun z => by subst z; rw [drp_self] at e; cases e
          rw [drp_ne hq] at e
          rw [upd_ne hq]
          refine ⟨s2 _ _ (s1 _ _ e), ?_⟩
          rw [gO q (by rw [s1 _ _ e]; exact fun z => by cases z)]
          exact n
        · rw [hs0]; simp; omega
        · cases i with
          | zero => cases e; exact ⟨_, rfl, C, dx, _, wc, upd_same, sG _ _ upd_same, nGx, drp_self, rfl, .cons dM .nil⟩
          | succ i => exact (rep_no e).elim
        · cases i with
          | zero => cases e1
          | succ i => exact (rep_no e1).elim
      rw [show (some (Except.ok y) : Option (Except XN PyData)) = ok y from rfl, bnd_ok] at h
      cases e2 : g (some (B.obj [("machine", .list M)]) :: List.replicate (N.length - 1) none) with
      | none => rw [e2] at h; exact h.elim
      | some z =>
        have h' := h
        rw [e2] at h'
        cases z with
        | nx r' =>
          refine ⟨_, G, r', R, e2, fun H' F' R' sm' => ?_⟩
          dsimp only at h'
          split at h'
          · rename_i fs' er
            split at er
            · rename_i fs eo
              cases er
              obtain ⟨p', C', dx', fV', q1, q2, q3, q4, q5, q6, q7⟩ := R'.mineO eo
              cases q1
              cases wc_eq wc q2
              have kp := R'.fr.kept
              refine h' H' F' fV' dx' ((sF0.trans sG).trans sm') R'.fr.sub (fun q o e ne => ?_) (fun q o e n nd => ?_) q3 q4 q5 q7
              · cases hF : F0 q with
                | none => exact (kp q o (by show drp H x q = _; rw [drp_ne ne]; exact e) hF).1
                | some o2 =>
                  have z := sF0H1 q o2 hF
                  rw [s1 _ _ e] at z; cases z
                  exact R'.fr.sub q o (R'.fr.old q o hF)
              · by_cases hq : q = x
                · subst hq; exact q5
                · exact (kp q o (by show drp H x q = _; rw [drp_ne hq]; exact e) (by show F0 q = none; rw [show F0 q = F q from upd_ne nd]; exact n)).2
            · cases er
          · rename_i er
            split at er <;> cases er
          · exact h'.elim
        | rt d => exact h'.elim
        | bk r => exact h'.elim
        | ct r => exact h'.elim
        | er e r => exact h'.elim
    · rw [if_neg hml] at h; exact h.elim
end
end DL

set_option Elab.async false
set_option linter.all false
set_option maxRecDepth 100000
/-! Instances: the call of the class; a machine handed in and changed behind. -/
noncomputable section
namespace DL
open PySem L2

section
variable {X : Cx} {CX : CXT} {k : Nat} {f C : Addr} {fd : FuncData} {ps : List Str} {sp : Sp} {E : L2.St → XK} {x : Str} {p pos : Pos} {e : Expr} {es : List Expr} {t : TA}
/-- C(e, ..), its exceptions as they are wanted here -/
theorem run_makeS {pins : List (Addr × Obj)} {σ : L2.St} {H : Hp} {s : Shared} {Q : VK} {us : List Value} {vs : List V} (M : Mk X.K C f) (F : FnOk X.prog X.w X.K X.mg X.base CX k f fd ps sp) (hr : Room (k + 1) X.A) (hb : Binds X.K fd ps []) (hx : PassesAt CX X σ (E σ)) (I : Inv X pins σ H s) (r : Vals vs us)
    (h : ∀ x dx, H x = none → H dx = none → dx ≠ x → sp (.ref x :: vs) (upd (upd H dx (.own x)) x (.ins C dx [])) (fun v H2 => v = .non ∧ Q (.ref x) H2) (E σ)) :
    wpAny (model X.prog X.w) X.A (call (.ref C) us) (EP X pins σ Q) X.xe s := by
  have hq := h (s.heap.objs.size + 1) s.heap.objs.size (I.hok.fresh (Nat.le_succ _)) (I.hok.fresh (Nat.le_refl _)) (Nat.ne_of_lt (Nat.lt_succ_self _))
  have I2 := Inv.made (C := C) I
  have r2 : Vals (V.ref (s.heap.objs.size + 1) :: vs) (Value.ref (s.heap.objs.size + 1) :: us) := .cons rfl r
  have hl : (Value.ref (s.heap.objs.size + 1) :: us ++ []).length = ps.length := by
    have e := r2.length
    rw [F.len _ _ _ _ hq] at e
    rw [List.append_nil]
    exact e.symm
  have b := hb _ (Value.ref (s.heap.objs.size + 1) :: us) I2.kIn hl
  rw [List.append_nil] at b
  refine wpAny_call (make_map (f := f) I.kIn M.makes M.init (beq_iff_eq.mp M.fn) (codeAny_mono (F.run _ X.stack _ _ ⟨Value.ref (s.heap.objs.size + 1) :: us, []⟩ (Value.ref (s.heap.objs.size + 1) :: us) _ _ (E σ) (hr.make C us []) (I2.env0.make C us []) b r2 hq) fun r s' hq' => ?_))
  cases r with
  | error e => exact hx pins _ _ e s' I2 hq'
  | ok fl =>
    cases fl with
    | ret u =>
      obtain ⟨v, H', I3, rv, ev, q3⟩ := I2.after hq'
      subst ev
      exact ⟨rv, ⟨V.ref (s.heap.objs.size + 1), H', I3, rfl, q3⟩⟩
    | next => exact False.elim hq'
    | brk => exact False.elim hq'
    | cont => exact False.elim hq'
def tMakeS (C : Addr) (sp : Sp) (E : L2.St → XK) (t : TA) : TE := fun σ H Q => t σ H fun vs H1 => ∀ x dx, H1 x = none → H1 dx = none → dx ≠ x →
  sp (.ref x :: vs) (upd (upd H1 dx (.own x)) x (.ins C dx [])) (fun v H2 => v = .non ∧ Q (.ref x) H2) (E σ)
theorem pe_makeS (M : Mk X.K C f) (F : FnOk X.prog X.w X.K X.mg X.base CX k f fd ps sp) (hr : Room (k + 1) X.A) (hg : Gl X x) (hm : X.mg x = some (.ref C)) (hb : Binds X.K fd ps []) (hx : ∀ σ, PassesAt CX X σ (E σ))
    (ha : PA X (e :: es) t) (hdb : (x == ("__debug__" : Str)) = false := by decide) (he : starEach (e :: es) X.env = (false, eval e X.env) :: starEach es X.env := by rfl) (hpl : (backTo pos (starEach es X.env)).any (·.1) = false := by rfl) :
    PE X (.Call (.Name x p) (e :: es) [] pos) (tMakeS C sp E t) := by
  refine ⟨fun pins s σ H Q I h => ?_⟩
  refine wpAny_Call_Name_kw (ld_glob I hg hm ?_ hdb)
  refine PySem.W.callWith_K (h₀ := X.base) I.ok.mod.kin M.kp (thn (ha.run pos pins s σ H _ I h) fun us s1 ⟨vs, H1, I1, r, q⟩ => ⟨I1.kIn, ?_⟩) he hpl
  exact run_makeS M F hr hb (hx σ) I1 r q
end

section
variable {X : Cx} {c : Cc} {e a b : Expr} {f g : Ef} {pos : Pos} {sf sg : Sf} {st : Stmt} {rest : List Stmt}
/-- C([]), where it raises -/
def eMkErr (phi : List PyData → M (List (Str × PyData))) (f : Ef) : Ef := fun r => bnd (f r) fun d => match d with
  | .list [] => (match phi [] with | some (.error e) => some (.error e) | _ => none)
  | _ => none
theorem de_mkErr {phi : List PyData → M (List (Str × PyData))} {C fi : Addr} {fd : FuncData} {ps : List Str} {x : Str} {p : Pos} {k : Nat} (M : Mk X.K C fi) (Fo : FnOk X.prog X.w X.K X.mg X.base (L2.CX X.prog X.w) k fi fd ps (spInit c.K c.ax phi)) (hr : Room (k + 1) X.A) (hg : Gl X x) (hm : X.mg x = some (.ref C)) (hb : Binds X.K fd ps [])
    (tk : Takes X c.W) (wc : WC c.K C) (ha : PE X e (teD c f)) (hs : starEach [e] X.env = (false, eval e X.env) :: starEach [] X.env := by rfl) (hdb : (x == ("__debug__" : Str)) = false := by decide) (hpl : (backTo pos (starEach [] X.env)).any (·.1) = false := by rfl) :
    PE X (.Call (.Name x p) [e] [] pos) (teD c (eMkErr phi f)) := by
  refine PE.weak (pe_makeS M Fo hr hg hm hb (fun _ => passAt tk _) (pa_cons ha pa_nil hs) hdb hs hpl) fun s H Q ⟨r, F, R, h⟩ => ?_
  refine ⟨r, F, R, h.bnd.imp fun d H1 F1 R1 m1 k1 v hv => ?_⟩
  intro x dx nx ndx ne
  split at k1
  · split at k1
    · rename_i er ep
      cases hv with
      | lst h1 h2 =>
        cases h2
        have s2 : Same H1 (upd (upd H1 dx (.own x)) x (.ins C dx [])) := fun a o h => by rw [upd_ne (ne_of_none h nx), upd_ne (ne_of_none h ndx)]; exact h
        refine ⟨x, C, dx, _, [], [], F1, rfl, wc, upd_same, by rw [upd_ne ne, upd_same], R1.fr.sub.trans s2, R1.fr.newF nx, R1.fr.newF ndx, same_l (R1.fr.sub.trans s2) h1, .nil, ?_⟩
        rw [ep]
        intro H' sm
        have mm : More H1 F1 H' F1 := ⟨Same.refl _, s2.trans sm, (R1.fr.sub.trans s2).trans sm, fun _ _ _ n => n⟩
        exact k1 H' F1 (R1.more mm) mm
    · exact k1.elim
  · exact k1.elim

/-! ### the machine handed in -/
theorem Rel.put {r : Rho} {s : L2.St} {H F : Hp} {i : Nat} {v : Option V} (R : Rel c r s H F) (e : r[i]? = some none) : Rel c r (s.set i v) H F := by
  refine ⟨R.fr, by rw [List.length_set]; exact R.len, fun j b q => ?_, fun j k ys zs q e1 e2 e3 e4 => ?_⟩
  · have ne : j ≠ i := fun z => by subst z; rw [e] at q; cases q
    rw [List.getElem?_set_ne (Ne.symm ne)]
    exact R.cell j b q
  · have n1 : j ≠ i := fun z => by subst z; rw [e] at e1; cases e1
    have n2 : k ≠ i := fun z => by subst z; rw [e] at e2; cases e2
    rw [List.getElem?_set_ne (Ne.symm n1)] at e3
    rw [List.getElem?_set_ne (Ne.symm n2)] at e4
    exact R.apart j k ys zs q e1 e2 e3 e4
/-- a slot takes what is no list of the def's own -/
theorem Rel.setB {r : Rho} {s : L2.St} {H F : Hp} {i : Nat} {v : V} {b : B} (R : Rel c r s H F) (hi : i < r.length) (hb : CellOk c.P c.w c.K c.ax c.H0 H F (some b) (some v)) (nb : ∀ xs, b ≠ .own xs) : Rel c (r.set i (some b)) (s.set i (some v)) H F := by
  refine ⟨R.fr, by rw [List.length_set, List.length_set]; exact R.len, fun j b' e => ?_, fun j k xs ys p e1 e2 e3 e4 => ?_⟩
  · rcases set_get e with ⟨rfl, eb⟩ | ⟨ne, e'⟩
    · cases eb
      exact ⟨v, List.getElem?_set_self (by rw [R.len]; exact hi), hb⟩
    · obtain ⟨w, q1, q2⟩ := R.cell j b' e'
      exact ⟨w, by rw [List.getElem?_set_ne (Ne.symm ne)]; exact q1, q2⟩
  · rcases set_get e1 with ⟨_, eb⟩ | ⟨n1, e1'⟩
    · cases eb; exact absurd rfl (nb _)
    · rcases set_get e2 with ⟨_, eb⟩ | ⟨n2, e2'⟩
      · cases eb; exact absurd rfl (nb _)
      · rw [List.getElem?_set_ne (Ne.symm n1)] at e3
        rw [List.getElem?_set_ne (Ne.symm n2)] at e4
        exact R.apart j k xs ys p e1' e2' e3 e4
/-- no slot that is known holds it -/
def Free (r : Rho) (s : L2.St) (p : Addr) : Prop := ∀ (j : Nat) (b : B), r[j]? = some (some b) → (∀ x, b ≠ .d x) → s[j]? ≠ some (some (V.ref p))
theorem Free.put {r : Rho} {s : L2.St} {p : Addr} {i : Nat} {v : Option V} (h : Free r s p) (e : r[i]? = some none) : Free r (s.set i v) p := fun j b q nd => by
  have ne : j ≠ i := fun z => by subst z; rw [e] at q; cases q
  rw [List.getElem?_set_ne (Ne.symm ne)]
  exact h j b q nd
theorem Free.forget {r : Rho} {s : L2.St} {p : Addr} {i : Nat} (h : Free r s p) : Free (r.set i none) s p := fun j b q nd => by
  rcases set_get q with ⟨_, eb⟩ | ⟨ne, e'⟩
  · cases eb
  · exact h j b e' nd
theorem Free.setB {r : Rho} {s : L2.St} {p x : Addr} {i : Nat} {b : B} (h : Free r s p) (hi : i < s.length) (ne : x ≠ p) : Free (r.set i (some b)) (s.set i (some (.ref x))) p := fun j b' q nd => by
  rcases set_get q with ⟨rfl, eb⟩ | ⟨n, e'⟩
  · rw [List.getElem?_set_self hi]
    intro z
    cases z
    exact ne rfl
  · rw [List.getElem?_set_ne (Ne.symm n)]
    exact h j b' e' nd
/-- one of the heap's objects that is nobody's -/
structure Mine (c : Cc) (r : Rho) (s : L2.St) (F : Hp) (p : Addr) : Prop where
  fF : F p = none
  f0 : c.H0 p = none
  free : Free r s p
/-- the machine handed in, as it stands -/
structure HdOk (c : Cc) (r : Rho) (ih : Nat) (D : Addr) (accV : List V) (s : L2.St) (H F : Hp) : Prop where
  rel : Rel c r s H F
  at_ : s[ih]? = some (some (V.ref D))
  none_ : r[ih]? = some none
  hD : H D = some (.lst accV)
  mD : Mine c r s F D
  rows : ∀ v ∈ accV, ∃ t o gv bv q mV, v = V.ref t ∧ H t = some (.frz o (.tup [gv, bv, .ref q])) ∧ H q = some (.lst mV) ∧ mV ≠ [] ∧ q ≠ D ∧ Mine c r s F q
theorem Mine.more {r : Rho} {s : L2.St} {H F H' F' : Hp} {p : Addr} {o : HO} (h : Mine c r s F p) (e : H p = some o) (m : More H F H' F') : Mine c r s F' p := ⟨m.un _ _ e h.fF, h.f0, h.free⟩
theorem HdOk.more {r : Rho} {ih : Nat} {D : Addr} {accV : List V} {s : L2.St} {H F H' F' : Hp} (h : HdOk c r ih D accV s H F) (m : More H F H' F') : HdOk c r ih D accV s H' F' := by
  refine ⟨h.rel.more m, h.at_, h.none_, m.h _ _ h.hD, h.mD.more h.hD m, fun v hv => ?_⟩
  obtain ⟨t, o, gv, bv, q, mV, h1, h2, h3, h4, h5, h6⟩ := h.rows v hv
  exact ⟨t, o, gv, bv, q, mV, h1, m.h _ _ h2, m.h _ _ h3, h4, h5, h6.more h3 m⟩
theorem HdOk.put {r : Rho} {ih i : Nat} {D : Addr} {accV : List V} {s : L2.St} {H F : Hp} {v : Option V} (h : HdOk c r ih D accV s H F) (e : r[i]? = some none) (ne : i ≠ ih) : HdOk c r ih D accV (s.set i v) H F := by
  refine ⟨h.rel.put e, by rw [List.getElem?_set_ne ne]; exact h.at_, h.none_, h.hD, ⟨h.mD.fF, h.mD.f0, h.mD.free.put e⟩, fun v hv => ?_⟩
  obtain ⟨t, o, gv, bv, q, mV, h1, h2, h3, h4, h5, h6⟩ := h.rows v hv
  exact ⟨t, o, gv, bv, q, mV, h1, h2, h3, h4, h5, h6.fF, h6.f0, h6.free.put e⟩
theorem HdOk.setB {r : Rho} {ih i : Nat} {D x : Addr} {accV : List V} {s : L2.St} {H F : Hp} {b : B} (h : HdOk c r ih D accV s H F) (hi : i < r.length) (ne : i ≠ ih) (hb : CellOk c.P c.w c.K c.ax c.H0 H F (some b) (some (.ref x))) (nb : ∀ xs, b ≠ .own xs) (hx : ∃ C dx fV, H x = some (.ins C dx fV)) : HdOk c (r.set i (some b)) ih D accV (s.set i (some (.ref x))) H F := by
  have hi' : i < s.length := by rw [h.rel.len]; exact hi
  obtain ⟨C, dx, fV, hx⟩ := hx
  have nl : ∀ p mV, H p = some (.lst mV) → x ≠ p := fun p mV e z => by subst z; rw [hx] at e; cases e
  refine ⟨h.rel.setB hi hb nb, by rw [List.getElem?_set_ne ne]; exact h.at_, by rw [List.getElem?_set_ne ne]; exact h.none_, h.hD, ⟨h.mD.fF, h.mD.f0, h.mD.free.setB hi' (nl _ _ h.hD)⟩, fun v hv => ?_⟩
  obtain ⟨t, o, gv, bv, q, mV, h1, h2, h3, h4, h5, h6⟩ := h.rows v hv
  exact ⟨t, o, gv, bv, q, mV, h1, h2, h3, h4, h5, h6.fF, h6.f0, h6.free.setB hi' (nl _ _ h3)⟩
/-- one of its rows is written -/
theorem HdOk.write {r : Rho} {ih : Nat} {D q0 : Addr} {accV mV0 mV1 : List V} {s : L2.St} {H F : Hp} (h : HdOk c r ih D accV s H F) (hq : H q0 = some (.lst mV0)) (nD : q0 ≠ D) (m : Mine c r s F q0) (n1 : mV1 ≠ []) : HdOk c r ih D accV s (upd H q0 (.lst mV1)) F := by
  refine ⟨h.rel.other m.fF m.f0 m.free, h.at_, h.none_, by rw [upd_ne (Ne.symm nD)]; exact h.hD, h.mD, fun v hv => ?_⟩
  obtain ⟨t, o, gv, bv, q, mV, h1, h2, h3, h4, h5, h6⟩ := h.rows v hv
  have nt : t ≠ q0 := fun z => by subst z; rw [hq] at h2; cases h2
  by_cases e : q = q0
  · subst e
    exact ⟨t, o, gv, bv, q, mV1, h1, by rw [upd_ne nt]; exact h2, upd_same, n1, h5, h6⟩
  · exact ⟨t, o, gv, bv, q, mV, h1, by rw [upd_ne nt]; exact h2, by rw [upd_ne e]; exact h3, h4, h5, h6⟩
end
end DL

set_option Elab.async false
set_option linter.all false
set_option maxRecDepth 100000
/-! handed = [.. copied ..]; one = C(handed); other = C(handed); handed is changed behind. -/
noncomputable section
namespace DL
open PySem L2

section
variable {X : Cx} {c : Cc} {e a b : Expr} {f g : Ef} {pos : Pos} {sf sg : Sf} {st : Stmt} {rest : List Stmt}
def rowOk : PyData → Bool
  | .tuple [_, _, .list (_ :: _)] => true
  | _ => false
theorem rows_of {F H : Hp} (sm : Same F H) : ∀ {M : List PyData} {tV : List V}, DqAll c.K c.ax F tV M → M.all rowOk = true → All2 (HRow c.K c.ax F H) tV M
  | [], _, h, _ => by cases h; exact .nil
  | d :: M, _, h, z => by
    cases h with
    | cons h1 h2 =>
      rw [List.all_cons, Bool.and_eq_true] at z
      refine .cons ?_ (rows_of sm h2 z.2)
      have z1 := z.1
      unfold rowOk at z1
      split at z1
      · cases h1 with
        | tup g1 g2 =>
          cases g2 with
          | cons k1 k2 =>
            cases k2 with
            | cons k3 k4 =>
              cases k4 with
              | cons k5 k6 =>
                cases k6
                cases k5 with
                | lst l1 l2 => exact ⟨_, _, _, _, _, _, _, _, rfl, rfl, same_p sm g1, k1, k3, same_l sm l1, l2⟩
      · cases z1
theorem rowN_ok {F B H : Hp} {v : V} {d : PyData} (h : HRowN c.K c.ax F B H v d) (z : rowOk d = true) : ∃ t o gv bv q mV, v = V.ref t ∧ H t = some (.frz o (.tup [gv, bv, .ref q])) ∧ H q = some (.lst mV) ∧ mV ≠ [] ∧ B q = none := by
  obtain ⟨t, o, gv, bv, q, mV, g, b, ms, h1, rfl, h3, h4, h5, h6, h7, h8, h9, h10⟩ := h
  refine ⟨t, o, gv, bv, q, mV, h1, h3, h7, ?_, h10⟩
  rintro rfl
  cases h8
  cases z
/-- C(handed) -/
theorem make_handed {phi : List PyData → M (List (Str × PyData))} {r : Rho} {ih : Nat} {D C : Addr} {accV : List V} {M : List PyData} {s : L2.St} {H F : Hp} {fs : List (Str × PyData)} {E : XK} {Q : VK} (wc : WC c.K C) (h : HdOk c r ih D accV s H F) (hM : All2 (HRow c.K c.ax F H) accV M) (e : phi M = ok fs)
    (q : ∀ x H' F' dx' fV, More H F H' F' → H x = none → F' x = none → H' x = some (.ins C dx' fV) → F' dx' = some (.own x) → FRel c.K c.ax F' fV fs → Q (.ref x) H') :
    ∀ x dx, H x = none → H dx = none → dx ≠ x → spInit c.K c.ax phi [.ref x, .ref D] (upd (upd H dx (.own x)) x (.ins C dx [])) (fun v H2 => v = .non ∧ Q (.ref x) H2) E := by
  intro x dx nx ndx ne
  have s2 : Same H (upd (upd H dx (.own x)) x (.ins C dx [])) := fun a o h => by rw [upd_ne (ne_of_none h nx), upd_ne (ne_of_none h ndx)]; exact h
  have sm := h.rel.fr.sub
  refine ⟨x, C, dx, D, accV, M, F, rfl, wc, upd_same, by rw [upd_ne ne, upd_same], sm.trans s2, h.rel.fr.newF nx, h.rel.fr.newF ndx, same_l s2 (SqL.of h.hD), hM.imp fun _ _ z => z.same s2, ?_⟩
  rw [e]
  intro H' F' fV dx' sf sh kp un h1 h2 h3 h4
  refine ⟨rfl, q x H' F' dx' fV ⟨sf, fun a o z => kp a o (s2 a o z) (ne_of_none z nx), sh, fun a o z n => un a o (s2 a o z) n (ne_of_none z ndx)⟩ nx h3 h1 h2 h4⟩
theorem te_handed {phi : List PyData → M (List (Str × PyData))} {r : Rho} {ih : Nat} {D C : Addr} {accV : List V} {M : List PyData} {s : L2.St} {H F : Hp} {fs : List (Str × PyData)} {Q : VK} (wc : WC c.K C) (h : HdOk c r ih D accV s H F) (hM : All2 (HRow c.K c.ax F H) accV M) (e : phi M = ok fs)
    (q : ∀ x H' F' dx' fV, More H F H' F' → H x = none → F' x = none → H' x = some (.ins C dx' fV) → F' dx' = some (.own x) → FRel c.K c.ax F' fV fs → Q (.ref x) H') :
    tMakeS C (spInit c.K c.ax phi) (WE c.W) (tCons (tVar ih) tNil) s H Q :=
  ⟨V.ref D, h.at_, fun x dx n1 n2 n3 => make_handed wc h hM e (Q := Q) q x dx n1 n2 n3⟩
def hRho (r : Rho) (ig ib iv ih iw iz : Nat) (fs : List (Str × PyData)) : Rho := (((((r.set ig none).set ib none).set iv none).set ih none).set iw (some (.obj fs))).set iz (some (.obf fs))
def sHanded (im ig ib iv ih iw iz : Nat) (phi : List PyData → M (List (Str × PyData))) (fv fi f5 : Ef) (sg : Sf) : Sf := fun r => match r[im]? with
  | some (some (.d (.list M))) => if M.all rowOk = true ∧ M.length < lim ∧ ig < r.length ∧ ib < r.length ∧ iv < r.length ∧ ih < r.length ∧ iw < r.length ∧ iz < r.length then (match phi M with
    | some (.ok fs) => (match fv (hRho r ig ib iv ih iw iz fs), fi (hRho r ig ib iv ih iw iz fs), f5 (hRho r ig ib iv ih iw iz fs) with
      | some (.ok _), some (.ok (.int (-1))), some (.ok _) => sg (hRho r ig ib iv ih iw iz fs)
      | _, _, _ => none)
    | _ => none) else none
  | _ => none
theorem ixN_last {α : Type} {l : List α} (h : l ≠ []) : ∃ j, ixN l.length (-1) = some j := by
  have hl : 0 < l.length := by cases l with | nil => exact absurd rfl h | cons _ _ => simp
  unfold ixN
  rw [if_neg (by omega), if_pos (by omega)]
  exact ⟨_, rfl⟩
theorem set_same {r : Rho} {i : Nat} (e : r[i]? = some none) : r.set i none = r := by
  apply List.ext_getElem?
  intro j
  by_cases h : j = i
  · subst h
    rw [List.getElem?_set_self (List.getElem?_eq_some_iff.mp e).1, e]
  · rw [List.getElem?_set_ne (Ne.symm h)]
theorem seq_i {t u : TS} {D : Ends} {s : L2.St} {H : Hp} (h : t { D with nx := u D } s H) : tSeq t u D s H := h
theorem asg_i {te : TE} {g : TG} {D : Ends} {s : L2.St} {H : Hp} (h : te s H fun x H1 => g x s H1 D.nx) : tAsg te g D s H := h
theorem nam_i {i : Nat} {v : V} {s : L2.St} {H : Hp} {Q : L2.St → Hp → Prop} (h : Q (s.set i (some v)) H) : gName i v s H Q := h
theorem gn {r : Rho} {i j : Nat} {b : Option B} (h : r[i]? = some none) (e : j = i → b = none) (hl : j < r.length) : (r.set j b)[i]? = some none := by
  by_cases z : j = i
  · subst z
    rw [List.getElem?_set_self hl, e rfl]
  · rw [List.getElem?_set_ne z]; exact h
theorem ds_handed {im ig ib iv ih iw iz : Nat} {phi : List PyData → M (List (Str × PyData))} {fv fi f5 : Ef} {st1 st2 st3 st4 st5 : Stmt} {C : Addr} (wc : WC c.K C)
    (ngb : ig ≠ ib) (ngv : ig ≠ iv) (nbv : ib ≠ iv) (ngh : ig ≠ ih) (nbh : ib ≠ ih) (nvh : iv ≠ ih) (nwg : iw ≠ ig) (nwb : iw ≠ ib) (nwv : iw ≠ iv) (nwh : iw ≠ ih) (nzg : iz ≠ ig) (nzb : iz ≠ ib) (nzv : iz ≠ iv) (nzh : iz ≠ ih) (nwz : iw ≠ iz)
    (h1 : PS X st1 (tAsg (tCopy c.K im ig ib iv) (gName ih)))
    (h2 : PS X st2 (tAsg (tMakeS C (spInit c.K c.ax phi) (WE c.W) (tCons (tVar ih) tNil)) (gName iw)))
    (h3 : PS X st3 (tAsg (tMakeS C (spInit c.K c.ax phi) (WE c.W) (tCons (tVar ih) tNil)) (gName iz)))
    (h4 : PS X st4 (tFor (iList c.K (tVar ih)) (gTup c.K 3 (gCons (gName ig) (gCons (gName ib) (gCons (gName iv) gNil)))) (tAsg (teD c fv) (gSub (tVar iv) (teB c fi) rSetL))))
    (h5 : PS X st5 (tDrop (tBM c.K "list" rAppend (tVar ih) (tCons (teD c f5) tNil))))
    (h6 : PSs X rest (tsD c sg)) : PSs X (st1 :: st2 :: st3 :: st4 :: st5 :: rest) (tsD c (sHanded im ig ib iv ih iw iz phi fv fi f5 sg)) := by
  refine PSs.weak (pss_cons h1 (pss_cons h2 (pss_cons h3 (pss_cons h4 (pss_cons h5 h6))))) fun Ds s H ⟨r, F, R, h⟩ => ?_
  unfold sHanded at h
  split at h
  rotate_left
  · exact h.elim
  rename_i M em
  split at h
  rotate_left
  · exact h.elim
  rename_i z
  obtain ⟨zr, zl, lg, lb, lv, lh, lw, lz⟩ := z
  split at h
  rotate_left
  · exact h.elim
  rename_i fs ep
  split at h
  rotate_left
  · exact h.elim
  rename_i dv d5 efv efi ef5
  obtain ⟨v0, q1, hv0⟩ := R.data em
  cases hv0 with
  | lst hp hM0 =>
  rename_i p0 tV
  have hM := rows_of R.fr.sub hM0 zr
  -- handed = [..]
  refine seq_i (asg_i ?_)
  refine copy_lc (src := im) (F := F) (p := p0) q1 (same_l R.fr.sub hp) hM (lim_lt zl) ngb ngv nbv (by rw [R.len]; exact lg) (by rw [R.len]; exact lb) (by rw [R.len]; exact lv) fun Da H1 accV sm1 nD hD hA => ?_
  have s1 : Same H H1 := fun a o h => by
    have ha : a ≠ Da := ne_of_none h nD
    have := sm1 a o (by rw [upd_ne ha]; exact h)
    rw [upd_ne ha] at this; exact this
  have m1 : More H F H1 F := ⟨Same.refl _, s1, R.fr.sub.trans s1, fun _ _ _ n => n⟩
  let ra : Rho := (((r.set ig none).set ib none).set iv none).set ih none
  have Ra : Rel c ra s H1 F := (((((R.more m1).forget).forget).forget).forget)
  have freeA : ∀ q, H q = none → Free ra s q := fun q hq => (((Free.forget (Free.forget (Free.forget (Free.forget (R.notmine hq)))))))
  have la : ra.length = r.length := by simp [ra]
  have eah : ra[ih]? = some none := List.getElem?_set_self (by simp; exact lh)
  have eav : ra[iv]? = some none := by
    show (List.set _ ih none)[iv]? = _
    rw [List.getElem?_set_ne (Ne.symm nvh)]
    exact List.getElem?_set_self (by simp; exact lv)
  have eab : ra[ib]? = some none := by
    show (List.set _ ih none)[ib]? = _
    rw [List.getElem?_set_ne (Ne.symm nbh), List.getElem?_set_ne (Ne.symm nbv)]
    exact List.getElem?_set_self (by simp; exact lb)
  have eag : ra[ig]? = some none := by
    show (List.set _ ih none)[ig]? = _
    rw [List.getElem?_set_ne (Ne.symm ngh), List.getElem?_set_ne (Ne.symm ngv), List.getElem?_set_ne (Ne.symm ngb)]
    exact List.getElem?_set_self lg
  have K0 : HdOk c ra ih Da accV (s.set ih (some (.ref Da))) H1 F := by
    refine ⟨Ra.put eah, List.getElem?_set_self (by rw [R.len]; exact lh), eah, hD, ⟨R.fr.newF nD, R.fr.new nD, (freeA _ nD).put eah⟩, fun v hv => ?_⟩
    obtain ⟨i, hi⟩ := List.mem_iff_getElem?.mp hv
    obtain ⟨d, ed, hr⟩ := hA.at hi
    have zd : rowOk d = true := List.all_eq_true.mp zr d (List.mem_of_getElem? ed)
    obtain ⟨t, o, gv, bv, q, mV, g1, g2, g3, g4, g5⟩ := rowN_ok hr zd
    have nq : q ≠ Da := fun e => by subst e; rw [upd_same] at g5; cases g5
    rw [upd_ne nq] at g5
    exact ⟨t, o, gv, bv, q, mV, g1, g2, g3, g4, nq, R.fr.newF g5, R.fr.new g5, (freeA _ g5).put eah⟩
  have HM1 : All2 (HRow c.K c.ax F H1) accV M := hA.imp fun _ _ h => h.row
  -- one = C(handed)
  change tSeq (tAsg (tMakeS C (spInit c.K c.ax phi) (WE c.W) (tCons (tVar ih) tNil)) (gName iw)) _ Ds _ _
  refine seq_i (asg_i ?_)
  refine te_handed wc K0 HM1 ep fun x2 H2 F2 dx2 fV2 m2 n2 nF2 e2 f2 fr2 => ?_
  have K1 : HdOk c (ra.set iw (some (.obj fs))) ih Da accV ((s.set ih (some (.ref Da))).set iw (some (.ref x2))) H2 F2 :=
    (K0.more m2).setB (by rw [la]; exact lw) nwh ⟨C, dx2, fV2, wc, e2, f2, nF2, K0.rel.fr.new n2, fr2⟩ (fun _ z => nomatch z) ⟨C, dx2, fV2, e2⟩
  have HM2 : All2 (HRow c.K c.ax F2 H2) accV M := HM1.imp fun _ _ z => (z.same m2.h).fr m2.f
  -- other = C(handed)
  change tSeq (tAsg (tMakeS C (spInit c.K c.ax phi) (WE c.W) (tCons (tVar ih) tNil)) (gName iz)) _ Ds _ _
  refine seq_i (asg_i ?_)
  refine te_handed wc K1 HM2 ep fun x3 H3 F3 dx3 fV3 m3 n3 nF3 e3 f3 fr3 => ?_
  have sF4 : Same F3 (upd F3 x3 (.ins C dx3 fV3)) := same_upd' nF3
  have m4 : More H2 F2 H3 (upd F3 x3 (.ins C dx3 fV3)) := by
    refine ⟨m3.f.trans sF4, m3.h, fun a o q => ?_, fun a o q n => ?_⟩
    · by_cases ha : a = x3
      · subst ha; rw [upd_same] at q; cases q; exact e3
      · rw [upd_ne ha] at q; exact m3.sub a o q
    · rw [upd_ne (ne_of_none q n3)]; exact m3.un a o q n
  have K2 : HdOk c (hRho r ig ib iv ih iw iz fs) ih Da accV (((s.set ih (some (.ref Da))).set iw (some (.ref x2))).set iz (some (.ref x3))) H3 (upd F3 x3 (.ins C dx3 fV3)) :=
    (K1.more m4).setB (by rw [List.length_set, la]; exact lz) nzh ⟨C, dx3, fV3, wc, upd_same, by rw [upd_ne (fun z => by rw [z, nF3] at f3; cases f3)]; exact f3, fr3.same sF4⟩ (fun _ z => nomatch z) ⟨C, dx3, fV3, e3⟩
  have sm0 : Same F (upd F3 x3 (.ins C dx3 fV3)) := m2.f.trans m4.f
  -- the loop
  let rL := hRho r ig ib iv ih iw iz fs
  have eLg : rL[ig]? = some none := by
    show (List.set _ iz _)[ig]? = _
    rw [List.getElem?_set_ne nzg, List.getElem?_set_ne nwg]; exact eag
  have eLb : rL[ib]? = some none := by
    show (List.set _ iz _)[ib]? = _
    rw [List.getElem?_set_ne nzb, List.getElem?_set_ne nwb]; exact eab
  have eLv : rL[iv]? = some none := by
    show (List.set _ iz _)[iv]? = _
    rw [List.getElem?_set_ne nzv, List.getElem?_set_ne nwv]; exact eav
  have lL : rL.length = r.length := by simp [rL, hRho]
  change tSeq (tFor (iList c.K (tVar ih)) (gTup c.K 3 (gCons (gName ig) (gCons (gName ib) (gCons (gName iv) gNil)))) (tAsg (teD c fv) (gSub (tVar iv) (teB c fi) rSetL))) _ Ds _ _
  refine seq_i ?_
  refine ⟨V.ref Da, K2.at_, Da, rfl, ⟨accV, SqL.of K2.hD⟩, for_list (K := c.K) (a := Da) (xs := accV) (fun i σ H => ∃ F', HdOk c rL ih Da accV σ H F' ∧ Same F F') ⟨_, K2, sm0⟩ (fun i σ H _ ⟨F', k, _⟩ => SqL.of k.hD) ?_ ?_⟩
  · rintro i v σ Ha hi ⟨F', k, sm⟩
    obtain ⟨t, o, gv, bv, q, mV, rfl, g2, g3, g4, g5, g6⟩ := k.rows v (List.mem_of_getElem? hi)
    refine ⟨t, _, rfl, .inl (.inr ⟨o, g2⟩), rfl, gv, _, rfl, bv, _, rfl, .ref q, _, rfl, rfl, ?_⟩
    have k1 := ((k.put (v := some gv) eLg ngh).put (v := some bv) eLb nbh).put (v := some (.ref q)) eLv nvh
    have eq : (((σ.set ig (some gv)).set ib (some bv)).set iv (some (V.ref q)))[iv]? = some (some (V.ref q)) := List.getElem?_set_self (by simp only [List.length_set]; rw [k.rel.len, lL]; exact lv)
    refine ⟨rL, F', k1.rel, ?_⟩
    rw [efv]
    intro Hb Fb Rb mb w hw
    refine ⟨V.ref q, eq, rL, Fb, Rb, ?_⟩
    rw [efi]
    intro Hc Fc Rc mc iw' hiw
    cases hiw.int
    have mbc := mb.trans mc
    have k2 := k1.more mbc
    obtain ⟨j, ej⟩ := ixN_last g4
    have hq := mbc.h _ _ g3
    have mine : Mine c rL (((σ.set ig (some gv)).set ib (some bv)).set iv (some (V.ref q))) Fc q := ⟨mbc.un _ _ g3 g6.fF, g6.f0, ((g6.free.put eLg).put eLb).put eLv⟩
    refine ⟨q, mV, -1, j, rfl, rfl, hq, ej, Fc, k2.write hq g5 mine ?_, sm.trans mbc.f⟩
    intro z
    apply g4
    have := congrArg List.length z
    rw [List.length_set] at this
    exact List.eq_nil_of_length_eq_zero this
  · -- handed.append(..)
    rintro σ Ha ⟨F', k, sm⟩
    refine ⟨V.ref Da, k.at_, .inl ⟨rfl, accV, SqL.of k.hD⟩, rL, F', k.rel, ?_⟩
    rw [ef5]
    intro Hb Fb Rb mb w hw
    refine ⟨Da, accV, w, rfl, rfl, mb.h _ _ k.hD, lim_lt (by rw [hA.len]; exact zl), ?_⟩
    have k2 := k.more mb
    exact ⟨rL, Fb, k2.rel.other k2.mD.fF k2.mD.f0 k2.mD.free, h.mono (sm.trans mb.f)⟩
end
end DL

set_option Elab.async false
set_option linter.all false
/-! The defs as pure functions (printed by gen.py). -/
noncomputable section
namespace WK
open PySem DL L2
def b__law_cell : Sf := (sSeq (sIf (tTruF (eO 0)) (sRet (e2 oIx (eO 0) (e2 oMod (eO 1) (eCall oLen (aCons (eO 0) aNil))))) sSkip)
  (sRet (eC (.int 0))))
def m__law_cell : List PyData → M PyData := runD 2 2 b__law_cell
def b__law_mix : Sf := (sSeq (sSet 2 (e2 oMod (e2 oAdd (eFn m__law_cell (aCons (eV 0) (aCons (eV 1) aNil))) (e2 oMulI (eC (.int 104729)) (e2 oAdd (eO 1) (eC (.int 1))))) (eC (.int 4294967291))))
  (sSeq (sSet 2 (e2 oMod (e2 oMulI (eO 2) (eC (.int 48271))) (eC (.int 4294967279))))
  (sRet (e2 oMod (e2 oAdd (e2 oMulI (e2 oDiv (eO 2) (eC (.int 64))) (eC (.int 69621))) (eO 2)) (eC (.int 4294967231))))))
def m__law_mix : List PyData → M PyData := runD 3 2 b__law_mix
def b__law_sources : Sf := (sSeq (sSetO 4 (nRng (eV 3)))
  (sSeq (sSetO 5 (nNew aNil))
  (sSeq (sWhile (tValF (e2 oLtA (eCall oLen (aCons (eO 5) aNil)) (eO 2))) (sAppPop 5 4 (e2 oMod (eFn m__law_mix (aCons (eV 0) (aCons (e2 oAdd (eO 1) (eCall oLen (aCons (eO 5) aNil))) aNil))) (eCall oLen (aCons (eO 4) aNil)))))
  (sRet (eCall oTuple (aCons (eO 5) aNil))))))
def m__law_sources : List PyData → M PyData := runD 6 4 b__law_sources
def b__law_machine : Sf := (sSeq (sSetO 3 (nNew (aCons (eC (.int 0)) aNil)))
  (sSeq (sFor (iR1 (e2 oMod (eFn m__law_mix (aCons (eV 0) (aCons (eV 1) aNil))) (eO 2))) (gN 4) (sApp 3 (e2 oIx (eLst (aCons (eC (.int 0)) (aCons (eC (.int 1)) (aCons (eC (.int 1)) (aCons (eC (.int 2)) aNil))))) (e2 oMod (eFn m__law_mix (aCons (eV 0) (aCons (e2 oAdd (e2 oAdd (eO 1) (eC (.int 1))) (eO 4)) aNil))) (eC (.int 4))))))
  (sSeq (sSetO 5 (nNew aNil))
  (sSeq (sFor (iR1 (eCall oLen (aCons (eO 3) aNil))) (gN 6) (sSeq (sSetO 7 (nNew aNil))
  (sSeq (sFor (iR1 (e2 oAdd (e2 oIx (eO 3) (eO 6)) (eC (.int 1)))) (gN 8) (sSeq (sSet 9 (e2 oAdd (e2 oIx (eO 3) (eO 6)) (eCall oInt (aCons (e2 oEq (eO 8) (e2 oIx (eO 3) (eO 6))) aNil))))
  (sSeq (sSet 10 (eNew (nLc (iR1 (eCall oLen (aCons (eO 3) aNil))) (gN 11) (tValF (e2 oLe (e2 oIx (eO 3) (eO 11)) (eO 9))) (eV 11) [11])))
  (sSeq (sSet 11 (e2 oIx (eO 10) (e2 oMod (eFn m__law_mix (aCons (eV 0) (aCons (e2 oAdd (e2 oAdd (e2 oAdd (eO 1) (eC (.int 8))) (e2 oMulI (eC (.int 5)) (eO 6))) (eO 8)) aNil))) (eCall oLen (aCons (eO 10) aNil)))))
  (sApp 7 (eTup (aCons (eV 11) (aCons (eFn m__law_sources (aCons (eV 0) (aCons (e2 oAdd (e2 oAdd (e2 oAdd (eO 1) (eC (.int 40))) (e2 oMulI (eC (.int 9)) (eO 6))) (e2 oMulI (eC (.int 3)) (eO 8))) (aCons (e2 oIx (eO 3) (eO 11)) (aCons (eV 9) aNil))))) aNil))))))))
  (sFrz 7 (sApp 5 (eTup (aCons (e2 oEq (e2 oMod (e2 oDiv (eFn m__law_mix (aCons (eV 0) (aCons (e2 oAdd (e2 oAdd (eO 1) (eC (.int 30))) (eO 6)) aNil))) (eC (.int 4))) (eC (.int 2))) (eC (.int 0))) (aCons (e2 oIx (eO 3) (eO 6)) (aCons (eV 7) aNil)))))))))
  (sFrz 5 (sRet (eV 5)))))))
def m__law_machine : List PyData → M PyData := runD 12 3 b__law_machine
def b_look_state : Sf := (sSeq (sAsg (eV 1) (gT 3 (gsCons (gN 2) (gsCons (gN 3) (gsCons (gN 4) gsNil)))))
  (sSeq (sIf (tOrF (tValF (e2 (oIn true) (eO 2) (eTup (aCons (eC (.bool true)) (aCons (eC (.bool false)) aNil))))) (tOrF (tNotF (tValF (e3 oLe oLe (eC (.int 0)) (eO 3) (eC (.int 6))))) (tValF (e2 oNe (eCall oLen (aCons (eO 4) aNil)) (e2 oAdd (eO 3) (eC (.int 1))))))) (sRaise .mach) sSkip)
  (sFor (iR1 (e2 oAdd (eO 3) (eC (.int 1)))) (gN 5) (sSeq (sAsg (e2 oIx (eO 4) (eO 5)) (gT 2 (gsCons (gN 6) (gsCons (gN 7) gsNil))))
  (sSeq (sIf (tOrF (tNotF (tValF (e3 oLe oLtA (eC (.int 0)) (eO 6) (eCall oLen (aCons (eO 0) aNil))))) (tValF (e2 oNe (eCall oLen (aCons (eO 7) aNil)) (e2 oIx (e2 oIx (eO 0) (eO 6)) (eC (.int 1)))))) (sRaise .mach) sSkip)
  (sSeq (sSet 8 (eIf (tValF (e2 oLtA (eO 5) (eO 3))) (eV 3) (e2 oAdd (eO 3) (eC (.int 1)))))
  (sIf (tOrF (tNotF (tTruF (eCall oAll (aCons (eNew (nLc (iSeq (eV 7)) (gN 9) tYesF (e3 oLe oLtA (eC (.int 0)) (eO 9) (eO 8)) [9])) aNil)))) (tValF (e2 oNe (e1 oLenSet (eO 7)) (eCall oLen (aCons (eO 7) aNil))))) (sRaise .mach) sSkip)))))))
def m_look_state : List PyData → M PyData := runD 10 2 b_look_state
def b_look_machine : Sf := (sSeq (sIf (tOrF (tNotF (tValF (e3 oLe oLe (eC (.int 1)) (eCall oLen (aCons (eO 0) aNil)) (eC (.int 400))))) (tValF (e2 oNe (e2 oIx (e2 oIx (eO 0) (eC (.int 0))) (eC (.int 1))) (eC (.int 0))))) (sRaise .mach) sSkip)
  (sFor (iSeq (eV 0)) (gN 1) (sDrop (eFn m_look_state (aCons (eV 0) (aCons (eV 1) aNil))))))
def m_look_machine : List PyData → M PyData := runD 2 1 b_look_machine
def b_goals_of : Sf := (sRet (eNew (nLc (iSeq (eV 0)) (gN 2) tYesF (eNew (nLc (iSeq (e2 oIx (eO 2) (eC (.int 2)))) (gN 1) tYesF (e2 oIx (eO 1) (eC (.int 0))) [1])) [2])))
def m_goals_of : List PyData → M PyData := runD 3 1 b_goals_of
def b_distances : Sf := (sSeq (sSet 1 (eFn m_goals_of (aCons (eV 0) aNil)))
  (sSeq (sSetO 2 (nLc (iSeq (eV 0)) (gN 3) tYesF (eIf (tTruF (e2 oIx (eO 3) (eC (.int 0)))) (eC (.int 0)) (eC .none)) [3]))
  (sSeq (sSet 4 (eC (.int 0)))
  (sSeq (sSet 5 (eC .none))
  (sSeq (sWhile (tValF (e2 oNe (eO 5) (eO 2))) (sSeq (sSet 5 (eCall oList (aCons (eO 2) aNil)))
  (sSeq (sSet 4 (e2 oAdd (eO 4) (eC (.int 1))))
  (sFor (iR1 (eCall oLen (aCons (eO 0) aNil))) (gN 6) (sIf (tAndF (tValF (e2 oIsN (e2 oIx (eO 2) (eO 6)) (eC .none))) (tTruF (eCall oAny (aCons (eNew (nLc (iSeq (e2 oIx (eO 1) (eO 6))) (gN 7) tYesF (e2 oEq (e2 oIx (eO 5) (eO 7)) (e2 oSub (eO 4) (eC (.int 1)))) [7])) aNil)))) (sPut 2 (eO 6) (eV 4)) sSkip)))))
  (sFrz 2 (sRet (eV 2))))))))
def m_distances : List PyData → M PyData := runD 8 1 b_distances
def b_stepped : Sf := (sSeq (sAsg (eV 1) (gT 2 (gsCons (gN 3) (gsCons (gN 4) gsNil))))
  (sSeq (sAsg (e2 oIx (eO 0) (eO 3)) (gT 3 (gsCons (gN 5) (gsCons (gN 6) (gsCons (gN 7) gsNil)))))
  (sSeq (sSet 8 (eIf (tValF (e2 (oIn false) (eO 2) (eO 4))) (eTIndex (eO 4) (eO 2)) (eV 6)))
  (sSeq (sAsg (e2 oIx (eO 7) (eO 8)) (gT 2 (gsCons (gN 9) (gsCons (gN 10) gsNil))))
  (sSeq (sSet 11 (e2 oAdd (eO 4) (eTup (aCons (eV 2) aNil))))
  (sRet (eTup (aCons (eV 9) (aCons (eCall oTuple (aCons (eNew (nLc (iSeq (eV 10)) (gN 12) tYesF (e2 oIx (eO 11) (eO 12)) [12])) aNil)) aNil)))))))))
def m_stepped : List PyData → M PyData := runD 13 3 b_stepped
def b_least_word : Sf := (sSeq (sDrop (eFn m_look_machine (aCons (eV 0) aNil)))
  (sSeq (sSet 1 (eFn m_distances (aCons (eV 0) aNil)))
  (sSeq (sIf (tValF (e2 oIsN (e2 oIx (eO 1) (eC (.int 0))) (eC .none))) (sRet (eC .none)) sSkip)
  (sSeq (sSet 2 (eTup (aCons (eC (.int 0)) (aCons (eTup aNil) aNil))))
  (sSeq (sSetO 3 (nNew aNil))
  (sSeq (sWhile (tValF (e2 oGt (e2 oIx (eO 1) (e2 oIx (eO 2) (eC (.int 0)))) (eC (.int 0)))) (sSeq (sSet 4 (e2 oIx (eNew (nLc (iR1 (e2 oAdd (eCall oLen (aCons (e2 oIx (eO 2) (eC (.int 1))) aNil)) (eC (.int 1)))) (gN 5) (tValF (e2 (oIn true) (eO 5) (e2 oIx (eO 2) (eC (.int 1))))) (eV 5) [5])) (eC (.int 0))))
  (sFor (iSeq (eCall oSortedA (aCons (e2 oAdd (e2 oIx (eO 2) (eC (.int 1))) (eTup (aCons (eV 4) aNil))) aNil))) (gN 5) (sSeq (sSet 6 (eFn m_stepped (aCons (eV 0) (aCons (eV 2) (aCons (eV 5) aNil)))))
  (sIf (tValF (e2 oEq (e2 oIx (eO 1) (e2 oIx (eO 6) (eC (.int 0)))) (e2 oSub (e2 oIx (eO 1) (e2 oIx (eO 2) (eC (.int 0)))) (eC (.int 1))))) (sSeq (sApp 3 (eV 5))
  (sSeq (sSet 2 (eV 6))
  (fun r => some (.bk r)))) sSkip)))))
  (sFrz 3 (sRet (eV 3)))))))))
def m_least_word : List PyData → M PyData := runD 7 1 b_least_word
def b__law_chain : Sf := (sSeq (sSet 1 (e2 oIx (eLst (aCons (eTup (aCons (eC (.int 1)) aNil)) (aCons (eTup (aCons (eC (.int 1)) (aCons (eC (.int 0)) aNil))) (aCons (eTup (aCons (eC (.int 0)) (aCons (eC (.int 1)) aNil))) (aCons (eTup (aCons (eC (.int 0)) aNil)) aNil))))) (e2 oMod (eFn m__law_mix (aCons (eV 0) (aCons (eC (.int 101)) aNil))) (eC (.int 4)))))
  (sSeq (sSet 2 (eCall oLen (aCons (eO 1) aNil)))
  (sSeq (sSet 3 (e2 oAdd (eC (.int 1)) (e2 oMod (eFn m__law_mix (aCons (eV 0) (aCons (eC (.int 102)) aNil))) (e2 oAdd (eC (.int 3)) (e2 oMulI (eC (.int 4)) (e2 oSub (eO 2) (eC (.int 1))))))))
  (sSeq (sSet 4 (eNew (nLc (iR1 (e2 oAdd (eO 2) (eC (.int 1)))) (gN 5) tYesF (eTup (aCons (e2 oIx (eLst (aCons (eC (.int 4)) (aCons (eC (.int 3)) aNil))) (e2 oMod (e2 oDiv (eO 3) (e2 oIx (eLst (aCons (eC (.int 1)) (aCons (eC (.int 2)) (aCons (eC (.int 4)) aNil)))) (eO 5))) (eC (.int 2)))) (aCons (eTup aNil) aNil))) [5])))
  (sSeq (sSet 6 (eTup (aCons (eC (.bool false)) (aCons (eC (.int 0)) (aCons (eLst (aCons (eTup (aCons (eC (.int 4)) (aCons (eTup aNil) aNil))) aNil)) aNil)))))
  (sSeq (sSet 7 (eLst (aCons (eTup (aCons (eC (.bool false)) (aCons (eC (.int 0)) (aCons (eLst (aCons (eTup (aCons (eC (.int 1)) (aCons (eTup (aCons (eC (.int 0)) aNil)) aNil))) aNil)) aNil)))) (aCons (eTup (aCons (eC (.bool false)) (aCons (eC (.int 1)) (aCons (eLst (aCons (eTup (aCons (eC (.int 4)) (aCons (eTup aNil) aNil))) (aCons (eTup (aCons (eC (.int 2)) (aCons (eV 1) aNil))) aNil))) aNil)))) aNil))))
  (sRet (e2 oAdd (eO 7) (eLst (aCons (eTup (aCons (eC (.bool false)) (aCons (eV 2) (aCons (eV 4) aNil)))) (aCons (eTup (aCons (eC (.bool true)) (aCons (eC (.int 0)) (aCons (eLst (aCons (eTup (aCons (eC (.int 4)) (aCons (eTup aNil) aNil))) aNil)) aNil)))) (aCons (eV 6) aNil))))))))))))
def m__law_chain : List PyData → M PyData := runD 8 1 b__law_chain
def b__law_come : Sf := (sSeq (sAsg (e2 oIx (eO 0) (eO 1)) (gT 3 (gsCons (gN 4) (gsCons (gN 5) (gsCons (gN 6) gsNil)))))
  (sSeq (sAsg (e2 oIx (eO 6) (eO 5)) (gT 2 (gsCons (gN 7) (gsCons (gN 8) gsNil))))
  (sSeq (sFor (iR1 (eV 5)) (gN 9) (sIf (tValF (e2 oEq (e2 oIx (eO 2) (eO 9)) (eO 3))) (sAsg (e2 oIx (eO 6) (eO 9)) (gT 2 (gsCons (gN 7) (gsCons (gN 8) gsNil)))) sSkip))
  (sRet (eTup (aCons (eV 7) (aCons (eNew (nLc (iSeq (eV 8)) (gN 10) tYesF (eIf (tValF (e2 oEq (eO 10) (eO 5))) (eV 3) (e2 oIx (eO 2) (eO 10))) [10])) aNil)))))))
def m__law_come : List PyData → M PyData := runD 11 4 b__law_come
def b__law_takes : Sf := (sSeq (sSet 2 (eC (.int 0)))
  (sSeq (sSet 3 (eLst aNil))
  (sSeq (sFor (iSeq (eV 1)) (gN 4) (sAsg (eFn m__law_come (aCons (eV 0) (aCons (eV 2) (aCons (eV 3) (aCons (eV 4) aNil))))) (gT 2 (gsCons (gN 2) (gsCons (gN 3) gsNil)))))
  (sRet (e2 oIx (e2 oIx (eO 0) (eO 2)) (eC (.int 0)))))))
def m__law_takes : List PyData → M PyData := runD 5 2 b__law_takes
def b__law_all : Sf := (sSeq (sSet 1 (eLst (aCons (eLst aNil) aNil)))
  (sSeq (sFor (iR1 (eV 0)) (gN 2) (sSeq (sSet 3 (eLst aNil))
  (sSeq (sFor (iSeq (eV 1)) (gN 4) (sSet 3 (e2 oAdd (eO 3) (eNew (nLc (iR1 (eC (.int 4))) (gN 5) tYesF (e2 oAdd (eO 4) (eLst (aCons (eV 5) aNil))) [5])))))
  (sSet 1 (eV 3)))))
  (sRet (eV 1))))
def m__law_all : List PyData → M PyData := runD 6 1 b__law_all
def b__law_whole : Sf := (sRet (eAnd (e1 (oIsi "int") (eO 0)) (eNot (e1 (oIsi "bool") (eO 0)))))
def m__law_whole : List PyData → M PyData := runD 1 1 b__law_whole
def b_law : Sf := (sSeq (sSet 1 (eFn m__law_machine (aCons (eV 0) (aCons (eC (.int 0)) (aCons (eC (.int 4)) aNil)))))
  (sSeq (sIf (tValF (e2 oEq (e2 oMod (eFn m__law_mix (aCons (eV 0) (aCons (eC (.int 100)) aNil))) (eC (.int 4))) (eC (.int 0)))) (sSet 1 (eFn m__law_chain (aCons (eV 0) aNil))) sSkip)
  (sSeq (sSet 2 (eLst (aCons (eC (.int 0)) aNil)))
  (sSeq (sFor (iR1 (eCall oLen (aCons (eO 1) aNil))) (gN 3) (sFor (iR1 (eCall oLen (aCons (eO 1) aNil))) (gN 4) (sIf (tValF (e2 (oIn false) (eO 4) (eO 2))) (sSet 2 (e2 oAdd (eO 2) (eNew (nLc (iSeq (e2 oIx (e2 oIx (eO 1) (eO 4)) (eC (.int 2)))) (gN 5) tYesF (e2 oIx (eO 5) (eC (.int 0))) [5])))) sSkip)))
  (sSeq (sSet 6 (eFn m_least_word (aCons (eV 1) aNil)))
  (sSeq (sIf (tNotF (tTruF (eCall oAny (aCons (eNew (nLc (iSeq (eV 2)) (gN 4) tYesF (e2 oIx (e2 oIx (eO 1) (eO 4)) (eC (.int 0))) [4])) aNil)))) (sRet (e2 oIsN (eO 6) (eC .none))) sSkip)
  (sSeq (sIf (tOrF (tNotF (tTruF (e1 (oIsi "list") (eO 6)))) (tNotF (tTruF (eCall oAll (aCons (eNew (nLc (iSeq (eV 6)) (gN 7) tYesF (eAnd (eFn m__law_whole (aCons (eV 7) aNil)) (e2 oGe (eO 7) (eC (.int 0)))) [7])) aNil))))) (sRet (eC (.bool false))) sSkip)
  (sSeq (sIf (tNotF (tTruF (eFn m__law_takes (aCons (eV 1) (aCons (eV 6) aNil))))) (sRet (eC (.bool false))) sSkip)
  (sSeq (sFor (iR1 (e2 oAdd (eCall oMin2 (aCons (eCall oLen (aCons (eO 6) aNil)) (aCons (eC (.int 3)) aNil))) (eC (.int 1)))) (gN 8) (sFor (iSeq (eFn m__law_all (aCons (eV 8) aNil))) (gN 9) (sIf (tAndF (tTruF (eFn m__law_takes (aCons (eV 1) (aCons (eV 9) aNil)))) (tOrF (tValF (e2 oLtA (eO 8) (eCall oLen (aCons (eO 6) aNil)))) (tValF (e2 oLtA (eO 9) (eO 6))))) (sRet (eC (.bool false))) sSkip)))
  (sRet (eC (.bool true))))))))))))
def m_law : List PyData → M PyData := runD 10 1 b_law
def b__law_refusal : Sf := (sSeq (sIf (tValF (e2 oIsN (eO 0) (eC .none))) (sRet (eC (.str "ok"))) sSkip)
  (sSeq (sSetO 1 (nNew (aCons (e1 (oIsX fun xn => decide (xn = .mach)) (eO 0)) (aCons (e1 (oIsX fun xn => decide (xn = .txt)) (eO 0)) (aCons (e1 (oIsX fun xn => decide (xn = .wrd)) (eO 0)) aNil)))))
  (sSeq (sApp 1 (e1 (oIsX fun xn => decide (xn = .many)) (eO 0)))
  (sSeq (sIf (tOrF (tValF (e2 oNe (eLCount (eO 1) (eC (.bool true))) (eC (.int 1)))) (tNotF (tTruF (e1 (oIsX fun _ => true) (eO 0))))) (sRet (eC (.str "wrong"))) sSkip)
  (sRet (e2 oIx (eLst (aCons (eC (.str "machine")) (aCons (eC (.str "text")) (aCons (eC (.str "word")) (aCons (eC (.str "many")) aNil))))) (eLIndex (eO 1) (eC (.bool true)))))))))
def m__law_refusal : List PyData → M PyData := runD 2 1 b__law_refusal
def b_gone : Sf := (sSeq (sDrop (eFn m_look_machine (aCons (eV 0) aNil)))
  (sSeq (sSet 2 (eTup (aCons (eC (.int 0)) (aCons (eTup aNil) aNil))))
  (sSeq (sFor (iSeq (eV 1)) (gN 3) (sSet 2 (eFn m_stepped (aCons (eV 0) (aCons (eV 2) (aCons (eV 3) aNil))))))
  (sRet (eV 2)))))
def m_gone : List PyData → M PyData := runD 4 2 b_gone
def b_takes : Sf := (sRet (e2 oIx (e2 oIx (eO 0) (e2 oIx (eFn m_gone (aCons (eV 0) (aCons (eV 1) aNil))) (eC (.int 0)))) (eC (.int 0))))
def m_takes : List PyData → M PyData := runD 2 2 b_takes
def b_reached : Sf := (sSeq (sDrop (eFn m_look_machine (aCons (eV 0) aNil)))
  (sSeq (sSet 1 (eFn m_goals_of (aCons (eV 0) aNil)))
  (sSeq (sSetO 2 (nRep (aCons (eC (.bool false)) aNil) (eCall oLen (aCons (eO 0) aNil))))
  (sSeq (sPut 2 (eC (.int 0)) (eC (.bool true)))
  (sSeq (sSetO 3 (nNew (aCons (eC (.int 0)) aNil)))
  (sSeq (sWhile (tTruF (eO 3)) (sForP (srcIxPop (eV 1) 3) (gN 4) (sIf (tNotF (tTruF (e2 oIx (eO 2) (eO 4)))) (sSeq (sPut 2 (eO 4) (eC (.bool true)))
  (sApp 3 (eV 4))) sSkip)))
  (sFrz 2 (sRet (eV 2)))))))))
def m_reached : List PyData → M PyData := runD 5 1 b_reached
def b__law_told : Sf := (sSeq (sSet 3 (eC .none))
  (sSeq (sSet 4 (eC .none))
  (sSeq (sTryK 5 3 (sIf (tValF (e2 oEq (eO 0) (eC (.int 0)))) (sSet 4 (eFn m_look_machine (aCons (eV 1) aNil))) (sIf (tValF (e2 oEq (eO 0) (eC (.int 1)))) (sSet 4 (eFn m_gone (aCons (eV 1) (aCons (eV 2) aNil)))) (sSet 4 (eIf (tValF (e2 oEq (eO 0) (eC (.int 2)))) (eFn m_takes (aCons (eV 1) (aCons (eV 2) aNil))) (eFn m_reached (aCons (eV 1) aNil)))))))
  (sRet (eIf (tValF (e2 oIsN (eO 3) (eC .none))) (eV 4) (eFn m__law_refusal (aCons (eV 3) aNil)))))))
def m__law_told : List PyData → M PyData := runD 6 3 b__law_told
def b__law_spoilt : Sf := (sSeq (sSet 2 (e2 oMod (e2 oDiv (eO 1) (eC (.int 8))) (eCall oLen (aCons (eO 0) aNil))))
  (sSeq (sAsg (e2 oIx (eO 0) (eO 2)) (gT 3 (gsCons (gN 3) (gsCons (gN 4) (gsCons (gN 5) gsNil)))))
  (sSeq (sSet 6 (e2 oMod (e2 oDiv (eO 1) (eC (.int 64))) (eCall oLen (aCons (eO 5) aNil))))
  (sSeq (sAsg (e2 oIx (eO 5) (eO 6)) (gT 2 (gsCons (gN 7) (gsCons (gN 8) gsNil))))
  (sSeq (sSet 9 (e2 oDiv (eO 1) (eC (.int 512))))
  (sSeq (sSet 10 (eLst (aCons (eTup (aCons (eCall oLen (aCons (eO 0) aNil)) (aCons (eV 8) aNil))) (aCons (eTup (aCons (e1 oNeg (eC (.int 1))) (aCons (eV 8) aNil))) (aCons (eTup (aCons (eV 7) (aCons (e2 oAdd (eO 8) (eTup (aCons (eC (.int 0)) aNil))) aNil))) (aCons (eTup (aCons (eV 7) (aCons (eSl (eO 8) (pSome (eC (.int 1))) pNo) aNil))) aNil))))))
  (sSeq (sSet 10 (e2 oAdd (eO 10) (eLst (aCons (eTup (aCons (eV 7) (aCons (e2 oAdd (eSl (eO 8) pNo (pSome (eC (.int 1)))) (eSl (eO 8) pNo (pSome (eC (.int 1))))) aNil))) (aCons (eTup (aCons (eV 7) (aCons (e2 oAdd (eTup (aCons (eV 4) aNil)) (eSl (eO 8) (pSome (eC (.int 1))) pNo)) aNil))) (aCons (eTup (aCons (eV 7) (aCons (e2 oAdd (eTup (aCons (e1 oNeg (eC (.int 1))) aNil)) (eSl (eO 8) (pSome (eC (.int 1))) pNo)) aNil))) aNil))))))
  (sSeq (sSet 11 (e2 oMod (eO 1) (eC (.int 8))))
  (sSeq (sIf (tValF (e2 oLtA (eO 11) (eC (.int 5)))) (sSeq (sSet 12 (eTup (aCons (eV 3) (aCons (eV 4) (aCons (e2 oAdd (e2 oAdd (eSl (eO 5) pNo (pSome (eO 6))) (eLst (aCons (e2 oIx (eO 10) (e2 oMod (eO 9) (eC (.int 7)))) aNil))) (eSl (eO 5) (pSome (e2 oAdd (eO 6) (eC (.int 1)))) pNo)) aNil)))))
  (sRet (e2 oAdd (e2 oAdd (eSl (eO 0) pNo (pSome (eO 2))) (eLst (aCons (eV 12) aNil))) (eSl (eO 0) (pSome (e2 oAdd (eO 2) (eC (.int 1)))) pNo)))) sSkip)
  (sSeq (sIf (tValF (e2 oEq (eO 11) (eC (.int 5)))) (sRet (e2 oAdd (e2 oAdd (eSl (eO 0) pNo (pSome (eO 2))) (eLst (aCons (eTup (aCons (eV 3) (aCons (e2 oAdd (eO 4) (e2 oMod (eO 9) (eC (.int 2)))) (aCons (eSl (eO 5) (pSome (e2 oDiv (e2 oMod (eO 9) (eC (.int 3))) (eC (.int 2)))) pNo) aNil)))) aNil))) (eSl (eO 0) (pSome (e2 oAdd (eO 2) (eC (.int 1)))) pNo))) sSkip)
  (sRet (eIf (tValF (e2 oEq (eO 11) (eC (.int 6)))) (e2 oIx (eLst (aCons (eLst aNil) (aCons (eNew (nRep (aCons (eTup (aCons (eC (.bool true)) (aCons (eC (.int 0)) (aCons (eLst (aCons (eTup (aCons (eC (.int 0)) (aCons (eTup aNil) aNil))) aNil)) aNil)))) aNil) (e2 oIx (eLst (aCons (eC (.int 400)) (aCons (eC (.int 401)) aNil))) (e2 oMod (eO 9) (eC (.int 2)))))) aNil))) (e2 oMod (e2 oDiv (eO 1) (eC (.int 8))) (eC (.int 2)))) (eV 0)))))))))))))
def m__law_spoilt : List PyData → M PyData := runD 13 2 b__law_spoilt
def b__law_good : Sf := (sSeq (sIf (tOrF (tNotF (tValF (e3 oLe oLe (eC (.int 1)) (eCall oLen (aCons (eO 0) aNil)) (eC (.int 400))))) (tValF (e2 oNe (e2 oIx (e2 oIx (eO 0) (eC (.int 0))) (eC (.int 1))) (eC (.int 0))))) (sRet (eC (.bool false))) sSkip)
  (sSeq (sFor (iSeq (eV 0)) (gT 3 (gsCons (gN 1) (gsCons (gN 2) (gsCons (gN 3) gsNil)))) (sSeq (sIf (tOrF (tNotF (tValF (e3 oLe oLe (eC (.int 0)) (eO 2) (eC (.int 6))))) (tValF (e2 oNe (eCall oLen (aCons (eO 3) aNil)) (e2 oAdd (eO 2) (eC (.int 1)))))) (sRet (eC (.bool false))) sSkip)
  (sFor (iR1 (e2 oAdd (eO 2) (eC (.int 1)))) (gN 4) (sSeq (sAsg (e2 oIx (eO 3) (eO 4)) (gT 2 (gsCons (gN 5) (gsCons (gN 6) gsNil))))
  (sSeq (sSet 7 (e2 oAdd (eO 2) (eCall oInt (aCons (e2 oEq (eO 4) (eO 2)) aNil))))
  (sSeq (sIf (tOrF (tNotF (tValF (e3 oLe oLtA (eC (.int 0)) (eO 5) (eCall oLen (aCons (eO 0) aNil))))) (tValF (e2 oNe (eCall oLen (aCons (eO 6) aNil)) (e2 oIx (e2 oIx (eO 0) (eO 5)) (eC (.int 1)))))) (sRet (eC (.bool false))) sSkip)
  (sIf (tOrF (tValF (e2 oNe (e1 oLenSet (eO 6)) (eCall oLen (aCons (eO 6) aNil)))) (tNotF (tTruF (eCall oAll (aCons (eNew (nLc (iSeq (eV 6)) (gN 8) tYesF (e3 oLe oLtA (eC (.int 0)) (eO 8) (eO 7)) [8])) aNil))))) (sRet (eC (.bool false))) sSkip)))))))
  (sRet (eC (.bool true)))))
def m__law_good : List PyData → M PyData := runD 9 1 b__law_good
def b__law_word : Sf := (sSeq (sSetO 3 (nNew aNil))
  (sSeq (sFor (iR1 (e2 oMod (eFn m__law_mix (aCons (eV 0) (aCons (eV 1) aNil))) (e2 oAdd (eO 2) (eC (.int 1))))) (gN 4) (sSeq (sSet 5 (eFn m__law_mix (aCons (eV 0) (aCons (e2 oAdd (e2 oAdd (eO 1) (eC (.int 1))) (eO 4)) aNil))))
  (sSeq (sSet 6 (eIf (tTruF (eO 3)) (e2 oIx (eO 3) (e2 oSub (e1 oNeg (eC (.int 1))) (e2 oMod (e2 oDiv (eO 5) (eC (.int 8))) (eCall oLen (aCons (eO 3) aNil))))) (eC (.int 0))))
  (sApp 3 (e2 oIx (eLst (aCons (eV 6) (aCons (eV 6) (aCons (e2 oMod (e2 oDiv (eO 5) (eC (.int 64))) (eC (.int 3))) (aCons (e2 oMod (e2 oDiv (eO 5) (eC (.int 64))) (eC (.int 9))) (aCons (e2 oAdd (eO 6) (eC (.int 1))) (aCons (e2 oMod (e2 oDiv (e1 oNeg (eO 5)) (eC (.int 64))) (eC (.int 1000))) aNil))))))) (e2 oMod (eO 5) (eC (.int 6))))))))
  (sFrz 3 (sRet (eV 3)))))
def m__law_word : List PyData → M PyData := runD 7 3 b__law_word
def b_law_v1 : Sf := (sSeq (sSet 1 (eFn m__law_machine (aCons (eV 0) (aCons (eC (.int 0)) (aCons (eC (.int 4)) aNil)))))
  (sSeq (sSet 2 (eFn m__law_spoilt (aCons (eV 1) (aCons (eFn m__law_mix (aCons (eV 0) (aCons (eC (.int 100)) aNil))) aNil))))
  (sSeq (sIf (tNotF (tTruF (eFn m__law_good (aCons (eV 2) aNil)))) (sIf (tValF (e2 oNe (eNew (nLc (iR1 (eC (.int 4))) (gN 3) tYesF (eFn m__law_told (aCons (eV 3) (aCons (eV 2) (aCons (eLst (aCons (eC (.int 1)) aNil)) aNil)))) [3])) (eNew (nRep (aCons (eC (.str "machine")) aNil) (eC (.int 4)))))) (sRet (eC (.bool false))) sSkip) (sIf (tValF (e2 oNotN (eFn m__law_told (aCons (eC (.int 0)) (aCons (eV 2) (aCons (eLst aNil) aNil)))) (eC .none))) (sRet (eC (.bool false))) sSkip))
  (sSeq (sSet 4 (eFn m__law_word (aCons (eV 0) (aCons (eC (.int 101)) (aCons (eC (.int 9)) aNil)))))
  (sSeq (sSet 5 (eC (.int 0)))
  (sSeq (sSet 6 (eLst aNil))
  (sSeq (sFor (iSeq (eV 4)) (gN 7) (sAsg (eFn m__law_come (aCons (eV 1) (aCons (eV 5) (aCons (eV 6) (aCons (eV 7) aNil))))) (gT 2 (gsCons (gN 5) (gsCons (gN 6) gsNil)))))
  (sSeq (sIf (tValF (e2 oNe (eFn m__law_told (aCons (eC (.int 1)) (aCons (eV 1) (aCons (eCall oList (aCons (eO 4) aNil)) aNil)))) (eTup (aCons (eV 5) (aCons (eCall oTuple (aCons (eO 6) aNil)) aNil))))) (sRet (eC (.bool false))) sSkip)
  (sSeq (sSet 8 (eFn m__law_told (aCons (eC (.int 2)) (aCons (eV 1) (aCons (eV 4) aNil)))))
  (sSeq (sIf (tOrF (tNotF (tTruF (e1 (oIsi "bool") (eO 8)))) (tValF (e2 oNe (eO 8) (e2 oIx (e2 oIx (eO 1) (eO 5)) (eC (.int 0)))))) (sRet (eC (.bool false))) sSkip)
  (sSeq (sSetM 9)
  (sSeq (sFor (iSeq (eV 4)) (gN 7) (sMPut 9 (eV 7) (eMGet2 9 (eV 7) (e2 oAdd (e2 oMulI (eC (.int 1000)) (e2 oSub (eC (.int 5)) (eMLen 9))) (eC (.int 7))))))
  (sSeq (sIf (tValF (e2 oNe (eFn m_takes (aCons (eV 1) (aCons (eNew (nLc (iSeq (eV 4)) (gN 7) tYesF (eMIx 9 (eV 7)) [7])) aNil))) (eO 8))) (sRet (eC (.bool false))) sSkip)
  (sSeq (sSet 10 (eLst (aCons (eC (.int 0)) aNil)))
  (sSeq (sFor (iR1 (eCall oLen (aCons (eO 1) aNil))) (gN 11) (sFor (iR1 (eCall oLen (aCons (eO 1) aNil))) (gN 12) (sIf (tValF (e2 (oIn false) (eO 12) (eO 10))) (sSet 10 (e1 oSortedSet (e2 oAdd (eO 10) (eNew (nLc (iSeq (e2 oIx (e2 oIx (eO 1) (eO 12)) (eC (.int 2)))) (gN 13) tYesF (e2 oIx (eO 13) (eC (.int 0))) [13]))))) sSkip)))
  (sSeq (sSet 8 (eFn m__law_told (aCons (eC (.int 3)) (aCons (eV 1) (aCons (eLst aNil) aNil)))))
  (sRet (eAnd (e2 oEq (eO 8) (eNew (nLc (iR1 (eCall oLen (aCons (eO 1) aNil))) (gN 12) tYesF (e2 (oIn false) (eO 12) (eO 10)) [12]))) (eCall oAll (aCons (eNew (nLc (iSeq (eV 8)) (gN 14) tYesF (e1 (oIsi "bool") (eO 14)) [14])) aNil))))))))))))))))))))
def m_law_v1 : List PyData → M PyData := runD 15 1 b_law_v1
def b_case_of : Sf := (sRet (eIf (tValF (e2 oIsN (eO 0) (eC .none))) (eV 1) (eV 0)))
def m_case_of : List PyData → M PyData := runD 2 2 b_case_of
def b_letter_at : Sf := (sSeq (sIf (tValF (e2 oEq (eO 2) (eO 3))) (sRet (eV 4)) sSkip)
  (sRet (e2 oIx (eNew (nLc (iR1 (eCall oLen (aCons (eO 0) aNil))) (gN 5) (tValF (e2 oEq (e2 oIx (e2 oIx (eO 0) (eO 5)) (eO 1)) (eO 2))) (eV 5) [5])) (eC (.int 0)))))
def m_letter_at : List PyData → M PyData := runD 6 5 b_letter_at
def b_paired_step : Sf := (sSeq (sAsg (eV 2) (gT 3 (gsCons (gN 4) (gsCons (gN 5) (gsCons (gN 6) gsNil)))))
  (sSeq (sSet 7 (e2 oIx (eO 0) (eO 4)))
  (sSeq (sSet 8 (e2 oIx (eO 1) (eO 5)))
  (sSeq (sAsg (eIf (tValF (e2 oLtA (eO 3) (eCall oLen (aCons (eO 6) aNil)))) (e2 oIx (eO 6) (eO 3)) (eTup (aCons (eC .none) (aCons (eC .none) aNil)))) (gT 2 (gsCons (gN 9) (gsCons (gN 10) gsNil))))
  (sSeq (sAsg (e2 oIx (e2 oIx (eO 7) (eC (.int 2))) (eFn m_case_of (aCons (eV 9) (aCons (e2 oIx (eO 7) (eC (.int 1))) aNil)))) (gT 2 (gsCons (gN 11) (gsCons (gN 12) gsNil))))
  (sSeq (sAsg (e2 oIx (e2 oIx (eO 8) (eC (.int 2))) (eFn m_case_of (aCons (eV 10) (aCons (e2 oIx (eO 8) (eC (.int 1))) aNil)))) (gT 2 (gsCons (gN 13) (gsCons (gN 14) gsNil))))
  (sSeq (sSet 15 (eNew (nLc (iSeq (eV 12)) (gN 16) tYesF (eFn m_letter_at (aCons (eV 6) (aCons (eC (.int 0)) (aCons (eV 16) (aCons (e2 oIx (eO 7) (eC (.int 1))) (aCons (eV 3) aNil)))))) [16])))
  (sSeq (sSet 17 (eNew (nLc (iSeq (eV 14)) (gN 16) tYesF (eFn m_letter_at (aCons (eV 6) (aCons (eC (.int 1)) (aCons (eV 16) (aCons (e2 oIx (eO 8) (eC (.int 1))) (aCons (eV 3) aNil)))))) [16])))
  (sSeq (sSet 18 (e1 oSortedSet (e2 oAdd (eO 15) (eO 17))))
  (sSeq (sSetO 19 (nNew aNil))
  (sSeq (sFor (iSeq (eV 18)) (gN 20) (sSeq (sSet 9 (eIf (tValF (e2 (oIn false) (eO 20) (eO 15))) (eLIndex (eO 15) (eO 20)) (eC .none)))
  (sApp 19 (eTup (aCons (eV 9) (aCons (eIf (tValF (e2 (oIn false) (eO 20) (eO 17))) (eLIndex (eO 17) (eO 20)) (eC .none)) aNil))))))
  (sRet (eTup (aCons (eTup (aCons (eV 11) (aCons (eV 13) (aCons (eCall oTuple (aCons (eO 19) aNil)) aNil)))) (aCons (eCall oTuple (aCons (eO 18) aNil)) aNil)))))))))))))))
def m_paired_step : List PyData → M PyData := runD 21 4 b_paired_step
def b_decided : Sf := (sSeq (sIf (tValF (e2 oEq (eO 0) (eC (.str "both")))) (sRet (eAnd (eV 1) (eV 2))) sSkip)
  (sSeq (sIf (tValF (e2 oEq (eO 0) (eC (.str "either")))) (sRet (eOr (eV 1) (eV 2))) sSkip)
  (sRet (eIf (tValF (e2 oEq (eO 0) (eC (.str "less")))) (eAnd (eV 1) (eNot (eV 2))) (e2 oNe (eO 1) (eO 2))))))
def m_decided : List PyData → M PyData := runD 3 3 b_decided
def b_joined : Sf := (sSeq (sIf (tValF (e2 (oIn true) (eO 0) (eC (.tuple [(.str "both"), (.str "either"), (.str "less"), (.str "odd")])))) (sRaise .wrd) sSkip)
  (sSeq (sDrop (eFn m_look_machine (aCons (eV 1) aNil)))
  (sSeq (sDrop (eFn m_look_machine (aCons (eV 2) aNil)))
  (sSeq (sSetO 3 (nNew (aCons (eTup (aCons (eC (.int 0)) (aCons (eC (.int 0)) (aCons (eTup aNil) aNil)))) aNil)))
  (sSeq (sSetK1 4 (e2 oIx (eO 3) (eC (.int 0))) (eC (.int 0)))
  (sSeq (sSetO 5 (nNew aNil))
  (sSeq (sSet 6 (eC (.int 0)))
  (sSeq (sWhile (tValF (e2 oLtA (eO 6) (eCall oLen (aCons (eO 3) aNil)))) (sSeq (sAsg (e2 oIx (eO 3) (eO 6)) (gT 3 (gsCons (gN 7) (gsCons (gN 8) (gsCons (gN 9) gsNil)))))
  (sSeq (sSetO 10 (nNew aNil))
  (sSeq (sFor (iR1 (e2 oAdd (eCall oLen (aCons (eO 9) aNil)) (eC (.int 1)))) (gN 11) (sSeq (sAsg (eFn m_paired_step (aCons (eV 1) (aCons (eV 2) (aCons (e2 oIx (eO 3) (eO 6)) (aCons (eV 11) aNil))))) (gT 2 (gsCons (gN 12) (gsCons (gN 13) gsNil))))
  (sSeq (sIf (tValF (eKIn true 4 (eV 12))) (sSeq (sKPut 4 (eV 12) (eCall oLen (aCons (eO 3) aNil)))
  (sApp 3 (eV 12))) sSkip)
  (sApp 10 (eTup (aCons (eKIx 4 (eV 12)) (aCons (eV 13) aNil)))))))
  (sSeq (sFrz 10 (sApp 5 (eTup (aCons (eFn m_decided (aCons (eV 0) (aCons (e2 oIx (e2 oIx (eO 1) (eO 7)) (eC (.int 0))) (aCons (e2 oIx (e2 oIx (eO 2) (eO 8)) (eC (.int 0))) aNil)))) (aCons (eCall oLen (aCons (eO 9) aNil)) (aCons (eV 10) aNil))))))
  (sSeq (sIf (tOrF (tValF (e2 oGt (eCall oLen (aCons (eO 3) aNil)) (eC (.int 400)))) (tValF (e2 oGt (eCall oLen (aCons (eO 9) aNil)) (eC (.int 6))))) (sRaise .many) sSkip)
  (sSet 6 (e2 oAdd (eO 6) (eC (.int 1))))))))))
  (sFrz 5 (sRet (eV 5)))))))))))
def m_joined : List PyData → M PyData := runD 14 3 b_joined
def b_turned : Sf := (sSeq (sDrop (eFn m_look_machine (aCons (eV 0) aNil)))
  (sRet (eNew (nLc (iSeq (eV 0)) (gT 3 (gsCons (gN 1) (gsCons (gN 2) (gsCons (gN 3) gsNil)))) tYesF (eTup (aCons (eNot (eV 1)) (aCons (eV 2) (aCons (eCall oList (aCons (eO 3) aNil)) aNil)))) [1, 2, 3]))))
def m_turned : List PyData → M PyData := runD 4 1 b_turned
def b__law_told_v1 : Sf := (sSeq (sSet 3 (eC .none))
  (sSeq (sSet 4 (eC .none))
  (sSeq (sTryK 5 3 (sSet 4 (eIf (tValF (e2 oNe (eO 0) (eC (.str "turn")))) (eFn m_joined (aCons (eV 0) (aCons (eV 1) (aCons (eV 2) aNil)))) (eFn m_turned (aCons (eV 1) aNil)))))
  (sRet (eIf (tValF (e2 oIsN (eO 3) (eC .none))) (eV 4) (eFn m__law_refusal (aCons (eV 3) aNil)))))))
def m__law_told_v1 : List PyData → M PyData := runD 6 3 b__law_told_v1
def b__law_filled : Sf := (sSeq (sSetO 1 (nNew aNil))
  (sSeq (sFor (iR1 (e2 oAdd (eO 0) (eC (.int 1)))) (gN 2) (sSeq (sSet 3 (eNew (nLc (iR1 (eV 2)) (gN 4) tYesF (eTup (aCons (eV 2) (aCons (e1 oTupRng (eV 2)) aNil))) [4])))
  (sSeq (sSet 5 (eCall oMin2 (aCons (e2 oAdd (eO 2) (eC (.int 1))) (aCons (eO 0) aNil))))
  (sApp 1 (eTup (aCons (e2 oEq (eO 2) (eO 0)) (aCons (eV 2) (aCons (e2 oAdd (eO 3) (eLst (aCons (eTup (aCons (eV 5) (aCons (e1 oTupRng (eV 5)) aNil))) aNil))) aNil))))))))
  (sFrz 1 (sRet (eV 1)))))
def m__law_filled : List PyData → M PyData := runD 6 1 b__law_filled
def b__law_late : Sf := (sSeq (sFor (iR1 (eV 1)) (gN 2) (sSeq (sSetO 3 (nNew (aCons (eTup (aCons (eC (.bool false)) (aCons (eC (.int 0)) (aCons (eLst (aCons (eTup (aCons (eC (.int 1)) (aCons (eTup aNil) aNil))) aNil)) aNil)))) aNil)))
  (sSeq (sFor (iSeq (eV 0)) (gT 3 (gsCons (gN 4) (gsCons (gN 5) (gsCons (gN 6) gsNil)))) (sApp 3 (eTup (aCons (eV 4) (aCons (eV 5) (aCons (eNew (nLc (iSeq (eV 6)) (gT 2 (gsCons (gN 7) (gsCons (gN 8) gsNil))) tYesF (eTup (aCons (e2 oAdd (eO 7) (eC (.int 1))) (aCons (eV 8) aNil))) [7, 8])) aNil))))))
  (sFrz 3 (sSet 0 (eV 3))))))
  (sRet (eV 0)))
def m__law_late : List PyData → M PyData := runD 9 2 b__law_late
def b__law_wide : Sf := (sSeq (sSet 0 (eFn m__law_told_v1 (aCons (eC (.str "both")) (aCons (eFn m__law_filled (aCons (eC (.int 4)) aNil)) (aCons (eFn m__law_filled (aCons (eC (.int 4)) aNil)) aNil)))))
  (sRet (eAnd (e1 (oIsi "list") (eO 0)) (e2 oEq (eFn m__law_told_v1 (aCons (eC (.str "both")) (aCons (eFn m__law_filled (aCons (eC (.int 4)) aNil)) (aCons (eFn m__law_late (aCons (eFn m__law_filled (aCons (eC (.int 4)) aNil)) (aCons (eC (.int 4)) aNil))) aNil)))) (eC (.str "many"))))))
def m__law_wide : List PyData → M PyData := runD 1 0 b__law_wide
def b__law_words : Sf := (sSeq (sSetO 1 (nNew (aCons (eLst (aCons (eLst aNil) aNil)) aNil)))
  (sSeq (sFor (iR1 (eV 0)) (gN 2) (sSeq (sSet 3 (eLst aNil))
  (sSeq (sFor (iSeq (e2 oIx (eO 1) (e1 oNeg (eC (.int 1))))) (gN 4) (sSet 3 (e2 oAdd (eO 3) (eNew (nLc (iR1 (e2 oAdd (eCall oMaxL (aCons (e2 oAdd (eLst (aCons (e1 oNeg (eC (.int 1))) aNil)) (eO 4)) aNil)) (eC (.int 2)))) (gN 5) tYesF (e2 oAdd (eO 4) (eLst (aCons (eV 5) aNil))) [5])))))
  (sApp 1 (eV 3)))))
  (sSeq (sSet 6 (eLst aNil))
  (sSeq (sFrz 1 (sFor (iSeq (eV 1)) (gN 7) (sSet 6 (e2 oAdd (eO 6) (eO 7)))))
  (sRet (eV 6))))))
def m__law_words : List PyData → M PyData := runD 8 1 b__law_words
def b__law_canon : Sf := (sSeq (sSetO 1 (nNew (aCons (eC (.int 0)) aNil)))
  (sSeq (sFor (iR1 (eCall oLen (aCons (eO 0) aNil))) (gN 2) (sSeq (sIf (tValF (e2 oGe (eO 2) (eCall oLen (aCons (eO 1) aNil)))) (sRet (eC (.bool false))) sSkip)
  (sFor (iSeq (e2 oIx (e2 oIx (eO 0) (eO 2)) (eC (.int 2)))) (gT 2 (gsCons (gN 3) (gsCons (gN 4) gsNil))) (sSeq (sIf (tValF (e2 (oIn true) (eO 3) (eO 1))) (sSeq (sIf (tOrF (tValF (e2 oNe (eO 3) (eCall oLen (aCons (eO 1) aNil)))) (tValF (e2 oNe (eCall oList (aCons (eO 4) aNil)) (eCall oSortedA (aCons (eO 4) aNil))))) (sRet (eC (.bool false))) sSkip)
  (sApp 1 (eV 3))) sSkip)
  (sIf (tValF (e2 oNe (eCall oList (aCons (eO 4) aNil)) (eCall oSortedA (aCons (eO 4) aNil)))) (sRet (eC (.bool false))) sSkip)))))
  (sRet (eC (.bool true)))))
def m__law_canon : List PyData → M PyData := runD 5 1 b__law_canon
def b__law_due : Sf := (sSeq (sIf (tValF (e2 oEq (eO 0) (eC (.str "both")))) (sRet (eAnd (eV 1) (eV 2))) sSkip)
  (sSeq (sIf (tValF (e2 oEq (eO 0) (eC (.str "either")))) (sRet (eOr (eV 1) (eV 2))) sSkip)
  (sRet (eIf (tValF (e2 oEq (eO 0) (eC (.str "less")))) (eAnd (eV 1) (eNot (eV 2))) (e2 oNe (eO 1) (eO 2))))))
def m__law_due : List PyData → M PyData := runD 3 3 b__law_due
def b_law_v2 : Sf := (sSeq (sSet 1 (eFn m__law_machine (aCons (eV 0) (aCons (eC (.int 0)) (aCons (eC (.int 3)) aNil)))))
  (sSeq (sSet 2 (eFn m__law_machine (aCons (eV 0) (aCons (eC (.int 100)) (aCons (eC (.int 3)) aNil)))))
  (sSeq (sSet 3 (e2 oAdd (eNew (nLc (iR1 (eC (.int 6))) (gN 4) tYesF (eFn m__law_word (aCons (eV 0) (aCons (e2 oAdd (eC (.int 200)) (e2 oMulI (eC (.int 12)) (eO 4))) (aCons (eC (.int 9)) aNil)))) [4])) (eFn m__law_words (aCons (eC (.int 3)) aNil))))
  (sSeq (sFor (iSeq (eTup (aCons (eC (.str "both")) (aCons (eC (.str "either")) (aCons (eC (.str "less")) (aCons (eC (.str "odd")) aNil)))))) (gN 5) (sSeq (sSet 6 (eFn m__law_told_v1 (aCons (eV 5) (aCons (eV 1) (aCons (eV 2) aNil)))))
  (sSeq (sIf (tOrF (tNotF (tTruF (e1 (oIsi "list") (eO 6)))) (tNotF (tTruF (eFn m__law_canon (aCons (eV 6) aNil))))) (sRet (eC (.bool false))) sSkip)
  (sSeq (sDrop (eFn m_look_machine (aCons (eV 6) aNil)))
  (sFor (iSeq (eV 3)) (gN 7) (sIf (tValF (e2 oNe (eFn m__law_takes (aCons (eV 6) (aCons (eV 7) aNil))) (eFn m__law_due (aCons (eV 5) (aCons (eFn m__law_takes (aCons (eV 1) (aCons (eV 7) aNil))) (aCons (eFn m__law_takes (aCons (eV 2) (aCons (eV 7) aNil))) aNil)))))) (sRet (eC (.bool false))) sSkip))))))
  (sSeq (sSet 6 (eFn m__law_told_v1 (aCons (eC (.str "turn")) (aCons (eV 1) (aCons (eV 2) aNil)))))
  (sSeq (sIf (tValF (e2 oNe (eNew (nLc (iSeq (eV 3)) (gN 7) tYesF (eFn m__law_takes (aCons (eV 6) (aCons (eV 7) aNil))) [7])) (eNew (nLc (iSeq (eV 3)) (gN 7) tYesF (eNot (eFn m__law_takes (aCons (eV 1) (aCons (eV 7) aNil)))) [7])))) (sRet (eC (.bool false))) sSkip)
  (sSeq (sSet 8 (eLst (aCons (eTup (aCons (eC (.bool true)) (aCons (eC (.int 1)) (aCons (eLst aNil) aNil)))) aNil)))
  (sSeq (sSet 6 (eLst (aCons (eFn m__law_told_v1 (aCons (eC (.str "and")) (aCons (eV 8) (aCons (eV 8) aNil)))) (aCons (eFn m__law_told_v1 (aCons (eC (.str "odd")) (aCons (eV 1) (aCons (eV 8) aNil)))) (aCons (eFn m__law_told_v1 (aCons (eC (.str "turn")) (aCons (eV 8) (aCons (eV 1) aNil)))) aNil)))))
  (sSeq (sIf (tValF (e2 oNe (eO 6) (eLst (aCons (eC (.str "word")) (aCons (eC (.str "machine")) (aCons (eC (.str "machine")) aNil)))))) (sRet (eC (.bool false))) sSkip)
  (sRet (eFn m__law_wide aNil)))))))))))
def m_law_v2 : List PyData → M PyData := runD 9 1 b_law_v2
def b_explored : Sf := (sSeq (sSetO 3 (nNew (aCons (eV 2) aNil)))
  (sSeq (sSetK1 4 (eV 2) (eC (.bool true)))
  (sSeq (sSet 5 (eC (.int 0)))
  (sSeq (sWhile (tValF (e2 oLtA (eO 5) (eCall oLen (aCons (eO 3) aNil)))) (sSeq (sAsg (e2 oIx (eO 3) (eO 5)) (gT 3 (gsCons (gN 6) (gsCons (gN 7) (gsCons (gN 8) gsNil)))))
  (sSeq (sIf (tValF (e2 oNe (e2 oIx (e2 oIx (eO 0) (eO 6)) (eC (.int 0))) (e2 oIx (e2 oIx (eO 1) (eO 7)) (eC (.int 0))))) (sRet (eC .none)) sSkip)
  (sSeq (sFor (iR1 (e2 oAdd (eCall oLen (aCons (eO 8) aNil)) (eC (.int 1)))) (gN 9) (sSeq (sAsg (eFn m_paired_step (aCons (eV 0) (aCons (eV 1) (aCons (e2 oIx (eO 3) (eO 5)) (aCons (eV 9) aNil))))) (gT 2 (gsCons (gN 10) (gsCons (gN 11) gsNil))))
  (sIf (tValF (eKIn true 4 (eV 10))) (sSeq (sKPut 4 (eV 10) (eC (.bool true)))
  (sApp 3 (eV 10))) sSkip)))
  (sSet 5 (e2 oAdd (eO 5) (eC (.int 1))))))))
  (sFrz 3 (sRet (eV 3)))))))
def m_explored : List PyData → M PyData := runD 12 3 b_explored
def b_told : Sf := (sSeq (sDrop (eFn m_look_machine (aCons (eV 0) aNil)))
  (sSeq (sDrop (eFn m_look_machine (aCons (eV 1) aNil)))
  (sSeq (sSet 2 (eFn m_explored (aCons (eV 0) (aCons (eV 1) (aCons (eC (.tuple [(.int 0), (.int 0), (.tuple [])])) aNil)))))
  (sSeq (sIf (tValF (e2 oNotN (eO 2) (eC .none))) (sRet (eTup (aCons (eC (.str "alike")) (aCons (eV 2) aNil)))) sSkip)
  (sRet (eTup (aCons (eC (.str "unlike")) (aCons (eFn m_least_word (aCons (eFn m_joined (aCons (eC (.str "odd")) (aCons (eV 0) (aCons (eV 1) aNil)))) aNil)) aNil))))))))
def m_told : List PyData → M PyData := runD 3 2 b_told
def b__law_renumbered : Sf := (sSeq (sSet 2 (eCall oLen (aCons (eO 0) aNil)))
  (sSeq (sSet 3 (e2 oAdd (eLst (aCons (eC (.int 0)) aNil)) (eNew (nLc (iR2 (eC (.int 1)) (eV 2)) (gN 4) tYesF (e2 oAdd (eC (.int 1)) (e2 oMod (e2 oAdd (e2 oSub (eO 4) (eC (.int 1))) (eO 1)) (eCall oMax2 (aCons (eC (.int 1)) (aCons (e2 oSub (eO 2) (eC (.int 1))) aNil))))) [4]))))
  (sSeq (sSetO 5 (nList (eO 0)))
  (sSeq (sFor (iR1 (eV 2)) (gN 4) (sSeq (sAsg (e2 oIx (eO 0) (eO 4)) (gT 3 (gsCons (gN 6) (gsCons (gN 7) (gsCons (gN 8) gsNil)))))
  (sPut 5 (e2 oIx (eO 3) (eO 4)) (eTup (aCons (eV 6) (aCons (eV 7) (aCons (eNew (nLc (iSeq (eV 8)) (gT 2 (gsCons (gN 9) (gsCons (gN 10) gsNil))) tYesF (eTup (aCons (e2 oIx (eO 3) (eO 9)) (aCons (eV 10) aNil))) [9, 10])) aNil)))))))
  (sFrz 5 (sRet (eV 5)))))))
def m__law_renumbered : List PyData → M PyData := runD 11 2 b__law_renumbered
def b__law_boxes_turned : Sf := (sSeq (sSet 2 (e2 oIx (e2 oIx (eO 0) (eO 1)) (eC (.int 1))))
  (sSeq (sSetO 3 (nNew aNil))
  (sSeq (sFor (iR1 (eCall oLen (aCons (eO 0) aNil))) (gN 4) (sSeq (sSetO 5 (nNew aNil))
  (sSeq (sFor (iSeq (e2 oIx (e2 oIx (eO 0) (eO 4)) (eC (.int 2)))) (gT 2 (gsCons (gN 6) (gsCons (gN 7) gsNil))) (sSeq (sIf (tValF (e2 oEq (eO 4) (eO 1))) (sSet 7 (eCall oTuple (aCons (eNew (nLc (iSeq (eV 7)) (gN 8) tYesF (eIf (tValF (e2 oEq (eO 8) (eO 2))) (eV 8) (e2 oSub (e2 oSub (eO 2) (eC (.int 1))) (eO 8))) [8])) aNil))) sSkip)
  (sApp 5 (eTup (aCons (eV 6) (aCons (eIf (tValF (e2 oEq (eO 6) (eO 1))) (e1 oRev (eO 7)) (eV 7)) aNil))))))
  (sSeq (sIf (tValF (e2 oEq (eO 4) (eO 1))) (sSet 5 (e2 oAdd (e1 oRev (eSl (eO 5) pNo (pSome (e1 oNeg (eC (.int 1)))))) (eSl (eO 5) (pSome (e1 oNeg (eC (.int 1)))) pNo))) sSkip)
  (sFrz 5 (sApp 3 (eTup (aCons (e2 oIx (e2 oIx (eO 0) (eO 4)) (eC (.int 0))) (aCons (e2 oIx (e2 oIx (eO 0) (eO 4)) (eC (.int 1))) (aCons (eV 5) aNil))))))))))
  (sFrz 3 (sRet (eV 3))))))
def m__law_boxes_turned : List PyData → M PyData := runD 9 2 b__law_boxes_turned
def b__law_doubled : Sf := (sSeq (sSet 4 (eCall oLen (aCons (eO 2) aNil)))
  (sSeq (sSetO 5 (nNew aNil))
  (sSeq (sFor (iR1 (e2 oAdd (eO 4) (eC (.int 1)))) (gN 6) (sSeq (sAsg (e2 oIx (eO 2) (eIf (tValF (e2 oLtA (eO 6) (eO 4))) (eV 6) (eV 3))) (gT 3 (gsCons (gN 7) (gsCons (gN 8) (gsCons (gN 9) gsNil)))))
  (sSeq (sSetO 10 (nNew aNil))
  (sSeq (sFor (iR1 (eCall oLen (aCons (eO 9) aNil))) (gN 11) (sSeq (sAsg (e2 oIx (eO 9) (eO 11)) (gT 2 (gsCons (gN 12) (gsCons (gN 13) gsNil))))
  (sSeq (sIf (tAndF (tValF (e2 oEq (eO 12) (eO 3))) (tValF (e2 oEq (e2 oMod (e2 oDiv (eFn m__law_mix (aCons (eV 0) (aCons (e2 oAdd (e2 oAdd (eO 1) (e2 oMulI (eC (.int 7)) (eO 6))) (eO 11)) aNil))) (eC (.int 4))) (eC (.int 2))) (eC (.int 0))))) (sSet 12 (eV 4)) sSkip)
  (sApp 10 (eTup (aCons (eV 12) (aCons (eV 13) aNil)))))))
  (sFrz 10 (sApp 5 (eTup (aCons (eV 7) (aCons (eV 8) (aCons (eV 10) aNil))))))))))
  (sFrz 5 (sRet (eV 5))))))
def m__law_doubled : List PyData → M PyData := runD 14 4 b__law_doubled
def b__law_spare : Sf := (sSeq (sSet 2 (e2 oIx (e2 oIx (eO 0) (eO 1)) (eC (.int 1))))
  (sSeq (sSetO 3 (nNew aNil))
  (sSeq (sFor (iR1 (eCall oLen (aCons (eO 0) aNil))) (gN 4) (sSeq (sAsg (e2 oIx (eO 0) (eO 4)) (gT 3 (gsCons (gN 5) (gsCons (gN 6) (gsCons (gN 7) gsNil)))))
  (sSeq (sSetO 8 (nNew aNil))
  (sSeq (sFor (iR1 (eCall oLen (aCons (eO 7) aNil))) (gN 9) (sSeq (sAsg (e2 oIx (eO 7) (eO 9)) (gT 2 (gsCons (gN 10) (gsCons (gN 11) gsNil))))
  (sSeq (sSet 12 (eNew (nLc (iR1 (e2 oAdd (eO 6) (eCall oInt (aCons (e2 oEq (eO 9) (eO 6)) aNil)))) (gN 13) (tValF (e2 (oIn true) (eO 13) (eO 11))) (eV 13) [13])))
  (sSeq (sIf (tAndF (tValF (e2 oEq (eO 10) (eO 1))) (tValF (e2 oEq (eO 12) (eLst aNil)))) (sRet (eV 0)) sSkip)
  (sApp 8 (eTup (aCons (eV 10) (aCons (e2 oAdd (eO 11) (eCall oTuple (aCons (eSl (eO 12) pNo (pSome (eCall oInt (aCons (e2 oEq (eO 10) (eO 1)) aNil)))) aNil))) aNil))))))))
  (sSeq (sIf (tValF (e2 oEq (eO 4) (eO 1))) (sSeq (sAsg (e2 oIx (eO 8) (e1 oNeg (eC (.int 1)))) (gT 2 (gsCons (gN 10) (gsCons (gN 11) gsNil))))
  (sSeq (sSet 8 (e2 oAdd (eSl (eO 8) pNo (pSome (e1 oNeg (eC (.int 1))))) (eLst (aCons (e2 oIx (eO 8) (e1 oNeg (eC (.int 1)))) (aCons (eTup (aCons (eV 10) (aCons (eCall oTuple (aCons (eNew (nLc (iSeq (eV 11)) (gN 14) tYesF (eIf (tValF (e2 oEq (eO 14) (eO 2))) (e2 oAdd (eO 2) (eC (.int 1))) (eV 14)) [14])) aNil)) aNil))) aNil)))))
  (sFrz 8 (sPar3 5 6 7 (aCons (eV 5) (aCons (e2 oAdd (eO 6) (eC (.int 1))) (aCons (eV 8) aNil))))))) sSkip)
  (sFrz 8 (sApp 3 (eTup (aCons (eV 5) (aCons (eV 6) (aCons (eV 8) aNil)))))))))))
  (sFrz 3 (sRet (eV 3))))))
def m__law_spare : List PyData → M PyData := runD 15 2 b__law_spare
def b__law_like : Sf := (sSeq (sFor (iR1 (e2 oAdd (eC (.int 1)) (e2 oMod (eFn m__law_mix (aCons (eV 0) (aCons (eV 1) aNil))) (eC (.int 3))))) (gN 3) (sSeq (sSet 4 (eFn m__law_mix (aCons (eV 0) (aCons (e2 oAdd (e2 oAdd (eO 1) (eC (.int 1))) (eO 3)) aNil))))
  (sSeq (sSet 5 (e2 oMod (e2 oDiv (eO 4) (eC (.int 4))) (eCall oLen (aCons (eO 2) aNil))))
  (sIf (tValF (e2 oEq (e2 oMod (eO 4) (eC (.int 4))) (eC (.int 0)))) (sSet 2 (eFn m__law_renumbered (aCons (eV 2) (aCons (e2 oMod (e2 oDiv (eO 4) (eC (.int 64))) (eC (.int 5))) aNil)))) (sIf (tValF (e2 oEq (e2 oMod (eO 4) (eC (.int 4))) (eC (.int 1)))) (sSet 2 (eFn m__law_boxes_turned (aCons (eV 2) (aCons (eV 5) aNil)))) (sIf (tValF (e2 oEq (e2 oMod (eO 4) (eC (.int 4))) (eC (.int 2)))) (sSet 2 (eFn m__law_doubled (aCons (eV 0) (aCons (e2 oAdd (eO 1) (eC (.int 10))) (aCons (eV 2) (aCons (eV 5) aNil)))))) (sIf (tAndF (tValF (e2 oGt (eO 5) (eC (.int 0)))) (tValF (e2 oLtA (e2 oIx (e2 oIx (eO 2) (eO 5)) (eC (.int 1))) (eC (.int 3))))) (sSet 2 (eFn m__law_spare (aCons (eV 2) (aCons (eV 5) aNil)))) sSkip)))))))
  (sRet (eV 2)))
def m__law_like : List PyData → M PyData := runD 6 3 b__law_like
def b_is_matching : Sf := (sSeq (sAsg (eV 2) (gT 3 (gsCons (gN 3) (gsCons (gN 4) (gsCons (gN 5) gsNil)))))
  (sSeq (sIf (tOrF (tNotF (tValF (e3 oLe oLtA (eC (.int 0)) (eO 3) (eCall oLen (aCons (eO 0) aNil))))) (tNotF (tValF (e3 oLe oLtA (eC (.int 0)) (eO 4) (eCall oLen (aCons (eO 1) aNil)))))) (sRet (eC (.bool false))) sSkip)
  (sSeq (sSet 6 (eNew (nLc (iSeq (eV 5)) (gT 2 (gsCons (gN 7) (gsCons (gN 8) gsNil))) (tValF (e2 oNotN (eO 7) (eC .none))) (eV 7) [7, 8])))
  (sSeq (sSet 9 (eNew (nLc (iSeq (eV 5)) (gT 2 (gsCons (gN 7) (gsCons (gN 8) gsNil))) (tValF (e2 oNotN (eO 8) (eC .none))) (eV 8) [7, 8])))
  (sSeq (sIf (tValF (e2 (oIn false) (eTup (aCons (eC .none) (aCons (eC .none) aNil))) (eO 5))) (sRet (eC (.bool false))) sSkip)
  (sRet (eAnd (e2 oEq (eCall oSortedA (aCons (eO 6) aNil)) (eNew (nRng (e2 oIx (e2 oIx (eO 0) (eO 3)) (eC (.int 1)))))) (e2 oEq (eCall oSortedA (aCons (eO 9) aNil)) (eNew (nRng (e2 oIx (e2 oIx (eO 1) (eO 4)) (eC (.int 1)))))))))))))
def m_is_matching : List PyData → M PyData := runD 10 3 b_is_matching
def b_shows_alike : Sf := (sSeq (sDrop (eFn m_look_machine (aCons (eV 0) aNil)))
  (sSeq (sDrop (eFn m_look_machine (aCons (eV 1) aNil)))
  (sSeq (sIf (tValF (e2 (oIn true) (eC (.tuple [(.int 0), (.int 0), (.tuple [])])) (eO 2))) (sRet (eC (.bool false))) sSkip)
  (sSeq (sFor (iSeq (eV 2)) (gN 3) (sSeq (sIf (tOrF (tNotF (tTruF (eFn m_is_matching (aCons (eV 0) (aCons (eV 1) (aCons (eV 3) aNil)))))) (tValF (e2 oNe (e2 oIx (e2 oIx (eO 0) (e2 oIx (eO 3) (eC (.int 0)))) (eC (.int 0))) (e2 oIx (e2 oIx (eO 1) (e2 oIx (eO 3) (eC (.int 1)))) (eC (.int 0)))))) (sRet (eC (.bool false))) sSkip)
  (sFor (iR1 (e2 oAdd (eCall oLen (aCons (e2 oIx (eO 3) (eC (.int 2))) aNil)) (eC (.int 1)))) (gN 4) (sIf (tValF (e2 (oIn true) (e2 oIx (eFn m_paired_step (aCons (eV 0) (aCons (eV 1) (aCons (eV 3) (aCons (eV 4) aNil))))) (eC (.int 0))) (eO 2))) (sRet (eC (.bool false))) sSkip))))
  (sRet (eC (.bool true)))))))
def m_shows_alike : List PyData → M PyData := runD 5 3 b_shows_alike
def b_law_v3 : Sf := (sSeq (sSet 1 (eFn m__law_machine (aCons (eV 0) (aCons (eC (.int 0)) (aCons (eC (.int 3)) aNil)))))
  (sSeq (sSet 2 (e2 oMod (eFn m__law_mix (aCons (eV 0) (aCons (eC (.int 200)) aNil))) (eC (.int 4))))
  (sSeq (sSet 3 (eIf (tValF (e2 oGt (eO 2) (eC (.int 0)))) (eFn m__law_like (aCons (eV 0) (aCons (eC (.int 201)) (aCons (eV 1) aNil)))) (eFn m__law_machine (aCons (eV 0) (aCons (eC (.int 100)) (aCons (eC (.int 3)) aNil))))))
  (sSeq (sIf (tValF (e2 oEq (eO 2) (eC (.int 3)))) (sSeq (sSet 4 (e2 oMod (eFn m__law_mix (aCons (eV 0) (aCons (eC (.int 220)) aNil))) (eCall oLen (aCons (eO 3) aNil))))
  (sSeq (sAsg (e2 oIx (eO 3) (eO 4)) (gT 3 (gsCons (gN 5) (gsCons (gN 6) (gsCons (gN 7) gsNil)))))
  (sSet 3 (e2 oAdd (e2 oAdd (eSl (eO 3) pNo (pSome (eO 4))) (eLst (aCons (eTup (aCons (eNot (eV 5)) (aCons (eV 6) (aCons (eV 7) aNil)))) aNil))) (eSl (eO 3) (pSome (e2 oAdd (eO 4) (eC (.int 1)))) pNo))))) sSkip)
  (sSeq (sSet 8 (eFn m_told (aCons (eV 1) (aCons (eV 3) aNil))))
  (sSeq (sIf (tOrF (tNotF (tTruF (e1 (oIsi "tuple") (eO 8)))) (tOrF (tValF (e2 oNe (eCall oLen (aCons (eO 8) aNil)) (eC (.int 2)))) (tAndF (tValF (e2 (oIn false) (eO 2) (eTup (aCons (eC (.int 1)) (aCons (eC (.int 2)) aNil))))) (tValF (e2 oNe (e2 oIx (eO 8) (eC (.int 0))) (eC (.str "alike"))))))) (sRet (eC (.bool false))) sSkip)
  (sSeq (sSet 9 (eFn m__law_words (aCons (eC (.int 5)) aNil)))
  (sSeq (sSet 10 (eNew (nLc (iSeq (eV 9)) (gN 11) (tValF (e2 oNe (eFn m__law_takes (aCons (eV 1) (aCons (eV 11) aNil))) (eFn m__law_takes (aCons (eV 3) (aCons (eV 11) aNil))))) (eV 11) [11])))
  (sSeq (sIf (tValF (e2 oEq (e2 oIx (eO 8) (eC (.int 0))) (eC (.str "alike")))) (sSeq (sSet 12 (e2 oIx (eO 8) (eC (.int 1))))
  (sSeq (sIf (tOrF (tValF (e2 oNe (eO 10) (eLst aNil))) (tOrF (tValF (e2 oNe (e2 oIx (eO 12) (eC (.int 0))) (eTup (aCons (eC (.int 0)) (aCons (eC (.int 0)) (aCons (eTup aNil) aNil)))))) (tTruF (eCall oAny (aCons (eNew (nLc (iSeq (eV 12)) (gN 13) tYesF (e2 oGt (eLCount (eO 12) (eO 13)) (eC (.int 1))) [13])) aNil))))) (sRet (eC (.bool false))) sSkip)
  (sRet (eFn m_shows_alike (aCons (eV 1) (aCons (eV 3) (aCons (eCall oList (aCons (eO 12) aNil)) aNil))))))) sSkip)
  (sSeq (sSet 11 (e2 oIx (eO 8) (eC (.int 1))))
  (sSeq (sIf (tOrF (tValF (e2 oNe (e2 oIx (eO 8) (eC (.int 0))) (eC (.str "unlike")))) (tValF (e2 oEq (eFn m__law_takes (aCons (eV 1) (aCons (eV 11) aNil))) (eFn m__law_takes (aCons (eV 3) (aCons (eV 11) aNil)))))) (sRet (eC (.bool false))) sSkip)
  (sSeq (sIf (tValF (e2 oEq (eO 10) (eLst aNil))) (sRet (e2 oGt (eCall oLen (aCons (eO 11) aNil)) (eC (.int 5)))) sSkip)
  (sRet (eAnd (e2 oEq (eCall oLen (aCons (eO 11) aNil)) (eCall oLen (aCons (e2 oIx (eO 10) (eC (.int 0))) aNil))) (e2 oLeA (eO 11) (e2 oIx (eO 10) (eC (.int 0))))))))))))))))))
def m_law_v3 : List PyData → M PyData := runD 14 1 b_law_v3
def b__law_bent : Sf := (sSeq (sSet 2 (e2 oMod (e2 oDiv (eO 1) (eC (.int 8))) (eCall oLen (aCons (eO 0) aNil))))
  (sSeq (sAsg (e2 oIx (eO 0) (eO 2)) (gT 3 (gsCons (gN 3) (gsCons (gN 4) (gsCons (gN 5) gsNil)))))
  (sSeq (sSet 6 (e2 oMod (eO 1) (eC (.int 8))))
  (sSeq (sIf (tValF (e2 oEq (eO 6) (eC (.int 0)))) (sRet (e2 oAdd (eSl (eO 0) pNo (pSome (eO 2))) (eSl (eO 0) (pSome (e2 oAdd (eO 2) (eC (.int 1)))) pNo))) sSkip)
  (sSeq (sIf (tValF (e2 oEq (eO 6) (eC (.int 1)))) (sRet (e2 oAdd (eO 0) (eLst (aCons (eTup (aCons (eV 4) (aCons (eV 3) (aCons (eV 5) aNil)))) aNil)))) sSkip)
  (sSeq (sIf (tValF (e2 oEq (eO 6) (eC (.int 2)))) (sRet (e2 oAdd (e2 oAdd (eSl (eO 0) pNo (pSome (eO 2))) (eLst (aCons (eTup (aCons (eV 3) (aCons (eV 4) (aCons (e1 oRev (eO 5)) aNil)))) aNil))) (eSl (eO 0) (pSome (e2 oAdd (eO 2) (eC (.int 1)))) pNo))) sSkip)
  (sSeq (sIf (tValF (e2 oEq (eO 6) (eC (.int 3)))) (sRet (e2 oAdd (eO 0) (eLst (aCons (eTup (aCons (eV 3) (aCons (eV 4) (aCons (e2 oAdd (eO 5) (e2 oIx (eLst (aCons (eTup (aCons (eTup (aCons (eC .none) (aCons (eC .none) aNil))) aNil)) (aCons (eTup (aCons (eTup (aCons (eC (.int 0)) (aCons (eC (.int 0)) aNil))) aNil)) (aCons (eTup (aCons (eTup (aCons (eC .none) (aCons (eC (.int 0)) aNil))) aNil)) aNil)))) (e2 oMod (e2 oDiv (eO 1) (eC (.int 64))) (eC (.int 3))))) aNil)))) aNil)))) sSkip)
  (sSeq (sIf (tValF (e2 oEq (eO 6) (eC (.int 4)))) (sRet (e2 oAdd (eO 0) (eLst (aCons (e2 oIx (eLst (aCons (eTup (aCons (eV 3) (aCons (e2 oAdd (eO 4) (eC (.int 9))) (aCons (eV 5) aNil)))) (aCons (eTup (aCons (e1 oNeg (eC (.int 1))) (aCons (eV 4) (aCons (eV 5) aNil)))) (aCons (eTup (aCons (eV 3) (aCons (eV 4) (aCons (eSl (eO 5) (pSome (eC (.int 1))) pNo) aNil)))) aNil)))) (e2 oMod (e2 oDiv (eO 1) (eC (.int 64))) (eC (.int 3)))) aNil)))) sSkip)
  (sRet (eIf (tValF (e2 oEq (eO 6) (eC (.int 5)))) (e1 oRev (eO 0)) (eV 0)))))))))))
def m__law_bent : List PyData → M PyData := runD 7 2 b__law_bent
def b__law_fits : Sf := (sSeq (sAsg (eV 2) (gT 3 (gsCons (gN 3) (gsCons (gN 4) (gsCons (gN 5) gsNil)))))
  (sSeq (sIf (tOrF (tNotF (tValF (e3 oLe oLtA (eC (.int 0)) (eO 3) (eCall oLen (aCons (eO 0) aNil))))) (tOrF (tNotF (tValF (e3 oLe oLtA (eC (.int 0)) (eO 4) (eCall oLen (aCons (eO 1) aNil))))) (tValF (e2 (oIn false) (eTup (aCons (eC .none) (aCons (eC .none) aNil))) (eO 5))))) (sRet (eC (.bool false))) sSkip)
  (sSeq (sSet 6 (eCall oSortedA (aCons (eNew (nLc (iSeq (eV 5)) (gN 7) (tValF (e2 oNotN (e2 oIx (eO 7) (eC (.int 0))) (eC .none))) (e2 oIx (eO 7) (eC (.int 0))) [7])) aNil)))
  (sSeq (sSet 8 (eCall oSortedA (aCons (eNew (nLc (iSeq (eV 5)) (gN 7) (tValF (e2 oNotN (e2 oIx (eO 7) (eC (.int 1))) (eC .none))) (e2 oIx (eO 7) (eC (.int 1))) [7])) aNil)))
  (sRet (eAnd (e2 oEq (eO 6) (eNew (nRng (e2 oIx (e2 oIx (eO 0) (eO 3)) (eC (.int 1)))))) (e2 oEq (eO 8) (eNew (nRng (e2 oIx (e2 oIx (eO 1) (eO 4)) (eC (.int 1))))))))))))
def m__law_fits : List PyData → M PyData := runD 9 3 b__law_fits
def b__law_behind : Sf := (sSeq (sAsg (eV 2) (gT 3 (gsCons (gN 4) (gsCons (gN 5) (gsCons (gN 6) gsNil)))))
  (sSeq (sNest 7 (nRep (aCons (eC (.int 0)) aNil) (e2 oIx (e2 oIx (eO 0) (eO 4)) (eC (.int 1)))) (nRep (aCons (eC (.int 0)) aNil) (e2 oIx (e2 oIx (eO 1) (eO 5)) (eC (.int 1)))) (nFor 7 (iR1 (eCall oLen (aCons (eO 6) aNil))) (gN 8) (nFor 7 (iR1 (eC (.int 2))) (gN 9) (nIf (tValF (e2 oNotN (e2 oIx (e2 oIx (eO 6) (eO 8)) (eO 9)) (eC .none))) (nPut (eO 9) (e2 oIx (e2 oIx (eO 6) (eO 8)) (eO 9)) (eV 8)))))) (sSeq (sAsg (eFn m__law_come (aCons (eV 0) (aCons (eV 4) (aCons (e2 oIx (eO 7) (eC (.int 0))) (aCons (eV 3) aNil))))) (gT 2 (gsCons (gN 10) (gsCons (gN 11) gsNil))))
  (sSeq (sAsg (eFn m__law_come (aCons (eV 1) (aCons (eV 5) (aCons (e2 oIx (eO 7) (eC (.int 1))) (aCons (eV 3) aNil))))) (gT 2 (gsCons (gN 12) (gsCons (gN 13) gsNil))))
  (sSeq (sSetO 14 (nNew aNil))
  (sSeq (sFor (iR1 (e2 oAdd (eCall oLen (aCons (eO 6) aNil)) (eC (.int 1)))) (gN 15) (sIf (tOrF (tValF (e2 (oIn false) (eO 15) (eO 11))) (tValF (e2 (oIn false) (eO 15) (eO 13)))) (sSeq (sSet 16 (eIf (tValF (e2 (oIn false) (eO 15) (eO 11))) (eLIndex (eO 11) (eO 15)) (eC .none)))
  (sApp 14 (eTup (aCons (eV 16) (aCons (eIf (tValF (e2 (oIn false) (eO 15) (eO 13))) (eLIndex (eO 13) (eO 15)) (eC .none)) aNil))))) sSkip))
  (sRet (eTup (aCons (eV 10) (aCons (eV 12) (aCons (eCall oTuple (aCons (eO 14) aNil)) aNil)))))))))))
def m__law_behind : List PyData → M PyData := runD 17 4 b__law_behind
def b__law_due_v1 : Sf := (sSeq (sIf (tOrF (tValF (e2 (oIn true) (eTup (aCons (eC (.int 0)) (aCons (eC (.int 0)) (aCons (eTup aNil) aNil)))) (eO 2))) (tNotF (tTruF (eCall oAll (aCons (eNew (nLc (iSeq (eV 2)) (gN 3) tYesF (eFn m__law_fits (aCons (eV 0) (aCons (eV 1) (aCons (eV 3) aNil)))) [3])) aNil))))) (sRet (eC (.bool false))) sSkip)
  (sSeq (sFor (iSeq (eV 2)) (gN 3) (sSeq (sIf (tValF (e2 oNe (e2 oIx (e2 oIx (eO 0) (e2 oIx (eO 3) (eC (.int 0)))) (eC (.int 0))) (e2 oIx (e2 oIx (eO 1) (e2 oIx (eO 3) (eC (.int 1)))) (eC (.int 0))))) (sRet (eC (.bool false))) sSkip)
  (sIf (tNotF (tTruF (eCall oAll (aCons (eNew (nLc (iR1 (e2 oAdd (eCall oLen (aCons (e2 oIx (eO 3) (eC (.int 2))) aNil)) (eC (.int 1)))) (gN 4) tYesF (e2 (oIn false) (eFn m__law_behind (aCons (eV 0) (aCons (eV 1) (aCons (eV 3) (aCons (eV 4) aNil))))) (eO 2)) [4])) aNil)))) (sRet (eC (.bool false))) sSkip)))
  (sRet (eC (.bool true)))))
def m__law_due_v1 : List PyData → M PyData := runD 5 3 b__law_due_v1
def b_law_v4 : Sf := (sSeq (sSet 1 (eFn m__law_machine (aCons (eV 0) (aCons (eC (.int 0)) (aCons (eC (.int 3)) aNil)))))
  (sSeq (sSet 2 (eFn m__law_like (aCons (eV 0) (aCons (eC (.int 201)) (aCons (eV 1) aNil)))))
  (sSeq (sAsg (eFn m_told (aCons (eV 1) (aCons (eV 2) aNil))) (gT 2 (gsCons (gN 3) (gsCons (gN 4) gsNil))))
  (sSeq (sIf (tValF (e2 oNe (eO 3) (eC (.str "alike")))) (sRet (eC (.bool false))) sSkip)
  (sSeq (sIf (tValF (e2 oEq (e2 oMod (eFn m__law_mix (aCons (eV 0) (aCons (eC (.int 200)) aNil))) (eC (.int 4))) (eC (.int 0)))) (sSet 2 (eFn m__law_machine (aCons (eV 0) (aCons (eC (.int 100)) (aCons (eC (.int 3)) aNil))))) sSkip)
  (sSeq (sSet 4 (eFn m__law_bent (aCons (eCall oList (aCons (eO 4) aNil)) (aCons (eFn m__law_mix (aCons (eV 0) (aCons (eC (.int 230)) aNil))) aNil))))
  (sSeq (sSet 5 (eFn m_shows_alike (aCons (eV 1) (aCons (eV 2) (aCons (eCall oList (aCons (eO 4) aNil)) aNil)))))
  (sSeq (sIf (tOrF (tNotF (tTruF (e1 (oIsi "bool") (eO 5)))) (tValF (e2 oNe (eO 5) (eFn m__law_due_v1 (aCons (eV 1) (aCons (eV 2) (aCons (eV 4) aNil))))))) (sRet (eC (.bool false))) sSkip)
  (sSeq (sSet 6 (eNew (nLc (iSeq (eFn m__law_words (aCons (eC (.int 4)) aNil))) (gN 7) (tValF (e2 oNe (eFn m__law_takes (aCons (eV 1) (aCons (eV 7) aNil))) (eFn m__law_takes (aCons (eV 2) (aCons (eV 7) aNil))))) (eV 7) [7])))
  (sRet (eOr (eNot (eV 5)) (e2 oEq (eO 6) (eLst aNil)))))))))))))
def m_law_v4 : List PyData → M PyData := runD 8 1 b_law_v4
def b_how_many : Sf := (sSeq (sDrop (eFn m_look_machine (aCons (eV 0) aNil)))
  (sSeq (sIf (tNotF (tValF (e3 oLe oLe (eC (.int 0)) (eO 1) (eC (.int 30))))) (sRaise .wrd) sSkip)
  (sSeq (sSetKF 2 (eTup (aCons (eC (.int 0)) (aCons (eC (.int 0)) aNil))) (eC (.int 1)))
  (sSeq (sFor (iR1 (eV 1)) (gN 3) (sSeq (sSetK 4)
  (sSeq (sFor (iSeq (eKSorted 2)) (gT 2 (gsCons (gN 5) (gsCons (gN 6) gsNil))) (sSeq (sAsg (e2 oIx (eO 0) (eO 5)) (gT 3 (gsCons (gN 7) (gsCons (gN 8) (gsCons (gN 9) gsNil)))))
  (sSeq (sSet 10 (eKIx 2 (eTup (aCons (eV 5) (aCons (eV 6) aNil)))))
  (sSeq (sFor (iR1 (eV 8)) (gN 11) (sSeq (sSet 12 (eTup (aCons (e2 oIx (e2 oIx (eO 9) (eO 11)) (eC (.int 0))) (aCons (eV 6) aNil))))
  (sKPut 4 (eV 12) (e2 oAdd (eKGet2 4 (eV 12) (eC (.int 0))) (eO 10)))))
  (sSeq (sSet 12 (eTup (aCons (e2 oIx (e2 oIx (eO 9) (eO 8)) (eC (.int 0))) (aCons (eV 6) aNil))))
  (sSeq (sKPut 4 (eV 12) (e2 oAdd (eKGet2 4 (eV 12) (eC (.int 0))) (e2 oMulI (eO 10) (e2 oSub (eO 6) (eO 8)))))
  (sSeq (sSet 12 (eTup (aCons (e2 oIx (e2 oIx (eO 9) (eO 8)) (eC (.int 0))) (aCons (e2 oAdd (eO 6) (eC (.int 1))) aNil))))
  (sKPut 4 (eV 12) (e2 oAdd (eKGet2 4 (eV 12) (eC (.int 0))) (eO 10))))))))))
  (sMvK 2 4))))
  (sRet (eCall oSum (aCons (eNew (nLc (iKItems 2) (gT 2 (gsCons (gT 2 (gsCons (gN 5) (gsCons (gN 6) gsNil))) (gsCons (gN 10) gsNil))) (tTruF (e2 oIx (e2 oIx (eO 0) (eO 5)) (eC (.int 0)))) (eV 10) [5, 6, 10])) aNil)))))))
def m_how_many : List PyData → M PyData := runD 13 2 b_how_many
def b__law_told_v2 : Sf := (sSeq (sSet 2 (eC .none))
  (sSeq (sSet 3 (eC .none))
  (sSeq (sTryK 4 2 (sSet 3 (eFn m_how_many (aCons (eV 0) (aCons (eV 1) aNil)))))
  (sRet (eIf (tValF (e2 oIsN (eO 2) (eC .none))) (eV 3) (eFn m__law_refusal (aCons (eV 2) aNil)))))))
def m__law_told_v2 : List PyData → M PyData := runD 5 2 b__law_told_v2
def b_called : Sf := (sSeq (sSetM 1)
  (sSeq (sSetO 2 (nNew aNil))
  (sSeq (sFor (iSeq (eV 0)) (gN 3) (sSeq (sIf (tValF (eMIn true 1 (eV 3))) (sMPut 1 (eV 3) (eMLen 1)) sSkip)
  (sApp 2 (eMIx 1 (eV 3)))))
  (sFrz 2 (sRet (eV 2))))))
def m_called : List PyData → M PyData := runD 4 1 b_called
def b_law_v5 : Sf := (sSeq (sSet 1 (eFn m__law_machine (aCons (eV 0) (aCons (eC (.int 0)) (aCons (eC (.int 4)) aNil)))))
  (sSeq (sSet 2 (e2 oMod (eFn m__law_mix (aCons (eV 0) (aCons (eC (.int 100)) aNil))) (eC (.int 6))))
  (sSeq (sSet 3 (eNew (nLc (iSeq (eFn m__law_words (aCons (eV 2) aNil))) (gN 4) (tValF (e2 oEq (eCall oLen (aCons (eO 4) aNil)) (eO 2))) (eV 4) [4])))
  (sSeq (sSet 5 (eFn m__law_told_v2 (aCons (eV 1) (aCons (eV 2) aNil))))
  (sSeq (sSet 6 (eNew (nLc (iSeq (eV 3)) (gN 4) (tTruF (eFn m__law_takes (aCons (eV 1) (aCons (eV 4) aNil)))) (eV 4) [4])))
  (sSeq (sIf (tOrF (tNotF (tTruF (eFn m__law_whole (aCons (eV 5) aNil)))) (tValF (e2 oNe (eO 5) (eCall oLen (aCons (eO 6) aNil))))) (sRet (eC (.bool false))) sSkip)
  (sSeq (sSet 4 (eFn m__law_word (aCons (eV 0) (aCons (eC (.int 101)) (aCons (eC (.int 9)) aNil)))))
  (sSeq (sSet 7 (eCall oList (aCons (eO 4) aNil)))
  (sSeq (sSet 8 (eFn m_called (aCons (eV 7) aNil)))
  (sSeq (sSetO 9 (nNew aNil))
  (sSeq (sFor (iR1 (eCall oLen (aCons (eO 4) aNil))) (gN 10) (sSeq (sSet 11 (eNew (nLc (iR1 (eV 10)) (gN 12) (tValF (e2 oEq (e2 oIx (eO 4) (eO 12)) (e2 oIx (eO 4) (eO 10)))) (eV 12) [12])))
  (sApp 9 (eIf (tTruF (eO 11)) (e2 oIx (eO 9) (e2 oIx (eO 11) (eC (.int 0)))) (e2 oAdd (eCall oMaxL (aCons (e2 oAdd (eLst (aCons (e1 oNeg (eC (.int 1))) aNil)) (eO 9)) aNil)) (eC (.int 1)))))))
  (sSeq (sIf (tOrF (tValF (e2 oNe (eO 8) (eO 9))) (tOrF (tValF (e2 oNe (eO 7) (eO 4))) (tValF (e2 oNe (eFn m__law_takes (aCons (eV 1) (aCons (eV 8) aNil))) (eFn m__law_takes (aCons (eV 1) (aCons (eV 4) aNil))))))) (sRet (eC (.bool false))) sSkip)
  (sSeq (sSet 13 (e2 oIx (eLst (aCons (e1 oNeg (eC (.int 1))) (aCons (eC (.int 31)) (aCons (eC (.int 1000)) aNil)))) (e2 oMod (eFn m__law_mix (aCons (eV 0) (aCons (eC (.int 120)) aNil))) (eC (.int 3)))))
  (sRet (eAnd (e2 oEq (eFn m__law_told_v2 (aCons (eV 1) (aCons (eV 13) aNil))) (eC (.str "word"))) (eAnd (e2 oEq (eFn m__law_told_v2 (aCons (eLst aNil) (aCons (eV 13) aNil))) (eC (.str "machine"))) (eFn m__law_whole (aCons (eFn m__law_told_v2 (aCons (eV 1) (aCons (eC (.int 30)) aNil))) aNil))))))))))))))))))
def m_law_v5 : List PyData → M PyData := runD 14 1 b_law_v5
def b__law_text : Sf := (sSeq (sSetO 1 (nNew aNil))
  (sSeq (sFor (iSeq (eV 0)) (gT 3 (gsCons (gN 2) (gsCons (gN 3) (gsCons (gN 4) gsNil)))) (sSeq (sSetO 5 (nNew (aCons (e2 oIx (eLst (aCons (eC (.str "no")) (aCons (eC (.str "yes")) aNil))) (eCall oInt (aCons (eO 2) aNil))) aNil)))
  (sSeq (sFor (iSeq (eV 4)) (gT 2 (gsCons (gN 6) (gsCons (gN 7) gsNil))) (sApp 5 (eJoin (eC (.str " ")) (e2 oAdd (eLst (aCons (eCall oStr (aCons (eO 6) aNil)) aNil)) (eNew (nLc (iSeq (eV 7)) (gN 8) tYesF (eCall oStr (aCons (eO 8) aNil)) [8]))))))
  (sApp 1 (eJoin (eC (.str "; ")) (eO 5))))))
  (sRet (eJoin (eC (.str "\n")) (eO 1)))))
def m__law_text : List PyData → M PyData := runD 9 1 b__law_text
def b__law_numbers : Sf := (sSeq (sSetO 1 (nNew aNil))
  (sSeq (sFor (iSeq (eV 0)) (gN 2) (sSeq (sIf (tOrF (tValF (e2 oEq (eO 2) (eC (.str "")))) (tOrF (tValF (e2 oGt (eCall oLen (aCons (eO 2) aNil)) (eC (.int 3)))) (tOrF (tNotF (tTruF (eCall oAll (aCons (eNew (nLc (iText (eV 2)) (gN 3) tYesF (e2 oInTx (eO 3) (eC (.str "0123456789"))) [3])) aNil)))) (tValF (e2 oNe (eCall oStr (aCons (eCall oIntText (aCons (eO 2) aNil)) aNil)) (eO 2)))))) (sRet (eC .none)) sSkip)
  (sApp 1 (eCall oIntText (aCons (eO 2) aNil)))))
  (sFrz 1 (sRet (eV 1)))))
def m__law_numbers : List PyData → M PyData := runD 4 1 b__law_numbers
def b__law_tried : Sf := (sSeq (sSetO 1 (nNew aNil))
  (sSeq (sFor (iSeq (eSplit (eO 0) (eC (.str "\n")))) (gN 2) (sSeq (sSet 3 (eSplit (eO 2) (eC (.str "; "))))
  (sSeq (sSet 4 (eNew (nLc (iSeq (eSl (eO 3) (pSome (eC (.int 1))) pNo)) (gN 5) tYesF (eFn m__law_numbers (aCons (eSplit (eO 5) (eC (.str " "))) aNil)) [5])))
  (sSeq (sIf (tOrF (tValF (e2 (oIn true) (e2 oIx (eO 3) (eC (.int 0))) (eTup (aCons (eC (.str "yes")) (aCons (eC (.str "no")) aNil))))) (tOrF (tValF (e2 oEq (eO 4) (eLst aNil))) (tValF (e2 (oIn false) (eC .none) (eO 4))))) (sRet (eC .none)) sSkip)
  (sApp 1 (eTup (aCons (e2 oEq (e2 oIx (eO 3) (eC (.int 0))) (eC (.str "yes"))) (aCons (e2 oSub (eCall oLen (aCons (eO 4) aNil)) (eC (.int 1))) (aCons (eNew (nLc (iSeq (eV 4)) (gN 6) tYesF (eTup (aCons (e2 oIx (eO 6) (eC (.int 0))) (aCons (eCall oTuple (aCons (eSl (eO 6) (pSome (eC (.int 1))) pNo) aNil)) aNil))) [6])) aNil)))))))))
  (sFrz 1 (sRet (eV 1)))))
def m__law_tried : List PyData → M PyData := runD 7 1 b__law_tried
def b_number_in : Sf := (sSeq (sIf (tOrF (tNotF (tValF (e3 oLe oLe (eC (.int 1)) (eCall oLen (aCons (eO 0) aNil)) (eC (.int 3))))) (tOrF (tNotF (tTruF (eCall oAll (aCons (eNew (nLc (iText (eV 0)) (gN 1) tYesF (e2 oInTx (eO 1) (eC (.str "0123456789"))) [1])) aNil)))) (tAndF (tValF (e2 oEq (e2 oIx (eO 0) (eC (.int 0))) (eC (.str "0")))) (tValF (e2 oNe (eO 0) (eC (.str "0"))))))) (sRaise .txt) sSkip)
  (sRet (eCall oIntText (aCons (eO 0) aNil))))
def m_number_in : List PyData → M PyData := runD 2 1 b_number_in
def b_state_in : Sf := (sSeq (sSet 1 (eSplit (eO 0) (eC (.str "; "))))
  (sSeq (sIf (tOrF (tValF (e2 (oIn true) (e2 oIx (eO 1) (eC (.int 0))) (eTup (aCons (eC (.str "yes")) (aCons (eC (.str "no")) aNil))))) (tValF (e2 oLtA (eCall oLen (aCons (eO 1) aNil)) (eC (.int 2))))) (sRaise .txt) sSkip)
  (sSeq (sSetO 2 (nNew aNil))
  (sSeq (sFor (iSeq (eSl (eO 1) (pSome (eC (.int 1))) pNo)) (gN 3) (sSeq (sSet 4 (eNew (nLcE (iSeq (eSplit (eO 3) (eC (.str " ")))) (gN 5) tYesF (eFn m_number_in (aCons (eV 5) aNil)) [5])))
  (sApp 2 (eTup (aCons (e2 oIx (eO 4) (eC (.int 0))) (aCons (eCall oTuple (aCons (eSl (eO 4) (pSome (eC (.int 1))) pNo) aNil)) aNil))))))
  (sFrz 2 (sRet (eTup (aCons (e2 oEq (e2 oIx (eO 1) (eC (.int 0))) (eC (.str "yes"))) (aCons (e2 oSub (eCall oLen (aCons (eO 2) aNil)) (eC (.int 1))) (aCons (eV 2) aNil))))))))))
def m_state_in : List PyData → M PyData := runD 6 1 b_state_in
def b_read : Sf := (sSeq (sSet 1 (eNew (nLcE (iSeq (eSplit (eO 0) (eC (.str "\n")))) (gN 2) tYesF (eFn m_state_in (aCons (eV 2) aNil)) [2])))
  (sSeq (sSet 3 (eC .none))
  (sSeq (sTryM (fun xn => decide (xn = XN.mach)) 4 3 (sDrop (eFn m_look_machine (aCons (eV 1) aNil))))
  (sSeq (sIf (tValF (e2 oNotN (eO 3) (eC .none))) (sRaise .txt) sSkip)
  (sRet (eV 1))))))
def m_read : List PyData → M PyData := runD 5 1 b_read
def b__law_is_machine : Sf := (sSeq (sSet 1 (eC .none))
  (sSeq (sTryM (fun xn => decide (xn = XN.mach)) 2 1 (sDrop (eFn m_look_machine (aCons (eV 0) aNil))))
  (sRet (e2 oIsN (eO 1) (eC .none)))))
def m__law_is_machine : List PyData → M PyData := runD 3 1 b__law_is_machine
def b_move_text : Sf := (sRet (eJoin (eC (.str " ")) (e2 oAdd (eLst (aCons (eCall oStr (aCons (e2 oIx (eO 0) (eC (.int 0))) aNil)) aNil)) (eNew (nLc (iSeq (e2 oIx (eO 0) (eC (.int 1)))) (gN 1) tYesF (eCall oStr (aCons (eO 1) aNil)) [1])))))
def m_move_text : List PyData → M PyData := runD 2 1 b_move_text
def b_written : Sf := (sSeq (sDrop (eFn m_look_machine (aCons (eV 0) aNil)))
  (sSeq (sSetO 1 (nNew aNil))
  (sSeq (sFor (iSeq (eV 0)) (gT 3 (gsCons (gN 2) (gsCons (gN 3) (gsCons (gN 4) gsNil)))) (sApp 1 (e2 oAdd (e2 oAdd (eIf (tTruF (eO 2)) (eC (.str "yes")) (eC (.str "no"))) (eC (.str "; "))) (eJoin (eC (.str "; ")) (eNew (nLc (iSeq (eV 4)) (gN 5) tYesF (eFn m_move_text (aCons (eV 5) aNil)) [5]))))))
  (sRet (eJoin (eC (.str "\n")) (eO 1))))))
def m_written : List PyData → M PyData := runD 6 1 b_written
def b_law_v6 : Sf := (sSeq (sSet 1 (eFn m__law_machine (aCons (eV 0) (aCons (eC (.int 0)) (aCons (eC (.int 4)) aNil)))))
  (sSeq (sSet 2 (eFn m__law_text (aCons (eV 1) aNil)))
  (sSeq (sIf (tOrF (tValF (e2 oNe (eFn m_written (aCons (eV 1) aNil)) (eO 2))) (tValF (e2 oNe (eFn m_read (aCons (eV 2) aNil)) (eO 1)))) (sRet (eC (.bool false))) sSkip)
  (sSeq (sFor (iR1 (e2 oAdd (eC (.int 1)) (e2 oMod (eFn m__law_mix (aCons (eV 0) (aCons (eC (.int 100)) aNil))) (eC (.int 2))))) (gN 3) (sSeq (sSet 4 (eFn m__law_mix (aCons (eV 0) (aCons (e2 oAdd (eC (.int 101)) (eO 3)) aNil))))
  (sSeq (sSet 5 (e2 oMod (e2 oDiv (eO 4) (eC (.int 8))) (e2 oAdd (eCall oLen (aCons (eO 2) aNil)) (eC (.int 1)))))
  (sSeq (sSet 6 (e2 oIx (eC (.str "012 ;\nysno9-")) (e2 oMod (e2 oDiv (eO 4) (eC (.int 4096))) (eC (.int 12)))))
  (sSeq (sSet 7 (eLst (aCons (e2 oAdd (e2 oAdd (eSl (eO 2) pNo (pSome (eO 5))) (eO 6)) (eSl (eO 2) (pSome (eO 5)) pNo)) (aCons (e2 oAdd (e2 oAdd (eSl (eO 2) pNo (pSome (eO 5))) (eO 6)) (eSl (eO 2) (pSome (e2 oAdd (eO 5) (eC (.int 1)))) pNo)) (aCons (e2 oAdd (eSl (eO 2) pNo (pSome (eO 5))) (eSl (eO 2) (pSome (e2 oAdd (eO 5) (eC (.int 1)))) pNo)) aNil)))))
  (sSet 2 (e2 oIx (eO 7) (e2 oMod (eO 4) (eC (.int 3))))))))))
  (sSeq (sSet 8 (eC .none))
  (sSeq (sSet 9 (eC .none))
  (sSeq (sTryK 10 8 (sSet 9 (eFn m_read (aCons (eV 2) aNil))))
  (sSeq (sSet 11 (eFn m__law_tried (aCons (eV 2) aNil)))
  (sSeq (sIf (tAndF (tValF (e2 oNotN (eO 11) (eC .none))) (tTruF (eFn m__law_is_machine (aCons (eV 11) aNil)))) (sRet (eAnd (e2 oIsN (eO 8) (eC .none)) (e2 oEq (eO 9) (eO 11)))) sSkip)
  (sSeq (sIf (tValF (e2 oNe (eFn m__law_refusal (aCons (eV 8) aNil)) (eC (.str "text")))) (sRet (eC (.bool false))) sSkip)
  (sSeq (sSet 8 (eC .none))
  (sSeq (sTryK 10 8 (sDrop (eFn m_written (aCons (eLst aNil) aNil))))
  (sRet (e2 oEq (eFn m__law_refusal (aCons (eV 8) aNil)) (eC (.str "machine"))))))))))))))))
def m_law_v6 : List PyData → M PyData := runD 12 1 b_law_v6
def b_can_come : Sf := (sSeq (sSet 2 (eFn m_goals_of (aCons (eV 0) aNil)))
  (sSeq (sSetO 3 (nLc (iSeq (eV 0)) (gN 4) tYesF (e2 oEq (e2 oIx (eO 4) (eC (.int 0))) (eO 1)) [4]))
  (sSeq (sSet 5 (eC .none))
  (sSeq (sWhile (tValF (e2 oNe (eO 5) (eO 3))) (sSeq (sSet 5 (eCall oList (aCons (eO 3) aNil)))
  (sFor (iR1 (eCall oLen (aCons (eO 0) aNil))) (gN 6) (sPut 3 (eO 6) (eOr (e2 oIx (eO 5) (eO 6)) (eCall oAny (aCons (eNew (nLc (iSeq (e2 oIx (eO 2) (eO 6))) (gN 7) tYesF (e2 oIx (eO 5) (eO 7)) [7])) aNil)))))))
  (sFrz 3 (sRet (eV 3)))))))
def m_can_come : List PyData → M PyData := runD 8 2 b_can_come
def b__law_later : Sf := (sSeq (sSet 2 (eLst (aCons (eV 1) aNil)))
  (sSeq (sFor (iR1 (eCall oLen (aCons (eO 0) aNil))) (gN 3) (sFor (iR1 (eCall oLen (aCons (eO 0) aNil))) (gN 4) (sIf (tValF (e2 (oIn false) (eO 4) (eO 2))) (sSet 2 (e1 oSortedSet (e2 oAdd (eO 2) (eNew (nLc (iSeq (e2 oIx (e2 oIx (eO 0) (eO 4)) (eC (.int 2)))) (gN 5) tYesF (e2 oIx (eO 5) (eC (.int 0))) [5]))))) sSkip)))
  (sSeq (sSet 6 (eNew (nLc (iSeq (eV 2)) (gN 4) tYesF (e2 oIx (e2 oIx (eO 0) (eO 4)) (eC (.int 0))) [4])))
  (sRet (eIf (tTruF (eCall oAll (aCons (eO 6) aNil))) (eC (.str "always")) (eIf (tTruF (eCall oAny (aCons (eO 6) aNil))) (eC (.str "open")) (eC (.str "never"))))))))
def m__law_later : List PyData → M PyData := runD 7 2 b__law_later
def b_W_told : Sf := (sSeq (sSet 1 (e2 oIx (eAttr 0 "here") (eC (.int 0))))
  (sSeq (sSet 2 (eC (.str "open")))
  (sSeq (sIf (tNotF (tTruF (e2 oIx (eAttr 0 "can_fail") (eO 1)))) (sSet 2 (eC (.str "always"))) (sIf (tNotF (tTruF (e2 oIx (eAttr 0 "can_be") (eO 1)))) (sSet 2 (eC (.str "never"))) sSkip))
  (sRet (eTup (aCons (e2 oIx (e2 oIx (eAttr 0 "machine") (eO 1)) (eC (.int 0))) (aCons (eV 2) aNil)))))))
def m_W_told : List (Str × PyData) → M PyData := runI 3 b_W_told
def f_W_come : Ef := (eFn m_stepped (aCons (eAttr 0 "machine") (aCons (eAttr 0 "here") (aCons (eV 1) aNil))))
def g_W_come : Ef := (eMeth 0 "told" m_W_told)
def m_W_come : List (Str × PyData) → PyData → Option (List (Str × PyData) × PyData) := runC 2 "here" f_W_come g_W_come
def b_W___init__ : Sf := (sSeq (sAttr 0 "can_be" (eFn m_can_come (aCons (eAttr 0 "machine") (aCons (eC (.bool true)) aNil))))
  (sSeq (sAttr 0 "can_fail" (eFn m_can_come (aCons (eAttr 0 "machine") (aCons (eC (.bool false)) aNil))))
  (sAttr 0 "here" (eTup (aCons (eC (.int 0)) (aCons (eTup aNil) aNil))))))
def m_W___init__ : List PyData → M (List (Str × PyData)) := runInit 5 m_look_machine b_W___init__
def b_law_v7 : Sf := (sSeq (sSet 1 (eFn m__law_machine (aCons (eV 0) (aCons (eC (.int 0)) (aCons (eC (.int 4)) aNil)))))
  (sSeq (sSet 2 (e2 oMod (eFn m__law_mix (aCons (eV 0) (aCons (eC (.int 100)) aNil))) (eC (.int 3))))
  (sSeq (sIf (tValF (e2 oGt (eO 2) (eC (.int 0)))) (sSeq (sSet 3 (e2 oMod (eFn m__law_mix (aCons (eV 0) (aCons (eC (.int 101)) aNil))) (eCall oLen (aCons (eO 1) aNil))))
  (sSeq (sSetO 4 (nNew aNil))
  (sSeq (sFor (iR1 (eCall oLen (aCons (eO 1) aNil))) (gN 5) (sApp 4 (eTup (aCons (eIf (tValF (e2 oGe (eO 5) (eO 3))) (e2 oEq (eO 2) (eC (.int 1))) (e2 oIx (e2 oIx (eO 1) (eO 5)) (eC (.int 0)))) (aCons (e2 oIx (e2 oIx (eO 1) (eO 5)) (eC (.int 1))) (aCons (e2 oIx (e2 oIx (eO 1) (eO 5)) (eC (.int 2))) aNil))))))
  (sFrz 4 (sSet 1 (eV 4)))))) sSkip)
  (sHanded 1 7 8 9 6 10 11 m_W___init__ (eTup (aCons (eC (.int 0)) (aCons (eTup aNil) aNil))) (e1 oNeg (eC (.int 1))) (eTup (aCons (eC (.bool true)) (aCons (eC (.int 0)) (aCons (eLst aNil) aNil))))
  (sSeq (sSet 12 (eC (.int 0)))
  (sSeq (sSet 13 (eLst aNil))
  (sSeq (sIf (tValF (e2 oNe (eMeth 10 "told" m_W_told) (eTup (aCons (e2 oIx (e2 oIx (eO 1) (eC (.int 0))) (eC (.int 0))) (aCons (eFn m__law_later (aCons (eV 1) (aCons (eC (.int 0)) aNil))) aNil))))) (sRet (eC (.bool false))) sSkip)
  (sSeq (sFor (iSeq (eFn m__law_word (aCons (eV 0) (aCons (eC (.int 102)) (aCons (eC (.int 9)) aNil))))) (gN 14) (sSeq (sAsg (eFn m__law_come (aCons (eV 1) (aCons (eV 12) (aCons (eV 13) (aCons (eV 14) aNil))))) (gT 2 (gsCons (gN 12) (gsCons (gN 13) gsNil))))
  (sSeq (sCome 15 10 "come" (eV 14) m_W_come)
  (sSeq (sIf (tOrF (tNotF (tTruF (e1 (oIsi "bool") (e2 oIx (eO 15) (eC (.int 0)))))) (tValF (e2 oNe (eO 15) (eTup (aCons (e2 oIx (e2 oIx (eO 1) (eO 12)) (eC (.int 0))) (aCons (eFn m__law_later (aCons (eV 1) (aCons (eV 12) aNil))) aNil)))))) (sRet (eC (.bool false))) sSkip)
  (sSeq (sIf (tOrF (tValF (e2 oNe (eMeth 10 "told" m_W_told) (eO 15))) (tValF (e2 oNe (eKept 10 "kept") (eCall oSortedA (aCons (eO 13) aNil))))) (sRet (eC (.bool false))) sSkip)
  (sKeptApp 10 "kept" (eV 14)))))))
  (sSeq (sIf (tOrF (tValF (e2 oNe (eMeth 11 "told" m_W_told) (eTup (aCons (e2 oIx (e2 oIx (eO 1) (eC (.int 0))) (eC (.int 0))) (aCons (eFn m__law_later (aCons (eV 1) (aCons (eC (.int 0)) aNil))) aNil))))) (tValF (e2 oNe (eKept 11 "kept") (eLst aNil)))) (sRet (eC (.bool false))) sSkip)
  (sSeq (sSet 16 (eC .none))
  (sSeq (sTryK 17 16 (sDrop (eMkErr m_W___init__ (eLst aNil))))
  (sRet (e2 oEq (eFn m__law_refusal (aCons (eV 16) aNil)) (eC (.str "machine")))))))))))))))
def m_law_v7 : List PyData → M PyData := runD 18 1 b_law_v7
end WK

set_option Elab.async false
set_option linter.all false
set_option maxRecDepth 100000
set_option maxHeartbeats 4000000

noncomputable section
namespace WK
open PySem PySem.Spec PyProof.Rows L2 DL
def topS (i : Nat) : Stmt := PySem.Challenge.pw_boxword_k60_whole_watched.main.body.getD i (.Pass ⟨0, 0, 0, 0⟩)
structure Txt (K : PySem.W.Frag) (mg : Str → Option Value) (F : Nat → Addr) (fd : Nat → FuncData) (ax : XN → Addr) : Prop where
  f_look_state : Fun K "look_state" "look_state" (topS 9) (F 0) (fd 0)
  g_look_state : mg "look_state" = some (.ref (F 0))
  b_look_state : Binds K (fd 0) ["machine", "state"] []
  f_look_machine : Fun K "look_machine" "look_machine" (topS 10) (F 1) (fd 1)
  g_look_machine : mg "look_machine" = some (.ref (F 1))
  b_look_machine : Binds K (fd 1) ["machine"] []
  f_goals_of : Fun K "goals_of" "goals_of" (topS 12) (F 3) (fd 3)
  g_goals_of : mg "goals_of" = some (.ref (F 3))
  b_goals_of : Binds K (fd 3) ["machine"] []
  f_can_come : Fun K "can_come" "can_come" (topS 14) (F 4) (fd 4)
  g_can_come : mg "can_come" = some (.ref (F 4))
  b_can_come : Binds K (fd 4) ["machine", "wished"] []
  f_stepped : Fun K "stepped" "stepped" (topS 11) (F 2) (fd 2)
  g_stepped : mg "stepped" = some (.ref (F 2))
  b_stepped : Binds K (fd 2) ["machine", "here", "letter"] []
  f__law_cell : Fun K "_law_cell" "_law_cell" (topS 17) (F 5) (fd 5)
  g__law_cell : mg "_law_cell" = some (.ref (F 5))
  b__law_cell : Binds K (fd 5) ["_law_script", "_law_k"] []
  f__law_mix : Fun K "_law_mix" "_law_mix" (topS 18) (F 6) (fd 6)
  g__law_mix : mg "_law_mix" = some (.ref (F 6))
  b__law_mix : Binds K (fd 6) ["_law_script", "_law_k"] []
  f__law_sources : Fun K "_law_sources" "_law_sources" (topS 19) (F 7) (fd 7)
  g__law_sources : mg "_law_sources" = some (.ref (F 7))
  b__law_sources : Binds K (fd 7) ["_law_script", "_law_k", "_law_many", "_law_most"] []
  f__law_machine : Fun K "_law_machine" "_law_machine" (topS 20) (F 8) (fd 8)
  g__law_machine : mg "_law_machine" = some (.ref (F 8))
  b__law_machine : Binds K (fd 8) ["_law_script", "_law_k", "_law_most"] []
  f__law_word : Fun K "_law_word" "_law_word" (topS 21) (F 9) (fd 9)
  g__law_word : mg "_law_word" = some (.ref (F 9))
  b__law_word : Binds K (fd 9) ["_law_script", "_law_k", "_law_most"] []
  f__law_come : Fun K "_law_come" "_law_come" (topS 22) (F 10) (fd 10)
  g__law_come : mg "_law_come" = some (.ref (F 10))
  b__law_come : Binds K (fd 10) ["_law_machine_here", "_law_state", "_law_held", "_law_letter"] []
  f__law_refusal : Fun K "_law_refusal" "_law_refusal" (topS 23) (F 11) (fd 11)
  g__law_refusal : mg "_law_refusal" = some (.ref (F 11))
  b__law_refusal : Binds K (fd 11) ["_law_kept"] []
  f__law_later : Fun K "_law_later" "_law_later" (topS 24) (F 12) (fd 12)
  g__law_later : mg "_law_later" = some (.ref (F 12))
  b__law_later : Binds K (fd 12) ["_law_machine_here", "_law_state"] []
  wf_told : Fun K "told" "Watcher.told" (inClass (topS 15) 1) (F 15) (fd 15)
  wb_told : Binds K (fd 15) ["self"] []
  wm_told : Meth K (F 18) "told" (F 15)
  wf_kept : Fun K "kept" "Watcher.kept" (inClass (topS 15) 3) (F 17) (fd 17)
  wb_kept : Binds K (fd 17) ["self"] []
  wm_kept : Meth K (F 18) "kept" (F 17)
  wf_come : Fun K "come" "Watcher.come" (inClass (topS 15) 2) (F 16) (fd 16)
  wb_come : Binds K (fd 16) ["self", "letter"] []
  wm_come : Meth K (F 18) "come" (F 16)
  wf___init__ : Fun K "__init__" "Watcher.__init__" (inClass (topS 15) 0) (F 14) (fd 14)
  wb___init__ : Binds K (fd 14) ["self", "machine"] []
  wmk : Mk K (F 18) (F 14)
  f_law : Fun K "law" "law" (topS 25) (F 13) (fd 13)
  g_law : mg "law" = some (.ref (F 13))
  b_law : Binds K (fd 13) ["_law_script"] []
  wc : WC K (F 18)
  wcl : Cls K (F 18)
  wg : mg "Watcher" = some (.ref (F 18))
  wn_can_be : NoAttr K (F 18) "can_be"
  wn_can_fail : NoAttr K (F 18) "can_fail"
  wn_here : NoAttr K (F 18) "here"
  wn_machine : NoAttr K (F 18) "machine"
  n_ValueError : mg "ValueError" = none
  n_all : mg "all" = none
  n_any : mg "any" = none
  n_bool : mg "bool" = none
  n_int : mg "int" = none
  n_isinstance : mg "isinstance" = none
  n_len : mg "len" = none
  n_list : mg "list" = none
  n_range : mg "range" = none
  n_set : mg "set" = none
  n_sorted : mg "sorted" = none
  n_tuple : mg "tuple" = none
  c_MOST_BOXES : ∃ t, mg "MOST_BOXES" = some (.int 6 t)
  c_MOST_STATES : ∃ t, mg "MOST_STATES" = some (.int 400 t)
  x_BadMachine : PySem.W.excIn K (ax .mach) [.type "ValueError", .type "Exception", .type "BaseException", .type "object"] "ValueError.__new__" = true
  g_BadMachine : mg "BadMachine" = some (.ref (ax .mach))
  k_BadMachine : PySem.W.keepIn K (.ref (ax .mach)) = true
  s_BadMachine : PySem.W.subIn K (.ref (ax .mach)) (.type "BaseException") = some true
  t_BadMachine : PySem.W.typeIn K (.ref (ax .mach)) = some (.type "type")
  x_BadText : PySem.W.excIn K (ax .txt) [.type "ValueError", .type "Exception", .type "BaseException", .type "object"] "ValueError.__new__" = true
  g_BadText : mg "BadText" = some (.ref (ax .txt))
  k_BadText : PySem.W.keepIn K (.ref (ax .txt)) = true
  s_BadText : PySem.W.subIn K (.ref (ax .txt)) (.type "BaseException") = some true
  t_BadText : PySem.W.typeIn K (.ref (ax .txt)) = some (.type "type")
  x_BadWord : PySem.W.excIn K (ax .wrd) [.type "ValueError", .type "Exception", .type "BaseException", .type "object"] "ValueError.__new__" = true
  g_BadWord : mg "BadWord" = some (.ref (ax .wrd))
  k_BadWord : PySem.W.keepIn K (.ref (ax .wrd)) = true
  s_BadWord : PySem.W.subIn K (.ref (ax .wrd)) (.type "BaseException") = some true
  t_BadWord : PySem.W.typeIn K (.ref (ax .wrd)) = some (.type "type")
  x_TooMany : PySem.W.excIn K (ax .many) [.type "ValueError", .type "Exception", .type "BaseException", .type "object"] "ValueError.__new__" = true
  g_TooMany : mg "TooMany" = some (.ref (ax .many))
  k_TooMany : PySem.W.keepIn K (.ref (ax .many)) = true
  s_TooMany : PySem.W.subIn K (.ref (ax .many)) (.type "BaseException") = some true
  t_TooMany : PySem.W.typeIn K (.ref (ax .many)) = some (.type "type")
  ec : ∀ xn, ExcC K (ax xn)
  is_BadMachine : ∀ xn, PySem.W.kitOne K (.ref (ax xn)) (.ref (ax .mach)) = some (decide (xn = .mach))
  is_BadText : ∀ xn, PySem.W.kitOne K (.ref (ax xn)) (.ref (ax .txt)) = some (decide (xn = .txt))
  is_BadWord : ∀ xn, PySem.W.kitOne K (.ref (ax xn)) (.ref (ax .wrd)) = some (decide (xn = .wrd))
  is_TooMany : ∀ xn, PySem.W.kitOne K (.ref (ax xn)) (.ref (ax .many)) = some (decide (xn = .many))
  is_ValueError : ∀ xn, PySem.W.kitOne K (.ref (ax xn)) (.type "ValueError") = some true
  c_BoxError : ∃ be, mg "BoxError" = some (.ref be) ∧ ∀ xn, PySem.W.exmOne K (.ref (ax xn)) (.ref be) = some true
section
variable {P : Program} {w : World} {K : PySem.W.Frag} {mg : Str → Option Value} {base : Heap} {F : Nat → Addr} {fd : Nat → FuncData} {ax : XN → Addr}
abbrev st_look_state : Stmt := topS 9
theorem sc_look_state : FnScope ["machine", "state", "good", "boxes", "moves", "case", "goal", "sources", "most", "source"] ["machine", "state"] (defScope st_look_state) := ⟨rfl, rfl, rfl, by decide +kernel, rfl, by decide +kernel, by decide +kernel⟩
theorem ok_look_state (T : Txt K mg F fd ax) : FnOk P w K mg base (L2.CX P w) 1 (F 0) (fd 0) ["machine", "state"] (spD K ax m_look_state) :=
  okD T.f_look_state sc_look_state fun cdv A outer s H F0 E hr =>
    (dss_cons (ds_asg (de_v (pv 1)) (dg_tup rfl (dgs_cons (dg_n (pg_name (i := 2) sc_look_state.nd rfl (by first | exact Or.inl rfl | exact Or.inr rfl))) (dgs_cons (dg_n (pg_name (i := 3) sc_look_state.nd rfl (by first | exact Or.inl rfl | exact Or.inr rfl))) (dgs_cons (dg_n (pg_name (i := 4) sc_look_state.nd rfl (by first | exact Or.inl rfl | exact Or.inr rfl))) dgs_nil)))))
    (dss_cons (ds_if (PW.pt (dw_or (dt_cmp (op_notInS (hu65 hr)) os_notIn (de_o (pv 2)) (de_b (de_tup (da_cons de_bl (da_cons de_bl da_nil))))) (dw_or (dt_not (dt_chain op_le op_le os_cmp os_cmp (de_b de_int) (de_o (pv 3)) (de_b (de_globI (by rfl) T.c_MOST_BOXES.choose_spec)))) (dw_or1 (dt_cmp (op_neD (hu64 hr)) os_ne (de_b (de_callB cl_len cs_len (by rfl) T.n_len (by decide +kernel) (db_cons (de_o (pv 4)) db_nil))) (de_b (de_op op_addS os_add (de_o (pv 3)) (de_b de_int)))))))) (dss_one (ds_raise (xn := .mach) rfl (takes_of rfl rfl rfl rfl) PySem.F.excBase_ValueError T.x_BadMachine T.g_BadMachine T.k_BadMachine (raises_own T.s_BadMachine T.t_BadMachine) rfl (by rfl))) dss_nil)
    (dss_one (ds_for (passes_of rfl) rfl (di_r1 (by rfl) T.n_range (de_op op_addS os_add (de_o (pv 3)) (de_b de_int))) (dg_n (pg_name (i := 5) sc_look_state.nd rfl (by first | exact Or.inl rfl | exact Or.inr rfl))) (dss_cons (ds_asg (de_ix (de_o (pv 4)) (de_o (pv 5))) (dg_tup rfl (dgs_cons (dg_n (pg_name (i := 6) sc_look_state.nd rfl (by first | exact Or.inl rfl | exact Or.inr rfl))) (dgs_cons (dg_n (pg_name (i := 7) sc_look_state.nd rfl (by first | exact Or.inl rfl | exact Or.inr rfl))) dgs_nil))))
    (dss_cons (ds_if (PW.pt (dw_or (dt_not (dt_chain op_le (op_ltA (hu0 hr)) os_cmp os_ltA (de_b de_int) (de_o (pv 6)) (de_b (de_callB cl_len cs_len (by rfl) T.n_len (by decide +kernel) (db_cons (de_o (pv 0)) db_nil))))) (dw_or1 (dt_cmp (op_neD (hu64 hr)) os_ne (de_b (de_callB cl_len cs_len (by rfl) T.n_len (by decide +kernel) (db_cons (de_o (pv 7)) db_nil))) (de_b (de_ix (de_b (de_ix (de_o (pv 0)) (de_o (pv 6)))) (de_b de_int))))))) (dss_one (ds_raise (xn := .mach) rfl (takes_of rfl rfl rfl rfl) PySem.F.excBase_ValueError T.x_BadMachine T.g_BadMachine T.k_BadMachine (raises_own T.s_BadMachine T.t_BadMachine) rfl (by rfl))) dss_nil)
    (dss_cons (ds_set (i := 8) (de_if (dt_cmp (op_ltA (hu0 hr)) os_ltA (de_o (pv 5)) (de_o (pv 3))) (de_v (pv 3)) (de_op op_addS os_add (de_o (pv 3)) (de_b de_int))) sc_look_state.nd rfl (by first | exact Or.inl rfl | exact Or.inr rfl))
    (dss_one (ds_if (PW.pt (dw_or (dt_not (dt_val (de_b (de_callB (cr_all rfl) cs_all (by rfl) T.n_all (by decide +kernel) (db_cons (de_b (de_new (do_lc (own := [("source", 9)]) rfl sc_look_state.nd (di_seq (de_v (pv 7))) (blkOk_by (by kernel_rfl)) (fun _ _ _ _ _ => (dg_n (pg_name (i := 9) sc_look_state.nd rfl (by first | exact Or.inl rfl | exact Or.inr rfl)))) (fun _ _ _ _ _ => dt_yes) (fun _ _ _ _ _ => (de_chain op_le (op_ltA (hu0 hr)) os_cmp os_ltA (de_b de_int) (de_o (pv 9)) (de_o (pv 8))))))) db_nil))))) (dw_or1 (dt_cmp (op_neD (hu64 hr)) os_ne (de_b (de_lenSet rfl (by rfl) T.n_len (by rfl) T.n_set (de_o (pv 7)))) (de_b (de_callB cl_len cs_len (by rfl) T.n_len (by decide +kernel) (db_cons (de_o (pv 7)) db_nil))))))) (dss_one (ds_raise (xn := .mach) rfl (takes_of rfl rfl rfl rfl) PySem.F.excBase_ValueError T.x_BadMachine T.g_BadMachine T.k_BadMachine (raises_own T.s_BadMachine T.t_BadMachine) rfl (by rfl))) dss_nil)))))))))
abbrev st_look_machine : Stmt := topS 10
theorem sc_look_machine : FnScope ["machine", "state"] ["machine"] (defScope st_look_machine) := ⟨rfl, rfl, rfl, by decide +kernel, rfl, by decide +kernel, by decide +kernel⟩
theorem ok_look_machine (T : Txt K mg F fd ax) : FnOk P w K mg base (L2.CX P w) 2 (F 1) (fd 1) ["machine"] (spD K ax m_look_machine) :=
  okD T.f_look_machine sc_look_machine fun cdv A outer s H F0 E hr =>
    (dss_cons (ds_if (PW.pt (dw_or (dt_not (dt_chain op_le op_le os_cmp os_cmp (de_b de_int) (de_b (de_callB cl_len cs_len (by rfl) T.n_len (by decide +kernel) (db_cons (de_o (pv 0)) db_nil))) (de_b (de_globI (by rfl) T.c_MOST_STATES.choose_spec)))) (dw_or1 (dt_cmp (op_neD (hu64 hr)) os_ne (de_b (de_ix (de_b (de_ix (de_o (pv 0)) (de_b de_int))) (de_b de_int))) (de_b de_int))))) (dss_one (ds_raise (xn := .mach) rfl (takes_of rfl rfl rfl rfl) PySem.F.excBase_ValueError T.x_BadMachine T.g_BadMachine T.k_BadMachine (raises_own T.s_BadMachine T.t_BadMachine) rfl (by rfl))) dss_nil)
    (dss_one (ds_for (passes_of rfl) rfl (di_seq (de_v (pv 0))) (dg_n (pg_name (i := 1) sc_look_machine.nd rfl (by first | exact Or.inl rfl | exact Or.inr rfl))) (dss_one (ds_expr (de_fn (ok_look_state T) (hr.mono (by decide)) (by rfl) T.g_look_state T.f_look_state.kp T.b_look_state (takes_of rfl rfl rfl rfl) (da_cons (de_v (pv 0)) (da_cons (de_v (pv 1)) da_nil))))))))
abbrev st_goals_of : Stmt := topS 12
theorem sc_goals_of : FnScope ["machine", "move", "state"] ["machine"] (defScope st_goals_of) := ⟨rfl, rfl, rfl, by decide +kernel, rfl, by decide +kernel, by decide +kernel⟩
theorem ok_goals_of (T : Txt K mg F fd ax) : FnOk P w K mg base (L2.CX P w) 1 (F 3) (fd 3) ["machine"] (spD K ax m_goals_of) :=
  okD T.f_goals_of sc_goals_of fun cdv A outer s H F0 E hr =>
    (dss_one (ds_ret (de_new (do_lc (own := [("state", 2)]) rfl sc_goals_of.nd (di_seq (de_v (pv 0))) (blkOk_by (by kernel_rfl)) (fun _ _ _ _ _ => (dg_n (pg_name (i := 2) sc_goals_of.nd rfl (by first | exact Or.inl rfl | exact Or.inr rfl)))) (fun _ _ _ _ _ => dt_yes) (fun _ _ _ _ _ => (de_new (do_lc (own := [("move", 1)]) rfl sc_goals_of.nd (di_seq (de_ix (de_o (pv 2)) (de_b de_int))) (blkOk_by (by kernel_rfl)) (fun _ _ _ _ _ => (dg_n (pg_name (i := 1) sc_goals_of.nd rfl (by first | exact Or.inl rfl | exact Or.inr rfl)))) (fun _ _ _ _ _ => dt_yes) (fun _ _ _ _ _ => (de_ix (de_o (pv 1)) (de_b de_int))))))))))
abbrev st_can_come : Stmt := topS 14
theorem sc_can_come : FnScope ["machine", "wished", "some", "found", "state", "before", "k", "goal"] ["machine", "wished"] (defScope st_can_come) := ⟨rfl, rfl, rfl, by decide +kernel, rfl, by decide +kernel, by decide +kernel⟩
theorem ok_can_come (T : Txt K mg F fd ax) : FnOk P w K mg base (L2.CX P w) 2 (F 4) (fd 4) ["machine", "wished"] (spD K ax m_can_come) :=
  okD T.f_can_come sc_can_come fun cdv A outer s H F0 E hr =>
    (dss_cons (ds_set (i := 2) (de_fn (ok_goals_of T) (hr.mono (by decide)) (by rfl) T.g_goals_of T.f_goals_of.kp T.b_goals_of (takes_of rfl rfl rfl rfl) (da_cons (de_v (pv 0)) da_nil)) sc_can_come.nd rfl (by first | exact Or.inl rfl | exact Or.inr rfl))
    (dss_cons (ds_setLcO (i := 3) (own := [("state", 4)]) rfl sc_can_come.nd rfl rfl (sw_true rfl rfl rfl (by decide +kernel)) (di_seq (de_v (pv 0))) (blkOk_by (by kernel_rfl)) (fun _ _ _ _ _ => (dg_n (pg_name (i := 4) sc_can_come.nd rfl (by first | exact Or.inl rfl | exact Or.inr rfl)))) (fun _ _ _ _ _ => dt_yes) (fun _ _ _ _ _ => (de_cmp (op_eqD (hu64 hr)) os_eq (de_b (de_ix (de_o (pv 4)) (de_b de_int))) (de_o (pv 1)))))
    (dss_cons (ds_set (i := 5) de_non sc_can_come.nd rfl (by first | exact Or.inl rfl | exact Or.inr rfl))
    (dss_cons (ds_while (passes_of rfl) (dt_cmp (op_neD (hu64 hr)) os_ne (de_o (pv 5)) (de_o (pv 3))) (dss_cons (ds_set (i := 5) (de_callT call_list_of cs_list (by rfl) T.n_list (by decide +kernel) (db_cons (de_o (pv 3)) db_nil)) sc_can_come.nd rfl (by first | exact Or.inl rfl | exact Or.inr rfl))
    (dss_one (ds_for (passes_of rfl) rfl (di_r1 (by rfl) T.n_range (de_callB cl_len cs_len (by rfl) T.n_len (by decide +kernel) (db_cons (de_o (pv 0)) db_nil))) (dg_n (pg_name (i := 6) sc_can_come.nd rfl (by first | exact Or.inl rfl | exact Or.inr rfl))) (dss_one (ds_put (pv 3) (de_o (pv 6)) (de_or (de_ix (de_o (pv 5)) (de_o (pv 6))) (de_one (de_callB (cr_any rfl) cs_any (by rfl) T.n_any (by decide +kernel) (db_cons (de_b (de_new (do_lc (own := [("goal", 7)]) rfl sc_can_come.nd (di_seq (de_ix (de_o (pv 2)) (de_o (pv 6)))) (blkOk_by (by kernel_rfl)) (fun _ _ _ _ _ => (dg_n (pg_name (i := 7) sc_can_come.nd rfl (by first | exact Or.inl rfl | exact Or.inr rfl)))) (fun _ _ _ _ _ => dt_yes) (fun _ _ _ _ _ => (de_ix (de_o (pv 5)) (de_o (pv 7))))))) db_nil)))) rfl rfl (pg_sub (pv 3) (de_o (pv 6)) set_list)))))))
    (dss_one (ds_frz (i := 3) (ds_ret (de_v (pv 3)))))))))
abbrev st_stepped : Stmt := topS 11
theorem sc_stepped : FnScope ["machine", "here", "letter", "state", "held", "good", "boxes", "moves", "case", "goal", "sources", "known", "source"] ["machine", "here", "letter"] (defScope st_stepped) := ⟨rfl, rfl, rfl, by decide +kernel, rfl, by decide +kernel, by decide +kernel⟩
theorem ok_stepped (T : Txt K mg F fd ax) : FnOk P w K mg base (L2.CX P w) 1 (F 2) (fd 2) ["machine", "here", "letter"] (spD K ax m_stepped) :=
  okD T.f_stepped sc_stepped fun cdv A outer s H F0 E hr =>
    (dss_cons (ds_asg (de_v (pv 1)) (dg_tup rfl (dgs_cons (dg_n (pg_name (i := 3) sc_stepped.nd rfl (by first | exact Or.inl rfl | exact Or.inr rfl))) (dgs_cons (dg_n (pg_name (i := 4) sc_stepped.nd rfl (by first | exact Or.inl rfl | exact Or.inr rfl))) dgs_nil))))
    (dss_cons (ds_asg (de_ix (de_o (pv 0)) (de_o (pv 3))) (dg_tup rfl (dgs_cons (dg_n (pg_name (i := 5) sc_stepped.nd rfl (by first | exact Or.inl rfl | exact Or.inr rfl))) (dgs_cons (dg_n (pg_name (i := 6) sc_stepped.nd rfl (by first | exact Or.inl rfl | exact Or.inr rfl))) (dgs_cons (dg_n (pg_name (i := 7) sc_stepped.nd rfl (by first | exact Or.inl rfl | exact Or.inr rfl))) dgs_nil)))))
    (dss_cons (ds_set (i := 8) (de_if (dt_cmp (op_inS (hu65 hr)) os_in (de_o (pv 2)) (de_o (pv 4))) (de_tindex (hu65 hr) (de_o (pv 4)) (de_o (pv 2))) (de_v (pv 6))) sc_stepped.nd rfl (by first | exact Or.inl rfl | exact Or.inr rfl))
    (dss_cons (ds_asg (de_ix (de_o (pv 7)) (de_o (pv 8))) (dg_tup rfl (dgs_cons (dg_n (pg_name (i := 9) sc_stepped.nd rfl (by first | exact Or.inl rfl | exact Or.inr rfl))) (dgs_cons (dg_n (pg_name (i := 10) sc_stepped.nd rfl (by first | exact Or.inl rfl | exact Or.inr rfl))) dgs_nil))))
    (dss_cons (ds_set (i := 11) (de_op op_addS os_add (de_o (pv 4)) (de_b (de_tup (da_cons (de_v (pv 2)) da_nil)))) sc_stepped.nd rfl (by first | exact Or.inl rfl | exact Or.inr rfl))
    (dss_one (ds_ret (de_tup (da_cons (de_v (pv 9)) (da_cons (de_callT cl_tuple cs_tuple (by rfl) T.n_tuple (by decide +kernel) (db_cons (de_b (de_new (do_lc (own := [("source", 12)]) rfl sc_stepped.nd (di_seq (de_v (pv 10))) (blkOk_by (by kernel_rfl)) (fun _ _ _ _ _ => (dg_n (pg_name (i := 12) sc_stepped.nd rfl (by first | exact Or.inl rfl | exact Or.inr rfl)))) (fun _ _ _ _ _ => dt_yes) (fun _ _ _ _ _ => (de_ix (de_o (pv 11)) (de_o (pv 12))))))) db_nil)) da_nil))))))))))
abbrev st__law_cell : Stmt := topS 17
theorem sc__law_cell : FnScope ["_law_script", "_law_k"] ["_law_script", "_law_k"] (defScope st__law_cell) := ⟨rfl, rfl, rfl, by decide +kernel, rfl, by decide +kernel, by decide +kernel⟩
theorem ok__law_cell (T : Txt K mg F fd ax) : FnOk P w K mg base (L2.CX P w) 1 (F 5) (fd 5) ["_law_script", "_law_k"] (spD K ax m__law_cell) :=
  okD T.f__law_cell sc__law_cell fun cdv A outer s H F0 E hr =>
    (dss_cons (ds_if (dt_val (de_o (pv 0))) (dss_one (ds_ret (de_ix (de_o (pv 0)) (de_b (de_op op_mod os_mod (de_o (pv 1)) (de_b (de_callB cl_len cs_len (by rfl) T.n_len (by decide +kernel) (db_cons (de_o (pv 0)) db_nil)))))))) dss_nil)
    (dss_one (ds_ret de_int)))
abbrev st__law_mix : Stmt := topS 18
theorem sc__law_mix : FnScope ["_law_script", "_law_k", "_law_number"] ["_law_script", "_law_k"] (defScope st__law_mix) := ⟨rfl, rfl, rfl, by decide +kernel, rfl, by decide +kernel, by decide +kernel⟩
theorem ok__law_mix (T : Txt K mg F fd ax) : FnOk P w K mg base (L2.CX P w) 2 (F 6) (fd 6) ["_law_script", "_law_k"] (spD K ax m__law_mix) :=
  okD T.f__law_mix sc__law_mix fun cdv A outer s H F0 E hr =>
    (dss_cons (ds_set (i := 2) (de_op op_mod os_mod (de_b (de_op op_addS os_add (de_b (de_fn (ok__law_cell T) (hr.mono (by decide)) (by rfl) T.g__law_cell T.f__law_cell.kp T.b__law_cell (takes_of rfl rfl rfl rfl) (da_cons (de_v (pv 0)) (da_cons (de_v (pv 1)) da_nil)))) (de_b (de_op op_mul os_mulI (de_b de_int) (de_b (de_op op_addS os_add (de_o (pv 1)) (de_b de_int))))))) (de_b de_int)) sc__law_mix.nd rfl (by first | exact Or.inl rfl | exact Or.inr rfl))
    (dss_cons (ds_set (i := 2) (de_op op_mod os_mod (de_b (de_op op_mul os_mulI (de_o (pv 2)) (de_b de_int))) (de_b de_int)) sc__law_mix.nd rfl (by first | exact Or.inl rfl | exact Or.inr rfl))
    (dss_one (ds_ret (de_op op_mod os_mod (de_b (de_op op_addS os_add (de_b (de_op op_mul os_mulI (de_b (de_op op_fdiv os_div (de_o (pv 2)) (de_b de_int))) (de_b de_int))) (de_o (pv 2)))) (de_b de_int))))))
abbrev st__law_sources : Stmt := topS 19
theorem sc__law_sources : FnScope ["_law_script", "_law_k", "_law_many", "_law_most", "_law_left", "_law_found"] ["_law_script", "_law_k", "_law_many", "_law_most"] (defScope st__law_sources) := ⟨rfl, rfl, rfl, by decide +kernel, rfl, by decide +kernel, by decide +kernel⟩
theorem ok__law_sources (T : Txt K mg F fd ax) : FnOk P w K mg base (L2.CX P w) 3 (F 7) (fd 7) ["_law_script", "_law_k", "_law_many", "_law_most"] (spD K ax m__law_sources) :=
  okD T.f__law_sources sc__law_sources fun cdv A outer s H F0 E hr =>
    (dss_cons (ds_setO (i := 4) (do_rng rfl (by rfl) T.n_list (by rfl) T.n_range (de_v (pv 3))) sc__law_sources.nd rfl (by first | exact Or.inl rfl | exact Or.inr rfl))
    (dss_cons (ds_setO (i := 5) (do_lst da_nil) sc__law_sources.nd rfl (by first | exact Or.inl rfl | exact Or.inr rfl))
    (dss_cons (ds_while (passes_of rfl) (dt_cmp (op_ltA (hu0 hr)) os_ltA (de_b (de_callB cl_len cs_len (by rfl) T.n_len (by decide +kernel) (db_cons (de_o (pv 5)) db_nil))) (de_o (pv 2))) (dss_one (ds_apppop (pv 5) (pv 4) (de_b (de_op op_mod os_mod (de_b (de_fn (ok__law_mix T) (hr.mono (by decide)) (by rfl) T.g__law_mix T.f__law_mix.kp T.b__law_mix (takes_of rfl rfl rfl rfl) (da_cons (de_v (pv 0)) (da_cons (de_op op_addS os_add (de_o (pv 1)) (de_b (de_callB cl_len cs_len (by rfl) T.n_len (by decide +kernel) (db_cons (de_o (pv 5)) db_nil)))) da_nil)))) (de_b (de_callB cl_len cs_len (by rfl) T.n_len (by decide +kernel) (db_cons (de_o (pv 4)) db_nil))))))))
    (dss_one (ds_ret (de_callT cl_tuple cs_tuple (by rfl) T.n_tuple (by decide +kernel) (db_cons (de_o (pv 5)) db_nil)))))))
abbrev st__law_machine : Stmt := topS 20
theorem sc__law_machine : FnScope ["_law_script", "_law_k", "_law_most", "_law_boxes", "_law_j", "_law_found", "_law_state", "_law_moves", "_law_case", "_law_far", "_law_goals", "_law_goal"] ["_law_script", "_law_k", "_law_most"] (defScope st__law_machine) := ⟨rfl, rfl, rfl, by decide +kernel, rfl, by decide +kernel, by decide +kernel⟩
theorem ok__law_machine (T : Txt K mg F fd ax) : FnOk P w K mg base (L2.CX P w) 4 (F 8) (fd 8) ["_law_script", "_law_k", "_law_most"] (spD K ax m__law_machine) :=
  okD T.f__law_machine sc__law_machine fun cdv A outer s H F0 E hr =>
    (dss_cons (ds_setO (i := 3) (do_lst (da_cons de_int da_nil)) sc__law_machine.nd rfl (by first | exact Or.inl rfl | exact Or.inr rfl))
    (dss_cons (ds_for (passes_of rfl) rfl (di_r1 (by rfl) T.n_range (de_op op_mod os_mod (de_b (de_fn (ok__law_mix T) (hr.mono (by decide)) (by rfl) T.g__law_mix T.f__law_mix.kp T.b__law_mix (takes_of rfl rfl rfl rfl) (da_cons (de_v (pv 0)) (da_cons (de_v (pv 1)) da_nil)))) (de_o (pv 2)))) (dg_n (pg_name (i := 4) sc__law_machine.nd rfl (by first | exact Or.inl rfl | exact Or.inr rfl))) (dss_one (ds_app (pv 3) (de_ix (de_b (de_lst (da_cons de_int (da_cons de_int (da_cons de_int (da_cons de_int da_nil)))))) (de_b (de_op op_mod os_mod (de_b (de_fn (ok__law_mix T) (hr.mono (by decide)) (by rfl) T.g__law_mix T.f__law_mix.kp T.b__law_mix (takes_of rfl rfl rfl rfl) (da_cons (de_v (pv 0)) (da_cons (de_op op_addS os_add (de_b (de_op op_addS os_add (de_o (pv 1)) (de_b de_int))) (de_o (pv 4))) da_nil)))) (de_b de_int)))))))
    (dss_cons (ds_setO (i := 5) (do_lst da_nil) sc__law_machine.nd rfl (by first | exact Or.inl rfl | exact Or.inr rfl))
    (dss_cons (ds_for (passes_of rfl) rfl (di_r1 (by rfl) T.n_range (de_callB cl_len cs_len (by rfl) T.n_len (by decide +kernel) (db_cons (de_o (pv 3)) db_nil))) (dg_n (pg_name (i := 6) sc__law_machine.nd rfl (by first | exact Or.inl rfl | exact Or.inr rfl))) (dss_cons (ds_setO (i := 7) (do_lst da_nil) sc__law_machine.nd rfl (by first | exact Or.inl rfl | exact Or.inr rfl))
    (dss_cons (ds_for (passes_of rfl) rfl (di_r1 (by rfl) T.n_range (de_op op_addS os_add (de_b (de_ix (de_o (pv 3)) (de_o (pv 6)))) (de_b de_int))) (dg_n (pg_name (i := 8) sc__law_machine.nd rfl (by first | exact Or.inl rfl | exact Or.inr rfl))) (dss_cons (ds_set (i := 9) (de_op op_addS os_add (de_b (de_ix (de_o (pv 3)) (de_o (pv 6)))) (de_b (de_callT call_int1 cs_int (by rfl) T.n_int (by decide +kernel) (db_cons (de_b (de_cmp (op_eqD (hu64 hr)) os_eq (de_o (pv 8)) (de_b (de_ix (de_o (pv 3)) (de_o (pv 6)))))) db_nil)))) sc__law_machine.nd rfl (by first | exact Or.inl rfl | exact Or.inr rfl))
    (dss_cons (ds_setLc (i := 10) (own := [("_law_goal", 11)]) rfl sc__law_machine.nd rfl rfl (sw_true rfl rfl rfl (by decide +kernel)) (di_r1 (by rfl) T.n_range (de_callB cl_len cs_len (by rfl) T.n_len (by decide +kernel) (db_cons (de_o (pv 3)) db_nil))) (blkOk_by (by kernel_rfl)) (fun _ _ _ _ _ => (dg_n (pg_name (i := 11) sc__law_machine.nd rfl (by first | exact Or.inl rfl | exact Or.inr rfl)))) (fun _ _ _ _ _ => (dt_if (dt_cmp op_le os_cmp (de_b (de_ix (de_o (pv 3)) (de_o (pv 11)))) (de_o (pv 9))))) (fun _ _ _ _ _ => (de_v (pv 11))))
    (dss_cons (ds_set (i := 11) (de_ix (de_o (pv 10)) (de_b (de_op op_mod os_mod (de_b (de_fn (ok__law_mix T) (hr.mono (by decide)) (by rfl) T.g__law_mix T.f__law_mix.kp T.b__law_mix (takes_of rfl rfl rfl rfl) (da_cons (de_v (pv 0)) (da_cons (de_op op_addS os_add (de_b (de_op op_addS os_add (de_b (de_op op_addS os_add (de_o (pv 1)) (de_b de_int))) (de_b (de_op op_mul os_mulI (de_b de_int) (de_o (pv 6)))))) (de_o (pv 8))) da_nil)))) (de_b (de_callB cl_len cs_len (by rfl) T.n_len (by decide +kernel) (db_cons (de_o (pv 10)) db_nil)))))) sc__law_machine.nd rfl (by first | exact Or.inl rfl | exact Or.inr rfl))
    (dss_one (ds_app (pv 7) (de_tup (da_cons (de_v (pv 11)) (da_cons (de_fn (ok__law_sources T) (hr.mono (by decide)) (by rfl) T.g__law_sources T.f__law_sources.kp T.b__law_sources (takes_of rfl rfl rfl rfl) (da_cons (de_v (pv 0)) (da_cons (de_op op_addS os_add (de_b (de_op op_addS os_add (de_b (de_op op_addS os_add (de_o (pv 1)) (de_b de_int))) (de_b (de_op op_mul os_mulI (de_b de_int) (de_o (pv 6)))))) (de_b (de_op op_mul os_mulI (de_b de_int) (de_o (pv 8))))) (da_cons (de_ix (de_o (pv 3)) (de_o (pv 11))) (da_cons (de_v (pv 9)) da_nil))))) da_nil)))))))))
    (dss_one (ds_frz (i := 7) (ds_app (pv 5) (de_tup (da_cons (de_cmp (op_eqD (hu64 hr)) os_eq (de_b (de_op op_mod os_mod (de_b (de_op op_fdiv os_div (de_b (de_fn (ok__law_mix T) (hr.mono (by decide)) (by rfl) T.g__law_mix T.f__law_mix.kp T.b__law_mix (takes_of rfl rfl rfl rfl) (da_cons (de_v (pv 0)) (da_cons (de_op op_addS os_add (de_b (de_op op_addS os_add (de_o (pv 1)) (de_b de_int))) (de_o (pv 6))) da_nil)))) (de_b de_int))) (de_b de_int))) (de_b de_int)) (da_cons (de_ix (de_o (pv 3)) (de_o (pv 6))) (da_cons (de_v (pv 7)) da_nil))))))))))
    (dss_one (ds_frz (i := 5) (ds_ret (de_v (pv 5)))))))))
abbrev st__law_word : Stmt := topS 21
theorem sc__law_word : FnScope ["_law_script", "_law_k", "_law_most", "_law_found", "_law_j", "_law_number", "_law_near"] ["_law_script", "_law_k", "_law_most"] (defScope st__law_word) := ⟨rfl, rfl, rfl, by decide +kernel, rfl, by decide +kernel, by decide +kernel⟩
theorem ok__law_word (T : Txt K mg F fd ax) : FnOk P w K mg base (L2.CX P w) 3 (F 9) (fd 9) ["_law_script", "_law_k", "_law_most"] (spD K ax m__law_word) :=
  okD T.f__law_word sc__law_word fun cdv A outer s H F0 E hr =>
    (dss_cons (ds_setO (i := 3) (do_lst da_nil) sc__law_word.nd rfl (by first | exact Or.inl rfl | exact Or.inr rfl))
    (dss_cons (ds_for (passes_of rfl) rfl (di_r1 (by rfl) T.n_range (de_op op_mod os_mod (de_b (de_fn (ok__law_mix T) (hr.mono (by decide)) (by rfl) T.g__law_mix T.f__law_mix.kp T.b__law_mix (takes_of rfl rfl rfl rfl) (da_cons (de_v (pv 0)) (da_cons (de_v (pv 1)) da_nil)))) (de_b (de_op op_addS os_add (de_o (pv 2)) (de_b de_int))))) (dg_n (pg_name (i := 4) sc__law_word.nd rfl (by first | exact Or.inl rfl | exact Or.inr rfl))) (dss_cons (ds_set (i := 5) (de_fn (ok__law_mix T) (hr.mono (by decide)) (by rfl) T.g__law_mix T.f__law_mix.kp T.b__law_mix (takes_of rfl rfl rfl rfl) (da_cons (de_v (pv 0)) (da_cons (de_op op_addS os_add (de_b (de_op op_addS os_add (de_o (pv 1)) (de_b de_int))) (de_o (pv 4))) da_nil))) sc__law_word.nd rfl (by first | exact Or.inl rfl | exact Or.inr rfl))
    (dss_cons (ds_set (i := 6) (de_if (dt_val (de_o (pv 3))) (de_ix (de_o (pv 3)) (de_b (de_op op_sub os_sub (de_b (de_neg (de_b de_int))) (de_b (de_op op_mod os_mod (de_b (de_op op_fdiv os_div (de_o (pv 5)) (de_b de_int))) (de_b (de_callB cl_len cs_len (by rfl) T.n_len (by decide +kernel) (db_cons (de_o (pv 3)) db_nil)))))))) de_int) sc__law_word.nd rfl (by first | exact Or.inl rfl | exact Or.inr rfl))
    (dss_one (ds_app (pv 3) (de_ix (de_b (de_lst (da_cons (de_v (pv 6)) (da_cons (de_v (pv 6)) (da_cons (de_op op_mod os_mod (de_b (de_op op_fdiv os_div (de_o (pv 5)) (de_b de_int))) (de_b de_int)) (da_cons (de_op op_mod os_mod (de_b (de_op op_fdiv os_div (de_o (pv 5)) (de_b de_int))) (de_b de_int)) (da_cons (de_op op_addS os_add (de_o (pv 6)) (de_b de_int)) (da_cons (de_op op_mod os_mod (de_b (de_op op_fdiv os_div (de_b (de_neg (de_o (pv 5)))) (de_b de_int))) (de_b de_int)) da_nil)))))))) (de_b (de_op op_mod os_mod (de_o (pv 5)) (de_b de_int)))))))))
    (dss_one (ds_frz (i := 3) (ds_ret (de_v (pv 3)))))))
abbrev st__law_come : Stmt := topS 22
theorem sc__law_come : FnScope ["_law_machine_here", "_law_state", "_law_held", "_law_letter", "_law_good", "_law_boxes", "_law_moves", "_law_goal", "_law_sources_here", "_law_box", "_law_source"] ["_law_machine_here", "_law_state", "_law_held", "_law_letter"] (defScope st__law_come) := ⟨rfl, rfl, rfl, by decide +kernel, rfl, by decide +kernel, by decide +kernel⟩
theorem ok__law_come (T : Txt K mg F fd ax) : FnOk P w K mg base (L2.CX P w) 1 (F 10) (fd 10) ["_law_machine_here", "_law_state", "_law_held", "_law_letter"] (spD K ax m__law_come) :=
  okD T.f__law_come sc__law_come fun cdv A outer s H F0 E hr =>
    (dss_cons (ds_asg (de_ix (de_o (pv 0)) (de_o (pv 1))) (dg_tup rfl (dgs_cons (dg_n (pg_name (i := 4) sc__law_come.nd rfl (by first | exact Or.inl rfl | exact Or.inr rfl))) (dgs_cons (dg_n (pg_name (i := 5) sc__law_come.nd rfl (by first | exact Or.inl rfl | exact Or.inr rfl))) (dgs_cons (dg_n (pg_name (i := 6) sc__law_come.nd rfl (by first | exact Or.inl rfl | exact Or.inr rfl))) dgs_nil)))))
    (dss_cons (ds_asg (de_ix (de_o (pv 6)) (de_o (pv 5))) (dg_tup rfl (dgs_cons (dg_n (pg_name (i := 7) sc__law_come.nd rfl (by first | exact Or.inl rfl | exact Or.inr rfl))) (dgs_cons (dg_n (pg_name (i := 8) sc__law_come.nd rfl (by first | exact Or.inl rfl | exact Or.inr rfl))) dgs_nil))))
    (dss_cons (ds_for (passes_of rfl) rfl (di_r1 (by rfl) T.n_range (de_v (pv 5))) (dg_n (pg_name (i := 9) sc__law_come.nd rfl (by first | exact Or.inl rfl | exact Or.inr rfl))) (dss_one (ds_if (dt_cmp (op_eqD (hu64 hr)) os_eq (de_b (de_ix (de_o (pv 2)) (de_o (pv 9)))) (de_o (pv 3))) (dss_one (ds_asg (de_ix (de_o (pv 6)) (de_o (pv 9))) (dg_tup rfl (dgs_cons (dg_n (pg_name (i := 7) sc__law_come.nd rfl (by first | exact Or.inl rfl | exact Or.inr rfl))) (dgs_cons (dg_n (pg_name (i := 8) sc__law_come.nd rfl (by first | exact Or.inl rfl | exact Or.inr rfl))) dgs_nil))))) dss_nil)))
    (dss_one (ds_ret (de_tup (da_cons (de_v (pv 7)) (da_cons (de_new (do_lc (own := [("_law_source", 10)]) rfl sc__law_come.nd (di_seq (de_v (pv 8))) (blkOk_by (by kernel_rfl)) (fun _ _ _ _ _ => (dg_n (pg_name (i := 10) sc__law_come.nd rfl (by first | exact Or.inl rfl | exact Or.inr rfl)))) (fun _ _ _ _ _ => dt_yes) (fun _ _ _ _ _ => (de_if (dt_cmp (op_eqD (hu64 hr)) os_eq (de_o (pv 10)) (de_o (pv 5))) (de_v (pv 3)) (de_ix (de_o (pv 2)) (de_o (pv 10))))))) da_nil))))))))
abbrev st__law_refusal : Stmt := topS 23
theorem sc__law_refusal : FnScope ["_law_kept", "_law_kinds"] ["_law_kept"] (defScope st__law_refusal) := ⟨rfl, rfl, rfl, by decide +kernel, rfl, by decide +kernel, by decide +kernel⟩
theorem ok__law_refusal (T : Txt K mg F fd ax) : FnOk P w K mg base (L2.CX P w) 1 (F 11) (fd 11) ["_law_kept"] (spD K ax m__law_refusal) :=
  okD T.f__law_refusal sc__law_refusal fun cdv A outer s H F0 E hr =>
    (dss_cons (ds_if (dt_cmp op_isN os_isN (de_o (pv 0)) (de_b de_non)) (dss_one (ds_ret de_str)) dss_nil)
    (dss_cons (ds_setO (i := 1) (do_lst (da_cons (de_isx (p := fun xn => decide (xn = .mach)) (by rfl) T.n_isinstance (pe_glob (v := .ref (ax .mach)) (by rfl) T.g_BadMachine rfl) (de_o (pv 0)) (fun _ h => h) T.ec T.is_BadMachine) (da_cons (de_isx (p := fun xn => decide (xn = .txt)) (by rfl) T.n_isinstance (pe_glob (v := .ref (ax .txt)) (by rfl) T.g_BadText rfl) (de_o (pv 0)) (fun _ h => h) T.ec T.is_BadText) (da_cons (de_isx (p := fun xn => decide (xn = .wrd)) (by rfl) T.n_isinstance (pe_glob (v := .ref (ax .wrd)) (by rfl) T.g_BadWord rfl) (de_o (pv 0)) (fun _ h => h) T.ec T.is_BadWord) da_nil)))) sc__law_refusal.nd rfl (by first | exact Or.inl rfl | exact Or.inr rfl))
    (dss_cons (ds_app (pv 1) (de_isx (p := fun xn => decide (xn = .many)) (by rfl) T.n_isinstance (pe_glob (v := .ref (ax .many)) (by rfl) T.g_TooMany rfl) (de_o (pv 0)) (fun _ h => h) T.ec T.is_TooMany))
    (dss_cons (ds_if (PW.pt (dw_or (dt_cmp (op_neD (hu64 hr)) os_ne (de_b (de_lcount (hu65 hr) (de_o (pv 1)) (de_b de_bl))) (de_b de_int)) (dw_or1 (dt_not (dt_val (de_b (de_isx (p := fun _ => true) (by rfl) T.n_isinstance (pe_bltn (v := .ty "ValueError") (by rfl) T.n_ValueError (by decide +kernel) rfl) (de_o (pv 0)) (fun _ h => h) T.ec T.is_ValueError))))))) (dss_one (ds_ret de_str)) dss_nil)
    (dss_one (ds_ret (de_ix (de_b (de_lst (da_cons de_str (da_cons de_str (da_cons de_str (da_cons de_str da_nil)))))) (de_b (de_lindex (hu65 hr) (de_o (pv 1)) (de_b de_bl))))))))))
abbrev st__law_later : Stmt := topS 24
theorem sc__law_later : FnScope ["_law_machine_here", "_law_state", "_law_some", "_law_turn", "_law_at", "_law_move", "_law_goods"] ["_law_machine_here", "_law_state"] (defScope st__law_later) := ⟨rfl, rfl, rfl, by decide +kernel, rfl, by decide +kernel, by decide +kernel⟩
theorem ok__law_later (T : Txt K mg F fd ax) : FnOk P w K mg base (L2.CX P w) 1 (F 12) (fd 12) ["_law_machine_here", "_law_state"] (spD K ax m__law_later) :=
  okD T.f__law_later sc__law_later fun cdv A outer s H F0 E hr =>
    (dss_cons (ds_set (i := 2) (de_lst (da_cons (de_v (pv 1)) da_nil)) sc__law_later.nd rfl (by first | exact Or.inl rfl | exact Or.inr rfl))
    (dss_cons (ds_for (passes_of rfl) rfl (di_r1 (by rfl) T.n_range (de_callB cl_len cs_len (by rfl) T.n_len (by decide +kernel) (db_cons (de_o (pv 0)) db_nil))) (dg_n (pg_name (i := 3) sc__law_later.nd rfl (by first | exact Or.inl rfl | exact Or.inr rfl))) (dss_one (ds_for (passes_of rfl) rfl (di_r1 (by rfl) T.n_range (de_callB cl_len cs_len (by rfl) T.n_len (by decide +kernel) (db_cons (de_o (pv 0)) db_nil))) (dg_n (pg_name (i := 4) sc__law_later.nd rfl (by first | exact Or.inl rfl | exact Or.inr rfl))) (dss_one (ds_if (dt_cmp (op_inS (hu65 hr)) os_in (de_o (pv 4)) (de_o (pv 2))) (dss_one (ds_set (i := 2) (de_sortedSet rfl (by rfl) T.n_sorted (by rfl) T.n_set (de_b (de_op op_addS os_add (de_o (pv 2)) (de_b (de_new (do_lc (own := [("_law_move", 5)]) rfl sc__law_later.nd (di_seq (de_ix (de_b (de_ix (de_o (pv 0)) (de_o (pv 4)))) (de_b de_int))) (blkOk_by (by kernel_rfl)) (fun _ _ _ _ _ => (dg_n (pg_name (i := 5) sc__law_later.nd rfl (by first | exact Or.inl rfl | exact Or.inr rfl)))) (fun _ _ _ _ _ => dt_yes) (fun _ _ _ _ _ => (de_ix (de_o (pv 5)) (de_b de_int))))))))) sc__law_later.nd rfl (by first | exact Or.inl rfl | exact Or.inr rfl))) dss_nil)))))
    (dss_cons (ds_setLc (i := 6) (own := [("_law_at", 4)]) rfl sc__law_later.nd rfl rfl (sw_true rfl rfl rfl (by decide +kernel)) (di_seq (de_v (pv 2))) (blkOk_by (by kernel_rfl)) (fun _ _ _ _ _ => (dg_n (pg_name (i := 4) sc__law_later.nd rfl (by first | exact Or.inl rfl | exact Or.inr rfl)))) (fun _ _ _ _ _ => dt_yes) (fun _ _ _ _ _ => (de_ix (de_b (de_ix (de_o (pv 0)) (de_o (pv 4)))) (de_b de_int))))
    (dss_one (ds_ret (de_if (dt_val (de_b (de_callB (cr_all rfl) cs_all (by rfl) T.n_all (by decide +kernel) (db_cons (de_o (pv 6)) db_nil)))) de_str (de_if (dt_val (de_b (de_callB (cr_any rfl) cs_any (by rfl) T.n_any (by decide +kernel) (db_cons (de_o (pv 6)) db_nil)))) de_str de_str)))))))
abbrev st_W_told : Stmt := inClass (topS 15) 1
theorem sc_W_told : FnScope ["self", "state", "later"] ["self"] (defScope st_W_told) := ⟨rfl, rfl, rfl, by decide +kernel, rfl, by decide +kernel, by decide +kernel⟩
theorem ok_W_told (T : Txt K mg F fd ax) : FnOk P w K mg base (L2.CX P w) 1 (F 15) (fd 15) ["self"] (spI K ax m_W_told) :=
  okI T.wf_told sc_W_told (by decide) fun cdv A outer s H F0 E hr =>
    (dss_cons (ds_set (i := 1) (de_ix (de_b (de_attr (pv 0) T.wc T.wcl T.wn_here)) (de_b de_int)) sc_W_told.nd rfl (by first | exact Or.inl rfl | exact Or.inr rfl))
    (dss_cons (ds_set (i := 2) de_str sc_W_told.nd rfl (by first | exact Or.inl rfl | exact Or.inr rfl))
    (dss_cons (ds_if (dt_not (dt_val (de_b (de_ix (de_b (de_attr (pv 0) T.wc T.wcl T.wn_can_fail)) (de_o (pv 1)))))) (dss_one (ds_set (i := 2) de_str sc_W_told.nd rfl (by first | exact Or.inl rfl | exact Or.inr rfl))) (dss_one (ds_if (dt_not (dt_val (de_b (de_ix (de_b (de_attr (pv 0) T.wc T.wcl T.wn_can_be)) (de_o (pv 1)))))) (dss_one (ds_set (i := 2) de_str sc_W_told.nd rfl (by first | exact Or.inl rfl | exact Or.inr rfl))) dss_nil)))
    (dss_one (ds_ret (de_tup (da_cons (de_ix (de_b (de_ix (de_b (de_attr (pv 0) T.wc T.wcl T.wn_machine)) (de_o (pv 1)))) (de_b de_int)) (da_cons (de_v (pv 2)) da_nil))))))))
abbrev st_W_kept : Stmt := inClass (topS 15) 3
theorem sc_W_kept : FnScope ["self"] ["self"] (defScope st_W_kept) := ⟨rfl, rfl, rfl, by decide +kernel, rfl, by decide +kernel, by decide +kernel⟩
theorem ok_W_kept (T : Txt K mg F fd ax) : FnOk P w K mg base (L2.CX P w) 1 (F 17) (fd 17) ["self"] (spK K) :=
  okK T.wf_kept sc_W_kept T.wc T.wcl T.wn_here fun cdv A outer s H E hr =>
    pss_one (ps_ret (pe_callB cl_sortedT (by rfl) T.n_sorted (by decide +kernel) (pa_cons (pe_ix ix_seq (pe_fld (pv 0) rfl) pe_int (fun _ _ => rfl)) pa_nil)))
abbrev st_W_come : Stmt := inClass (topS 15) 2
theorem sc_W_come : FnScope ["self", "letter"] ["self", "letter"] (defScope st_W_come) := ⟨rfl, rfl, rfl, by decide +kernel, rfl, by decide +kernel, by decide +kernel⟩
theorem ok_W_come (T : Txt K mg F fd ax) : FnOk P w K mg base (L2.CX P w) 2 (F 16) (fd 16) ["self", "letter"] (spC K ax m_W_come) :=
  okC T.wf_come sc_W_come (by decide) fun cdv A outer s H H0 F0 E hr =>
    dsR (pv 0) (de_fn (ok_stepped T) (hr.mono (by decide)) (by rfl) T.g_stepped T.f_stepped.kp T.b_stepped (takes_of rfl rfl rfl rfl) (da_cons (de_attr (pv 0) T.wc T.wcl T.wn_machine) (da_cons (de_attr (pv 0) T.wc T.wcl T.wn_here) (da_cons (de_v (pv 1)) da_nil)))) (de_meth (pv 0) T.wc T.wcl T.wm_told (ok_W_told T) (hr.mono (by decide)) T.wb_told) T.wc T.wcl T.wn_here
abbrev st_W___init__ : Stmt := inClass (topS 15) 0
theorem sc_W___init__ : FnScope ["self", "machine", "good", "boxes", "moves"] ["self", "machine"] (defScope st_W___init__) := ⟨rfl, rfl, rfl, by decide +kernel, rfl, by decide +kernel, by decide +kernel⟩
theorem ok_W___init__ (T : Txt K mg F fd ax) : FnOk P w K mg base (L2.CX P w) 3 (F 14) (fd 14) ["self", "machine"] (spInit K ax m_W___init__) :=
  okInit (i := 2) (j := 3) (l := 4) T.wf___init__ sc_W___init__ T.wc T.wcl T.wn_machine (by decide) (by decide) (by decide) (by decide) (by decide) (by decide) (by decide) rfl
    (fun cdv A outer s H E hr => ps_expr (pe_callS (ok_look_machine T) (hr.mono (by decide)) (by rfl) T.g_look_machine T.f_look_machine.kp T.b_look_machine (fun _ => passAt (takes_of rfl rfl rfl rfl) _) (pa_cons (pv 1) pa_nil)))
    (fun cdv A outer s H E hr => ps_fld (pv 0) (pe_lc (own := [("good", 2), ("boxes", 3), ("moves", 4)]) rfl sc_W___init__.nd (pi_list (pv 1)) (blkOk_by (by kernel_rfl)) (fun _ _ _ _ _ => (pg_tup rfl (pgs_cons (pg_name (i := 2) sc_W___init__.nd rfl (by first | exact Or.inl rfl | exact Or.inr rfl)) (pgs_cons (pg_name (i := 3) sc_W___init__.nd rfl (by first | exact Or.inl rfl | exact Or.inr rfl)) (pgs_cons (pg_name (i := 4) sc_W___init__.nd rfl (by first | exact Or.inl rfl | exact Or.inr rfl)) pgs_nil))))) (fun _ _ _ _ _ => pts_nil) (fun _ _ _ _ _ => (pe_tupZ (pa_cons (pv 2) (pa_cons (pv 3) (pa_cons (pe_callTy call_list_of (by rfl) T.n_list (by decide +kernel) (pa_cons (pv 4) pa_nil)) pa_nil)))))) rfl)
    (fun cdv A outer s H H0 F0 E hr => (dsA_cons (ds_attrA (pv 0) (de_fn (ok_can_come T) (hr.mono (by decide)) (by rfl) T.g_can_come T.f_can_come.kp T.b_can_come (takes_of rfl rfl rfl rfl) (da_cons (de_attr (pv 0) T.wc T.wcl T.wn_machine) (da_cons de_bl da_nil))) T.wc T.wcl T.wn_can_be)
    (dsA_cons (ds_attrA (pv 0) (de_fn (ok_can_come T) (hr.mono (by decide)) (by rfl) T.g_can_come T.f_can_come.kp T.b_can_come (takes_of rfl rfl rfl rfl) (da_cons (de_attr (pv 0) T.wc T.wcl T.wn_machine) (da_cons de_bl da_nil))) T.wc T.wcl T.wn_can_fail)
    (dsA_one (ds_attrA (pv 0) (de_tup (da_cons de_int (da_cons (de_tup da_nil) da_nil))) T.wc T.wcl T.wn_here)))))
abbrev st_law : Stmt := topS 25
theorem sc_law : FnScope ["_law_script", "_law_machine_here", "_law_way", "_law_first", "_law_some", "_law_k", "_law_handed", "_law_good", "_law_boxes", "_law_moves", "_law_watcher", "_law_beside", "_law_state", "_law_held", "_law_letter", "_law_found", "_law_kept", "e"] ["_law_script"] (defScope st_law) := ⟨rfl, rfl, rfl, by decide +kernel, rfl, by decide +kernel, by decide +kernel⟩
theorem ok_law (T : Txt K mg F fd ax) : FnOk P w K mg base (L2.CX P w) 5 (F 13) (fd 13) ["_law_script"] (spD K ax m_law_v7) :=
  okD T.f_law sc_law fun cdv A outer s H F0 E hr =>
    (dss_cons (ds_set (i := 1) (de_fn (ok__law_machine T) (hr.mono (by decide)) (by rfl) T.g__law_machine T.f__law_machine.kp T.b__law_machine (takes_of rfl rfl rfl rfl) (da_cons (de_v (pv 0)) (da_cons de_int (da_cons de_int da_nil)))) sc_law.nd rfl (by first | exact Or.inl rfl | exact Or.inr rfl))
    (dss_cons (ds_set (i := 2) (de_op op_mod os_mod (de_b (de_fn (ok__law_mix T) (hr.mono (by decide)) (by rfl) T.g__law_mix T.f__law_mix.kp T.b__law_mix (takes_of rfl rfl rfl rfl) (da_cons (de_v (pv 0)) (da_cons de_int da_nil)))) (de_b de_int)) sc_law.nd rfl (by first | exact Or.inl rfl | exact Or.inr rfl))
    (dss_cons (ds_if (dt_cmp op_gt os_cmp (de_o (pv 2)) (de_b de_int)) (dss_cons (ds_set (i := 3) (de_op op_mod os_mod (de_b (de_fn (ok__law_mix T) (hr.mono (by decide)) (by rfl) T.g__law_mix T.f__law_mix.kp T.b__law_mix (takes_of rfl rfl rfl rfl) (da_cons (de_v (pv 0)) (da_cons de_int da_nil)))) (de_b (de_callB cl_len cs_len (by rfl) T.n_len (by decide +kernel) (db_cons (de_o (pv 1)) db_nil)))) sc_law.nd rfl (by first | exact Or.inl rfl | exact Or.inr rfl))
    (dss_cons (ds_setO (i := 4) (do_lst da_nil) sc_law.nd rfl (by first | exact Or.inl rfl | exact Or.inr rfl))
    (dss_cons (ds_for (passes_of rfl) rfl (di_r1 (by rfl) T.n_range (de_callB cl_len cs_len (by rfl) T.n_len (by decide +kernel) (db_cons (de_o (pv 1)) db_nil))) (dg_n (pg_name (i := 5) sc_law.nd rfl (by first | exact Or.inl rfl | exact Or.inr rfl))) (dss_one (ds_app (pv 4) (de_tup (da_cons (de_if (dt_cmp op_ge os_cmp (de_o (pv 5)) (de_o (pv 3))) (de_cmp (op_eqD (hu64 hr)) os_eq (de_o (pv 2)) (de_b de_int)) (de_ix (de_b (de_ix (de_o (pv 1)) (de_o (pv 5)))) (de_b de_int))) (da_cons (de_ix (de_b (de_ix (de_o (pv 1)) (de_o (pv 5)))) (de_b de_int)) (da_cons (de_ix (de_b (de_ix (de_o (pv 1)) (de_o (pv 5)))) (de_b de_int)) da_nil)))))))
    (dss_one (ds_frz (i := 4) (ds_set (i := 1) (de_v (pv 4)) sc_law.nd rfl (by first | exact Or.inl rfl | exact Or.inr rfl))))))) dss_nil)
    (ds_handed (im := 1) (ig := 7) (ib := 8) (iv := 9) (ih := 6) (iw := 10) (iz := 11) T.wc (by decide) (by decide) (by decide) (by decide) (by decide) (by decide) (by decide) (by decide) (by decide) (by decide) (by decide) (by decide) (by decide) (by decide) (by decide)
    (ps_setLc (i := 6) (own := [("_law_good", 7), ("_law_boxes", 8), ("_law_moves", 9)]) rfl sc_law.nd rfl rfl (sw_true rfl rfl rfl (by decide +kernel)) (pi_list (pv 1)) (blkOk_by (by kernel_rfl)) (fun _ _ _ _ _ => (pg_tup rfl (pgs_cons (pg_name (i := 7) sc_law.nd rfl (by first | exact Or.inl rfl | exact Or.inr rfl)) (pgs_cons (pg_name (i := 8) sc_law.nd rfl (by first | exact Or.inl rfl | exact Or.inr rfl)) (pgs_cons (pg_name (i := 9) sc_law.nd rfl (by first | exact Or.inl rfl | exact Or.inr rfl)) pgs_nil))))) (fun _ _ _ _ _ => pts_nil) (fun _ _ _ _ _ => (pe_tupZ (pa_cons (pv 7) (pa_cons (pv 8) (pa_cons (pe_callTy call_list_of (by rfl) T.n_list (by decide +kernel) (pa_cons (pv 9) pa_nil)) pa_nil))))))
    (ps_set (i := 10) sc_law.nd rfl (by first | exact Or.inl rfl | exact Or.inr rfl) (pe_makeS T.wmk (ok_W___init__ T) (hr.mono (by decide)) (by rfl) T.wg T.wb___init__ (fun _ => passAt (takes_of rfl rfl rfl rfl) _) (pa_cons (pv 6) pa_nil)))
    (ps_set (i := 11) sc_law.nd rfl (by first | exact Or.inl rfl | exact Or.inr rfl) (pe_makeS T.wmk (ok_W___init__ T) (hr.mono (by decide)) (by rfl) T.wg T.wb___init__ (fun _ => passAt (takes_of rfl rfl rfl rfl) _) (pa_cons (pv 6) pa_nil)))
    (ps_for (passes_of rfl) rfl (pi_list (pv 6)) (pg_tup rfl (pgs_cons (pg_name (i := 7) sc_law.nd rfl (by first | exact Or.inl rfl | exact Or.inr rfl)) (pgs_cons (pg_name (i := 8) sc_law.nd rfl (by first | exact Or.inl rfl | exact Or.inr rfl)) (pgs_cons (pg_name (i := 9) sc_law.nd rfl (by first | exact Or.inl rfl | exact Or.inr rfl)) pgs_nil)))) (pss_one (ps_asg (de_tup (da_cons de_int (da_cons (de_tup da_nil) da_nil))) (pg_sub (pv 9) (de_b (de_neg (de_b de_int))) set_list))))
    (ps_expr (pe_bm PySem.F.plainAttrs_list PySem.F.slot_list_append PySem.F.type_list_append mt_append (pv 6) (pa_cons (de_tup (da_cons de_bl (da_cons de_int (da_cons (de_lst da_nil) da_nil)))) pa_nil)))
    (dss_cons (ds_set (i := 12) de_int sc_law.nd rfl (by first | exact Or.inl rfl | exact Or.inr rfl))
    (dss_cons (ds_set (i := 13) (de_lst da_nil) sc_law.nd rfl (by first | exact Or.inl rfl | exact Or.inr rfl))
    (dss_cons (ds_if (dt_cmp (op_neD (hu64 hr)) os_ne (de_b (de_meth (pv 10) T.wc T.wcl T.wm_told (ok_W_told T) (hr.mono (by decide)) T.wb_told)) (de_b (de_tup (da_cons (de_ix (de_b (de_ix (de_o (pv 1)) (de_b de_int))) (de_b de_int)) (da_cons (de_fn (ok__law_later T) (hr.mono (by decide)) (by rfl) T.g__law_later T.f__law_later.kp T.b__law_later (takes_of rfl rfl rfl rfl) (da_cons (de_v (pv 1)) (da_cons de_int da_nil))) da_nil))))) (dss_one (ds_ret de_bl)) dss_nil)
    (dss_cons (ds_for (passes_of rfl) rfl (di_seq (de_fn (ok__law_word T) (hr.mono (by decide)) (by rfl) T.g__law_word T.f__law_word.kp T.b__law_word (takes_of rfl rfl rfl rfl) (da_cons (de_v (pv 0)) (da_cons de_int (da_cons de_int da_nil))))) (dg_n (pg_name (i := 14) sc_law.nd rfl (by first | exact Or.inl rfl | exact Or.inr rfl))) (dss_cons (ds_asg (de_fn (ok__law_come T) (hr.mono (by decide)) (by rfl) T.g__law_come T.f__law_come.kp T.b__law_come (takes_of rfl rfl rfl rfl) (da_cons (de_v (pv 1)) (da_cons (de_v (pv 12)) (da_cons (de_v (pv 13)) (da_cons (de_v (pv 14)) da_nil))))) (dg_tup rfl (dgs_cons (dg_n (pg_name (i := 12) sc_law.nd rfl (by first | exact Or.inl rfl | exact Or.inr rfl))) (dgs_cons (dg_n (pg_name (i := 13) sc_law.nd rfl (by first | exact Or.inl rfl | exact Or.inr rfl))) dgs_nil))))
    (dss_cons (ds_come (j := 15) (pv 10) (de_v (pv 14)) T.wc T.wcl T.wm_come (ok_W_come T) (hr.mono (by decide)) T.wb_come sc_law.nd rfl (by first | exact Or.inl rfl | exact Or.inr rfl))
    (dss_cons (ds_if (PW.pt (dw_or (dt_not (dt_val (de_b (de_isi (by rfl) T.n_isinstance (by rfl) T.n_bool (by decide +kernel) (de_b (de_ix (de_o (pv 15)) (de_b de_int))))))) (dw_or1 (dt_cmp (op_neD (hu64 hr)) os_ne (de_o (pv 15)) (de_b (de_tup (da_cons (de_ix (de_b (de_ix (de_o (pv 1)) (de_o (pv 12)))) (de_b de_int)) (da_cons (de_fn (ok__law_later T) (hr.mono (by decide)) (by rfl) T.g__law_later T.f__law_later.kp T.b__law_later (takes_of rfl rfl rfl rfl) (da_cons (de_v (pv 1)) (da_cons (de_v (pv 12)) da_nil))) da_nil)))))))) (dss_one (ds_ret de_bl)) dss_nil)
    (dss_cons (ds_if (PW.pt (dw_or (dt_cmp (op_neD (hu64 hr)) os_ne (de_b (de_meth (pv 10) T.wc T.wcl T.wm_told (ok_W_told T) (hr.mono (by decide)) T.wb_told)) (de_o (pv 15))) (dw_or1 (dt_cmp (op_neD (hu64 hr)) os_ne (de_b (de_kept (pv 10) T.wc T.wcl T.wm_kept (ok_W_kept T) (hr.mono (by decide)) T.wb_kept)) (de_b (de_callB cl_sortedA cs_sortedA (by rfl) T.n_sorted (by decide +kernel) (db_cons (de_o (pv 13)) db_nil))))))) (dss_one (ds_ret de_bl)) dss_nil)
    (dss_one (ds_keptApp (pv 10) (de_v (pv 14)) T.wc T.wcl T.wm_kept (ok_W_kept T) (hr.mono (by decide)) T.wb_kept)))))))
    (dss_cons (ds_if (PW.pt (dw_or (dt_cmp (op_neD (hu64 hr)) os_ne (de_b (de_meth (pv 11) T.wc T.wcl T.wm_told (ok_W_told T) (hr.mono (by decide)) T.wb_told)) (de_b (de_tup (da_cons (de_ix (de_b (de_ix (de_o (pv 1)) (de_b de_int))) (de_b de_int)) (da_cons (de_fn (ok__law_later T) (hr.mono (by decide)) (by rfl) T.g__law_later T.f__law_later.kp T.b__law_later (takes_of rfl rfl rfl rfl) (da_cons (de_v (pv 1)) (da_cons de_int da_nil))) da_nil))))) (dw_or1 (dt_cmp (op_neD (hu64 hr)) os_ne (de_b (de_kept (pv 11) T.wc T.wcl T.wm_kept (ok_W_kept T) (hr.mono (by decide)) T.wb_kept)) (de_b (de_lst da_nil)))))) (dss_one (ds_ret de_bl)) dss_nil)
    (dss_cons (ds_set (i := 16) de_non sc_law.nd rfl (by first | exact Or.inl rfl | exact Or.inr rfl))
    (dss_cons (ds_tryK (i := 17) (j := 16) rfl rfl rfl sc_law.nd rfl rfl rfl (Or.inl rfl) (by first | exact Or.inl rfl | exact Or.inr rfl) ⟨by rfl, by decide, Or.inl T.c_BoxError.choose_spec.1⟩ (takes_of rfl rfl rfl rfl) rfl T.c_BoxError.choose_spec.2 (fun W pn xe tk1 => (dss_one (ds_expr (de_mkErr T.wmk (ok_W___init__ T) (hr.mono (by decide)) (by rfl) T.wg T.wb___init__ tk1 T.wc (de_lst da_nil))))))
    (dss_one (ds_ret (de_cmp (op_eqD (hu64 hr)) os_eq (de_b (de_fn (ok__law_refusal T) (hr.mono (by decide)) (by rfl) T.g__law_refusal T.f__law_refusal.kp T.b__law_refusal (takes_of rfl rfl rfl rfl) (da_cons (de_v (pv 16)) da_nil))) (de_b de_str)))))))))))))))
end
end WK

set_option Elab.async false
set_option linter.all false
/-! Evaluating the pure functions: encodings of data, equality, loops. -/
noncomputable section
namespace WK
open PySem DL L2

/-! ### encodings -/
abbrev cI (i : Int) : PyData := .int i
abbrev cN (n : Nat) : PyData := .int (n : Int)
structure EncOk {a : Type} [DecidableEq a] (f : a → PyData) (k : Nat) : Prop where
  eq : ∀ x y, PyData.eqv (f x) (f y) = decide (x = y)
  lay : ∀ x, (f x).canLay0 = true
  dep : ∀ x, (f x).depth ≤ k
section
variable {a b : Type} [DecidableEq a] [DecidableEq b] {f : a → PyData} {g : b → PyData} {k l : Nat}
theorem EncOk.shaped (h : EncOk f k) (hk : k ≤ 64) (x : a) : SeqAt.shaped (f x) = true := by
  unfold SeqAt.shaped
  rw [h.lay x, Bool.true_and]
  exact decide_eq_true (Nat.le_trans (h.dep x) hk)
theorem EncOk.mono (h : EncOk f k) (hk : k ≤ l) : EncOk f l := ⟨h.eq, h.lay, fun x => Nat.le_trans (h.dep x) hk⟩
theorem beq_dec {c : Type} [BEq c] [LawfulBEq c] [DecidableEq c] (x y : c) : (x == y) = decide (x = y) := by
  by_cases h : x = y
  · subst h; simp
  · rw [decide_eq_false h]; simpa using h
theorem enc_int : EncOk (fun i : Int => PyData.int i) 0 := ⟨fun x y => by rw [PyData.eqv]; exact beq_dec x y, fun x => by rw [PyData.canLay0], fun x => by simp [PyData.depth]⟩
theorem enc_nat : EncOk cN 0 := ⟨fun x y => by
  rw [PyData.eqv, beq_dec]
  by_cases h : x = y
  · subst h; simp
  · rw [decide_eq_false h, decide_eq_false (fun e => h (by omega))], fun x => by rw [PyData.canLay0], fun x => by simp [PyData.depth]⟩
theorem enc_bool : EncOk (fun i : Bool => PyData.bool i) 0 := ⟨fun x y => by rw [PyData.eqv]; exact beq_dec x y, fun x => by rw [PyData.canLay0], fun x => by simp [PyData.depth]⟩
theorem eqvAll_map (h : EncOk f k) : ∀ xs ys : List a, PyData.eqvAll (xs.map f) (ys.map f) = decide (xs = ys)
  | [], [] => by simp [PyData.eqvAll]
  | [], y :: ys => by simp [PyData.eqvAll]
  | x :: xs, [] => by simp [PyData.eqvAll]
  | x :: xs, y :: ys => by
    simp only [List.map_cons, PyData.eqvAll]
    rw [h.eq, eqvAll_map h xs ys]
    by_cases e : x = y
    · by_cases e2 : xs = ys
      · simp [e, e2]
      · simp [e, e2]
    · simp [e]
theorem layAll_map (h : EncOk f k) : ∀ xs : List a, PyData.canLayAll0 (xs.map f) = true
  | [] => by simp [PyData.canLayAll0]
  | x :: xs => by simp [PyData.canLayAll0, h.lay x, layAll_map h xs]
theorem depAll_map (h : EncOk f k) : ∀ xs : List a, PyData.depthAll (xs.map f) ≤ k
  | [] => by simp [PyData.depthAll]
  | x :: xs => by
    have h1 := h.dep x
    have h2 := depAll_map h xs
    simp only [List.map_cons, PyData.depthAll]
    omega
theorem enc_list (h : EncOk f k) : EncOk (fun xs : List a => PyData.list (xs.map f)) (k + 1) := ⟨fun x y => by rw [PyData.eqv]; exact eqvAll_map h x y, fun x => by rw [PyData.canLay0]; exact layAll_map h x, fun x => by
  have := depAll_map h x
  simp only [PyData.depth]; omega⟩
theorem enc_tup (h : EncOk f k) : EncOk (fun xs : List a => PyData.tuple (xs.map f)) (k + 1) := ⟨fun x y => by rw [PyData.eqv]; exact eqvAll_map h x y, fun x => by rw [PyData.canLay0]; exact layAll_map h x, fun x => by
  have := depAll_map h x
  simp only [PyData.depth]; omega⟩
theorem enc_pair (h : EncOk f k) (h' : EncOk g k) : EncOk (fun p : a × b => PyData.tuple [f p.1, g p.2]) (k + 1) := ⟨fun x y => by
  simp only [PyData.eqv, PyData.eqvAll, h.eq, h'.eq, Bool.and_true]
  obtain ⟨x1, x2⟩ := x
  obtain ⟨y1, y2⟩ := y
  by_cases e : x1 = y1
  · by_cases e2 : x2 = y2
    · simp [e, e2]
    · simp [e, e2]
  · simp [e], fun x => by simp [PyData.canLay0, PyData.canLayAll0, h.lay, h'.lay], fun x => by
  have := h.dep x.1
  have := h'.dep x.2
  simp only [PyData.depth, PyData.depthAll]; omega⟩
theorem enc_tri {c : Type} [DecidableEq c] {e : c → PyData} (h : EncOk f k) (h' : EncOk g k) (h'' : EncOk e k) : EncOk (fun p : a × b × c => PyData.tuple [f p.1, g p.2.1, e p.2.2]) (k + 1) := ⟨fun x y => by
  simp only [PyData.eqv, PyData.eqvAll, h.eq, h'.eq, h''.eq, Bool.and_true]
  obtain ⟨x1, x2, x3⟩ := x
  obtain ⟨y1, y2, y3⟩ := y
  by_cases e1 : x1 = y1
  · by_cases e2 : x2 = y2
    · by_cases e3 : x3 = y3
      · simp [e1, e2, e3]
      · simp [e1, e2, e3]
    · simp [e1, e2]
  · simp [e1], fun x => by simp [PyData.canLay0, PyData.canLayAll0, h.lay, h'.lay, h''.lay], fun x => by
  have := h.dep x.1
  have := h'.dep x.2.1
  have := h''.dep x.2.2
  simp only [PyData.depth, PyData.depthAll]; omega⟩
/-- None, or a number -/
def cO (f : a → PyData) : Option a → PyData
  | none => .none
  | some x => f x
theorem enc_opt (h : EncOk f k) (hn : ∀ x, PyData.eqv (f x) .none = false ∧ PyData.eqv .none (f x) = false) : EncOk (cO f) k := ⟨fun x y => by
  cases x with
  | none =>
    cases y with
    | none => simp [cO, PyData.eqv]
    | some y => simp [cO, (hn y).2]
  | some x =>
    cases y with
    | none => simp [cO, (hn x).1]
    | some y => simp [cO, h.eq], fun x => by cases x <;> simp [cO, PyData.canLay0, h.lay], fun x => by
  cases x with
  | none => simp [cO, PyData.depth]
  | some x => exact h.dep x⟩
theorem enc_optN : EncOk (cO cN) 0 := enc_opt enc_nat fun x => ⟨by simp [PyData.eqv], by simp [PyData.eqv]⟩
theorem oEq_enc (h : EncOk f k) (hk : k ≤ 64) (x y : a) : oEq (f x) (f y) = ok (.bool (decide (x = y))) := by
  unfold oEq
  rw [if_pos ⟨h.shaped hk x, h.shaped hk y⟩, h.eq]
theorem oNe_enc (h : EncOk f k) (hk : k ≤ 64) (x y : a) : oNe (f x) (f y) = ok (.bool (!decide (x = y))) := by
  unfold oNe
  rw [if_pos ⟨h.shaped hk x, h.shaped hk y⟩, h.eq]
theorem any_eqv (h : EncOk f k) (x : a) : ∀ xs : List a, ((xs.map f).any fun z => PyData.eqv z (f x)) = decide (x ∈ xs)
  | [] => by simp
  | y :: ys => by
    rw [List.map_cons, List.any_cons, h.eq, any_eqv h x ys]
    by_cases e : y = x
    · subst e; simp
    · have : ¬ x = y := fun q => e q.symm
      simp [e, this]
theorem oIn_list (h : EncOk f k) (hk : k ≤ 63) (neg : Bool) (x : a) (xs : List a) : oIn neg (f x) (.list (xs.map f)) = ok (.bool (neg ^^ decide (x ∈ xs))) := by
  have h1 := (enc_list h).shaped (x := xs) (by omega)
  unfold oIn
  simp only
  rw [if_pos ⟨h.shaped (by omega) x, h1⟩, any_eqv h]
theorem oIn_tup (h : EncOk f k) (hk : k ≤ 63) (neg : Bool) (x : a) (xs : List a) : oIn neg (f x) (.tuple (xs.map f)) = ok (.bool (neg ^^ decide (x ∈ xs))) := by
  have h1 := (enc_tup h).shaped (x := xs) (by omega)
  unfold oIn
  simp only
  rw [if_pos ⟨h.shaped (by omega) x, h1⟩, any_eqv h]
theorem firstAt_enc (h : EncOk f k) (x : a) : ∀ xs : List a, firstAt (f x) (xs.map f) = if x ∈ xs then some (xs.idxOf x) else none
  | [] => rfl
  | y :: ys => by
    rw [List.map_cons, firstAt, h.eq, firstAt_enc h x ys]
    by_cases e : y = x
    · subst e; simp
    · have : ¬ x = y := fun q => e q.symm
      by_cases m : x ∈ ys
      · simp [e, this, m, List.idxOf_cons, beq_dec]
      · simp [e, this, m]
end

/-! ### places -/
theorem atI_map {a b : Type} (f : a → b) (xs : List a) (i : Int) : atI (xs.map f) i = (atI xs i).map f := by
  unfold atI
  rw [List.length_map]
  cases ixN xs.length i with
  | none => rfl
  | some j => simp
theorem atI_nat' {a : Type} (xs : List a) (j : Nat) : atI xs (j : Int) = xs[j]? := by
  unfold atI ixN
  by_cases h : j < xs.length
  · rw [if_pos (by omega), if_pos (by omega)]; simp
  · rw [if_pos (by omega), if_neg (by omega), List.getElem?_eq_none (by omega)]; rfl
theorem oIx_list {a : Type} (f : a → PyData) (xs : List a) (j : Nat) (x : a) (h : xs[j]? = some x) : oIx (.list (xs.map f)) (cN j) = ok (f x) := by
  unfold oIx
  simp only
  rw [atI_map, atI_nat', h]; rfl
theorem oIx_tup {a : Type} (f : a → PyData) (xs : List a) (j : Nat) (x : a) (h : xs[j]? = some x) : oIx (.tuple (xs.map f)) (cN j) = ok (f x) := by
  unfold oIx
  simp only
  rw [atI_map, atI_nat', h]; rfl

/-! ### loops -/
theorem for_rule {G : Gf} {body : Sf} {xs : List PyData} {r : Rho} (P : Nat → Rho → Prop) (Res : Option SR → Prop) (h0 : P 0 r)
    (turn : ∀ i x r, xs[i]? = some x → P i r → ∃ r1, G x r = some r1 ∧ match body r1 with
      | some (.nx r2) => P (i + 1) r2
      | some (.ct r2) => P (i + 1) r2
      | some (.bk r2) => Res (some (.nx r2))
      | some (.rt d) => Res (some (.rt d))
      | some (.er e r2) => Res (some (.er e r2))
      | none => False)
    (hd : ∀ r, P xs.length r → Res (some (.nx r))) : Res (forL G body xs r) := by
  suffices ∀ (k i : Nat) (r : Rho), i + k = xs.length → P i r → Res (forL G body (xs.drop i) r) by
    have := this xs.length 0 r (by omega) h0
    rwa [List.drop_zero] at this
  intro k
  induction k with
  | zero =>
    intro i r hi hp
    have : i = xs.length := by omega
    subst this
    rw [List.drop_length, forL]
    exact hd r hp
  | succ k ih =>
    intro i r hi hp
    have hl : i < xs.length := by omega
    obtain ⟨r1, e1, h⟩ := turn i xs[i] r (List.getElem?_eq_getElem hl) hp
    rw [List.drop_eq_getElem_cons hl, forL, e1]
    simp only
    revert h
    cases body r1 with
    | none => exact False.elim
    | some z =>
      cases z with
      | nx r2 => exact fun h => ih (i + 1) r2 (by omega) h
      | ct r2 => exact fun h => ih (i + 1) r2 (by omega) h
      | bk r2 => exact id
      | rt d => exact id
      | er e r2 => exact id
/-- a loop that is not left -/
theorem for_nx {G : Gf} {body : Sf} {xs : List PyData} {r : Rho} (P : Nat → Rho → Prop) (h0 : P 0 r)
    (turn : ∀ i x r, xs[i]? = some x → P i r → ∃ r1 r2, G x r = some r1 ∧ body r1 = some (.nx r2) ∧ P (i + 1) r2) : ∃ r', forL G body xs r = some (.nx r') ∧ P xs.length r' := by
  refine for_rule (xs := xs) P (fun m => ∃ r', m = some (.nx r') ∧ P xs.length r') h0 (fun i x r hx hp => ?_) fun r hp => ⟨r, rfl, hp⟩
  obtain ⟨r1, r2, e1, e2, h⟩ := turn i x r hx hp
  exact ⟨r1, e1, by rw [e2]; exact h⟩
theorem while_rule {t : Tf} {body : Sf} {r : Rho} (P : Rho → Prop) (mu : Rho → Nat) (Res : Option SR → Prop) (h0 : P r) (hm : mu r < fuel)
    (turn : ∀ r, P r → ∃ k, t r = ok k ∧ if k = true then (match body r with
      | some (.nx r2) => P r2 ∧ mu r2 < mu r
      | some (.ct r2) => P r2 ∧ mu r2 < mu r
      | some (.bk r2) => Res (some (.nx r2))
      | some (.rt d) => Res (some (.rt d))
      | some (.er e r2) => Res (some (.er e r2))
      | none => False) else Res (some (.nx r))) : Res (sWhile t body r) := by
  unfold sWhile
  suffices ∀ (n : Nat) (r : Rho), mu r < n → P r → Res (whileN t body n r) from this fuel r hm h0
  intro n
  induction n with
  | zero => intro r h; omega
  | succ n ih =>
    intro r h hp
    obtain ⟨k, e, q⟩ := turn r hp
    rw [whileN, e, ofE_ok]
    cases k with
    | false => simpa using q
    | true =>
      rw [if_pos rfl] at q ⊢
      revert q
      cases body r with
      | none => exact False.elim
      | some z =>
        cases z with
        | nx r2 => exact fun q => ih r2 (by omega) q.1
        | ct r2 => exact fun q => ih r2 (by omega) q.1
        | bk r2 => exact id
        | rt d => exact id
        | er e r2 => exact id
/-- a comprehension over encoded data -/
theorem lc_map {a : Type} {enc : a → PyData} {G : Gf} {t : Tf} {f : Ef} {r : Rho} (p : a → Bool) (h : a → PyData) : ∀ (xs : List a) (acc : List PyData), acc.length + xs.length ≤ lim →
    (∀ x ∈ xs, ∃ r1, G (enc x) r = some r1 ∧ t r1 = ok (p x) ∧ (p x = true → f r1 = ok (h x))) → lcL G t f r (xs.map enc) acc = ok (acc ++ (xs.filter p).map h)
  | [], acc, _, _ => by simp [lcL]
  | x :: xs, acc, hl, hx => by
    obtain ⟨r1, e1, e2, e3⟩ := hx x List.mem_cons_self
    rw [List.length_cons] at hl
    have ih := fun acc' hl' => lc_map p h xs acc' hl' fun y hy => hx y (List.mem_cons_of_mem _ hy)
    rw [List.map_cons, lcL, e1]
    simp only
    rw [e2]
    cases q : p x with
    | false =>
      show lcL G t f r (xs.map enc) acc = _
      rw [ih acc (by omega), List.filter_cons, q]; rfl
    | true =>
      show (match f r1 with
        | some (.ok d) => if acc.length < lim then lcL G t f r (xs.map enc) (acc ++ [d]) else none
        | _ => none) = _
      rw [e3 q]
      show (if acc.length < lim then lcL G t f r (xs.map enc) (acc ++ [h x]) else none) = _
      rw [if_pos (by omega), ih _ (by rw [List.length_append, List.length_singleton]; omega), List.filter_cons, q]
      simp
theorem lc_all {a : Type} {enc : a → PyData} {G : Gf} {f : Ef} {r : Rho} (h : a → PyData) (xs : List a) (hl : xs.length ≤ lim)
    (hx : ∀ x ∈ xs, ∃ r1, G (enc x) r = some r1 ∧ f r1 = ok (h x)) : lcL G tYesF f r (xs.map enc) [] = ok (xs.map h) := by
  have := lc_map (enc := enc) (G := G) (t := tYesF) (f := f) (r := r) (fun _ => true) h xs [] (by simpa using hl) (fun x hm => by
    obtain ⟨r1, e1, e2⟩ := hx x hm
    exact ⟨r1, e1, rfl, fun _ => e2⟩)
  rw [List.nil_append, List.filter_eq_self.mpr (fun _ _ => rfl)] at this
  exact this
theorem rng_map (n : Nat) : rng 0 n = (List.range n).map cN := by
  unfold rng
  refine List.map_congr_left fun i _ => ?_
  simp
end WK

set_option Elab.async false
set_option linter.all false
/-! Rows for evaluating, one a shape. -/
noncomputable section
namespace WK
open PySem DL L2

/-- a def's end -/
def fin : Option SR → M PyData
  | some (.nx _) => ok .none
  | some (.rt d) => ok d
  | some (.er e _) => some (.error e)
  | _ => none
@[simp] theorem fin_nx {r : Rho} : fin (some (.nx r)) = ok .none := rfl
@[simp] theorem fin_rt {d : PyData} : fin (some (.rt d)) = ok d := rfl
@[simp] theorem fin_er {e : XN} {r : Rho} : fin (some (.er e r)) = some (.error e) := rfl

theorem v0 {x : PyData} {r : Rho} : eV 0 (some (.d x) :: r) = ok x := rfl
theorem vS {i : Nat} {b : Option B} {r : Rho} : eV (i + 1) (b :: r) = eV i r := rfl
theorem o0 {x : PyData} {r : Rho} : eO 0 (some (.d x) :: r) = ok x := rfl
theorem o0' {xs : List PyData} {r : Rho} : eO 0 (some (.own xs) :: r) = ok (.list xs) := rfl
theorem oS {i : Nat} {b : Option B} {r : Rho} : eO (i + 1) (b :: r) = eO i r := rfl
theorem g0 {d : PyData} {b : Option B} {r : Rho} : gN 0 d (b :: r) = some (some (.d d) :: r) := rfl
theorem gS {i : Nat} {d : PyData} {b : Option B} {r : Rho} : gN (i + 1) d (b :: r) = (gN i d r).map (b :: ·) := by
  unfold gN
  by_cases h : i < r.length
  · rw [if_pos h, if_pos (by rw [List.length_cons]; omega)]; rfl
  · rw [if_neg h, if_neg (by rw [List.length_cons]; omega)]; rfl
def asB : PyData → M Bool
  | .bool k => ok k
  | _ => none
theorem val_ev {f : Ef} {r : Rho} : tValF f r = bnd (f r) asB := rfl
theorem asB_b {k : Bool} : asB (.bool k) = ok k := rfl
theorem add_i {i j : Int} : oAdd (.int i) (.int j) = ok (.int (i + j)) := rfl
theorem add_n {i j : Nat} : oAdd (cN i) (cN j) = ok (cN (i + j)) := by
  show ok (PyData.int _) = ok (PyData.int _)
  rw [Int.natCast_add]
theorem sub_i {i j : Int} : oSub (.int i) (.int j) = ok (.int (i - j)) := rfl
theorem div_i {i j : Int} (h : 0 < j) (h2 : j < 1073741824) : oDiv (.int i) (.int j) = ok (.int (i / j)) := if_pos ⟨h, h2⟩
theorem mod_i {i j : Int} (h : 0 < j) : oMod (.int i) (.int j) = ok (.int (i % j)) := if_pos h
theorem mul_l {i j : Int} (h : -(2 ^ 64) < i) (h2 : i < 2 ^ 64) : oMulI (.int i) (.int j) = ok (.int (i * j)) := if_pos (.inl (inW_of.mpr ⟨h, h2⟩))
theorem mul_r {i j : Int} (h : -(2 ^ 64) < j) (h2 : j < 2 ^ 64) : oMulI (.int i) (.int j) = ok (.int (i * j)) := if_pos (.inr (inW_of.mpr ⟨h, h2⟩))
theorem neg_i {i : Int} : oNeg (.int i) = ok (.int (-i)) := rfl
theorem cmp_i {p : Int → Int → Bool} {i j : Int} : oCmp p (.int i) (.int j) = ok (.bool (p i j)) := rfl
theorem lt_i {i j : Int} : oLtA (.int i) (.int j) = ok (.bool (decide (i < j))) := rfl
theorem lt_l {ns ms : List Int} : oLtA (.list (ns.map .int)) (.list (ms.map .int)) = ok (.bool (HT.lexLt ns ms)) := by
  unfold oLtA; simp only [intsOf_map]
theorem eq_i {i j : Int} : oEq (.int i) (.int j) = ok (.bool (decide (i = j))) := oEq_enc enc_int (by omega) i j
theorem ne_i {i j : Int} : oNe (.int i) (.int j) = ok (.bool (!decide (i = j))) := oNe_enc enc_int (by omega) i j
theorem isN_n : oIsN .none .none = ok (.bool true) := rfl
theorem isN_i {i : Int} : oIsN (.int i) .none = ok (.bool false) := rfl
theorem isN_l {i : List PyData} : oIsN (.list i) .none = ok (.bool false) := rfl
theorem notN_n : oNotN .none .none = ok (.bool false) := rfl
theorem notN_i {i : Int} : oNotN (.int i) .none = ok (.bool true) := rfl
theorem len_l {xs : List PyData} : oLen [.list xs] = ok (cN xs.length) := rfl
theorem len_t {xs : List PyData} : oLen [.tuple xs] = ok (cN xs.length) := rfl
theorem tru_l {xs : List PyData} : tru (.list xs) = ok (!xs.isEmpty) := rfl
theorem tru_t {xs : List PyData} : tru (.tuple xs) = ok (!xs.isEmpty) := rfl
theorem tru_b {k : Bool} : tru (.bool k) = ok k := rfl
theorem int_b {k : Bool} : oInt [.bool k] = ok (.int (if k then 1 else 0)) := rfl
theorem tup_l {xs : List PyData} : oTuple [.list xs] = ok (.tuple xs) := rfl
theorem lst_l {xs : List PyData} : oList [.list xs] = ok (.list xs) := rfl
theorem lst_t {xs : List PyData} : oList [.tuple xs] = ok (.list xs) := rfl
theorem any_l {bs : List Bool} : oAny [.list (bs.map .bool)] = ok (.bool (bs.any id)) := by unfold oAny; simp only [blsOf_map]
theorem all_l {bs : List Bool} : oAll [.list (bs.map .bool)] = ok (.bool (bs.all id)) := by unfold oAll; simp only [blsOf_map]
theorem min_i {i j : Int} : oMin2 [.int i, .int j] = ok (.int (if j < i then j else i)) := rfl
theorem max_i {i j : Int} : oMax2 [.int i, .int j] = ok (.int (if j > i then j else i)) := rfl
theorem srt_l {ns : List Int} : oSortedA [.list (ns.map .int)] = ok (.list ((isort ns).map .int)) := by unfold oSortedA; simp only [intsOf_map]
theorem srt_t {ns : List Int} : oSortedA [.tuple (ns.map .int)] = ok (.list ((isort ns).map .int)) := by unfold oSortedA; simp only [intsOf_map]
theorem addL {xs ys : List PyData} (h : xs.length + ys.length ≤ lim) : oAdd (.list xs) (.list ys) = ok (.list (xs ++ ys)) := if_pos h
theorem addT {xs ys : List PyData} (h : xs.length + ys.length ≤ lim) : oAdd (.tuple xs) (.tuple ys) = ok (.tuple (xs ++ ys)) := if_pos h
theorem inR_n {n : Nat} (h : n < 1000000000) : inR (n : Int) = true := by
  exact inR_iff.mpr (by omega)
theorem seq_l {f : Ef} {r : Rho} {xs : List PyData} (e : f r = ok (.list xs)) : iSeq f r = ok xs := by unfold iSeq; rw [e]; rfl
theorem seq_t {f : Ef} {r : Rho} {xs : List PyData} (e : f r = ok (.tuple xs)) : iSeq f r = ok xs := by unfold iSeq; rw [e]; rfl
def seqOf : PyData → M (List PyData)
  | .list xs => ok xs
  | .tuple xs => ok xs
  | _ => none
theorem iSeq_ev {f : Ef} {r : Rho} : iSeq f r = bnd (f r) seqOf := rfl
theorem seqOf_l {xs : List PyData} : seqOf (.list xs) = ok xs := rfl
theorem seqOf_t {xs : List PyData} : seqOf (.tuple xs) = ok xs := rfl
def rng1 : PyData → M (List PyData)
  | .int n => if inR n = true then ok (rng 0 n.toNat) else none
  | _ => none
theorem iR1_ev {f : Ef} {r : Rho} : iR1 f r = bnd (f r) rng1 := rfl
theorem rng1_n {n : Nat} (h : n < 1000000000) : rng1 (cN n) = ok ((List.range n).map cN) := by
  unfold rng1
  simp only [cN]
  rw [if_pos (inR_n h), Int.toNat_natCast, rng_map]
theorem gT_ev {n : Nat} {G : Gsf} {ds : List PyData} {r : Rho} (h : ds.length = n) : gT n G (.tuple ds) r = G ds r := if_pos h
theorem gs_c {G : Gf} {Gs : Gsf} {d : PyData} {ds : List PyData} {r : Rho} : gsCons G Gs (d :: ds) r = (G d r).bind (Gs ds) := rfl
theorem gs_n {r : Rho} : gsNil [] r = some r := rfl
theorem and_ev {f g : Ef} {r : Rho} : eAnd f g r = bnd (f r) fun x => bnd (asB x) fun k => if k = true then g r else ok (.bool false) := by
  unfold eAnd
  cases f r with
  | none => rfl
  | some z => cases z with
    | error e => rfl
    | ok x => cases x <;> first | rfl | (rename_i b; cases b <;> rfl)
theorem or_ev {f g : Ef} {r : Rho} : eOr f g r = bnd (f r) fun x => bnd (asB x) fun k => if k = true then ok (.bool true) else g r := by
  unfold eOr
  cases f r with
  | none => rfl
  | some z => cases z with
    | error e => rfl
    | ok x => cases x <;> first | rfl | (rename_i b; cases b <;> rfl)
theorem not_ev {f : Ef} {r : Rho} : eNot f r = bnd (f r) fun x => bnd (asB x) fun k => ok (.bool (!k)) := by
  unfold eNot
  cases f r with
  | none => rfl
  | some z => cases z with
    | error e => rfl
    | ok x => cases x <;> rfl
theorem e3_ev {o o' : PyData → PyData → M PyData} {f g h : Ef} {r : Rho} : e3 o o' f g h r = bnd (f r) fun x => bnd (g r) fun y => bnd (o x y) fun z => bnd (asB z) fun k => if k = true then bnd (h r) fun w => o' y w else ok (.bool false) := by
  unfold e3
  cases f r with
  | none => rfl
  | some z => cases z with
    | error e => rfl
    | ok x =>
      simp only [bnd_ok']
      cases g r with
      | none => rfl
      | some z => cases z with
        | error e => rfl
        | ok y =>
          simp only [bnd_ok']
          cases o x y with
          | none => rfl
          | some z => cases z with
            | error e => rfl
            | ok w => cases w <;> first | rfl | (rename_i b; cases b <;> rfl)
/-- the list of a slot, and a slot's new list -/
def ownAt (i : Nat) (r : Rho) : Option (List PyData) := match r[i]? with
  | some (some (.own xs)) => some xs
  | _ => none
def setAt (i : Nat) (b : B) (r : Rho) : Option Rho := if i < r.length then some (r.set i (some b)) else none
theorem own0 {xs : List PyData} {r : Rho} : ownAt 0 (some (.own xs) :: r) = some xs := rfl
theorem ownS {i : Nat} {b : Option B} {r : Rho} : ownAt (i + 1) (b :: r) = ownAt i r := rfl
theorem setAt0 {b : B} {a : Option B} {r : Rho} : setAt 0 b (a :: r) = some (some b :: r) := rfl
theorem setAtS {i : Nat} {d : B} {b : Option B} {r : Rho} : setAt (i + 1) d (b :: r) = (setAt i d r).map (b :: ·) := by
  unfold setAt
  by_cases h : i < r.length
  · rw [if_pos h, if_pos (by rw [List.length_cons]; omega)]; rfl
  · rw [if_neg h, if_neg (by rw [List.length_cons]; omega)]; rfl
theorem setO_ev {i : Nat} {f : Af} {r : Rho} : sSetO i f r = ofE (f r) r fun xs => (setAt i (.own xs) r).map SR.nx := by
  unfold sSetO setAt
  congr 1
  funext xs
  split <;> rfl
theorem set_ev {i : Nat} {f : Ef} {r : Rho} : sSet i f r = ofE (f r) r fun d => (gN i d r).map SR.nx := rfl
theorem asg_ev {f : Ef} {G : Gf} {r : Rho} : sAsg f G r = ofE (f r) r fun d => (G d r).map SR.nx := rfl
theorem ownAt_lt {i : Nat} {r : Rho} {xs : List PyData} (h : ownAt i r = some xs) : r[i]? = some (some (.own xs)) := by
  unfold ownAt at h
  split at h
  · cases h; assumption
  · cases h
theorem app_ev {i : Nat} {f : Ef} {r : Rho} {xs : List PyData} (h : ownAt i r = some xs) (hl : xs.length < 1000000) : sApp i f r = ofE (f r) r fun d => (setAt i (.own (xs ++ [d])) r).map SR.nx := by
  have e := ownAt_lt h
  have hi := (List.getElem?_eq_some_iff.mp e).1
  unfold sApp setAt
  rw [e]
  simp only
  congr 1
  funext d
  rw [if_pos (show xs.length < lim from by rw [lim_is]; exact hl), if_pos hi]; rfl
theorem frz_ev {i : Nat} {g : Sf} {r : Rho} {xs : List PyData} (h : ownAt i r = some xs) : sFrz i g r = ((setAt i (.d (.list xs)) r).bind g) := by
  have e := ownAt_lt h
  have hi := (List.getElem?_eq_some_iff.mp e).1
  unfold sFrz setAt
  rw [e]
  simp only
  rw [if_pos hi]; rfl
def rngO : PyData → M (List PyData)
  | .int n => if inL n = true then ok (rng 0 n.toNat) else none
  | _ => none
theorem nRng_ev {f : Ef} {r : Rho} : nRng f r = bnd (f r) rngO := rfl
theorem rngO_n {n : Nat} (h : n ≤ 1000000) : rngO (cN n) = ok ((List.range n).map cN) := by
  unfold rngO
  simp only [cN]
  rw [if_pos (inL_iff.mpr (by omega)), Int.toNat_natCast, rng_map]
theorem apppop_ev {i j m : Nat} {f : Ef} {r : Rho} {xs ys : List PyData} {d : PyData} (h1 : ownAt i r = some xs) (h2 : ownAt j r = some ys) (hij : i ≠ j) (hf : f r = ok (cN m)) (hd : ys[m]? = some d) (hl : xs.length < 1000000) (hy : ys.length < 1000000000) :
    sAppPop i j f r = ((setAt j (.own (ys.eraseIdx m)) r).bind (setAt i (.own (xs ++ [d])))).map SR.nx := by
  have e1 := ownAt_lt h1
  have e2 := ownAt_lt h2
  have i1 := (List.getElem?_eq_some_iff.mp e1).1
  have i2 := (List.getElem?_eq_some_iff.mp e2).1
  have hm := (List.getElem?_eq_some_iff.mp hd).1
  have hix : ixN ys.length (m : Int) = some m := by
    unfold ixN
    rw [if_pos (by omega), if_pos (by omega), Int.toNat_natCast]
  unfold sAppPop setAt
  rw [e1, e2]
  simp only
  rw [if_neg hij, hf]
  simp only [ofE_ok, cN]
  rw [hix]
  simp only
  rw [hd]
  simp only
  rw [if_pos ⟨by rw [lim_is]; exact hl, inR_n (by omega)⟩, if_pos i2]
  simp only [Option.bind_some]
  rw [if_pos (by rw [List.length_set]; exact i1)]
  rfl
end WK

set_option Elab.async false
set_option linter.all false
/-! Evaluating by rows, in one set. -/
noncomputable section
namespace WK
open PySem DL L2

def sq (m : Option SR) (h : Sf) : Option SR := match m with
  | some (.nx r') => h r'
  | x => x
theorem sSeq_ev {g h : Sf} {r : Rho} : sSeq g h r = sq (g r) h := rfl
theorem sq_nx {r : Rho} {h : Sf} : sq (some (.nx r)) h = h r := rfl
theorem sq_rt {d : PyData} {h : Sf} : sq (some (.rt d)) h = some (.rt d) := rfl
theorem sq_er {e : XN} {r : Rho} {h : Sf} : sq (some (.er e r)) h = some (.er e r) := rfl
theorem sq_bk {r : Rho} {h : Sf} : sq (some (.bk r)) h = some (.bk r) := rfl
theorem sq_ct {r : Rho} {h : Sf} : sq (some (.ct r)) h = some (.ct r) := rfl
theorem sIf_ev {t : Tf} {g h : Sf} {r : Rho} : sIf t g h r = ofE (t r) r fun k => if k = true then g r else h r := rfl
theorem sRet_ev {f : Ef} {r : Rho} : sRet f r = ofE (f r) r fun d => some (.rt d) := rfl
theorem sDrop_ev {f : Ef} {r : Rho} : sDrop f r = ofE (f r) r fun _ => some (.nx r) := rfl
theorem sSkip_ev {r : Rho} : sSkip r = some (.nx r) := rfl
theorem sRetN_ev {r : Rho} : sRetN r = some (.rt .none) := rfl
theorem sRaise_ev {x : XN} {r : Rho} : sRaise x r = some (.er x r) := rfl
theorem sFor_ev {src : Af} {G : Gf} {body : Sf} {r : Rho} : sFor src G body r = ofE (src r) r fun xs => forL G body xs r := rfl
theorem eC_ev {d : PyData} {r : Rho} : eC d r = ok d := rfl
theorem e2_ev {o : PyData → PyData → M PyData} {f g : Ef} {r : Rho} : e2 o f g r = bnd (f r) fun x => bnd (g r) fun y => o x y := rfl
theorem e1_ev {o : PyData → M PyData} {f : Ef} {r : Rho} : e1 o f r = bnd (f r) o := rfl
theorem eFn_ev {o : List PyData → M PyData} {g : Af} {r : Rho} : eFn o g r = bnd (g r) o := rfl
theorem eCall_ev {o : List PyData → M PyData} {g : Af} {r : Rho} : eCall o g r = bnd (g r) o := rfl
theorem aCons_ev {f : Ef} {g : Af} {r : Rho} : aCons f g r = bnd (f r) fun x => bnd (g r) fun xs => ok (x :: xs) := rfl
theorem aNil_ev {r : Rho} : aNil r = ok [] := rfl
theorem nNew_ev {g : Af} {r : Rho} : nNew g r = bnd (g r) fun xs => if xs.length ≤ lim then ok xs else none := rfl
theorem eTup_ev {g : Af} {r : Rho} : eTup g r = bnd (g r) fun xs => if xs.length ≤ lim then ok (.tuple xs) else none := rfl
theorem eLst_ev {g : Af} {r : Rho} : eLst g r = bnd (g r) fun xs => if xs.length ≤ lim then ok (.list xs) else none := rfl
theorem eIf_ev {t : Tf} {f g : Ef} {r : Rho} : eIf t f g r = bnd (t r) fun k => if k = true then f r else g r := rfl
theorem eNew_ev {f : Af} {r : Rho} : eNew f r = bnd (f r) fun xs => ok (.list xs) := rfl
theorem tTru_ev {f : Ef} {r : Rho} : tTruF f r = bnd (f r) tru := rfl
theorem tNot_ev {f : Tf} {r : Rho} : tNotF f r = bnd (f r) fun k => ok (!k) := rfl
theorem tAnd_ev {f g : Tf} {r : Rho} : tAndF f g r = bnd (f r) fun k => if k = true then g r else ok false := rfl
theorem tOr_ev {f g : Tf} {r : Rho} : tOrF f g r = bnd (f r) fun k => if k = true then ok true else g r := rfl
theorem tYes_ev {r : Rho} : tYesF r = ok true := rfl
theorem nLc_ev {src : Af} {G : Gf} {t : Tf} {f : Ef} {vs : List Nat} {r : Rho} : nLc src G t f vs r = bnd (src r) fun xs => lcL G t f (wipeR r vs) xs [] := rfl
theorem wipe0 {r : Rho} : wipeR r [] = r := rfl
theorem wipeS {r : Rho} {v : Nat} {vs : List Nat} : wipeR r (v :: vs) = (wipeR r vs).set v none := rfl
def tixO (x y : PyData) : M PyData := match x with
  | .tuple ds => if SeqAt.shaped (.tuple ds) = true ∧ SeqAt.shaped y = true then (match firstAt y ds with | some j => ok (.int (j : Nat)) | none => none) else none
  | _ => none
theorem tix_ev {f g : Ef} {r : Rho} : eTIndex f g r = bnd (f r) fun x => match x with
  | .tuple ds => bnd (g r) fun d => tixO (.tuple ds) d
  | _ => none := rfl
theorem put_ev {i : Nat} {k f : Ef} {r : Rho} {xs : List PyData} {j : Nat} (h : ownAt i r = some xs) : sPut i k f r = sPut i k f r := rfl
/-! numbers up -/
theorem nup1 (n : Nat) : ((n : Int) + 1) = ((n + 1 : Nat) : Int) := rfl
theorem nup_le (n m : Nat) : ((n : Int) ≤ (m : Int)) = (n ≤ m) := propext Int.ofNat_le
theorem nup_lt (n m : Nat) : ((n : Int) < (m : Int)) = (n < m) := propext Int.ofNat_lt
theorem nup_eq (n m : Nat) : ((n : Int) = (m : Int)) = (n = m) := propext Int.ofNat_inj
theorem ltn {n m : Nat} : oLtA (cN n) (cN m) = ok (.bool (decide (n < m))) := by
  rw [lt_i]; simp only [nup_lt]
theorem oIx_l {a : Type} {f : a → PyData} {xs : List a} {j : Nat} (h : j < xs.length) : oIx (.list (xs.map f)) (cN j) = ok (f (xs[j]'h)) := oIx_list f xs j _ (List.getElem?_eq_getElem h)
theorem oIx_t {a : Type} {f : a → PyData} {xs : List a} {j : Nat} (h : j < xs.length) : oIx (.tuple (xs.map f)) (cN j) = ok (f (xs[j]'h)) := oIx_tup f xs j _ (List.getElem?_eq_getElem h)
theorem oIx_c0 {x : PyData} {xs : List PyData} : oIx (.tuple (x :: xs)) (.int 0) = ok x := oIx_tup id (x :: xs) 0 x rfl |> fun h => by rw [List.map_id] at h; exact h
theorem oIx_c1 {x y : PyData} {xs : List PyData} : oIx (.tuple (x :: y :: xs)) (.int 1) = ok y := oIx_tup id (x :: y :: xs) 1 y rfl |> fun h => by rw [List.map_id] at h; exact h
theorem oIx_c2 {x y z : PyData} {xs : List PyData} : oIx (.tuple (x :: y :: z :: xs)) (.int 2) = ok z := oIx_tup id (x :: y :: z :: xs) 2 z rfl |> fun h => by rw [List.map_id] at h; exact h
theorem cat_l {a : Type} {f : a → PyData} {xs ys : List a} (h : xs.length + ys.length ≤ lim) : oAdd (.list (xs.map f)) (.list (ys.map f)) = ok (.list ((xs ++ ys).map f)) := by
  rw [addL (by rw [List.length_map, List.length_map]; exact h), List.map_append]
theorem cat_t {a : Type} {f : a → PyData} {xs ys : List a} (h : xs.length + ys.length ≤ lim) : oAdd (.tuple (xs.map f)) (.tuple (ys.map f)) = ok (.tuple ((xs ++ ys).map f)) := by
  rw [addT (by rw [List.length_map, List.length_map]; exact h), List.map_append]
theorem limV : lim = 1000000 := lim_is
/-- a loop with a measure beside it -/
theorem while_ix {t : Tf} {body : Sf} {r : Rho} (P : Nat → Rho → Prop) (n : Nat) (Res : Option SR → Prop) (h0 : P n r) (hm : n < fuel)
    (turn : ∀ n r, P n r → ∃ k, t r = ok k ∧ if k = true then (match body r with
      | some (.nx r2) => ∃ m, m < n ∧ P m r2
      | some (.ct r2) => ∃ m, m < n ∧ P m r2
      | some (.bk r2) => Res (some (.nx r2))
      | some (.rt d) => Res (some (.rt d))
      | some (.er e r2) => Res (some (.er e r2))
      | none => False) else Res (some (.nx r))) : Res (sWhile t body r) := by
  unfold sWhile
  suffices ∀ (k n : Nat) (r : Rho), n < k → P n r → Res (whileN t body k r) from this fuel n r hm h0
  intro k
  induction k with
  | zero => intro n r h; omega
  | succ k ih =>
    intro n r h hp
    obtain ⟨b, e, q⟩ := turn n r hp
    rw [whileN, e, ofE_ok]
    cases b with
    | false => simpa using q
    | true =>
      rw [if_pos rfl] at q ⊢
      revert q
      cases body r with
      | none => exact False.elim
      | some z =>
        cases z with
        | nx r2 => exact fun ⟨m, hm, q⟩ => ih m r2 (by omega) q
        | ct r2 => exact fun ⟨m, hm, q⟩ => ih m r2 (by omega) q
        | bk r2 => exact id
        | rt d => exact id
        | er e r2 => exact id
theorem run_fin {n k : Nat} {b : Sf} {ds : List PyData} (h : ds.length = k) : runD n k b ds = fin (b (rho0 n ds)) := by
  unfold runD
  rw [if_pos h]
  cases b (rho0 n ds) with
  | none => rfl
  | some z => cases z <;> rfl
theorem rep0 {a : Type} {x : a} : List.replicate 0 x = [] := rfl
theorem repS {a : Type} {n : Nat} {x : a} : List.replicate (n + 1) x = x :: List.replicate n x := rfl
theorem mod_n {i j : Nat} (h : 0 < j) : oMod (cN i) (cN j) = ok (cN (i % j)) := by
  rw [mod_i (by omega)]
  simp only [cN, Int.natCast_emod]
end WK

set_option Elab.async false
set_option linter.all false
/-! What a block leaves. -/
noncomputable section
namespace WK
open PySem DL L2

/-- an equation that is not to be rewritten with -/
def Eqn {a : Type} (x y : a) : Prop := x = y
theorem Eqn.rf {a : Type} {x : a} : Eqn x x := rfl
theorem Eqn.le {x y : Nat} (h : Eqn x y) : x ≤ y ∧ y ≤ x := ⟨Nat.le_of_eq h, Nat.le_of_eq (Eq.symm h)⟩
def Post (Q : PyData → Prop) (m : M PyData) : Prop := ∃ d, m = ok d ∧ Q d
def PostS (Q : SR → Prop) (m : Option SR) : Prop := ∃ z, m = some z ∧ Q z
def EndQ (Q : PyData → Prop) : SR → Prop
  | .nx _ => Q .none
  | .rt d => Q d
  | _ => False
theorem post_run {Q : PyData → Prop} {n k : Nat} {b : Sf} {ds : List PyData} (h : ds.length = k) (hb : PostS (EndQ Q) (b (rho0 n ds))) : Post Q (runD n k b ds) := by
  rw [run_fin h]
  obtain ⟨z, e, q⟩ := hb
  rw [e]
  cases z with
  | nx r => exact ⟨_, rfl, q⟩
  | rt d => exact ⟨_, rfl, q⟩
  | bk r => exact q.elim
  | ct r => exact q.elim
  | er x r => exact q.elim
theorem posts_some {Q : SR → Prop} {z : SR} : PostS Q (some z) = Q z := propext ⟨fun ⟨_, e, q⟩ => by cases e; exact q, fun q => ⟨_, rfl, q⟩⟩
theorem end_rt {Q : PyData → Prop} {d : PyData} : EndQ Q (.rt d) = Q d := rfl
theorem end_nx {Q : PyData → Prop} {r : Rho} : EndQ Q (.nx r) = Q .none := rfl
theorem PostS.imp {Q Q' : SR → Prop} {m : Option SR} (h : PostS Q m) (i : ∀ z, Q z → Q' z) : PostS Q' m := by
  obtain ⟨z, e, q⟩ := h
  exact ⟨z, e, i z q⟩
theorem Post.imp {Q Q' : PyData → Prop} {m : M PyData} (h : Post Q m) (i : ∀ z, Q z → Q' z) : Post Q' m := by
  obtain ⟨z, e, q⟩ := h
  exact ⟨z, e, i z q⟩
/-- the turns' end -/
def SqQ (Q : SR → Prop) (h : Sf) : SR → Prop
  | .nx r => PostS Q (h r)
  | z => Q z
theorem posts_sq {Q : SR → Prop} {m : Option SR} {h : Sf} (hm : PostS (SqQ Q h) m) : PostS Q (sq m h) := by
  obtain ⟨z, e, q⟩ := hm
  rw [e]
  cases z with
  | nx r => exact q
  | rt d => exact ⟨_, rfl, q⟩
  | bk r => exact ⟨_, rfl, q⟩
  | ct r => exact ⟨_, rfl, q⟩
  | er x r => exact ⟨_, rfl, q⟩
/-- a turn's end: on, or out -/
def LpQ (Q : SR → Prop) (P : Rho → Prop) : SR → Prop
  | .nx r => P r
  | .ct r => P r
  | .bk r => Q (.nx r)
  | z => Q z
theorem lp_nx {Q : SR → Prop} {P : Rho → Prop} {r : Rho} : LpQ Q P (.nx r) = P r := rfl
theorem lp_ct {Q : SR → Prop} {P : Rho → Prop} {r : Rho} : LpQ Q P (.ct r) = P r := rfl
theorem lp_bk {Q : SR → Prop} {P : Rho → Prop} {r : Rho} : LpQ Q P (.bk r) = Q (.nx r) := rfl
theorem lp_rt {Q : SR → Prop} {P : Rho → Prop} {d : PyData} : LpQ Q P (.rt d) = Q (.rt d) := rfl
theorem lp_er {Q : SR → Prop} {P : Rho → Prop} {e : XN} {r : Rho} : LpQ Q P (.er e r) = Q (.er e r) := rfl
theorem sqq_nx {Q : SR → Prop} {h : Sf} {r : Rho} : SqQ Q h (.nx r) = PostS Q (h r) := rfl
theorem sqq_rt {Q : SR → Prop} {h : Sf} {d : PyData} : SqQ Q h (.rt d) = Q (.rt d) := rfl
theorem sqq_er {Q : SR → Prop} {h : Sf} {e : XN} {r : Rho} : SqQ Q h (.er e r) = Q (.er e r) := rfl
theorem sqq_bk {Q : SR → Prop} {h : Sf} {r : Rho} : SqQ Q h (.bk r) = Q (.bk r) := rfl
theorem sqq_ct {Q : SR → Prop} {h : Sf} {r : Rho} : SqQ Q h (.ct r) = Q (.ct r) := rfl
def PostG (o : Option Rho) (K : Rho → Prop) : Prop := ∃ r1, o = some r1 ∧ K r1
theorem postg_some {r : Rho} {K : Rho → Prop} : PostG (some r) K = K r := propext ⟨fun ⟨_, e, q⟩ => by cases e; exact q, fun q => ⟨_, rfl, q⟩⟩
theorem posts_for {Q : SR → Prop} {G : Gf} {body : Sf} {xs : List PyData} {r : Rho} (P : Nat → Rho → Prop) (h0 : P 0 r)
    (turn : ∀ i x r, xs[i]? = some x → P i r → PostG (G x r) fun r1 => PostS (LpQ Q (P (i + 1))) (body r1))
    (hd : ∀ r, P xs.length r → Q (.nx r)) : PostS Q (forL G body xs r) := by
  refine for_rule (xs := xs) P (PostS Q) h0 (fun i x r hx hp => ?_) fun r hp => ⟨_, rfl, hd r hp⟩
  obtain ⟨r1, e1, z, e2, q⟩ := turn i x r hx hp
  refine ⟨r1, e1, ?_⟩
  rw [e2]
  cases z with
  | nx r => exact q
  | rt d => exact ⟨_, rfl, q⟩
  | bk r => exact ⟨_, rfl, q⟩
  | ct r => exact q
  | er x r => exact ⟨_, rfl, q⟩
theorem posts_while {Q : SR → Prop} {t : Tf} {body : Sf} {r : Rho} (P : Nat → Rho → Prop) (n : Nat) (h0 : P n r) (hm : n < 100000)
    (turn : ∀ n r, P n r → ∃ k, t r = ok k ∧ if k = true then PostS (LpQ Q fun r2 => ∃ m, m < n ∧ P m r2) (body r) else Q (.nx r)) : PostS Q (sWhile t body r) := by
  refine while_ix P n (PostS Q) h0 (by rw [fuel_is]; exact hm) fun n r hp => ?_
  obtain ⟨k, e, h⟩ := turn n r hp
  refine ⟨k, e, ?_⟩
  cases k with
  | false => exact ⟨_, rfl, h⟩
  | true =>
    rw [if_pos rfl] at h ⊢
    obtain ⟨z, e2, q⟩ := h
    rw [e2]
    cases z with
    | nx r => exact q
    | rt d => exact ⟨_, rfl, q⟩
    | bk r => exact ⟨_, rfl, q⟩
    | ct r => exact q
    | er x r => exact ⟨_, rfl, q⟩
/-- a turn over mapped data -/
theorem getq_map {a b : Type} {f : a → b} {xs : List a} {i : Nat} {x : b} (h : (xs.map f)[i]? = some x) : ∃ y, xs[i]? = some y ∧ x = f y := by
  rw [List.getElem?_map] at h
  cases e : xs[i]? with
  | none => rw [e] at h; cases h
  | some y => rw [e] at h; cases h; exact ⟨y, rfl, rfl⟩
theorem getq_range {n i m : Nat} (h : (List.range n)[i]? = some m) : m = i ∧ i < n := by
  obtain ⟨h1, h2⟩ := List.getElem?_eq_some_iff.mp h
  rw [List.getElem_range] at h2
  rw [List.length_range] at h1
  exact ⟨h2.symm, h1⟩
theorem nm4 (v : Nat) : (v : Int) % 4 = ((v % 4 : Nat) : Int) := rfl
theorem nm2 (v : Nat) : (v : Int) % 2 = ((v % 2 : Nat) : Int) := rfl
theorem nm3 (v : Nat) : (v : Int) % 3 = ((v % 3 : Nat) : Int) := rfl
theorem nd4 (v : Nat) : (v : Int) / 4 = ((v / 4 : Nat) : Int) := rfl
theorem nd2 (v : Nat) : (v : Int) / 2 = ((v / 2 : Nat) : Int) := rfl
theorem eq_n {i j : Nat} : oEq (cN i) (cN j) = ok (.bool (decide (i = j))) := oEq_enc enc_nat (by omega) i j
theorem le_n {i j : Nat} : oLe (cN i) (cN j) = ok (.bool (decide (i ≤ j))) := by
  show ok (PyData.bool (decide ((i : Int) ≤ (j : Int)))) = _
  simp only [nup_le]
def wO {a : Type} (o : Option a) (k : a → Option SR) : Option SR := match o with
  | some x => k x
  | none => none
theorem wO_some {a : Type} {x : a} {k : a → Option SR} : wO (some x) k = k x := rfl
theorem app_w {i : Nat} {f : Ef} {r : Rho} : sApp i f r = wO (ownAt i r) fun xs => ofE (f r) r fun d => if xs.length < lim then wO (setAt i (.own (xs ++ [d])) r) fun r2 => some (.nx r2) else none := by
  unfold sApp ownAt setAt
  cases e : r[i]? with
  | none => rfl
  | some b =>
    have hi := (List.getElem?_eq_some_iff.mp e).1
    match b with
    | none => rfl
    | some (.d x) => rfl
    | some (.dct x) => rfl
    | some (.dic x) => rfl
    | some (.dif x) => rfl
    | some (.obj x) => rfl
    | some (.obf x) => rfl
    | some (.own xs) =>
      simp only [wO_some, if_pos hi]
theorem frz_w {i : Nat} {g : Sf} {r : Rho} {xs : List PyData} (h : ownAt i r = some xs) : sFrz i g r = wO (setAt i (.d (.list xs)) r) g := by
  rw [frz_ev h]
  cases setAt i (.d (.list xs)) r <;> rfl
def ixD (n : Nat) : PyData → Option Nat
  | .int j => ixN n j
  | _ => none
theorem ixD_n {n j : Nat} (h : j < n) : ixD n (cN j) = some j := by
  show ixN n (j : Int) = some j
  unfold ixN
  rw [if_pos (by omega), if_pos (by omega), Int.toNat_natCast]
theorem put_w {i : Nat} {k f : Ef} {r : Rho} : sPut i k f r = wO (ownAt i r) fun xs => ofE (f r) r fun d => ofE (k r) r fun z => wO (ixD xs.length z) fun m => wO (setAt i (.own (xs.set m d)) r) fun r2 => some (.nx r2) := by
  unfold sPut ownAt setAt
  cases e : r[i]? with
  | none => rfl
  | some b =>
    have hi := (List.getElem?_eq_some_iff.mp e).1
    match b with
    | none => rfl
    | some (.d x) => rfl
    | some (.dct x) => rfl
    | some (.dic x) => rfl
    | some (.dif x) => rfl
    | some (.obj x) => rfl
    | some (.obf x) => rfl
    | some (.own xs) =>
      simp only [wO_some, if_pos hi]
      congr 1
      funext d
      congr 1
      funext z
      cases z with
      | int n =>
        simp only [ixD]
        cases ixN xs.length n <;> rfl
      | _ => rfl
def frzK : Option (List PyData) → Nat → Sf → Sf
  | some xs, i, g => fun r => wO (setAt i (.d (.list xs)) r) g
  | none, _, g => g
theorem frz_o {i : Nat} {g : Sf} {r : Rho} : sFrz i g r = frzK (ownAt i r) i g r := by
  cases e : ownAt i r with
  | some xs => rw [frz_w e]; rfl
  | none =>
    unfold sFrz
    split
    · rename_i xs q
      unfold ownAt at e
      rw [q] at e
      cases e
    · rfl
theorem frzK_some {i : Nat} {g : Sf} {r : Rho} {xs : List PyData} : frzK (some xs) i g r = wO (setAt i (.d (.list xs)) r) g := rfl
theorem lc_mapG {a : Type} {enc : a → PyData} {G : Gf} {t : Tf} {f : Ef} {r : Rho} (p : a → Bool) (h : a → PyData) (xs : List a) (hl : xs.length ≤ 1000000)
    (hx : ∀ x ∈ xs, PostG (G (enc x) r) fun r1 => t r1 = ok (p x) ∧ (p x = true → f r1 = ok (h x))) : lcL G t f r (xs.map enc) [] = ok ((xs.filter p).map h) := by
  have := lc_map (enc := enc) (G := G) (t := t) (f := f) (r := r) p h xs [] (by rw [lim_is]; simpa using hl) fun x hm => by
    obtain ⟨r1, e1, q⟩ := hx x hm
    exact ⟨r1, e1, q⟩
  simpa using this
theorem lc_allG {a : Type} {enc : a → PyData} {G : Gf} {f : Ef} {r : Rho} (h : a → PyData) (xs : List a) (hl : xs.length ≤ 1000000)
    (hx : ∀ x ∈ xs, PostG (G (enc x) r) fun r1 => f r1 = ok (h x)) : lcL G tYesF f r (xs.map enc) [] = ok (xs.map h) := by
  refine lc_all h xs (by rw [lim_is]; exact hl) fun x hm => ?_
  obtain ⟨r1, e1, q⟩ := hx x hm
  exact ⟨r1, e1, q⟩
theorem app_evL {i : Nat} {f : Ef} {r : Rho} {xs : List PyData} (h : ownAt i r = some xs) (hl : xs.length < 1000000) {d : PyData} (hf : f r = ok d) {r2 : Rho} (h2 : setAt i (.own (xs ++ [d])) r = some r2) : sApp i f r = some (.nx r2) := by
  rw [app_ev h hl, hf, ofE_ok, h2]; rfl
end WK

set_option Elab.async false
set_option linter.all false
/-! More rows. -/
noncomputable section
namespace WK
open PySem DL L2

theorem nlit_le (n k : Nat) : ((n : Int) ≤ (no_index (OfNat.ofNat k) : Int)) = (n ≤ no_index (OfNat.ofNat k)) := propext Int.ofNat_le
theorem nlit_lt (n k : Nat) : ((n : Int) < (no_index (OfNat.ofNat k) : Int)) = (n < no_index (OfNat.ofNat k)) := propext Int.ofNat_lt
theorem nlit_ge (n k : Nat) : ((no_index (OfNat.ofNat k) : Int) ≤ (n : Int)) = (no_index (OfNat.ofNat k) ≤ n) := propext Int.ofNat_le
theorem nlit_gt (n k : Nat) : ((no_index (OfNat.ofNat k) : Int) < (n : Int)) = (no_index (OfNat.ofNat k) < n) := propext Int.ofNat_lt
theorem nlit_eq (n k : Nat) : ((n : Int) = (no_index (OfNat.ofNat k) : Int)) = (n = no_index (OfNat.ofNat k)) := propext Int.ofNat_inj
theorem nge0 (n : Nat) : ((0 : Int) ≤ (n : Int)) = True := propext ⟨fun _ => trivial, fun _ => Int.natCast_nonneg n⟩
theorem in_tf {neg b : Bool} : oIn neg (.bool b) (.tuple [.bool true, .bool false]) = ok (.bool (neg ^^ true)) := by
  have := oIn_tup enc_bool (by omega) neg b [true, false]
  rw [show decide (b ∈ [true, false]) = true from by cases b <;> rfl] at this
  exact this
theorem blsOf_true {a : Type} (xs : List a) : blsOf (xs.map fun _ => PyData.bool true) = some (xs.map fun _ => true) := by
  have := blsOf_map (xs.map fun _ => true)
  rwa [List.map_map] at this
theorem all_true {a : Type} {xs : List a} : oAll [.list (xs.map fun _ => .bool true)] = ok (.bool true) := by
  unfold oAll
  simp only [blsOf_true]
  congr 2
  simp
theorem intsOf_cN (ss : List Nat) : intsOf (ss.map cN) = some (ss.map fun (n : Nat) => (n : Int)) := by
  have := intsOf_map (ss.map fun (n : Nat) => (n : Int))
  rwa [List.map_map] at this
theorem map_inj_nodup {a b : Type} {f : a → b} (hf : ∀ x y, f x = f y → x = y) {xs : List a} (h : xs.Nodup) : (xs.map f).Nodup := by
  induction xs with
  | nil => exact List.nodup_nil
  | cons x xs ih =>
    rw [List.nodup_cons] at h
    rw [List.map_cons, List.nodup_cons]
    refine ⟨fun q => ?_, ih h.2⟩
    obtain ⟨y, hy, e⟩ := List.mem_map.mp q
    rw [hf _ _ e] at hy
    exact h.1 hy
theorem lenset_n {ss : List Nat} (h : ss.Nodup) (hl : ss.length < 4000) : oLenSet (.tuple (ss.map cN)) = ok (cN ss.length) := by
  unfold oLenSet
  simp only [intsOf_cN]
  rw [if_pos (by rw [List.length_map]; exact hl), (dd_len _).mpr (map_inj_nodup (fun x y e => Int.ofNat_inj.mp e) h), List.length_map]
theorem gT_ev' {n : Nat} {G : Gsf} {ds : List PyData} {r : Rho} : gT n G (.tuple ds) r = if ds.length = n then G ds r else none := rfl
def bz (b : Bool) : PyData := .bool b
theorem any_b {a : Type} {xs : List a} {p : a → Bool} : oAny [.list (xs.map fun x => .bool (p x))] = ok (.bool (xs.any p)) := by
  have := any_l (bs := xs.map p)
  rw [List.map_map] at this
  rw [show (xs.map fun x => PyData.bool (p x)) = xs.map (PyData.bool ∘ p) from rfl, this, List.any_map]
  rfl
theorem all_b {a : Type} {xs : List a} {p : a → Bool} : oAll [.list (xs.map fun x => .bool (p x))] = ok (.bool (xs.all p)) := by
  have := all_l (bs := xs.map p)
  rw [List.map_map] at this
  rw [show (xs.map fun x => PyData.bool (p x)) = xs.map (PyData.bool ∘ p) from rfl, this, List.all_map]
  rfl
end WK

set_option Elab.async false
set_option linter.all false
/-! Rows for k01: popping walks, caught errors, own dicts, repetition. -/
noncomputable section
namespace WK
open PySem DL L2

theorem ownAt_get {i : Nat} {r : Rho} {xs : List PyData} (h : ownAt i r = some xs) : r[i]? = some (some (.own xs)) ∧ i < r.length :=
  ⟨ownAt_lt h, (List.getElem?_eq_some_iff.mp (ownAt_lt h)).1⟩
theorem forP_ev {a : Type} {enc : a → PyData} {it : a → List PyData} (he : ∀ x, enc x = .list (it x)) {L : List a} {zs : List Nat} {n j : Nat} {x : a} {f : Ef} {G : Gf} {body : Sf} {r : Rho}
    (h1 : f r = ok (.list (L.map enc))) (h2 : ownAt j r = some ((zs ++ [n]).map cN)) (h3 : L[n]? = some x) : sForP (srcIxPop f j) G body r = wO (setAt j (.own (zs.map cN)) r) fun r' => forL G body (it x) r' := by
  obtain ⟨e, hj⟩ := ownAt_get h2
  unfold sForP srcIxPop
  have hl : ((zs ++ [n]).map cN).getLast? = some (cN n) := by rw [List.map_append]; simp
  have hd : ((zs ++ [n]).map cN).dropLast = zs.map cN := by rw [List.map_append]; simp
  have hx : atI (L.map enc) (n : Int) = some (enc x) := by rw [atI_map, atI_nat', h3]; rfl
  rw [h1, e]
  simp only [ok, hl, hd, cN, hx, he]
  unfold setAt
  rw [if_pos hj]; rfl
def sqK (i j : Nat) (m : Option SR) : Option SR := match m with
  | some (.er x r') => if i < r'.length ∧ j < r'.length then some (.nx (((r'.set i (some (.d (excD x)))).set j (some (.d (excD x)))).set i none)) else none
  | z => z
theorem tryK_ev {i j : Nat} {g : Sf} {r : Rho} : sTryK i j g r = sqK i j (g r) := rfl
theorem sqK_nx {i j : Nat} {r : Rho} : sqK i j (some (.nx r)) = some (.nx r) := rfl
theorem sqK_rt {i j : Nat} {d : PyData} : sqK i j (some (.rt d)) = some (.rt d) := rfl
theorem sqK_er {i j : Nat} {x : XN} {r : Rho} : sqK i j (some (.er x r)) = if i < r.length ∧ j < r.length then some (.nx (((r.set i (some (.d (excD x)))).set j (some (.d (excD x)))).set i none)) else none := rfl
theorem isX_ev {p : XN → Bool} {x : XN} : oIsX p (excD x) = ok (.bool (p x)) := by cases x <;> rfl
theorem isN_x {x : XN} : oIsN (excD x) .none = ok (.bool false) := rfl
theorem nRep_ev {af : Af} {g : Ef} {r : Rho} : nRep af g r = bnd (af r) fun xs => if xs.length ≤ lim then bnd (g r) fun z => match z with
  | .int k => if inR k = true ∧ xs.length * k.toNat ≤ lim then ok (List.replicate k.toNat xs).flatten else none
  | _ => none
  else none := rfl
theorem rep_one {x : PyData} {n : Nat} : (List.replicate n [x]).flatten = List.replicate n x := by
  induction n with
  | zero => rfl
  | succ n ih => rw [List.replicate_succ, List.replicate_succ, List.flatten_cons, ih]; rfl
theorem nRep1 {f g : Ef} {r : Rho} {x : PyData} {n : Nat} (hf : f r = ok x) (hg : g r = ok (cN n)) (hn : n ≤ 1000000) : nRep (aCons f aNil) g r = ok (List.replicate n x) := by
  rw [nRep_ev, aCons_ev, hf, bnd_ok, aNil_ev, bnd_ok, bnd_ok, hg, lim_is, if_pos (show [x].length ≤ 1000000 from by rw [List.length_singleton]; decide), bnd_ok]
  show (if inR (n : Int) = true ∧ [x].length * ((n : Int)).toNat ≤ 1000000 then ok (List.replicate ((n : Int)).toNat [x]).flatten else none) = _
  rw [Int.toNat_natCast, if_pos ⟨inR_n (by omega), by rw [List.length_singleton]; omega⟩, rep_one]
end WK

set_option Elab.async false
set_option linter.all false
set_option maxHeartbeats 4000000
set_option maxRecDepth 100000
noncomputable section
namespace WK
open PySem DL L2

local macro_rules | `(tactic| walk_at "ev") => `(tactic| simp only [ofE_err, bnd_err, ofE_ok, ofE_ok', bnd_ok, bnd_ok', sSeq_ev, sq_nx, sq_rt, sq_er, sq_bk, sq_ct, sIf_ev, sRet_ev, sDrop_ev, sSkip_ev, sRetN_ev, sRaise_ev, sFor_ev, eC_ev, e2_ev, e1_ev, eFn_ev, eCall_ev, aCons_ev, aNil_ev, nNew_ev, eTup_ev, eLst_ev, eIf_ev, eNew_ev, tTru_ev, tNot_ev, tAnd_ev, tOr_ev, tYes_ev, nLc_ev, wipe0, wipeS, tix_ev, set_ev, asg_ev, setO_ev, v0, vS, o0, o0', oS, g0, gS, own0, ownS, setAt0, setAtS, e3_ev, and_ev, or_ev, not_ev, val_ev, asB_b, iSeq_ev, seqOf_l, seqOf_t, iR1_ev, nRng_ev, gT_ev, gs_c, gs_n,
  add_i, sub_i, div_i, mod_i, mul_l, mul_r, neg_i, cmp_i, lt_i, eq_i, ne_i, isN_n, isN_i, isN_l, notN_n, notN_i, len_l, len_t, tru_l, tru_t, tru_b, tup_l, lst_l, lst_t, any_l, all_l, min_i, max_i, oIx_l, oIx_t, oIx_c0, oIx_c1, oIx_c2, limV,
  nup1, nup_le, nup_lt, nup_eq, ← Int.natCast_add,
  posts_some, postg_some, end_rt, end_nx, lp_nx, lp_ct, lp_bk, lp_rt, lp_er, sqq_nx, sqq_rt, sqq_er, sqq_bk, sqq_ct, wO_some, app_w, put_w, frz_o, frzK_some, nlit_le, nlit_lt, nlit_ge, nlit_gt, nlit_eq, nge0, in_tf, all_true, lenset_n, nm4, nm3, nm2, nd4, nd2, eq_n, le_n, 
  Option.map_some, Option.map_none, Option.bind_some, fin_nx, fin_rt, fin_er, List.length_cons, List.length_nil, List.length_map, List.length_append, List.length_range, List.set_cons_zero, List.set_cons_succ, ↓reduceIte, Nat.zero_add, Nat.add_zero, Nat.zero_le, Nat.reduceAdd, Nat.reduceLeDiff, Nat.reduceEqDiff, Int.reduceLT, Int.reduceNeg, Int.reducePow, Option.isNone_none, Option.isNone_some, Option.isSome_none, Option.isSome_some, decide_eq_true_eq, decide_true, decide_false, Bool.not_true, Bool.not_false, Bool.false_eq_true, eq_self, and_self, true_and, and_true, Bool.true_xor, Bool.false_xor])
local macro_rules | `(tactic| walk_at "in") => `(tactic| simp only [rho0, List.map_cons, List.map_nil, List.cons_append, List.nil_append, List.length_cons, List.length_nil, Nat.reduceAdd, Nat.reduceSub, Nat.zero_add, Nat.sub_self, rep0, repS])
local macro_rules | `(tactic| walk_at "evo") => `(tactic| simp (disch := (first | omega | (simp only [List.length_map, List.length_append, List.length_cons, List.length_nil, List.length_range, List.length_set, List.length_replicate]; omega))) only [addT6, addL6, rng1_n, rngO_n, mod_n, ofE_err, bnd_err, ofE_ok, ofE_ok', bnd_ok, bnd_ok', sSeq_ev, sq_nx, sq_rt, sq_er, sq_bk, sq_ct, sIf_ev, sRet_ev, sDrop_ev, sSkip_ev, sRetN_ev, sRaise_ev, sFor_ev, eC_ev, e2_ev, e1_ev, eFn_ev, eCall_ev, aCons_ev, aNil_ev, nNew_ev, eTup_ev, eLst_ev, eIf_ev, eNew_ev, tTru_ev, tNot_ev, tAnd_ev, tOr_ev, tYes_ev, nLc_ev, wipe0, wipeS, tix_ev, set_ev, asg_ev, setO_ev, v0, vS, o0, o0', oS, g0, gS, own0, ownS, setAt0, setAtS, e3_ev, and_ev, or_ev, not_ev, val_ev, asB_b, iSeq_ev, seqOf_l, seqOf_t, iR1_ev, nRng_ev, gT_ev, gs_c, gs_n,
  add_i, sub_i, div_i, mod_i, mul_l, mul_r, neg_i, cmp_i, lt_i, eq_i, ne_i, isN_n, isN_i, isN_l, notN_n, notN_i, len_l, len_t, tru_l, tru_t, tru_b, tup_l, lst_l, lst_t, any_l, all_l, min_i, max_i, oIx_l, oIx_t, oIx_c0, oIx_c1, oIx_c2, limV,
  nup1, nup_le, nup_lt, nup_eq, ← Int.natCast_add,
  posts_some, postg_some, end_rt, end_nx, lp_nx, lp_ct, lp_bk, lp_rt, lp_er, sqq_nx, sqq_rt, sqq_er, sqq_bk, sqq_ct, wO_some, app_w, put_w, frz_o, frzK_some, nlit_le, nlit_lt, nlit_ge, nlit_gt, nlit_eq, nge0, in_tf, all_true, lenset_n, nm4, nm3, nm2, nd4, nd2, eq_n, le_n, 
  Option.map_some, Option.map_none, Option.bind_some, fin_nx, fin_rt, fin_er, List.length_cons, List.length_nil, List.length_map, List.length_append, List.length_range, List.set_cons_zero, List.set_cons_succ, ↓reduceIte, Nat.zero_add, Nat.add_zero, Nat.zero_le, Nat.reduceAdd, Nat.reduceLeDiff, Nat.reduceEqDiff, Int.reduceLT, Int.reduceNeg, Int.reducePow, Option.isNone_none, Option.isNone_some, Option.isSome_none, Option.isSome_some, decide_eq_true_eq, decide_true, decide_false, Bool.not_true, Bool.not_false, Bool.false_eq_true, eq_self, and_self, true_and, and_true, Bool.true_xor, Bool.false_xor])
local macro_rules | `(tactic| walk_at "evh") => `(tactic| simp only [*, ofE_err, bnd_err, ofE_ok, ofE_ok', bnd_ok, bnd_ok', sSeq_ev, sq_nx, sq_rt, sq_er, sq_bk, sq_ct, sIf_ev, sRet_ev, sDrop_ev, sSkip_ev, sRetN_ev, sRaise_ev, sFor_ev, eC_ev, e2_ev, e1_ev, eFn_ev, eCall_ev, aCons_ev, aNil_ev, nNew_ev, eTup_ev, eLst_ev, eIf_ev, eNew_ev, tTru_ev, tNot_ev, tAnd_ev, tOr_ev, tYes_ev, nLc_ev, wipe0, wipeS, tix_ev, set_ev, asg_ev, setO_ev, v0, vS, o0, o0', oS, g0, gS, own0, ownS, setAt0, setAtS, e3_ev, and_ev, or_ev, not_ev, val_ev, asB_b, iSeq_ev, seqOf_l, seqOf_t, iR1_ev, nRng_ev, gT_ev, gs_c, gs_n,
  add_i, sub_i, div_i, mod_i, mul_l, mul_r, neg_i, cmp_i, lt_i, eq_i, ne_i, isN_n, isN_i, isN_l, notN_n, notN_i, len_l, len_t, tru_l, tru_t, tru_b, tup_l, lst_l, lst_t, any_l, all_l, min_i, max_i, oIx_l, oIx_t, oIx_c0, oIx_c1, oIx_c2, limV,
  nup1, nup_le, nup_lt, nup_eq, ← Int.natCast_add,
  posts_some, postg_some, end_rt, end_nx, lp_nx, lp_ct, lp_bk, lp_rt, lp_er, sqq_nx, sqq_rt, sqq_er, sqq_bk, sqq_ct, wO_some, app_w, put_w, frz_o, frzK_some, nlit_le, nlit_lt, nlit_ge, nlit_gt, nlit_eq, nge0, in_tf, all_true, lenset_n, nm4, nm3, nm2, nd4, nd2, eq_n, le_n, 
  Option.map_some, Option.map_none, Option.bind_some, fin_nx, fin_rt, fin_er, List.length_cons, List.length_nil, List.length_map, List.length_append, List.length_range, List.set_cons_zero, List.set_cons_succ, ↓reduceIte, Nat.zero_add, Nat.add_zero, Nat.zero_le, Nat.reduceAdd, Nat.reduceLeDiff, Nat.reduceEqDiff, Int.reduceLT, Int.reduceNeg, Int.reducePow, Option.isNone_none, Option.isNone_some, Option.isSome_none, Option.isSome_some, decide_eq_true_eq, decide_true, decide_false, Bool.not_true, Bool.not_false, Bool.false_eq_true, eq_self, and_self, true_and, and_true, Bool.true_xor, Bool.false_xor])
/-! What the laws draw: numbers, sources, machines. -/
theorem cell_is (ns : List Int) (k : Int) : ∃ z : Int, m__law_cell [.list (ns.map .int), .int k] = ok (.int z) := by
  rw [m__law_cell, run_fin (by rfl)]
  walk_at "in"
  rw [b__law_cell]
  cases ns with
  | nil => exact ⟨0, rfl⟩
  | cons n r =>
    have h1 : 0 ≤ k % ((r.length : Int) + 1) := Int.emod_nonneg _ (by omega)
    have h2 : k % ((r.length : Int) + 1) < (r.length : Int) + 1 := Int.emod_lt_of_pos _ (by omega)
    obtain ⟨j, hj⟩ := Int.eq_ofNat_of_zero_le h1
    have hjl : j < (n :: r).length := by rw [List.length_cons]; omega
    refine ⟨(n :: r)[j], ?_⟩
    have hix : oIx (.list ((n :: r).map PyData.int)) (cN j) = ok (.int (n :: r)[j]) := oIx_list _ _ _ _ (List.getElem?_eq_getElem hjl)
    have hm : oMod (.int k) (cN (r.length + 1)) = ok (cN j) := by
      rw [mod_i (by omega), Int.natCast_add, Int.natCast_one, hj]
    walk_at "ev"
    simp only [List.isEmpty_map, List.isEmpty_cons, Bool.not_false, ↓reduceIte, hm, bnd_ok, hix, fin_rt, ofE_ok, sq_rt]
theorem mix_is (ns : List Int) (k : Int) : ∃ v : Nat, m__law_mix [.list (ns.map .int), .int k] = ok (cN v) ∧ v < 4294967231 := by
  obtain ⟨z, hz⟩ := cell_is ns k
  have key : ∀ x : Int, ∃ v : Nat, x % 4294967231 = (v : Int) ∧ v < 4294967231 := fun x => by
    have h1 := Int.emod_nonneg x (show (4294967231 : Int) ≠ 0 by decide)
    have h2 := Int.emod_lt_of_pos x (show (0 : Int) < 4294967231 by decide)
    exact ⟨(x % 4294967231).toNat, by omega, by omega⟩
  have main : ∃ x : Int, m__law_mix [.list (ns.map .int), .int k] = ok (.int (x % 4294967231)) := by
    rw [m__law_mix, run_fin (by rfl)]
    walk_at "in"
    rw [b__law_mix]
    walk_at "evh"
    exact ⟨_, rfl⟩
  obtain ⟨x, hx⟩ := main
  obtain ⟨v, e, hv⟩ := key x
  exact ⟨v, hx.trans (by rw [e]), hv⟩
theorem erase_perm {a : Type} : ∀ (xs : List a) (i : Nat) (h : i < xs.length), (xs[i] :: xs.eraseIdx i).Perm xs
  | x :: xs, 0, _ => List.Perm.refl _
  | x :: xs, i + 1, h => by
    show (xs[i]'(Nat.lt_of_succ_lt_succ h) :: x :: xs.eraseIdx i).Perm (x :: xs)
    exact (List.Perm.swap _ _ _).trans (List.Perm.cons x (erase_perm xs i (Nat.lt_of_succ_lt_succ h)))
theorem eraseIdx_map' {a b : Type} (f : a → b) : ∀ (xs : List a) (i : Nat), (xs.map f).eraseIdx i = (xs.eraseIdx i).map f
  | [], i => by simp
  | x :: xs, 0 => by simp
  | x :: xs, i + 1 => by simp [eraseIdx_map' f xs i]
theorem sources_is (ns : List Int) (k : Int) (many most : Nat) (h : many ≤ most) (hs : most < 1000) : ∃ ss : List Nat, m__law_sources [.list (ns.map .int), .int k, cN many, cN most] = ok (.tuple (ss.map cN)) ∧ ss.length = many ∧ ss.Nodup ∧ ∀ s ∈ ss, s < most := by
  rw [m__law_sources, run_fin (by rfl)]
  walk_at "in"
  rw [b__law_sources]
  have h1 : rngO (cN most) = ok ((List.range most).map cN) := rngO_n (by omega)
  walk_at "evh"
  refine while_ix (fun n r => ∃ ss left : List Nat, r = [some (.d (.list (ns.map .int))), some (.d (.int k)), some (.d (cN many)), some (.d (cN most)), some (.own (left.map cN)), some (.own (ss.map cN))] ∧
      ss.length + n = many ∧ ss.length + left.length = most ∧ (ss ++ left).Nodup ∧ ∀ s ∈ ss ++ left, s < most) many
      (fun m => ∃ ss : List Nat, fin (sq m (sRet (eCall oTuple (aCons (eO 5) aNil)))) = ok (.tuple (ss.map cN)) ∧ ss.length = many ∧ ss.Nodup ∧ ∀ s ∈ ss, s < most) ?_ (by rw [fuel_is]; omega) ?_
  · exact ⟨[], List.range most, rfl, by simp, by simp, by simpa using List.nodup_range, by simp⟩
  · rintro n r ⟨ss, left, rfl, e1, e2, e3, e4⟩
    refine ⟨decide (ss.length < many), by walk_at "ev", ?_⟩
    by_cases hc : ss.length < many
    · rw [if_pos (decide_eq_true hc)]
      obtain ⟨v, hv, _⟩ := mix_is ns (k + (ss.length : Nat))
      have hl : 0 < left.length := by omega
      have hm : v % left.length < left.length := Nat.mod_lt _ hl
      have hmod := mod_n (i := v) hl
      rw [apppop_ev (xs := ss.map cN) (ys := left.map cN) (m := v % left.length) rfl rfl (by decide) (by walk_at "evh") (d := cN (left[v % left.length]'hm)) (by rw [List.getElem?_map, List.getElem?_eq_getElem hm]; rfl) (by rw [List.length_map]; omega) (by rw [List.length_map]; omega)]
      walk_at "ev"
      have hp : ((ss ++ [left[v % left.length]]) ++ left.eraseIdx (v % left.length)).Perm (ss ++ left) := by
        rw [List.append_assoc]
        exact List.Perm.append_left _ (erase_perm _ _ hm)
      refine ⟨n - 1, by omega, ss ++ [left[v % left.length]], left.eraseIdx (v % left.length), ?_, ?_, ?_, ?_, ?_⟩
      · rw [List.map_append, eraseIdx_map']; rfl
      · rw [List.length_append, List.length_singleton]; omega
      · rw [List.length_append, List.length_singleton, List.length_eraseIdx_of_lt hm]; omega
      · exact (hp.nodup_iff).mpr e3
      · exact fun s hs => e4 s (hp.mem_iff.mp hs)
    · rw [if_neg (by simpa using hc)]
      exact ⟨ss, by walk_at "ev", by omega, (List.nodup_append.mp e3).1, fun s hs => e4 s (List.mem_append_left _ hs)⟩

def mixv (ns : List Int) (k : Int) : Nat := (mix_is ns k).choose
theorem mix_ev {ns : List Int} {k : Int} : m__law_mix [.list (ns.map .int), .int k] = ok (cN (mixv ns k)) := (mix_is ns k).choose_spec.1
theorem sources_ev {ns : List Int} {k : Int} {many most : Nat} (h : many ≤ most) (hs : most < 1000) : ∃ ss : List Nat, m__law_sources [.list (ns.map .int), .int k, cN many, cN most] = ok (.tuple (ss.map cN)) ∧ ss.length = many ∧ ss.Nodup ∧ ∀ s ∈ ss, s < most := sources_is ns k many most h hs
abbrev Mv := Nat × List Nat
abbrev Ste := Bool × Nat × List Mv
abbrev Mach := List Ste
def eMv (m : Mv) : PyData := .tuple [cN m.1, .tuple (m.2.map cN)]
def eSt (s : Ste) : PyData := .tuple [.bool s.1, cN s.2.1, .list (s.2.2.map eMv)]
def eM (M : Mach) : PyData := .list (M.map eSt)
structure VMv (bs : List Nat) (far : Nat) (m : Mv) : Prop where
  goal : bs[m.1]? = some m.2.length
  src : ∀ x ∈ m.2, x < far
  nod : m.2.Nodup
structure VSt (bs : List Nat) (s : Ste) : Prop where
  boxes : s.2.1 ≤ 6
  moves : s.2.2.length = s.2.1 + 1
  each : ∀ c m, s.2.2[c]? = some m → VMv bs (if c < s.2.1 then s.2.1 else s.2.1 + 1) m
def bxs (M : Mach) : List Nat := M.map fun s => s.2.1
structure Valid (M : Mach) : Prop where
  pos : 0 < M.length
  le : M.length ≤ 400
  first : (bxs M)[0]? = some 0
  each : ∀ s ∈ M, VSt (bxs M) s
end WK

set_option Elab.async false
set_option linter.all false
set_option maxHeartbeats 4000000
set_option maxRecDepth 100000
noncomputable section
namespace WK
open PySem DL L2

local macro_rules | `(tactic| walk_at "ev") => `(tactic| simp only [ofE_err, bnd_err, ofE_ok, ofE_ok', bnd_ok, bnd_ok', sSeq_ev, sq_nx, sq_rt, sq_er, sq_bk, sq_ct, sIf_ev, sRet_ev, sDrop_ev, sSkip_ev, sRetN_ev, sRaise_ev, sFor_ev, eC_ev, e2_ev, e1_ev, eFn_ev, eCall_ev, aCons_ev, aNil_ev, nNew_ev, eTup_ev, eLst_ev, eIf_ev, eNew_ev, tTru_ev, tNot_ev, tAnd_ev, tOr_ev, tYes_ev, nLc_ev, wipe0, wipeS, tix_ev, set_ev, asg_ev, setO_ev, v0, vS, o0, o0', oS, g0, gS, own0, ownS, setAt0, setAtS, e3_ev, and_ev, or_ev, not_ev, val_ev, asB_b, iSeq_ev, seqOf_l, seqOf_t, iR1_ev, nRng_ev, gT_ev, gs_c, gs_n,
  add_i, sub_i, div_i, mod_i, mul_l, mul_r, neg_i, cmp_i, lt_i, eq_i, ne_i, isN_n, isN_i, isN_l, notN_n, notN_i, len_l, len_t, tru_l, tru_t, tru_b, tup_l, lst_l, lst_t, any_l, all_l, min_i, max_i, oIx_l, oIx_t, oIx_c0, oIx_c1, oIx_c2, limV,
  nup1, nup_le, nup_lt, nup_eq, ← Int.natCast_add,
  posts_some, postg_some, end_rt, end_nx, lp_nx, lp_ct, lp_bk, lp_rt, lp_er, sqq_nx, sqq_rt, sqq_er, sqq_bk, sqq_ct, wO_some, app_w, put_w, frz_o, frzK_some, nlit_le, nlit_lt, nlit_ge, nlit_gt, nlit_eq, nge0, in_tf, all_true, lenset_n, nm4, nm3, nm2, nd4, nd2, eq_n, le_n, mix_ev, 
  Option.map_some, Option.map_none, Option.bind_some, fin_nx, fin_rt, fin_er, List.length_cons, List.length_nil, List.length_map, List.length_append, List.length_range, List.set_cons_zero, List.set_cons_succ, ↓reduceIte, Nat.zero_add, Nat.add_zero, Nat.zero_le, Nat.reduceAdd, Nat.reduceLeDiff, Nat.reduceEqDiff, Int.reduceLT, Int.reduceNeg, Int.reducePow, Option.isNone_none, Option.isNone_some, Option.isSome_none, Option.isSome_some, decide_eq_true_eq, decide_true, decide_false, Bool.not_true, Bool.not_false, Bool.false_eq_true, eq_self, and_self, true_and, and_true, Bool.true_xor, Bool.false_xor])
local macro_rules | `(tactic| walk_at "in") => `(tactic| simp only [rho0, List.map_cons, List.map_nil, List.cons_append, List.nil_append, List.length_cons, List.length_nil, Nat.reduceAdd, Nat.reduceSub, Nat.zero_add, Nat.sub_self, rep0, repS])
local macro_rules | `(tactic| walk_at "evo") => `(tactic| simp (disch := (first | omega | (simp only [List.length_map, List.length_append, List.length_cons, List.length_nil, List.length_range, List.length_set, List.length_replicate]; omega))) only [addT6, addL6, rng1_n, rngO_n, mod_n, ofE_err, bnd_err, ofE_ok, ofE_ok', bnd_ok, bnd_ok', sSeq_ev, sq_nx, sq_rt, sq_er, sq_bk, sq_ct, sIf_ev, sRet_ev, sDrop_ev, sSkip_ev, sRetN_ev, sRaise_ev, sFor_ev, eC_ev, e2_ev, e1_ev, eFn_ev, eCall_ev, aCons_ev, aNil_ev, nNew_ev, eTup_ev, eLst_ev, eIf_ev, eNew_ev, tTru_ev, tNot_ev, tAnd_ev, tOr_ev, tYes_ev, nLc_ev, wipe0, wipeS, tix_ev, set_ev, asg_ev, setO_ev, v0, vS, o0, o0', oS, g0, gS, own0, ownS, setAt0, setAtS, e3_ev, and_ev, or_ev, not_ev, val_ev, asB_b, iSeq_ev, seqOf_l, seqOf_t, iR1_ev, nRng_ev, gT_ev, gs_c, gs_n,
  add_i, sub_i, div_i, mod_i, mul_l, mul_r, neg_i, cmp_i, lt_i, eq_i, ne_i, isN_n, isN_i, isN_l, notN_n, notN_i, len_l, len_t, tru_l, tru_t, tru_b, tup_l, lst_l, lst_t, any_l, all_l, min_i, max_i, oIx_l, oIx_t, oIx_c0, oIx_c1, oIx_c2, limV,
  nup1, nup_le, nup_lt, nup_eq, ← Int.natCast_add,
  posts_some, postg_some, end_rt, end_nx, lp_nx, lp_ct, lp_bk, lp_rt, lp_er, sqq_nx, sqq_rt, sqq_er, sqq_bk, sqq_ct, wO_some, app_w, put_w, frz_o, frzK_some, nlit_le, nlit_lt, nlit_ge, nlit_gt, nlit_eq, nge0, in_tf, all_true, lenset_n, nm4, nm3, nm2, nd4, nd2, eq_n, le_n, mix_ev, 
  Option.map_some, Option.map_none, Option.bind_some, fin_nx, fin_rt, fin_er, List.length_cons, List.length_nil, List.length_map, List.length_append, List.length_range, List.set_cons_zero, List.set_cons_succ, ↓reduceIte, Nat.zero_add, Nat.add_zero, Nat.zero_le, Nat.reduceAdd, Nat.reduceLeDiff, Nat.reduceEqDiff, Int.reduceLT, Int.reduceNeg, Int.reducePow, Option.isNone_none, Option.isNone_some, Option.isSome_none, Option.isSome_some, decide_eq_true_eq, decide_true, decide_false, Bool.not_true, Bool.not_false, Bool.false_eq_true, eq_self, and_self, true_and, and_true, Bool.true_xor, Bool.false_xor])
local macro_rules | `(tactic| walk_at "evh") => `(tactic| simp only [*, ofE_err, bnd_err, ofE_ok, ofE_ok', bnd_ok, bnd_ok', sSeq_ev, sq_nx, sq_rt, sq_er, sq_bk, sq_ct, sIf_ev, sRet_ev, sDrop_ev, sSkip_ev, sRetN_ev, sRaise_ev, sFor_ev, eC_ev, e2_ev, e1_ev, eFn_ev, eCall_ev, aCons_ev, aNil_ev, nNew_ev, eTup_ev, eLst_ev, eIf_ev, eNew_ev, tTru_ev, tNot_ev, tAnd_ev, tOr_ev, tYes_ev, nLc_ev, wipe0, wipeS, tix_ev, set_ev, asg_ev, setO_ev, v0, vS, o0, o0', oS, g0, gS, own0, ownS, setAt0, setAtS, e3_ev, and_ev, or_ev, not_ev, val_ev, asB_b, iSeq_ev, seqOf_l, seqOf_t, iR1_ev, nRng_ev, gT_ev, gs_c, gs_n,
  add_i, sub_i, div_i, mod_i, mul_l, mul_r, neg_i, cmp_i, lt_i, eq_i, ne_i, isN_n, isN_i, isN_l, notN_n, notN_i, len_l, len_t, tru_l, tru_t, tru_b, tup_l, lst_l, lst_t, any_l, all_l, min_i, max_i, oIx_l, oIx_t, oIx_c0, oIx_c1, oIx_c2, limV,
  nup1, nup_le, nup_lt, nup_eq, ← Int.natCast_add,
  posts_some, postg_some, end_rt, end_nx, lp_nx, lp_ct, lp_bk, lp_rt, lp_er, sqq_nx, sqq_rt, sqq_er, sqq_bk, sqq_ct, wO_some, app_w, put_w, frz_o, frzK_some, nlit_le, nlit_lt, nlit_ge, nlit_gt, nlit_eq, nge0, in_tf, all_true, lenset_n, nm4, nm3, nm2, nd4, nd2, eq_n, le_n, mix_ev, 
  Option.map_some, Option.map_none, Option.bind_some, fin_nx, fin_rt, fin_er, List.length_cons, List.length_nil, List.length_map, List.length_append, List.length_range, List.set_cons_zero, List.set_cons_succ, ↓reduceIte, Nat.zero_add, Nat.add_zero, Nat.zero_le, Nat.reduceAdd, Nat.reduceLeDiff, Nat.reduceEqDiff, Int.reduceLT, Int.reduceNeg, Int.reducePow, Option.isNone_none, Option.isNone_some, Option.isSome_none, Option.isSome_some, decide_eq_true_eq, decide_true, decide_false, Bool.not_true, Bool.not_false, Bool.false_eq_true, eq_self, and_self, true_and, and_true, Bool.true_xor, Bool.false_xor])
theorem list4 (w : Nat) (h : w < 4) : ∃ b, oIx (.list [.int 0, .int 1, .int 1, .int 2]) (cN w) = ok (cN b) ∧ b ≤ 2 := by
  match w, h with
  | 0, _ => exact ⟨0, rfl, by decide⟩
  | 1, _ => exact ⟨1, rfl, by decide⟩
  | 2, _ => exact ⟨1, rfl, by decide⟩
  | 3, _ => exact ⟨2, rfl, by decide⟩
theorem get_snoc {a : Type} {xs : List a} {x y : a} {i : Nat} (h : (xs ++ [x])[i]? = some y) : (xs[i]? = some y) ∨ (i = xs.length ∧ y = x) := by
  rw [List.getElem?_append] at h
  split at h
  · exact .inl h
  · rename_i hi
    obtain ⟨h1, h2⟩ := List.getElem?_eq_some_iff.mp h
    rw [List.length_singleton] at h1
    have : i - xs.length = 0 := by omega
    exact .inr ⟨by omega, by rw [← h2]; simp [this]⟩
theorem machine_is (ns : List Int) (k : Int) (most : Nat) (h0 : 0 < most) (h4 : most ≤ 400) : Post (fun d => ∃ M, d = eM M ∧ Valid M ∧ M.length ≤ most ∧ ∀ s ∈ M, s.2.1 ≤ 2) (m__law_machine [.list (ns.map .int), .int k, cN most]) := by
  refine post_run (by rfl) ?_
  walk_at "in"
  rw [b__law_machine]
  have hm := mod_n (i := mixv ns k) h0
  have hml := Nat.mod_lt (mixv ns k) h0
  have hr := rng1_n (n := mixv ns k % most) (by omega)
  walk_at "evh"
  refine posts_sq (posts_for (fun i r => ∃ (bs : List Nat) (j : Option B), r = [some (.d (.list (ns.map .int))), some (.d (.int k)), some (.d (cN most)), some (.own (bs.map cN)), j, none, none, none, none, none, none, none] ∧ Eqn bs.length (i + 1) ∧ bs[0]? = some 0 ∧ ∀ b ∈ bs, b ≤ 2) ?_ ?_ ?_)
  · exact ⟨[0], none, rfl, rfl, rfl, by simp⟩
  · rintro i x r hx ⟨bs, j, rfl, e1, e2, e3⟩
    obtain ⟨y, hy, rfl⟩ := getq_map hx
    obtain ⟨rfl, hyl⟩ := getq_range hy
    have e1' := e1.le
    obtain ⟨b, hb, hb2⟩ := list4 (mixv ns (k + 1 + (y : Nat)) % 4) (Nat.mod_lt _ (by decide))
    have hl : bs.length < 1000000 := by omega
    walk_at "evh"
    exact ⟨bs ++ [b], _, by rw [List.map_append]; rfl, by show _ = _; rw [List.length_append, List.length_singleton]; omega, by rw [List.getElem?_append_left (by omega)]; assumption, fun z hz => by
      rcases List.mem_append.mp hz with q | q
      · exact e3 z q
      · rw [List.mem_singleton.mp q]; exact hb2⟩
  · rintro r ⟨bs, j, rfl, e1, e2, e3⟩
    rw [List.length_map, List.length_range] at e1
    have e1' := e1.le
    have hbl : bs.length ≤ most := by omega
    have hr2 := rng1_n (n := bs.length) (by omega)
    walk_at "evh"
    refine posts_sq (posts_for (fun i r => ∃ (L : List Ste) (j4 j6 j7 j8 j9 j10 j11 : Option B), r = [some (.d (.list (ns.map .int))), some (.d (.int k)), some (.d (cN most)), some (.own (bs.map cN)), j4, some (.own (L.map eSt)), j6, j7, j8, j9, j10, j11] ∧ Eqn (bxs L) (bs.take i) ∧ ∀ s ∈ L, VSt bs s) ?_ ?_ ?_)
    · exact ⟨[], j, none, none, none, none, none, none, rfl, rfl, by simp⟩
    · rintro i x r hx ⟨L, j4, j6, j7, j8, j9, j10, j11, rfl, f1, f2⟩
      obtain ⟨y, hy, rfl⟩ := getq_map hx
      obtain ⟨rfl, hyl⟩ := getq_range hy
      have hb2 : bs[y] ≤ 2 := e3 _ (List.getElem_mem hyl)
      have hr3 := rng1_n (n := bs[y] + 1) (by omega)
      walk_at "evh"
      refine posts_sq (posts_for (fun i r => ∃ (L2 : List Mv) (j8 j9 j10 j11 : Option B), r = [some (.d (.list (ns.map .int))), some (.d (.int k)), some (.d (cN most)), some (.own (bs.map cN)), j4, some (.own (L.map eSt)), some (.d (cN y)), some (.own (L2.map eMv)), j8, j9, j10, j11] ∧ Eqn L2.length i ∧ ∀ c m, L2[c]? = some m → VMv bs (if c < bs[y] then bs[y] else bs[y] + 1) m) ?_ ?_ ?_)
      · exact ⟨[], j8, j9, j10, j11, rfl, rfl, by simp⟩
      · rintro i x r hx ⟨L2, j8, j9, j10, j11, rfl, g1, g2⟩
        obtain ⟨c, hc, rfl⟩ := getq_map hx
        obtain ⟨rfl, hcl⟩ := getq_range hc
        obtain ⟨t, ht, htf, ht1⟩ : ∃ t : Nat, oInt [.bool (decide (c = bs[y]))] = ok (cN t) ∧ Eqn (bs[y] + t) (if c < bs[y] then bs[y] else bs[y] + 1) ∧ t ≤ 1 := by
          by_cases hcb : c = bs[y]
          · rw [decide_eq_true hcb, if_neg (by omega)]; exact ⟨1, rfl, rfl, by decide⟩
          · rw [decide_eq_false hcb, if_pos (by omega)]; exact ⟨0, rfl, rfl, by decide⟩
        walk_at "evh"
        have hlb : (List.range bs.length).length ≤ 1000000 := by rw [List.length_range]; omega
        have h0i : 0 < bs.length := by omega
        have hb0 : bs[0] = 0 := by rw [List.getElem?_eq_getElem h0i] at e2; exact Option.some.inj e2
        obtain ⟨gs, hgs⟩ : ∃ gs, Eqn gs ((List.range bs.length).filter (fun g => decide (bs.getD g 0 ≤ bs[y] + t))) := ⟨_, Eqn.rf⟩
        have hgm : ∀ g ∈ gs, ∃ h : g < bs.length, bs[g] ≤ bs[y] + t := fun g hg => by
          rw [(hgs : _ = _), List.mem_filter, List.mem_range] at hg
          refine ⟨hg.1, ?_⟩
          have := of_decide_eq_true hg.2
          rwa [List.getD_eq_getElem?_getD, List.getElem?_eq_getElem hg.1] at this
        have hg0 : 0 < gs.length := by
          refine List.length_pos_of_mem (a := 0) ?_
          rw [(hgs : _ = _), List.mem_filter, List.mem_range]
          refine ⟨h0i, decide_eq_true ?_⟩
          rw [List.getD_eq_getElem?_getD, List.getElem?_eq_getElem h0i, hb0]; exact Nat.zero_le _
        rw [lc_mapG (enc := cN) (fun g => decide (bs.getD g 0 ≤ bs[y] + t)) cN (List.range bs.length) hlb fun g hg => by
          have hgl := List.mem_range.mp hg
          walk_at "evh"
          rw [List.getD_eq_getElem?_getD, List.getElem?_eq_getElem hgl]
          exact ⟨rfl, fun _ => trivial⟩, ← (hgs : _ = _)]
        have hm4 := mod_n (i := mixv ns (k + 8 + 5 * (y : Nat) + (c : Nat))) hg0
        have hgl := Nat.mod_lt (mixv ns (k + 8 + 5 * (y : Nat) + (c : Nat))) hg0
        obtain ⟨hgb, hgf⟩ := hgm _ (List.getElem_mem hgl)
        obtain ⟨ss, s1, s2, s3, s4⟩ := sources_is ns (k + 40 + 9 * (y : Nat) + 3 * (c : Nat)) (bs[gs[mixv ns (k + 8 + 5 * (y : Nat) + (c : Nat)) % gs.length]]'hgb) (bs[y] + t) hgf (by have := g1.le; omega)
        have g1' := g1.le
        have hl2 : L2.length < 1000000 := by omega
        walk_at "evh"
        refine ⟨L2 ++ [(gs[mixv ns (k + 8 + 5 * (y : Nat) + (c : Nat)) % gs.length], ss)], _, _, _, _, by rw [List.map_append]; rfl, by show _ = _; rw [List.length_append, List.length_singleton]; omega, fun c' m' hm' => ?_⟩
        rcases get_snoc hm' with q | ⟨q, rfl⟩
        · exact g2 _ _ q
        · have : c' = c := by omega
          subst this
          rw [← (htf : _ = _)]
          exact ⟨by rw [s2]; exact List.getElem?_eq_getElem hgb, s4, s3⟩
      · rintro r ⟨L2, j8, j9, j10, j11, rfl, g1, g2⟩
        rw [List.length_map, List.length_range] at g1
        have hLl : L.length < 1000000 := by
          have := congrArg List.length f1
          rw [bxs, List.length_map, List.length_take] at this
          omega
        walk_at "evh"
        have g1' := g1.le
        refine ⟨L ++ [(decide (mixv ns (k + 30 + (y : Nat)) / 4 % 2 = 0), bs[y], L2)], _, _, _, _, _, _, _, by rw [List.map_append]; rfl, ?_, fun s hs => ?_⟩
        · show bxs _ = _
          rw [bxs, List.map_append, show L.map (fun s => s.2.1) = bs.take y from f1, List.take_succ_eq_append_getElem hyl]; rfl
        · rcases List.mem_append.mp hs with q | q
          · exact f2 s q
          · rw [List.mem_singleton.mp q]
            exact ⟨by show bs[y] ≤ 6; omega, g1, g2⟩
    · rintro r ⟨L, j4, j6, j7, j8, j9, j10, j11, rfl, f1, f2⟩
      rw [List.length_map, List.length_range] at f1
      walk_at "ev"
      have hbx : bxs L = bs := by rw [show bxs L = bs.take bs.length from f1, List.take_length]
      have hln : L.length = bs.length := by rw [← hbx, bxs, List.length_map]
      refine ⟨L, rfl, ⟨by omega, by omega, by rw [hbx]; exact e2, by rw [hbx]; exact f2⟩, by omega, fun s hs => e3 _ ?_⟩
      rw [← hbx]
      exact List.mem_map_of_mem hs
end WK

set_option Elab.async false
set_option linter.all false
set_option maxHeartbeats 4000000
set_option maxRecDepth 100000
noncomputable section
namespace WK
open PySem DL L2

local macro_rules | `(tactic| walk_at "ev") => `(tactic| simp only [ofE_err, bnd_err, ofE_ok, ofE_ok', bnd_ok, bnd_ok', sSeq_ev, sq_nx, sq_rt, sq_er, sq_bk, sq_ct, sIf_ev, sRet_ev, sDrop_ev, sSkip_ev, sRetN_ev, sRaise_ev, sFor_ev, eC_ev, e2_ev, e1_ev, eFn_ev, eCall_ev, aCons_ev, aNil_ev, nNew_ev, eTup_ev, eLst_ev, eIf_ev, eNew_ev, tTru_ev, tNot_ev, tAnd_ev, tOr_ev, tYes_ev, nLc_ev, wipe0, wipeS, tix_ev, set_ev, asg_ev, setO_ev, v0, vS, o0, o0', oS, g0, gS, own0, ownS, setAt0, setAtS, e3_ev, and_ev, or_ev, not_ev, val_ev, asB_b, iSeq_ev, seqOf_l, seqOf_t, iR1_ev, nRng_ev, gT_ev, gs_c, gs_n,
  add_i, sub_i, div_i, mod_i, mul_l, mul_r, neg_i, cmp_i, lt_i, eq_i, ne_i, isN_n, isN_i, isN_l, notN_n, notN_i, len_l, len_t, tru_l, tru_t, tru_b, tup_l, lst_l, lst_t, any_l, all_l, min_i, max_i, oIx_l, oIx_t, oIx_c0, oIx_c1, oIx_c2, limV,
  nup1, nup_le, nup_lt, nup_eq, ← Int.natCast_add,
  posts_some, postg_some, end_rt, end_nx, lp_nx, lp_ct, lp_bk, lp_rt, lp_er, sqq_nx, sqq_rt, sqq_er, sqq_bk, sqq_ct, wO_some, app_w, put_w, frz_o, frzK_some, nlit_le, nlit_lt, nlit_ge, nlit_gt, nlit_eq, nge0, in_tf, all_true, lenset_n, nm4, nm3, nm2, nd4, nd2, eq_n, le_n, mix_ev, eMv, eSt, eM, 
  Option.map_some, Option.map_none, Option.bind_some, fin_nx, fin_rt, fin_er, List.length_cons, List.length_nil, List.length_map, List.length_append, List.length_range, List.set_cons_zero, List.set_cons_succ, ↓reduceIte, Nat.zero_add, Nat.add_zero, Nat.zero_le, Nat.reduceAdd, Nat.reduceLeDiff, Nat.reduceEqDiff, Int.reduceLT, Int.reduceNeg, Int.reducePow, Option.isNone_none, Option.isNone_some, Option.isSome_none, Option.isSome_some, decide_eq_true_eq, decide_true, decide_false, Bool.not_true, Bool.not_false, Bool.false_eq_true, eq_self, and_self, true_and, and_true, Bool.true_xor, Bool.false_xor])
local macro_rules | `(tactic| walk_at "in") => `(tactic| simp only [rho0, List.map_cons, List.map_nil, List.cons_append, List.nil_append, List.length_cons, List.length_nil, Nat.reduceAdd, Nat.reduceSub, Nat.zero_add, Nat.sub_self, rep0, repS])
local macro_rules | `(tactic| walk_at "evo") => `(tactic| simp (disch := (first | omega | (simp only [List.length_map, List.length_append, List.length_cons, List.length_nil, List.length_range, List.length_set, List.length_replicate]; omega))) only [addT6, addL6, rng1_n, rngO_n, mod_n, ofE_err, bnd_err, ofE_ok, ofE_ok', bnd_ok, bnd_ok', sSeq_ev, sq_nx, sq_rt, sq_er, sq_bk, sq_ct, sIf_ev, sRet_ev, sDrop_ev, sSkip_ev, sRetN_ev, sRaise_ev, sFor_ev, eC_ev, e2_ev, e1_ev, eFn_ev, eCall_ev, aCons_ev, aNil_ev, nNew_ev, eTup_ev, eLst_ev, eIf_ev, eNew_ev, tTru_ev, tNot_ev, tAnd_ev, tOr_ev, tYes_ev, nLc_ev, wipe0, wipeS, tix_ev, set_ev, asg_ev, setO_ev, v0, vS, o0, o0', oS, g0, gS, own0, ownS, setAt0, setAtS, e3_ev, and_ev, or_ev, not_ev, val_ev, asB_b, iSeq_ev, seqOf_l, seqOf_t, iR1_ev, nRng_ev, gT_ev, gs_c, gs_n,
  add_i, sub_i, div_i, mod_i, mul_l, mul_r, neg_i, cmp_i, lt_i, eq_i, ne_i, isN_n, isN_i, isN_l, notN_n, notN_i, len_l, len_t, tru_l, tru_t, tru_b, tup_l, lst_l, lst_t, any_l, all_l, min_i, max_i, oIx_l, oIx_t, oIx_c0, oIx_c1, oIx_c2, limV,
  nup1, nup_le, nup_lt, nup_eq, ← Int.natCast_add,
  posts_some, postg_some, end_rt, end_nx, lp_nx, lp_ct, lp_bk, lp_rt, lp_er, sqq_nx, sqq_rt, sqq_er, sqq_bk, sqq_ct, wO_some, app_w, put_w, frz_o, frzK_some, nlit_le, nlit_lt, nlit_ge, nlit_gt, nlit_eq, nge0, in_tf, all_true, lenset_n, nm4, nm3, nm2, nd4, nd2, eq_n, le_n, mix_ev, eMv, eSt, eM, 
  Option.map_some, Option.map_none, Option.bind_some, fin_nx, fin_rt, fin_er, List.length_cons, List.length_nil, List.length_map, List.length_append, List.length_range, List.set_cons_zero, List.set_cons_succ, ↓reduceIte, Nat.zero_add, Nat.add_zero, Nat.zero_le, Nat.reduceAdd, Nat.reduceLeDiff, Nat.reduceEqDiff, Int.reduceLT, Int.reduceNeg, Int.reducePow, Option.isNone_none, Option.isNone_some, Option.isSome_none, Option.isSome_some, decide_eq_true_eq, decide_true, decide_false, Bool.not_true, Bool.not_false, Bool.false_eq_true, eq_self, and_self, true_and, and_true, Bool.true_xor, Bool.false_xor])
local macro_rules | `(tactic| walk_at "evh") => `(tactic| simp only [*, ofE_err, bnd_err, ofE_ok, ofE_ok', bnd_ok, bnd_ok', sSeq_ev, sq_nx, sq_rt, sq_er, sq_bk, sq_ct, sIf_ev, sRet_ev, sDrop_ev, sSkip_ev, sRetN_ev, sRaise_ev, sFor_ev, eC_ev, e2_ev, e1_ev, eFn_ev, eCall_ev, aCons_ev, aNil_ev, nNew_ev, eTup_ev, eLst_ev, eIf_ev, eNew_ev, tTru_ev, tNot_ev, tAnd_ev, tOr_ev, tYes_ev, nLc_ev, wipe0, wipeS, tix_ev, set_ev, asg_ev, setO_ev, v0, vS, o0, o0', oS, g0, gS, own0, ownS, setAt0, setAtS, e3_ev, and_ev, or_ev, not_ev, val_ev, asB_b, iSeq_ev, seqOf_l, seqOf_t, iR1_ev, nRng_ev, gT_ev, gs_c, gs_n,
  add_i, sub_i, div_i, mod_i, mul_l, mul_r, neg_i, cmp_i, lt_i, eq_i, ne_i, isN_n, isN_i, isN_l, notN_n, notN_i, len_l, len_t, tru_l, tru_t, tru_b, tup_l, lst_l, lst_t, any_l, all_l, min_i, max_i, oIx_l, oIx_t, oIx_c0, oIx_c1, oIx_c2, limV,
  nup1, nup_le, nup_lt, nup_eq, ← Int.natCast_add,
  posts_some, postg_some, end_rt, end_nx, lp_nx, lp_ct, lp_bk, lp_rt, lp_er, sqq_nx, sqq_rt, sqq_er, sqq_bk, sqq_ct, wO_some, app_w, put_w, frz_o, frzK_some, nlit_le, nlit_lt, nlit_ge, nlit_gt, nlit_eq, nge0, in_tf, all_true, lenset_n, nm4, nm3, nm2, nd4, nd2, eq_n, le_n, mix_ev, eMv, eSt, eM, 
  Option.map_some, Option.map_none, Option.bind_some, fin_nx, fin_rt, fin_er, List.length_cons, List.length_nil, List.length_map, List.length_append, List.length_range, List.set_cons_zero, List.set_cons_succ, ↓reduceIte, Nat.zero_add, Nat.add_zero, Nat.zero_le, Nat.reduceAdd, Nat.reduceLeDiff, Nat.reduceEqDiff, Int.reduceLT, Int.reduceNeg, Int.reducePow, Option.isNone_none, Option.isNone_some, Option.isSome_none, Option.isSome_some, decide_eq_true_eq, decide_true, decide_false, Bool.not_true, Bool.not_false, Bool.false_eq_true, eq_self, and_self, true_and, and_true, Bool.true_xor, Bool.false_xor])
theorem VSt.goal {M : Mach} {s : Ste} (h : VSt (bxs M) s) {c : Nat} {m : Mv} (hm : s.2.2[c]? = some m) : ∃ hl : m.1 < M.length, m.2.length = (M[m.1]'hl).2.1 := by
  have := (h.each c m hm).goal
  rw [bxs, List.getElem?_map] at this
  cases e : M[m.1]? with
  | none => rw [e] at this; cases this
  | some t =>
    obtain ⟨hl, q⟩ := List.getElem?_eq_some_iff.mp e
    rw [e] at this
    refine ⟨hl, ?_⟩
    rw [q]
    exact (Option.some.inj this).symm
theorem look_state_is (M : Mach) (s : Ste) (h : VSt (bxs M) s) (hM : M.length ≤ 400) (hb : ∀ s ∈ M, s.2.1 ≤ 6) : m_look_state [eM M, eSt s] = ok .none := by
  have key : Post (fun d => d = .none) (m_look_state [eM M, eSt s]) := by
    refine post_run (by rfl) ?_
    walk_at "in"
    rw [b_look_state]
    have hmv := h.moves
    have hbx := h.boxes
    have hr := rng1_n (n := s.2.1 + 1) (by omega)
    walk_at "evh"
    refine posts_for (fun i r => ∃ (j5 j6 j7 j8 j9 : Option B), r = [some (.d (.list (M.map eSt))), some (.d (.tuple [.bool s.1, cN s.2.1, .list (s.2.2.map eMv)])), some (.d (.bool s.1)), some (.d (cN s.2.1)), some (.d (.list (s.2.2.map eMv))), j5, j6, j7, j8, j9]) ?_ ?_ ?_
    · exact ⟨none, none, none, none, none, rfl⟩
    · rintro i x r hx ⟨j5, j6, j7, j8, j9, rfl⟩
      obtain ⟨y, hy, rfl⟩ := getq_map hx
      obtain ⟨rfl, hyl⟩ := getq_range hy
      have hyl' : y < s.2.2.length := by omega
      obtain ⟨hg, hsl⟩ := h.goal (List.getElem?_eq_getElem hyl')
      have hv := h.each y _ (List.getElem?_eq_getElem hyl')
      have hs6 := hb _ (List.getElem_mem hg)
      have hsrc : (s.2.2[y]'hyl').2.length ≤ 1000000 := by omega
      have hs4 : (M[(s.2.2[y]'hyl').1]'hg).2.1 < 4000 := by omega
      have hnod := hv.nod
      by_cases hc : y < s.2.1
      · have hlc := hv.src
        rw [if_pos hc] at hlc
        walk_at "evh"
        rw [lc_allG (enc := cN) (fun _ => .bool true) _ hsrc fun z hz => by
          have := hlc z hz
          walk_at "evh"]
        walk_at "evh"
        exact ⟨_, _, _, _, _, rfl⟩
      · have hlc := hv.src
        rw [if_neg hc] at hlc
        walk_at "evh"
        rw [lc_allG (enc := cN) (fun _ => .bool true) _ hsrc fun z hz => by
          have := hlc z hz
          walk_at "evh"]
        walk_at "evh"
        exact ⟨_, _, _, _, _, rfl⟩
    · rintro r ⟨j5, j6, j7, j8, j9, rfl⟩
      walk_at "evh"
  obtain ⟨d, e, rfl⟩ := key
  exact e

theorem look_is (M : Mach) (h : Valid M) : m_look_machine [eM M] = ok .none := by
  have key : Post (fun d => d = .none) (m_look_machine [eM M]) := by
    refine post_run (by rfl) ?_
    walk_at "in"
    rw [b_look_machine]
    have h1 : 1 ≤ M.length := h.pos
    have h2 := h.le
    have h3 : oIx (.list (M.map eSt)) (.int 0) = ok (eSt (M[0]'h.pos)) := oIx_list eSt M 0 _ (List.getElem?_eq_getElem h.pos)
    have h4 : (M[0]'h.pos).2.1 = 0 := by
      have := h.first
      rw [bxs, List.getElem?_map, List.getElem?_eq_getElem h.pos] at this
      exact Option.some.inj this
    walk_at "evh"
    refine posts_for (fun i r => ∃ (j1 : Option B), r = [some (.d (.list (M.map eSt))), j1]) ?_ ?_ ?_
    · exact ⟨_, rfl⟩
    · rintro i x r hx ⟨j1, rfl⟩
      obtain ⟨s, hs, rfl⟩ := getq_map hx
      have hl := look_state_is M s (h.each s (List.mem_of_getElem? hs)) h.le fun s hs => (h.each s hs).boxes
      have hs2 : eSt s = .tuple [.bool s.1, cN s.2.1, .list (s.2.2.map eMv)] := rfl
      unfold eM at hl
      rw [hs2] at hl ⊢
      walk_at "evh"
      exact ⟨_, rfl⟩
    · rintro r ⟨j1, rfl⟩
      walk_at "evh"
  obtain ⟨d, e, rfl⟩ := key
  exact e
abbrev Cfg := Nat × List Nat
def eCf (q : Cfg) : PyData := .tuple [cN q.1, .tuple (q.2.map cN)]
end WK

set_option Elab.async false
set_option linter.all false
set_option maxHeartbeats 4000000
set_option maxRecDepth 100000
noncomputable section
namespace WK
open PySem DL L2

local macro_rules | `(tactic| walk_at "ev") => `(tactic| simp only [ofE_err, bnd_err, ofE_ok, ofE_ok', bnd_ok, bnd_ok', sSeq_ev, sq_nx, sq_rt, sq_er, sq_bk, sq_ct, sIf_ev, sRet_ev, sDrop_ev, sSkip_ev, sRetN_ev, sRaise_ev, sFor_ev, eC_ev, e2_ev, e1_ev, eFn_ev, eCall_ev, aCons_ev, aNil_ev, nNew_ev, eTup_ev, eLst_ev, eIf_ev, eNew_ev, tTru_ev, tNot_ev, tAnd_ev, tOr_ev, tYes_ev, nLc_ev, wipe0, wipeS, tix_ev, set_ev, asg_ev, setO_ev, v0, vS, o0, o0', oS, g0, gS, own0, ownS, setAt0, setAtS, e3_ev, and_ev, or_ev, not_ev, val_ev, asB_b, iSeq_ev, seqOf_l, seqOf_t, iR1_ev, nRng_ev, gT_ev, gs_c, gs_n,
  add_i, sub_i, div_i, mod_i, mul_l, mul_r, neg_i, cmp_i, lt_i, eq_i, ne_i, isN_n, isN_i, isN_l, notN_n, notN_i, len_l, len_t, tru_l, tru_t, tru_b, tup_l, lst_l, lst_t, any_l, all_l, min_i, max_i, oIx_l, oIx_t, oIx_c0, oIx_c1, oIx_c2, limV,
  nup1, nup_le, nup_lt, nup_eq, ← Int.natCast_add,
  posts_some, postg_some, end_rt, end_nx, lp_nx, lp_ct, lp_bk, lp_rt, lp_er, sqq_nx, sqq_rt, sqq_er, sqq_bk, sqq_ct, wO_some, app_w, put_w, frz_o, frzK_some, nlit_le, nlit_lt, nlit_ge, nlit_gt, nlit_eq, nge0, in_tf, all_true, lenset_n, nm4, nm3, nm2, nd4, nd2, eq_n, le_n, mix_ev, eMv, eSt, eM, eCf, gT_ev', 
  Option.map_some, Option.map_none, Option.bind_some, fin_nx, fin_rt, fin_er, List.length_cons, List.length_nil, List.length_map, List.length_append, List.length_range, List.set_cons_zero, List.set_cons_succ, ↓reduceIte, Nat.zero_add, Nat.add_zero, Nat.zero_le, Nat.reduceAdd, Nat.reduceLeDiff, Nat.reduceEqDiff, Int.reduceLT, Int.reduceNeg, Int.reducePow, Option.isNone_none, Option.isNone_some, Option.isSome_none, Option.isSome_some, decide_eq_true_eq, decide_true, decide_false, Bool.not_true, Bool.not_false, Bool.false_eq_true, eq_self, and_self, true_and, and_true, Bool.true_xor, Bool.false_xor])
local macro_rules | `(tactic| walk_at "in") => `(tactic| simp only [rho0, List.map_cons, List.map_nil, List.cons_append, List.nil_append, List.length_cons, List.length_nil, Nat.reduceAdd, Nat.reduceSub, Nat.zero_add, Nat.sub_self, rep0, repS])
local macro_rules | `(tactic| walk_at "evo") => `(tactic| simp (disch := (first | omega | (simp only [List.length_map, List.length_append, List.length_cons, List.length_nil, List.length_range, List.length_set, List.length_replicate]; omega))) only [addT6, addL6, rng1_n, rngO_n, mod_n, ofE_err, bnd_err, ofE_ok, ofE_ok', bnd_ok, bnd_ok', sSeq_ev, sq_nx, sq_rt, sq_er, sq_bk, sq_ct, sIf_ev, sRet_ev, sDrop_ev, sSkip_ev, sRetN_ev, sRaise_ev, sFor_ev, eC_ev, e2_ev, e1_ev, eFn_ev, eCall_ev, aCons_ev, aNil_ev, nNew_ev, eTup_ev, eLst_ev, eIf_ev, eNew_ev, tTru_ev, tNot_ev, tAnd_ev, tOr_ev, tYes_ev, nLc_ev, wipe0, wipeS, tix_ev, set_ev, asg_ev, setO_ev, v0, vS, o0, o0', oS, g0, gS, own0, ownS, setAt0, setAtS, e3_ev, and_ev, or_ev, not_ev, val_ev, asB_b, iSeq_ev, seqOf_l, seqOf_t, iR1_ev, nRng_ev, gT_ev, gs_c, gs_n,
  add_i, sub_i, div_i, mod_i, mul_l, mul_r, neg_i, cmp_i, lt_i, eq_i, ne_i, isN_n, isN_i, isN_l, notN_n, notN_i, len_l, len_t, tru_l, tru_t, tru_b, tup_l, lst_l, lst_t, any_l, all_l, min_i, max_i, oIx_l, oIx_t, oIx_c0, oIx_c1, oIx_c2, limV,
  nup1, nup_le, nup_lt, nup_eq, ← Int.natCast_add,
  posts_some, postg_some, end_rt, end_nx, lp_nx, lp_ct, lp_bk, lp_rt, lp_er, sqq_nx, sqq_rt, sqq_er, sqq_bk, sqq_ct, wO_some, app_w, put_w, frz_o, frzK_some, nlit_le, nlit_lt, nlit_ge, nlit_gt, nlit_eq, nge0, in_tf, all_true, lenset_n, nm4, nm3, nm2, nd4, nd2, eq_n, le_n, mix_ev, eMv, eSt, eM, eCf, gT_ev', 
  Option.map_some, Option.map_none, Option.bind_some, fin_nx, fin_rt, fin_er, List.length_cons, List.length_nil, List.length_map, List.length_append, List.length_range, List.set_cons_zero, List.set_cons_succ, ↓reduceIte, Nat.zero_add, Nat.add_zero, Nat.zero_le, Nat.reduceAdd, Nat.reduceLeDiff, Nat.reduceEqDiff, Int.reduceLT, Int.reduceNeg, Int.reducePow, Option.isNone_none, Option.isNone_some, Option.isSome_none, Option.isSome_some, decide_eq_true_eq, decide_true, decide_false, Bool.not_true, Bool.not_false, Bool.false_eq_true, eq_self, and_self, true_and, and_true, Bool.true_xor, Bool.false_xor])
local macro_rules | `(tactic| walk_at "evh") => `(tactic| simp only [*, ofE_err, bnd_err, ofE_ok, ofE_ok', bnd_ok, bnd_ok', sSeq_ev, sq_nx, sq_rt, sq_er, sq_bk, sq_ct, sIf_ev, sRet_ev, sDrop_ev, sSkip_ev, sRetN_ev, sRaise_ev, sFor_ev, eC_ev, e2_ev, e1_ev, eFn_ev, eCall_ev, aCons_ev, aNil_ev, nNew_ev, eTup_ev, eLst_ev, eIf_ev, eNew_ev, tTru_ev, tNot_ev, tAnd_ev, tOr_ev, tYes_ev, nLc_ev, wipe0, wipeS, tix_ev, set_ev, asg_ev, setO_ev, v0, vS, o0, o0', oS, g0, gS, own0, ownS, setAt0, setAtS, e3_ev, and_ev, or_ev, not_ev, val_ev, asB_b, iSeq_ev, seqOf_l, seqOf_t, iR1_ev, nRng_ev, gT_ev, gs_c, gs_n,
  add_i, sub_i, div_i, mod_i, mul_l, mul_r, neg_i, cmp_i, lt_i, eq_i, ne_i, isN_n, isN_i, isN_l, notN_n, notN_i, len_l, len_t, tru_l, tru_t, tru_b, tup_l, lst_l, lst_t, any_l, all_l, min_i, max_i, oIx_l, oIx_t, oIx_c0, oIx_c1, oIx_c2, limV,
  nup1, nup_le, nup_lt, nup_eq, ← Int.natCast_add,
  posts_some, postg_some, end_rt, end_nx, lp_nx, lp_ct, lp_bk, lp_rt, lp_er, sqq_nx, sqq_rt, sqq_er, sqq_bk, sqq_ct, wO_some, app_w, put_w, frz_o, frzK_some, nlit_le, nlit_lt, nlit_ge, nlit_gt, nlit_eq, nge0, in_tf, all_true, lenset_n, nm4, nm3, nm2, nd4, nd2, eq_n, le_n, mix_ev, eMv, eSt, eM, eCf, gT_ev', 
  Option.map_some, Option.map_none, Option.bind_some, fin_nx, fin_rt, fin_er, List.length_cons, List.length_nil, List.length_map, List.length_append, List.length_range, List.set_cons_zero, List.set_cons_succ, ↓reduceIte, Nat.zero_add, Nat.add_zero, Nat.zero_le, Nat.reduceAdd, Nat.reduceLeDiff, Nat.reduceEqDiff, Int.reduceLT, Int.reduceNeg, Int.reducePow, Option.isNone_none, Option.isNone_some, Option.isSome_none, Option.isSome_some, decide_eq_true_eq, decide_true, decide_false, Bool.not_true, Bool.not_false, Bool.false_eq_true, eq_self, and_self, true_and, and_true, Bool.true_xor, Bool.false_xor])
theorem tix_n {a : Nat} {held : List Nat} (h : a ∈ held) : tixO (.tuple (held.map cN)) (cN a) = ok (cN (held.idxOf a)) := by
  have h1 := (enc_tup enc_nat).shaped (x := held) (by omega)
  have h2 := enc_nat.shaped (x := a) (by omega)
  unfold tixO
  simp only
  rw [if_pos ⟨h1, h2⟩, firstAt_enc enc_nat, if_pos h]
theorem in_tn {neg : Bool} {a : Nat} {held : List Nat} : oIn neg (cN a) (.tuple (held.map cN)) = ok (.bool (neg ^^ decide (a ∈ held))) := oIn_tup enc_nat (by omega) neg a held
theorem in_ln {neg : Bool} {a : Nat} {held : List Nat} : oIn neg (cN a) (.list (held.map cN)) = ok (.bool (neg ^^ decide (a ∈ held))) := oIn_list enc_nat (by omega) neg a held
theorem snoc_t {a : Nat} {held : List Nat} (h : held.length < 1000000) : oAdd (.tuple (held.map cN)) (.tuple [cN a]) = ok (.tuple ((held ++ [a]).map cN)) := cat_t (f := cN) (xs := held) (ys := [a]) (by rw [lim_is]; exact h)
theorem snoc_l {a : Nat} {held : List Nat} (h : held.length < 1000000) : oAdd (.list (held.map cN)) (.list [cN a]) = ok (.list ((held ++ [a]).map cN)) := cat_l (f := cN) (xs := held) (ys := [a]) (by rw [lim_is]; exact h)

/-! ### configurations -/
def stA (M : Mach) (q : Nat) : Ste := M.getD q (false, 0, [])
def mvA (M : Mach) (q c : Nat) : Mv := (stA M q).2.2.getD c (0, [])
def step (M : Mach) (q : Cfg) (a : Nat) : Cfg := ((mvA M q.1 (q.2.idxOf a)).1, (mvA M q.1 (q.2.idxOf a)).2.map fun x => (q.2 ++ [a]).getD x 0)
structure VC (M : Mach) (q : Cfg) : Prop where
  st : q.1 < M.length
  len : q.2.length = (stA M q.1).2.1
  nod : q.2.Nodup
theorem stA_mem {M : Mach} {q : Nat} (h : q < M.length) : stA M q ∈ M ∧ M[q]? = some (stA M q) ∧ M[q] = stA M q := by
  have : stA M q = M[q] := by unfold stA; rw [List.getD_eq_getElem?_getD, List.getElem?_eq_getElem h]; rfl
  rw [this]
  exact ⟨List.getElem_mem h, List.getElem?_eq_getElem h, rfl⟩
theorem idx_le {a : Nat} {held : List Nat} : held.idxOf a ≤ held.length ∧ (a ∈ held → held.idxOf a < held.length) := by
  refine ⟨List.idxOf_le_length, fun h => List.idxOf_lt_length_iff.mpr h⟩
theorem mvA_ok {M : Mach} (V : Valid M) {q : Nat} (hq : q < M.length) {c : Nat} (hc : c ≤ (stA M q).2.1) : (stA M q).2.2[c]? = some (mvA M q c) ∧ VMv (bxs M) (if c < (stA M q).2.1 then (stA M q).2.1 else (stA M q).2.1 + 1) (mvA M q c) := by
  have hv := V.each _ (stA_mem hq).1
  have hl : c < (stA M q).2.2.length := by have := hv.moves; omega
  have e : (stA M q).2.2[c]? = some (mvA M q c) := by
    unfold mvA; rw [List.getD_eq_getElem?_getD, List.getElem?_eq_getElem hl]; rfl
  exact ⟨e, hv.each c _ e⟩
theorem VMv.lt {M : Mach} {f : Nat} {m : Mv} (h : VMv (bxs M) f m) : m.1 < M.length ∧ m.2.length = (stA M m.1).2.1 := by
  have := h.goal
  rw [bxs, List.getElem?_map] at this
  cases e : M[m.1]? with
  | none => rw [e] at this; cases this
  | some t =>
    obtain ⟨hl, q⟩ := List.getElem?_eq_some_iff.mp e
    have e2 := (stA_mem hl).2.1
    rw [e] at this e2
    refine ⟨hl, ?_⟩
    rw [← Option.some.inj e2]
    exact (Option.some.inj this).symm
theorem getD_inj {xs : List Nat} (h : xs.Nodup) {i j : Nat} (hi : i < xs.length) (hj : j < xs.length) (e : xs.getD i 0 = xs.getD j 0) : i = j := by
  rw [List.getD_eq_getElem?_getD, List.getD_eq_getElem?_getD, List.getElem?_eq_getElem hi, List.getElem?_eq_getElem hj] at e
  exact (List.getElem_inj h).mp e
theorem nodup_map_on {a b : Type} {f : a → b} : ∀ {xs : List a}, (∀ x ∈ xs, ∀ y ∈ xs, f x = f y → x = y) → xs.Nodup → (xs.map f).Nodup
  | [], _, _ => List.nodup_nil
  | x :: xs, hf, h => by
    rw [List.nodup_cons] at h
    rw [List.map_cons, List.nodup_cons]
    refine ⟨fun q => ?_, nodup_map_on (fun y hy z hz => hf y (List.mem_cons_of_mem _ hy) z (List.mem_cons_of_mem _ hz)) h.2⟩
    obtain ⟨y, hy, e⟩ := List.mem_map.mp q
    have := hf y (List.mem_cons_of_mem _ hy) x List.mem_cons_self e
    rw [this] at hy
    exact h.1 hy
theorem VC.step {M : Mach} (V : Valid M) {q : Cfg} (h : VC M q) (a : Nat) : VC M (step M q a) := by
  have hc : q.2.idxOf a ≤ (stA M q.1).2.1 := by rw [← h.len]; exact idx_le.1
  obtain ⟨_, hm⟩ := mvA_ok V h.st hc
  refine ⟨hm.lt.1, ?_, ?_⟩
  · show (List.map _ _).length = _
    rw [List.length_map]; exact hm.lt.2
  · show (List.map _ _).Nodup
    have hs := hm.src
    rw [← h.len] at hs
    by_cases ha : a ∈ q.2
    · have hi := (idx_le (held := q.2)).2 ha
      rw [if_pos hi] at hs
      refine nodup_map_on (fun x hx y hy e => ?_) hm.nod
      have hx' := hs x hx
      have hy' := hs y hy
      have key : ∀ z, z < q.2.length → (q.2 ++ [a]).getD z 0 = q.2.getD z 0 := fun z hz => by
        rw [List.getD_eq_getElem?_getD, List.getD_eq_getElem?_getD, List.getElem?_append_left hz]
      rw [key x hx', key y hy'] at e
      exact getD_inj h.nod hx' hy' e
    · have hi : q.2.idxOf a = q.2.length := List.idxOf_eq_length ha
      rw [hi, if_neg (Nat.lt_irrefl _)] at hs
      have hn : (q.2 ++ [a]).Nodup := List.nodup_append.mpr ⟨h.nod, by simp, fun x hx y hy e => by
        rw [List.mem_singleton] at hy
        rw [e, hy] at hx; exact ha hx⟩
      rw [← hi] at hs
      refine nodup_map_on (fun x hx y hy e => ?_) hm.nod
      have hx' := hs x hx
      have hy' := hs y hy
      rw [hi] at hx' hy'
      exact getD_inj hn (by rw [List.length_append]; exact hx') (by rw [List.length_append]; exact hy') e
theorem stepped_is {M : Mach} (V : Valid M) {q : Cfg} (h : VC M q) (a : Nat) : m_stepped [eM M, eCf q, cN a] = ok (eCf (step M q a)) := by
  have key : Post (fun d => d = eCf (step M q a)) (m_stepped [eM M, eCf q, cN a]) := by
    refine post_run (by rfl) ?_
    walk_at "in"
    rw [b_stepped, eCf]
    have h1 : oIx (.list (M.map eSt)) (cN q.1) = ok (eSt (stA M q.1)) := oIx_list eSt M q.1 _ (stA_mem h.st).2.1
    have hc : q.2.idxOf a ≤ (stA M q.1).2.1 := by rw [← h.len]; exact idx_le.1
    obtain ⟨e1, hm⟩ := mvA_ok V h.st hc
    have h2 : oIx (.list ((stA M q.1).2.2.map eMv)) (cN (q.2.idxOf a)) = ok (eMv (mvA M q.1 (q.2.idxOf a))) := oIx_list eMv _ _ _ e1
    have hb := (V.each _ (stA_mem h.st).1).boxes
    have hl : q.2.length < 1000000 := by have := h.len; omega
    have h3 := snoc_t (a := a) hl
    have h4 := in_tn (neg := false) (a := a) (held := q.2)
    have hsl : (mvA M q.1 (q.2.idxOf a)).2.length ≤ 1000000 := by
      have := (V.each _ (stA_mem hm.lt.1).1).boxes
      have := hm.lt.2
      omega
    have hsr : ∀ x ∈ (mvA M q.1 (q.2.idxOf a)).2, x < q.2.length + 1 := fun x hx => by
      have := hm.src x hx
      have hh := h.len
      split at this <;> omega
    have hlc : ∀ x ∈ (mvA M q.1 (q.2.idxOf a)).2, oIx (.tuple ((q.2 ++ [a]).map cN)) (cN x) = ok (cN ((q.2 ++ [a]).getD x 0)) := fun x hx => by
      refine oIx_tup cN _ x _ ?_
      rw [List.getD_eq_getElem?_getD, List.getElem?_eq_getElem (by rw [List.length_append]; exact hsr x hx)]; rfl
    by_cases ha : a ∈ q.2
    · have h5 := tix_n ha
      walk_at "evh"
      rw [lc_allG (enc := cN) (fun x => cN ((q.2 ++ [a]).getD x 0)) _ hsl fun z hz => by
        have := hlc z hz
        walk_at "evh"]
      walk_at "evh"
      rw [step, List.map_map]; rfl
    · have h5 : q.2.idxOf a = (stA M q.1).2.1 := by rw [← h.len]; exact List.idxOf_eq_length ha
      rw [h5] at h2 hlc hsl
      walk_at "evh"
      rw [lc_allG (enc := cN) (fun x => cN ((q.2 ++ [a]).getD x 0)) _ hsl fun z hz => by
        have := hlc z hz
        walk_at "evh"]
      walk_at "evh"
      rw [step, List.map_map, h5]; rfl
  obtain ⟨d, e, rfl⟩ := key
  exact e
def eW (w : List Nat) : PyData := .list (w.map cN)
def eCl (q : Cfg) : PyData := .tuple [cN q.1, .list (q.2.map cN)]
abbrev ICfg := Nat × List Int
def eIC (q : ICfg) : PyData := .tuple [cN q.1, .tuple (q.2.map .int)]
def eIL (q : ICfg) : PyData := .tuple [cN q.1, .list (q.2.map .int)]
end WK

set_option Elab.async false
set_option linter.all false
set_option maxHeartbeats 4000000
set_option maxRecDepth 100000
noncomputable section
namespace WK
open PySem DL L2

local macro_rules | `(tactic| walk_at "ev") => `(tactic| simp only [ofE_err, bnd_err, ofE_ok, ofE_ok', bnd_ok, bnd_ok', sSeq_ev, sq_nx, sq_rt, sq_er, sq_bk, sq_ct, sIf_ev, sRet_ev, sDrop_ev, sSkip_ev, sRetN_ev, sRaise_ev, sFor_ev, eC_ev, e2_ev, e1_ev, eFn_ev, eCall_ev, aCons_ev, aNil_ev, nNew_ev, eTup_ev, eLst_ev, eIf_ev, eNew_ev, tTru_ev, tNot_ev, tAnd_ev, tOr_ev, tYes_ev, nLc_ev, wipe0, wipeS, tix_ev, set_ev, asg_ev, setO_ev, v0, vS, o0, o0', oS, g0, gS, own0, ownS, setAt0, setAtS, e3_ev, and_ev, or_ev, not_ev, val_ev, asB_b, iSeq_ev, seqOf_l, seqOf_t, iR1_ev, nRng_ev, gT_ev, gs_c, gs_n,
  add_i, sub_i, div_i, mod_i, mul_l, mul_r, neg_i, cmp_i, lt_i, eq_i, ne_i, isN_n, isN_i, isN_l, notN_n, notN_i, len_l, len_t, tru_l, tru_t, tru_b, tup_l, lst_l, lst_t, any_l, all_l, min_i, max_i, oIx_l, oIx_t, oIx_c0, oIx_c1, oIx_c2, limV,
  nup1, nup_le, nup_lt, nup_eq, ← Int.natCast_add,
  posts_some, postg_some, end_rt, end_nx, lp_nx, lp_ct, lp_bk, lp_rt, lp_er, sqq_nx, sqq_rt, sqq_er, sqq_bk, sqq_ct, wO_some, app_w, put_w, frz_o, frzK_some, nlit_le, nlit_lt, nlit_ge, nlit_gt, nlit_eq, nge0, in_tf, all_true, lenset_n, nm4, nm3, nm2, nd4, nd2, eq_n, le_n, eMv, eSt, eM, eIC, gT_ev', 
  Option.map_some, Option.map_none, Option.bind_some, fin_nx, fin_rt, fin_er, List.length_cons, List.length_nil, List.length_map, List.length_append, List.length_range, List.set_cons_zero, List.set_cons_succ, ↓reduceIte, Nat.zero_add, Nat.add_zero, Nat.zero_le, Nat.reduceAdd, Nat.reduceLeDiff, Nat.reduceEqDiff, Int.reduceLT, Int.reduceNeg, Int.reducePow, Option.isNone_none, Option.isNone_some, Option.isSome_none, Option.isSome_some, decide_eq_true_eq, decide_true, decide_false, Bool.not_true, Bool.not_false, Bool.false_eq_true, eq_self, and_self, true_and, and_true, Bool.true_xor, Bool.false_xor])
local macro_rules | `(tactic| walk_at "in") => `(tactic| simp only [rho0, List.map_cons, List.map_nil, List.cons_append, List.nil_append, List.length_cons, List.length_nil, Nat.reduceAdd, Nat.reduceSub, Nat.zero_add, Nat.sub_self, rep0, repS])
local macro_rules | `(tactic| walk_at "evo") => `(tactic| simp (disch := (first | omega | (simp only [List.length_map, List.length_append, List.length_cons, List.length_nil, List.length_range, List.length_set, List.length_replicate]; omega))) only [addT6, addL6, rng1_n, rngO_n, mod_n, ofE_err, bnd_err, ofE_ok, ofE_ok', bnd_ok, bnd_ok', sSeq_ev, sq_nx, sq_rt, sq_er, sq_bk, sq_ct, sIf_ev, sRet_ev, sDrop_ev, sSkip_ev, sRetN_ev, sRaise_ev, sFor_ev, eC_ev, e2_ev, e1_ev, eFn_ev, eCall_ev, aCons_ev, aNil_ev, nNew_ev, eTup_ev, eLst_ev, eIf_ev, eNew_ev, tTru_ev, tNot_ev, tAnd_ev, tOr_ev, tYes_ev, nLc_ev, wipe0, wipeS, tix_ev, set_ev, asg_ev, setO_ev, v0, vS, o0, o0', oS, g0, gS, own0, ownS, setAt0, setAtS, e3_ev, and_ev, or_ev, not_ev, val_ev, asB_b, iSeq_ev, seqOf_l, seqOf_t, iR1_ev, nRng_ev, gT_ev, gs_c, gs_n,
  add_i, sub_i, div_i, mod_i, mul_l, mul_r, neg_i, cmp_i, lt_i, eq_i, ne_i, isN_n, isN_i, isN_l, notN_n, notN_i, len_l, len_t, tru_l, tru_t, tru_b, tup_l, lst_l, lst_t, any_l, all_l, min_i, max_i, oIx_l, oIx_t, oIx_c0, oIx_c1, oIx_c2, limV,
  nup1, nup_le, nup_lt, nup_eq, ← Int.natCast_add,
  posts_some, postg_some, end_rt, end_nx, lp_nx, lp_ct, lp_bk, lp_rt, lp_er, sqq_nx, sqq_rt, sqq_er, sqq_bk, sqq_ct, wO_some, app_w, put_w, frz_o, frzK_some, nlit_le, nlit_lt, nlit_ge, nlit_gt, nlit_eq, nge0, in_tf, all_true, lenset_n, nm4, nm3, nm2, nd4, nd2, eq_n, le_n, eMv, eSt, eM, eIC, gT_ev', 
  Option.map_some, Option.map_none, Option.bind_some, fin_nx, fin_rt, fin_er, List.length_cons, List.length_nil, List.length_map, List.length_append, List.length_range, List.set_cons_zero, List.set_cons_succ, ↓reduceIte, Nat.zero_add, Nat.add_zero, Nat.zero_le, Nat.reduceAdd, Nat.reduceLeDiff, Nat.reduceEqDiff, Int.reduceLT, Int.reduceNeg, Int.reducePow, Option.isNone_none, Option.isNone_some, Option.isSome_none, Option.isSome_some, decide_eq_true_eq, decide_true, decide_false, Bool.not_true, Bool.not_false, Bool.false_eq_true, eq_self, and_self, true_and, and_true, Bool.true_xor, Bool.false_xor])
local macro_rules | `(tactic| walk_at "evh") => `(tactic| simp only [*, ofE_err, bnd_err, ofE_ok, ofE_ok', bnd_ok, bnd_ok', sSeq_ev, sq_nx, sq_rt, sq_er, sq_bk, sq_ct, sIf_ev, sRet_ev, sDrop_ev, sSkip_ev, sRetN_ev, sRaise_ev, sFor_ev, eC_ev, e2_ev, e1_ev, eFn_ev, eCall_ev, aCons_ev, aNil_ev, nNew_ev, eTup_ev, eLst_ev, eIf_ev, eNew_ev, tTru_ev, tNot_ev, tAnd_ev, tOr_ev, tYes_ev, nLc_ev, wipe0, wipeS, tix_ev, set_ev, asg_ev, setO_ev, v0, vS, o0, o0', oS, g0, gS, own0, ownS, setAt0, setAtS, e3_ev, and_ev, or_ev, not_ev, val_ev, asB_b, iSeq_ev, seqOf_l, seqOf_t, iR1_ev, nRng_ev, gT_ev, gs_c, gs_n,
  add_i, sub_i, div_i, mod_i, mul_l, mul_r, neg_i, cmp_i, lt_i, eq_i, ne_i, isN_n, isN_i, isN_l, notN_n, notN_i, len_l, len_t, tru_l, tru_t, tru_b, tup_l, lst_l, lst_t, any_l, all_l, min_i, max_i, oIx_l, oIx_t, oIx_c0, oIx_c1, oIx_c2, limV,
  nup1, nup_le, nup_lt, nup_eq, ← Int.natCast_add,
  posts_some, postg_some, end_rt, end_nx, lp_nx, lp_ct, lp_bk, lp_rt, lp_er, sqq_nx, sqq_rt, sqq_er, sqq_bk, sqq_ct, wO_some, app_w, put_w, frz_o, frzK_some, nlit_le, nlit_lt, nlit_ge, nlit_gt, nlit_eq, nge0, in_tf, all_true, lenset_n, nm4, nm3, nm2, nd4, nd2, eq_n, le_n, eMv, eSt, eM, eIC, gT_ev', 
  Option.map_some, Option.map_none, Option.bind_some, fin_nx, fin_rt, fin_er, List.length_cons, List.length_nil, List.length_map, List.length_append, List.length_range, List.set_cons_zero, List.set_cons_succ, ↓reduceIte, Nat.zero_add, Nat.add_zero, Nat.zero_le, Nat.reduceAdd, Nat.reduceLeDiff, Nat.reduceEqDiff, Int.reduceLT, Int.reduceNeg, Int.reducePow, Option.isNone_none, Option.isNone_some, Option.isSome_none, Option.isSome_some, decide_eq_true_eq, decide_true, decide_false, Bool.not_true, Bool.not_false, Bool.false_eq_true, eq_self, and_self, true_and, and_true, Bool.true_xor, Bool.false_xor])
theorem tix_i {a : Int} {held : List Int} (h : a ∈ held) : tixO (.tuple (held.map .int)) (.int a) = ok (cN (held.idxOf a)) := by
  have h1 := (enc_tup enc_int).shaped (x := held) (by omega)
  have h2 := enc_int.shaped (x := a) (by omega)
  unfold tixO
  simp only
  rw [if_pos ⟨h1, h2⟩, firstAt_enc enc_int, if_pos h]
theorem in_ti {neg : Bool} {a : Int} {held : List Int} : oIn neg (.int a) (.tuple (held.map .int)) = ok (.bool (neg ^^ decide (a ∈ held))) := oIn_tup enc_int (by omega) neg a held
theorem in_li {neg : Bool} {a : Int} {held : List Int} : oIn neg (.int a) (.list (held.map .int)) = ok (.bool (neg ^^ decide (a ∈ held))) := oIn_list enc_int (by omega) neg a held
theorem snoc_ti {a : Int} {held : List Int} (h : held.length < 1000000) : oAdd (.tuple (held.map .int)) (.tuple [.int a]) = ok (.tuple ((held ++ [a]).map .int)) := cat_t (f := PyData.int) (xs := held) (ys := [a]) (by rw [lim_is]; exact h)
def istep (M : Mach) (q : ICfg) (a : Int) : ICfg := ((mvA M q.1 (q.2.idxOf a)).1, (mvA M q.1 (q.2.idxOf a)).2.map fun x => (q.2 ++ [a]).getD x 0)
structure IVC (M : Mach) (q : ICfg) : Prop where
  st : q.1 < M.length
  len : q.2.length = (stA M q.1).2.1
  nod : q.2.Nodup
theorem idx_leI {a : Int} {held : List Int} : held.idxOf a ≤ held.length ∧ (a ∈ held → held.idxOf a < held.length) := by
  refine ⟨List.idxOf_le_length, fun h => List.idxOf_lt_length_iff.mpr h⟩
theorem getD_injI {xs : List Int} (h : xs.Nodup) {i j : Nat} (hi : i < xs.length) (hj : j < xs.length) (e : xs.getD i 0 = xs.getD j 0) : i = j := by
  rw [List.getD_eq_getElem?_getD, List.getD_eq_getElem?_getD, List.getElem?_eq_getElem hi, List.getElem?_eq_getElem hj] at e
  exact (List.getElem_inj h).mp e
theorem IVC.step {M : Mach} (V : Valid M) {q : ICfg} (h : IVC M q) (a : Int) : IVC M (istep M q a) := by
  have hc : q.2.idxOf a ≤ (stA M q.1).2.1 := by rw [← h.len]; exact idx_leI.1
  obtain ⟨_, hm⟩ := mvA_ok V h.st hc
  refine ⟨hm.lt.1, ?_, ?_⟩
  · show (List.map _ _).length = _
    rw [List.length_map]; exact hm.lt.2
  · show (List.map _ _).Nodup
    have hs := hm.src
    rw [← h.len] at hs
    by_cases ha : a ∈ q.2
    · have hi := (idx_leI (held := q.2)).2 ha
      rw [if_pos hi] at hs
      refine nodup_map_on (fun x hx y hy e => ?_) hm.nod
      have hx' := hs x hx
      have hy' := hs y hy
      have key : ∀ z, z < q.2.length → (q.2 ++ [a]).getD z 0 = q.2.getD z 0 := fun z hz => by
        rw [List.getD_eq_getElem?_getD, List.getD_eq_getElem?_getD, List.getElem?_append_left hz]
      rw [key x hx', key y hy'] at e
      exact getD_injI h.nod hx' hy' e
    · have hi : q.2.idxOf a = q.2.length := List.idxOf_eq_length ha
      rw [hi, if_neg (Nat.lt_irrefl _)] at hs
      have hn : (q.2 ++ [a]).Nodup := List.nodup_append.mpr ⟨h.nod, by simp, fun x hx y hy e => by
        rw [List.mem_singleton] at hy
        rw [e, hy] at hx; exact ha hx⟩
      rw [← hi] at hs
      refine nodup_map_on (fun x hx y hy e => ?_) hm.nod
      have hx' := hs x hx
      have hy' := hs y hy
      rw [hi] at hx' hy'
      exact getD_injI hn (by rw [List.length_append]; exact hx') (by rw [List.length_append]; exact hy') e
theorem stepped_isI {M : Mach} (V : Valid M) {q : ICfg} (h : IVC M q) (a : Int) : m_stepped [eM M, eIC q, .int a] = ok (eIC (istep M q a)) := by
  have key : Post (fun d => d = eIC (istep M q a)) (m_stepped [eM M, eIC q, .int a]) := by
    refine post_run (by rfl) ?_
    walk_at "in"
    rw [b_stepped, eIC]
    have h1 : oIx (.list (M.map eSt)) (cN q.1) = ok (eSt (stA M q.1)) := oIx_list eSt M q.1 _ (stA_mem h.st).2.1
    have hc : q.2.idxOf a ≤ (stA M q.1).2.1 := by rw [← h.len]; exact idx_leI.1
    obtain ⟨e1, hm⟩ := mvA_ok V h.st hc
    have h2 : oIx (.list ((stA M q.1).2.2.map eMv)) (cN (q.2.idxOf a)) = ok (eMv (mvA M q.1 (q.2.idxOf a))) := oIx_list eMv _ _ _ e1
    have hb := (V.each _ (stA_mem h.st).1).boxes
    have hl : q.2.length < 1000000 := by have := h.len; omega
    have h3 := snoc_ti (a := a) hl
    have h4 := in_ti (neg := false) (a := a) (held := q.2)
    have hsl : (mvA M q.1 (q.2.idxOf a)).2.length ≤ 1000000 := by
      have := (V.each _ (stA_mem hm.lt.1).1).boxes
      have := hm.lt.2
      omega
    have hsr : ∀ x ∈ (mvA M q.1 (q.2.idxOf a)).2, x < q.2.length + 1 := fun x hx => by
      have := hm.src x hx
      have hh := h.len
      split at this <;> omega
    have hlc : ∀ x ∈ (mvA M q.1 (q.2.idxOf a)).2, oIx (.tuple ((q.2 ++ [a]).map PyData.int)) (cN x) = ok (.int ((q.2 ++ [a]).getD x 0)) := fun x hx => by
      refine oIx_tup PyData.int _ x _ ?_
      rw [List.getD_eq_getElem?_getD, List.getElem?_eq_getElem (by rw [List.length_append]; exact hsr x hx)]; rfl
    by_cases ha : a ∈ q.2
    · have h5 := tix_i ha
      walk_at "evh"
      rw [lc_allG (enc := cN) (fun x => PyData.int ((q.2 ++ [a]).getD x 0)) _ hsl fun z hz => by
        have := hlc z hz
        walk_at "evh"]
      walk_at "evh"
      rw [istep, List.map_map]; rfl
    · have h5 : q.2.idxOf a = (stA M q.1).2.1 := by rw [← h.len]; exact List.idxOf_eq_length ha
      rw [h5] at h2 hlc hsl
      walk_at "evh"
      rw [lc_allG (enc := cN) (fun x => PyData.int ((q.2 ++ [a]).getD x 0)) _ hsl fun z hz => by
        have := hlc z hz
        walk_at "evh"]
      walk_at "evh"
      rw [istep, List.map_map, h5]; rfl
  obtain ⟨d, e, rfl⟩ := key
  exact e
end WK

set_option Elab.async false
set_option linter.all false
set_option maxHeartbeats 4000000
set_option maxRecDepth 100000
noncomputable section
namespace WK
open PySem DL L2

local macro_rules | `(tactic| walk_at "ev") => `(tactic| simp only [ofE_err, bnd_err, ofE_ok, ofE_ok', bnd_ok, bnd_ok', sSeq_ev, sq_nx, sq_rt, sq_er, sq_bk, sq_ct, sIf_ev, sRet_ev, sDrop_ev, sSkip_ev, sRetN_ev, sRaise_ev, sFor_ev, eC_ev, e2_ev, e1_ev, eFn_ev, eCall_ev, aCons_ev, aNil_ev, nNew_ev, eTup_ev, eLst_ev, eIf_ev, eNew_ev, tTru_ev, tNot_ev, tAnd_ev, tOr_ev, tYes_ev, nLc_ev, wipe0, wipeS, tix_ev, set_ev, asg_ev, setO_ev, v0, vS, o0, o0', oS, g0, gS, own0, ownS, setAt0, setAtS, e3_ev, and_ev, or_ev, not_ev, val_ev, asB_b, iSeq_ev, seqOf_l, seqOf_t, iR1_ev, nRng_ev, gT_ev, gs_c, gs_n,
  add_i, sub_i, div_i, mod_i, mul_l, mul_r, neg_i, cmp_i, lt_i, eq_i, ne_i, isN_n, isN_i, isN_l, notN_n, notN_i, len_l, len_t, tru_l, tru_t, tru_b, tup_l, lst_l, lst_t, any_l, all_l, min_i, max_i, oIx_l, oIx_t, oIx_c0, oIx_c1, oIx_c2, limV,
  nup1, nup_le, nup_lt, nup_eq, ← Int.natCast_add,
  posts_some, postg_some, end_rt, end_nx, lp_nx, lp_ct, lp_bk, lp_rt, lp_er, sqq_nx, sqq_rt, sqq_er, sqq_bk, sqq_ct, wO_some, app_w, put_w, frz_o, frzK_some, nlit_le, nlit_lt, nlit_ge, nlit_gt, nlit_eq, nge0, in_tf, all_true, lenset_n, nm4, nm3, nm2, nd4, nd2, eq_n, le_n, eMv, eSt, eM, eIC, gT_ev', eIL, 
  Option.map_some, Option.map_none, Option.bind_some, fin_nx, fin_rt, fin_er, List.length_cons, List.length_nil, List.length_map, List.length_append, List.length_range, List.set_cons_zero, List.set_cons_succ, ↓reduceIte, Nat.zero_add, Nat.add_zero, Nat.zero_le, Nat.reduceAdd, Nat.reduceLeDiff, Nat.reduceEqDiff, Int.reduceLT, Int.reduceNeg, Int.reducePow, Option.isNone_none, Option.isNone_some, Option.isSome_none, Option.isSome_some, decide_eq_true_eq, decide_true, decide_false, Bool.not_true, Bool.not_false, Bool.false_eq_true, eq_self, and_self, true_and, and_true, Bool.true_xor, Bool.false_xor])
local macro_rules | `(tactic| walk_at "in") => `(tactic| simp only [rho0, List.map_cons, List.map_nil, List.cons_append, List.nil_append, List.length_cons, List.length_nil, Nat.reduceAdd, Nat.reduceSub, Nat.zero_add, Nat.sub_self, rep0, repS])
local macro_rules | `(tactic| walk_at "evo") => `(tactic| simp (disch := (first | omega | (simp only [List.length_map, List.length_append, List.length_cons, List.length_nil, List.length_range, List.length_set, List.length_replicate]; omega))) only [addT6, addL6, rng1_n, rngO_n, mod_n, ofE_err, bnd_err, ofE_ok, ofE_ok', bnd_ok, bnd_ok', sSeq_ev, sq_nx, sq_rt, sq_er, sq_bk, sq_ct, sIf_ev, sRet_ev, sDrop_ev, sSkip_ev, sRetN_ev, sRaise_ev, sFor_ev, eC_ev, e2_ev, e1_ev, eFn_ev, eCall_ev, aCons_ev, aNil_ev, nNew_ev, eTup_ev, eLst_ev, eIf_ev, eNew_ev, tTru_ev, tNot_ev, tAnd_ev, tOr_ev, tYes_ev, nLc_ev, wipe0, wipeS, tix_ev, set_ev, asg_ev, setO_ev, v0, vS, o0, o0', oS, g0, gS, own0, ownS, setAt0, setAtS, e3_ev, and_ev, or_ev, not_ev, val_ev, asB_b, iSeq_ev, seqOf_l, seqOf_t, iR1_ev, nRng_ev, gT_ev, gs_c, gs_n,
  add_i, sub_i, div_i, mod_i, mul_l, mul_r, neg_i, cmp_i, lt_i, eq_i, ne_i, isN_n, isN_i, isN_l, notN_n, notN_i, len_l, len_t, tru_l, tru_t, tru_b, tup_l, lst_l, lst_t, any_l, all_l, min_i, max_i, oIx_l, oIx_t, oIx_c0, oIx_c1, oIx_c2, limV,
  nup1, nup_le, nup_lt, nup_eq, ← Int.natCast_add,
  posts_some, postg_some, end_rt, end_nx, lp_nx, lp_ct, lp_bk, lp_rt, lp_er, sqq_nx, sqq_rt, sqq_er, sqq_bk, sqq_ct, wO_some, app_w, put_w, frz_o, frzK_some, nlit_le, nlit_lt, nlit_ge, nlit_gt, nlit_eq, nge0, in_tf, all_true, lenset_n, nm4, nm3, nm2, nd4, nd2, eq_n, le_n, eMv, eSt, eM, eIC, gT_ev', eIL, 
  Option.map_some, Option.map_none, Option.bind_some, fin_nx, fin_rt, fin_er, List.length_cons, List.length_nil, List.length_map, List.length_append, List.length_range, List.set_cons_zero, List.set_cons_succ, ↓reduceIte, Nat.zero_add, Nat.add_zero, Nat.zero_le, Nat.reduceAdd, Nat.reduceLeDiff, Nat.reduceEqDiff, Int.reduceLT, Int.reduceNeg, Int.reducePow, Option.isNone_none, Option.isNone_some, Option.isSome_none, Option.isSome_some, decide_eq_true_eq, decide_true, decide_false, Bool.not_true, Bool.not_false, Bool.false_eq_true, eq_self, and_self, true_and, and_true, Bool.true_xor, Bool.false_xor])
local macro_rules | `(tactic| walk_at "evh") => `(tactic| simp only [*, ofE_err, bnd_err, ofE_ok, ofE_ok', bnd_ok, bnd_ok', sSeq_ev, sq_nx, sq_rt, sq_er, sq_bk, sq_ct, sIf_ev, sRet_ev, sDrop_ev, sSkip_ev, sRetN_ev, sRaise_ev, sFor_ev, eC_ev, e2_ev, e1_ev, eFn_ev, eCall_ev, aCons_ev, aNil_ev, nNew_ev, eTup_ev, eLst_ev, eIf_ev, eNew_ev, tTru_ev, tNot_ev, tAnd_ev, tOr_ev, tYes_ev, nLc_ev, wipe0, wipeS, tix_ev, set_ev, asg_ev, setO_ev, v0, vS, o0, o0', oS, g0, gS, own0, ownS, setAt0, setAtS, e3_ev, and_ev, or_ev, not_ev, val_ev, asB_b, iSeq_ev, seqOf_l, seqOf_t, iR1_ev, nRng_ev, gT_ev, gs_c, gs_n,
  add_i, sub_i, div_i, mod_i, mul_l, mul_r, neg_i, cmp_i, lt_i, eq_i, ne_i, isN_n, isN_i, isN_l, notN_n, notN_i, len_l, len_t, tru_l, tru_t, tru_b, tup_l, lst_l, lst_t, any_l, all_l, min_i, max_i, oIx_l, oIx_t, oIx_c0, oIx_c1, oIx_c2, limV,
  nup1, nup_le, nup_lt, nup_eq, ← Int.natCast_add,
  posts_some, postg_some, end_rt, end_nx, lp_nx, lp_ct, lp_bk, lp_rt, lp_er, sqq_nx, sqq_rt, sqq_er, sqq_bk, sqq_ct, wO_some, app_w, put_w, frz_o, frzK_some, nlit_le, nlit_lt, nlit_ge, nlit_gt, nlit_eq, nge0, in_tf, all_true, lenset_n, nm4, nm3, nm2, nd4, nd2, eq_n, le_n, eMv, eSt, eM, eIC, gT_ev', eIL, 
  Option.map_some, Option.map_none, Option.bind_some, fin_nx, fin_rt, fin_er, List.length_cons, List.length_nil, List.length_map, List.length_append, List.length_range, List.set_cons_zero, List.set_cons_succ, ↓reduceIte, Nat.zero_add, Nat.add_zero, Nat.zero_le, Nat.reduceAdd, Nat.reduceLeDiff, Nat.reduceEqDiff, Int.reduceLT, Int.reduceNeg, Int.reducePow, Option.isNone_none, Option.isNone_some, Option.isSome_none, Option.isSome_some, decide_eq_true_eq, decide_true, decide_false, Bool.not_true, Bool.not_false, Bool.false_eq_true, eq_self, and_self, true_and, and_true, Bool.true_xor, Bool.false_xor])
theorem idx_iffI {held : List Int} (hn : held.Nodup) {y : Nat} {a : Int} (hy : y < held.length) : (held[y] = a) ↔ held.idxOf a = y := by
  constructor
  · intro e
    have hm : a ∈ held := e ▸ List.getElem_mem hy
    have hl := (idx_leI (held := held)).2 hm
    have := List.getElem_idxOf hl
    exact (List.getElem_inj hn).mp (this.trans e.symm)
  · intro e
    have hl : held.idxOf a < held.length := by omega
    have := List.getElem_idxOf hl
    subst e
    exact this
theorem come_isI {M : Mach} (V : Valid M) {q : ICfg} (h : IVC M q) (a : Int) : m__law_come [eM M, cN q.1, .list (q.2.map .int), .int a] = ok (eIL (istep M q a)) := by
  have key : Post (fun d => d = eIL (istep M q a)) (m__law_come [eM M, cN q.1, .list (q.2.map .int), .int a]) := by
    refine post_run (by rfl) ?_
    walk_at "in"
    rw [b__law_come]
    have hlen := h.len
    have h1 : oIx (.list (M.map eSt)) (cN q.1) = ok (eSt (stA M q.1)) := oIx_list eSt M q.1 _ (stA_mem h.st).2.1
    have hmv : ∀ c, c ≤ (stA M q.1).2.1 → oIx (.list ((stA M q.1).2.2.map eMv)) (cN c) = ok (eMv (mvA M q.1 c)) := fun c hc => oIx_list eMv _ _ _ (mvA_ok V h.st hc).1
    have hb := (V.each _ (stA_mem h.st).1).boxes
    have h2 := hmv (stA M q.1).2.1 (Nat.le_refl _)
    have hr := rng1_n (n := (stA M q.1).2.1) (by omega)
    have hsl : ∀ c, c ≤ (stA M q.1).2.1 → (mvA M q.1 c).2.length ≤ 1000000 := fun c hc => by
      have hm := (mvA_ok V h.st hc).2
      have := (V.each _ (stA_mem hm.lt.1).1).boxes
      have := hm.lt.2
      omega
    walk_at "evh"
    refine posts_sq (posts_for (fun i r => ∃ (m : Mv) (j9 : Option B), Eqn m (mvA M q.1 (if q.2.idxOf a < i then q.2.idxOf a else (stA M q.1).2.1)) ∧ r = [some (.d (.list (M.map eSt))), some (.d (cN q.1)), some (.d (.list (q.2.map .int))), some (.d (.int a)),
      some (.d (.bool (stA M q.1).1)), some (.d (cN (stA M q.1).2.1)), some (.d (.list ((stA M q.1).2.2.map eMv))), some (.d (cN m.1)), some (.d (.tuple (m.2.map cN))), j9, none]) ?_ ?_ ?_)
    · exact ⟨_, none, Eqn.rf, rfl⟩
    · rintro i x r hx ⟨m, j9, hm, rfl⟩
      obtain ⟨y, hy, rfl⟩ := getq_map hx
      obtain ⟨rfl, hyl⟩ := getq_range hy
      have hyl2 : y < q.2.length := by omega
      have hq : oIx (.list (q.2.map .int)) (cN y) = ok (.int (q.2[y]'hyl2)) := oIx_list PyData.int _ _ _ (List.getElem?_eq_getElem hyl2)
      have hi := idx_iffI h.nod (a := a) hyl2
      by_cases hc : q.2[y] = a
      · have h5 := hi.mp hc
        have h6 := hmv y (by omega)
        have hcd : decide (q.2[y] = a) = true := decide_eq_true hc
        clear hi
        have hlen' : Eqn q.2.length (stA M q.1).2.1 := hlen
        clear hlen
        walk_at "evh"
        refine ⟨mvA M q.1 y, _, ?_, rfl⟩
        rw [if_pos (by omega)]; exact Eqn.rf
      · have h5 : ¬ q.2.idxOf a = y := fun e => hc (hi.mpr e)
        have hcd : decide (q.2[y] = a) = false := decide_eq_false hc
        clear hi
        have hlen' : Eqn q.2.length (stA M q.1).2.1 := hlen
        clear hlen
        walk_at "evh"
        refine ⟨m, _, ?_, rfl⟩
        rw [show (m = _) from hm]
        by_cases h7 : q.2.idxOf a < y
        · rw [if_pos h7, if_pos (by omega)]; exact Eqn.rf
        · rw [if_neg h7, if_neg (by omega)]; exact Eqn.rf
    · rintro r ⟨m, j9, hm, rfl⟩
      have hm' : m = mvA M q.1 (q.2.idxOf a) := by
        rw [show (m = _) from hm, List.length_map, List.length_range]
        have := (idx_leI (a := a) (held := q.2)).1
        split
        · rfl
        · congr 1; omega
      have hil : q.2.idxOf a ≤ (stA M q.1).2.1 := by
        have := (idx_leI (a := a) (held := q.2)).1; omega
      have hsl' := hsl _ hil
      rw [← hm'] at hsl'
      have hsr : ∀ x ∈ m.2, x < q.2.length + 1 := fun x hx => by
        rw [hm'] at hx
        have := (mvA_ok V h.st hil).2.src x hx
        split at this <;> omega
      clear hm hmv hsl h2
      have hlen' : Eqn q.2.length (stA M q.1).2.1 := hlen
      clear hlen
      walk_at "ev"
      rw [lc_allG (enc := cN) (fun x => PyData.int ((q.2 ++ [a]).getD x 0)) _ hsl' fun z hz => by
        have hz2 := hsr z hz
        have hlen := hlen'.le
        walk_at "ev"
        by_cases hzb : z = (stA M q.1).2.1
        · rw [if_pos hzb]
          rw [List.getD_eq_getElem?_getD, List.getElem?_append_right (by omega), show z - q.2.length = 0 from by omega]; rfl
        · have hz3 : z < q.2.length := by omega
          rw [if_neg hzb]
          rw [oIx_list PyData.int q.2 z _ (List.getElem?_eq_getElem hz3), List.getD_eq_getElem?_getD, List.getElem?_append_left hz3, List.getElem?_eq_getElem hz3]; rfl]
      walk_at "ev"
      rw [istep, List.map_map, hm']; rfl
  obtain ⟨d, e, rfl⟩ := key
  exact e

def irun (M : Mach) (q : ICfg) (w : List Int) : ICfg := w.foldl (istep M) q
def iacc (M : Mach) (q : ICfg) (w : List Int) : Bool := (stA M (irun M q w).1).1
theorem IVC.run {M : Mach} (V : Valid M) : ∀ {w : List Int} {q : ICfg}, IVC M q → IVC M (irun M q w)
  | [], _, h => h
  | a :: w, _, h => IVC.run V (w := w) (h.step V a)
theorem ivc0 {M : Mach} (V : Valid M) : IVC M (0, []) := by
  refine ⟨V.pos, ?_, List.nodup_nil⟩
  have h1 := V.first
  rw [bxs, List.getElem?_map, (stA_mem V.pos).2.1] at h1
  exact (Option.some.inj h1).symm
theorem takes_isI {M : Mach} (V : Valid M) (w : List Int) : m__law_takes [eM M, .list (w.map .int)] = ok (.bool (iacc M (0, []) w)) := by
  have key : Post (fun d => d = .bool (iacc M (0, []) w)) (m__law_takes [eM M, .list (w.map .int)]) := by
    refine post_run (by rfl) ?_
    walk_at "in"
    rw [b__law_takes]
    walk_at "ev"
    refine posts_sq (posts_for (fun i r => ∃ (q : ICfg) (j4 : Option B), Eqn q (irun M (0, []) (w.take i)) ∧ r = [some (.d (eM M)), some (.d (.list (w.map .int))), some (.d (cN q.1)), some (.d (.list (q.2.map .int))), j4]) ?_ ?_ ?_)
    · exact ⟨(0, []), _, Eqn.rf, rfl⟩
    · rintro i x r hx ⟨q, j4, hq, rfl⟩
      obtain ⟨a, ha, rfl⟩ := getq_map hx
      have hv : IVC M q := by rw [show q = _ from hq]; exact (ivc0 V).run V
      have hcm := come_isI V hv a
      unfold eM at hcm
      walk_at "evh"
      have hq' : q = _ := hq
      refine ⟨istep M q a, _, ?_, rfl⟩
      show _ = _
      obtain ⟨hl, e⟩ := List.getElem?_eq_some_iff.mp ha
      rw [hq', List.take_succ_eq_append_getElem hl, e, irun, irun, List.foldl_append]; rfl
    · rintro r ⟨q, j4, hq, rfl⟩
      have hv : IVC M q := by rw [show q = _ from hq]; exact (ivc0 V).run V
      have h1 : oIx (.list (M.map eSt)) (cN q.1) = ok (eSt (stA M q.1)) := oIx_list eSt M q.1 _ (stA_mem hv.st).2.1
      walk_at "evh"
      have hq' : q = _ := hq
      rw [iacc, hq', List.length_map, List.take_length]
  obtain ⟨d, e, rfl⟩ := key
  exact e
end WK

set_option Elab.async false
set_option linter.all false
set_option maxHeartbeats 4000000
set_option maxRecDepth 100000
noncomputable section
namespace WK
open PySem DL L2

local macro_rules | `(tactic| walk_at "ev") => `(tactic| simp only [ofE_err, bnd_err, ofE_ok, ofE_ok', bnd_ok, bnd_ok', sSeq_ev, sq_nx, sq_rt, sq_er, sq_bk, sq_ct, sIf_ev, sRet_ev, sDrop_ev, sSkip_ev, sRetN_ev, sRaise_ev, sFor_ev, eC_ev, e2_ev, e1_ev, eFn_ev, eCall_ev, aCons_ev, aNil_ev, nNew_ev, eTup_ev, eLst_ev, eIf_ev, eNew_ev, tTru_ev, tNot_ev, tAnd_ev, tOr_ev, tYes_ev, nLc_ev, wipe0, wipeS, tix_ev, set_ev, asg_ev, setO_ev, v0, vS, o0, o0', oS, g0, gS, own0, ownS, setAt0, setAtS, e3_ev, and_ev, or_ev, not_ev, val_ev, asB_b, iSeq_ev, seqOf_l, seqOf_t, iR1_ev, nRng_ev, gT_ev, gs_c, gs_n,
  add_i, sub_i, div_i, mod_i, mul_l, mul_r, neg_i, cmp_i, lt_i, eq_i, ne_i, isN_n, isN_i, isN_l, notN_n, notN_i, len_l, len_t, tru_l, tru_t, tru_b, tup_l, lst_l, lst_t, any_l, all_l, min_i, max_i, oIx_l, oIx_t, oIx_c0, oIx_c1, oIx_c2, limV,
  nup1, nup_le, nup_lt, nup_eq, ← Int.natCast_add,
  posts_some, postg_some, end_rt, end_nx, lp_nx, lp_ct, lp_bk, lp_rt, lp_er, sqq_nx, sqq_rt, sqq_er, sqq_bk, sqq_ct, wO_some, app_w, put_w, frz_o, frzK_some, nlit_le, nlit_lt, nlit_ge, nlit_gt, nlit_eq, nge0, in_tf, all_true, lenset_n, nm4, nm3, nm2, nd4, nd2, eq_n, le_n, eMv, eSt, eM, eIC, gT_ev', eIL, 
  Option.map_some, Option.map_none, Option.bind_some, fin_nx, fin_rt, fin_er, List.length_cons, List.length_nil, List.length_map, List.length_append, List.length_range, List.set_cons_zero, List.set_cons_succ, ↓reduceIte, Nat.zero_add, Nat.add_zero, Nat.zero_le, Nat.reduceAdd, Nat.reduceLeDiff, Nat.reduceEqDiff, Int.reduceLT, Int.reduceNeg, Int.reducePow, Option.isNone_none, Option.isNone_some, Option.isSome_none, Option.isSome_some, decide_eq_true_eq, decide_true, decide_false, Bool.not_true, Bool.not_false, Bool.false_eq_true, eq_self, and_self, true_and, and_true, Bool.true_xor, Bool.false_xor])
local macro_rules | `(tactic| walk_at "in") => `(tactic| simp only [rho0, List.map_cons, List.map_nil, List.cons_append, List.nil_append, List.length_cons, List.length_nil, Nat.reduceAdd, Nat.reduceSub, Nat.zero_add, Nat.sub_self, rep0, repS])
local macro_rules | `(tactic| walk_at "evo") => `(tactic| simp (disch := (first | omega | (simp only [List.length_map, List.length_append, List.length_cons, List.length_nil, List.length_range, List.length_set, List.length_replicate]; omega))) only [addT6, addL6, rng1_n, rngO_n, mod_n, ofE_err, bnd_err, ofE_ok, ofE_ok', bnd_ok, bnd_ok', sSeq_ev, sq_nx, sq_rt, sq_er, sq_bk, sq_ct, sIf_ev, sRet_ev, sDrop_ev, sSkip_ev, sRetN_ev, sRaise_ev, sFor_ev, eC_ev, e2_ev, e1_ev, eFn_ev, eCall_ev, aCons_ev, aNil_ev, nNew_ev, eTup_ev, eLst_ev, eIf_ev, eNew_ev, tTru_ev, tNot_ev, tAnd_ev, tOr_ev, tYes_ev, nLc_ev, wipe0, wipeS, tix_ev, set_ev, asg_ev, setO_ev, v0, vS, o0, o0', oS, g0, gS, own0, ownS, setAt0, setAtS, e3_ev, and_ev, or_ev, not_ev, val_ev, asB_b, iSeq_ev, seqOf_l, seqOf_t, iR1_ev, nRng_ev, gT_ev, gs_c, gs_n,
  add_i, sub_i, div_i, mod_i, mul_l, mul_r, neg_i, cmp_i, lt_i, eq_i, ne_i, isN_n, isN_i, isN_l, notN_n, notN_i, len_l, len_t, tru_l, tru_t, tru_b, tup_l, lst_l, lst_t, any_l, all_l, min_i, max_i, oIx_l, oIx_t, oIx_c0, oIx_c1, oIx_c2, limV,
  nup1, nup_le, nup_lt, nup_eq, ← Int.natCast_add,
  posts_some, postg_some, end_rt, end_nx, lp_nx, lp_ct, lp_bk, lp_rt, lp_er, sqq_nx, sqq_rt, sqq_er, sqq_bk, sqq_ct, wO_some, app_w, put_w, frz_o, frzK_some, nlit_le, nlit_lt, nlit_ge, nlit_gt, nlit_eq, nge0, in_tf, all_true, lenset_n, nm4, nm3, nm2, nd4, nd2, eq_n, le_n, eMv, eSt, eM, eIC, gT_ev', eIL, 
  Option.map_some, Option.map_none, Option.bind_some, fin_nx, fin_rt, fin_er, List.length_cons, List.length_nil, List.length_map, List.length_append, List.length_range, List.set_cons_zero, List.set_cons_succ, ↓reduceIte, Nat.zero_add, Nat.add_zero, Nat.zero_le, Nat.reduceAdd, Nat.reduceLeDiff, Nat.reduceEqDiff, Int.reduceLT, Int.reduceNeg, Int.reducePow, Option.isNone_none, Option.isNone_some, Option.isSome_none, Option.isSome_some, decide_eq_true_eq, decide_true, decide_false, Bool.not_true, Bool.not_false, Bool.false_eq_true, eq_self, and_self, true_and, and_true, Bool.true_xor, Bool.false_xor])
local macro_rules | `(tactic| walk_at "evh") => `(tactic| simp only [*, ofE_err, bnd_err, ofE_ok, ofE_ok', bnd_ok, bnd_ok', sSeq_ev, sq_nx, sq_rt, sq_er, sq_bk, sq_ct, sIf_ev, sRet_ev, sDrop_ev, sSkip_ev, sRetN_ev, sRaise_ev, sFor_ev, eC_ev, e2_ev, e1_ev, eFn_ev, eCall_ev, aCons_ev, aNil_ev, nNew_ev, eTup_ev, eLst_ev, eIf_ev, eNew_ev, tTru_ev, tNot_ev, tAnd_ev, tOr_ev, tYes_ev, nLc_ev, wipe0, wipeS, tix_ev, set_ev, asg_ev, setO_ev, v0, vS, o0, o0', oS, g0, gS, own0, ownS, setAt0, setAtS, e3_ev, and_ev, or_ev, not_ev, val_ev, asB_b, iSeq_ev, seqOf_l, seqOf_t, iR1_ev, nRng_ev, gT_ev, gs_c, gs_n,
  add_i, sub_i, div_i, mod_i, mul_l, mul_r, neg_i, cmp_i, lt_i, eq_i, ne_i, isN_n, isN_i, isN_l, notN_n, notN_i, len_l, len_t, tru_l, tru_t, tru_b, tup_l, lst_l, lst_t, any_l, all_l, min_i, max_i, oIx_l, oIx_t, oIx_c0, oIx_c1, oIx_c2, limV,
  nup1, nup_le, nup_lt, nup_eq, ← Int.natCast_add,
  posts_some, postg_some, end_rt, end_nx, lp_nx, lp_ct, lp_bk, lp_rt, lp_er, sqq_nx, sqq_rt, sqq_er, sqq_bk, sqq_ct, wO_some, app_w, put_w, frz_o, frzK_some, nlit_le, nlit_lt, nlit_ge, nlit_gt, nlit_eq, nge0, in_tf, all_true, lenset_n, nm4, nm3, nm2, nd4, nd2, eq_n, le_n, eMv, eSt, eM, eIC, gT_ev', eIL, 
  Option.map_some, Option.map_none, Option.bind_some, fin_nx, fin_rt, fin_er, List.length_cons, List.length_nil, List.length_map, List.length_append, List.length_range, List.set_cons_zero, List.set_cons_succ, ↓reduceIte, Nat.zero_add, Nat.add_zero, Nat.zero_le, Nat.reduceAdd, Nat.reduceLeDiff, Nat.reduceEqDiff, Int.reduceLT, Int.reduceNeg, Int.reducePow, Option.isNone_none, Option.isNone_some, Option.isSome_none, Option.isSome_some, decide_eq_true_eq, decide_true, decide_false, Bool.not_true, Bool.not_false, Bool.false_eq_true, eq_self, and_self, true_and, and_true, Bool.true_xor, Bool.false_xor])
theorem gone_is {M : Mach} (V : Valid M) (w : List Int) : m_gone [eM M, .list (w.map .int)] = ok (eIC (irun M (0, []) w)) := by
  have hlook := look_is M V
  rw [eM] at hlook
  have key : Post (fun d => d = eIC (irun M (0, []) w)) (m_gone [eM M, .list (w.map .int)]) := by
    refine post_run (by rfl) ?_
    walk_at "in"
    rw [b_gone]
    walk_at "ev"
    rw [hlook]
    walk_at "ev"
    refine posts_sq (posts_for (fun i r => ∃ (q : ICfg) (j3 : Option B), Eqn q (irun M (0, []) (w.take i)) ∧ r = [some (.d (.list (M.map eSt))), some (.d (.list (w.map .int))), some (.d (eIC q)), j3]) ?_ ?_ ?_)
    · exact ⟨(0, []), _, Eqn.rf, rfl⟩
    · rintro i x r hx ⟨q, j3, hq, rfl⟩
      obtain ⟨a, ha, rfl⟩ := getq_map hx
      have hv : IVC M q := by rw [show q = _ from hq]; exact (ivc0 V).run V
      have hst := stepped_isI V hv a
      rw [eM, eIC, eIC] at hst
      walk_at "evh"
      refine ⟨istep M q a, _, ?_, rfl⟩
      have hq' : q = _ := hq
      show _ = _
      obtain ⟨hl, e⟩ := List.getElem?_eq_some_iff.mp ha
      rw [hq', List.take_succ_eq_append_getElem hl, e, irun, irun, List.foldl_append]; rfl
    · rintro r ⟨q, j3, hq, rfl⟩
      have hq' : q = _ := hq
      rw [List.length_map, List.take_length] at hq'
      walk_at "ev"
      rw [hq']
  obtain ⟨d, e, rfl⟩ := key
  exact e
theorem takesp_is {M : Mach} (V : Valid M) (w : List Int) : m_takes [eM M, .list (w.map .int)] = ok (.bool (iacc M (0, []) w)) := by
  have hg := gone_is V w
  rw [eM] at hg
  have hv := (ivc0 V).run V (w := w)
  have h1 : oIx (.list (M.map eSt)) (cN (irun M (0, []) w).1) = ok (eSt (stA M (irun M (0, []) w).1)) := oIx_list eSt M _ _ (stA_mem hv.st).2.1
  have key : Post (fun d => d = .bool (iacc M (0, []) w)) (m_takes [eM M, .list (w.map .int)]) := by
    refine post_run (by rfl) ?_
    walk_at "in"
    rw [b_takes]
    walk_at "ev"
    rw [hg]
    walk_at "ev"
    rw [h1]
    walk_at "ev"
    rfl
  obtain ⟨d, e, rfl⟩ := key
  exact e
end WK

set_option Elab.async false
set_option linter.all false
set_option maxHeartbeats 4000000
set_option maxRecDepth 100000
noncomputable section
namespace WK
open PySem DL L2

local macro_rules | `(tactic| walk_at "ev") => `(tactic| simp only [ofE_err, bnd_err, ofE_ok, ofE_ok', bnd_ok, bnd_ok', sSeq_ev, sq_nx, sq_rt, sq_er, sq_bk, sq_ct, sIf_ev, sRet_ev, sDrop_ev, sSkip_ev, sRetN_ev, sRaise_ev, sFor_ev, eC_ev, e2_ev, e1_ev, eFn_ev, eCall_ev, aCons_ev, aNil_ev, nNew_ev, eTup_ev, eLst_ev, eIf_ev, eNew_ev, tTru_ev, tNot_ev, tAnd_ev, tOr_ev, tYes_ev, nLc_ev, wipe0, wipeS, tix_ev, set_ev, asg_ev, setO_ev, v0, vS, o0, o0', oS, g0, gS, own0, ownS, setAt0, setAtS, e3_ev, and_ev, or_ev, not_ev, val_ev, asB_b, iSeq_ev, seqOf_l, seqOf_t, iR1_ev, nRng_ev, gT_ev, gs_c, gs_n,
  add_i, sub_i, div_i, mod_i, mul_l, mul_r, neg_i, cmp_i, lt_i, eq_i, ne_i, isN_n, isN_i, isN_l, notN_n, notN_i, len_l, len_t, tru_l, tru_t, tru_b, tup_l, lst_l, lst_t, any_l, all_l, min_i, max_i, oIx_l, oIx_t, oIx_c0, oIx_c1, oIx_c2, limV,
  nup1, nup_le, nup_lt, nup_eq, ← Int.natCast_add,
  posts_some, postg_some, end_rt, end_nx, lp_nx, lp_ct, lp_bk, lp_rt, lp_er, sqq_nx, sqq_rt, sqq_er, sqq_bk, sqq_ct, wO_some, app_w, put_w, frz_o, frzK_some, nlit_le, nlit_lt, nlit_ge, nlit_gt, nlit_eq, nge0, in_tf, all_true, lenset_n, nm4, nm3, nm2, nd4, nd2, eq_n, le_n, 
  Option.map_some, Option.map_none, Option.bind_some, fin_nx, fin_rt, fin_er, List.length_cons, List.length_nil, List.length_map, List.length_append, List.length_range, List.set_cons_zero, List.set_cons_succ, ↓reduceIte, Nat.zero_add, Nat.add_zero, Nat.zero_le, Nat.reduceAdd, Nat.reduceLeDiff, Nat.reduceEqDiff, Int.reduceLT, Int.reduceNeg, Int.reducePow, Option.isNone_none, Option.isNone_some, Option.isSome_none, Option.isSome_some, decide_eq_true_eq, decide_true, decide_false, Bool.not_true, Bool.not_false, Bool.false_eq_true, eq_self, and_self, true_and, and_true, Bool.true_xor, Bool.false_xor])
local macro_rules | `(tactic| walk_at "in") => `(tactic| simp only [rho0, List.map_cons, List.map_nil, List.cons_append, List.nil_append, List.length_cons, List.length_nil, Nat.reduceAdd, Nat.reduceSub, Nat.zero_add, Nat.sub_self, rep0, repS])
local macro_rules | `(tactic| walk_at "evo") => `(tactic| simp (disch := (first | omega | (simp only [List.length_map, List.length_append, List.length_cons, List.length_nil, List.length_range, List.length_set, List.length_replicate]; omega))) only [addT6, addL6, rng1_n, rngO_n, mod_n, ofE_err, bnd_err, ofE_ok, ofE_ok', bnd_ok, bnd_ok', sSeq_ev, sq_nx, sq_rt, sq_er, sq_bk, sq_ct, sIf_ev, sRet_ev, sDrop_ev, sSkip_ev, sRetN_ev, sRaise_ev, sFor_ev, eC_ev, e2_ev, e1_ev, eFn_ev, eCall_ev, aCons_ev, aNil_ev, nNew_ev, eTup_ev, eLst_ev, eIf_ev, eNew_ev, tTru_ev, tNot_ev, tAnd_ev, tOr_ev, tYes_ev, nLc_ev, wipe0, wipeS, tix_ev, set_ev, asg_ev, setO_ev, v0, vS, o0, o0', oS, g0, gS, own0, ownS, setAt0, setAtS, e3_ev, and_ev, or_ev, not_ev, val_ev, asB_b, iSeq_ev, seqOf_l, seqOf_t, iR1_ev, nRng_ev, gT_ev, gs_c, gs_n,
  add_i, sub_i, div_i, mod_i, mul_l, mul_r, neg_i, cmp_i, lt_i, eq_i, ne_i, isN_n, isN_i, isN_l, notN_n, notN_i, len_l, len_t, tru_l, tru_t, tru_b, tup_l, lst_l, lst_t, any_l, all_l, min_i, max_i, oIx_l, oIx_t, oIx_c0, oIx_c1, oIx_c2, limV,
  nup1, nup_le, nup_lt, nup_eq, ← Int.natCast_add,
  posts_some, postg_some, end_rt, end_nx, lp_nx, lp_ct, lp_bk, lp_rt, lp_er, sqq_nx, sqq_rt, sqq_er, sqq_bk, sqq_ct, wO_some, app_w, put_w, frz_o, frzK_some, nlit_le, nlit_lt, nlit_ge, nlit_gt, nlit_eq, nge0, in_tf, all_true, lenset_n, nm4, nm3, nm2, nd4, nd2, eq_n, le_n, 
  Option.map_some, Option.map_none, Option.bind_some, fin_nx, fin_rt, fin_er, List.length_cons, List.length_nil, List.length_map, List.length_append, List.length_range, List.set_cons_zero, List.set_cons_succ, ↓reduceIte, Nat.zero_add, Nat.add_zero, Nat.zero_le, Nat.reduceAdd, Nat.reduceLeDiff, Nat.reduceEqDiff, Int.reduceLT, Int.reduceNeg, Int.reducePow, Option.isNone_none, Option.isNone_some, Option.isSome_none, Option.isSome_some, decide_eq_true_eq, decide_true, decide_false, Bool.not_true, Bool.not_false, Bool.false_eq_true, eq_self, and_self, true_and, and_true, Bool.true_xor, Bool.false_xor])
local macro_rules | `(tactic| walk_at "evh") => `(tactic| simp only [*, ofE_err, bnd_err, ofE_ok, ofE_ok', bnd_ok, bnd_ok', sSeq_ev, sq_nx, sq_rt, sq_er, sq_bk, sq_ct, sIf_ev, sRet_ev, sDrop_ev, sSkip_ev, sRetN_ev, sRaise_ev, sFor_ev, eC_ev, e2_ev, e1_ev, eFn_ev, eCall_ev, aCons_ev, aNil_ev, nNew_ev, eTup_ev, eLst_ev, eIf_ev, eNew_ev, tTru_ev, tNot_ev, tAnd_ev, tOr_ev, tYes_ev, nLc_ev, wipe0, wipeS, tix_ev, set_ev, asg_ev, setO_ev, v0, vS, o0, o0', oS, g0, gS, own0, ownS, setAt0, setAtS, e3_ev, and_ev, or_ev, not_ev, val_ev, asB_b, iSeq_ev, seqOf_l, seqOf_t, iR1_ev, nRng_ev, gT_ev, gs_c, gs_n,
  add_i, sub_i, div_i, mod_i, mul_l, mul_r, neg_i, cmp_i, lt_i, eq_i, ne_i, isN_n, isN_i, isN_l, notN_n, notN_i, len_l, len_t, tru_l, tru_t, tru_b, tup_l, lst_l, lst_t, any_l, all_l, min_i, max_i, oIx_l, oIx_t, oIx_c0, oIx_c1, oIx_c2, limV,
  nup1, nup_le, nup_lt, nup_eq, ← Int.natCast_add,
  posts_some, postg_some, end_rt, end_nx, lp_nx, lp_ct, lp_bk, lp_rt, lp_er, sqq_nx, sqq_rt, sqq_er, sqq_bk, sqq_ct, wO_some, app_w, put_w, frz_o, frzK_some, nlit_le, nlit_lt, nlit_ge, nlit_gt, nlit_eq, nge0, in_tf, all_true, lenset_n, nm4, nm3, nm2, nd4, nd2, eq_n, le_n, 
  Option.map_some, Option.map_none, Option.bind_some, fin_nx, fin_rt, fin_er, List.length_cons, List.length_nil, List.length_map, List.length_append, List.length_range, List.set_cons_zero, List.set_cons_succ, ↓reduceIte, Nat.zero_add, Nat.add_zero, Nat.zero_le, Nat.reduceAdd, Nat.reduceLeDiff, Nat.reduceEqDiff, Int.reduceLT, Int.reduceNeg, Int.reducePow, Option.isNone_none, Option.isNone_some, Option.isSome_none, Option.isSome_some, decide_eq_true_eq, decide_true, decide_false, Bool.not_true, Bool.not_false, Bool.false_eq_true, eq_self, and_self, true_and, and_true, Bool.true_xor, Bool.false_xor])
def gls (s : Ste) : List Nat := s.2.2.map (·.1)
def eGl (s : Ste) : PyData := .list ((gls s).map cN)
end WK

set_option Elab.async false
set_option linter.all false
set_option maxHeartbeats 4000000
set_option maxRecDepth 100000
noncomputable section
namespace WK
open PySem DL L2

local macro_rules | `(tactic| walk_at "ev") => `(tactic| simp only [ofE_err, bnd_err, ofE_ok, ofE_ok', bnd_ok, bnd_ok', sSeq_ev, sq_nx, sq_rt, sq_er, sq_bk, sq_ct, sIf_ev, sRet_ev, sDrop_ev, sSkip_ev, sRetN_ev, sRaise_ev, sFor_ev, eC_ev, e2_ev, e1_ev, eFn_ev, eCall_ev, aCons_ev, aNil_ev, nNew_ev, eTup_ev, eLst_ev, eIf_ev, eNew_ev, tTru_ev, tNot_ev, tAnd_ev, tOr_ev, tYes_ev, nLc_ev, wipe0, wipeS, tix_ev, set_ev, asg_ev, setO_ev, v0, vS, o0, o0', oS, g0, gS, own0, ownS, setAt0, setAtS, e3_ev, and_ev, or_ev, not_ev, val_ev, asB_b, iSeq_ev, seqOf_l, seqOf_t, iR1_ev, nRng_ev, gT_ev, gs_c, gs_n,
  add_i, sub_i, div_i, mod_i, mul_l, mul_r, neg_i, cmp_i, lt_i, eq_i, ne_i, isN_n, isN_i, isN_l, notN_n, notN_i, len_l, len_t, tru_l, tru_t, tru_b, tup_l, lst_l, lst_t, any_l, all_l, min_i, max_i, oIx_l, oIx_t, oIx_c0, oIx_c1, oIx_c2, limV,
  nup1, nup_le, nup_lt, nup_eq, ← Int.natCast_add,
  posts_some, postg_some, end_rt, end_nx, lp_nx, lp_ct, lp_bk, lp_rt, lp_er, sqq_nx, sqq_rt, sqq_er, sqq_bk, sqq_ct, wO_some, app_w, put_w, frz_o, frzK_some, nlit_le, nlit_lt, nlit_ge, nlit_gt, nlit_eq, nge0, in_tf, all_true, lenset_n, nm4, nm3, nm2, nd4, nd2, eq_n, le_n, eMv, eSt, eM, eGl, 
  Option.map_some, Option.map_none, Option.bind_some, fin_nx, fin_rt, fin_er, List.length_cons, List.length_nil, List.length_map, List.length_append, List.length_range, List.set_cons_zero, List.set_cons_succ, ↓reduceIte, Nat.zero_add, Nat.add_zero, Nat.zero_le, Nat.reduceAdd, Nat.reduceLeDiff, Nat.reduceEqDiff, Int.reduceLT, Int.reduceNeg, Int.reducePow, Option.isNone_none, Option.isNone_some, Option.isSome_none, Option.isSome_some, decide_eq_true_eq, decide_true, decide_false, Bool.not_true, Bool.not_false, Bool.false_eq_true, eq_self, and_self, true_and, and_true, Bool.true_xor, Bool.false_xor])
local macro_rules | `(tactic| walk_at "in") => `(tactic| simp only [rho0, List.map_cons, List.map_nil, List.cons_append, List.nil_append, List.length_cons, List.length_nil, Nat.reduceAdd, Nat.reduceSub, Nat.zero_add, Nat.sub_self, rep0, repS])
local macro_rules | `(tactic| walk_at "evo") => `(tactic| simp (disch := (first | omega | (simp only [List.length_map, List.length_append, List.length_cons, List.length_nil, List.length_range, List.length_set, List.length_replicate]; omega))) only [addT6, addL6, rng1_n, rngO_n, mod_n, ofE_err, bnd_err, ofE_ok, ofE_ok', bnd_ok, bnd_ok', sSeq_ev, sq_nx, sq_rt, sq_er, sq_bk, sq_ct, sIf_ev, sRet_ev, sDrop_ev, sSkip_ev, sRetN_ev, sRaise_ev, sFor_ev, eC_ev, e2_ev, e1_ev, eFn_ev, eCall_ev, aCons_ev, aNil_ev, nNew_ev, eTup_ev, eLst_ev, eIf_ev, eNew_ev, tTru_ev, tNot_ev, tAnd_ev, tOr_ev, tYes_ev, nLc_ev, wipe0, wipeS, tix_ev, set_ev, asg_ev, setO_ev, v0, vS, o0, o0', oS, g0, gS, own0, ownS, setAt0, setAtS, e3_ev, and_ev, or_ev, not_ev, val_ev, asB_b, iSeq_ev, seqOf_l, seqOf_t, iR1_ev, nRng_ev, gT_ev, gs_c, gs_n,
  add_i, sub_i, div_i, mod_i, mul_l, mul_r, neg_i, cmp_i, lt_i, eq_i, ne_i, isN_n, isN_i, isN_l, notN_n, notN_i, len_l, len_t, tru_l, tru_t, tru_b, tup_l, lst_l, lst_t, any_l, all_l, min_i, max_i, oIx_l, oIx_t, oIx_c0, oIx_c1, oIx_c2, limV,
  nup1, nup_le, nup_lt, nup_eq, ← Int.natCast_add,
  posts_some, postg_some, end_rt, end_nx, lp_nx, lp_ct, lp_bk, lp_rt, lp_er, sqq_nx, sqq_rt, sqq_er, sqq_bk, sqq_ct, wO_some, app_w, put_w, frz_o, frzK_some, nlit_le, nlit_lt, nlit_ge, nlit_gt, nlit_eq, nge0, in_tf, all_true, lenset_n, nm4, nm3, nm2, nd4, nd2, eq_n, le_n, eMv, eSt, eM, eGl, 
  Option.map_some, Option.map_none, Option.bind_some, fin_nx, fin_rt, fin_er, List.length_cons, List.length_nil, List.length_map, List.length_append, List.length_range, List.set_cons_zero, List.set_cons_succ, ↓reduceIte, Nat.zero_add, Nat.add_zero, Nat.zero_le, Nat.reduceAdd, Nat.reduceLeDiff, Nat.reduceEqDiff, Int.reduceLT, Int.reduceNeg, Int.reducePow, Option.isNone_none, Option.isNone_some, Option.isSome_none, Option.isSome_some, decide_eq_true_eq, decide_true, decide_false, Bool.not_true, Bool.not_false, Bool.false_eq_true, eq_self, and_self, true_and, and_true, Bool.true_xor, Bool.false_xor])
local macro_rules | `(tactic| walk_at "evh") => `(tactic| simp only [*, ofE_err, bnd_err, ofE_ok, ofE_ok', bnd_ok, bnd_ok', sSeq_ev, sq_nx, sq_rt, sq_er, sq_bk, sq_ct, sIf_ev, sRet_ev, sDrop_ev, sSkip_ev, sRetN_ev, sRaise_ev, sFor_ev, eC_ev, e2_ev, e1_ev, eFn_ev, eCall_ev, aCons_ev, aNil_ev, nNew_ev, eTup_ev, eLst_ev, eIf_ev, eNew_ev, tTru_ev, tNot_ev, tAnd_ev, tOr_ev, tYes_ev, nLc_ev, wipe0, wipeS, tix_ev, set_ev, asg_ev, setO_ev, v0, vS, o0, o0', oS, g0, gS, own0, ownS, setAt0, setAtS, e3_ev, and_ev, or_ev, not_ev, val_ev, asB_b, iSeq_ev, seqOf_l, seqOf_t, iR1_ev, nRng_ev, gT_ev, gs_c, gs_n,
  add_i, sub_i, div_i, mod_i, mul_l, mul_r, neg_i, cmp_i, lt_i, eq_i, ne_i, isN_n, isN_i, isN_l, notN_n, notN_i, len_l, len_t, tru_l, tru_t, tru_b, tup_l, lst_l, lst_t, any_l, all_l, min_i, max_i, oIx_l, oIx_t, oIx_c0, oIx_c1, oIx_c2, limV,
  nup1, nup_le, nup_lt, nup_eq, ← Int.natCast_add,
  posts_some, postg_some, end_rt, end_nx, lp_nx, lp_ct, lp_bk, lp_rt, lp_er, sqq_nx, sqq_rt, sqq_er, sqq_bk, sqq_ct, wO_some, app_w, put_w, frz_o, frzK_some, nlit_le, nlit_lt, nlit_ge, nlit_gt, nlit_eq, nge0, in_tf, all_true, lenset_n, nm4, nm3, nm2, nd4, nd2, eq_n, le_n, eMv, eSt, eM, eGl, 
  Option.map_some, Option.map_none, Option.bind_some, fin_nx, fin_rt, fin_er, List.length_cons, List.length_nil, List.length_map, List.length_append, List.length_range, List.set_cons_zero, List.set_cons_succ, ↓reduceIte, Nat.zero_add, Nat.add_zero, Nat.zero_le, Nat.reduceAdd, Nat.reduceLeDiff, Nat.reduceEqDiff, Int.reduceLT, Int.reduceNeg, Int.reducePow, Option.isNone_none, Option.isNone_some, Option.isSome_none, Option.isSome_some, decide_eq_true_eq, decide_true, decide_false, Bool.not_true, Bool.not_false, Bool.false_eq_true, eq_self, and_self, true_and, and_true, Bool.true_xor, Bool.false_xor])
theorem goals_is (M : Mach) (h : Valid M) : m_goals_of [eM M] = ok (.list (M.map eGl)) := by
  have key : Post (fun d => d = .list (M.map eGl)) (m_goals_of [eM M]) := by
    refine post_run (by rfl) ?_
    walk_at "in"
    rw [b_goals_of]
    have h2 := h.le
    have h3 : M.length ≤ 1000000 := by omega
    walk_at "ev"
    rw [lc_allG (enc := eSt) eGl M h3 fun s hs => by
      have hm := (h.each s hs).moves
      have hb := (h.each s hs).boxes
      have h4 : s.2.2.length ≤ 1000000 := by omega
      walk_at "ev"
      rw [lc_allG (enc := eMv) (fun m => cN m.1) s.2.2 h4 fun m hm => by walk_at "ev"]
      walk_at "ev"
      rw [gls, List.map_map]; rfl]
    walk_at "ev"
  obtain ⟨d, e, rfl⟩ := key
  exact e
end WK

set_option Elab.async false
set_option linter.all false
set_option maxHeartbeats 4000000
set_option maxRecDepth 100000
noncomputable section
namespace WK
open PySem DL L2

local macro_rules | `(tactic| walk_at "ev") => `(tactic| simp only [ofE_err, bnd_err, ofE_ok, ofE_ok', bnd_ok, bnd_ok', sSeq_ev, sq_nx, sq_rt, sq_er, sq_bk, sq_ct, sIf_ev, sRet_ev, sDrop_ev, sSkip_ev, sRetN_ev, sRaise_ev, sFor_ev, eC_ev, e2_ev, e1_ev, eFn_ev, eCall_ev, aCons_ev, aNil_ev, nNew_ev, eTup_ev, eLst_ev, eIf_ev, eNew_ev, tTru_ev, tNot_ev, tAnd_ev, tOr_ev, tYes_ev, nLc_ev, wipe0, wipeS, tix_ev, set_ev, asg_ev, setO_ev, v0, vS, o0, o0', oS, g0, gS, own0, ownS, setAt0, setAtS, e3_ev, and_ev, or_ev, not_ev, val_ev, asB_b, iSeq_ev, seqOf_l, seqOf_t, iR1_ev, nRng_ev, gT_ev, gs_c, gs_n,
  add_i, sub_i, div_i, mod_i, mul_l, mul_r, neg_i, cmp_i, lt_i, eq_i, ne_i, isN_n, isN_i, isN_l, notN_n, notN_i, len_l, len_t, tru_l, tru_t, tru_b, tup_l, lst_l, lst_t, any_l, all_l, min_i, max_i, oIx_l, oIx_t, oIx_c0, oIx_c1, oIx_c2, limV,
  nup1, nup_le, nup_lt, nup_eq, ← Int.natCast_add,
  posts_some, postg_some, end_rt, end_nx, lp_nx, lp_ct, lp_bk, lp_rt, lp_er, sqq_nx, sqq_rt, sqq_er, sqq_bk, sqq_ct, wO_some, app_w, put_w, frz_o, frzK_some, nlit_le, nlit_lt, nlit_ge, nlit_gt, nlit_eq, nge0, in_tf, all_true, lenset_n, nm4, nm3, nm2, nd4, nd2, eq_n, le_n, eMv, eSt, eM, 
  Option.map_some, Option.map_none, Option.bind_some, fin_nx, fin_rt, fin_er, List.length_cons, List.length_nil, List.length_map, List.length_append, List.length_range, List.set_cons_zero, List.set_cons_succ, ↓reduceIte, Nat.zero_add, Nat.add_zero, Nat.zero_le, Nat.reduceAdd, Nat.reduceLeDiff, Nat.reduceEqDiff, Int.reduceLT, Int.reduceNeg, Int.reducePow, Option.isNone_none, Option.isNone_some, Option.isSome_none, Option.isSome_some, decide_eq_true_eq, decide_true, decide_false, Bool.not_true, Bool.not_false, Bool.false_eq_true, eq_self, and_self, true_and, and_true, Bool.true_xor, Bool.false_xor])
local macro_rules | `(tactic| walk_at "in") => `(tactic| simp only [rho0, List.map_cons, List.map_nil, List.cons_append, List.nil_append, List.length_cons, List.length_nil, Nat.reduceAdd, Nat.reduceSub, Nat.zero_add, Nat.sub_self, rep0, repS])
local macro_rules | `(tactic| walk_at "evo") => `(tactic| simp (disch := (first | omega | (simp only [List.length_map, List.length_append, List.length_cons, List.length_nil, List.length_range, List.length_set, List.length_replicate]; omega))) only [addT6, addL6, rng1_n, rngO_n, mod_n, ofE_err, bnd_err, ofE_ok, ofE_ok', bnd_ok, bnd_ok', sSeq_ev, sq_nx, sq_rt, sq_er, sq_bk, sq_ct, sIf_ev, sRet_ev, sDrop_ev, sSkip_ev, sRetN_ev, sRaise_ev, sFor_ev, eC_ev, e2_ev, e1_ev, eFn_ev, eCall_ev, aCons_ev, aNil_ev, nNew_ev, eTup_ev, eLst_ev, eIf_ev, eNew_ev, tTru_ev, tNot_ev, tAnd_ev, tOr_ev, tYes_ev, nLc_ev, wipe0, wipeS, tix_ev, set_ev, asg_ev, setO_ev, v0, vS, o0, o0', oS, g0, gS, own0, ownS, setAt0, setAtS, e3_ev, and_ev, or_ev, not_ev, val_ev, asB_b, iSeq_ev, seqOf_l, seqOf_t, iR1_ev, nRng_ev, gT_ev, gs_c, gs_n,
  add_i, sub_i, div_i, mod_i, mul_l, mul_r, neg_i, cmp_i, lt_i, eq_i, ne_i, isN_n, isN_i, isN_l, notN_n, notN_i, len_l, len_t, tru_l, tru_t, tru_b, tup_l, lst_l, lst_t, any_l, all_l, min_i, max_i, oIx_l, oIx_t, oIx_c0, oIx_c1, oIx_c2, limV,
  nup1, nup_le, nup_lt, nup_eq, ← Int.natCast_add,
  posts_some, postg_some, end_rt, end_nx, lp_nx, lp_ct, lp_bk, lp_rt, lp_er, sqq_nx, sqq_rt, sqq_er, sqq_bk, sqq_ct, wO_some, app_w, put_w, frz_o, frzK_some, nlit_le, nlit_lt, nlit_ge, nlit_gt, nlit_eq, nge0, in_tf, all_true, lenset_n, nm4, nm3, nm2, nd4, nd2, eq_n, le_n, eMv, eSt, eM, 
  Option.map_some, Option.map_none, Option.bind_some, fin_nx, fin_rt, fin_er, List.length_cons, List.length_nil, List.length_map, List.length_append, List.length_range, List.set_cons_zero, List.set_cons_succ, ↓reduceIte, Nat.zero_add, Nat.add_zero, Nat.zero_le, Nat.reduceAdd, Nat.reduceLeDiff, Nat.reduceEqDiff, Int.reduceLT, Int.reduceNeg, Int.reducePow, Option.isNone_none, Option.isNone_some, Option.isSome_none, Option.isSome_some, decide_eq_true_eq, decide_true, decide_false, Bool.not_true, Bool.not_false, Bool.false_eq_true, eq_self, and_self, true_and, and_true, Bool.true_xor, Bool.false_xor])
local macro_rules | `(tactic| walk_at "evh") => `(tactic| simp only [*, ofE_err, bnd_err, ofE_ok, ofE_ok', bnd_ok, bnd_ok', sSeq_ev, sq_nx, sq_rt, sq_er, sq_bk, sq_ct, sIf_ev, sRet_ev, sDrop_ev, sSkip_ev, sRetN_ev, sRaise_ev, sFor_ev, eC_ev, e2_ev, e1_ev, eFn_ev, eCall_ev, aCons_ev, aNil_ev, nNew_ev, eTup_ev, eLst_ev, eIf_ev, eNew_ev, tTru_ev, tNot_ev, tAnd_ev, tOr_ev, tYes_ev, nLc_ev, wipe0, wipeS, tix_ev, set_ev, asg_ev, setO_ev, v0, vS, o0, o0', oS, g0, gS, own0, ownS, setAt0, setAtS, e3_ev, and_ev, or_ev, not_ev, val_ev, asB_b, iSeq_ev, seqOf_l, seqOf_t, iR1_ev, nRng_ev, gT_ev, gs_c, gs_n,
  add_i, sub_i, div_i, mod_i, mul_l, mul_r, neg_i, cmp_i, lt_i, eq_i, ne_i, isN_n, isN_i, isN_l, notN_n, notN_i, len_l, len_t, tru_l, tru_t, tru_b, tup_l, lst_l, lst_t, any_l, all_l, min_i, max_i, oIx_l, oIx_t, oIx_c0, oIx_c1, oIx_c2, limV,
  nup1, nup_le, nup_lt, nup_eq, ← Int.natCast_add,
  posts_some, postg_some, end_rt, end_nx, lp_nx, lp_ct, lp_bk, lp_rt, lp_er, sqq_nx, sqq_rt, sqq_er, sqq_bk, sqq_ct, wO_some, app_w, put_w, frz_o, frzK_some, nlit_le, nlit_lt, nlit_ge, nlit_gt, nlit_eq, nge0, in_tf, all_true, lenset_n, nm4, nm3, nm2, nd4, nd2, eq_n, le_n, eMv, eSt, eM, 
  Option.map_some, Option.map_none, Option.bind_some, fin_nx, fin_rt, fin_er, List.length_cons, List.length_nil, List.length_map, List.length_append, List.length_range, List.set_cons_zero, List.set_cons_succ, ↓reduceIte, Nat.zero_add, Nat.add_zero, Nat.zero_le, Nat.reduceAdd, Nat.reduceLeDiff, Nat.reduceEqDiff, Int.reduceLT, Int.reduceNeg, Int.reducePow, Option.isNone_none, Option.isNone_some, Option.isSome_none, Option.isSome_some, decide_eq_true_eq, decide_true, decide_false, Bool.not_true, Bool.not_false, Bool.false_eq_true, eq_self, and_self, true_and, and_true, Bool.true_xor, Bool.false_xor])
theorem Valid.goalsI {M : Mach} (h : Valid M) : ∀ k, k < M.length → ∀ g ∈ gls (stA M k), g < M.length := fun k hk g hg => by
  obtain ⟨m, hm, rfl⟩ := List.mem_map.mp hg
  obtain ⟨c, hc⟩ := List.getElem?_of_mem hm
  exact ((h.each _ (stA_mem hk).1).each c m hc).lt.1
structure RI (M : Mach) (R : List Bool) (left : List Nat) (x : Option Nat) : Prop where
  len : R.length = M.length
  zero : R[0]? = some true
  lft : ∀ g ∈ left, R[g]? = some true
  clo : ∀ k, R[k]? = some true → k ∉ left → some k ≠ x → ∀ g ∈ gls (stA M k), R[g]? = some true
  snd : ∀ S : Nat → Prop, S 0 → (∀ k, S k → k < M.length → ∀ g ∈ gls (stA M k), S g) → ∀ k, R[k]? = some true → S k
def nun (R : List Bool) : Nat := R.countP (!·)
theorem mark_get {R : List Bool} {g k : Nat} (hg : g < R.length) : (R.set g true)[k]? = some true ↔ (k = g ∨ R[k]? = some true) := by
  by_cases h : k = g
  · subst h
    rw [List.getElem?_set_self hg]; simp
  · rw [List.getElem?_set_ne (Ne.symm h)]; simp [h]
theorem nun_mark : ∀ {R : List Bool} {g : Nat}, R[g]? = some false → nun (R.set g true) + 1 = nun R
  | [], g, h => by simp at h
  | b :: R, 0, h => by
    simp at h; subst h
    simp [nun]
  | b :: R, g + 1, h => by
    have := nun_mark (R := R) (g := g) (by simpa using h)
    unfold nun at this ⊢
    rw [List.set_cons_succ, List.countP_cons, List.countP_cons]
    omega
theorem RI.mark {M : Mach} {R : List Bool} {left : List Nat} {n g : Nat} (h : RI M R left (some n)) (hn : R[n]? = some true) (hnl : n < M.length) (hg : g ∈ gls (stA M n)) (hgl : g < M.length) : RI M (R.set g true) (left ++ [g]) (some n) := by
  have hl : g < R.length := by rw [h.len]; exact hgl
  refine ⟨by rw [List.length_set]; exact h.len, (mark_get hl).mpr (.inr h.zero), fun k hk => ?_, fun k hk hkl hkx g' hg' => ?_, fun S s0 sc k hk => ?_⟩
  · rcases List.mem_append.mp hk with q | q
    · exact (mark_get hl).mpr (.inr (h.lft k q))
    · exact (mark_get hl).mpr (.inl (List.mem_singleton.mp q))
  · rcases (mark_get hl).mp hk with rfl | q
    · exact absurd (List.mem_append_right _ (List.mem_singleton.mpr rfl)) hkl
    · exact (mark_get hl).mpr (.inr (h.clo k q (fun z => hkl (List.mem_append_left _ z)) hkx g' hg'))
  · rcases (mark_get hl).mp hk with rfl | q
    · exact sc n (h.snd S s0 sc n hn) hnl k hg
    · exact h.snd S s0 sc k q
theorem reached_is {M : Mach} (V : Valid M) : ∃ R : List Bool, m_reached [eM M] = ok (.list (R.map .bool)) ∧ R.length = M.length ∧ R[0]? = some true ∧ (∀ k, R[k]? = some true → ∀ g ∈ gls (stA M k), R[g]? = some true) ∧
    ∀ S : Nat → Prop, S 0 → (∀ k, S k → k < M.length → ∀ g ∈ gls (stA M k), S g) → ∀ k, R[k]? = some true → S k := by
  have hlook := look_is M V
  have hgo := goals_is M V
  rw [eM] at hlook hgo
  have hM := V.le
  have key : Post (fun d => ∃ R : List Bool, d = .list (R.map .bool) ∧ R.length = M.length ∧ R[0]? = some true ∧ (∀ k, R[k]? = some true → ∀ g ∈ gls (stA M k), R[g]? = some true) ∧
    ∀ S : Nat → Prop, S 0 → (∀ k, S k → k < M.length → ∀ g ∈ gls (stA M k), S g) → ∀ k, R[k]? = some true → S k) (m_reached [eM M]) := by
    refine post_run (by rfl) ?_
    walk_at "in"
    rw [b_reached]
    walk_at "ev"
    rw [hlook]
    walk_at "ev"
    rw [hgo]
    walk_at "ev"
    rw [nRep1 (x := .bool false) (n := M.length) rfl (by walk_at "ev") (by omega)]
    walk_at "ev"
    have hix0 : ixD (List.replicate M.length (PyData.bool false)).length (.int 0) = some 0 := ixD_n (j := 0) (by rw [List.length_replicate]; exact V.pos)
    rw [hix0]
    walk_at "ev"
    have hbs : (List.replicate M.length (PyData.bool false)).set 0 (.bool true) = ((List.replicate M.length false).set 0 true).map .bool := by
      rw [List.map_set, List.map_replicate]
    rw [hbs]
    have ri0 : RI M ((List.replicate M.length false).set 0 true) [0] none := by
      have hl : 0 < (List.replicate M.length false).length := by rw [List.length_replicate]; exact V.pos
      have hz : ∀ k, ((List.replicate M.length false).set 0 true)[k]? = some true → k = 0 := fun k hk => by
        rcases (mark_get hl).mp hk with q | q
        · exact q
        · obtain ⟨_, e⟩ := List.getElem?_eq_some_iff.mp q
          rw [List.getElem_replicate] at e; cases e
      refine ⟨by rw [List.length_set, List.length_replicate], (mark_get hl).mpr (.inl rfl), fun g hg => ?_, fun k hk hkl => ?_, fun S s0 _ k hk => by rw [hz k hk]; exact s0⟩
      · rw [List.mem_singleton.mp hg]; exact (mark_get hl).mpr (.inl rfl)
      · rw [hz k hk] at hkl; exact absurd (List.mem_singleton.mpr rfl) hkl
    have hb0 : 2 * nun ((List.replicate M.length false).set 0 true) + 1 ≤ 801 := by
      have : nun ((List.replicate M.length false).set 0 true) ≤ ((List.replicate M.length false).set 0 true).length := List.countP_le_length
      rw [List.length_set, List.length_replicate] at this
      omega
    generalize (List.replicate M.length false).set 0 true = R0 at ri0 hb0
    refine posts_sq (posts_while (fun n r => ∃ (R : List Bool) (left : List Nat) (j4 : Option B), RI M R left none ∧ Eqn n (2 * nun R + left.length) ∧ 2 * nun R + left.length ≤ 801 ∧ r = [some (.d (.list (M.map eSt))), some (.d (.list (M.map eGl))), some (.own (R.map .bool)), some (.own (left.map cN)), j4]) (2 * nun R0 + 1) ?_ (by omega) ?_)
    · exact ⟨R0, [0], none, ri0, Eqn.rf, hb0, rfl⟩
    · rintro n r ⟨R, left, j4, ri, hn, hb, rfl⟩
      refine ⟨!left.isEmpty, by walk_at "ev"; rw [List.isEmpty_map], ?_⟩
      rcases List.eq_nil_or_concat left with rfl | ⟨zs, x, rfl⟩
      · rw [if_neg (by simp)]
        walk_at "ev"
        exact ⟨R, rfl, ri.len, ri.zero, fun k hk g hg => ri.clo k hk (by simp) (by simp) g hg, ri.snd⟩
      · rw [if_pos (by simp)]
        rw [List.concat_eq_append] at ri hn hb
        rw [List.length_append, List.length_singleton] at hb
        have hxR : R[x]? = some true := ri.lft x (by simp)
        have hxl : x < M.length := by
          have := (List.getElem?_eq_some_iff.mp hxR).1
          rw [ri.len] at this; exact this
        have ri1 : RI M R zs (some x) := by
          refine ⟨ri.len, ri.zero, fun g hg => ri.lft g (by simp [hg]), fun k hk hkl hkx => ri.clo k hk (fun z => ?_) (fun z => by cases z), ri.snd⟩
          rcases List.mem_append.mp z with q | q
          · exact hkl q
          · exact hkx (by rw [List.mem_singleton.mp q])
        rw [forP_ev (enc := eGl) (it := fun s => (gls s).map cN) (fun _ => rfl) (L := M) (zs := zs) (n := x) (x := stA M x) rfl (by rw [List.concat_eq_append]; rfl) (stA_mem hxl).2.1]
        walk_at "ev"
        have hn' := hn.le
        rw [List.length_append, List.length_singleton] at hn'
        refine posts_for (fun i r => ∃ (R2 : List Bool) (left : List Nat) (j4 : Option B), RI M R2 left (some x) ∧ R2[x]? = some true ∧ (∀ g ∈ (gls (stA M x)).take i, R2[g]? = some true) ∧ 2 * nun R2 + left.length ≤ 2 * nun R + zs.length ∧ r = [some (.d (.list (M.map eSt))), some (.d (.list (M.map eGl))), some (.own (R2.map .bool)), some (.own (left.map cN)), j4]) ?_ ?_ ?_
        · exact ⟨R, zs, _, ri1, hxR, by simp, Nat.le_refl _, rfl⟩
        · rintro i y r hy ⟨R2, left, j4, r1, r2, r3, r4, rfl⟩
          obtain ⟨g, hg, rfl⟩ := getq_map hy
          obtain ⟨hgi, hge⟩ := List.getElem?_eq_some_iff.mp hg
          have hgm : g ∈ gls (stA M x) := List.mem_of_getElem? hg
          have hgl := V.goalsI x hxl g hgm
          have hgR : g < R2.length := by rw [r1.len]; exact hgl
          have hix : oIx (.list (R2.map .bool)) (cN g) = ok (.bool R2[g]) := oIx_list PyData.bool R2 g _ (List.getElem?_eq_getElem hgR)
          walk_at "ev"
          rw [hix]
          walk_at "ev"
          cases hv : R2[g] with
          | true =>
            walk_at "ev"
            refine ⟨R2, left, _, r1, r2, fun z hz => ?_, r4, rfl⟩
            rw [List.take_succ_eq_append_getElem hgi, hge] at hz
            rcases List.mem_append.mp hz with q | q
            · exact r3 z q
            · rw [List.mem_singleton.mp q, List.getElem?_eq_getElem hgR, hv]
          | false =>
            have hll : left.length < 1000000 := by omega
            have hixd := ixD_n (n := R2.length) hgR
            walk_at "evh"
            have hnm := nun_mark (R := R2) (g := g) (by rw [List.getElem?_eq_getElem hgR, hv])
            refine ⟨R2.set g true, left ++ [g], _, r1.mark r2 hxl hgm hgl, (mark_get hgR).mpr (.inr r2), fun z hz => ?_, by rw [List.length_append, List.length_singleton]; omega, by rw [List.map_set, List.map_append]; rfl⟩
            rw [List.take_succ_eq_append_getElem hgi, hge] at hz
            rcases List.mem_append.mp hz with q | q
            · exact (mark_get hgR).mpr (.inr (r3 z q))
            · exact (mark_get hgR).mpr (.inl (List.mem_singleton.mp q))
        · rintro r ⟨R2, left, j4, r1, r2, r3, r4, rfl⟩
          rw [List.length_map, List.take_length] at r3
          refine ⟨2 * nun R2 + left.length, by omega, R2, left, _, ⟨r1.len, r1.zero, r1.lft, fun k hk hkl _ g hg => ?_, r1.snd⟩, Eqn.rf, by omega, rfl⟩
          by_cases hkx : k = x
          · subst hkx; exact r3 g hg
          · exact r1.clo k hk hkl (fun z => hkx (Option.some.inj z)) g hg
  obtain ⟨d, e, R, rfl, h⟩ := key
  exact ⟨R, e, h⟩
end WK

set_option Elab.async false
set_option linter.all false
set_option maxHeartbeats 4000000
set_option maxRecDepth 100000
noncomputable section
namespace WK
open PySem DL L2

local macro_rules | `(tactic| walk_at "ev") => `(tactic| simp only [ofE_err, bnd_err, ofE_ok, ofE_ok', bnd_ok, bnd_ok', sSeq_ev, sq_nx, sq_rt, sq_er, sq_bk, sq_ct, sIf_ev, sRet_ev, sDrop_ev, sSkip_ev, sRetN_ev, sRaise_ev, sFor_ev, eC_ev, e2_ev, e1_ev, eFn_ev, eCall_ev, aCons_ev, aNil_ev, nNew_ev, eTup_ev, eLst_ev, eIf_ev, eNew_ev, tTru_ev, tNot_ev, tAnd_ev, tOr_ev, tYes_ev, nLc_ev, wipe0, wipeS, tix_ev, set_ev, asg_ev, setO_ev, v0, vS, o0, o0', oS, g0, gS, own0, ownS, setAt0, setAtS, e3_ev, and_ev, or_ev, not_ev, val_ev, asB_b, iSeq_ev, seqOf_l, seqOf_t, iR1_ev, nRng_ev, gT_ev, gs_c, gs_n,
  add_i, sub_i, div_i, mod_i, mul_l, mul_r, neg_i, cmp_i, lt_i, eq_i, ne_i, isN_n, isN_i, isN_l, notN_n, notN_i, len_l, len_t, tru_l, tru_t, tru_b, tup_l, lst_l, lst_t, any_l, all_l, min_i, max_i, oIx_l, oIx_t, oIx_c0, oIx_c1, oIx_c2, limV,
  nup1, nup_le, nup_lt, nup_eq, ← Int.natCast_add,
  posts_some, postg_some, end_rt, end_nx, lp_nx, lp_ct, lp_bk, lp_rt, lp_er, sqq_nx, sqq_rt, sqq_er, sqq_bk, sqq_ct, wO_some, app_w, put_w, frz_o, frzK_some, nlit_le, nlit_lt, nlit_ge, nlit_gt, nlit_eq, nge0, in_tf, all_true, lenset_n, nm4, nm3, nm2, nd4, nd2, eq_n, le_n, isX_ev, isN_x, tryK_ev, sqK_nx, sqK_rt, sqK_er, 
  Option.map_some, Option.map_none, Option.bind_some, fin_nx, fin_rt, fin_er, List.length_cons, List.length_nil, List.length_map, List.length_append, List.length_range, List.set_cons_zero, List.set_cons_succ, ↓reduceIte, Nat.zero_add, Nat.add_zero, Nat.zero_le, Nat.reduceAdd, Nat.reduceLeDiff, Nat.reduceEqDiff, Int.reduceLT, Int.reduceNeg, Int.reducePow, Option.isNone_none, Option.isNone_some, Option.isSome_none, Option.isSome_some, decide_eq_true_eq, decide_true, decide_false, Bool.not_true, Bool.not_false, Bool.false_eq_true, eq_self, and_self, true_and, and_true, Bool.true_xor, Bool.false_xor])
local macro_rules | `(tactic| walk_at "in") => `(tactic| simp only [rho0, List.map_cons, List.map_nil, List.cons_append, List.nil_append, List.length_cons, List.length_nil, Nat.reduceAdd, Nat.reduceSub, Nat.zero_add, Nat.sub_self, rep0, repS])
local macro_rules | `(tactic| walk_at "evo") => `(tactic| simp (disch := (first | omega | (simp only [List.length_map, List.length_append, List.length_cons, List.length_nil, List.length_range, List.length_set, List.length_replicate]; omega))) only [addT6, addL6, rng1_n, rngO_n, mod_n, ofE_err, bnd_err, ofE_ok, ofE_ok', bnd_ok, bnd_ok', sSeq_ev, sq_nx, sq_rt, sq_er, sq_bk, sq_ct, sIf_ev, sRet_ev, sDrop_ev, sSkip_ev, sRetN_ev, sRaise_ev, sFor_ev, eC_ev, e2_ev, e1_ev, eFn_ev, eCall_ev, aCons_ev, aNil_ev, nNew_ev, eTup_ev, eLst_ev, eIf_ev, eNew_ev, tTru_ev, tNot_ev, tAnd_ev, tOr_ev, tYes_ev, nLc_ev, wipe0, wipeS, tix_ev, set_ev, asg_ev, setO_ev, v0, vS, o0, o0', oS, g0, gS, own0, ownS, setAt0, setAtS, e3_ev, and_ev, or_ev, not_ev, val_ev, asB_b, iSeq_ev, seqOf_l, seqOf_t, iR1_ev, nRng_ev, gT_ev, gs_c, gs_n,
  add_i, sub_i, div_i, mod_i, mul_l, mul_r, neg_i, cmp_i, lt_i, eq_i, ne_i, isN_n, isN_i, isN_l, notN_n, notN_i, len_l, len_t, tru_l, tru_t, tru_b, tup_l, lst_l, lst_t, any_l, all_l, min_i, max_i, oIx_l, oIx_t, oIx_c0, oIx_c1, oIx_c2, limV,
  nup1, nup_le, nup_lt, nup_eq, ← Int.natCast_add,
  posts_some, postg_some, end_rt, end_nx, lp_nx, lp_ct, lp_bk, lp_rt, lp_er, sqq_nx, sqq_rt, sqq_er, sqq_bk, sqq_ct, wO_some, app_w, put_w, frz_o, frzK_some, nlit_le, nlit_lt, nlit_ge, nlit_gt, nlit_eq, nge0, in_tf, all_true, lenset_n, nm4, nm3, nm2, nd4, nd2, eq_n, le_n, isX_ev, isN_x, tryK_ev, sqK_nx, sqK_rt, sqK_er, 
  Option.map_some, Option.map_none, Option.bind_some, fin_nx, fin_rt, fin_er, List.length_cons, List.length_nil, List.length_map, List.length_append, List.length_range, List.set_cons_zero, List.set_cons_succ, ↓reduceIte, Nat.zero_add, Nat.add_zero, Nat.zero_le, Nat.reduceAdd, Nat.reduceLeDiff, Nat.reduceEqDiff, Int.reduceLT, Int.reduceNeg, Int.reducePow, Option.isNone_none, Option.isNone_some, Option.isSome_none, Option.isSome_some, decide_eq_true_eq, decide_true, decide_false, Bool.not_true, Bool.not_false, Bool.false_eq_true, eq_self, and_self, true_and, and_true, Bool.true_xor, Bool.false_xor])
local macro_rules | `(tactic| walk_at "evh") => `(tactic| simp only [*, ofE_err, bnd_err, ofE_ok, ofE_ok', bnd_ok, bnd_ok', sSeq_ev, sq_nx, sq_rt, sq_er, sq_bk, sq_ct, sIf_ev, sRet_ev, sDrop_ev, sSkip_ev, sRetN_ev, sRaise_ev, sFor_ev, eC_ev, e2_ev, e1_ev, eFn_ev, eCall_ev, aCons_ev, aNil_ev, nNew_ev, eTup_ev, eLst_ev, eIf_ev, eNew_ev, tTru_ev, tNot_ev, tAnd_ev, tOr_ev, tYes_ev, nLc_ev, wipe0, wipeS, tix_ev, set_ev, asg_ev, setO_ev, v0, vS, o0, o0', oS, g0, gS, own0, ownS, setAt0, setAtS, e3_ev, and_ev, or_ev, not_ev, val_ev, asB_b, iSeq_ev, seqOf_l, seqOf_t, iR1_ev, nRng_ev, gT_ev, gs_c, gs_n,
  add_i, sub_i, div_i, mod_i, mul_l, mul_r, neg_i, cmp_i, lt_i, eq_i, ne_i, isN_n, isN_i, isN_l, notN_n, notN_i, len_l, len_t, tru_l, tru_t, tru_b, tup_l, lst_l, lst_t, any_l, all_l, min_i, max_i, oIx_l, oIx_t, oIx_c0, oIx_c1, oIx_c2, limV,
  nup1, nup_le, nup_lt, nup_eq, ← Int.natCast_add,
  posts_some, postg_some, end_rt, end_nx, lp_nx, lp_ct, lp_bk, lp_rt, lp_er, sqq_nx, sqq_rt, sqq_er, sqq_bk, sqq_ct, wO_some, app_w, put_w, frz_o, frzK_some, nlit_le, nlit_lt, nlit_ge, nlit_gt, nlit_eq, nge0, in_tf, all_true, lenset_n, nm4, nm3, nm2, nd4, nd2, eq_n, le_n, isX_ev, isN_x, tryK_ev, sqK_nx, sqK_rt, sqK_er, 
  Option.map_some, Option.map_none, Option.bind_some, fin_nx, fin_rt, fin_er, List.length_cons, List.length_nil, List.length_map, List.length_append, List.length_range, List.set_cons_zero, List.set_cons_succ, ↓reduceIte, Nat.zero_add, Nat.add_zero, Nat.zero_le, Nat.reduceAdd, Nat.reduceLeDiff, Nat.reduceEqDiff, Int.reduceLT, Int.reduceNeg, Int.reducePow, Option.isNone_none, Option.isNone_some, Option.isSome_none, Option.isSome_some, decide_eq_true_eq, decide_true, decide_false, Bool.not_true, Bool.not_false, Bool.false_eq_true, eq_self, and_self, true_and, and_true, Bool.true_xor, Bool.false_xor])
def nmX : XN → PyData
  | .mach => .str "machine"
  | .wrd => .str "word"
  | .many => .str "many"
  | .txt => .str "text"
theorem refusal_is (x : XN) : m__law_refusal [excD x] = ok (nmX x) := by
  rw [m__law_refusal, run_fin (by rfl)]
  walk_at "in"
  rw [b__law_refusal]
  cases x
  · have hc : eLCount (eO 1) (eC (.bool true)) [some (.d (excD .mach)), some (.own [.bool true, .bool false, .bool false, .bool false])] = ok (.int 1) := rfl
    have hi : eLIndex (eO 1) (eC (.bool true)) [some (.d (excD .mach)), some (.own [.bool true, .bool false, .bool false, .bool false])] = ok (cN 0) := rfl
    walk_at "ev"
    simp only [reduceCtorEq, decide_false, decide_true, Nat.reduceLT, ↓reduceIte, sq_nx, List.cons_append, List.nil_append]
    walk_at "evh"
    rfl
  · have hc : eLCount (eO 1) (eC (.bool true)) [some (.d (excD .wrd)), some (.own [.bool false, .bool false, .bool true, .bool false])] = ok (.int 1) := rfl
    have hi : eLIndex (eO 1) (eC (.bool true)) [some (.d (excD .wrd)), some (.own [.bool false, .bool false, .bool true, .bool false])] = ok (cN 2) := rfl
    walk_at "ev"
    simp only [reduceCtorEq, decide_false, decide_true, Nat.reduceLT, ↓reduceIte, sq_nx, List.cons_append, List.nil_append]
    walk_at "evh"
    rfl
  · have hc : eLCount (eO 1) (eC (.bool true)) [some (.d (excD .many)), some (.own [.bool false, .bool false, .bool false, .bool true])] = ok (.int 1) := rfl
    have hi : eLIndex (eO 1) (eC (.bool true)) [some (.d (excD .many)), some (.own [.bool false, .bool false, .bool false, .bool true])] = ok (cN 3) := rfl
    walk_at "ev"
    simp only [reduceCtorEq, decide_false, decide_true, Nat.reduceLT, ↓reduceIte, sq_nx, List.cons_append, List.nil_append]
    walk_at "evh"
    rfl
  · have hc : eLCount (eO 1) (eC (.bool true)) [some (.d (excD .txt)), some (.own [.bool false, .bool true, .bool false, .bool false])] = ok (.int 1) := rfl
    have hi : eLIndex (eO 1) (eC (.bool true)) [some (.d (excD .txt)), some (.own [.bool false, .bool true, .bool false, .bool false])] = ok (cN 1) := rfl
    walk_at "ev"
    simp only [reduceCtorEq, decide_false, decide_true, Nat.reduceLT, ↓reduceIte, sq_nx, List.cons_append, List.nil_append]
    walk_at "evh"
    rfl
end WK

set_option Elab.async false
set_option linter.all false
set_option maxHeartbeats 4000000
set_option maxRecDepth 100000
noncomputable section
namespace WK
open PySem DL L2

local macro_rules | `(tactic| walk_at "ev") => `(tactic| simp only [ofE_err, bnd_err, ofE_ok, ofE_ok', bnd_ok, bnd_ok', sSeq_ev, sq_nx, sq_rt, sq_er, sq_bk, sq_ct, sIf_ev, sRet_ev, sDrop_ev, sSkip_ev, sRetN_ev, sRaise_ev, sFor_ev, eC_ev, e2_ev, e1_ev, eFn_ev, eCall_ev, aCons_ev, aNil_ev, nNew_ev, eTup_ev, eLst_ev, eIf_ev, eNew_ev, tTru_ev, tNot_ev, tAnd_ev, tOr_ev, tYes_ev, nLc_ev, wipe0, wipeS, tix_ev, set_ev, asg_ev, setO_ev, v0, vS, o0, o0', oS, g0, gS, own0, ownS, setAt0, setAtS, e3_ev, and_ev, or_ev, not_ev, val_ev, asB_b, iSeq_ev, seqOf_l, seqOf_t, iR1_ev, nRng_ev, gT_ev, gs_c, gs_n,
  add_i, sub_i, div_i, mod_i, mul_l, mul_r, neg_i, cmp_i, lt_i, eq_i, ne_i, isN_n, isN_i, isN_l, notN_n, notN_i, len_l, len_t, tru_l, tru_t, tru_b, tup_l, lst_l, lst_t, any_l, all_l, min_i, max_i, oIx_l, oIx_t, oIx_c0, oIx_c1, oIx_c2, limV,
  nup1, nup_le, nup_lt, nup_eq, ← Int.natCast_add,
  posts_some, postg_some, end_rt, end_nx, lp_nx, lp_ct, lp_bk, lp_rt, lp_er, sqq_nx, sqq_rt, sqq_er, sqq_bk, sqq_ct, wO_some, app_w, put_w, frz_o, frzK_some, nlit_le, nlit_lt, nlit_ge, nlit_gt, nlit_eq, nge0, in_tf, all_true, lenset_n, nm4, nm3, nm2, nd4, nd2, eq_n, le_n, tryK_ev, sqK_nx, sqK_rt, sqK_er, isN_x, 
  Option.map_some, Option.map_none, Option.bind_some, fin_nx, fin_rt, fin_er, List.length_cons, List.length_nil, List.length_map, List.length_append, List.length_range, List.set_cons_zero, List.set_cons_succ, ↓reduceIte, Nat.zero_add, Nat.add_zero, Nat.zero_le, Nat.reduceAdd, Nat.reduceLeDiff, Nat.reduceEqDiff, Int.reduceLT, Int.reduceNeg, Int.reducePow, Option.isNone_none, Option.isNone_some, Option.isSome_none, Option.isSome_some, decide_eq_true_eq, decide_true, decide_false, Bool.not_true, Bool.not_false, Bool.false_eq_true, eq_self, and_self, true_and, and_true, Bool.true_xor, Bool.false_xor])
local macro_rules | `(tactic| walk_at "in") => `(tactic| simp only [rho0, List.map_cons, List.map_nil, List.cons_append, List.nil_append, List.length_cons, List.length_nil, Nat.reduceAdd, Nat.reduceSub, Nat.zero_add, Nat.sub_self, rep0, repS])
local macro_rules | `(tactic| walk_at "evo") => `(tactic| simp (disch := (first | omega | (simp only [List.length_map, List.length_append, List.length_cons, List.length_nil, List.length_range, List.length_set, List.length_replicate]; omega))) only [addT6, addL6, rng1_n, rngO_n, mod_n, ofE_err, bnd_err, ofE_ok, ofE_ok', bnd_ok, bnd_ok', sSeq_ev, sq_nx, sq_rt, sq_er, sq_bk, sq_ct, sIf_ev, sRet_ev, sDrop_ev, sSkip_ev, sRetN_ev, sRaise_ev, sFor_ev, eC_ev, e2_ev, e1_ev, eFn_ev, eCall_ev, aCons_ev, aNil_ev, nNew_ev, eTup_ev, eLst_ev, eIf_ev, eNew_ev, tTru_ev, tNot_ev, tAnd_ev, tOr_ev, tYes_ev, nLc_ev, wipe0, wipeS, tix_ev, set_ev, asg_ev, setO_ev, v0, vS, o0, o0', oS, g0, gS, own0, ownS, setAt0, setAtS, e3_ev, and_ev, or_ev, not_ev, val_ev, asB_b, iSeq_ev, seqOf_l, seqOf_t, iR1_ev, nRng_ev, gT_ev, gs_c, gs_n,
  add_i, sub_i, div_i, mod_i, mul_l, mul_r, neg_i, cmp_i, lt_i, eq_i, ne_i, isN_n, isN_i, isN_l, notN_n, notN_i, len_l, len_t, tru_l, tru_t, tru_b, tup_l, lst_l, lst_t, any_l, all_l, min_i, max_i, oIx_l, oIx_t, oIx_c0, oIx_c1, oIx_c2, limV,
  nup1, nup_le, nup_lt, nup_eq, ← Int.natCast_add,
  posts_some, postg_some, end_rt, end_nx, lp_nx, lp_ct, lp_bk, lp_rt, lp_er, sqq_nx, sqq_rt, sqq_er, sqq_bk, sqq_ct, wO_some, app_w, put_w, frz_o, frzK_some, nlit_le, nlit_lt, nlit_ge, nlit_gt, nlit_eq, nge0, in_tf, all_true, lenset_n, nm4, nm3, nm2, nd4, nd2, eq_n, le_n, tryK_ev, sqK_nx, sqK_rt, sqK_er, isN_x, 
  Option.map_some, Option.map_none, Option.bind_some, fin_nx, fin_rt, fin_er, List.length_cons, List.length_nil, List.length_map, List.length_append, List.length_range, List.set_cons_zero, List.set_cons_succ, ↓reduceIte, Nat.zero_add, Nat.add_zero, Nat.zero_le, Nat.reduceAdd, Nat.reduceLeDiff, Nat.reduceEqDiff, Int.reduceLT, Int.reduceNeg, Int.reducePow, Option.isNone_none, Option.isNone_some, Option.isSome_none, Option.isSome_some, decide_eq_true_eq, decide_true, decide_false, Bool.not_true, Bool.not_false, Bool.false_eq_true, eq_self, and_self, true_and, and_true, Bool.true_xor, Bool.false_xor])
local macro_rules | `(tactic| walk_at "evh") => `(tactic| simp only [*, ofE_err, bnd_err, ofE_ok, ofE_ok', bnd_ok, bnd_ok', sSeq_ev, sq_nx, sq_rt, sq_er, sq_bk, sq_ct, sIf_ev, sRet_ev, sDrop_ev, sSkip_ev, sRetN_ev, sRaise_ev, sFor_ev, eC_ev, e2_ev, e1_ev, eFn_ev, eCall_ev, aCons_ev, aNil_ev, nNew_ev, eTup_ev, eLst_ev, eIf_ev, eNew_ev, tTru_ev, tNot_ev, tAnd_ev, tOr_ev, tYes_ev, nLc_ev, wipe0, wipeS, tix_ev, set_ev, asg_ev, setO_ev, v0, vS, o0, o0', oS, g0, gS, own0, ownS, setAt0, setAtS, e3_ev, and_ev, or_ev, not_ev, val_ev, asB_b, iSeq_ev, seqOf_l, seqOf_t, iR1_ev, nRng_ev, gT_ev, gs_c, gs_n,
  add_i, sub_i, div_i, mod_i, mul_l, mul_r, neg_i, cmp_i, lt_i, eq_i, ne_i, isN_n, isN_i, isN_l, notN_n, notN_i, len_l, len_t, tru_l, tru_t, tru_b, tup_l, lst_l, lst_t, any_l, all_l, min_i, max_i, oIx_l, oIx_t, oIx_c0, oIx_c1, oIx_c2, limV,
  nup1, nup_le, nup_lt, nup_eq, ← Int.natCast_add,
  posts_some, postg_some, end_rt, end_nx, lp_nx, lp_ct, lp_bk, lp_rt, lp_er, sqq_nx, sqq_rt, sqq_er, sqq_bk, sqq_ct, wO_some, app_w, put_w, frz_o, frzK_some, nlit_le, nlit_lt, nlit_ge, nlit_gt, nlit_eq, nge0, in_tf, all_true, lenset_n, nm4, nm3, nm2, nd4, nd2, eq_n, le_n, tryK_ev, sqK_nx, sqK_rt, sqK_er, isN_x, 
  Option.map_some, Option.map_none, Option.bind_some, fin_nx, fin_rt, fin_er, List.length_cons, List.length_nil, List.length_map, List.length_append, List.length_range, List.set_cons_zero, List.set_cons_succ, ↓reduceIte, Nat.zero_add, Nat.add_zero, Nat.zero_le, Nat.reduceAdd, Nat.reduceLeDiff, Nat.reduceEqDiff, Int.reduceLT, Int.reduceNeg, Int.reducePow, Option.isNone_none, Option.isNone_some, Option.isSome_none, Option.isSome_some, decide_eq_true_eq, decide_true, decide_false, Bool.not_true, Bool.not_false, Bool.false_eq_true, eq_self, and_self, true_and, and_true, Bool.true_xor, Bool.false_xor])
theorem gone_bad {B W : PyData} (h : m_look_machine [B] = some (.error .mach)) : m_gone [B, W] = some (.error .mach) := by
  rw [m_gone, run_fin (by rfl)]
  walk_at "in"
  rw [b_gone]
  walk_at "evh"
theorem takes_bad {B W : PyData} (h : m_look_machine [B] = some (.error .mach)) : m_takes [B, W] = some (.error .mach) := by
  have hg := gone_bad (W := W) h
  rw [m_takes, run_fin (by rfl)]
  walk_at "in"
  rw [b_takes]
  walk_at "evh"
theorem reached_bad {B : PyData} (h : m_look_machine [B] = some (.error .mach)) : m_reached [B] = some (.error .mach) := by
  rw [m_reached, run_fin (by rfl)]
  walk_at "in"
  rw [b_reached]
  walk_at "evh"
theorem told_bad {B W : PyData} {way : Nat} (hw : way < 4) (h : m_look_machine [B] = some (.error .mach)) : m__law_told [cN way, B, W] = ok (.str "machine") := by
  have h1 := gone_bad (W := W) h
  have h2 := takes_bad (W := W) h
  have h3 := reached_bad h
  have h4 := refusal_is .mach
  rw [m__law_told, run_fin (by rfl)]
  walk_at "in"
  rw [b__law_told]
  match way, hw with
  | 0, _ => walk_at "evh"; simp only [show (5 < 6 ∧ 3 < 6) from ⟨by decide, by decide⟩, and_self, ↓reduceIte, Nat.reduceLT]; walk_at "evh"; rfl
  | 1, _ => walk_at "evh"; simp only [show (5 < 6 ∧ 3 < 6) from ⟨by decide, by decide⟩, and_self, ↓reduceIte, Nat.reduceLT]; walk_at "evh"; rfl
  | 2, _ => walk_at "evh"; simp only [show (5 < 6 ∧ 3 < 6) from ⟨by decide, by decide⟩, and_self, ↓reduceIte, Nat.reduceLT]; walk_at "evh"; rfl
  | 3, _ => walk_at "evh"; simp only [show (5 < 6 ∧ 3 < 6) from ⟨by decide, by decide⟩, and_self, ↓reduceIte, Nat.reduceLT]; walk_at "evh"; rfl
end WK

set_option Elab.async false
set_option linter.all false
set_option maxHeartbeats 4000000
set_option maxRecDepth 100000
noncomputable section
namespace WK
open PySem DL L2

local macro_rules | `(tactic| walk_at "ev") => `(tactic| simp only [ofE_err, bnd_err, ofE_ok, ofE_ok', bnd_ok, bnd_ok', sSeq_ev, sq_nx, sq_rt, sq_er, sq_bk, sq_ct, sIf_ev, sRet_ev, sDrop_ev, sSkip_ev, sRetN_ev, sRaise_ev, sFor_ev, eC_ev, e2_ev, e1_ev, eFn_ev, eCall_ev, aCons_ev, aNil_ev, nNew_ev, eTup_ev, eLst_ev, eIf_ev, eNew_ev, tTru_ev, tNot_ev, tAnd_ev, tOr_ev, tYes_ev, nLc_ev, wipe0, wipeS, tix_ev, set_ev, asg_ev, setO_ev, v0, vS, o0, o0', oS, g0, gS, own0, ownS, setAt0, setAtS, e3_ev, and_ev, or_ev, not_ev, val_ev, asB_b, iSeq_ev, seqOf_l, seqOf_t, iR1_ev, nRng_ev, gT_ev, gs_c, gs_n,
  add_i, sub_i, div_i, mod_i, mul_l, mul_r, neg_i, cmp_i, lt_i, eq_i, ne_i, isN_n, isN_i, isN_l, notN_n, notN_i, len_l, len_t, tru_l, tru_t, tru_b, tup_l, lst_l, lst_t, any_l, all_l, min_i, max_i, oIx_l, oIx_t, oIx_c0, oIx_c1, oIx_c2, limV,
  nup1, nup_le, nup_lt, nup_eq, ← Int.natCast_add,
  posts_some, postg_some, end_rt, end_nx, lp_nx, lp_ct, lp_bk, lp_rt, lp_er, sqq_nx, sqq_rt, sqq_er, sqq_bk, sqq_ct, wO_some, app_w, put_w, frz_o, frzK_some, nlit_le, nlit_lt, nlit_ge, nlit_gt, nlit_eq, nge0, in_tf, all_true, lenset_n, nm4, nm3, nm2, nd4, nd2, eq_n, le_n, 
  Option.map_some, Option.map_none, Option.bind_some, fin_nx, fin_rt, fin_er, List.length_cons, List.length_nil, List.length_map, List.length_append, List.length_range, List.set_cons_zero, List.set_cons_succ, ↓reduceIte, Nat.zero_add, Nat.add_zero, Nat.zero_le, Nat.reduceAdd, Nat.reduceLeDiff, Nat.reduceEqDiff, Int.reduceLT, Int.reduceNeg, Int.reducePow, Option.isNone_none, Option.isNone_some, Option.isSome_none, Option.isSome_some, decide_eq_true_eq, decide_true, decide_false, Bool.not_true, Bool.not_false, Bool.false_eq_true, eq_self, and_self, true_and, and_true, Bool.true_xor, Bool.false_xor])
local macro_rules | `(tactic| walk_at "in") => `(tactic| simp only [rho0, List.map_cons, List.map_nil, List.cons_append, List.nil_append, List.length_cons, List.length_nil, Nat.reduceAdd, Nat.reduceSub, Nat.zero_add, Nat.sub_self, rep0, repS])
local macro_rules | `(tactic| walk_at "evo") => `(tactic| simp (disch := (first | omega | (simp only [List.length_map, List.length_append, List.length_cons, List.length_nil, List.length_range, List.length_set, List.length_replicate]; omega))) only [addT6, addL6, rng1_n, rngO_n, mod_n, ofE_err, bnd_err, ofE_ok, ofE_ok', bnd_ok, bnd_ok', sSeq_ev, sq_nx, sq_rt, sq_er, sq_bk, sq_ct, sIf_ev, sRet_ev, sDrop_ev, sSkip_ev, sRetN_ev, sRaise_ev, sFor_ev, eC_ev, e2_ev, e1_ev, eFn_ev, eCall_ev, aCons_ev, aNil_ev, nNew_ev, eTup_ev, eLst_ev, eIf_ev, eNew_ev, tTru_ev, tNot_ev, tAnd_ev, tOr_ev, tYes_ev, nLc_ev, wipe0, wipeS, tix_ev, set_ev, asg_ev, setO_ev, v0, vS, o0, o0', oS, g0, gS, own0, ownS, setAt0, setAtS, e3_ev, and_ev, or_ev, not_ev, val_ev, asB_b, iSeq_ev, seqOf_l, seqOf_t, iR1_ev, nRng_ev, gT_ev, gs_c, gs_n,
  add_i, sub_i, div_i, mod_i, mul_l, mul_r, neg_i, cmp_i, lt_i, eq_i, ne_i, isN_n, isN_i, isN_l, notN_n, notN_i, len_l, len_t, tru_l, tru_t, tru_b, tup_l, lst_l, lst_t, any_l, all_l, min_i, max_i, oIx_l, oIx_t, oIx_c0, oIx_c1, oIx_c2, limV,
  nup1, nup_le, nup_lt, nup_eq, ← Int.natCast_add,
  posts_some, postg_some, end_rt, end_nx, lp_nx, lp_ct, lp_bk, lp_rt, lp_er, sqq_nx, sqq_rt, sqq_er, sqq_bk, sqq_ct, wO_some, app_w, put_w, frz_o, frzK_some, nlit_le, nlit_lt, nlit_ge, nlit_gt, nlit_eq, nge0, in_tf, all_true, lenset_n, nm4, nm3, nm2, nd4, nd2, eq_n, le_n, 
  Option.map_some, Option.map_none, Option.bind_some, fin_nx, fin_rt, fin_er, List.length_cons, List.length_nil, List.length_map, List.length_append, List.length_range, List.set_cons_zero, List.set_cons_succ, ↓reduceIte, Nat.zero_add, Nat.add_zero, Nat.zero_le, Nat.reduceAdd, Nat.reduceLeDiff, Nat.reduceEqDiff, Int.reduceLT, Int.reduceNeg, Int.reducePow, Option.isNone_none, Option.isNone_some, Option.isSome_none, Option.isSome_some, decide_eq_true_eq, decide_true, decide_false, Bool.not_true, Bool.not_false, Bool.false_eq_true, eq_self, and_self, true_and, and_true, Bool.true_xor, Bool.false_xor])
local macro_rules | `(tactic| walk_at "evh") => `(tactic| simp only [*, ofE_err, bnd_err, ofE_ok, ofE_ok', bnd_ok, bnd_ok', sSeq_ev, sq_nx, sq_rt, sq_er, sq_bk, sq_ct, sIf_ev, sRet_ev, sDrop_ev, sSkip_ev, sRetN_ev, sRaise_ev, sFor_ev, eC_ev, e2_ev, e1_ev, eFn_ev, eCall_ev, aCons_ev, aNil_ev, nNew_ev, eTup_ev, eLst_ev, eIf_ev, eNew_ev, tTru_ev, tNot_ev, tAnd_ev, tOr_ev, tYes_ev, nLc_ev, wipe0, wipeS, tix_ev, set_ev, asg_ev, setO_ev, v0, vS, o0, o0', oS, g0, gS, own0, ownS, setAt0, setAtS, e3_ev, and_ev, or_ev, not_ev, val_ev, asB_b, iSeq_ev, seqOf_l, seqOf_t, iR1_ev, nRng_ev, gT_ev, gs_c, gs_n,
  add_i, sub_i, div_i, mod_i, mul_l, mul_r, neg_i, cmp_i, lt_i, eq_i, ne_i, isN_n, isN_i, isN_l, notN_n, notN_i, len_l, len_t, tru_l, tru_t, tru_b, tup_l, lst_l, lst_t, any_l, all_l, min_i, max_i, oIx_l, oIx_t, oIx_c0, oIx_c1, oIx_c2, limV,
  nup1, nup_le, nup_lt, nup_eq, ← Int.natCast_add,
  posts_some, postg_some, end_rt, end_nx, lp_nx, lp_ct, lp_bk, lp_rt, lp_er, sqq_nx, sqq_rt, sqq_er, sqq_bk, sqq_ct, wO_some, app_w, put_w, frz_o, frzK_some, nlit_le, nlit_lt, nlit_ge, nlit_gt, nlit_eq, nge0, in_tf, all_true, lenset_n, nm4, nm3, nm2, nd4, nd2, eq_n, le_n, 
  Option.map_some, Option.map_none, Option.bind_some, fin_nx, fin_rt, fin_er, List.length_cons, List.length_nil, List.length_map, List.length_append, List.length_range, List.set_cons_zero, List.set_cons_succ, ↓reduceIte, Nat.zero_add, Nat.add_zero, Nat.zero_le, Nat.reduceAdd, Nat.reduceLeDiff, Nat.reduceEqDiff, Int.reduceLT, Int.reduceNeg, Int.reducePow, Option.isNone_none, Option.isNone_some, Option.isSome_none, Option.isSome_some, decide_eq_true_eq, decide_true, decide_false, Bool.not_true, Bool.not_false, Bool.false_eq_true, eq_self, and_self, true_and, and_true, Bool.true_xor, Bool.false_xor])
abbrev ZMv := Int × List Int
abbrev ZSt := Bool × Int × List ZMv
abbrev ZM := List ZSt
def eZMv (m : ZMv) : PyData := .tuple [.int m.1, .tuple (m.2.map .int)]
def eZSt (s : ZSt) : PyData := .tuple [.bool s.1, .int s.2.1, .list (s.2.2.map eZMv)]
def eZM (M : ZM) : PyData := .list (M.map eZSt)
def zst (M : ZM) (q : Int) : ZSt := M.getD q.toNat (false, 0, [])
/-- a move that is none too bad -/
def zmv (M : ZM) (far : Int) (m : ZMv) : Bool := decide (0 ≤ m.1) && decide (m.1 < M.length) && decide ((m.2.length : Int) = (zst M m.1).2.1) && m.2.all (fun s => decide (0 ≤ s) && decide (s < far)) && decide ((dd m.2).length = m.2.length)
def zsg (M : ZM) (s : ZSt) : Bool := decide (0 ≤ s.2.1) && decide (s.2.1 ≤ 6) && decide ((s.2.2.length : Int) = s.2.1 + 1) && (List.range s.2.2.length).all fun c => zmv M (if (c : Int) < s.2.1 then s.2.1 else s.2.1 + 1) (s.2.2.getD c (0, []))
def zgd (M : ZM) : Bool := decide (1 ≤ M.length) && decide (M.length ≤ 400) && decide ((zst M 0).2.1 = 0) && M.all (zsg M)
end WK

set_option Elab.async false
set_option linter.all false
/-! Rows for own dicts. -/
noncomputable section
namespace WK
open PySem DL L2

def dctAt (i : Nat) (r : Rho) : Option (List (Int × PyData)) := match r[i]? with
  | some (some (.dct xs)) => some xs
  | _ => none
theorem dct0 {xs : List (Int × PyData)} {r : Rho} : dctAt 0 (some (.dct xs) :: r) = some xs := rfl
theorem dctS {i : Nat} {b : Option B} {r : Rho} : dctAt (i + 1) (b :: r) = dctAt i r := rfl
theorem setM_ev {i : Nat} {r : Rho} : sSetM i r = wO (setAt i (.dct []) r) fun r' => some (.nx r') := by
  unfold sSetM setAt
  split <;> rfl
def wM {a : Type} (o : Option a) (k : a → M PyData) : M PyData := match o with
  | some x => k x
  | none => none
theorem wM_some {a : Type} {x : a} {k : a → M PyData} : wM (some x) k = k x := rfl
def asI : PyData → Option Int
  | .int n => some n
  | _ => none
theorem asI_i {n : Int} : asI (.int n) = some n := rfl
theorem mGet2_ev {i : Nat} {f g : Ef} {r : Rho} : eMGet2 i f g r = wM (dctAt i r) fun kvs => bnd (f r) fun k => bnd (g r) fun d => wM (asI k) fun n => ok ((lookM kvs n).getD d) := by
  unfold eMGet2 dctAt
  cases e : r[i]? with
  | none => rfl
  | some b =>
    match b with
    | none => rfl
    | some (.d x) => rfl
    | some (.own x) => rfl
    | some (.dic x) => rfl
    | some (.dif x) => rfl
    | some (.obj x) => rfl
    | some (.obf x) => rfl
    | some (.dct kvs) =>
      simp only [wM_some]
      congr 1
      funext k
      congr 1
      funext d
      cases k <;> rfl
theorem mIx_ev {i : Nat} {f : Ef} {r : Rho} : eMIx i f r = wM (dctAt i r) fun kvs => bnd (f r) fun k => wM (asI k) fun n => wM (lookM kvs n) ok := by
  unfold eMIx dctAt
  cases e : r[i]? with
  | none => rfl
  | some b =>
    match b with
    | none => rfl
    | some (.d x) => rfl
    | some (.own x) => rfl
    | some (.dic x) => rfl
    | some (.dif x) => rfl
    | some (.obj x) => rfl
    | some (.obf x) => rfl
    | some (.dct kvs) =>
      simp only [wM_some]
      congr 1
      funext k
      cases k with
      | int n =>
        show (match lookM kvs n with | some d => ok d | none => none) = wM (lookM kvs n) ok
        cases lookM kvs n <;> rfl
      | _ => rfl
theorem mLen_ev {i : Nat} {r : Rho} : eMLen i r = wM (dctAt i r) fun kvs => ok (cN kvs.length) := by
  unfold eMLen dctAt
  cases e : r[i]? with
  | none => rfl
  | some b =>
    match b with
    | none => rfl
    | some (.d x) => rfl
    | some (.own x) => rfl
    | some (.dic x) => rfl
    | some (.dif x) => rfl
    | some (.obj x) => rfl
    | some (.obf x) => rfl
    | some (.dct kvs) => rfl
theorem mPut_ev {i : Nat} {k f : Ef} {r : Rho} : sMPut i k f r = wO (dctAt i r) fun kvs => ofE (f r) r fun d => ofE (k r) r fun z => wO (asI z) fun n => if kvs.length < lim ∧ onlyM r i = true then wO (setAt i (.dct (putM kvs n d)) r) fun r2 => some (.nx r2) else none := by
  unfold sMPut dctAt
  cases e : r[i]? with
  | none => rfl
  | some b =>
    have hi := (List.getElem?_eq_some_iff.mp e).1
    match b with
    | none => rfl
    | some (.d x) => rfl
    | some (.own x) => rfl
    | some (.dic x) => rfl
    | some (.dif x) => rfl
    | some (.obj x) => rfl
    | some (.obf x) => rfl
    | some (.dct kvs) =>
      simp only [wO_some]
      congr 1
      funext d
      congr 1
      funext z
      cases z with
      | int n =>
        unfold setAt
        simp only [asI, wO_some, if_pos hi]
      | _ => rfl
end WK

set_option Elab.async false
set_option linter.all false
/-! Rows for slices, repetitions, negative places. -/
noncomputable section
namespace WK
open PySem DL L2

theorem eSl_ev {f : Ef} {lo hi : Of} {r : Rho} : eSl f lo hi r = bnd (f r) fun x => bnd (lo r) fun l => bnd (hi r) fun h => oSl x l h := rfl
theorem pNo_ev {r : Rho} : pNo r = ok none := rfl
def asO : PyData → M (Option Int)
  | .int i => ok (some i)
  | _ => none
theorem pSome_ev {f : Ef} {r : Rho} : pSome f r = bnd (f r) asO := rfl
theorem asO_i {i : Int} : asO (.int i) = ok (some i) := rfl
theorem cut_map {a b : Type} (f : a → b) (xs : List a) (lo hi : Option Int) : cutG (xs.map f) lo hi = (cutG xs lo hi).map f := by
  unfold cutG
  rw [List.length_map, List.map_take, List.map_drop]
theorem cut_len {a : Type} (xs : List a) (lo hi : Option Int) : (cutG xs lo hi).length ≤ xs.length := by
  unfold cutG
  rw [List.length_take, List.length_drop]; omega
theorem cut_mem {a : Type} {xs : List a} {lo hi : Option Int} {x : a} (h : x ∈ cutG xs lo hi) : x ∈ xs := by
  unfold cutG at h
  exact List.mem_of_mem_drop (List.mem_of_mem_take h)
theorem sl_l {a : Type} {f : a → PyData} {xs : List a} {lo hi : Option Int} : oSl (.list (xs.map f)) lo hi = ok (.list ((cutG xs lo hi).map f)) := by
  unfold oSl
  simp only [cut_map]
theorem sl_t {a : Type} {f : a → PyData} {xs : List a} {lo hi : Option Int} : oSl (.tuple (xs.map f)) lo hi = ok (.tuple ((cutG xs lo hi).map f)) := by
  unfold oSl
  simp only [cut_map]
theorem cut_take {a : Type} (xs : List a) (n : Nat) (h : n ≤ xs.length) : cutG xs none (some (n : Int)) = xs.take n := by
  unfold cutG
  rw [HT.sIx_none, HT.sIx_nat, List.drop_zero, Nat.sub_zero, Nat.min_eq_left h]
theorem cut_drop {a : Type} (xs : List a) (n : Nat) (h : n ≤ xs.length) : cutG xs (some (n : Int)) none = xs.drop n := by
  unfold cutG
  rw [HT.sIx_none, HT.sIx_nat, Nat.min_eq_left h, List.take_of_length_le (by rw [List.length_drop]; exact Nat.le_refl _)]
/-- xs[-1 - j] -/
theorem atI_back {a : Type} (xs : List a) (j : Nat) (h : j < xs.length) : atI xs (-1 - (j : Int)) = xs[xs.length - 1 - j]? := by
  unfold atI ixN
  rw [if_neg (by omega), if_pos (by omega)]
  show xs[((-1 - (j : Int)) + (xs.length : Nat)).toNat]? = _
  congr 1
  omega
theorem oIx_back {a : Type} {f : a → PyData} {xs : List a} {j : Nat} (h : j < xs.length) : oIx (.list (xs.map f)) (.int (-1 - (j : Int))) = ok (f (xs[xs.length - 1 - j]'(by omega))) := by
  unfold oIx
  simp only
  rw [atI_map, atI_back xs j h, List.getElem?_eq_getElem (by omega)]; rfl
theorem oIx_last {a : Type} {f : a → PyData} {xs : List a} (h : 0 < xs.length) : oIx (.list (xs.map f)) (.int (-1)) = ok (f (xs[xs.length - 1]'(by omega))) := by
  have := oIx_back (f := f) (xs := xs) (j := 0) h
  simpa using this
theorem nd8 (v : Nat) : (v : Int) / 8 = ((v / 8 : Nat) : Int) := rfl
theorem nd64 (v : Nat) : (v : Int) / 64 = ((v / 64 : Nat) : Int) := rfl
theorem nd512 (v : Nat) : (v : Int) / 512 = ((v / 512 : Nat) : Int) := rfl
theorem nm5 (v : Nat) : (v : Int) % 5 = ((v % 5 : Nat) : Int) := rfl
theorem nm6 (v : Nat) : (v : Int) % 6 = ((v % 6 : Nat) : Int) := rfl
theorem nm7 (v : Nat) : (v : Int) % 7 = ((v % 7 : Nat) : Int) := rfl
theorem nm8 (v : Nat) : (v : Int) % 8 = ((v % 8 : Nat) : Int) := rfl
theorem nm9 (v : Nat) : (v : Int) % 9 = ((v % 9 : Nat) : Int) := rfl
theorem addT6 {xs ys : List PyData} (h : xs.length + ys.length ≤ 1000000) : oAdd (.tuple xs) (.tuple ys) = ok (.tuple (xs ++ ys)) := addT (by rw [lim_is]; exact h)
theorem addL6 {xs ys : List PyData} (h : xs.length + ys.length ≤ 1000000) : oAdd (.list xs) (.list ys) = ok (.list (xs ++ ys)) := addL (by rw [lim_is]; exact h)
theorem ndec {p : Prop} [Decidable p] : ((!decide p) = true) = ¬ p := by simp
theorem if_not {p : Prop} [Decidable p] {a : Type} {x y : a} : (if ¬ p then x else y) = if p then y else x := by by_cases h : p <;> simp [h]
end WK

set_option Elab.async false
set_option linter.all false
set_option maxHeartbeats 4000000
set_option maxRecDepth 100000
noncomputable section
namespace WK
open PySem DL L2

local macro_rules | `(tactic| walk_at "ev") => `(tactic| simp only [ofE_err, bnd_err, ofE_ok, ofE_ok', bnd_ok, bnd_ok', sSeq_ev, sq_nx, sq_rt, sq_er, sq_bk, sq_ct, sIf_ev, sRet_ev, sDrop_ev, sSkip_ev, sRetN_ev, sRaise_ev, sFor_ev, eC_ev, e2_ev, e1_ev, eFn_ev, eCall_ev, aCons_ev, aNil_ev, nNew_ev, eTup_ev, eLst_ev, eIf_ev, eNew_ev, tTru_ev, tNot_ev, tAnd_ev, tOr_ev, tYes_ev, nLc_ev, wipe0, wipeS, tix_ev, set_ev, asg_ev, setO_ev, v0, vS, o0, o0', oS, g0, gS, own0, ownS, setAt0, setAtS, e3_ev, and_ev, or_ev, not_ev, val_ev, asB_b, iSeq_ev, seqOf_l, seqOf_t, iR1_ev, nRng_ev, gT_ev, gs_c, gs_n,
  add_i, sub_i, div_i, mod_i, mul_l, mul_r, neg_i, cmp_i, lt_i, eq_i, ne_i, isN_n, isN_i, isN_l, notN_n, notN_i, len_l, len_t, tru_l, tru_t, tru_b, tup_l, lst_l, lst_t, any_l, all_l, min_i, max_i, oIx_l, oIx_t, oIx_c0, oIx_c1, oIx_c2, limV,
  nup1, nup_le, nup_lt, nup_eq, ← Int.natCast_add,
  posts_some, postg_some, end_rt, end_nx, lp_nx, lp_ct, lp_bk, lp_rt, lp_er, sqq_nx, sqq_rt, sqq_er, sqq_bk, sqq_ct, wO_some, app_w, put_w, frz_o, frzK_some, nlit_le, nlit_lt, nlit_ge, nlit_gt, nlit_eq, nge0, in_tf, all_true, lenset_n, nm4, nm3, nm2, nd4, nd2, eq_n, le_n, ndec, if_not, eZMv, eZSt, eZM, gT_ev', 
  Option.map_some, Option.map_none, Option.bind_some, fin_nx, fin_rt, fin_er, List.length_cons, List.length_nil, List.length_map, List.length_append, List.length_range, List.set_cons_zero, List.set_cons_succ, ↓reduceIte, Nat.zero_add, Nat.add_zero, Nat.zero_le, Nat.reduceAdd, Nat.reduceLeDiff, Nat.reduceEqDiff, Int.reduceLT, Int.reduceNeg, Int.reducePow, Option.isNone_none, Option.isNone_some, Option.isSome_none, Option.isSome_some, decide_eq_true_eq, decide_true, decide_false, Bool.not_true, Bool.not_false, Bool.false_eq_true, eq_self, and_self, true_and, and_true, Bool.true_xor, Bool.false_xor])
local macro_rules | `(tactic| walk_at "in") => `(tactic| simp only [rho0, List.map_cons, List.map_nil, List.cons_append, List.nil_append, List.length_cons, List.length_nil, Nat.reduceAdd, Nat.reduceSub, Nat.zero_add, Nat.sub_self, rep0, repS])
local macro_rules | `(tactic| walk_at "evo") => `(tactic| simp (disch := (first | omega | (simp only [List.length_map, List.length_append, List.length_cons, List.length_nil, List.length_range, List.length_set, List.length_replicate]; omega))) only [addT6, addL6, rng1_n, rngO_n, mod_n, ofE_err, bnd_err, ofE_ok, ofE_ok', bnd_ok, bnd_ok', sSeq_ev, sq_nx, sq_rt, sq_er, sq_bk, sq_ct, sIf_ev, sRet_ev, sDrop_ev, sSkip_ev, sRetN_ev, sRaise_ev, sFor_ev, eC_ev, e2_ev, e1_ev, eFn_ev, eCall_ev, aCons_ev, aNil_ev, nNew_ev, eTup_ev, eLst_ev, eIf_ev, eNew_ev, tTru_ev, tNot_ev, tAnd_ev, tOr_ev, tYes_ev, nLc_ev, wipe0, wipeS, tix_ev, set_ev, asg_ev, setO_ev, v0, vS, o0, o0', oS, g0, gS, own0, ownS, setAt0, setAtS, e3_ev, and_ev, or_ev, not_ev, val_ev, asB_b, iSeq_ev, seqOf_l, seqOf_t, iR1_ev, nRng_ev, gT_ev, gs_c, gs_n,
  add_i, sub_i, div_i, mod_i, mul_l, mul_r, neg_i, cmp_i, lt_i, eq_i, ne_i, isN_n, isN_i, isN_l, notN_n, notN_i, len_l, len_t, tru_l, tru_t, tru_b, tup_l, lst_l, lst_t, any_l, all_l, min_i, max_i, oIx_l, oIx_t, oIx_c0, oIx_c1, oIx_c2, limV,
  nup1, nup_le, nup_lt, nup_eq, ← Int.natCast_add,
  posts_some, postg_some, end_rt, end_nx, lp_nx, lp_ct, lp_bk, lp_rt, lp_er, sqq_nx, sqq_rt, sqq_er, sqq_bk, sqq_ct, wO_some, app_w, put_w, frz_o, frzK_some, nlit_le, nlit_lt, nlit_ge, nlit_gt, nlit_eq, nge0, in_tf, all_true, lenset_n, nm4, nm3, nm2, nd4, nd2, eq_n, le_n, ndec, if_not, eZMv, eZSt, eZM, gT_ev', 
  Option.map_some, Option.map_none, Option.bind_some, fin_nx, fin_rt, fin_er, List.length_cons, List.length_nil, List.length_map, List.length_append, List.length_range, List.set_cons_zero, List.set_cons_succ, ↓reduceIte, Nat.zero_add, Nat.add_zero, Nat.zero_le, Nat.reduceAdd, Nat.reduceLeDiff, Nat.reduceEqDiff, Int.reduceLT, Int.reduceNeg, Int.reducePow, Option.isNone_none, Option.isNone_some, Option.isSome_none, Option.isSome_some, decide_eq_true_eq, decide_true, decide_false, Bool.not_true, Bool.not_false, Bool.false_eq_true, eq_self, and_self, true_and, and_true, Bool.true_xor, Bool.false_xor])
local macro_rules | `(tactic| walk_at "evh") => `(tactic| simp only [*, ofE_err, bnd_err, ofE_ok, ofE_ok', bnd_ok, bnd_ok', sSeq_ev, sq_nx, sq_rt, sq_er, sq_bk, sq_ct, sIf_ev, sRet_ev, sDrop_ev, sSkip_ev, sRetN_ev, sRaise_ev, sFor_ev, eC_ev, e2_ev, e1_ev, eFn_ev, eCall_ev, aCons_ev, aNil_ev, nNew_ev, eTup_ev, eLst_ev, eIf_ev, eNew_ev, tTru_ev, tNot_ev, tAnd_ev, tOr_ev, tYes_ev, nLc_ev, wipe0, wipeS, tix_ev, set_ev, asg_ev, setO_ev, v0, vS, o0, o0', oS, g0, gS, own0, ownS, setAt0, setAtS, e3_ev, and_ev, or_ev, not_ev, val_ev, asB_b, iSeq_ev, seqOf_l, seqOf_t, iR1_ev, nRng_ev, gT_ev, gs_c, gs_n,
  add_i, sub_i, div_i, mod_i, mul_l, mul_r, neg_i, cmp_i, lt_i, eq_i, ne_i, isN_n, isN_i, isN_l, notN_n, notN_i, len_l, len_t, tru_l, tru_t, tru_b, tup_l, lst_l, lst_t, any_l, all_l, min_i, max_i, oIx_l, oIx_t, oIx_c0, oIx_c1, oIx_c2, limV,
  nup1, nup_le, nup_lt, nup_eq, ← Int.natCast_add,
  posts_some, postg_some, end_rt, end_nx, lp_nx, lp_ct, lp_bk, lp_rt, lp_er, sqq_nx, sqq_rt, sqq_er, sqq_bk, sqq_ct, wO_some, app_w, put_w, frz_o, frzK_some, nlit_le, nlit_lt, nlit_ge, nlit_gt, nlit_eq, nge0, in_tf, all_true, lenset_n, nm4, nm3, nm2, nd4, nd2, eq_n, le_n, ndec, if_not, eZMv, eZSt, eZM, gT_ev', 
  Option.map_some, Option.map_none, Option.bind_some, fin_nx, fin_rt, fin_er, List.length_cons, List.length_nil, List.length_map, List.length_append, List.length_range, List.set_cons_zero, List.set_cons_succ, ↓reduceIte, Nat.zero_add, Nat.add_zero, Nat.zero_le, Nat.reduceAdd, Nat.reduceLeDiff, Nat.reduceEqDiff, Int.reduceLT, Int.reduceNeg, Int.reducePow, Option.isNone_none, Option.isNone_some, Option.isSome_none, Option.isSome_some, decide_eq_true_eq, decide_true, decide_false, Bool.not_true, Bool.not_false, Bool.false_eq_true, eq_self, and_self, true_and, and_true, Bool.true_xor, Bool.false_xor])
theorem run_end {R : M PyData → Prop} {n k : Nat} {b : Sf} {ds : List PyData} (h : ds.length = k) (hb : PostS (fun z => R (fin (some z))) (b (rho0 n ds))) : R (runD n k b ds) := by
  rw [run_fin h]
  obtain ⟨z, e, q⟩ := hb
  rw [e]; exact q
theorem lenset_i {ss : List Int} (hl : ss.length < 4000) : oLenSet (.tuple (ss.map .int)) = ok (cN (dd ss).length) := by
  unfold oLenSet
  simp only [intsOf_map]
  rw [if_pos hl]
def ans (k : Bool) : M PyData := if k = true then ok .none else some (.error .mach)
theorem zsg_bad {M : ZM} {gd : Bool} {b : Int} {mvs : List ZMv} {c : Nat} (hc : c < mvs.length) (h : zmv M (if (c : Int) < b then b else b + 1) (mvs[c]'hc) = false) : zsg M (gd, b, mvs) = false := by
  unfold zsg
  rw [Bool.and_eq_false_iff]
  right
  rw [List.all_eq_false]
  refine ⟨c, List.mem_range.mpr hc, ?_⟩
  rw [List.getD_eq_getElem?_getD, List.getElem?_eq_getElem hc]
  show ¬ zmv M (if (c : Int) < b then b else b + 1) mvs[c] = true
  rw [h]; decide
theorem zsg_good {M : ZM} {gd : Bool} {b : Int} {mvs : List ZMv} (h1 : 0 ≤ b) (h2 : b ≤ 6) (h3 : (mvs.length : Int) = b + 1) (h : ∀ c (hc : c < mvs.length), zmv M (if (c : Int) < b then b else b + 1) (mvs[c]'hc) = true) : zsg M (gd, b, mvs) = true := by
  unfold zsg
  simp only [Bool.and_eq_true, decide_eq_true_eq]
  refine ⟨⟨⟨h1, h2⟩, h3⟩, ?_⟩
  rw [List.all_eq_true]
  intro c hc
  have hc' := List.mem_range.mp hc
  rw [List.getD_eq_getElem?_getD, List.getElem?_eq_getElem hc']
  exact h c hc'
def GoodTo (M : ZM) (n : Nat) (mvs : List ZMv) (i : Nat) : Prop := ∀ c (hc : c < mvs.length), c < i → zmv M (if (c : Int) < (n : Int) then (n : Int) else (n : Int) + 1) (mvs[c]'hc) = true
theorem zlook_state (M : ZM) (s : ZSt) (hM : M.length ≤ 1000) (hl : ∀ m ∈ s.2.2, m.2.length < 100) : m_look_state [eZM M, eZSt s] = ans (zsg M s) := by
  refine run_end (R := fun z => z = ans (zsg M s)) (by rfl) ?_
  obtain ⟨gd, b, mvs⟩ := s
  walk_at "in"
  rw [b_look_state]
  by_cases h1 : 0 ≤ b
  rotate_left
  · have hz : zsg M (gd, b, mvs) = false := by unfold zsg; simp [h1]
    walk_at "evh"
    rfl
  by_cases h2 : b ≤ 6
  rotate_left
  · have hz : zsg M (gd, b, mvs) = false := by unfold zsg; simp [h2]
    walk_at "evh"
    rfl
  by_cases h3 : (mvs.length : Int) = b + 1
  rotate_left
  · have hz : zsg M (gd, b, mvs) = false := by unfold zsg; simp [h3]
    walk_at "evh"
    rfl
  obtain ⟨n, rfl⟩ := Int.eq_ofNat_of_zero_le h1
  have h2' : n ≤ 6 := by omega
  have h3' : mvs.length = n + 1 := by omega
  have hr := rng1_n (n := n + 1) (by omega)
  clear h1 h2
  walk_at "ev"
  simp only [h2', h3, h3']
  walk_at "ev"
  rw [hr]
  walk_at "ev"
  refine posts_for (fun i r => ∃ (j5 j6 j7 j8 j9 : Option B), GoodTo M n mvs i ∧ r = [some (.d (.list (M.map eZSt))), some (.d (.tuple [.bool gd, cN n, .list (mvs.map eZMv)])), some (.d (.bool gd)), some (.d (cN n)), some (.d (.list (mvs.map eZMv))), j5, j6, j7, j8, j9]) ?_ ?_ ?_
  · exact ⟨none, none, none, none, none, fun c hc h => absurd h (Nat.not_lt_zero _), rfl⟩
  · rintro i x r hx ⟨j5, j6, j7, j8, j9, hp, rfl⟩
    obtain ⟨y, hy, rfl⟩ := getq_map hx
    obtain ⟨rfl, hyl⟩ := getq_range hy
    have hyl' : y < mvs.length := by omega
    have hmv : oIx (.list (mvs.map eZMv)) (cN y) = ok (eZMv (mvs[y]'hyl')) := oIx_list eZMv mvs y _ (List.getElem?_eq_getElem hyl')
    have hsl := hl _ (List.getElem_mem hyl')
    have hbad : zmv M (if (y : Int) < (n : Int) then (n : Int) else (n : Int) + 1) (mvs[y]'hyl') = false → ans (zsg M (gd, (n : Int), mvs)) = some (.error .mach) := fun h => by
      rw [zsg_bad hyl' h]; rfl
    have hgood : zmv M (if (y : Int) < (n : Int) then (n : Int) else (n : Int) + 1) (mvs[y]'hyl') = true → GoodTo M n mvs (y + 1) := fun h c hc hcy => by
      by_cases hcy2 : c = y
      · subst hcy2; exact h
      · exact hp c hc (by omega)
    clear hp
    generalize mvs[y]'hyl' = mv at hmv hsl hbad hgood
    obtain ⟨g, ss⟩ := mv
    replace hsl : ss.length < 100 := hsl
    rw [eZMv] at hmv
    walk_at "ev"
    rw [hmv]
    walk_at "ev"
    by_cases g1 : 0 ≤ g
    rotate_left
    · have hz := hbad (by unfold zmv; simp [g1])
      walk_at "evh"
    by_cases g2 : g < M.length
    rotate_left
    · have hz := hbad (by unfold zmv; simp [g2])
      walk_at "evh"
    obtain ⟨gn, rfl⟩ := Int.eq_ofNat_of_zero_le g1
    have g2' : gn < M.length := by omega
    have hst : oIx (.list (M.map eZSt)) (cN gn) = ok (eZSt (zst M gn)) := oIx_list eZSt M gn _ (by rw [zst, Int.toNat_natCast, List.getD_eq_getElem?_getD, List.getElem?_eq_getElem g2']; rfl)
    rw [eZSt] at hst
    by_cases g3 : (ss.length : Int) = (zst M gn).2.1
    rotate_left
    · have hz := hbad (by unfold zmv; simp [g3])
      walk_at "ev"
      simp only [g2', hst]
      walk_at "ev"
      simp only [g3]
      walk_at "evh"
    walk_at "ev"
    simp only [g2', hst]
    walk_at "ev"
    simp only [g3]
    walk_at "ev"
    rw [show (if y < n then ok (cN n) else ok (cN (n + 1))) = ok (cN (if y < n then n else n + 1)) from by split <;> rfl]
    walk_at "ev"
    have hF : (if (y : Int) < (n : Int) then (n : Int) else (n : Int) + 1) = ((if y < n then n else n + 1 : Nat) : Int) := by split <;> split <;> omega
    generalize (if y < n then n else n + 1) = F at hF
    rw [lc_allG (enc := PyData.int) (fun x => .bool (decide (0 ≤ x) && decide (x < (F : Int)))) ss (by omega) fun x hx => by
      walk_at "ev"
      by_cases h0 : 0 ≤ x
      · simp only [h0]
        walk_at "ev"
        rw [Bool.true_and]
      · simp only [h0]
        walk_at "ev"
        rw [Bool.false_and]]
    walk_at "ev"
    rw [all_b (xs := ss) (p := fun x => decide (0 ≤ x) && decide (x < (F : Int))), lenset_i (by omega)]
    walk_at "ev"
    have hzm : zmv M (if (y : Int) < (n : Int) then (n : Int) else (n : Int) + 1) ((gn : Int), ss) = (ss.all (fun x => decide (0 ≤ x) && decide (x < (F : Int))) && decide ((dd ss).length = ss.length)) := by
      unfold zmv
      rw [hF]
      simp [g2', g3]
    by_cases a1 : ss.all (fun x => decide (0 ≤ x) && decide (x < (F : Int))) = true
    · by_cases a2 : (dd ss).length = ss.length
      · have hg := hgood (by rw [hzm, a1, decide_eq_true a2]; rfl)
        simp only [a1, a2]
        walk_at "ev"
        exact ⟨_, _, _, _, _, hg, rfl⟩
      · have hz := hbad (by rw [hzm, decide_eq_false a2, Bool.and_false])
        simp only [a1, a2]
        walk_at "ev"
        exact hz.symm
    · have a1' : ss.all (fun x => decide (0 ≤ x) && decide (x < (F : Int))) = false := by simpa using a1
      have hz := hbad (by rw [hzm, a1', Bool.false_and])
      simp only [a1']
      walk_at "ev"
      exact hz.symm
  · rintro r ⟨j5, j6, j7, j8, j9, hp, rfl⟩
    rw [List.length_map, List.length_range] at hp
    have hz : zsg M (gd, (n : Int), mvs) = true := zsg_good (by omega) (by omega) (by omega) fun c hc => hp c hc (by omega)
    rw [hz]; rfl
end WK

set_option Elab.async false
set_option linter.all false
set_option maxHeartbeats 4000000
set_option maxRecDepth 100000
noncomputable section
namespace WK
open PySem DL L2

local macro_rules | `(tactic| walk_at "ev") => `(tactic| simp only [ofE_err, bnd_err, ofE_ok, ofE_ok', bnd_ok, bnd_ok', sSeq_ev, sq_nx, sq_rt, sq_er, sq_bk, sq_ct, sIf_ev, sRet_ev, sDrop_ev, sSkip_ev, sRetN_ev, sRaise_ev, sFor_ev, eC_ev, e2_ev, e1_ev, eFn_ev, eCall_ev, aCons_ev, aNil_ev, nNew_ev, eTup_ev, eLst_ev, eIf_ev, eNew_ev, tTru_ev, tNot_ev, tAnd_ev, tOr_ev, tYes_ev, nLc_ev, wipe0, wipeS, tix_ev, set_ev, asg_ev, setO_ev, v0, vS, o0, o0', oS, g0, gS, own0, ownS, setAt0, setAtS, e3_ev, and_ev, or_ev, not_ev, val_ev, asB_b, iSeq_ev, seqOf_l, seqOf_t, iR1_ev, nRng_ev, gT_ev, gs_c, gs_n,
  add_i, sub_i, div_i, mod_i, mul_l, mul_r, neg_i, cmp_i, lt_i, eq_i, ne_i, isN_n, isN_i, isN_l, notN_n, notN_i, len_l, len_t, tru_l, tru_t, tru_b, tup_l, lst_l, lst_t, any_l, all_l, min_i, max_i, oIx_l, oIx_t, oIx_c0, oIx_c1, oIx_c2, limV,
  nup1, nup_le, nup_lt, nup_eq, ← Int.natCast_add,
  posts_some, postg_some, end_rt, end_nx, lp_nx, lp_ct, lp_bk, lp_rt, lp_er, sqq_nx, sqq_rt, sqq_er, sqq_bk, sqq_ct, wO_some, app_w, put_w, frz_o, frzK_some, nlit_le, nlit_lt, nlit_ge, nlit_gt, nlit_eq, nge0, in_tf, all_true, lenset_n, nm4, nm3, nm2, nd4, nd2, eq_n, le_n, ndec, if_not, eZMv, eZSt, eZM, gT_ev', 
  Option.map_some, Option.map_none, Option.bind_some, fin_nx, fin_rt, fin_er, List.length_cons, List.length_nil, List.length_map, List.length_append, List.length_range, List.set_cons_zero, List.set_cons_succ, ↓reduceIte, Nat.zero_add, Nat.add_zero, Nat.zero_le, Nat.reduceAdd, Nat.reduceLeDiff, Nat.reduceEqDiff, Int.reduceLT, Int.reduceNeg, Int.reducePow, Option.isNone_none, Option.isNone_some, Option.isSome_none, Option.isSome_some, decide_eq_true_eq, decide_true, decide_false, Bool.not_true, Bool.not_false, Bool.false_eq_true, eq_self, and_self, true_and, and_true, Bool.true_xor, Bool.false_xor])
local macro_rules | `(tactic| walk_at "in") => `(tactic| simp only [rho0, List.map_cons, List.map_nil, List.cons_append, List.nil_append, List.length_cons, List.length_nil, Nat.reduceAdd, Nat.reduceSub, Nat.zero_add, Nat.sub_self, rep0, repS])
local macro_rules | `(tactic| walk_at "evo") => `(tactic| simp (disch := (first | omega | (simp only [List.length_map, List.length_append, List.length_cons, List.length_nil, List.length_range, List.length_set, List.length_replicate]; omega))) only [addT6, addL6, rng1_n, rngO_n, mod_n, ofE_err, bnd_err, ofE_ok, ofE_ok', bnd_ok, bnd_ok', sSeq_ev, sq_nx, sq_rt, sq_er, sq_bk, sq_ct, sIf_ev, sRet_ev, sDrop_ev, sSkip_ev, sRetN_ev, sRaise_ev, sFor_ev, eC_ev, e2_ev, e1_ev, eFn_ev, eCall_ev, aCons_ev, aNil_ev, nNew_ev, eTup_ev, eLst_ev, eIf_ev, eNew_ev, tTru_ev, tNot_ev, tAnd_ev, tOr_ev, tYes_ev, nLc_ev, wipe0, wipeS, tix_ev, set_ev, asg_ev, setO_ev, v0, vS, o0, o0', oS, g0, gS, own0, ownS, setAt0, setAtS, e3_ev, and_ev, or_ev, not_ev, val_ev, asB_b, iSeq_ev, seqOf_l, seqOf_t, iR1_ev, nRng_ev, gT_ev, gs_c, gs_n,
  add_i, sub_i, div_i, mod_i, mul_l, mul_r, neg_i, cmp_i, lt_i, eq_i, ne_i, isN_n, isN_i, isN_l, notN_n, notN_i, len_l, len_t, tru_l, tru_t, tru_b, tup_l, lst_l, lst_t, any_l, all_l, min_i, max_i, oIx_l, oIx_t, oIx_c0, oIx_c1, oIx_c2, limV,
  nup1, nup_le, nup_lt, nup_eq, ← Int.natCast_add,
  posts_some, postg_some, end_rt, end_nx, lp_nx, lp_ct, lp_bk, lp_rt, lp_er, sqq_nx, sqq_rt, sqq_er, sqq_bk, sqq_ct, wO_some, app_w, put_w, frz_o, frzK_some, nlit_le, nlit_lt, nlit_ge, nlit_gt, nlit_eq, nge0, in_tf, all_true, lenset_n, nm4, nm3, nm2, nd4, nd2, eq_n, le_n, ndec, if_not, eZMv, eZSt, eZM, gT_ev', 
  Option.map_some, Option.map_none, Option.bind_some, fin_nx, fin_rt, fin_er, List.length_cons, List.length_nil, List.length_map, List.length_append, List.length_range, List.set_cons_zero, List.set_cons_succ, ↓reduceIte, Nat.zero_add, Nat.add_zero, Nat.zero_le, Nat.reduceAdd, Nat.reduceLeDiff, Nat.reduceEqDiff, Int.reduceLT, Int.reduceNeg, Int.reducePow, Option.isNone_none, Option.isNone_some, Option.isSome_none, Option.isSome_some, decide_eq_true_eq, decide_true, decide_false, Bool.not_true, Bool.not_false, Bool.false_eq_true, eq_self, and_self, true_and, and_true, Bool.true_xor, Bool.false_xor])
local macro_rules | `(tactic| walk_at "evh") => `(tactic| simp only [*, ofE_err, bnd_err, ofE_ok, ofE_ok', bnd_ok, bnd_ok', sSeq_ev, sq_nx, sq_rt, sq_er, sq_bk, sq_ct, sIf_ev, sRet_ev, sDrop_ev, sSkip_ev, sRetN_ev, sRaise_ev, sFor_ev, eC_ev, e2_ev, e1_ev, eFn_ev, eCall_ev, aCons_ev, aNil_ev, nNew_ev, eTup_ev, eLst_ev, eIf_ev, eNew_ev, tTru_ev, tNot_ev, tAnd_ev, tOr_ev, tYes_ev, nLc_ev, wipe0, wipeS, tix_ev, set_ev, asg_ev, setO_ev, v0, vS, o0, o0', oS, g0, gS, own0, ownS, setAt0, setAtS, e3_ev, and_ev, or_ev, not_ev, val_ev, asB_b, iSeq_ev, seqOf_l, seqOf_t, iR1_ev, nRng_ev, gT_ev, gs_c, gs_n,
  add_i, sub_i, div_i, mod_i, mul_l, mul_r, neg_i, cmp_i, lt_i, eq_i, ne_i, isN_n, isN_i, isN_l, notN_n, notN_i, len_l, len_t, tru_l, tru_t, tru_b, tup_l, lst_l, lst_t, any_l, all_l, min_i, max_i, oIx_l, oIx_t, oIx_c0, oIx_c1, oIx_c2, limV,
  nup1, nup_le, nup_lt, nup_eq, ← Int.natCast_add,
  posts_some, postg_some, end_rt, end_nx, lp_nx, lp_ct, lp_bk, lp_rt, lp_er, sqq_nx, sqq_rt, sqq_er, sqq_bk, sqq_ct, wO_some, app_w, put_w, frz_o, frzK_some, nlit_le, nlit_lt, nlit_ge, nlit_gt, nlit_eq, nge0, in_tf, all_true, lenset_n, nm4, nm3, nm2, nd4, nd2, eq_n, le_n, ndec, if_not, eZMv, eZSt, eZM, gT_ev', 
  Option.map_some, Option.map_none, Option.bind_some, fin_nx, fin_rt, fin_er, List.length_cons, List.length_nil, List.length_map, List.length_append, List.length_range, List.set_cons_zero, List.set_cons_succ, ↓reduceIte, Nat.zero_add, Nat.add_zero, Nat.zero_le, Nat.reduceAdd, Nat.reduceLeDiff, Nat.reduceEqDiff, Int.reduceLT, Int.reduceNeg, Int.reducePow, Option.isNone_none, Option.isNone_some, Option.isSome_none, Option.isSome_some, decide_eq_true_eq, decide_true, decide_false, Bool.not_true, Bool.not_false, Bool.false_eq_true, eq_self, and_self, true_and, and_true, Bool.true_xor, Bool.false_xor])
theorem ansT : ans true = ok .none := rfl
theorem ansF : ans false = some (.error .mach) := rfl
def AllTo (M : ZM) (i : Nat) : Prop := ∀ c (hc : c < M.length), c < i → zsg M (M[c]'hc) = true
theorem zgd_all {M : ZM} (h1 : 1 ≤ M.length) (h2 : M.length ≤ 400) (h3 : (zst M 0).2.1 = 0) (h : AllTo M M.length) : zgd M = true := by
  unfold zgd
  simp only [h1, h2, h3, decide_true, Bool.true_and, List.all_eq_true]
  intro s hs
  obtain ⟨i, hi, rfl⟩ := List.getElem_of_mem hs
  exact h i hi hi
theorem zgd_bad {M : ZM} {c : Nat} (hc : c < M.length) (h : zsg M (M[c]'hc) = false) : zgd M = false := by
  unfold zgd
  rw [Bool.and_eq_false_iff]
  right
  rw [List.all_eq_false]
  exact ⟨_, List.getElem_mem hc, by rw [h]; decide⟩
structure ZB (Z : ZM) : Prop where
  len : Z.length ≤ 1000
  mvs : ∀ s ∈ Z, s.2.2.length < 100
  src : ∀ s ∈ Z, ∀ m ∈ s.2.2, m.2.length < 100
theorem zlook_machine (M : ZM) (hB : ZB M) : m_look_machine [eZM M] = ans (zgd M) := by
  refine run_end (R := fun z => z = ans (zgd M)) (by rfl) ?_
  walk_at "in"
  rw [b_look_machine]
  by_cases h1 : 1 ≤ M.length
  rotate_left
  · have hz : ans (zgd M) = some (.error .mach) := by unfold zgd; simp [h1, ans]
    walk_at "ev"
    simp only [h1]
    walk_at "evh"
  by_cases h2 : M.length ≤ 400
  rotate_left
  · have hz : ans (zgd M) = some (.error .mach) := by unfold zgd; simp [h2, ans]
    walk_at "ev"
    simp only [h1, h2]
    walk_at "evh"
  have h0 : oIx (.list (M.map eZSt)) (.int 0) = ok (eZSt (zst M 0)) := oIx_list eZSt M 0 _ (by rw [zst, List.getD_eq_getElem?_getD, List.getElem?_eq_getElem (show (0 : Int).toNat < M.length from h1)]; exact List.getElem?_eq_getElem h1)
  rw [eZSt] at h0
  by_cases h3 : (zst M 0).2.1 = 0
  rotate_left
  · have hz : ans (zgd M) = some (.error .mach) := by unfold zgd; simp [h3, ans]
    walk_at "ev"
    simp only [h1, h2, h0]
    walk_at "ev"
    simp only [h3]
    walk_at "evh"
  walk_at "ev"
  simp only [h1, h2, h0]
  walk_at "ev"
  simp only [h3]
  walk_at "ev"
  refine posts_for (fun i r => ∃ (j1 : Option B), AllTo M i ∧ r = [some (.d (.list (M.map eZSt))), j1]) ?_ ?_ ?_
  · exact ⟨_, fun c _ h => absurd h (Nat.not_lt_zero _), rfl⟩
  · rintro i x r hx ⟨j1, hp, rfl⟩
    obtain ⟨s, hs, rfl⟩ := getq_map hx
    obtain ⟨hi, he⟩ := List.getElem?_eq_some_iff.mp hs
    have hl := zlook_state M s hB.len (hB.src s (List.mem_of_getElem? hs))
    have hs2 : eZSt s = .tuple [.bool s.1, .int s.2.1, .list (s.2.2.map eZMv)] := rfl
    unfold eZM at hl
    rw [hs2] at hl ⊢
    walk_at "ev"
    rw [hl]
    cases hg : zsg M s with
    | true =>
      rw [ansT]
      walk_at "ev"
      refine ⟨_, fun c hc hci => ?_, rfl⟩
      by_cases e : c = i
      · subst e; rw [he]; exact hg
      · exact hp c hc (by omega)
    | false =>
      rw [ansF]
      walk_at "ev"
      rw [zgd_bad hi (by rw [he]; exact hg)]; rfl
  · rintro r ⟨j1, hp, rfl⟩
    rw [List.length_map] at hp
    rw [zgd_all h1 h2 h3 hp]; rfl
end WK

set_option Elab.async false
set_option linter.all false
set_option maxHeartbeats 4000000
set_option maxRecDepth 100000
noncomputable section
namespace WK
open PySem DL L2

local macro_rules | `(tactic| walk_at "ev") => `(tactic| simp only [ofE_err, bnd_err, ofE_ok, ofE_ok', bnd_ok, bnd_ok', sSeq_ev, sq_nx, sq_rt, sq_er, sq_bk, sq_ct, sIf_ev, sRet_ev, sDrop_ev, sSkip_ev, sRetN_ev, sRaise_ev, sFor_ev, eC_ev, e2_ev, e1_ev, eFn_ev, eCall_ev, aCons_ev, aNil_ev, nNew_ev, eTup_ev, eLst_ev, eIf_ev, eNew_ev, tTru_ev, tNot_ev, tAnd_ev, tOr_ev, tYes_ev, nLc_ev, wipe0, wipeS, tix_ev, set_ev, asg_ev, setO_ev, v0, vS, o0, o0', oS, g0, gS, own0, ownS, setAt0, setAtS, e3_ev, and_ev, or_ev, not_ev, val_ev, asB_b, iSeq_ev, seqOf_l, seqOf_t, iR1_ev, nRng_ev, gT_ev, gs_c, gs_n,
  add_i, sub_i, div_i, mod_i, mul_l, mul_r, neg_i, cmp_i, lt_i, eq_i, ne_i, isN_n, isN_i, isN_l, notN_n, notN_i, len_l, len_t, tru_l, tru_t, tru_b, tup_l, lst_l, lst_t, any_l, all_l, min_i, max_i, oIx_l, oIx_t, oIx_c0, oIx_c1, oIx_c2, limV,
  nup1, nup_le, nup_lt, nup_eq, ← Int.natCast_add,
  posts_some, postg_some, end_rt, end_nx, lp_nx, lp_ct, lp_bk, lp_rt, lp_er, sqq_nx, sqq_rt, sqq_er, sqq_bk, sqq_ct, wO_some, app_w, put_w, frz_o, frzK_some, nlit_le, nlit_lt, nlit_ge, nlit_gt, nlit_eq, nge0, in_tf, all_true, lenset_n, nm4, nm3, nm2, nd4, nd2, eq_n, le_n, ndec, if_not, eZMv, eZSt, eZM, gT_ev', int_b, 
  Option.map_some, Option.map_none, Option.bind_some, fin_nx, fin_rt, fin_er, List.length_cons, List.length_nil, List.length_map, List.length_append, List.length_range, List.set_cons_zero, List.set_cons_succ, ↓reduceIte, Nat.zero_add, Nat.add_zero, Nat.zero_le, Nat.reduceAdd, Nat.reduceLeDiff, Nat.reduceEqDiff, Int.reduceLT, Int.reduceNeg, Int.reducePow, Option.isNone_none, Option.isNone_some, Option.isSome_none, Option.isSome_some, decide_eq_true_eq, decide_true, decide_false, Bool.not_true, Bool.not_false, Bool.false_eq_true, eq_self, and_self, true_and, and_true, Bool.true_xor, Bool.false_xor])
local macro_rules | `(tactic| walk_at "in") => `(tactic| simp only [rho0, List.map_cons, List.map_nil, List.cons_append, List.nil_append, List.length_cons, List.length_nil, Nat.reduceAdd, Nat.reduceSub, Nat.zero_add, Nat.sub_self, rep0, repS])
local macro_rules | `(tactic| walk_at "evo") => `(tactic| simp (disch := (first | omega | (simp only [List.length_map, List.length_append, List.length_cons, List.length_nil, List.length_range, List.length_set, List.length_replicate]; omega))) only [addT6, addL6, rng1_n, rngO_n, mod_n, ofE_err, bnd_err, ofE_ok, ofE_ok', bnd_ok, bnd_ok', sSeq_ev, sq_nx, sq_rt, sq_er, sq_bk, sq_ct, sIf_ev, sRet_ev, sDrop_ev, sSkip_ev, sRetN_ev, sRaise_ev, sFor_ev, eC_ev, e2_ev, e1_ev, eFn_ev, eCall_ev, aCons_ev, aNil_ev, nNew_ev, eTup_ev, eLst_ev, eIf_ev, eNew_ev, tTru_ev, tNot_ev, tAnd_ev, tOr_ev, tYes_ev, nLc_ev, wipe0, wipeS, tix_ev, set_ev, asg_ev, setO_ev, v0, vS, o0, o0', oS, g0, gS, own0, ownS, setAt0, setAtS, e3_ev, and_ev, or_ev, not_ev, val_ev, asB_b, iSeq_ev, seqOf_l, seqOf_t, iR1_ev, nRng_ev, gT_ev, gs_c, gs_n,
  add_i, sub_i, div_i, mod_i, mul_l, mul_r, neg_i, cmp_i, lt_i, eq_i, ne_i, isN_n, isN_i, isN_l, notN_n, notN_i, len_l, len_t, tru_l, tru_t, tru_b, tup_l, lst_l, lst_t, any_l, all_l, min_i, max_i, oIx_l, oIx_t, oIx_c0, oIx_c1, oIx_c2, limV,
  nup1, nup_le, nup_lt, nup_eq, ← Int.natCast_add,
  posts_some, postg_some, end_rt, end_nx, lp_nx, lp_ct, lp_bk, lp_rt, lp_er, sqq_nx, sqq_rt, sqq_er, sqq_bk, sqq_ct, wO_some, app_w, put_w, frz_o, frzK_some, nlit_le, nlit_lt, nlit_ge, nlit_gt, nlit_eq, nge0, in_tf, all_true, lenset_n, nm4, nm3, nm2, nd4, nd2, eq_n, le_n, ndec, if_not, eZMv, eZSt, eZM, gT_ev', int_b, 
  Option.map_some, Option.map_none, Option.bind_some, fin_nx, fin_rt, fin_er, List.length_cons, List.length_nil, List.length_map, List.length_append, List.length_range, List.set_cons_zero, List.set_cons_succ, ↓reduceIte, Nat.zero_add, Nat.add_zero, Nat.zero_le, Nat.reduceAdd, Nat.reduceLeDiff, Nat.reduceEqDiff, Int.reduceLT, Int.reduceNeg, Int.reducePow, Option.isNone_none, Option.isNone_some, Option.isSome_none, Option.isSome_some, decide_eq_true_eq, decide_true, decide_false, Bool.not_true, Bool.not_false, Bool.false_eq_true, eq_self, and_self, true_and, and_true, Bool.true_xor, Bool.false_xor])
local macro_rules | `(tactic| walk_at "evh") => `(tactic| simp only [*, ofE_err, bnd_err, ofE_ok, ofE_ok', bnd_ok, bnd_ok', sSeq_ev, sq_nx, sq_rt, sq_er, sq_bk, sq_ct, sIf_ev, sRet_ev, sDrop_ev, sSkip_ev, sRetN_ev, sRaise_ev, sFor_ev, eC_ev, e2_ev, e1_ev, eFn_ev, eCall_ev, aCons_ev, aNil_ev, nNew_ev, eTup_ev, eLst_ev, eIf_ev, eNew_ev, tTru_ev, tNot_ev, tAnd_ev, tOr_ev, tYes_ev, nLc_ev, wipe0, wipeS, tix_ev, set_ev, asg_ev, setO_ev, v0, vS, o0, o0', oS, g0, gS, own0, ownS, setAt0, setAtS, e3_ev, and_ev, or_ev, not_ev, val_ev, asB_b, iSeq_ev, seqOf_l, seqOf_t, iR1_ev, nRng_ev, gT_ev, gs_c, gs_n,
  add_i, sub_i, div_i, mod_i, mul_l, mul_r, neg_i, cmp_i, lt_i, eq_i, ne_i, isN_n, isN_i, isN_l, notN_n, notN_i, len_l, len_t, tru_l, tru_t, tru_b, tup_l, lst_l, lst_t, any_l, all_l, min_i, max_i, oIx_l, oIx_t, oIx_c0, oIx_c1, oIx_c2, limV,
  nup1, nup_le, nup_lt, nup_eq, ← Int.natCast_add,
  posts_some, postg_some, end_rt, end_nx, lp_nx, lp_ct, lp_bk, lp_rt, lp_er, sqq_nx, sqq_rt, sqq_er, sqq_bk, sqq_ct, wO_some, app_w, put_w, frz_o, frzK_some, nlit_le, nlit_lt, nlit_ge, nlit_gt, nlit_eq, nge0, in_tf, all_true, lenset_n, nm4, nm3, nm2, nd4, nd2, eq_n, le_n, ndec, if_not, eZMv, eZSt, eZM, gT_ev', int_b, 
  Option.map_some, Option.map_none, Option.bind_some, fin_nx, fin_rt, fin_er, List.length_cons, List.length_nil, List.length_map, List.length_append, List.length_range, List.set_cons_zero, List.set_cons_succ, ↓reduceIte, Nat.zero_add, Nat.add_zero, Nat.zero_le, Nat.reduceAdd, Nat.reduceLeDiff, Nat.reduceEqDiff, Int.reduceLT, Int.reduceNeg, Int.reducePow, Option.isNone_none, Option.isNone_some, Option.isSome_none, Option.isSome_some, decide_eq_true_eq, decide_true, decide_false, Bool.not_true, Bool.not_false, Bool.false_eq_true, eq_self, and_self, true_and, and_true, Bool.true_xor, Bool.false_xor])
theorem zlaw_good (M : ZM) (hB : ZB M) : m__law_good [eZM M] = ok (.bool (zgd M)) := by
  refine run_end (R := fun z => z = ok (.bool (zgd M))) (by rfl) ?_
  walk_at "in"
  rw [b__law_good]
  by_cases h1 : 1 ≤ M.length
  rotate_left
  · have hz : zgd M = false := by unfold zgd; simp [h1]
    walk_at "ev"
    simp only [h1]
    walk_at "evh"
  by_cases h2 : M.length ≤ 400
  rotate_left
  · have hz : zgd M = false := by unfold zgd; simp [h2]
    walk_at "ev"
    simp only [h1, h2]
    walk_at "evh"
  have h0 : oIx (.list (M.map eZSt)) (.int 0) = ok (eZSt (zst M 0)) := oIx_list eZSt M 0 _ (by rw [zst, List.getD_eq_getElem?_getD, List.getElem?_eq_getElem (show (0 : Int).toNat < M.length from h1)]; exact List.getElem?_eq_getElem h1)
  rw [eZSt] at h0
  by_cases h3 : (zst M 0).2.1 = 0
  rotate_left
  · have hz : zgd M = false := by unfold zgd; simp [h3]
    walk_at "ev"
    simp only [h1, h2, h0]
    walk_at "ev"
    simp only [h3]
    walk_at "evh"
  walk_at "ev"
  simp only [h1, h2, h0]
  walk_at "ev"
  simp only [h3]
  walk_at "ev"
  refine posts_sq (posts_for (fun i r => ∃ (j1 j2 j3 j4 j5 j6 j7 j8 : Option B), AllTo M i ∧ r = [some (.d (.list (M.map eZSt))), j1, j2, j3, j4, j5, j6, j7, j8]) ?_ ?_ ?_)
  · exact ⟨_, _, _, _, _, _, _, _, fun c _ h => absurd h (Nat.not_lt_zero _), rfl⟩
  · rintro i x r hx ⟨j1, j2, j3, j4, j5, j6, j7, j8, hp, rfl⟩
    obtain ⟨s, hs, rfl⟩ := getq_map hx
    obtain ⟨hi, he⟩ := List.getElem?_eq_some_iff.mp hs
    have hsl := hB.src s (List.mem_of_getElem? hs)
    have hml := hB.mvs s (List.mem_of_getElem? hs)
    have hbad : zsg M s = false → zgd M = false := fun h => zgd_bad hi (by rw [he]; exact h)
    have hgood : zsg M s = true → AllTo M (i + 1) := fun h c hc hci => by
      by_cases e : c = i
      · subst e; rw [he]; exact h
      · exact hp c hc (by omega)
    clear hp
    have hs2 : eZSt s = .tuple [.bool s.1, .int s.2.1, .list (s.2.2.map eZMv)] := rfl
    rw [hs2]
    clear hs2 he hs hx
    obtain ⟨gd, b, mvs⟩ := s
    replace hml : mvs.length < 100 := hml
    replace hsl : ∀ m ∈ mvs, m.2.length < 100 := hsl
    by_cases h1 : 0 ≤ b
    rotate_left
    · have hz := hbad (by unfold zsg; simp [h1])
      walk_at "ev"
      simp only [h1]
      walk_at "evh"
    by_cases h2 : b ≤ 6
    rotate_left
    · have hz := hbad (by unfold zsg; simp [h2])
      walk_at "ev"
      simp only [h1, h2]
      walk_at "evh"
    by_cases h3 : (mvs.length : Int) = b + 1
    rotate_left
    · have hz := hbad (by unfold zsg; simp [h3])
      walk_at "ev"
      simp only [h1, h2]
      walk_at "ev"
      simp only [h3]
      walk_at "evh"
    obtain ⟨n, rfl⟩ := Int.eq_ofNat_of_zero_le h1
    have h2' : n ≤ 6 := by omega
    have h3' : mvs.length = n + 1 := by omega
    have hr := rng1_n (n := n + 1) (by omega)
    clear h1 h2
    walk_at "ev"
    simp only [h2', h3, h3']
    walk_at "ev"
    rw [hr]
    walk_at "ev"
    refine posts_for (fun i r => ∃ (j4 j5 j6 j7 j8 : Option B), GoodTo M n mvs i ∧ r = [some (.d (.list (M.map eZSt))), some (.d (.bool gd)), some (.d (cN n)), some (.d (.list (mvs.map eZMv))), j4, j5, j6, j7, j8]) ?_ ?_ ?_
    · exact ⟨_, _, _, _, _, fun c hc h => absurd h (Nat.not_lt_zero _), rfl⟩
    · rintro y x r hx ⟨j4, j5, j6, j7, j8, hp, rfl⟩
      obtain ⟨y', hy, rfl⟩ := getq_map hx
      obtain ⟨rfl, hyl⟩ := getq_range hy
      have hyl' : y' < mvs.length := by omega
      have hmv : oIx (.list (mvs.map eZMv)) (cN y') = ok (eZMv (mvs[y']'hyl')) := oIx_list eZMv mvs y' _ (List.getElem?_eq_getElem hyl')
      have hsl := hsl _ (List.getElem_mem hyl')
      have hbad2 : zmv M (if (y' : Int) < (n : Int) then (n : Int) else (n : Int) + 1) (mvs[y']'hyl') = false → zgd M = false := fun h => hbad (zsg_bad hyl' h)
      have hgood2 : zmv M (if (y' : Int) < (n : Int) then (n : Int) else (n : Int) + 1) (mvs[y']'hyl') = true → GoodTo M n mvs (y' + 1) := fun h c hc hcy => by
        by_cases hcy2 : c = y'
        · subst hcy2; exact h
        · exact hp c hc (by omega)
      clear hp hgood
      generalize mvs[y']'hyl' = mv at hmv hsl hbad2 hgood2
      obtain ⟨g, ss⟩ := mv
      replace hsl : ss.length < 100 := hsl
      rw [eZMv] at hmv
      walk_at "ev"
      rw [hmv]
      walk_at "ev"
      rw [show ((n : Int) + if y' = n then 1 else 0) = ((if y' < n then n else n + 1 : Nat) : Int) from by split <;> split <;> omega]
      have hF : (if (y' : Int) < (n : Int) then (n : Int) else (n : Int) + 1) = ((if y' < n then n else n + 1 : Nat) : Int) := by split <;> split <;> omega
      generalize (if y' < n then n else n + 1) = F at hF
      by_cases g1 : 0 ≤ g
      rotate_left
      · have hz := hbad2 (by unfold zmv; simp [g1])
        simp only [g1]
        walk_at "ev"
        rw [hz]
      by_cases g2 : g < M.length
      rotate_left
      · have hz := hbad2 (by unfold zmv; simp [g2])
        simp only [g1, g2]
        walk_at "ev"
        rw [hz]
      obtain ⟨gn, rfl⟩ := Int.eq_ofNat_of_zero_le g1
      have g2' : gn < M.length := by omega
      have hst : oIx (.list (M.map eZSt)) (cN gn) = ok (eZSt (zst M gn)) := oIx_list eZSt M gn _ (by rw [zst, Int.toNat_natCast, List.getD_eq_getElem?_getD, List.getElem?_eq_getElem g2']; rfl)
      rw [eZSt] at hst
      by_cases g3 : (ss.length : Int) = (zst M gn).2.1
      rotate_left
      · have hz := hbad2 (by unfold zmv; simp [g3])
        walk_at "ev"
        simp only [g2', hst]
        walk_at "ev"
        simp only [g3]
        walk_at "ev"
        rw [hz]
      walk_at "ev"
      simp only [g2', hst]
      walk_at "ev"
      simp only [g3]
      walk_at "ev"
      rw [lc_allG (enc := PyData.int) (fun x => .bool (decide (0 ≤ x) && decide (x < (F : Int)))) ss (by omega) fun x hx => by
        walk_at "ev"
        by_cases h0 : 0 ≤ x
        · simp only [h0]
          walk_at "ev"
          rw [Bool.true_and]
        · simp only [h0]
          walk_at "ev"
          rw [Bool.false_and]]
      walk_at "ev"
      rw [all_b (xs := ss) (p := fun x => decide (0 ≤ x) && decide (x < (F : Int))), lenset_i (by omega)]
      walk_at "ev"
      have hzm : zmv M (if (y' : Int) < (n : Int) then (n : Int) else (n : Int) + 1) ((gn : Int), ss) = (ss.all (fun x => decide (0 ≤ x) && decide (x < (F : Int))) && decide ((dd ss).length = ss.length)) := by
        unfold zmv
        rw [hF]
        simp [g2', g3]
      by_cases a2 : (dd ss).length = ss.length
      · by_cases a1 : ss.all (fun x => decide (0 ≤ x) && decide (x < (F : Int))) = true
        · have hg := hgood2 (by rw [hzm, a1, decide_eq_true a2]; rfl)
          simp only [a1, a2]
          walk_at "ev"
          exact ⟨_, _, _, _, _, hg, rfl⟩
        · have a1' : ss.all (fun x => decide (0 ≤ x) && decide (x < (F : Int))) = false := by simpa using a1
          have hz := hbad2 (by rw [hzm, a1', Bool.false_and])
          simp only [a1', a2]
          walk_at "ev"
          rw [hz]
      · have hz := hbad2 (by rw [hzm, decide_eq_false a2, Bool.and_false])
        simp only [a2]
        walk_at "ev"
        rw [hz]
    · rintro r ⟨j4, j5, j6, j7, j8, hp, rfl⟩
      rw [List.length_map, List.length_range] at hp
      exact ⟨_, _, _, _, _, _, _, _, hgood (zsg_good (by omega) (by omega) (by omega) fun c hc => hp c hc (by omega)), rfl⟩
  · rintro r ⟨j1, j2, j3, j4, j5, j6, j7, j8, hp, rfl⟩
    rw [List.length_map] at hp
    walk_at "ev"
    rw [zgd_all h1 h2 h3 hp]
end WK

set_option Elab.async false
set_option linter.all false
set_option maxHeartbeats 4000000
set_option maxRecDepth 100000
noncomputable section
namespace WK
open PySem DL L2

local macro_rules | `(tactic| walk_at "ev") => `(tactic| simp only [ofE_err, bnd_err, ofE_ok, ofE_ok', bnd_ok, bnd_ok', sSeq_ev, sq_nx, sq_rt, sq_er, sq_bk, sq_ct, sIf_ev, sRet_ev, sDrop_ev, sSkip_ev, sRetN_ev, sRaise_ev, sFor_ev, eC_ev, e2_ev, e1_ev, eFn_ev, eCall_ev, aCons_ev, aNil_ev, nNew_ev, eTup_ev, eLst_ev, eIf_ev, eNew_ev, tTru_ev, tNot_ev, tAnd_ev, tOr_ev, tYes_ev, nLc_ev, wipe0, wipeS, tix_ev, set_ev, asg_ev, setO_ev, v0, vS, o0, o0', oS, g0, gS, own0, ownS, setAt0, setAtS, e3_ev, and_ev, or_ev, not_ev, val_ev, asB_b, iSeq_ev, seqOf_l, seqOf_t, iR1_ev, nRng_ev, gT_ev, gs_c, gs_n,
  add_i, sub_i, div_i, mod_i, mul_l, mul_r, neg_i, cmp_i, lt_i, eq_i, ne_i, isN_n, isN_i, isN_l, notN_n, notN_i, len_l, len_t, tru_l, tru_t, tru_b, tup_l, lst_l, lst_t, any_l, all_l, min_i, max_i, oIx_l, oIx_t, oIx_c0, oIx_c1, oIx_c2, limV,
  nup1, nup_le, nup_lt, nup_eq, ← Int.natCast_add,
  posts_some, postg_some, end_rt, end_nx, lp_nx, lp_ct, lp_bk, lp_rt, lp_er, sqq_nx, sqq_rt, sqq_er, sqq_bk, sqq_ct, wO_some, app_w, put_w, frz_o, frzK_some, nlit_le, nlit_lt, nlit_ge, nlit_gt, nlit_eq, nge0, in_tf, all_true, lenset_n, nm4, nm3, nm2, nd4, nd2, eq_n, le_n, mix_ev, eMv, eSt, eM, eZMv, eZSt, eZM, gT_ev', eSl_ev, pNo_ev, pSome_ev, asO_i, sl_l, sl_t, nd8, nd64, nd512, nm7, nm8, List.cons_append, List.nil_append, 
  Option.map_some, Option.map_none, Option.bind_some, fin_nx, fin_rt, fin_er, List.length_cons, List.length_nil, List.length_map, List.length_append, List.length_range, List.set_cons_zero, List.set_cons_succ, ↓reduceIte, Nat.zero_add, Nat.add_zero, Nat.zero_le, Nat.reduceAdd, Nat.reduceLeDiff, Nat.reduceEqDiff, Int.reduceLT, Int.reduceNeg, Int.reducePow, Option.isNone_none, Option.isNone_some, Option.isSome_none, Option.isSome_some, decide_eq_true_eq, decide_true, decide_false, Bool.not_true, Bool.not_false, Bool.false_eq_true, eq_self, and_self, true_and, and_true, Bool.true_xor, Bool.false_xor])
local macro_rules | `(tactic| walk_at "in") => `(tactic| simp only [rho0, List.map_cons, List.map_nil, List.cons_append, List.nil_append, List.length_cons, List.length_nil, Nat.reduceAdd, Nat.reduceSub, Nat.zero_add, Nat.sub_self, rep0, repS])
local macro_rules | `(tactic| walk_at "evo") => `(tactic| simp (disch := (first | omega | (simp only [List.length_map, List.length_append, List.length_cons, List.length_nil, List.length_range, List.length_set, List.length_replicate]; omega))) only [addT6, addL6, rng1_n, rngO_n, mod_n, ofE_err, bnd_err, ofE_ok, ofE_ok', bnd_ok, bnd_ok', sSeq_ev, sq_nx, sq_rt, sq_er, sq_bk, sq_ct, sIf_ev, sRet_ev, sDrop_ev, sSkip_ev, sRetN_ev, sRaise_ev, sFor_ev, eC_ev, e2_ev, e1_ev, eFn_ev, eCall_ev, aCons_ev, aNil_ev, nNew_ev, eTup_ev, eLst_ev, eIf_ev, eNew_ev, tTru_ev, tNot_ev, tAnd_ev, tOr_ev, tYes_ev, nLc_ev, wipe0, wipeS, tix_ev, set_ev, asg_ev, setO_ev, v0, vS, o0, o0', oS, g0, gS, own0, ownS, setAt0, setAtS, e3_ev, and_ev, or_ev, not_ev, val_ev, asB_b, iSeq_ev, seqOf_l, seqOf_t, iR1_ev, nRng_ev, gT_ev, gs_c, gs_n,
  add_i, sub_i, div_i, mod_i, mul_l, mul_r, neg_i, cmp_i, lt_i, eq_i, ne_i, isN_n, isN_i, isN_l, notN_n, notN_i, len_l, len_t, tru_l, tru_t, tru_b, tup_l, lst_l, lst_t, any_l, all_l, min_i, max_i, oIx_l, oIx_t, oIx_c0, oIx_c1, oIx_c2, limV,
  nup1, nup_le, nup_lt, nup_eq, ← Int.natCast_add,
  posts_some, postg_some, end_rt, end_nx, lp_nx, lp_ct, lp_bk, lp_rt, lp_er, sqq_nx, sqq_rt, sqq_er, sqq_bk, sqq_ct, wO_some, app_w, put_w, frz_o, frzK_some, nlit_le, nlit_lt, nlit_ge, nlit_gt, nlit_eq, nge0, in_tf, all_true, lenset_n, nm4, nm3, nm2, nd4, nd2, eq_n, le_n, mix_ev, eMv, eSt, eM, eZMv, eZSt, eZM, gT_ev', eSl_ev, pNo_ev, pSome_ev, asO_i, sl_l, sl_t, nd8, nd64, nd512, nm7, nm8, List.cons_append, List.nil_append, 
  Option.map_some, Option.map_none, Option.bind_some, fin_nx, fin_rt, fin_er, List.length_cons, List.length_nil, List.length_map, List.length_append, List.length_range, List.set_cons_zero, List.set_cons_succ, ↓reduceIte, Nat.zero_add, Nat.add_zero, Nat.zero_le, Nat.reduceAdd, Nat.reduceLeDiff, Nat.reduceEqDiff, Int.reduceLT, Int.reduceNeg, Int.reducePow, Option.isNone_none, Option.isNone_some, Option.isSome_none, Option.isSome_some, decide_eq_true_eq, decide_true, decide_false, Bool.not_true, Bool.not_false, Bool.false_eq_true, eq_self, and_self, true_and, and_true, Bool.true_xor, Bool.false_xor])
local macro_rules | `(tactic| walk_at "evh") => `(tactic| simp only [*, ofE_err, bnd_err, ofE_ok, ofE_ok', bnd_ok, bnd_ok', sSeq_ev, sq_nx, sq_rt, sq_er, sq_bk, sq_ct, sIf_ev, sRet_ev, sDrop_ev, sSkip_ev, sRetN_ev, sRaise_ev, sFor_ev, eC_ev, e2_ev, e1_ev, eFn_ev, eCall_ev, aCons_ev, aNil_ev, nNew_ev, eTup_ev, eLst_ev, eIf_ev, eNew_ev, tTru_ev, tNot_ev, tAnd_ev, tOr_ev, tYes_ev, nLc_ev, wipe0, wipeS, tix_ev, set_ev, asg_ev, setO_ev, v0, vS, o0, o0', oS, g0, gS, own0, ownS, setAt0, setAtS, e3_ev, and_ev, or_ev, not_ev, val_ev, asB_b, iSeq_ev, seqOf_l, seqOf_t, iR1_ev, nRng_ev, gT_ev, gs_c, gs_n,
  add_i, sub_i, div_i, mod_i, mul_l, mul_r, neg_i, cmp_i, lt_i, eq_i, ne_i, isN_n, isN_i, isN_l, notN_n, notN_i, len_l, len_t, tru_l, tru_t, tru_b, tup_l, lst_l, lst_t, any_l, all_l, min_i, max_i, oIx_l, oIx_t, oIx_c0, oIx_c1, oIx_c2, limV,
  nup1, nup_le, nup_lt, nup_eq, ← Int.natCast_add,
  posts_some, postg_some, end_rt, end_nx, lp_nx, lp_ct, lp_bk, lp_rt, lp_er, sqq_nx, sqq_rt, sqq_er, sqq_bk, sqq_ct, wO_some, app_w, put_w, frz_o, frzK_some, nlit_le, nlit_lt, nlit_ge, nlit_gt, nlit_eq, nge0, in_tf, all_true, lenset_n, nm4, nm3, nm2, nd4, nd2, eq_n, le_n, mix_ev, eMv, eSt, eM, eZMv, eZSt, eZM, gT_ev', eSl_ev, pNo_ev, pSome_ev, asO_i, sl_l, sl_t, nd8, nd64, nd512, nm7, nm8, List.cons_append, List.nil_append, 
  Option.map_some, Option.map_none, Option.bind_some, fin_nx, fin_rt, fin_er, List.length_cons, List.length_nil, List.length_map, List.length_append, List.length_range, List.set_cons_zero, List.set_cons_succ, ↓reduceIte, Nat.zero_add, Nat.add_zero, Nat.zero_le, Nat.reduceAdd, Nat.reduceLeDiff, Nat.reduceEqDiff, Int.reduceLT, Int.reduceNeg, Int.reducePow, Option.isNone_none, Option.isNone_some, Option.isSome_none, Option.isSome_some, decide_eq_true_eq, decide_true, decide_false, Bool.not_true, Bool.not_false, Bool.false_eq_true, eq_self, and_self, true_and, and_true, Bool.true_xor, Bool.false_xor])
def zOf (M : Mach) : ZM := M.map fun s => (s.1, (s.2.1 : Int), s.2.2.map fun m => ((m.1 : Int), m.2.map fun (x : Nat) => (x : Int)))
theorem eM_z (M : Mach) : eM M = eZM (zOf M) := by
  unfold eM eZM zOf
  rw [List.map_map]
  congr 1
  refine List.map_congr_left fun s _ => ?_
  show PyData.tuple [.bool s.1, cN s.2.1, .list (s.2.2.map eMv)] = PyData.tuple [.bool s.1, cN s.2.1, .list ((s.2.2.map fun m => ((m.1 : Int), m.2.map fun (x : Nat) => (x : Int))).map eZMv)]
  rw [List.map_map]
  congr 5
  refine List.map_congr_left fun m _ => ?_
  show PyData.tuple [cN m.1, .tuple (m.2.map cN)] = PyData.tuple [cN m.1, .tuple ((m.2.map fun (x : Nat) => (x : Int)).map .int)]
  rw [List.map_map]; rfl
theorem spoiltZ (Z : ZM) (h0 : 0 < Z.length) (h4 : Z.length ≤ 4) (hm0 : ∀ s ∈ Z, 0 < s.2.2.length ∧ s.2.2.length ≤ 3) (hs : ∀ s ∈ Z, ∀ m ∈ s.2.2, m.2.length ≤ 2) (v : Nat) : Post (fun d => ∃ Z2 : ZM, d = eZM Z2 ∧ ZB Z2) (m__law_spoilt [eZM Z, cN v]) := by
  refine post_run (by rfl) ?_
  walk_at "in"
  rw [b__law_spoilt]
  have hat := Nat.mod_lt (v / 8) h0
  have hmd := mod_n (i := v / 8) h0
  generalize hA : v / 8 % Z.length = A at hat hmd
  have hst : oIx (.list (Z.map eZSt)) (cN A) = ok (eZSt (Z[A]'hat)) := oIx_list eZSt Z A _ (List.getElem?_eq_getElem hat)
  have hms := hm0 _ (List.getElem_mem hat)
  have hss := hs _ (List.getElem_mem hat)
  generalize Z[A]'hat = S at hst hms hss
  obtain ⟨gd, b, mvs⟩ := S
  replace hms : 0 < mvs.length ∧ mvs.length ≤ 3 := hms
  replace hss : ∀ m ∈ mvs, m.2.length ≤ 2 := hss
  have hct := Nat.mod_lt (v / 64) hms.1
  have hmd2 := mod_n (i := v / 64) hms.1
  generalize hC : v / 64 % mvs.length = C at hct hmd2
  have hmv : oIx (.list (mvs.map eZMv)) (cN C) = ok (eZMv (mvs[C]'hct)) := oIx_list eZMv mvs C _ (List.getElem?_eq_getElem hct)
  have hsc := hss _ (List.getElem_mem hct)
  generalize mvs[C]'hct = mv at hmv hsc
  obtain ⟨g, ss⟩ := mv
  replace hsc : ss.length ≤ 2 := hsc
  rw [eZSt] at hst
  rw [eZMv] at hmv
  walk_at "ev"
  rw [hmd]
  walk_at "ev"
  rw [hst]
  walk_at "ev"
  rw [hmd2]
  walk_at "ev"
  rw [hmv]
  walk_at "ev"
  have c1 := cut_len ss (some 1) none
  have c2 := cut_len ss none (some 1)
  have h7 := Nat.mod_lt (v / 512) (show 0 < 7 by decide)
  have hL : ∃ m : ZMv, oIx (.list [.tuple [cN Z.length, .tuple (ss.map .int)], .tuple [.int (-1), .tuple (ss.map .int)], .tuple [.int g, .tuple (ss.map .int ++ [.int 0])], .tuple [.int g, .tuple ((cutG ss (some 1) none).map .int)],
      .tuple [.int g, .tuple ((cutG ss none (some 1)).map .int ++ (cutG ss none (some 1)).map .int)], .tuple [.int g, .tuple (.int b :: (cutG ss (some 1) none).map .int)], .tuple [.int g, .tuple (.int (-1) :: (cutG ss (some 1) none).map .int)]]) (cN (v / 512 % 7)) = ok (eZMv m) ∧ m.2.length < 100 := by
    generalize v / 512 % 7 = j at h7
    have e1 : ss.map PyData.int ++ [.int 0] = (ss ++ [0]).map .int := by rw [List.map_append]; rfl
    have e2 : (cutG ss none (some 1)).map PyData.int ++ (cutG ss none (some 1)).map .int = (cutG ss none (some 1) ++ cutG ss none (some 1)).map .int := by rw [List.map_append]
    rw [e1, e2]
    match j, h7 with
    | 0, _ => exact ⟨((Z.length : Int), ss), rfl, by show ss.length < 100; omega⟩
    | 1, _ => exact ⟨(-1, ss), rfl, by show ss.length < 100; omega⟩
    | 2, _ => exact ⟨(g, ss ++ [0]), rfl, by show (ss ++ [0]).length < 100; rw [List.length_append, List.length_singleton]; omega⟩
    | 3, _ => exact ⟨(g, cutG ss (some 1) none), rfl, by show (cutG ss (some 1) none).length < 100; omega⟩
    | 4, _ => exact ⟨(g, _), rfl, by show (cutG ss none (some 1) ++ cutG ss none (some 1)).length < 100; rw [List.length_append]; omega⟩
    | 5, _ => exact ⟨(g, b :: cutG ss (some 1) none), rfl, by show (_ :: cutG ss (some 1) none).length < 100; rw [List.length_cons]; omega⟩
    | 6, _ => exact ⟨(g, -1 :: cutG ss (some 1) none), rfl, by show (_ :: cutG ss (some 1) none).length < 100; rw [List.length_cons]; omega⟩
  obtain ⟨m, hm1, hm2⟩ := hL
  rw [eZMv] at hm1
  walk_at "evo"
  have build : ∀ (S : ZSt) (lo hi : Option Int), S.2.2.length < 100 → (∀ m ∈ S.2.2, m.2.length < 100) → ∃ Z2 : ZM, PyData.list ((cutG Z none lo).map eZSt ++ [eZSt S] ++ (cutG Z hi none).map eZSt) = .list (Z2.map eZSt) ∧ ZB Z2 := fun S lo hi q1 q2 => by
    have d1 := cut_len Z none lo
    have d2 := cut_len Z hi none
    refine ⟨cutG Z none lo ++ [S] ++ cutG Z hi none, by rw [List.map_append, List.map_append]; rfl, ?_, fun s hs' => ?_, fun s hs' => ?_⟩
    · rw [List.length_append, List.length_append, List.length_singleton]; omega
    · rcases List.mem_append.mp hs' with q | q
      · rcases List.mem_append.mp q with q | q
        · have := hm0 s (cut_mem q); omega
        · rw [List.mem_singleton.mp q]; exact q1
      · have := hm0 s (cut_mem q); omega
    · rcases List.mem_append.mp hs' with q | q
      · rcases List.mem_append.mp q with q | q
        · exact fun m hm => by have := hs s (cut_mem q) m hm; omega
        · rw [List.mem_singleton.mp q]; exact q2
      · exact fun m hm => by have := hs s (cut_mem q) m hm; omega
  have cz1 := cut_len Z none (some (A : Int))
  have cm1 := cut_len mvs none (some (C : Int))
  have cm2 := cut_len mvs (some ((C + 1 : Nat) : Int)) none
  have cz2 := cut_len Z (some ((A + 1 : Nat) : Int)) none
  have cm3 := cut_len mvs (some ((v / 512 % 3 / 2 : Nat) : Int)) none
  by_cases w5 : v % 8 < 5
  · simp only [w5]
    walk_at "evo"
    rw [hm1]
    walk_at "evo"
    have := build (gd, b, cutG mvs none (some (C : Int)) ++ [m] ++ cutG mvs (some ((C + 1 : Nat) : Int)) none) (some (A : Int)) (some ((A + 1 : Nat) : Int)) (by
      show (_ ++ _ ++ _ : List ZMv).length < 100
      rw [List.length_append, List.length_append, List.length_singleton]
      omega) (fun m' hm' => by
      rcases List.mem_append.mp hm' with q | q
      · rcases List.mem_append.mp q with q | q
        · have := hss m' (cut_mem q); omega
        · rw [List.mem_singleton.mp q]; exact hm2
      · have := hss m' (cut_mem q); omega)
    simp only [eZSt, List.map_append, List.map_cons, List.map_nil, eZMv] at this
    exact this
  by_cases w6 : v % 8 = 5
  · simp only [w5]
    walk_at "evo"
    simp only [w6]
    walk_at "evo"
    have := build (gd, b + ((v / 512 % 2 : Nat) : Int), cutG mvs (some ((v / 512 % 3 / 2 : Nat) : Int)) none) (some (A : Int)) (some ((A + 1 : Nat) : Int)) (by
      show (cutG _ _ _ : List ZMv).length < 100
      omega) (fun m' hm' => by
      have := hss m' (cut_mem hm'); omega)
    simp only [eZSt, List.map_append, List.map_cons, List.map_nil, eZMv] at this
    exact this
  by_cases w7 : v % 8 = 6
  · simp only [w5]
    walk_at "evo"
    simp only [w6]
    walk_at "evo"
    simp only [w7]
    walk_at "evo"
    obtain ⟨n, hn1, hn2⟩ : ∃ n : Nat, oIx (.list [.int 400, .int 401]) (cN (v / 512 % 2)) = ok (cN n) ∧ n ≤ 401 := by
      have h2 := Nat.mod_lt (v / 512) (show 0 < 2 by decide)
      generalize v / 512 % 2 = j at h2
      match j, h2 with
      | 0, _ => exact ⟨400, rfl, by decide⟩
      | 1, _ => exact ⟨401, rfl, by decide⟩
    rw [nRep1 (x := eZSt (true, 0, [(0, [])])) (n := n) (by walk_at "evo"; rfl) (by walk_at "evo"; exact hn1) (by omega)]
    walk_at "evo"
    have h2 := Nat.mod_lt (v / 8) (show 0 < 2 by decide)
    generalize v / 8 % 2 = j at h2
    match j, h2 with
    | 0, _ =>
      rw [show oIx (.list [.list [], .list (List.replicate n (.tuple [.bool true, .int 0, .list (List.map eZMv [(0, [])])]))]) (cN 0) = ok (.list []) from rfl]
      walk_at "evo"
      exact ⟨[], rfl, by show 0 ≤ 1000; omega, fun s q => (nomatch q), fun s q => (nomatch q)⟩
    | 1, _ =>
      rw [show oIx (.list [.list [], .list (List.replicate n (.tuple [.bool true, .int 0, .list (List.map eZMv [(0, [])])]))]) (cN 1) = ok (.list (List.replicate n (.tuple [.bool true, .int 0, .list (List.map eZMv [(0, [])])]))) from rfl]
      walk_at "evo"
      refine ⟨List.replicate n (true, 0, [(0, [])]), by rw [List.map_replicate]; rfl, by rw [List.length_replicate]; omega, fun s q => ?_, fun s q m hm => ?_⟩
      · rw [(List.mem_replicate.mp q).2]; show 1 < 100; omega
      · rw [(List.mem_replicate.mp q).2] at hm
        rw [List.mem_singleton.mp hm]; show 0 < 100; omega
  · simp only [w5]
    walk_at "evo"
    simp only [w6]
    walk_at "evo"
    simp only [w7]
    walk_at "evo"
    exact ⟨Z, rfl, by omega, fun s q => by have := hm0 s q; omega, fun s q m hm => by have := hs s q m hm; omega⟩
theorem spoilt_is {M : Mach} (V : Valid M) (h4 : M.length ≤ 4) (h2 : ∀ s ∈ M, s.2.1 ≤ 2) (v : Nat) : Post (fun d => ∃ Z2 : ZM, d = eZM Z2 ∧ ZB Z2) (m__law_spoilt [eM M, cN v]) := by
  rw [eM_z]
  refine spoiltZ (zOf M) (by rw [zOf, List.length_map]; exact V.pos) (by rw [zOf, List.length_map]; exact h4) (fun s hs => ?_) (fun s hs m hm => ?_) v
  · obtain ⟨t, ht, rfl⟩ := List.mem_map.mp hs
    have := (V.each t ht).moves
    have := h2 t ht
    show 0 < (List.map _ _).length ∧ (List.map _ _).length ≤ 3
    rw [List.length_map]; omega
  · obtain ⟨t, ht, rfl⟩ := List.mem_map.mp hs
    obtain ⟨m', hm', rfl⟩ := List.mem_map.mp hm
    obtain ⟨c, hc⟩ := List.getElem?_of_mem hm'
    have hg := ((V.each t ht).each c m' hc).lt
    have := h2 _ (stA_mem hg.1).1
    show (List.map _ _).length ≤ 2
    rw [List.length_map]; omega
end WK

set_option Elab.async false
set_option linter.all false
set_option maxHeartbeats 4000000
set_option maxRecDepth 100000
noncomputable section
namespace WK
open PySem DL L2

local macro_rules | `(tactic| walk_at "ev") => `(tactic| simp only [ofE_err, bnd_err, ofE_ok, ofE_ok', bnd_ok, bnd_ok', sSeq_ev, sq_nx, sq_rt, sq_er, sq_bk, sq_ct, sIf_ev, sRet_ev, sDrop_ev, sSkip_ev, sRetN_ev, sRaise_ev, sFor_ev, eC_ev, e2_ev, e1_ev, eFn_ev, eCall_ev, aCons_ev, aNil_ev, nNew_ev, eTup_ev, eLst_ev, eIf_ev, eNew_ev, tTru_ev, tNot_ev, tAnd_ev, tOr_ev, tYes_ev, nLc_ev, wipe0, wipeS, tix_ev, set_ev, asg_ev, setO_ev, v0, vS, o0, o0', oS, g0, gS, own0, ownS, setAt0, setAtS, e3_ev, and_ev, or_ev, not_ev, val_ev, asB_b, iSeq_ev, seqOf_l, seqOf_t, iR1_ev, nRng_ev, gT_ev, gs_c, gs_n,
  add_i, sub_i, div_i, mod_i, mul_l, mul_r, neg_i, cmp_i, lt_i, eq_i, ne_i, isN_n, isN_i, isN_l, notN_n, notN_i, len_l, len_t, tru_l, tru_t, tru_b, tup_l, lst_l, lst_t, any_l, all_l, min_i, max_i, oIx_l, oIx_t, oIx_c0, oIx_c1, oIx_c2, limV,
  nup1, nup_le, nup_lt, nup_eq, ← Int.natCast_add,
  posts_some, postg_some, end_rt, end_nx, lp_nx, lp_ct, lp_bk, lp_rt, lp_er, sqq_nx, sqq_rt, sqq_er, sqq_bk, sqq_ct, wO_some, app_w, put_w, frz_o, frzK_some, nlit_le, nlit_lt, nlit_ge, nlit_gt, nlit_eq, nge0, in_tf, all_true, lenset_n, nm4, nm3, nm2, nd4, nd2, eq_n, le_n, mix_ev, Nat.reduceLT, nd8, nd64, nm6, nm3, nm9, 
  Option.map_some, Option.map_none, Option.bind_some, fin_nx, fin_rt, fin_er, List.length_cons, List.length_nil, List.length_map, List.length_append, List.length_range, List.set_cons_zero, List.set_cons_succ, ↓reduceIte, Nat.zero_add, Nat.add_zero, Nat.zero_le, Nat.reduceAdd, Nat.reduceLeDiff, Nat.reduceEqDiff, Int.reduceLT, Int.reduceNeg, Int.reducePow, Option.isNone_none, Option.isNone_some, Option.isSome_none, Option.isSome_some, decide_eq_true_eq, decide_true, decide_false, Bool.not_true, Bool.not_false, Bool.false_eq_true, eq_self, and_self, true_and, and_true, Bool.true_xor, Bool.false_xor])
local macro_rules | `(tactic| walk_at "in") => `(tactic| simp only [rho0, List.map_cons, List.map_nil, List.cons_append, List.nil_append, List.length_cons, List.length_nil, Nat.reduceAdd, Nat.reduceSub, Nat.zero_add, Nat.sub_self, rep0, repS])
local macro_rules | `(tactic| walk_at "evo") => `(tactic| simp (disch := (first | omega | (simp only [List.length_map, List.length_append, List.length_cons, List.length_nil, List.length_range, List.length_set, List.length_replicate]; omega))) only [addT6, addL6, rng1_n, rngO_n, mod_n, ofE_err, bnd_err, ofE_ok, ofE_ok', bnd_ok, bnd_ok', sSeq_ev, sq_nx, sq_rt, sq_er, sq_bk, sq_ct, sIf_ev, sRet_ev, sDrop_ev, sSkip_ev, sRetN_ev, sRaise_ev, sFor_ev, eC_ev, e2_ev, e1_ev, eFn_ev, eCall_ev, aCons_ev, aNil_ev, nNew_ev, eTup_ev, eLst_ev, eIf_ev, eNew_ev, tTru_ev, tNot_ev, tAnd_ev, tOr_ev, tYes_ev, nLc_ev, wipe0, wipeS, tix_ev, set_ev, asg_ev, setO_ev, v0, vS, o0, o0', oS, g0, gS, own0, ownS, setAt0, setAtS, e3_ev, and_ev, or_ev, not_ev, val_ev, asB_b, iSeq_ev, seqOf_l, seqOf_t, iR1_ev, nRng_ev, gT_ev, gs_c, gs_n,
  add_i, sub_i, div_i, mod_i, mul_l, mul_r, neg_i, cmp_i, lt_i, eq_i, ne_i, isN_n, isN_i, isN_l, notN_n, notN_i, len_l, len_t, tru_l, tru_t, tru_b, tup_l, lst_l, lst_t, any_l, all_l, min_i, max_i, oIx_l, oIx_t, oIx_c0, oIx_c1, oIx_c2, limV,
  nup1, nup_le, nup_lt, nup_eq, ← Int.natCast_add,
  posts_some, postg_some, end_rt, end_nx, lp_nx, lp_ct, lp_bk, lp_rt, lp_er, sqq_nx, sqq_rt, sqq_er, sqq_bk, sqq_ct, wO_some, app_w, put_w, frz_o, frzK_some, nlit_le, nlit_lt, nlit_ge, nlit_gt, nlit_eq, nge0, in_tf, all_true, lenset_n, nm4, nm3, nm2, nd4, nd2, eq_n, le_n, mix_ev, Nat.reduceLT, nd8, nd64, nm6, nm3, nm9, 
  Option.map_some, Option.map_none, Option.bind_some, fin_nx, fin_rt, fin_er, List.length_cons, List.length_nil, List.length_map, List.length_append, List.length_range, List.set_cons_zero, List.set_cons_succ, ↓reduceIte, Nat.zero_add, Nat.add_zero, Nat.zero_le, Nat.reduceAdd, Nat.reduceLeDiff, Nat.reduceEqDiff, Int.reduceLT, Int.reduceNeg, Int.reducePow, Option.isNone_none, Option.isNone_some, Option.isSome_none, Option.isSome_some, decide_eq_true_eq, decide_true, decide_false, Bool.not_true, Bool.not_false, Bool.false_eq_true, eq_self, and_self, true_and, and_true, Bool.true_xor, Bool.false_xor])
local macro_rules | `(tactic| walk_at "evh") => `(tactic| simp only [*, ofE_err, bnd_err, ofE_ok, ofE_ok', bnd_ok, bnd_ok', sSeq_ev, sq_nx, sq_rt, sq_er, sq_bk, sq_ct, sIf_ev, sRet_ev, sDrop_ev, sSkip_ev, sRetN_ev, sRaise_ev, sFor_ev, eC_ev, e2_ev, e1_ev, eFn_ev, eCall_ev, aCons_ev, aNil_ev, nNew_ev, eTup_ev, eLst_ev, eIf_ev, eNew_ev, tTru_ev, tNot_ev, tAnd_ev, tOr_ev, tYes_ev, nLc_ev, wipe0, wipeS, tix_ev, set_ev, asg_ev, setO_ev, v0, vS, o0, o0', oS, g0, gS, own0, ownS, setAt0, setAtS, e3_ev, and_ev, or_ev, not_ev, val_ev, asB_b, iSeq_ev, seqOf_l, seqOf_t, iR1_ev, nRng_ev, gT_ev, gs_c, gs_n,
  add_i, sub_i, div_i, mod_i, mul_l, mul_r, neg_i, cmp_i, lt_i, eq_i, ne_i, isN_n, isN_i, isN_l, notN_n, notN_i, len_l, len_t, tru_l, tru_t, tru_b, tup_l, lst_l, lst_t, any_l, all_l, min_i, max_i, oIx_l, oIx_t, oIx_c0, oIx_c1, oIx_c2, limV,
  nup1, nup_le, nup_lt, nup_eq, ← Int.natCast_add,
  posts_some, postg_some, end_rt, end_nx, lp_nx, lp_ct, lp_bk, lp_rt, lp_er, sqq_nx, sqq_rt, sqq_er, sqq_bk, sqq_ct, wO_some, app_w, put_w, frz_o, frzK_some, nlit_le, nlit_lt, nlit_ge, nlit_gt, nlit_eq, nge0, in_tf, all_true, lenset_n, nm4, nm3, nm2, nd4, nd2, eq_n, le_n, mix_ev, Nat.reduceLT, nd8, nd64, nm6, nm3, nm9, 
  Option.map_some, Option.map_none, Option.bind_some, fin_nx, fin_rt, fin_er, List.length_cons, List.length_nil, List.length_map, List.length_append, List.length_range, List.set_cons_zero, List.set_cons_succ, ↓reduceIte, Nat.zero_add, Nat.add_zero, Nat.zero_le, Nat.reduceAdd, Nat.reduceLeDiff, Nat.reduceEqDiff, Int.reduceLT, Int.reduceNeg, Int.reducePow, Option.isNone_none, Option.isNone_some, Option.isSome_none, Option.isSome_some, decide_eq_true_eq, decide_true, decide_false, Bool.not_true, Bool.not_false, Bool.false_eq_true, eq_self, and_self, true_and, and_true, Bool.true_xor, Bool.false_xor])
theorem list6 {w : Nat} (hw : w < 6) (a b c d e f : Int) : ∃ z : Int, oIx (.list [.int a, .int b, .int c, .int d, .int e, .int f]) (cN w) = ok (.int z) := by
  match w, hw with
  | 0, _ => exact ⟨a, rfl⟩
  | 1, _ => exact ⟨b, rfl⟩
  | 2, _ => exact ⟨c, rfl⟩
  | 3, _ => exact ⟨d, rfl⟩
  | 4, _ => exact ⟨e, rfl⟩
  | 5, _ => exact ⟨f, rfl⟩
theorem word_is (ns : List Int) (k : Int) (most : Nat) (hm : most < 1000) : Post (fun d => ∃ ws : List Int, d = .list (ws.map .int) ∧ ws.length ≤ most) (m__law_word [.list (ns.map .int), .int k, cN most]) := by
  refine post_run (by rfl) ?_
  walk_at "in"
  rw [b__law_word]
  have hmd := mod_n (i := mixv ns k) (j := most + 1) (by omega)
  have hlt := Nat.mod_lt (mixv ns k) (show 0 < most + 1 by omega)
  generalize mixv ns k % (most + 1) = N at hmd hlt
  have hr := rng1_n (n := N) (by omega)
  walk_at "ev"
  rw [hmd]
  walk_at "ev"
  rw [hr]
  walk_at "ev"
  refine posts_sq (posts_for (fun i r => ∃ (ws : List Int) (j4 j5 j6 : Option B), r = [some (.d (.list (ns.map .int))), some (.d (.int k)), some (.d (cN most)), some (.own (ws.map .int)), j4, j5, j6] ∧ Eqn ws.length i) ?_ ?_ ?_)
  · exact ⟨[], _, _, _, rfl, rfl⟩
  · rintro i x r hx ⟨ws, j4, j5, j6, rfl, e1⟩
    obtain ⟨y, hy, rfl⟩ := getq_map hx
    obtain ⟨rfl, hyl⟩ := getq_range hy
    have e1' := e1.le
    have hwl : ws.length < 1000000 := by omega
    generalize hv : mixv ns (k + 1 + (y : Nat)) = v
    have h6 := Nat.mod_lt v (show 0 < 6 by decide)
    walk_at "ev"
    simp only [hv]
    cases ws with
    | nil =>
      simp only [List.map_nil, List.isEmpty_nil]
      walk_at "ev"
      obtain ⟨z, hz⟩ := list6 h6 0 0 ((v / 64 % 3 : Nat) : Int) ((v / 64 % 9 : Nat) : Int) (0 + 1) (-(v : Int) / 64 % 1000)
      rw [hz]
      walk_at "ev"
      exact ⟨[z], _, _, _, rfl, by show _ = _; have := e1'.1; simp at *; omega⟩
    | cons w0 wr =>
      have hl0 : 0 < (w0 :: wr).length := by simp
      generalize (w0 :: wr) = ws at *
      have hmd2 := mod_n (i := v / 8) hl0
      have hlt2 := Nat.mod_lt (v / 8) hl0
      generalize v / 8 % ws.length = J at hmd2 hlt2
      have hb := oIx_back (f := PyData.int) hlt2
      generalize ws[ws.length - 1 - J]'(by omega) = q at hb
      have hne : (ws.map PyData.int).isEmpty = false := by cases ws with | nil => simp at hl0 | cons _ _ => rfl
      rw [hne]
      walk_at "ev"
      rw [hmd2]
      walk_at "ev"
      rw [hb]
      walk_at "ev"
      obtain ⟨z, hz⟩ := list6 h6 q q ((v / 64 % 3 : Nat) : Int) ((v / 64 % 9 : Nat) : Int) (q + 1) (-(v : Int) / 64 % 1000)
      rw [hz]
      walk_at "ev"
      simp only [hwl]
      walk_at "ev"
      exact ⟨ws ++ [z], _, _, _, by rw [List.map_append]; rfl, by show _ = _; rw [List.length_append, List.length_singleton]; omega⟩
  · rintro r ⟨ws, j4, j5, j6, rfl, e1⟩
    rw [List.length_map, List.length_range] at e1
    have := e1.le
    walk_at "ev"
    exact ⟨ws, rfl, by omega⟩
end WK

set_option Elab.async false
set_option linter.all false
set_option maxHeartbeats 4000000
set_option maxRecDepth 100000
noncomputable section
namespace WK
open PySem DL L2

local macro_rules | `(tactic| walk_at "ev") => `(tactic| simp only [ofE_err, bnd_err, ofE_ok, ofE_ok', bnd_ok, bnd_ok', sSeq_ev, sq_nx, sq_rt, sq_er, sq_bk, sq_ct, sIf_ev, sRet_ev, sDrop_ev, sSkip_ev, sRetN_ev, sRaise_ev, sFor_ev, eC_ev, e2_ev, e1_ev, eFn_ev, eCall_ev, aCons_ev, aNil_ev, nNew_ev, eTup_ev, eLst_ev, eIf_ev, eNew_ev, tTru_ev, tNot_ev, tAnd_ev, tOr_ev, tYes_ev, nLc_ev, wipe0, wipeS, tix_ev, set_ev, asg_ev, setO_ev, v0, vS, o0, o0', oS, g0, gS, own0, ownS, setAt0, setAtS, e3_ev, and_ev, or_ev, not_ev, val_ev, asB_b, iSeq_ev, seqOf_l, seqOf_t, iR1_ev, nRng_ev, gT_ev, gs_c, gs_n,
  add_i, sub_i, div_i, mod_i, mul_l, mul_r, neg_i, cmp_i, lt_i, eq_i, ne_i, isN_n, isN_i, isN_l, notN_n, notN_i, len_l, len_t, tru_l, tru_t, tru_b, tup_l, lst_l, lst_t, any_l, all_l, min_i, max_i, oIx_l, oIx_t, oIx_c0, oIx_c1, oIx_c2, limV,
  nup1, nup_le, nup_lt, nup_eq, ← Int.natCast_add,
  posts_some, postg_some, end_rt, end_nx, lp_nx, lp_ct, lp_bk, lp_rt, lp_er, sqq_nx, sqq_rt, sqq_er, sqq_bk, sqq_ct, wO_some, app_w, put_w, frz_o, frzK_some, nlit_le, nlit_lt, nlit_ge, nlit_gt, nlit_eq, nge0, in_tf, all_true, lenset_n, nm4, nm3, nm2, nd4, nd2, eq_n, le_n, 
  Option.map_some, Option.map_none, Option.bind_some, fin_nx, fin_rt, fin_er, List.length_cons, List.length_nil, List.length_map, List.length_append, List.length_range, List.set_cons_zero, List.set_cons_succ, ↓reduceIte, Nat.zero_add, Nat.add_zero, Nat.zero_le, Nat.reduceAdd, Nat.reduceLeDiff, Nat.reduceEqDiff, Int.reduceLT, Int.reduceNeg, Int.reducePow, Option.isNone_none, Option.isNone_some, Option.isSome_none, Option.isSome_some, decide_eq_true_eq, decide_true, decide_false, Bool.not_true, Bool.not_false, Bool.false_eq_true, eq_self, and_self, true_and, and_true, Bool.true_xor, Bool.false_xor])
local macro_rules | `(tactic| walk_at "in") => `(tactic| simp only [rho0, List.map_cons, List.map_nil, List.cons_append, List.nil_append, List.length_cons, List.length_nil, Nat.reduceAdd, Nat.reduceSub, Nat.zero_add, Nat.sub_self, rep0, repS])
local macro_rules | `(tactic| walk_at "evo") => `(tactic| simp (disch := (first | omega | (simp only [List.length_map, List.length_append, List.length_cons, List.length_nil, List.length_range, List.length_set, List.length_replicate]; omega))) only [addT6, addL6, rng1_n, rngO_n, mod_n, ofE_err, bnd_err, ofE_ok, ofE_ok', bnd_ok, bnd_ok', sSeq_ev, sq_nx, sq_rt, sq_er, sq_bk, sq_ct, sIf_ev, sRet_ev, sDrop_ev, sSkip_ev, sRetN_ev, sRaise_ev, sFor_ev, eC_ev, e2_ev, e1_ev, eFn_ev, eCall_ev, aCons_ev, aNil_ev, nNew_ev, eTup_ev, eLst_ev, eIf_ev, eNew_ev, tTru_ev, tNot_ev, tAnd_ev, tOr_ev, tYes_ev, nLc_ev, wipe0, wipeS, tix_ev, set_ev, asg_ev, setO_ev, v0, vS, o0, o0', oS, g0, gS, own0, ownS, setAt0, setAtS, e3_ev, and_ev, or_ev, not_ev, val_ev, asB_b, iSeq_ev, seqOf_l, seqOf_t, iR1_ev, nRng_ev, gT_ev, gs_c, gs_n,
  add_i, sub_i, div_i, mod_i, mul_l, mul_r, neg_i, cmp_i, lt_i, eq_i, ne_i, isN_n, isN_i, isN_l, notN_n, notN_i, len_l, len_t, tru_l, tru_t, tru_b, tup_l, lst_l, lst_t, any_l, all_l, min_i, max_i, oIx_l, oIx_t, oIx_c0, oIx_c1, oIx_c2, limV,
  nup1, nup_le, nup_lt, nup_eq, ← Int.natCast_add,
  posts_some, postg_some, end_rt, end_nx, lp_nx, lp_ct, lp_bk, lp_rt, lp_er, sqq_nx, sqq_rt, sqq_er, sqq_bk, sqq_ct, wO_some, app_w, put_w, frz_o, frzK_some, nlit_le, nlit_lt, nlit_ge, nlit_gt, nlit_eq, nge0, in_tf, all_true, lenset_n, nm4, nm3, nm2, nd4, nd2, eq_n, le_n, 
  Option.map_some, Option.map_none, Option.bind_some, fin_nx, fin_rt, fin_er, List.length_cons, List.length_nil, List.length_map, List.length_append, List.length_range, List.set_cons_zero, List.set_cons_succ, ↓reduceIte, Nat.zero_add, Nat.add_zero, Nat.zero_le, Nat.reduceAdd, Nat.reduceLeDiff, Nat.reduceEqDiff, Int.reduceLT, Int.reduceNeg, Int.reducePow, Option.isNone_none, Option.isNone_some, Option.isSome_none, Option.isSome_some, decide_eq_true_eq, decide_true, decide_false, Bool.not_true, Bool.not_false, Bool.false_eq_true, eq_self, and_self, true_and, and_true, Bool.true_xor, Bool.false_xor])
local macro_rules | `(tactic| walk_at "evh") => `(tactic| simp only [*, ofE_err, bnd_err, ofE_ok, ofE_ok', bnd_ok, bnd_ok', sSeq_ev, sq_nx, sq_rt, sq_er, sq_bk, sq_ct, sIf_ev, sRet_ev, sDrop_ev, sSkip_ev, sRetN_ev, sRaise_ev, sFor_ev, eC_ev, e2_ev, e1_ev, eFn_ev, eCall_ev, aCons_ev, aNil_ev, nNew_ev, eTup_ev, eLst_ev, eIf_ev, eNew_ev, tTru_ev, tNot_ev, tAnd_ev, tOr_ev, tYes_ev, nLc_ev, wipe0, wipeS, tix_ev, set_ev, asg_ev, setO_ev, v0, vS, o0, o0', oS, g0, gS, own0, ownS, setAt0, setAtS, e3_ev, and_ev, or_ev, not_ev, val_ev, asB_b, iSeq_ev, seqOf_l, seqOf_t, iR1_ev, nRng_ev, gT_ev, gs_c, gs_n,
  add_i, sub_i, div_i, mod_i, mul_l, mul_r, neg_i, cmp_i, lt_i, eq_i, ne_i, isN_n, isN_i, isN_l, notN_n, notN_i, len_l, len_t, tru_l, tru_t, tru_b, tup_l, lst_l, lst_t, any_l, all_l, min_i, max_i, oIx_l, oIx_t, oIx_c0, oIx_c1, oIx_c2, limV,
  nup1, nup_le, nup_lt, nup_eq, ← Int.natCast_add,
  posts_some, postg_some, end_rt, end_nx, lp_nx, lp_ct, lp_bk, lp_rt, lp_er, sqq_nx, sqq_rt, sqq_er, sqq_bk, sqq_ct, wO_some, app_w, put_w, frz_o, frzK_some, nlit_le, nlit_lt, nlit_ge, nlit_gt, nlit_eq, nge0, in_tf, all_true, lenset_n, nm4, nm3, nm2, nd4, nd2, eq_n, le_n, 
  Option.map_some, Option.map_none, Option.bind_some, fin_nx, fin_rt, fin_er, List.length_cons, List.length_nil, List.length_map, List.length_append, List.length_range, List.set_cons_zero, List.set_cons_succ, ↓reduceIte, Nat.zero_add, Nat.add_zero, Nat.zero_le, Nat.reduceAdd, Nat.reduceLeDiff, Nat.reduceEqDiff, Int.reduceLT, Int.reduceNeg, Int.reducePow, Option.isNone_none, Option.isNone_some, Option.isSome_none, Option.isSome_some, decide_eq_true_eq, decide_true, decide_false, Bool.not_true, Bool.not_false, Bool.false_eq_true, eq_self, and_self, true_and, and_true, Bool.true_xor, Bool.false_xor])
theorem idxOf_app1 {a : Int} {xs ys : List Int} (h : a ∈ xs) : (xs ++ ys).idxOf a = xs.idxOf a := by
  rw [List.idxOf_append, if_pos h]
theorem idxOf_app2 {a : Int} {xs ys : List Int} (h : a ∉ xs) : (xs ++ ys).idxOf a = ys.idxOf a + xs.length := by
  rw [List.idxOf_append, if_neg h]
theorem idxOf_ren {f : Int → Int} {a : Int} : ∀ {held : List Int}, (∀ x ∈ held, f x = f a → x = a) → (held.map f).idxOf (f a) = held.idxOf a
  | [], _ => rfl
  | x :: xs, h => by
    have ih := idxOf_ren (f := f) (a := a) (held := xs) fun y hy => h y (List.mem_cons_of_mem _ hy)
    rw [List.map_cons, List.idxOf_cons, List.idxOf_cons, ih]
    by_cases e : x = a
    · subst e; simp
    · have e2 : ¬ f x = f a := fun q => e (h x List.mem_cons_self q)
      rw [beq_eq_false_iff_ne.mpr e, beq_eq_false_iff_ne.mpr e2]
theorem isrc {M : Mach} (V : Valid M) {q : ICfg} (h : IVC M q) (a : Int) : ∀ x ∈ (mvA M q.1 (q.2.idxOf a)).2, x < (q.2 ++ [a]).length := fun x hx => by
  have hc : q.2.idxOf a ≤ (stA M q.1).2.1 := by rw [← h.len]; exact idx_leI.1
  have := (mvA_ok V h.st hc).2.src x hx
  have hh := h.len
  rw [List.length_append, List.length_singleton]
  split at this <;> omega
theorem istep_mem {M : Mach} (V : Valid M) {q : ICfg} (h : IVC M q) (a : Int) : ∀ x ∈ (istep M q a).2, x ∈ q.2 ∨ x = a := fun x hx => by
  obtain ⟨s, hs, rfl⟩ := List.mem_map.mp hx
  have hl := isrc V h a s hs
  rw [List.getD_eq_getElem?_getD, List.getElem?_eq_getElem hl]
  rcases List.mem_append.mp (List.getElem_mem hl) with z | z
  · exact .inl z
  · exact .inr (List.mem_singleton.mp z)
theorem istep_ren {M : Mach} (V : Valid M) {f : Int → Int} {q : ICfg} (h : IVC M q) {a : Int} (hf : ∀ x ∈ q.2, f x = f a → x = a) : istep M (q.1, q.2.map f) (f a) = ((istep M q a).1, (istep M q a).2.map f) := by
  unfold istep
  simp only
  rw [idxOf_ren hf, List.map_map]
  congr 1
  refine List.map_congr_left fun x hx => ?_
  have hl := isrc V h a x hx
  show (q.2.map f ++ [f a]).getD x 0 = f ((q.2 ++ [a]).getD x 0)
  have e : q.2.map f ++ [f a] = (q.2 ++ [a]).map f := by rw [List.map_append]; rfl
  rw [e, List.getD_eq_getElem?_getD, List.getD_eq_getElem?_getD, List.getElem?_map, List.getElem?_eq_getElem hl]; rfl
theorem irun_ren {M : Mach} (V : Valid M) {f : Int → Int} {S : List Int} (hf : ∀ x ∈ S, ∀ y ∈ S, f x = f y → x = y) : ∀ (w : List Int) (q : ICfg), IVC M q → (∀ x ∈ q.2, x ∈ S) → (∀ a ∈ w, a ∈ S) → irun M (q.1, q.2.map f) (w.map f) = ((irun M q w).1, (irun M q w).2.map f)
  | [], _, _, _, _ => rfl
  | a :: w, q, h, hq, hw => by
    have ha := hw a List.mem_cons_self
    have e := istep_ren V (f := f) h (a := a) fun x hx => hf x (hq x hx) a ha
    have ih := irun_ren V hf w (istep M q a) (h.step V a) (fun x hx => by
      rcases istep_mem V h a x hx with z | rfl
      · exact hq x z
      · exact ha) fun b hb => hw b (List.mem_cons_of_mem _ hb)
    show irun M (istep M (q.1, q.2.map f) (f a)) (w.map f) = _
    rw [e, ih]; rfl
theorem iacc_ren {M : Mach} (V : Valid M) {f : Int → Int} {w : List Int} (hf : ∀ x ∈ w, ∀ y ∈ w, f x = f y → x = y) : iacc M (0, []) (w.map f) = iacc M (0, []) w := by
  have e := irun_ren V hf w (0, []) (ivc0 V) (fun x hx => nomatch hx) fun a h => h
  unfold iacc
  have e2 := congrArg (fun q : ICfg => (stA M q.1).1) e
  exact e2
/-! the names of a word's letters -/
def nmv (L : List Int) (a : Int) : Int := 1000 * (5 - (L.idxOf a : Int)) + 7
theorem nmv_inj {L : List Int} : ∀ x ∈ L, ∀ y ∈ L, nmv L x = nmv L y → x = y := fun x hx y hy e => by
  unfold nmv at e
  have : L.idxOf x = L.idxOf y := by omega
  have h1 := List.getElem_idxOf (List.idxOf_lt_length_iff.mpr hx)
  have h2 := List.getElem_idxOf (List.idxOf_lt_length_iff.mpr hy)
  rw [← h1, ← h2]
  simp only [this]
def kvL (L : List Int) : List (Int × PyData) := L.map fun a => (a, .int (nmv L a))
theorem look_g {g : Int → PyData} {a : Int} : ∀ {L : List Int}, lookM (L.map fun a => (a, g a)) a = if a ∈ L then some (g a) else none
  | [] => rfl
  | x :: xs => by
    have ih := look_g (g := g) (a := a) (L := xs)
    unfold lookM at ih ⊢
    rw [List.map_cons, List.find?_cons]
    by_cases e : x = a
    · subst e; simp
    · have e2 : ¬ a = x := fun q => e q.symm
      simp only [e, decide_false]
      rw [ih]
      simp [e2]
theorem put_same {L : List Int} {a : Int} (h : a ∈ L) : putM (kvL L) a (.int (nmv L a)) = kvL L := by
  unfold putM kvL
  rw [if_pos (by rw [List.any_map]; exact List.any_eq_true.mpr ⟨a, h, by simp⟩), List.map_map]
  refine List.map_congr_left fun x _ => ?_
  show (if x = a then (x, PyData.int (nmv L a)) else (x, .int (nmv L x))) = _
  split
  · rename_i e; subst e; rfl
  · rfl
theorem put_new {L : List Int} {a : Int} (h : a ∉ L) : putM (kvL L) a (.int (1000 * (5 - (L.length : Int)) + 7)) = kvL (L ++ [a]) := by
  unfold putM kvL
  rw [if_neg (by rw [List.any_map]; intro q; obtain ⟨x, hx, e⟩ := List.any_eq_true.mp q; have : x = a := by simpa using e
                 subst this; exact h hx), List.map_append]
  congr 1
  · refine List.map_congr_left fun x hx => ?_
    unfold nmv
    rw [idxOf_app1 hx]
  · show _ = [(a, PyData.int (nmv (L ++ [a]) a))]
    unfold nmv
    rw [idxOf_app2 h]
    simp
end WK

set_option Elab.async false
set_option linter.all false
set_option maxHeartbeats 4000000
set_option maxRecDepth 100000
noncomputable section
namespace WK
open PySem DL L2

local macro_rules | `(tactic| walk_at "ev") => `(tactic| simp only [ofE_err, bnd_err, ofE_ok, ofE_ok', bnd_ok, bnd_ok', sSeq_ev, sq_nx, sq_rt, sq_er, sq_bk, sq_ct, sIf_ev, sRet_ev, sDrop_ev, sSkip_ev, sRetN_ev, sRaise_ev, sFor_ev, eC_ev, e2_ev, e1_ev, eFn_ev, eCall_ev, aCons_ev, aNil_ev, nNew_ev, eTup_ev, eLst_ev, eIf_ev, eNew_ev, tTru_ev, tNot_ev, tAnd_ev, tOr_ev, tYes_ev, nLc_ev, wipe0, wipeS, tix_ev, set_ev, asg_ev, setO_ev, v0, vS, o0, o0', oS, g0, gS, own0, ownS, setAt0, setAtS, e3_ev, and_ev, or_ev, not_ev, val_ev, asB_b, iSeq_ev, seqOf_l, seqOf_t, iR1_ev, nRng_ev, gT_ev, gs_c, gs_n,
  add_i, sub_i, div_i, mod_i, mul_l, mul_r, neg_i, cmp_i, lt_i, eq_i, ne_i, isN_n, isN_i, isN_l, notN_n, notN_i, len_l, len_t, tru_l, tru_t, tru_b, tup_l, lst_l, lst_t, any_l, all_l, min_i, max_i, oIx_l, oIx_t, oIx_c0, oIx_c1, oIx_c2, limV,
  nup1, nup_le, nup_lt, nup_eq, ← Int.natCast_add,
  posts_some, postg_some, end_rt, end_nx, lp_nx, lp_ct, lp_bk, lp_rt, lp_er, sqq_nx, sqq_rt, sqq_er, sqq_bk, sqq_ct, wO_some, app_w, put_w, frz_o, frzK_some, nlit_le, nlit_lt, nlit_ge, nlit_gt, nlit_eq, nge0, in_tf, all_true, lenset_n, nm4, nm3, nm2, nd4, nd2, eq_n, le_n, 
  Option.map_some, Option.map_none, Option.bind_some, fin_nx, fin_rt, fin_er, List.length_cons, List.length_nil, List.length_map, List.length_append, List.length_range, List.set_cons_zero, List.set_cons_succ, ↓reduceIte, Nat.zero_add, Nat.add_zero, Nat.zero_le, Nat.reduceAdd, Nat.reduceLeDiff, Nat.reduceEqDiff, Int.reduceLT, Int.reduceNeg, Int.reducePow, Option.isNone_none, Option.isNone_some, Option.isSome_none, Option.isSome_some, decide_eq_true_eq, decide_true, decide_false, Bool.not_true, Bool.not_false, Bool.false_eq_true, eq_self, and_self, true_and, and_true, Bool.true_xor, Bool.false_xor])
local macro_rules | `(tactic| walk_at "in") => `(tactic| simp only [rho0, List.map_cons, List.map_nil, List.cons_append, List.nil_append, List.length_cons, List.length_nil, Nat.reduceAdd, Nat.reduceSub, Nat.zero_add, Nat.sub_self, rep0, repS])
local macro_rules | `(tactic| walk_at "evo") => `(tactic| simp (disch := (first | omega | (simp only [List.length_map, List.length_append, List.length_cons, List.length_nil, List.length_range, List.length_set, List.length_replicate]; omega))) only [addT6, addL6, rng1_n, rngO_n, mod_n, ofE_err, bnd_err, ofE_ok, ofE_ok', bnd_ok, bnd_ok', sSeq_ev, sq_nx, sq_rt, sq_er, sq_bk, sq_ct, sIf_ev, sRet_ev, sDrop_ev, sSkip_ev, sRetN_ev, sRaise_ev, sFor_ev, eC_ev, e2_ev, e1_ev, eFn_ev, eCall_ev, aCons_ev, aNil_ev, nNew_ev, eTup_ev, eLst_ev, eIf_ev, eNew_ev, tTru_ev, tNot_ev, tAnd_ev, tOr_ev, tYes_ev, nLc_ev, wipe0, wipeS, tix_ev, set_ev, asg_ev, setO_ev, v0, vS, o0, o0', oS, g0, gS, own0, ownS, setAt0, setAtS, e3_ev, and_ev, or_ev, not_ev, val_ev, asB_b, iSeq_ev, seqOf_l, seqOf_t, iR1_ev, nRng_ev, gT_ev, gs_c, gs_n,
  add_i, sub_i, div_i, mod_i, mul_l, mul_r, neg_i, cmp_i, lt_i, eq_i, ne_i, isN_n, isN_i, isN_l, notN_n, notN_i, len_l, len_t, tru_l, tru_t, tru_b, tup_l, lst_l, lst_t, any_l, all_l, min_i, max_i, oIx_l, oIx_t, oIx_c0, oIx_c1, oIx_c2, limV,
  nup1, nup_le, nup_lt, nup_eq, ← Int.natCast_add,
  posts_some, postg_some, end_rt, end_nx, lp_nx, lp_ct, lp_bk, lp_rt, lp_er, sqq_nx, sqq_rt, sqq_er, sqq_bk, sqq_ct, wO_some, app_w, put_w, frz_o, frzK_some, nlit_le, nlit_lt, nlit_ge, nlit_gt, nlit_eq, nge0, in_tf, all_true, lenset_n, nm4, nm3, nm2, nd4, nd2, eq_n, le_n, 
  Option.map_some, Option.map_none, Option.bind_some, fin_nx, fin_rt, fin_er, List.length_cons, List.length_nil, List.length_map, List.length_append, List.length_range, List.set_cons_zero, List.set_cons_succ, ↓reduceIte, Nat.zero_add, Nat.add_zero, Nat.zero_le, Nat.reduceAdd, Nat.reduceLeDiff, Nat.reduceEqDiff, Int.reduceLT, Int.reduceNeg, Int.reducePow, Option.isNone_none, Option.isNone_some, Option.isSome_none, Option.isSome_some, decide_eq_true_eq, decide_true, decide_false, Bool.not_true, Bool.not_false, Bool.false_eq_true, eq_self, and_self, true_and, and_true, Bool.true_xor, Bool.false_xor])
local macro_rules | `(tactic| walk_at "evh") => `(tactic| simp only [*, ofE_err, bnd_err, ofE_ok, ofE_ok', bnd_ok, bnd_ok', sSeq_ev, sq_nx, sq_rt, sq_er, sq_bk, sq_ct, sIf_ev, sRet_ev, sDrop_ev, sSkip_ev, sRetN_ev, sRaise_ev, sFor_ev, eC_ev, e2_ev, e1_ev, eFn_ev, eCall_ev, aCons_ev, aNil_ev, nNew_ev, eTup_ev, eLst_ev, eIf_ev, eNew_ev, tTru_ev, tNot_ev, tAnd_ev, tOr_ev, tYes_ev, nLc_ev, wipe0, wipeS, tix_ev, set_ev, asg_ev, setO_ev, v0, vS, o0, o0', oS, g0, gS, own0, ownS, setAt0, setAtS, e3_ev, and_ev, or_ev, not_ev, val_ev, asB_b, iSeq_ev, seqOf_l, seqOf_t, iR1_ev, nRng_ev, gT_ev, gs_c, gs_n,
  add_i, sub_i, div_i, mod_i, mul_l, mul_r, neg_i, cmp_i, lt_i, eq_i, ne_i, isN_n, isN_i, isN_l, notN_n, notN_i, len_l, len_t, tru_l, tru_t, tru_b, tup_l, lst_l, lst_t, any_l, all_l, min_i, max_i, oIx_l, oIx_t, oIx_c0, oIx_c1, oIx_c2, limV,
  nup1, nup_le, nup_lt, nup_eq, ← Int.natCast_add,
  posts_some, postg_some, end_rt, end_nx, lp_nx, lp_ct, lp_bk, lp_rt, lp_er, sqq_nx, sqq_rt, sqq_er, sqq_bk, sqq_ct, wO_some, app_w, put_w, frz_o, frzK_some, nlit_le, nlit_lt, nlit_ge, nlit_gt, nlit_eq, nge0, in_tf, all_true, lenset_n, nm4, nm3, nm2, nd4, nd2, eq_n, le_n, 
  Option.map_some, Option.map_none, Option.bind_some, fin_nx, fin_rt, fin_er, List.length_cons, List.length_nil, List.length_map, List.length_append, List.length_range, List.set_cons_zero, List.set_cons_succ, ↓reduceIte, Nat.zero_add, Nat.add_zero, Nat.zero_le, Nat.reduceAdd, Nat.reduceLeDiff, Nat.reduceEqDiff, Int.reduceLT, Int.reduceNeg, Int.reducePow, Option.isNone_none, Option.isNone_some, Option.isSome_none, Option.isSome_some, decide_eq_true_eq, decide_true, decide_false, Bool.not_true, Bool.not_false, Bool.false_eq_true, eq_self, and_self, true_and, and_true, Bool.true_xor, Bool.false_xor])
theorem sub_len {l m : List Nat} (h : l.Nodup) (s : ∀ x ∈ l, x ∈ m) : l.length ≤ m.length := by
  induction l generalizing m with
  | nil => exact Nat.zero_le _
  | cons x l ih =>
    rw [List.nodup_cons] at h
    have hx : x ∈ m := s x List.mem_cons_self
    have := ih (m := m.erase x) h.2 fun y hy => (List.mem_erase_of_ne (fun e => h.1 (by rw [← e]; exact hy))).mpr (s y (List.mem_cons_of_mem _ hy))
    rw [List.length_erase_of_mem hx] at this
    have := List.length_pos_of_mem hx
    rw [List.length_cons]; omega
theorem nodup_le {l : List Nat} {n : Nat} (h : l.Nodup) (s : ∀ x ∈ l, x < n) : l.length ≤ n := by
  have := sub_len (m := List.range n) h fun x hx => List.mem_range.mpr (s x hx)
  rwa [List.length_range] at this
theorem srt_set {S : List Nat} (h : S.length < 64) : ∃ S3 : List Nat, oSortedSet (.list (S.map cN)) = ok (.list (S3.map cN)) ∧ S3.Nodup ∧ ∀ x, x ∈ S3 ↔ x ∈ S := by
  have h1 : ∀ z ∈ isort (dd (S.map fun (n : Nat) => (n : Int))), 0 ≤ z := fun z hz => by
    have := mem_dd.mp ((isort_perm _).mem_iff.mp hz)
    obtain ⟨n, _, rfl⟩ := List.mem_map.mp this
    omega
  have h2 : (isort (dd (S.map fun (n : Nat) => (n : Int)))).Nodup := (isort_perm _).nodup_iff.mpr (nodup_dd _)
  refine ⟨(isort (dd (S.map fun (n : Nat) => (n : Int)))).map Int.toNat, ?_, ?_, fun x => ?_⟩
  · unfold oSortedSet
    simp only [intsOf_cN]
    rw [if_pos (by rw [List.length_map]; exact h), List.map_map]
    refine congrArg (fun l => ok (PyData.list l)) (List.map_congr_left fun z hz => ?_)
    have := h1 z hz
    show PyData.int z = cN z.toNat
    rw [cN, Int.toNat_of_nonneg this]
  · refine nodup_map_on (fun x hx y hy e => ?_) h2
    have := h1 x hx
    have := h1 y hy
    omega
  · constructor
    · intro hx
      obtain ⟨z, hz, rfl⟩ := List.mem_map.mp hx
      obtain ⟨n, hn, e⟩ := List.mem_map.mp (mem_dd.mp ((isort_perm _).mem_iff.mp hz))
      rw [← e]; exact hn
    · intro hx
      exact List.mem_map.mpr ⟨(x : Int), (isort_perm _).mem_iff.mpr (mem_dd.mpr (List.mem_map.mpr ⟨x, hx, rfl⟩)), by simp⟩
def Closd (M : Mach) (C : Nat → Prop) : Prop := ∀ k, C k → k < M.length → ∀ g ∈ gls (stA M k), C g
structure Clo (M : Mach) (S S2 : List Nat) (i : Nat) : Prop where
  sub : ∀ x ∈ S, x ∈ S2
  gl : ∀ x ∈ S, x < i → ∀ g ∈ gls (stA M x), g ∈ S2
  snd : ∀ C : Nat → Prop, (∀ x ∈ S, C x) → Closd M C → ∀ x ∈ S2, C x
  nod : S2.Nodup
  lt : ∀ x ∈ S2, x < M.length
theorem Clo.in {M : Mach} (V : Valid M) {S S2 S3 : List Nat} {k : Nat} (h : Clo M S S2 k) (hk : k ∈ S2) (hkl : k < M.length) (n : S3.Nodup) (m : ∀ x, x ∈ S3 ↔ x ∈ S2 ++ gls (stA M k)) : Clo M S S3 (k + 1) := by
  refine ⟨fun x hx => (m x).mpr (List.mem_append_left _ (h.sub x hx)), fun x hx hxk g hg => (m g).mpr ?_, fun C c1 c2 x hx => ?_, n, fun x hx => ?_⟩
  · by_cases e : x = k
    · subst e; exact List.mem_append_right _ hg
    · exact List.mem_append_left _ (h.gl x hx (by omega) g hg)
  · rcases List.mem_append.mp ((m x).mp hx) with q | q
    · exact h.snd C c1 c2 x q
    · exact c2 k (h.snd C c1 c2 k hk) hkl x q
  · rcases List.mem_append.mp ((m x).mp hx) with q | q
    · exact h.lt x q
    · exact V.goalsI k hkl x q
theorem Clo.out {M : Mach} {S S2 : List Nat} {k : Nat} (h : Clo M S S2 k) (hk : k ∉ S2) : Clo M S S2 (k + 1) := by
  refine ⟨h.sub, fun x hx hxk g hg => ?_, h.snd, h.nod, h.lt⟩
  by_cases e : x = k
  · subst e; exact absurd (h.sub x hx) hk
  · exact h.gl x hx (by omega) g hg
structure Rou (M : Mach) (S : List Nat) (i : Nat) : Prop where
  zero : 0 ∈ S
  snd : ∀ C : Nat → Prop, C 0 → Closd M C → ∀ x ∈ S, C x
  nod : S.Nodup
  lt : ∀ x ∈ S, x < M.length
  grow : Closd M (· ∈ S) ∨ i + 1 ≤ S.length
theorem Rou.start {M : Mach} (V : Valid M) : Rou M [0] 0 := ⟨List.mem_singleton.mpr rfl, fun C c _ x hx => by rw [List.mem_singleton.mp hx]; exact c, by simp, fun x hx => by rw [List.mem_singleton.mp hx]; exact V.pos, .inr (Nat.le_refl _)⟩
theorem Rou.toClo {M : Mach} {S : List Nat} {i : Nat} (h : Rou M S i) : Clo M S S 0 := ⟨fun _ hx => hx, fun _ _ q => absurd q (Nat.not_lt_zero _), fun C c _ => c, h.nod, h.lt⟩
theorem Rou.next {M : Mach} {S S2 : List Nat} {i : Nat} (h : Rou M S i) (c : Clo M S S2 M.length) : Rou M S2 (i + 1) := by
  refine ⟨c.sub 0 h.zero, fun C c1 c2 x hx => c.snd C (h.snd C c1 c2) c2 x hx, c.nod, c.lt, ?_⟩
  by_cases hc : Closd M (· ∈ S)
  · have hs : ∀ x ∈ S2, x ∈ S := c.snd (· ∈ S) (fun x hx => hx) hc
    exact .inl fun k hk hkl g hg => c.sub g (hc k (hs k hk) hkl g hg)
  · have h1 : i + 1 ≤ S.length := by
      rcases h.grow with q | q
      · exact absurd q hc
      · exact q
    right
    have : ∃ x g, x ∈ S ∧ g ∈ gls (stA M x) ∧ g ∉ S := by
      refine Classical.byContradiction fun q => hc fun k hk _ g hg => Classical.byContradiction fun z => q ⟨k, g, hk, hg, z⟩
    obtain ⟨x, g, hx, hg, hgS⟩ := this
    have := sub_len (l := g :: S) (m := S2) (List.nodup_cons.mpr ⟨hgS, h.nod⟩) fun y hy => by
      rcases List.mem_cons.mp hy with rfl | q
      · exact c.gl x hx (h.lt x hx) y hg
      · exact c.sub y q
    rw [List.length_cons] at this
    omega
theorem Rou.done {M : Mach} {S : List Nat} (h : Rou M S M.length) : Closd M (· ∈ S) := by
  rcases h.grow with q | q
  · exact q
  · have := nodup_le h.nod h.lt
    omega
end WK

set_option Elab.async false
set_option linter.all false
set_option maxHeartbeats 4000000
set_option maxRecDepth 100000
noncomputable section
namespace WK
open PySem DL L2

local macro_rules | `(tactic| walk_at "ev") => `(tactic| simp only [ofE_err, bnd_err, ofE_ok, ofE_ok', bnd_ok, bnd_ok', sSeq_ev, sq_nx, sq_rt, sq_er, sq_bk, sq_ct, sIf_ev, sRet_ev, sDrop_ev, sSkip_ev, sRetN_ev, sRaise_ev, sFor_ev, eC_ev, e2_ev, e1_ev, eFn_ev, eCall_ev, aCons_ev, aNil_ev, nNew_ev, eTup_ev, eLst_ev, eIf_ev, eNew_ev, tTru_ev, tNot_ev, tAnd_ev, tOr_ev, tYes_ev, nLc_ev, wipe0, wipeS, tix_ev, set_ev, asg_ev, setO_ev, v0, vS, o0, o0', oS, g0, gS, own0, ownS, setAt0, setAtS, e3_ev, and_ev, or_ev, not_ev, val_ev, asB_b, iSeq_ev, seqOf_l, seqOf_t, iR1_ev, nRng_ev, gT_ev, gs_c, gs_n,
  add_i, sub_i, div_i, mod_i, mul_l, mul_r, neg_i, cmp_i, lt_i, eq_i, ne_i, isN_n, isN_i, isN_l, notN_n, notN_i, len_l, len_t, tru_l, tru_t, tru_b, tup_l, lst_l, lst_t, any_l, all_l, min_i, max_i, oIx_l, oIx_t, oIx_c0, oIx_c1, oIx_c2, limV,
  nup1, nup_le, nup_lt, nup_eq, ← Int.natCast_add,
  posts_some, postg_some, end_rt, end_nx, lp_nx, lp_ct, lp_bk, lp_rt, lp_er, sqq_nx, sqq_rt, sqq_er, sqq_bk, sqq_ct, wO_some, app_w, put_w, frz_o, frzK_some, nlit_le, nlit_lt, nlit_ge, nlit_gt, nlit_eq, nge0, in_tf, all_true, lenset_n, nm4, nm3, nm2, nd4, nd2, eq_n, le_n, tryK_ev, sqK_nx, sqK_rt, sqK_er, isN_x, 
  Option.map_some, Option.map_none, Option.bind_some, fin_nx, fin_rt, fin_er, List.length_cons, List.length_nil, List.length_map, List.length_append, List.length_range, List.set_cons_zero, List.set_cons_succ, ↓reduceIte, Nat.zero_add, Nat.add_zero, Nat.zero_le, Nat.reduceAdd, Nat.reduceLeDiff, Nat.reduceEqDiff, Int.reduceLT, Int.reduceNeg, Int.reducePow, Option.isNone_none, Option.isNone_some, Option.isSome_none, Option.isSome_some, decide_eq_true_eq, decide_true, decide_false, Bool.not_true, Bool.not_false, Bool.false_eq_true, eq_self, and_self, true_and, and_true, Bool.true_xor, Bool.false_xor])
local macro_rules | `(tactic| walk_at "in") => `(tactic| simp only [rho0, List.map_cons, List.map_nil, List.cons_append, List.nil_append, List.length_cons, List.length_nil, Nat.reduceAdd, Nat.reduceSub, Nat.zero_add, Nat.sub_self, rep0, repS])
local macro_rules | `(tactic| walk_at "evo") => `(tactic| simp (disch := (first | omega | (simp only [List.length_map, List.length_append, List.length_cons, List.length_nil, List.length_range, List.length_set, List.length_replicate]; omega))) only [addT6, addL6, rng1_n, rngO_n, mod_n, ofE_err, bnd_err, ofE_ok, ofE_ok', bnd_ok, bnd_ok', sSeq_ev, sq_nx, sq_rt, sq_er, sq_bk, sq_ct, sIf_ev, sRet_ev, sDrop_ev, sSkip_ev, sRetN_ev, sRaise_ev, sFor_ev, eC_ev, e2_ev, e1_ev, eFn_ev, eCall_ev, aCons_ev, aNil_ev, nNew_ev, eTup_ev, eLst_ev, eIf_ev, eNew_ev, tTru_ev, tNot_ev, tAnd_ev, tOr_ev, tYes_ev, nLc_ev, wipe0, wipeS, tix_ev, set_ev, asg_ev, setO_ev, v0, vS, o0, o0', oS, g0, gS, own0, ownS, setAt0, setAtS, e3_ev, and_ev, or_ev, not_ev, val_ev, asB_b, iSeq_ev, seqOf_l, seqOf_t, iR1_ev, nRng_ev, gT_ev, gs_c, gs_n,
  add_i, sub_i, div_i, mod_i, mul_l, mul_r, neg_i, cmp_i, lt_i, eq_i, ne_i, isN_n, isN_i, isN_l, notN_n, notN_i, len_l, len_t, tru_l, tru_t, tru_b, tup_l, lst_l, lst_t, any_l, all_l, min_i, max_i, oIx_l, oIx_t, oIx_c0, oIx_c1, oIx_c2, limV,
  nup1, nup_le, nup_lt, nup_eq, ← Int.natCast_add,
  posts_some, postg_some, end_rt, end_nx, lp_nx, lp_ct, lp_bk, lp_rt, lp_er, sqq_nx, sqq_rt, sqq_er, sqq_bk, sqq_ct, wO_some, app_w, put_w, frz_o, frzK_some, nlit_le, nlit_lt, nlit_ge, nlit_gt, nlit_eq, nge0, in_tf, all_true, lenset_n, nm4, nm3, nm2, nd4, nd2, eq_n, le_n, tryK_ev, sqK_nx, sqK_rt, sqK_er, isN_x, 
  Option.map_some, Option.map_none, Option.bind_some, fin_nx, fin_rt, fin_er, List.length_cons, List.length_nil, List.length_map, List.length_append, List.length_range, List.set_cons_zero, List.set_cons_succ, ↓reduceIte, Nat.zero_add, Nat.add_zero, Nat.zero_le, Nat.reduceAdd, Nat.reduceLeDiff, Nat.reduceEqDiff, Int.reduceLT, Int.reduceNeg, Int.reducePow, Option.isNone_none, Option.isNone_some, Option.isSome_none, Option.isSome_some, decide_eq_true_eq, decide_true, decide_false, Bool.not_true, Bool.not_false, Bool.false_eq_true, eq_self, and_self, true_and, and_true, Bool.true_xor, Bool.false_xor])
local macro_rules | `(tactic| walk_at "evh") => `(tactic| simp only [*, ofE_err, bnd_err, ofE_ok, ofE_ok', bnd_ok, bnd_ok', sSeq_ev, sq_nx, sq_rt, sq_er, sq_bk, sq_ct, sIf_ev, sRet_ev, sDrop_ev, sSkip_ev, sRetN_ev, sRaise_ev, sFor_ev, eC_ev, e2_ev, e1_ev, eFn_ev, eCall_ev, aCons_ev, aNil_ev, nNew_ev, eTup_ev, eLst_ev, eIf_ev, eNew_ev, tTru_ev, tNot_ev, tAnd_ev, tOr_ev, tYes_ev, nLc_ev, wipe0, wipeS, tix_ev, set_ev, asg_ev, setO_ev, v0, vS, o0, o0', oS, g0, gS, own0, ownS, setAt0, setAtS, e3_ev, and_ev, or_ev, not_ev, val_ev, asB_b, iSeq_ev, seqOf_l, seqOf_t, iR1_ev, nRng_ev, gT_ev, gs_c, gs_n,
  add_i, sub_i, div_i, mod_i, mul_l, mul_r, neg_i, cmp_i, lt_i, eq_i, ne_i, isN_n, isN_i, isN_l, notN_n, notN_i, len_l, len_t, tru_l, tru_t, tru_b, tup_l, lst_l, lst_t, any_l, all_l, min_i, max_i, oIx_l, oIx_t, oIx_c0, oIx_c1, oIx_c2, limV,
  nup1, nup_le, nup_lt, nup_eq, ← Int.natCast_add,
  posts_some, postg_some, end_rt, end_nx, lp_nx, lp_ct, lp_bk, lp_rt, lp_er, sqq_nx, sqq_rt, sqq_er, sqq_bk, sqq_ct, wO_some, app_w, put_w, frz_o, frzK_some, nlit_le, nlit_lt, nlit_ge, nlit_gt, nlit_eq, nge0, in_tf, all_true, lenset_n, nm4, nm3, nm2, nd4, nd2, eq_n, le_n, tryK_ev, sqK_nx, sqK_rt, sqK_er, isN_x, 
  Option.map_some, Option.map_none, Option.bind_some, fin_nx, fin_rt, fin_er, List.length_cons, List.length_nil, List.length_map, List.length_append, List.length_range, List.set_cons_zero, List.set_cons_succ, ↓reduceIte, Nat.zero_add, Nat.add_zero, Nat.zero_le, Nat.reduceAdd, Nat.reduceLeDiff, Nat.reduceEqDiff, Int.reduceLT, Int.reduceNeg, Int.reducePow, Option.isNone_none, Option.isNone_some, Option.isSome_none, Option.isSome_some, decide_eq_true_eq, decide_true, decide_false, Bool.not_true, Bool.not_false, Bool.false_eq_true, eq_self, and_self, true_and, and_true, Bool.true_xor, Bool.false_xor])
theorem told0 {B W : PyData} (h : m_look_machine [B] = ok .none) : m__law_told [cN 0, B, W] = ok .none := by
  rw [m__law_told, run_fin (by rfl)]
  walk_at "in"
  rw [b__law_told]
  walk_at "evh"
theorem told1 {B W d : PyData} (h : m_gone [B, W] = ok d) : m__law_told [cN 1, B, W] = ok d := by
  rw [m__law_told, run_fin (by rfl)]
  walk_at "in"
  rw [b__law_told]
  walk_at "evh"
theorem told2 {B W d : PyData} (h : m_takes [B, W] = ok d) : m__law_told [cN 2, B, W] = ok d := by
  rw [m__law_told, run_fin (by rfl)]
  walk_at "in"
  rw [b__law_told]
  walk_at "evh"
theorem told3 {B W d : PyData} (h : m_reached [B] = ok d) : m__law_told [cN 3, B, W] = ok d := by
  rw [m__law_told, run_fin (by rfl)]
  walk_at "in"
  rw [b__law_told]
  walk_at "evh"
theorem eqv_str (x : Str) : PyData.eqv (.str x) (.str x) = true := by
  rw [PyData.eqv]; simp
theorem ok_machine : PyData.strOk (Str.ofString "machine") = true := by decide +kernel
theorem ne_strs : oNe (.list [.str "machine", .str "machine", .str "machine", .str "machine"]) (.list [.str "machine", .str "machine", .str "machine", .str "machine"]) = ok (.bool false) := by
  unfold oNe
  have hs : SeqAt.shaped (.list [.str "machine", .str "machine", .str "machine", .str "machine"]) = true := by simp [SeqAt.shaped, PyData.canLay0, PyData.canLayAll0, PyData.depth, PyData.depthAll, ok_machine]
  rw [if_pos ⟨hs, hs⟩]
  simp only [PyData.eqv, PyData.eqvAll, beq_self_eq_true, Bool.and_true, Bool.not_true]
theorem isi_b {b : Bool} : oIsi "bool" (.bool b) = ok (.bool true) := rfl
end WK

set_option Elab.async false
set_option linter.all false
set_option maxHeartbeats 4000000
set_option maxRecDepth 100000
noncomputable section
namespace WK
open PySem DL L2

local macro_rules | `(tactic| walk_at "ev") => `(tactic| simp only [ofE_err, bnd_err, ofE_ok, ofE_ok', bnd_ok, bnd_ok', sSeq_ev, sq_nx, sq_rt, sq_er, sq_bk, sq_ct, sIf_ev, sRet_ev, sDrop_ev, sSkip_ev, sRetN_ev, sRaise_ev, sFor_ev, eC_ev, e2_ev, e1_ev, eFn_ev, eCall_ev, aCons_ev, aNil_ev, nNew_ev, eTup_ev, eLst_ev, eIf_ev, eNew_ev, tTru_ev, tNot_ev, tAnd_ev, tOr_ev, tYes_ev, nLc_ev, wipe0, wipeS, tix_ev, set_ev, asg_ev, setO_ev, v0, vS, o0, o0', oS, g0, gS, own0, ownS, setAt0, setAtS, e3_ev, and_ev, or_ev, not_ev, val_ev, asB_b, iSeq_ev, seqOf_l, seqOf_t, iR1_ev, nRng_ev, gT_ev, gs_c, gs_n,
  add_i, sub_i, div_i, mod_i, mul_l, mul_r, neg_i, cmp_i, lt_i, eq_i, ne_i, isN_n, isN_i, isN_l, notN_n, notN_i, len_l, len_t, tru_l, tru_t, tru_b, tup_l, lst_l, lst_t, any_l, all_l, min_i, max_i, oIx_l, oIx_t, oIx_c0, oIx_c1, oIx_c2, limV,
  nup1, nup_le, nup_lt, nup_eq, ← Int.natCast_add,
  posts_some, postg_some, end_rt, end_nx, lp_nx, lp_ct, lp_bk, lp_rt, lp_er, sqq_nx, sqq_rt, sqq_er, sqq_bk, sqq_ct, wO_some, app_w, put_w, frz_o, frzK_some, nlit_le, nlit_lt, nlit_ge, nlit_gt, nlit_eq, nge0, in_tf, all_true, lenset_n, nm4, nm3, nm2, nd4, nd2, eq_n, le_n, eSt, eMv, eM, gT_ev', 
  Option.map_some, Option.map_none, Option.bind_some, fin_nx, fin_rt, fin_er, List.length_cons, List.length_nil, List.length_map, List.length_append, List.length_range, List.set_cons_zero, List.set_cons_succ, ↓reduceIte, Nat.zero_add, Nat.add_zero, Nat.zero_le, Nat.reduceAdd, Nat.reduceLeDiff, Nat.reduceEqDiff, Int.reduceLT, Int.reduceNeg, Int.reducePow, Option.isNone_none, Option.isNone_some, Option.isSome_none, Option.isSome_some, decide_eq_true_eq, decide_true, decide_false, Bool.not_true, Bool.not_false, Bool.false_eq_true, eq_self, and_self, true_and, and_true, Bool.true_xor, Bool.false_xor])
local macro_rules | `(tactic| walk_at "in") => `(tactic| simp only [rho0, List.map_cons, List.map_nil, List.cons_append, List.nil_append, List.length_cons, List.length_nil, Nat.reduceAdd, Nat.reduceSub, Nat.zero_add, Nat.sub_self, rep0, repS])
local macro_rules | `(tactic| walk_at "evo") => `(tactic| simp (disch := (first | omega | (simp only [List.length_map, List.length_append, List.length_cons, List.length_nil, List.length_range, List.length_set, List.length_replicate]; omega))) only [addT6, addL6, rng1_n, rngO_n, mod_n, ofE_err, bnd_err, ofE_ok, ofE_ok', bnd_ok, bnd_ok', sSeq_ev, sq_nx, sq_rt, sq_er, sq_bk, sq_ct, sIf_ev, sRet_ev, sDrop_ev, sSkip_ev, sRetN_ev, sRaise_ev, sFor_ev, eC_ev, e2_ev, e1_ev, eFn_ev, eCall_ev, aCons_ev, aNil_ev, nNew_ev, eTup_ev, eLst_ev, eIf_ev, eNew_ev, tTru_ev, tNot_ev, tAnd_ev, tOr_ev, tYes_ev, nLc_ev, wipe0, wipeS, tix_ev, set_ev, asg_ev, setO_ev, v0, vS, o0, o0', oS, g0, gS, own0, ownS, setAt0, setAtS, e3_ev, and_ev, or_ev, not_ev, val_ev, asB_b, iSeq_ev, seqOf_l, seqOf_t, iR1_ev, nRng_ev, gT_ev, gs_c, gs_n,
  add_i, sub_i, div_i, mod_i, mul_l, mul_r, neg_i, cmp_i, lt_i, eq_i, ne_i, isN_n, isN_i, isN_l, notN_n, notN_i, len_l, len_t, tru_l, tru_t, tru_b, tup_l, lst_l, lst_t, any_l, all_l, min_i, max_i, oIx_l, oIx_t, oIx_c0, oIx_c1, oIx_c2, limV,
  nup1, nup_le, nup_lt, nup_eq, ← Int.natCast_add,
  posts_some, postg_some, end_rt, end_nx, lp_nx, lp_ct, lp_bk, lp_rt, lp_er, sqq_nx, sqq_rt, sqq_er, sqq_bk, sqq_ct, wO_some, app_w, put_w, frz_o, frzK_some, nlit_le, nlit_lt, nlit_ge, nlit_gt, nlit_eq, nge0, in_tf, all_true, lenset_n, nm4, nm3, nm2, nd4, nd2, eq_n, le_n, eSt, eMv, eM, gT_ev', 
  Option.map_some, Option.map_none, Option.bind_some, fin_nx, fin_rt, fin_er, List.length_cons, List.length_nil, List.length_map, List.length_append, List.length_range, List.set_cons_zero, List.set_cons_succ, ↓reduceIte, Nat.zero_add, Nat.add_zero, Nat.zero_le, Nat.reduceAdd, Nat.reduceLeDiff, Nat.reduceEqDiff, Int.reduceLT, Int.reduceNeg, Int.reducePow, Option.isNone_none, Option.isNone_some, Option.isSome_none, Option.isSome_some, decide_eq_true_eq, decide_true, decide_false, Bool.not_true, Bool.not_false, Bool.false_eq_true, eq_self, and_self, true_and, and_true, Bool.true_xor, Bool.false_xor])
local macro_rules | `(tactic| walk_at "evh") => `(tactic| simp only [*, ofE_err, bnd_err, ofE_ok, ofE_ok', bnd_ok, bnd_ok', sSeq_ev, sq_nx, sq_rt, sq_er, sq_bk, sq_ct, sIf_ev, sRet_ev, sDrop_ev, sSkip_ev, sRetN_ev, sRaise_ev, sFor_ev, eC_ev, e2_ev, e1_ev, eFn_ev, eCall_ev, aCons_ev, aNil_ev, nNew_ev, eTup_ev, eLst_ev, eIf_ev, eNew_ev, tTru_ev, tNot_ev, tAnd_ev, tOr_ev, tYes_ev, nLc_ev, wipe0, wipeS, tix_ev, set_ev, asg_ev, setO_ev, v0, vS, o0, o0', oS, g0, gS, own0, ownS, setAt0, setAtS, e3_ev, and_ev, or_ev, not_ev, val_ev, asB_b, iSeq_ev, seqOf_l, seqOf_t, iR1_ev, nRng_ev, gT_ev, gs_c, gs_n,
  add_i, sub_i, div_i, mod_i, mul_l, mul_r, neg_i, cmp_i, lt_i, eq_i, ne_i, isN_n, isN_i, isN_l, notN_n, notN_i, len_l, len_t, tru_l, tru_t, tru_b, tup_l, lst_l, lst_t, any_l, all_l, min_i, max_i, oIx_l, oIx_t, oIx_c0, oIx_c1, oIx_c2, limV,
  nup1, nup_le, nup_lt, nup_eq, ← Int.natCast_add,
  posts_some, postg_some, end_rt, end_nx, lp_nx, lp_ct, lp_bk, lp_rt, lp_er, sqq_nx, sqq_rt, sqq_er, sqq_bk, sqq_ct, wO_some, app_w, put_w, frz_o, frzK_some, nlit_le, nlit_lt, nlit_ge, nlit_gt, nlit_eq, nge0, in_tf, all_true, lenset_n, nm4, nm3, nm2, nd4, nd2, eq_n, le_n, eSt, eMv, eM, gT_ev', 
  Option.map_some, Option.map_none, Option.bind_some, fin_nx, fin_rt, fin_er, List.length_cons, List.length_nil, List.length_map, List.length_append, List.length_range, List.set_cons_zero, List.set_cons_succ, ↓reduceIte, Nat.zero_add, Nat.add_zero, Nat.zero_le, Nat.reduceAdd, Nat.reduceLeDiff, Nat.reduceEqDiff, Int.reduceLT, Int.reduceNeg, Int.reducePow, Option.isNone_none, Option.isNone_some, Option.isSome_none, Option.isSome_some, decide_eq_true_eq, decide_true, decide_false, Bool.not_true, Bool.not_false, Bool.false_eq_true, eq_self, and_self, true_and, and_true, Bool.true_xor, Bool.false_xor])
/-- what can be come to from a state on -/
def RS (M : Mach) (s x : Nat) : Prop := ∀ C : Nat → Prop, C s → Closd M C → C x
theorem RS.self {M : Mach} {s : Nat} : RS M s s := fun _ h _ => h
theorem RS.step {M : Mach} {s x g : Nat} (h : RS M s x) (hx : x < M.length) (hg : g ∈ gls (stA M x)) : RS M s g := fun C c1 c2 => c2 x (h C c1 c2) hx g hg
theorem RS.front {M : Mach} {s x g : Nat} (hs : s < M.length) (hg : g ∈ gls (stA M s)) (h : RS M g x) : RS M s x := fun C c1 c2 => h C (c2 s c1 hs g hg) c2
theorem RS.lt {M : Mach} (V : Valid M) {s x : Nat} (hs : s < M.length) (h : RS M s x) : x < M.length := h (· < M.length) hs fun k _ hk g hg => V.goalsI k hk g hg
structure RouS (M : Mach) (s : Nat) (S : List Nat) (i : Nat) : Prop where
  zero : s ∈ S
  snd : ∀ C : Nat → Prop, C s → Closd M C → ∀ x ∈ S, C x
  nod : S.Nodup
  lt : ∀ x ∈ S, x < M.length
  grow : Closd M (· ∈ S) ∨ i + 1 ≤ S.length
theorem RouS.start {M : Mach} {s : Nat} (hs : s < M.length) : RouS M s [s] 0 := ⟨List.mem_singleton.mpr rfl, fun C c _ x hx => by rw [List.mem_singleton.mp hx]; exact c, by simp, fun x hx => by rw [List.mem_singleton.mp hx]; exact hs, .inr (Nat.le_refl _)⟩
theorem RouS.toClo {M : Mach} {s : Nat} {S : List Nat} {i : Nat} (h : RouS M s S i) : Clo M S S 0 := ⟨fun _ hx => hx, fun _ _ q => absurd q (Nat.not_lt_zero _), fun C c _ => c, h.nod, h.lt⟩
theorem RouS.next {M : Mach} {s : Nat} {S S2 : List Nat} {i : Nat} (h : RouS M s S i) (c : Clo M S S2 M.length) : RouS M s S2 (i + 1) := by
  refine ⟨c.sub s h.zero, fun C c1 c2 x hx => c.snd C (h.snd C c1 c2) c2 x hx, c.nod, c.lt, ?_⟩
  by_cases hc : Closd M (· ∈ S)
  · have hs : ∀ x ∈ S2, x ∈ S := c.snd (· ∈ S) (fun x hx => hx) hc
    exact .inl fun k hk hkl g hg => c.sub g (hc k (hs k hk) hkl g hg)
  · have h1 : i + 1 ≤ S.length := by
      rcases h.grow with q | q
      · exact absurd q hc
      · exact q
    right
    have : ∃ x g, x ∈ S ∧ g ∈ gls (stA M x) ∧ g ∉ S := by
      refine Classical.byContradiction fun q => hc fun k hk _ g hg => Classical.byContradiction fun z => q ⟨k, g, hk, hg, z⟩
    obtain ⟨x, g, hx, hg, hgS⟩ := this
    have := sub_len (l := g :: S) (m := S2) (List.nodup_cons.mpr ⟨hgS, h.nod⟩) fun y hy => by
      rcases List.mem_cons.mp hy with rfl | q
      · exact c.gl x hx (h.lt x hx) y hg
      · exact c.sub y q
    rw [List.length_cons] at this
    omega
theorem RouS.done {M : Mach} {s : Nat} {S : List Nat} (h : RouS M s S M.length) : Closd M (· ∈ S) := by
  rcases h.grow with q | q
  · exact q
  · have := nodup_le h.nod h.lt
    omega
theorem RouS.mem {M : Mach} {s : Nat} {S : List Nat} (h : RouS M s S M.length) (x : Nat) : x ∈ S ↔ RS M s x :=
  ⟨fun hx C c1 c2 => h.snd C c1 c2 x hx, fun hx => hx (· ∈ S) h.zero h.done⟩
/-- what is said of later -/
def lt3 (a n : Bool) : PyData := if a = true then .str "always" else if n = true then .str "open" else .str "never"
theorem later_is {M : Mach} (V : Valid M) (h4 : M.length ≤ 4) (h2 : ∀ s ∈ M, s.2.1 ≤ 2) {s : Nat} (hs : s < M.length) : ∃ a n : Bool, m__law_later [eM M, cN s] = ok (lt3 a n) ∧ (a = true ↔ ∀ x, RS M s x → (stA M x).1 = true) ∧ (n = true ↔ ∃ x, RS M s x ∧ (stA M x).1 = true) := by
  have key : Post (fun d => ∃ a n : Bool, d = lt3 a n ∧ (a = true ↔ ∀ x, RS M s x → (stA M x).1 = true) ∧ (n = true ↔ ∃ x, RS M s x ∧ (stA M x).1 = true)) (m__law_later [eM M, cN s]) := by
    refine post_run (by rfl) ?_
    walk_at "in"
    rw [b__law_later]
    have hr := rng1_n (n := M.length) (by omega)
    have h7 : ∀ x, x < M.length → (gls (stA M x)).length ≤ 3 := fun x hx => by
      have := (V.each _ (stA_mem hx).1).moves
      have := h2 _ (stA_mem hx).1
      rw [gls, List.length_map]; omega
    walk_at "ev"
    rw [hr]
    walk_at "ev"
    refine posts_sq (posts_for (fun i r => ∃ (S : List Nat) (j3 j4 j5 : Option B), RouS M s S i ∧ r = [some (.d (.list (M.map eSt))), some (.d (cN s)), some (.d (.list (S.map cN))), j3, j4, j5, none]) ?_ ?_ ?_)
    · exact ⟨[s], none, none, none, RouS.start hs, rfl⟩
    · rintro i x r hx ⟨S, j3, j4, j5, hR, rfl⟩
      obtain ⟨t, hy, rfl⟩ := getq_map hx
      obtain ⟨rfl, htl⟩ := getq_range hy
      walk_at "ev"
      rw [hr]
      walk_at "ev"
      refine posts_for (fun i r => ∃ (S2 : List Nat) (j4 j5 : Option B), Clo M S S2 i ∧ r = [some (.d (.list (M.map eSt))), some (.d (cN s)), some (.d (.list (S2.map cN))), some (.d (cN t)), j4, j5, none]) ?_ ?_ ?_
      · exact ⟨S, _, _, hR.toClo, rfl⟩
      · rintro i x r hx ⟨S2, j4, j5, hC, rfl⟩
        obtain ⟨k, hy, rfl⟩ := getq_map hx
        obtain ⟨rfl, hkl⟩ := getq_range hy
        have hix : oIx (.list (M.map eSt)) (cN k) = ok (eSt (stA M k)) := oIx_list eSt M k _ (stA_mem hkl).2.1
        have hin := in_ln (neg := false) (a := k) (held := S2)
        have hSl := nodup_le hC.nod hC.lt
        by_cases hk : k ∈ S2
        · have hmv : (stA M k).2.2.length ≤ 1000000 := by
            have := h7 k hkl
            rw [gls, List.length_map] at this; omega
          rw [decide_eq_true hk] at hin
          walk_at "ev"
          rw [hin, hix]
          walk_at "ev"
          rw [lc_allG (enc := eMv) (fun m => cN m.1) _ hmv fun m hm => by
            rw [eMv]
            walk_at "ev"]
          have hg : (stA M k).2.2.map (fun m => cN m.1) = (gls (stA M k)).map cN := by rw [gls, List.map_map]; rfl
          have h7k := h7 k hkl
          have hcat := cat_l (f := cN) (xs := S2) (ys := gls (stA M k)) (by rw [lim_is]; omega)
          obtain ⟨S3, s1, s2, s3⟩ := srt_set (S := S2 ++ gls (stA M k)) (by rw [List.length_append]; omega)
          rw [hg]
          walk_at "ev"
          rw [hcat]
          walk_at "ev"
          rw [s1]
          walk_at "ev"
          exact ⟨S3, _, _, hC.in V hk hkl s2 s3, rfl⟩
        · rw [decide_eq_false hk] at hin
          walk_at "ev"
          rw [hin]
          walk_at "ev"
          exact ⟨S2, _, _, hC.out hk, rfl⟩
      · rintro r ⟨S2, j4, j5, hC, rfl⟩
        rw [List.length_map, List.length_range] at hC
        exact ⟨S2, _, _, _, hR.next hC, rfl⟩
    · rintro r ⟨S, j3, j4, j5, hR, rfl⟩
      rw [List.length_map, List.length_range] at hR
      have hm := hR.mem
      have hSl := nodup_le hR.nod hR.lt
      walk_at "ev"
      rw [lc_allG (enc := cN) (fun k => .bool (stA M k).1) S (by omega) fun k hk => by
        have hix : oIx (.list (M.map eSt)) (cN k) = ok (eSt (stA M k)) := oIx_list eSt M k _ (stA_mem (hR.lt k hk)).2.1
        walk_at "ev"
        rw [hix]
        walk_at "ev"]
      walk_at "ev"
      have e1 : (S.map fun k => PyData.bool (stA M k).1) = (S.map fun k => (stA M k).1).map .bool := by rw [List.map_map]; rfl
      rw [e1]
      walk_at "ev"
      have e2 : ∀ a n : Bool, (if a = true then ok (PyData.str "always") else if n = true then ok (.str "open") else ok (.str "never")) = ok (lt3 a n) := fun a n => by cases a <;> cases n <;> rfl
      rw [e2]
      walk_at "ev"
      refine ⟨(S.map fun k => (stA M k).1).all id, (S.map fun k => (stA M k).1).any id, rfl, ?_, ?_⟩
      · rw [List.all_map, List.all_eq_true]
        exact ⟨fun h x hx => h x ((hm x).mpr hx), fun h x hx => h x ((hm x).mp hx)⟩
      · rw [List.any_map, List.any_eq_true]
        exact ⟨fun ⟨x, h1, h2⟩ => ⟨x, (hm x).mp h1, h2⟩, fun ⟨x, h1, h2⟩ => ⟨x, (hm x).mpr h1, h2⟩⟩
  obtain ⟨d, e, a, n, rfl, h1, h2⟩ := key
  exact ⟨a, n, e, h1, h2⟩
theorem eq_bv {x y : Bool} : oEq (.bool x) (.bool y) = ok (.bool (decide (x = y))) := oEq_enc enc_bool (by omega) x y
theorem ne_blb {x y : List Bool} : oNe (.list (x.map .bool)) (.list (y.map .bool)) = ok (.bool (!decide (x = y))) := oNe_enc (enc_list enc_bool) (by omega) x y
theorem ne_nlb {y : List Bool} : oNe .none (.list (y.map .bool)) = ok (.bool true) := by
  unfold oNe
  rw [if_pos ⟨rfl, (enc_list enc_bool).shaped (by omega) y⟩]
  rfl
end WK

set_option Elab.async false
set_option linter.all false
set_option maxHeartbeats 4000000
set_option maxRecDepth 100000
noncomputable section
namespace WK
open PySem DL L2

local macro_rules | `(tactic| walk_at "ev") => `(tactic| simp only [ofE_err, bnd_err, ofE_ok, ofE_ok', bnd_ok, bnd_ok', sSeq_ev, sq_nx, sq_rt, sq_er, sq_bk, sq_ct, sIf_ev, sRet_ev, sDrop_ev, sSkip_ev, sRetN_ev, sRaise_ev, sFor_ev, eC_ev, e2_ev, e1_ev, eFn_ev, eCall_ev, aCons_ev, aNil_ev, nNew_ev, eTup_ev, eLst_ev, eIf_ev, eNew_ev, tTru_ev, tNot_ev, tAnd_ev, tOr_ev, tYes_ev, nLc_ev, wipe0, wipeS, tix_ev, set_ev, asg_ev, setO_ev, v0, vS, o0, o0', oS, g0, gS, own0, ownS, setAt0, setAtS, e3_ev, and_ev, or_ev, not_ev, val_ev, asB_b, iSeq_ev, seqOf_l, seqOf_t, iR1_ev, nRng_ev, gT_ev, gs_c, gs_n,
  add_i, sub_i, div_i, mod_i, mul_l, mul_r, neg_i, cmp_i, lt_i, eq_i, ne_i, isN_n, isN_i, isN_l, notN_n, notN_i, len_l, len_t, tru_l, tru_t, tru_b, tup_l, lst_l, lst_t, any_l, all_l, min_i, max_i, oIx_l, oIx_t, oIx_c0, oIx_c1, oIx_c2, limV,
  nup1, nup_le, nup_lt, nup_eq, ← Int.natCast_add,
  posts_some, postg_some, end_rt, end_nx, lp_nx, lp_ct, lp_bk, lp_rt, lp_er, sqq_nx, sqq_rt, sqq_er, sqq_bk, sqq_ct, wO_some, app_w, put_w, frz_o, frzK_some, nlit_le, nlit_lt, nlit_ge, nlit_gt, nlit_eq, nge0, in_tf, all_true, lenset_n, nm4, nm3, nm2, nd4, nd2, eq_n, le_n, eSt, eMv, eM, eGl, eq_bv, ne_nlb, ne_blb, 
  Option.map_some, Option.map_none, Option.bind_some, fin_nx, fin_rt, fin_er, List.length_cons, List.length_nil, List.length_map, List.length_append, List.length_range, List.set_cons_zero, List.set_cons_succ, ↓reduceIte, Nat.zero_add, Nat.add_zero, Nat.zero_le, Nat.reduceAdd, Nat.reduceLeDiff, Nat.reduceEqDiff, Int.reduceLT, Int.reduceNeg, Int.reducePow, Option.isNone_none, Option.isNone_some, Option.isSome_none, Option.isSome_some, decide_eq_true_eq, decide_true, decide_false, Bool.not_true, Bool.not_false, Bool.false_eq_true, eq_self, and_self, true_and, and_true, Bool.true_xor, Bool.false_xor])
local macro_rules | `(tactic| walk_at "in") => `(tactic| simp only [rho0, List.map_cons, List.map_nil, List.cons_append, List.nil_append, List.length_cons, List.length_nil, Nat.reduceAdd, Nat.reduceSub, Nat.zero_add, Nat.sub_self, rep0, repS])
local macro_rules | `(tactic| walk_at "evo") => `(tactic| simp (disch := (first | omega | (simp only [List.length_map, List.length_append, List.length_cons, List.length_nil, List.length_range, List.length_set, List.length_replicate]; omega))) only [addT6, addL6, rng1_n, rngO_n, mod_n, ofE_err, bnd_err, ofE_ok, ofE_ok', bnd_ok, bnd_ok', sSeq_ev, sq_nx, sq_rt, sq_er, sq_bk, sq_ct, sIf_ev, sRet_ev, sDrop_ev, sSkip_ev, sRetN_ev, sRaise_ev, sFor_ev, eC_ev, e2_ev, e1_ev, eFn_ev, eCall_ev, aCons_ev, aNil_ev, nNew_ev, eTup_ev, eLst_ev, eIf_ev, eNew_ev, tTru_ev, tNot_ev, tAnd_ev, tOr_ev, tYes_ev, nLc_ev, wipe0, wipeS, tix_ev, set_ev, asg_ev, setO_ev, v0, vS, o0, o0', oS, g0, gS, own0, ownS, setAt0, setAtS, e3_ev, and_ev, or_ev, not_ev, val_ev, asB_b, iSeq_ev, seqOf_l, seqOf_t, iR1_ev, nRng_ev, gT_ev, gs_c, gs_n,
  add_i, sub_i, div_i, mod_i, mul_l, mul_r, neg_i, cmp_i, lt_i, eq_i, ne_i, isN_n, isN_i, isN_l, notN_n, notN_i, len_l, len_t, tru_l, tru_t, tru_b, tup_l, lst_l, lst_t, any_l, all_l, min_i, max_i, oIx_l, oIx_t, oIx_c0, oIx_c1, oIx_c2, limV,
  nup1, nup_le, nup_lt, nup_eq, ← Int.natCast_add,
  posts_some, postg_some, end_rt, end_nx, lp_nx, lp_ct, lp_bk, lp_rt, lp_er, sqq_nx, sqq_rt, sqq_er, sqq_bk, sqq_ct, wO_some, app_w, put_w, frz_o, frzK_some, nlit_le, nlit_lt, nlit_ge, nlit_gt, nlit_eq, nge0, in_tf, all_true, lenset_n, nm4, nm3, nm2, nd4, nd2, eq_n, le_n, eSt, eMv, eM, eGl, eq_bv, ne_nlb, ne_blb, 
  Option.map_some, Option.map_none, Option.bind_some, fin_nx, fin_rt, fin_er, List.length_cons, List.length_nil, List.length_map, List.length_append, List.length_range, List.set_cons_zero, List.set_cons_succ, ↓reduceIte, Nat.zero_add, Nat.add_zero, Nat.zero_le, Nat.reduceAdd, Nat.reduceLeDiff, Nat.reduceEqDiff, Int.reduceLT, Int.reduceNeg, Int.reducePow, Option.isNone_none, Option.isNone_some, Option.isSome_none, Option.isSome_some, decide_eq_true_eq, decide_true, decide_false, Bool.not_true, Bool.not_false, Bool.false_eq_true, eq_self, and_self, true_and, and_true, Bool.true_xor, Bool.false_xor])
local macro_rules | `(tactic| walk_at "evh") => `(tactic| simp only [*, ofE_err, bnd_err, ofE_ok, ofE_ok', bnd_ok, bnd_ok', sSeq_ev, sq_nx, sq_rt, sq_er, sq_bk, sq_ct, sIf_ev, sRet_ev, sDrop_ev, sSkip_ev, sRetN_ev, sRaise_ev, sFor_ev, eC_ev, e2_ev, e1_ev, eFn_ev, eCall_ev, aCons_ev, aNil_ev, nNew_ev, eTup_ev, eLst_ev, eIf_ev, eNew_ev, tTru_ev, tNot_ev, tAnd_ev, tOr_ev, tYes_ev, nLc_ev, wipe0, wipeS, tix_ev, set_ev, asg_ev, setO_ev, v0, vS, o0, o0', oS, g0, gS, own0, ownS, setAt0, setAtS, e3_ev, and_ev, or_ev, not_ev, val_ev, asB_b, iSeq_ev, seqOf_l, seqOf_t, iR1_ev, nRng_ev, gT_ev, gs_c, gs_n,
  add_i, sub_i, div_i, mod_i, mul_l, mul_r, neg_i, cmp_i, lt_i, eq_i, ne_i, isN_n, isN_i, isN_l, notN_n, notN_i, len_l, len_t, tru_l, tru_t, tru_b, tup_l, lst_l, lst_t, any_l, all_l, min_i, max_i, oIx_l, oIx_t, oIx_c0, oIx_c1, oIx_c2, limV,
  nup1, nup_le, nup_lt, nup_eq, ← Int.natCast_add,
  posts_some, postg_some, end_rt, end_nx, lp_nx, lp_ct, lp_bk, lp_rt, lp_er, sqq_nx, sqq_rt, sqq_er, sqq_bk, sqq_ct, wO_some, app_w, put_w, frz_o, frzK_some, nlit_le, nlit_lt, nlit_ge, nlit_gt, nlit_eq, nge0, in_tf, all_true, lenset_n, nm4, nm3, nm2, nd4, nd2, eq_n, le_n, eSt, eMv, eM, eGl, eq_bv, ne_nlb, ne_blb, 
  Option.map_some, Option.map_none, Option.bind_some, fin_nx, fin_rt, fin_er, List.length_cons, List.length_nil, List.length_map, List.length_append, List.length_range, List.set_cons_zero, List.set_cons_succ, ↓reduceIte, Nat.zero_add, Nat.add_zero, Nat.zero_le, Nat.reduceAdd, Nat.reduceLeDiff, Nat.reduceEqDiff, Int.reduceLT, Int.reduceNeg, Int.reducePow, Option.isNone_none, Option.isNone_some, Option.isSome_none, Option.isSome_some, decide_eq_true_eq, decide_true, decide_false, Bool.not_true, Bool.not_false, Bool.false_eq_true, eq_self, and_self, true_and, and_true, Bool.true_xor, Bool.false_xor])
def cnv (M : Mach) (L : List Bool) (k : Nat) : Bool := L.getD k false || (gls (stA M k)).any (fun g => L.getD g false)
def cly (M : Mach) (w : Bool) : Nat → List Bool
  | 0 => M.map fun s => decide (s.1 = w)
  | f + 1 => (List.range M.length).map (cnv M (cly M w f))
theorem cly_len (M : Mach) (w : Bool) : ∀ f, (cly M w f).length = M.length
  | 0 => by rw [cly, List.length_map]
  | f + 1 => by rw [cly, List.length_map, List.length_range]
theorem cly_get {M : Mach} {w : Bool} {f k : Nat} (hk : k < M.length) : (cly M w (f + 1))[k]? = some (cnv M (cly M w f) k) := by
  rw [cly, List.getElem?_map, List.getElem?_range hk]; rfl
theorem cly_up {M : Mach} {w : Bool} {f k : Nat} (h : (cly M w f)[k]? = some true) : (cly M w (f + 1))[k]? = some true := by
  obtain ⟨hl, _⟩ := List.getElem?_eq_some_iff.mp h
  rw [cly_len] at hl
  rw [cly_get hl, cnv, List.getD_eq_getElem?_getD, h]
  rfl
theorem cly_ups {M : Mach} {w : Bool} {k : Nat} : ∀ {f : Nat}, (cly M w 0)[k]? = some true → (cly M w f)[k]? = some true
  | 0, h => h
  | f + 1, h => cly_up (cly_ups h)
theorem cly_snd {M : Mach} {w : Bool} : ∀ {f k : Nat}, (cly M w f)[k]? = some true → ∃ x, RS M k x ∧ x < M.length ∧ (stA M x).1 = w
  | 0, k, h => by
    obtain ⟨hl, e⟩ := List.getElem?_eq_some_iff.mp h
    have hl' : k < M.length := by rw [cly_len] at hl; exact hl
    refine ⟨k, RS.self, hl', ?_⟩
    rw [cly, List.getElem?_map, (stA_mem hl').2.1] at h
    exact of_decide_eq_true (Option.some.inj h)
  | f + 1, k, h => by
    obtain ⟨hl, _⟩ := List.getElem?_eq_some_iff.mp h
    rw [cly_len] at hl
    rw [cly_get hl, cnv] at h
    have h := Option.some.inj h
    rw [Bool.or_eq_true] at h
    rcases h with h | h
    · refine cly_snd (f := f) ?_
      rw [List.getElem?_eq_getElem (by rw [cly_len]; exact hl)]
      rw [List.getD_eq_getElem?_getD, List.getElem?_eq_getElem (by rw [cly_len]; exact hl)] at h
      exact congrArg some h
    · rw [List.any_eq_true] at h
      obtain ⟨g, hg, h⟩ := h
      have : (cly M w f)[g]? = some true := by
        rw [List.getD_eq_getElem?_getD] at h
        cases e : (cly M w f)[g]? with
        | none => rw [e] at h; cases h
        | some b => rw [e] at h; exact congrArg some h
      obtain ⟨x, h1, h2, h3⟩ := cly_snd this
      exact ⟨x, h1.front hl hg, h2, h3⟩
theorem cly_cpl {M : Mach} (V : Valid M) {w : Bool} {f : Nat} (h : cly M w f = cly M w (f + 1)) {k x : Nat} (hk : k < M.length) (hx : RS M k x) (e : (stA M x).1 = w) : (cly M w f)[k]? = some true := by
  refine Classical.byContradiction fun n => ?_
  have hxl := hx.lt V hk
  have := hx (fun y => ¬ (cly M w f)[y]? = some true) n fun y hy hyl g hg hgt => hy (by
    rw [h, cly_get hyl, cnv]
    congr 1
    rw [Bool.or_eq_true]
    right
    rw [List.any_eq_true]
    exact ⟨g, hg, by rw [List.getD_eq_getElem?_getD, hgt]; rfl⟩)
  apply this
  apply cly_ups
  rw [cly, List.getElem?_map, (stA_mem hxl).2.1]
  show some (decide _) = _
  rw [decide_eq_true e]
def mixb {a : Type} (A B : List a) (k : Nat) : List a := A.take k ++ B.drop k
theorem mixb_set {a : Type} {A B : List a} {k : Nat} (hA : k < A.length) (hB : k < B.length) : (mixb A B k).set k (A[k]) = mixb A B (k + 1) := by
  unfold mixb
  rw [List.set_append, if_neg (by rw [List.length_take]; omega), List.length_take, Nat.min_eq_left (by omega), Nat.sub_self, List.drop_eq_getElem_cons hB, List.set_cons_zero, List.take_succ_eq_append_getElem hA, List.append_assoc]
  rfl
theorem mixb_len {a : Type} {A B : List a} {k : Nat} (h : A.length = B.length) (hk : k ≤ B.length) : (mixb A B k).length = B.length := by
  unfold mixb
  rw [List.length_append, List.length_take, List.length_drop]; omega
def bfc (M : Mach) (w : Bool) : Nat → PyData
  | 0 => .none
  | f + 1 => .list ((cly M w f).map .bool)
def nfl (L : List Bool) : Nat := L.countP (!·)
theorem nfl_rel : ∀ (A B : List Bool), A.length = B.length → (∀ k : Nat, A[k]? = some true → B[k]? = some true) → nfl B ≤ nfl A ∧ (A ≠ B → nfl B < nfl A)
  | [], [], _, _ => ⟨Nat.le_refl _, fun h => absurd rfl h⟩
  | [], _ :: _, h, _ => by cases h
  | _ :: _, [], h, _ => by cases h
  | x :: A, y :: B, hl, h => by
    rw [List.length_cons, List.length_cons] at hl
    have ih := nfl_rel A B (by omega) fun k hu => h (k + 1) hu
    have h0 := h 0
    unfold nfl at ih ⊢
    rw [List.countP_cons, List.countP_cons]
    cases x <;> cases y
    · refine ⟨by simpa using ih.1, fun hne => ?_⟩
      have : A ≠ B := fun e => hne (by rw [e])
      simpa using ih.2 this
    · refine ⟨by simp; omega, fun hne => by simp; omega⟩
    · cases h0 rfl
    · refine ⟨by simpa using ih.1, fun hne => ?_⟩
      have : A ≠ B := fun e => hne (by rw [e])
      simpa using ih.2 this
theorem cly_lt {M : Mach} {w : Bool} {f : Nat} (h : cly M w f ≠ cly M w (f + 1)) : nfl (cly M w (f + 1)) < nfl (cly M w f) :=
  (nfl_rel _ _ (by rw [cly_len, cly_len]) fun _ => cly_up).2 h
def mec (M : Mach) (w : Bool) : Nat → Nat
  | 0 => M.length + 2
  | f + 1 => nfl (cly M w f) + 1
def goC (M : Mach) (w : Bool) : Nat → Bool
  | 0 => true
  | f + 1 => !decide (cly M w f = cly M w (f + 1))
theorem can_come_is (M : Mach) (h : Valid M) (w : Bool) : ∃ f, cly M w f = cly M w (f + 1) ∧ m_can_come [eM M, .bool w] = ok (.list ((cly M w f).map .bool)) := by
  have key : Post (fun d => ∃ f, cly M w f = cly M w (f + 1) ∧ d = .list ((cly M w f).map .bool)) (m_can_come [eM M, .bool w]) := by
    refine post_run (by rfl) ?_
    walk_at "in"
    rw [b_can_come]
    have h2 := h.le
    have h3 : M.length ≤ 1000000 := by omega
    have h4 := goals_is M h
    rw [eM] at h4
    have hr := rng1_n (n := M.length) (by omega)
    walk_at "evh"
    rw [lc_allG (enc := eSt) (fun s => .bool (decide (s.1 = w))) M h3 fun s hs => by
      walk_at "ev"]
    walk_at "ev"
    have hne : ∀ (f : Nat), oNe (bfc M w f) (.list ((cly M w f).map .bool)) = ok (.bool (goC M w f)) := fun f => by
      cases f with
      | zero => exact ne_nlb
      | succ f => exact ne_blb
    refine posts_sq (posts_while (fun n r => ∃ (f : Nat) (j4 j6 j7 : Option B), Eqn n (mec M w f) ∧ r = [some (.d (.list (M.map eSt))), some (.d (.bool w)), some (.d (.list (M.map eGl))), some (.own ((cly M w f).map .bool)), j4, some (.d (bfc M w f)), j6, j7]) (M.length + 2) ?_ (by omega) ?_)
    · exact ⟨0, none, none, none, Eqn.rf, by rw [cly, List.map_map]; rfl⟩
    · rintro n r ⟨f, j4, j6, j7, hn, rfl⟩
      refine ⟨goC M w f, ?_, ?_⟩
      · walk_at "ev"
        rw [hne]
        walk_at "ev"
      · by_cases hk : goC M w f = true
        · rw [if_pos hk]
          walk_at "evh"
          have hll := cly_len M w f
          have hln := cly_len M w (f + 1)
          refine posts_for (fun i r => ∃ (j6 j7 : Option B), r = [some (.d (.list (M.map eSt))), some (.d (.bool w)), some (.d (.list (M.map eGl))), some (.own ((mixb (cly M w (f + 1)) (cly M w f) i).map .bool)), j4, some (.d (.list ((cly M w f).map .bool))), j6, j7]) ?_ ?_ ?_
          · exact ⟨_, _, rfl⟩
          · rintro i x r hx ⟨j6, j7, rfl⟩
            obtain ⟨k, hy, rfl⟩ := getq_map hx
            obtain ⟨rfl, hkl⟩ := getq_range hy
            have hA : k < (cly M w (f + 1)).length := by omega
            have hB : k < (cly M w f).length := by omega
            have hgD : (cly M w f).getD k false = (cly M w f)[k] := by rw [List.getD_eq_getElem?_getD, List.getElem?_eq_getElem hB]; rfl
            have h5 : oIx (.list ((cly M w f).map .bool)) (cN k) = ok (.bool ((cly M w f).getD k false)) := by rw [hgD]; exact oIx_list PyData.bool _ _ _ (List.getElem?_eq_getElem hB)
            have h6 : oIx (.list (M.map eGl)) (cN k) = ok (eGl (stA M k)) := oIx_list eGl _ _ _ (stA_mem hkl).2.1
            have hv : (cly M w (f + 1))[k] = cnv M (cly M w f) k := by
              have := cly_get (M := M) (w := w) (f := f) hkl
              rw [List.getElem?_eq_getElem hA] at this
              exact Option.some.inj this
            have hmx : k < (mixb (cly M w (f + 1)) (cly M w f) k).length := by rw [mixb_len (by omega) (by omega)]; omega
            have hix := ixD_n hmx
            have hgl : (gls (stA M k)).length ≤ 1000000 := by
              have h7 := (h.each _ (stA_mem hkl).1).moves
              have h8 := (h.each _ (stA_mem hkl).1).boxes
              rw [gls, List.length_map]; omega
            have hgm := h.goalsI k hkl
            walk_at "ev"
            rw [h5]
            walk_at "ev"
            cases hb : (cly M w f).getD k false with
            | true =>
              walk_at "ev"
              rw [hix]
              walk_at "ev"
              have hv2 : (cly M w (f + 1))[k] = true := by rw [hv, cnv, hb]; rfl
              exact ⟨_, _, by rw [← mixb_set hA hB, hv2, List.map_set]⟩
            | false =>
              walk_at "ev"
              rw [h6]
              walk_at "ev"
              rw [lc_allG (enc := cN) (fun g => .bool ((cly M w f).getD g false)) _ hgl fun g hg => by
                have hgk : g < (cly M w f).length := by have := hgm g hg; omega
                have h9 : oIx (.list ((cly M w f).map .bool)) (cN g) = ok (.bool ((cly M w f).getD g false)) := oIx_list PyData.bool _ _ _ (by rw [List.getD_eq_getElem?_getD, List.getElem?_eq_getElem hgk]; rfl)
                walk_at "ev"
                rw [h9]]
              walk_at "ev"
              rw [any_b]
              walk_at "ev"
              rw [hix]
              walk_at "ev"
              have hv2 : (cly M w (f + 1))[k] = (gls (stA M k)).any fun g => (cly M w f).getD g false := by rw [hv, cnv, hb, Bool.false_or]
              exact ⟨_, _, by rw [← mixb_set hA hB, hv2, List.map_set]⟩
          · rintro r ⟨j6, j7, rfl⟩
            walk_at "ev"
            have hmf : mixb (cly M w (f + 1)) (cly M w f) M.length = cly M w (f + 1) := by
              unfold mixb
              rw [List.take_of_length_le (by omega), List.drop_of_length_le (by omega), List.append_nil]
            refine ⟨mec M w (f + 1), ?_, f + 1, _, _, _, Eqn.rf, by rw [hmf]; rfl⟩
            have hn' := hn.le
            cases f with
            | zero =>
              have : nfl (cly M w 0) ≤ (cly M w 0).length := List.countP_le_length
              rw [cly_len] at this
              simp only [mec] at hn' ⊢
              omega
            | succ f =>
              have hk' : cly M w f ≠ cly M w (f + 1) := by simpa [goC] using hk
              have := cly_lt hk'
              simp only [mec] at hn' ⊢
              omega
        · rw [if_neg hk]
          cases f with
          | zero => exact absurd rfl hk
          | succ f =>
            have hk' : cly M w f = cly M w (f + 1) := by simpa [goC] using hk
            walk_at "ev"
            exact ⟨f, hk', by rw [hk']⟩
  obtain ⟨d, e, f, q, rfl⟩ := key
  exact ⟨f, q, e⟩
end WK

set_option Elab.async false
set_option linter.all false
set_option maxHeartbeats 4000000
set_option maxRecDepth 100000
noncomputable section
namespace WK
open PySem DL L2

local macro_rules | `(tactic| walk_at "ev") => `(tactic| simp only [ofE_err, bnd_err, ofE_ok, ofE_ok', bnd_ok, bnd_ok', sSeq_ev, sq_nx, sq_rt, sq_er, sq_bk, sq_ct, sIf_ev, sRet_ev, sDrop_ev, sSkip_ev, sRetN_ev, sRaise_ev, sFor_ev, eC_ev, e2_ev, e1_ev, eFn_ev, eCall_ev, aCons_ev, aNil_ev, nNew_ev, eTup_ev, eLst_ev, eIf_ev, eNew_ev, tTru_ev, tNot_ev, tAnd_ev, tOr_ev, tYes_ev, nLc_ev, wipe0, wipeS, tix_ev, set_ev, asg_ev, setO_ev, v0, vS, o0, o0', oS, g0, gS, own0, ownS, setAt0, setAtS, e3_ev, and_ev, or_ev, not_ev, val_ev, asB_b, iSeq_ev, seqOf_l, seqOf_t, iR1_ev, nRng_ev, gT_ev, gs_c, gs_n,
  add_i, sub_i, div_i, mod_i, mul_l, mul_r, neg_i, cmp_i, lt_i, eq_i, ne_i, isN_n, isN_i, isN_l, notN_n, notN_i, len_l, len_t, tru_l, tru_t, tru_b, tup_l, lst_l, lst_t, any_l, all_l, min_i, max_i, oIx_l, oIx_t, oIx_c0, oIx_c1, oIx_c2, limV,
  nup1, nup_le, nup_lt, nup_eq, ← Int.natCast_add,
  posts_some, postg_some, end_rt, end_nx, lp_nx, lp_ct, lp_bk, lp_rt, lp_er, sqq_nx, sqq_rt, sqq_er, sqq_bk, sqq_ct, wO_some, app_w, put_w, frz_o, frzK_some, nlit_le, nlit_lt, nlit_ge, nlit_gt, nlit_eq, nge0, in_tf, all_true, lenset_n, nm4, nm3, nm2, nd4, nd2, eq_n, le_n, 
  Option.map_some, Option.map_none, Option.bind_some, fin_nx, fin_rt, fin_er, List.length_cons, List.length_nil, List.length_map, List.length_append, List.length_range, List.set_cons_zero, List.set_cons_succ, ↓reduceIte, Nat.zero_add, Nat.add_zero, Nat.zero_le, Nat.reduceAdd, Nat.reduceLeDiff, Nat.reduceEqDiff, Int.reduceLT, Int.reduceNeg, Int.reducePow, Option.isNone_none, Option.isNone_some, Option.isSome_none, Option.isSome_some, decide_eq_true_eq, decide_true, decide_false, Bool.not_true, Bool.not_false, Bool.false_eq_true, eq_self, and_self, true_and, and_true, Bool.true_xor, Bool.false_xor])
local macro_rules | `(tactic| walk_at "in") => `(tactic| simp only [rho0, List.map_cons, List.map_nil, List.cons_append, List.nil_append, List.length_cons, List.length_nil, Nat.reduceAdd, Nat.reduceSub, Nat.zero_add, Nat.sub_self, rep0, repS])
local macro_rules | `(tactic| walk_at "evo") => `(tactic| simp (disch := (first | omega | (simp only [List.length_map, List.length_append, List.length_cons, List.length_nil, List.length_range, List.length_set, List.length_replicate]; omega))) only [addT6, addL6, rng1_n, rngO_n, mod_n, ofE_err, bnd_err, ofE_ok, ofE_ok', bnd_ok, bnd_ok', sSeq_ev, sq_nx, sq_rt, sq_er, sq_bk, sq_ct, sIf_ev, sRet_ev, sDrop_ev, sSkip_ev, sRetN_ev, sRaise_ev, sFor_ev, eC_ev, e2_ev, e1_ev, eFn_ev, eCall_ev, aCons_ev, aNil_ev, nNew_ev, eTup_ev, eLst_ev, eIf_ev, eNew_ev, tTru_ev, tNot_ev, tAnd_ev, tOr_ev, tYes_ev, nLc_ev, wipe0, wipeS, tix_ev, set_ev, asg_ev, setO_ev, v0, vS, o0, o0', oS, g0, gS, own0, ownS, setAt0, setAtS, e3_ev, and_ev, or_ev, not_ev, val_ev, asB_b, iSeq_ev, seqOf_l, seqOf_t, iR1_ev, nRng_ev, gT_ev, gs_c, gs_n,
  add_i, sub_i, div_i, mod_i, mul_l, mul_r, neg_i, cmp_i, lt_i, eq_i, ne_i, isN_n, isN_i, isN_l, notN_n, notN_i, len_l, len_t, tru_l, tru_t, tru_b, tup_l, lst_l, lst_t, any_l, all_l, min_i, max_i, oIx_l, oIx_t, oIx_c0, oIx_c1, oIx_c2, limV,
  nup1, nup_le, nup_lt, nup_eq, ← Int.natCast_add,
  posts_some, postg_some, end_rt, end_nx, lp_nx, lp_ct, lp_bk, lp_rt, lp_er, sqq_nx, sqq_rt, sqq_er, sqq_bk, sqq_ct, wO_some, app_w, put_w, frz_o, frzK_some, nlit_le, nlit_lt, nlit_ge, nlit_gt, nlit_eq, nge0, in_tf, all_true, lenset_n, nm4, nm3, nm2, nd4, nd2, eq_n, le_n, 
  Option.map_some, Option.map_none, Option.bind_some, fin_nx, fin_rt, fin_er, List.length_cons, List.length_nil, List.length_map, List.length_append, List.length_range, List.set_cons_zero, List.set_cons_succ, ↓reduceIte, Nat.zero_add, Nat.add_zero, Nat.zero_le, Nat.reduceAdd, Nat.reduceLeDiff, Nat.reduceEqDiff, Int.reduceLT, Int.reduceNeg, Int.reducePow, Option.isNone_none, Option.isNone_some, Option.isSome_none, Option.isSome_some, decide_eq_true_eq, decide_true, decide_false, Bool.not_true, Bool.not_false, Bool.false_eq_true, eq_self, and_self, true_and, and_true, Bool.true_xor, Bool.false_xor])
local macro_rules | `(tactic| walk_at "evh") => `(tactic| simp only [*, ofE_err, bnd_err, ofE_ok, ofE_ok', bnd_ok, bnd_ok', sSeq_ev, sq_nx, sq_rt, sq_er, sq_bk, sq_ct, sIf_ev, sRet_ev, sDrop_ev, sSkip_ev, sRetN_ev, sRaise_ev, sFor_ev, eC_ev, e2_ev, e1_ev, eFn_ev, eCall_ev, aCons_ev, aNil_ev, nNew_ev, eTup_ev, eLst_ev, eIf_ev, eNew_ev, tTru_ev, tNot_ev, tAnd_ev, tOr_ev, tYes_ev, nLc_ev, wipe0, wipeS, tix_ev, set_ev, asg_ev, setO_ev, v0, vS, o0, o0', oS, g0, gS, own0, ownS, setAt0, setAtS, e3_ev, and_ev, or_ev, not_ev, val_ev, asB_b, iSeq_ev, seqOf_l, seqOf_t, iR1_ev, nRng_ev, gT_ev, gs_c, gs_n,
  add_i, sub_i, div_i, mod_i, mul_l, mul_r, neg_i, cmp_i, lt_i, eq_i, ne_i, isN_n, isN_i, isN_l, notN_n, notN_i, len_l, len_t, tru_l, tru_t, tru_b, tup_l, lst_l, lst_t, any_l, all_l, min_i, max_i, oIx_l, oIx_t, oIx_c0, oIx_c1, oIx_c2, limV,
  nup1, nup_le, nup_lt, nup_eq, ← Int.natCast_add,
  posts_some, postg_some, end_rt, end_nx, lp_nx, lp_ct, lp_bk, lp_rt, lp_er, sqq_nx, sqq_rt, sqq_er, sqq_bk, sqq_ct, wO_some, app_w, put_w, frz_o, frzK_some, nlit_le, nlit_lt, nlit_ge, nlit_gt, nlit_eq, nge0, in_tf, all_true, lenset_n, nm4, nm3, nm2, nd4, nd2, eq_n, le_n, 
  Option.map_some, Option.map_none, Option.bind_some, fin_nx, fin_rt, fin_er, List.length_cons, List.length_nil, List.length_map, List.length_append, List.length_range, List.set_cons_zero, List.set_cons_succ, ↓reduceIte, Nat.zero_add, Nat.add_zero, Nat.zero_le, Nat.reduceAdd, Nat.reduceLeDiff, Nat.reduceEqDiff, Int.reduceLT, Int.reduceNeg, Int.reducePow, Option.isNone_none, Option.isNone_some, Option.isSome_none, Option.isSome_some, decide_eq_true_eq, decide_true, decide_false, Bool.not_true, Bool.not_false, Bool.false_eq_true, eq_self, and_self, true_and, and_true, Bool.true_xor, Bool.false_xor])
/-- a watcher's attributes -/
def W4 (M : Mach) (cb cf : List Bool) (q : ICfg) : List (Str × PyData) := [("machine", eM M), ("can_be", .list (cb.map .bool)), ("can_fail", .list (cf.map .bool)), ("here", eIC q)]
def atO (fs : List (Str × PyData)) (n : Str) : M PyData := match fs.lookup n with | some d => ok d | none => none
theorem atf0 {fs : List (Str × PyData)} {n : Str} {r : Rho} : eAttr 0 n (some (.obf fs) :: r) = atO fs n := rfl
theorem ato0 {fs : List (Str × PyData)} {n : Str} {r : Rho} : eAttr 0 n (some (.obj fs) :: r) = atO fs n := rfl
theorem s_mb : (("machine" : Str) == ("can_be" : Str)) = false := by decide +kernel
theorem s_mf : (("machine" : Str) == ("can_fail" : Str)) = false := by decide +kernel
theorem s_mh : (("machine" : Str) == ("here" : Str)) = false := by decide +kernel
theorem s_bm : (("can_be" : Str) == ("machine" : Str)) = false := by decide +kernel
theorem s_bf : (("can_be" : Str) == ("can_fail" : Str)) = false := by decide +kernel
theorem s_bh : (("can_be" : Str) == ("here" : Str)) = false := by decide +kernel
theorem s_fm : (("can_fail" : Str) == ("machine" : Str)) = false := by decide +kernel
theorem s_fb : (("can_fail" : Str) == ("can_be" : Str)) = false := by decide +kernel
theorem s_fh : (("can_fail" : Str) == ("here" : Str)) = false := by decide +kernel
theorem s_hm : (("here" : Str) == ("machine" : Str)) = false := by decide +kernel
theorem s_hb : (("here" : Str) == ("can_be" : Str)) = false := by decide +kernel
theorem s_hf : (("here" : Str) == ("can_fail" : Str)) = false := by decide +kernel
theorem s_tm : (("told" : Str) == ("machine" : Str)) = false := by decide +kernel
theorem s_tb : (("told" : Str) == ("can_be" : Str)) = false := by decide +kernel
theorem s_tf : (("told" : Str) == ("can_fail" : Str)) = false := by decide +kernel
theorem s_th : (("told" : Str) == ("here" : Str)) = false := by decide +kernel
theorem s_km : (("kept" : Str) == ("machine" : Str)) = false := by decide +kernel
theorem s_kb : (("kept" : Str) == ("can_be" : Str)) = false := by decide +kernel
theorem s_kf : (("kept" : Str) == ("can_fail" : Str)) = false := by decide +kernel
theorem s_kh : (("kept" : Str) == ("here" : Str)) = false := by decide +kernel
theorem s_cm : (("come" : Str) == ("machine" : Str)) = false := by decide +kernel
theorem s_cb : (("come" : Str) == ("can_be" : Str)) = false := by decide +kernel
theorem s_cf : (("come" : Str) == ("can_fail" : Str)) = false := by decide +kernel
theorem s_ch : (("come" : Str) == ("here" : Str)) = false := by decide +kernel
section
variable {M : Mach} {cb cf : List Bool} {q : ICfg}
theorem at_m : atO (W4 M cb cf q) "machine" = ok (eM M) := by unfold atO W4; simp only [List.lookup, beq_self_eq_true]
theorem at_b : atO (W4 M cb cf q) "can_be" = ok (.list (cb.map .bool)) := by unfold atO W4; simp only [List.lookup, s_bm, beq_self_eq_true]
theorem at_f : atO (W4 M cb cf q) "can_fail" = ok (.list (cf.map .bool)) := by unfold atO W4; simp only [List.lookup, s_fm, s_fb, beq_self_eq_true]
theorem at_h : atO (W4 M cb cf q) "here" = ok (eIC q) := by unfold atO W4; simp only [List.lookup, s_hm, s_hb, s_hf, beq_self_eq_true]
theorem lk_h : (W4 M cb cf q).lookup ("here" : Str) = some (eIC q) := by unfold W4; simp only [List.lookup, s_hm, s_hb, s_hf, beq_self_eq_true]
theorem lk_t : (W4 M cb cf q).lookup ("told" : Str) = none := by unfold W4; simp only [List.lookup, s_tm, s_tb, s_tf, s_th]
theorem lk_k : (W4 M cb cf q).lookup ("kept" : Str) = none := by unfold W4; simp only [List.lookup, s_km, s_kb, s_kf, s_kh]
theorem lk_c : (W4 M cb cf q).lookup ("come" : Str) = none := by unfold W4; simp only [List.lookup, s_cm, s_cb, s_cf, s_ch]
end
theorem sb {x y : Str} (h : (x == y) = false) : ¬ x = y := fun e => by subst e; simp at h
theorem put_h {M : Mach} {cb cf : List Bool} {q q' : ICfg} : putP "here" (eIC q') (W4 M cb cf q) = W4 M cb cf q' := by
  have e1 : ¬ ("machine" : Str) = "here" := sb s_mh
  have e2 : ¬ ("can_be" : Str) = "here" := sb s_bh
  have e3 : ¬ ("can_fail" : Str) = "here" := sb s_fh
  unfold W4
  simp only [putP, if_neg e1, if_neg e2, if_neg e3, if_pos]
theorem put1 {M : Mach} {d : PyData} : putP "can_be" d [("machine", eM M)] = ([("machine", eM M), ("can_be", d)] : List (Str × PyData)) := by
  have e1 : ¬ ("machine" : Str) = "can_be" := sb s_mb
  simp only [putP, if_neg e1]
theorem put2 {M : Mach} {d e : PyData} : putP "can_fail" d [("machine", eM M), ("can_be", e)] = ([("machine", eM M), ("can_be", e), ("can_fail", d)] : List (Str × PyData)) := by
  have e1 : ¬ ("machine" : Str) = "can_fail" := sb s_mf
  have e2 : ¬ ("can_be" : Str) = "can_fail" := sb s_bf
  simp only [putP, if_neg e1, if_neg e2]
theorem put3 {M : Mach} {d e f : PyData} : putP "here" f [("machine", eM M), ("can_be", e), ("can_fail", d)] = ([("machine", eM M), ("can_be", e), ("can_fail", d), ("here", f)] : List (Str × PyData)) := by
  have e1 : ¬ ("machine" : Str) = "here" := sb s_mh
  have e2 : ¬ ("can_be" : Str) = "here" := sb s_bh
  have e3 : ¬ ("can_fail" : Str) = "here" := sb s_fh
  simp only [putP, if_neg e1, if_neg e2, if_neg e3]
def only0 (r : Rho) : Bool := r.all fun b => match b with
  | some (.obj _) => false
  | _ => true
theorem sattr_ev {n : Str} {f : Ef} {fs : List (Str × PyData)} {r : Rho} {d : PyData} (h : f (some (.obj fs) :: r) = ok d) (ho : onlyO (some (.obj fs) :: r) 0 = true) (hl : fs.length < 1000) : sAttr 0 n f (some (.obj fs) :: r) = some (.nx (some (.obj (putP n d fs)) :: r)) := by
  unfold sAttr
  simp only [List.getElem?_cons_zero]
  rw [if_pos ⟨ho, hl⟩, h]
  rfl
theorem init_is {M : Mach} (V : Valid M) {cb cf : List Bool} (hb : m_can_come [eM M, .bool true] = ok (.list (cb.map .bool))) (hf : m_can_come [eM M, .bool false] = ok (.list (cf.map .bool))) : m_W___init__ (M.map eSt) = ok (W4 M cb cf (0, [])) := by
  have hle := V.le
  have hlk := look_is M V
  have a1 : atO [("machine", eM M)] "machine" = ok (eM M) := by unfold atO; simp only [List.lookup, beq_self_eq_true]
  have a2 : ∀ d, atO [("machine", eM M), ("can_be", d)] "machine" = ok (eM M) := fun d => by unfold atO; simp only [List.lookup, beq_self_eq_true]
  unfold m_W___init__ runInit
  rw [if_pos (by rw [List.length_map, lim_is]; omega)]
  rw [show PyData.list (M.map eSt) = eM M from rfl, hlk, bnd_ok]
  have e1 : b_W___init__ (some (B.obj [("machine", eM M)]) :: List.replicate 4 none) = some (.nx (some (B.obj (W4 M cb cf (0, []))) :: List.replicate 4 none)) := by
    unfold b_W___init__ sSeq
    rw [sattr_ev (d := .list (cb.map .bool)) (by simp only [eFn_ev, aCons_ev, aNil_ev, ato0, a1, eC_ev, bnd_ok, hb]) rfl (by simp)]
    simp only
    rw [put1, sattr_ev (d := .list (cf.map .bool)) (by simp only [eFn_ev, aCons_ev, aNil_ev, ato0, a2, eC_ev, bnd_ok, hf]) rfl (by simp)]
    simp only
    rw [put2, sattr_ev (d := eIC (0, [])) (by walk_at "ev"; rfl) rfl (by simp), put3]
    rfl
  rw [show (5 - 1) = 4 from rfl, e1]
  rfl
end WK

set_option Elab.async false
set_option linter.all false
set_option maxHeartbeats 4000000
set_option maxRecDepth 100000
noncomputable section
namespace WK
open PySem DL L2

local macro_rules | `(tactic| walk_at "ev") => `(tactic| simp only [ofE_err, bnd_err, ofE_ok, ofE_ok', bnd_ok, bnd_ok', sSeq_ev, sq_nx, sq_rt, sq_er, sq_bk, sq_ct, sIf_ev, sRet_ev, sDrop_ev, sSkip_ev, sRetN_ev, sRaise_ev, sFor_ev, eC_ev, e2_ev, e1_ev, eFn_ev, eCall_ev, aCons_ev, aNil_ev, nNew_ev, eTup_ev, eLst_ev, eIf_ev, eNew_ev, tTru_ev, tNot_ev, tAnd_ev, tOr_ev, tYes_ev, nLc_ev, wipe0, wipeS, tix_ev, set_ev, asg_ev, setO_ev, v0, vS, o0, o0', oS, g0, gS, own0, ownS, setAt0, setAtS, e3_ev, and_ev, or_ev, not_ev, val_ev, asB_b, iSeq_ev, seqOf_l, seqOf_t, iR1_ev, nRng_ev, gT_ev, gs_c, gs_n,
  add_i, sub_i, div_i, mod_i, mul_l, mul_r, neg_i, cmp_i, lt_i, eq_i, ne_i, isN_n, isN_i, isN_l, notN_n, notN_i, len_l, len_t, tru_l, tru_t, tru_b, tup_l, lst_l, lst_t, any_l, all_l, min_i, max_i, oIx_l, oIx_t, oIx_c0, oIx_c1, oIx_c2, limV,
  nup1, nup_le, nup_lt, nup_eq, ← Int.natCast_add,
  posts_some, postg_some, end_rt, end_nx, lp_nx, lp_ct, lp_bk, lp_rt, lp_er, sqq_nx, sqq_rt, sqq_er, sqq_bk, sqq_ct, wO_some, app_w, put_w, frz_o, frzK_some, nlit_le, nlit_lt, nlit_ge, nlit_gt, nlit_eq, nge0, in_tf, all_true, lenset_n, nm4, nm3, nm2, nd4, nd2, eq_n, le_n, eSt, eMv, eM, eIC, atf0, ato0, at_m, at_b, at_f, at_h, 
  Option.map_some, Option.map_none, Option.bind_some, fin_nx, fin_rt, fin_er, List.length_cons, List.length_nil, List.length_map, List.length_append, List.length_range, List.set_cons_zero, List.set_cons_succ, ↓reduceIte, Nat.zero_add, Nat.add_zero, Nat.zero_le, Nat.reduceAdd, Nat.reduceLeDiff, Nat.reduceEqDiff, Int.reduceLT, Int.reduceNeg, Int.reducePow, Option.isNone_none, Option.isNone_some, Option.isSome_none, Option.isSome_some, decide_eq_true_eq, decide_true, decide_false, Bool.not_true, Bool.not_false, Bool.false_eq_true, eq_self, and_self, true_and, and_true, Bool.true_xor, Bool.false_xor])
local macro_rules | `(tactic| walk_at "in") => `(tactic| simp only [rho0, List.map_cons, List.map_nil, List.cons_append, List.nil_append, List.length_cons, List.length_nil, Nat.reduceAdd, Nat.reduceSub, Nat.zero_add, Nat.sub_self, rep0, repS])
local macro_rules | `(tactic| walk_at "evo") => `(tactic| simp (disch := (first | omega | (simp only [List.length_map, List.length_append, List.length_cons, List.length_nil, List.length_range, List.length_set, List.length_replicate]; omega))) only [addT6, addL6, rng1_n, rngO_n, mod_n, ofE_err, bnd_err, ofE_ok, ofE_ok', bnd_ok, bnd_ok', sSeq_ev, sq_nx, sq_rt, sq_er, sq_bk, sq_ct, sIf_ev, sRet_ev, sDrop_ev, sSkip_ev, sRetN_ev, sRaise_ev, sFor_ev, eC_ev, e2_ev, e1_ev, eFn_ev, eCall_ev, aCons_ev, aNil_ev, nNew_ev, eTup_ev, eLst_ev, eIf_ev, eNew_ev, tTru_ev, tNot_ev, tAnd_ev, tOr_ev, tYes_ev, nLc_ev, wipe0, wipeS, tix_ev, set_ev, asg_ev, setO_ev, v0, vS, o0, o0', oS, g0, gS, own0, ownS, setAt0, setAtS, e3_ev, and_ev, or_ev, not_ev, val_ev, asB_b, iSeq_ev, seqOf_l, seqOf_t, iR1_ev, nRng_ev, gT_ev, gs_c, gs_n,
  add_i, sub_i, div_i, mod_i, mul_l, mul_r, neg_i, cmp_i, lt_i, eq_i, ne_i, isN_n, isN_i, isN_l, notN_n, notN_i, len_l, len_t, tru_l, tru_t, tru_b, tup_l, lst_l, lst_t, any_l, all_l, min_i, max_i, oIx_l, oIx_t, oIx_c0, oIx_c1, oIx_c2, limV,
  nup1, nup_le, nup_lt, nup_eq, ← Int.natCast_add,
  posts_some, postg_some, end_rt, end_nx, lp_nx, lp_ct, lp_bk, lp_rt, lp_er, sqq_nx, sqq_rt, sqq_er, sqq_bk, sqq_ct, wO_some, app_w, put_w, frz_o, frzK_some, nlit_le, nlit_lt, nlit_ge, nlit_gt, nlit_eq, nge0, in_tf, all_true, lenset_n, nm4, nm3, nm2, nd4, nd2, eq_n, le_n, eSt, eMv, eM, eIC, atf0, ato0, at_m, at_b, at_f, at_h, 
  Option.map_some, Option.map_none, Option.bind_some, fin_nx, fin_rt, fin_er, List.length_cons, List.length_nil, List.length_map, List.length_append, List.length_range, List.set_cons_zero, List.set_cons_succ, ↓reduceIte, Nat.zero_add, Nat.add_zero, Nat.zero_le, Nat.reduceAdd, Nat.reduceLeDiff, Nat.reduceEqDiff, Int.reduceLT, Int.reduceNeg, Int.reducePow, Option.isNone_none, Option.isNone_some, Option.isSome_none, Option.isSome_some, decide_eq_true_eq, decide_true, decide_false, Bool.not_true, Bool.not_false, Bool.false_eq_true, eq_self, and_self, true_and, and_true, Bool.true_xor, Bool.false_xor])
local macro_rules | `(tactic| walk_at "evh") => `(tactic| simp only [*, ofE_err, bnd_err, ofE_ok, ofE_ok', bnd_ok, bnd_ok', sSeq_ev, sq_nx, sq_rt, sq_er, sq_bk, sq_ct, sIf_ev, sRet_ev, sDrop_ev, sSkip_ev, sRetN_ev, sRaise_ev, sFor_ev, eC_ev, e2_ev, e1_ev, eFn_ev, eCall_ev, aCons_ev, aNil_ev, nNew_ev, eTup_ev, eLst_ev, eIf_ev, eNew_ev, tTru_ev, tNot_ev, tAnd_ev, tOr_ev, tYes_ev, nLc_ev, wipe0, wipeS, tix_ev, set_ev, asg_ev, setO_ev, v0, vS, o0, o0', oS, g0, gS, own0, ownS, setAt0, setAtS, e3_ev, and_ev, or_ev, not_ev, val_ev, asB_b, iSeq_ev, seqOf_l, seqOf_t, iR1_ev, nRng_ev, gT_ev, gs_c, gs_n,
  add_i, sub_i, div_i, mod_i, mul_l, mul_r, neg_i, cmp_i, lt_i, eq_i, ne_i, isN_n, isN_i, isN_l, notN_n, notN_i, len_l, len_t, tru_l, tru_t, tru_b, tup_l, lst_l, lst_t, any_l, all_l, min_i, max_i, oIx_l, oIx_t, oIx_c0, oIx_c1, oIx_c2, limV,
  nup1, nup_le, nup_lt, nup_eq, ← Int.natCast_add,
  posts_some, postg_some, end_rt, end_nx, lp_nx, lp_ct, lp_bk, lp_rt, lp_er, sqq_nx, sqq_rt, sqq_er, sqq_bk, sqq_ct, wO_some, app_w, put_w, frz_o, frzK_some, nlit_le, nlit_lt, nlit_ge, nlit_gt, nlit_eq, nge0, in_tf, all_true, lenset_n, nm4, nm3, nm2, nd4, nd2, eq_n, le_n, eSt, eMv, eM, eIC, atf0, ato0, at_m, at_b, at_f, at_h, 
  Option.map_some, Option.map_none, Option.bind_some, fin_nx, fin_rt, fin_er, List.length_cons, List.length_nil, List.length_map, List.length_append, List.length_range, List.set_cons_zero, List.set_cons_succ, ↓reduceIte, Nat.zero_add, Nat.add_zero, Nat.zero_le, Nat.reduceAdd, Nat.reduceLeDiff, Nat.reduceEqDiff, Int.reduceLT, Int.reduceNeg, Int.reducePow, Option.isNone_none, Option.isNone_some, Option.isSome_none, Option.isSome_some, decide_eq_true_eq, decide_true, decide_false, Bool.not_true, Bool.not_false, Bool.false_eq_true, eq_self, and_self, true_and, and_true, Bool.true_xor, Bool.false_xor])
theorem post_runI {Q : PyData → Prop} {n : Nat} {b : Sf} {fs : List (Str × PyData)} (hb : PostS (EndQ Q) (b (some (B.obf fs) :: List.replicate (n - 1) none))) : Post Q (runI n b fs) := by
  obtain ⟨z, e, q⟩ := hb
  unfold runI
  rw [e]
  cases z with
  | nx r => exact ⟨_, rfl, q⟩
  | rt d => exact ⟨_, rfl, q⟩
  | bk r => exact q.elim
  | ct r => exact q.elim
  | er x r => exact q.elim
def tdv (M : Mach) (cb cf : List Bool) (k : Nat) : PyData := .tuple [.bool (stA M k).1, lt3 (!cf.getD k false) (cb.getD k false)]
theorem told_is {M : Mach} {cb cf : List Bool} {q : ICfg} (hq : q.1 < M.length) (hb : cb.length = M.length) (hf : cf.length = M.length) : m_W_told (W4 M cb cf q) = ok (tdv M cb cf q.1) := by
  have key : Post (fun d => d = tdv M cb cf q.1) (m_W_told (W4 M cb cf q)) := by
    refine post_runI ?_
    rw [show List.replicate (3 - 1) (none : Option B) = [none, none] from rfl, b_W_told]
    have h1 : oIx (.list (M.map eSt)) (cN q.1) = ok (eSt (stA M q.1)) := oIx_list eSt M q.1 _ (stA_mem hq).2.1
    have hcb : q.1 < cb.length := by omega
    have hcf : q.1 < cf.length := by omega
    have h2 : oIx (.list (cb.map .bool)) (cN q.1) = ok (.bool (cb.getD q.1 false)) := oIx_list PyData.bool _ _ _ (by rw [List.getD_eq_getElem?_getD, List.getElem?_eq_getElem hcb]; rfl)
    have h3 : oIx (.list (cf.map .bool)) (cN q.1) = ok (.bool (cf.getD q.1 false)) := oIx_list PyData.bool _ _ _ (by rw [List.getD_eq_getElem?_getD, List.getElem?_eq_getElem hcf]; rfl)
    walk_at "ev"
    rw [h3]
    walk_at "ev"
    unfold tdv
    cases e1 : cf.getD q.1 false with
    | false =>
      walk_at "ev"
      rw [h1]
      walk_at "ev"
      rfl
    | true =>
      walk_at "ev"
      rw [h2]
      walk_at "ev"
      cases e2 : cb.getD q.1 false with
      | false =>
        walk_at "ev"
        rw [h1]
        walk_at "ev"
        rfl
      | true =>
        walk_at "ev"
        rw [h1]
        walk_at "ev"
        rfl
  obtain ⟨d, e, rfl⟩ := key
  exact e
theorem come_is {M : Mach} (V : Valid M) {cb cf : List Bool} {q : ICfg} (hv : IVC M q) (hb : cb.length = M.length) (hf : cf.length = M.length) (a : Int) : m_W_come (W4 M cb cf q) (.int a) = some (W4 M cb cf (istep M q a), tdv M cb cf (istep M q a).1) := by
  have hs := stepped_isI V hv a
  have hv2 := hv.step V a
  have ht := told_is (cb := cb) (cf := cf) hv2.st hb hf
  unfold m_W_come runC
  rw [show List.replicate (2 - 2) (none : Option B) = [] from rfl]
  have e1 : f_W_come [some (B.obj (W4 M cb cf q)), some (.d (.int a))] = ok (eIC (istep M q a)) := by
    unfold f_W_come
    rw [eM, eIC] at hs
    walk_at "ev"
    rw [hs]
    rfl
  rw [e1]
  show (if (W4 M cb cf q).length < 1000 then _ else none) = _
  rw [if_pos (by simp [W4]), put_h]
  have e2 : g_W_come [some (B.obj (W4 M cb cf (istep M q a))), some (.d (.int a))] = ok (tdv M cb cf (istep M q a).1) := by
    unfold g_W_come eMeth
    simp only [List.getElem?_cons_zero]
    rw [if_pos lk_t, ht]
    rfl
  rw [e2]
  rfl
theorem held_W {M : Mach} {cb cf : List Bool} {q : ICfg} : heldOf (W4 M cb cf q) = some q.2 := by
  unfold heldOf
  rw [lk_h]
  show intsOf (q.2.map .int) = some q.2
  exact intsOf_map _
/-- what the law's own later says is what a watcher tells -/
theorem later_tdv {M : Mach} (V : Valid M) (h4 : M.length ≤ 4) (h2 : ∀ s ∈ M, s.2.1 ≤ 2) : ∃ cb cf : List Bool, cb.length = M.length ∧ cf.length = M.length ∧ m_can_come [eM M, .bool true] = ok (.list (cb.map .bool)) ∧ m_can_come [eM M, .bool false] = ok (.list (cf.map .bool)) ∧
    ∀ k, k < M.length → m__law_later [eM M, cN k] = ok (lt3 (!cf.getD k false) (cb.getD k false)) := by
  obtain ⟨f1, q1, e1⟩ := can_come_is M V true
  obtain ⟨f2, q2, e2⟩ := can_come_is M V false
  refine ⟨_, _, cly_len M true f1, cly_len M false f2, e1, e2, fun k hk => ?_⟩
  obtain ⟨a, n, e, ha, hn⟩ := later_is V h4 h2 hk
  have g : ∀ (w : Bool) (f : Nat), (cly M w f).getD k false = true ↔ (cly M w f)[k]? = some true := fun w f => by
    rw [List.getD_eq_getElem?_getD]
    cases e : (cly M w f)[k]? with
    | none => simp
    | some b => simp
  have hb : (cly M true f1).getD k false = n := by
    rw [Bool.eq_iff_iff, g, hn]
    exact ⟨fun h => let ⟨x, h1, _, h3⟩ := cly_snd h; ⟨x, h1, h3⟩, fun ⟨x, h1, h3⟩ => cly_cpl V q1 hk h1 h3⟩
  have hf : (!(cly M false f2).getD k false) = a := by
    rw [Bool.eq_iff_iff, Bool.not_eq_true', ha]
    constructor
    · intro h x hx
      cases ex : (stA M x).1 with
      | true => rfl
      | false =>
        have := cly_cpl V q2 hk hx ex
        rw [← g, h] at this
        cases this
    · intro h
      cases ex : (cly M false f2).getD k false with
      | false => rfl
      | true =>
        obtain ⟨x, h1, _, h3⟩ := cly_snd ((g false f2).mp ex)
        rw [h x h1] at h3
        cases h3
  rw [e, hb, hf]
end WK

set_option Elab.async false
set_option linter.all false
set_option maxHeartbeats 4000000
set_option maxRecDepth 100000
noncomputable section
namespace WK
open PySem DL L2

local macro_rules | `(tactic| walk_at "ev") => `(tactic| simp only [ofE_err, bnd_err, ofE_ok, ofE_ok', bnd_ok, bnd_ok', sSeq_ev, sq_nx, sq_rt, sq_er, sq_bk, sq_ct, sIf_ev, sRet_ev, sDrop_ev, sSkip_ev, sRetN_ev, sRaise_ev, sFor_ev, eC_ev, e2_ev, e1_ev, eFn_ev, eCall_ev, aCons_ev, aNil_ev, nNew_ev, eTup_ev, eLst_ev, eIf_ev, eNew_ev, tTru_ev, tNot_ev, tAnd_ev, tOr_ev, tYes_ev, nLc_ev, wipe0, wipeS, tix_ev, set_ev, asg_ev, setO_ev, v0, vS, o0, o0', oS, g0, gS, own0, ownS, setAt0, setAtS, e3_ev, and_ev, or_ev, not_ev, val_ev, asB_b, iSeq_ev, seqOf_l, seqOf_t, iR1_ev, nRng_ev, gT_ev, gs_c, gs_n,
  add_i, sub_i, div_i, mod_i, mul_l, mul_r, neg_i, cmp_i, lt_i, eq_i, ne_i, isN_n, isN_i, isN_l, notN_n, notN_i, len_l, len_t, tru_l, tru_t, tru_b, tup_l, lst_l, lst_t, any_l, all_l, min_i, max_i, oIx_l, oIx_t, oIx_c0, oIx_c1, oIx_c2, limV,
  nup1, nup_le, nup_lt, nup_eq, ← Int.natCast_add,
  posts_some, postg_some, end_rt, end_nx, lp_nx, lp_ct, lp_bk, lp_rt, lp_er, sqq_nx, sqq_rt, sqq_er, sqq_bk, sqq_ct, wO_some, app_w, put_w, frz_o, frzK_some, nlit_le, nlit_lt, nlit_ge, nlit_gt, nlit_eq, nge0, in_tf, all_true, lenset_n, nm4, nm3, nm2, nd4, nd2, eq_n, le_n, mix_ev, eSt, eM, 
  Option.map_some, Option.map_none, Option.bind_some, fin_nx, fin_rt, fin_er, List.length_cons, List.length_nil, List.length_map, List.length_append, List.length_range, List.set_cons_zero, List.set_cons_succ, ↓reduceIte, Nat.zero_add, Nat.add_zero, Nat.zero_le, Nat.reduceAdd, Nat.reduceLeDiff, Nat.reduceEqDiff, Int.reduceLT, Int.reduceNeg, Int.reducePow, Option.isNone_none, Option.isNone_some, Option.isSome_none, Option.isSome_some, decide_eq_true_eq, decide_true, decide_false, Bool.not_true, Bool.not_false, Bool.false_eq_true, eq_self, and_self, true_and, and_true, Bool.true_xor, Bool.false_xor])
local macro_rules | `(tactic| walk_at "in") => `(tactic| simp only [rho0, List.map_cons, List.map_nil, List.cons_append, List.nil_append, List.length_cons, List.length_nil, Nat.reduceAdd, Nat.reduceSub, Nat.zero_add, Nat.sub_self, rep0, repS])
local macro_rules | `(tactic| walk_at "evo") => `(tactic| simp (disch := (first | omega | (simp only [List.length_map, List.length_append, List.length_cons, List.length_nil, List.length_range, List.length_set, List.length_replicate]; omega))) only [addT6, addL6, rng1_n, rngO_n, mod_n, ofE_err, bnd_err, ofE_ok, ofE_ok', bnd_ok, bnd_ok', sSeq_ev, sq_nx, sq_rt, sq_er, sq_bk, sq_ct, sIf_ev, sRet_ev, sDrop_ev, sSkip_ev, sRetN_ev, sRaise_ev, sFor_ev, eC_ev, e2_ev, e1_ev, eFn_ev, eCall_ev, aCons_ev, aNil_ev, nNew_ev, eTup_ev, eLst_ev, eIf_ev, eNew_ev, tTru_ev, tNot_ev, tAnd_ev, tOr_ev, tYes_ev, nLc_ev, wipe0, wipeS, tix_ev, set_ev, asg_ev, setO_ev, v0, vS, o0, o0', oS, g0, gS, own0, ownS, setAt0, setAtS, e3_ev, and_ev, or_ev, not_ev, val_ev, asB_b, iSeq_ev, seqOf_l, seqOf_t, iR1_ev, nRng_ev, gT_ev, gs_c, gs_n,
  add_i, sub_i, div_i, mod_i, mul_l, mul_r, neg_i, cmp_i, lt_i, eq_i, ne_i, isN_n, isN_i, isN_l, notN_n, notN_i, len_l, len_t, tru_l, tru_t, tru_b, tup_l, lst_l, lst_t, any_l, all_l, min_i, max_i, oIx_l, oIx_t, oIx_c0, oIx_c1, oIx_c2, limV,
  nup1, nup_le, nup_lt, nup_eq, ← Int.natCast_add,
  posts_some, postg_some, end_rt, end_nx, lp_nx, lp_ct, lp_bk, lp_rt, lp_er, sqq_nx, sqq_rt, sqq_er, sqq_bk, sqq_ct, wO_some, app_w, put_w, frz_o, frzK_some, nlit_le, nlit_lt, nlit_ge, nlit_gt, nlit_eq, nge0, in_tf, all_true, lenset_n, nm4, nm3, nm2, nd4, nd2, eq_n, le_n, mix_ev, eSt, eM, 
  Option.map_some, Option.map_none, Option.bind_some, fin_nx, fin_rt, fin_er, List.length_cons, List.length_nil, List.length_map, List.length_append, List.length_range, List.set_cons_zero, List.set_cons_succ, ↓reduceIte, Nat.zero_add, Nat.add_zero, Nat.zero_le, Nat.reduceAdd, Nat.reduceLeDiff, Nat.reduceEqDiff, Int.reduceLT, Int.reduceNeg, Int.reducePow, Option.isNone_none, Option.isNone_some, Option.isSome_none, Option.isSome_some, decide_eq_true_eq, decide_true, decide_false, Bool.not_true, Bool.not_false, Bool.false_eq_true, eq_self, and_self, true_and, and_true, Bool.true_xor, Bool.false_xor])
local macro_rules | `(tactic| walk_at "evh") => `(tactic| simp only [*, ofE_err, bnd_err, ofE_ok, ofE_ok', bnd_ok, bnd_ok', sSeq_ev, sq_nx, sq_rt, sq_er, sq_bk, sq_ct, sIf_ev, sRet_ev, sDrop_ev, sSkip_ev, sRetN_ev, sRaise_ev, sFor_ev, eC_ev, e2_ev, e1_ev, eFn_ev, eCall_ev, aCons_ev, aNil_ev, nNew_ev, eTup_ev, eLst_ev, eIf_ev, eNew_ev, tTru_ev, tNot_ev, tAnd_ev, tOr_ev, tYes_ev, nLc_ev, wipe0, wipeS, tix_ev, set_ev, asg_ev, setO_ev, v0, vS, o0, o0', oS, g0, gS, own0, ownS, setAt0, setAtS, e3_ev, and_ev, or_ev, not_ev, val_ev, asB_b, iSeq_ev, seqOf_l, seqOf_t, iR1_ev, nRng_ev, gT_ev, gs_c, gs_n,
  add_i, sub_i, div_i, mod_i, mul_l, mul_r, neg_i, cmp_i, lt_i, eq_i, ne_i, isN_n, isN_i, isN_l, notN_n, notN_i, len_l, len_t, tru_l, tru_t, tru_b, tup_l, lst_l, lst_t, any_l, all_l, min_i, max_i, oIx_l, oIx_t, oIx_c0, oIx_c1, oIx_c2, limV,
  nup1, nup_le, nup_lt, nup_eq, ← Int.natCast_add,
  posts_some, postg_some, end_rt, end_nx, lp_nx, lp_ct, lp_bk, lp_rt, lp_er, sqq_nx, sqq_rt, sqq_er, sqq_bk, sqq_ct, wO_some, app_w, put_w, frz_o, frzK_some, nlit_le, nlit_lt, nlit_ge, nlit_gt, nlit_eq, nge0, in_tf, all_true, lenset_n, nm4, nm3, nm2, nd4, nd2, eq_n, le_n, mix_ev, eSt, eM, 
  Option.map_some, Option.map_none, Option.bind_some, fin_nx, fin_rt, fin_er, List.length_cons, List.length_nil, List.length_map, List.length_append, List.length_range, List.set_cons_zero, List.set_cons_succ, ↓reduceIte, Nat.zero_add, Nat.add_zero, Nat.zero_le, Nat.reduceAdd, Nat.reduceLeDiff, Nat.reduceEqDiff, Int.reduceLT, Int.reduceNeg, Int.reducePow, Option.isNone_none, Option.isNone_some, Option.isSome_none, Option.isSome_some, decide_eq_true_eq, decide_true, decide_false, Bool.not_true, Bool.not_false, Bool.false_eq_true, eq_self, and_self, true_and, and_true, Bool.true_xor, Bool.false_xor])
def rgd (M : Mach) (g : Nat → Bool) : Mach := (List.range M.length).map fun k => (g k, (stA M k).2)
theorem rgd_len {M : Mach} {g : Nat → Bool} : (rgd M g).length = M.length := by rw [rgd, List.length_map, List.length_range]
theorem rgd_get {M : Mach} {g : Nat → Bool} {k : Nat} (hk : k < M.length) : (rgd M g)[k]? = some (g k, (stA M k).2) := by
  rw [rgd, List.getElem?_map, List.getElem?_range hk]; rfl
theorem rgd_bxs {M : Mach} {g : Nat → Bool} : bxs (rgd M g) = bxs M := by
  apply List.ext_getElem?
  intro k
  unfold bxs
  rw [List.getElem?_map, List.getElem?_map]
  by_cases hk : k < M.length
  · rw [rgd_get hk, (stA_mem hk).2.1]; rfl
  · rw [List.getElem?_eq_none (by rw [rgd_len]; omega), List.getElem?_eq_none (by omega)]
theorem rgd_mem {M : Mach} {g : Nat → Bool} {s : Ste} (h : s ∈ rgd M g) : ∃ s' ∈ M, s.2 = s'.2 := by
  unfold rgd at h
  obtain ⟨k, hk, rfl⟩ := List.mem_map.mp h
  exact ⟨stA M k, (stA_mem (List.mem_range.mp hk)).1, rfl⟩
theorem rgd_valid {M : Mach} {g : Nat → Bool} (V : Valid M) : Valid (rgd M g) := by
  refine ⟨by rw [rgd_len]; exact V.pos, by rw [rgd_len]; exact V.le, by rw [rgd_bxs]; exact V.first, fun s hs => ?_⟩
  obtain ⟨s', h', e⟩ := rgd_mem hs
  have v := V.each s' h'
  rw [rgd_bxs]
  exact ⟨by rw [e]; exact v.boxes, by rw [e]; exact v.moves, by rw [e]; exact v.each⟩
theorem part_good (ns : List Int) (M : Mach) (V : Valid M) (h4 : M.length ≤ 4) (h2 : ∀ s ∈ M, s.2.1 ≤ 2) (w : Nat) (Q : SR → Prop)
    (h : ∀ (M' : Mach) (j3 j4 j5 : Option PyData), Valid M' → M'.length ≤ 4 → (∀ s ∈ M', s.2.1 ≤ 2) → Q (.nx [some (.d (.list (ns.map .int))), some (.d (eM M')), some (.d (cN w)), j3.map .d, j4.map .d, j5.map .d, none, none, none, none, none, none, none, none, none, none, none, none])) :
    PostS Q ((sIf (tValF (e2 oGt (eO 2) (eC (.int 0)))) (sSeq (sSet 3 (e2 oMod (eFn m__law_mix (aCons (eV 0) (aCons (eC (.int 101)) aNil))) (eCall oLen (aCons (eO 1) aNil))))
  (sSeq (sSetO 4 (nNew aNil))
  (sSeq (sFor (iR1 (eCall oLen (aCons (eO 1) aNil))) (gN 5) (sApp 4 (eTup (aCons (eIf (tValF (e2 oGe (eO 5) (eO 3))) (e2 oEq (eO 2) (eC (.int 1))) (e2 oIx (e2 oIx (eO 1) (eO 5)) (eC (.int 0)))) (aCons (e2 oIx (e2 oIx (eO 1) (eO 5)) (eC (.int 1))) (aCons (e2 oIx (e2 oIx (eO 1) (eO 5)) (eC (.int 2))) aNil))))))
  (sFrz 4 (sSet 1 (eV 4)))))) sSkip) [some (.d (.list (ns.map .int))), some (.d (eM M)), some (.d (cN w)), none, none, none, none, none, none, none, none, none, none, none, none, none, none, none]) := by
  have hp := V.pos
  have hmd := mod_n (i := mixv ns 101) hp
  have hr := rng1_n (n := M.length) (by omega)
  by_cases hw : 0 < w
  · walk_at "ev"
    simp only [hw]
    walk_at "ev"
    rw [hmd]
    walk_at "ev"
    generalize mixv ns 101 % M.length = fst
    rw [hr]
    walk_at "ev"
    refine posts_sq (posts_for (fun i r => ∃ (j5 : Option PyData), r = [some (.d (.list (ns.map .int))), some (.d (.list (M.map eSt))), some (.d (cN w)), some (.d (cN fst)), some (.own (((rgd M fun k => if fst ≤ k then decide (w = 1) else (stA M k).1).take i).map eSt)), j5.map .d, none, none, none, none, none, none, none, none, none, none, none, none]) ?_ ?_ ?_)
    · exact ⟨none, rfl⟩
    · rintro i x r hx ⟨j5, rfl⟩
      obtain ⟨k, hy, rfl⟩ := getq_map hx
      obtain ⟨rfl, hkl⟩ := getq_range hy
      have hix : oIx (.list (M.map eSt)) (cN k) = ok (eSt (stA M k)) := oIx_list eSt M k _ (stA_mem hkl).2.1
      have hfl : (List.take k (rgd M fun k => if fst ≤ k then decide (w = 1) else (stA M k).1)).length < 1000000 := by rw [List.length_take]; omega
      have e1 : (if fst ≤ k then ok (PyData.bool (decide (w = 1))) else bnd (oIx (PyData.list (List.map eSt M)) (cN k)) fun x => oIx x (PyData.int 0)) = ok (.bool (if fst ≤ k then decide (w = 1) else (stA M k).1)) := by
        split
        · rfl
        · rw [hix]
          walk_at "ev"
      walk_at "ev"
      rw [e1, hix]
      walk_at "ev"
      rw [if_pos hfl]
      walk_at "ev"
      have hg := rgd_get (M := M) (g := fun k => if fst ≤ k then decide (w = 1) else (stA M k).1) hkl
      obtain ⟨hi, e⟩ := List.getElem?_eq_some_iff.mp hg
      refine ⟨some (cN k), ?_⟩
      rw [List.take_succ_eq_append_getElem hi, e, List.map_append]
      rfl
    · rintro r ⟨j5, rfl⟩
      rw [List.length_map, List.length_range, ← rgd_len (g := fun k => if fst ≤ k then decide (w = 1) else (stA M k).1), List.take_length]
      walk_at "ev"
      refine h _ (some (cN fst)) (some (eM (rgd M fun k => if fst ≤ k then decide (w = 1) else (stA M k).1))) j5 (rgd_valid V) (by rw [rgd_len]; exact h4) fun s hs => ?_
      obtain ⟨s', h', e⟩ := rgd_mem hs
      rw [e]
      exact h2 s' h'
  · walk_at "ev"
    simp only [hw]
    walk_at "ev"
    exact h M none none none V h4 h2
end WK

set_option Elab.async false
set_option linter.all false
set_option maxHeartbeats 4000000
set_option maxRecDepth 100000
noncomputable section
namespace WK
open PySem DL L2

local macro_rules | `(tactic| walk_at "ev") => `(tactic| simp only [ofE_err, bnd_err, ofE_ok, ofE_ok', bnd_ok, bnd_ok', sSeq_ev, sq_nx, sq_rt, sq_er, sq_bk, sq_ct, sIf_ev, sRet_ev, sDrop_ev, sSkip_ev, sRetN_ev, sRaise_ev, sFor_ev, eC_ev, e2_ev, e1_ev, eFn_ev, eCall_ev, aCons_ev, aNil_ev, nNew_ev, eTup_ev, eLst_ev, eIf_ev, eNew_ev, tTru_ev, tNot_ev, tAnd_ev, tOr_ev, tYes_ev, nLc_ev, wipe0, wipeS, tix_ev, set_ev, asg_ev, setO_ev, v0, vS, o0, o0', oS, g0, gS, own0, ownS, setAt0, setAtS, e3_ev, and_ev, or_ev, not_ev, val_ev, asB_b, iSeq_ev, seqOf_l, seqOf_t, iR1_ev, nRng_ev, gT_ev, gs_c, gs_n,
  add_i, sub_i, div_i, mod_i, mul_l, mul_r, neg_i, cmp_i, lt_i, eq_i, ne_i, isN_n, isN_i, isN_l, notN_n, notN_i, len_l, len_t, tru_l, tru_t, tru_b, tup_l, lst_l, lst_t, any_l, all_l, min_i, max_i, oIx_l, oIx_t, oIx_c0, oIx_c1, oIx_c2, limV,
  nup1, nup_le, nup_lt, nup_eq, ← Int.natCast_add,
  posts_some, postg_some, end_rt, end_nx, lp_nx, lp_ct, lp_bk, lp_rt, lp_er, sqq_nx, sqq_rt, sqq_er, sqq_bk, sqq_ct, wO_some, app_w, put_w, frz_o, frzK_some, nlit_le, nlit_lt, nlit_ge, nlit_gt, nlit_eq, nge0, in_tf, all_true, lenset_n, nm4, nm3, nm2, nd4, nd2, eq_n, le_n, mix_ev, eSt, eM, eIC, gT_ev', addL6, List.cons_append, List.nil_append, tryK_ev, sqK_nx, sqK_rt, sqK_er, isi_b, tru_b, 
  Option.map_some, Option.map_none, Option.bind_some, fin_nx, fin_rt, fin_er, List.length_cons, List.length_nil, List.length_map, List.length_append, List.length_range, List.set_cons_zero, List.set_cons_succ, ↓reduceIte, Nat.zero_add, Nat.add_zero, Nat.zero_le, Nat.reduceAdd, Nat.reduceLeDiff, Nat.reduceEqDiff, Int.reduceLT, Int.reduceNeg, Int.reducePow, Option.isNone_none, Option.isNone_some, Option.isSome_none, Option.isSome_some, decide_eq_true_eq, decide_true, decide_false, Bool.not_true, Bool.not_false, Bool.false_eq_true, eq_self, and_self, true_and, and_true, Bool.true_xor, Bool.false_xor])
local macro_rules | `(tactic| walk_at "in") => `(tactic| simp only [rho0, List.map_cons, List.map_nil, List.cons_append, List.nil_append, List.length_cons, List.length_nil, Nat.reduceAdd, Nat.reduceSub, Nat.zero_add, Nat.sub_self, rep0, repS])
local macro_rules | `(tactic| walk_at "evo") => `(tactic| simp (disch := (first | omega | (simp only [List.length_map, List.length_append, List.length_cons, List.length_nil, List.length_range, List.length_set, List.length_replicate]; omega))) only [addT6, addL6, rng1_n, rngO_n, mod_n, ofE_err, bnd_err, ofE_ok, ofE_ok', bnd_ok, bnd_ok', sSeq_ev, sq_nx, sq_rt, sq_er, sq_bk, sq_ct, sIf_ev, sRet_ev, sDrop_ev, sSkip_ev, sRetN_ev, sRaise_ev, sFor_ev, eC_ev, e2_ev, e1_ev, eFn_ev, eCall_ev, aCons_ev, aNil_ev, nNew_ev, eTup_ev, eLst_ev, eIf_ev, eNew_ev, tTru_ev, tNot_ev, tAnd_ev, tOr_ev, tYes_ev, nLc_ev, wipe0, wipeS, tix_ev, set_ev, asg_ev, setO_ev, v0, vS, o0, o0', oS, g0, gS, own0, ownS, setAt0, setAtS, e3_ev, and_ev, or_ev, not_ev, val_ev, asB_b, iSeq_ev, seqOf_l, seqOf_t, iR1_ev, nRng_ev, gT_ev, gs_c, gs_n,
  add_i, sub_i, div_i, mod_i, mul_l, mul_r, neg_i, cmp_i, lt_i, eq_i, ne_i, isN_n, isN_i, isN_l, notN_n, notN_i, len_l, len_t, tru_l, tru_t, tru_b, tup_l, lst_l, lst_t, any_l, all_l, min_i, max_i, oIx_l, oIx_t, oIx_c0, oIx_c1, oIx_c2, limV,
  nup1, nup_le, nup_lt, nup_eq, ← Int.natCast_add,
  posts_some, postg_some, end_rt, end_nx, lp_nx, lp_ct, lp_bk, lp_rt, lp_er, sqq_nx, sqq_rt, sqq_er, sqq_bk, sqq_ct, wO_some, app_w, put_w, frz_o, frzK_some, nlit_le, nlit_lt, nlit_ge, nlit_gt, nlit_eq, nge0, in_tf, all_true, lenset_n, nm4, nm3, nm2, nd4, nd2, eq_n, le_n, mix_ev, eSt, eM, eIC, gT_ev', addL6, List.cons_append, List.nil_append, tryK_ev, sqK_nx, sqK_rt, sqK_er, isi_b, tru_b, 
  Option.map_some, Option.map_none, Option.bind_some, fin_nx, fin_rt, fin_er, List.length_cons, List.length_nil, List.length_map, List.length_append, List.length_range, List.set_cons_zero, List.set_cons_succ, ↓reduceIte, Nat.zero_add, Nat.add_zero, Nat.zero_le, Nat.reduceAdd, Nat.reduceLeDiff, Nat.reduceEqDiff, Int.reduceLT, Int.reduceNeg, Int.reducePow, Option.isNone_none, Option.isNone_some, Option.isSome_none, Option.isSome_some, decide_eq_true_eq, decide_true, decide_false, Bool.not_true, Bool.not_false, Bool.false_eq_true, eq_self, and_self, true_and, and_true, Bool.true_xor, Bool.false_xor])
local macro_rules | `(tactic| walk_at "evh") => `(tactic| simp only [*, ofE_err, bnd_err, ofE_ok, ofE_ok', bnd_ok, bnd_ok', sSeq_ev, sq_nx, sq_rt, sq_er, sq_bk, sq_ct, sIf_ev, sRet_ev, sDrop_ev, sSkip_ev, sRetN_ev, sRaise_ev, sFor_ev, eC_ev, e2_ev, e1_ev, eFn_ev, eCall_ev, aCons_ev, aNil_ev, nNew_ev, eTup_ev, eLst_ev, eIf_ev, eNew_ev, tTru_ev, tNot_ev, tAnd_ev, tOr_ev, tYes_ev, nLc_ev, wipe0, wipeS, tix_ev, set_ev, asg_ev, setO_ev, v0, vS, o0, o0', oS, g0, gS, own0, ownS, setAt0, setAtS, e3_ev, and_ev, or_ev, not_ev, val_ev, asB_b, iSeq_ev, seqOf_l, seqOf_t, iR1_ev, nRng_ev, gT_ev, gs_c, gs_n,
  add_i, sub_i, div_i, mod_i, mul_l, mul_r, neg_i, cmp_i, lt_i, eq_i, ne_i, isN_n, isN_i, isN_l, notN_n, notN_i, len_l, len_t, tru_l, tru_t, tru_b, tup_l, lst_l, lst_t, any_l, all_l, min_i, max_i, oIx_l, oIx_t, oIx_c0, oIx_c1, oIx_c2, limV,
  nup1, nup_le, nup_lt, nup_eq, ← Int.natCast_add,
  posts_some, postg_some, end_rt, end_nx, lp_nx, lp_ct, lp_bk, lp_rt, lp_er, sqq_nx, sqq_rt, sqq_er, sqq_bk, sqq_ct, wO_some, app_w, put_w, frz_o, frzK_some, nlit_le, nlit_lt, nlit_ge, nlit_gt, nlit_eq, nge0, in_tf, all_true, lenset_n, nm4, nm3, nm2, nd4, nd2, eq_n, le_n, mix_ev, eSt, eM, eIC, gT_ev', addL6, List.cons_append, List.nil_append, tryK_ev, sqK_nx, sqK_rt, sqK_er, isi_b, tru_b, 
  Option.map_some, Option.map_none, Option.bind_some, fin_nx, fin_rt, fin_er, List.length_cons, List.length_nil, List.length_map, List.length_append, List.length_range, List.set_cons_zero, List.set_cons_succ, ↓reduceIte, Nat.zero_add, Nat.add_zero, Nat.zero_le, Nat.reduceAdd, Nat.reduceLeDiff, Nat.reduceEqDiff, Int.reduceLT, Int.reduceNeg, Int.reducePow, Option.isNone_none, Option.isNone_some, Option.isSome_none, Option.isSome_some, decide_eq_true_eq, decide_true, decide_false, Bool.not_true, Bool.not_false, Bool.false_eq_true, eq_self, and_self, true_and, and_true, Bool.true_xor, Bool.false_xor])
theorem meth_o {i : Nat} {m : Str} {phi : List (Str × PyData) → M PyData} {r : Rho} {fs : List (Str × PyData)} {d : PyData} (h : r[i]? = some (some (.obj fs))) (n : fs.lookup m = none) (e : phi fs = ok d) : eMeth i m phi r = ok d := by
  unfold eMeth
  rw [h]
  simp only
  rw [if_pos n, e]
  rfl
theorem meth_f {i : Nat} {m : Str} {phi : List (Str × PyData) → M PyData} {r : Rho} {fs : List (Str × PyData)} {d : PyData} (h : r[i]? = some (some (.obf fs))) (n : fs.lookup m = none) (e : phi fs = ok d) : eMeth i m phi r = ok d := by
  unfold eMeth
  rw [h]
  simp only
  rw [if_pos n, e]
  rfl
theorem kept_o {i : Nat} {m : Str} {r : Rho} {fs : List (Str × PyData)} {ns : List Int} (h : r[i]? = some (some (.obj fs))) (n : fs.lookup m = none) (e : heldOf fs = some ns) : eKept i m r = ok (.list ((isort ns).map .int)) := by
  unfold eKept
  rw [h]
  simp only
  rw [if_pos n, e]
theorem kept_f {i : Nat} {m : Str} {r : Rho} {fs : List (Str × PyData)} {ns : List Int} (h : r[i]? = some (some (.obf fs))) (n : fs.lookup m = none) (e : heldOf fs = some ns) : eKept i m r = ok (.list ((isort ns).map .int)) := by
  unfold eKept
  rw [h]
  simp only
  rw [if_pos n, e]
theorem keptApp_ev {i : Nat} {m : Str} {f : Ef} {r : Rho} {fs : List (Str × PyData)} {ns : List Int} {d : PyData} (h : r[i]? = some (some (.obj fs))) (n : fs.lookup m = none) (e : heldOf fs = some ns) (hl : ns.length < 1000000) (hf : f r = ok d) : sKeptApp i m f r = some (.nx r) := by
  unfold sKeptApp
  rw [h]
  simp only
  rw [if_pos n, e]
  simp only
  rw [if_pos (by rw [lim_is]; exact hl), hf]
  rfl
theorem come_ev {j i : Nat} {m : Str} {f : Ef} {phi : List (Str × PyData) → PyData → Option (List (Str × PyData) × PyData)} {r : Rho} {fs fs' : List (Str × PyData)} {d d' : PyData} (h : r[i]? = some (some (.obj fs))) (ho : onlyO r i = true) (n : fs.lookup m = none) (hj : j < r.length) (nj : j ≠ i) (hf : f r = ok d) (e : phi fs d = some (fs', d')) :
    sCome j i m f phi r = some (.nx ((r.set i (some (.obj fs'))).set j (some (.d d')))) := by
  unfold sCome
  rw [h]
  simp only
  rw [if_pos ⟨ho, n, hj, nj⟩, hf]
  simp only [ofE_ok]
  rw [e]
theorem handed_ev {im ig ib iv ih iw iz : Nat} {phi : List PyData → M (List (Str × PyData))} {fv fi f5 : Ef} {sg : Sf} {r : Rho} {M : List PyData} {fs : List (Str × PyData)} {dv d5 : PyData} (h : r[im]? = some (some (.d (.list M)))) (hM : M.all rowOk = true) (hl : M.length < 1000000) (l1 : ig < r.length) (l2 : ib < r.length) (l3 : iv < r.length) (l4 : ih < r.length) (l5 : iw < r.length) (l6 : iz < r.length)
    (e : phi M = ok fs) (e1 : fv (hRho r ig ib iv ih iw iz fs) = ok dv) (e2 : fi (hRho r ig ib iv ih iw iz fs) = ok (.int (-1))) (e3 : f5 (hRho r ig ib iv ih iw iz fs) = ok d5) : sHanded im ig ib iv ih iw iz phi fv fi f5 sg r = sg (hRho r ig ib iv ih iw iz fs) := by
  unfold sHanded
  rw [h]
  simp only
  rw [if_pos ⟨hM, by rw [lim_is]; exact hl, l1, l2, l3, l4, l5, l6⟩, e]
  simp only [ok]
  rw [e1, e2, e3]
  rfl
theorem rows_ok {M : Mach} (V : Valid M) : (M.map eSt).all rowOk = true := by
  rw [List.all_eq_true]
  intro d hd
  obtain ⟨s, hs, rfl⟩ := List.mem_map.mp hd
  have hm := (V.each s hs).moves
  unfold eSt
  cases e : s.2.2 with
  | nil => rw [e] at hm; simp at hm
  | cons m ms => rfl
theorem eqv_strs (x : Str) : PyData.eqv (.str x) (.str x) = true := by rw [PyData.eqv]; simp
theorem k_alw : PyData.strOk (Str.ofString "always") = true := by decide +kernel
theorem k_nev : PyData.strOk (Str.ofString "never") = true := by decide +kernel
theorem k_opn : PyData.strOk (Str.ofString "open") = true := by decide +kernel
theorem ne_td {b a n : Bool} : oNe (.tuple [.bool b, lt3 a n]) (.tuple [.bool b, lt3 a n]) = ok (.bool false) := by
  unfold oNe
  have hs : SeqAt.shaped (.tuple [.bool b, lt3 a n]) = true := by
    cases a <;> cases n <;> simp [lt3, SeqAt.shaped, PyData.canLay0, PyData.canLayAll0, PyData.depth, PyData.depthAll, k_alw, k_nev, k_opn]
  rw [if_pos ⟨hs, hs⟩]
  cases a <;> cases n <;> simp [lt3, PyData.eqv, PyData.eqvAll]
theorem ne_ii {xs : List Int} : oNe (.list (xs.map .int)) (.list (xs.map .int)) = ok (.bool false) := by
  have := oNe_enc (enc_list enc_int) (by omega) xs xs
  rw [decide_eq_true rfl] at this
  exact this
theorem look_nil : m_look_machine [.list []] = some (.error .mach) := by
  rw [m_look_machine, run_fin (by rfl)]
  walk_at "in"
  rw [b_look_machine]
  walk_at "ev"
theorem mkerr_ev {r : Rho} : eMkErr m_W___init__ (eLst aNil) r = some (.error .mach) := by
  have e : m_W___init__ [] = some (.error .mach) := by
    unfold m_W___init__ runInit
    rw [if_pos (by rw [lim_is]; decide), look_nil]
    rfl
  unfold eMkErr
  walk_at "ev"
  rw [e]
theorem eq_mch : oEq (.str "machine") (.str "machine") = ok (.bool true) := by
  unfold oEq
  have hs : SeqAt.shaped (.str "machine") = true := by simp [SeqAt.shaped, PyData.canLay0, PyData.depth, ok_machine]
  rw [if_pos ⟨hs, hs⟩, eqv_strs]
end WK

set_option Elab.async false
set_option linter.all false
set_option maxHeartbeats 4000000
set_option maxRecDepth 100000
noncomputable section
namespace WK
open PySem DL L2

local macro_rules | `(tactic| walk_at "ev") => `(tactic| simp only [ofE_err, bnd_err, ofE_ok, ofE_ok', bnd_ok, bnd_ok', sSeq_ev, sq_nx, sq_rt, sq_er, sq_bk, sq_ct, sIf_ev, sRet_ev, sDrop_ev, sSkip_ev, sRetN_ev, sRaise_ev, sFor_ev, eC_ev, e2_ev, e1_ev, eFn_ev, eCall_ev, aCons_ev, aNil_ev, nNew_ev, eTup_ev, eLst_ev, eIf_ev, eNew_ev, tTru_ev, tNot_ev, tAnd_ev, tOr_ev, tYes_ev, nLc_ev, wipe0, wipeS, tix_ev, set_ev, asg_ev, setO_ev, v0, vS, o0, o0', oS, g0, gS, own0, ownS, setAt0, setAtS, e3_ev, and_ev, or_ev, not_ev, val_ev, asB_b, iSeq_ev, seqOf_l, seqOf_t, iR1_ev, nRng_ev, gT_ev, gs_c, gs_n,
  add_i, sub_i, div_i, mod_i, mul_l, mul_r, neg_i, cmp_i, lt_i, eq_i, ne_i, isN_n, isN_i, isN_l, notN_n, notN_i, len_l, len_t, tru_l, tru_t, tru_b, tup_l, lst_l, lst_t, any_l, all_l, min_i, max_i, oIx_l, oIx_t, oIx_c0, oIx_c1, oIx_c2, limV,
  nup1, nup_le, nup_lt, nup_eq, ← Int.natCast_add,
  posts_some, postg_some, end_rt, end_nx, lp_nx, lp_ct, lp_bk, lp_rt, lp_er, sqq_nx, sqq_rt, sqq_er, sqq_bk, sqq_ct, wO_some, app_w, put_w, frz_o, frzK_some, nlit_le, nlit_lt, nlit_ge, nlit_gt, nlit_eq, nge0, in_tf, all_true, lenset_n, nm4, nm3, nm2, nd4, nd2, eq_n, le_n, mix_ev, eSt, gT_ev', addL6, List.cons_append, List.nil_append, tryK_ev, sqK_nx, sqK_rt, sqK_er, isi_b, tru_b, srt_l, Nat.reduceLT, 
  Option.map_some, Option.map_none, Option.bind_some, fin_nx, fin_rt, fin_er, List.length_cons, List.length_nil, List.length_map, List.length_append, List.length_range, List.set_cons_zero, List.set_cons_succ, ↓reduceIte, Nat.zero_add, Nat.add_zero, Nat.zero_le, Nat.reduceAdd, Nat.reduceLeDiff, Nat.reduceEqDiff, Int.reduceLT, Int.reduceNeg, Int.reducePow, Option.isNone_none, Option.isNone_some, Option.isSome_none, Option.isSome_some, decide_eq_true_eq, decide_true, decide_false, Bool.not_true, Bool.not_false, Bool.false_eq_true, eq_self, and_self, true_and, and_true, Bool.true_xor, Bool.false_xor])
local macro_rules | `(tactic| walk_at "in") => `(tactic| simp only [rho0, List.map_cons, List.map_nil, List.cons_append, List.nil_append, List.length_cons, List.length_nil, Nat.reduceAdd, Nat.reduceSub, Nat.zero_add, Nat.sub_self, rep0, repS])
local macro_rules | `(tactic| walk_at "evo") => `(tactic| simp (disch := (first | omega | (simp only [List.length_map, List.length_append, List.length_cons, List.length_nil, List.length_range, List.length_set, List.length_replicate]; omega))) only [addT6, addL6, rng1_n, rngO_n, mod_n, ofE_err, bnd_err, ofE_ok, ofE_ok', bnd_ok, bnd_ok', sSeq_ev, sq_nx, sq_rt, sq_er, sq_bk, sq_ct, sIf_ev, sRet_ev, sDrop_ev, sSkip_ev, sRetN_ev, sRaise_ev, sFor_ev, eC_ev, e2_ev, e1_ev, eFn_ev, eCall_ev, aCons_ev, aNil_ev, nNew_ev, eTup_ev, eLst_ev, eIf_ev, eNew_ev, tTru_ev, tNot_ev, tAnd_ev, tOr_ev, tYes_ev, nLc_ev, wipe0, wipeS, tix_ev, set_ev, asg_ev, setO_ev, v0, vS, o0, o0', oS, g0, gS, own0, ownS, setAt0, setAtS, e3_ev, and_ev, or_ev, not_ev, val_ev, asB_b, iSeq_ev, seqOf_l, seqOf_t, iR1_ev, nRng_ev, gT_ev, gs_c, gs_n,
  add_i, sub_i, div_i, mod_i, mul_l, mul_r, neg_i, cmp_i, lt_i, eq_i, ne_i, isN_n, isN_i, isN_l, notN_n, notN_i, len_l, len_t, tru_l, tru_t, tru_b, tup_l, lst_l, lst_t, any_l, all_l, min_i, max_i, oIx_l, oIx_t, oIx_c0, oIx_c1, oIx_c2, limV,
  nup1, nup_le, nup_lt, nup_eq, ← Int.natCast_add,
  posts_some, postg_some, end_rt, end_nx, lp_nx, lp_ct, lp_bk, lp_rt, lp_er, sqq_nx, sqq_rt, sqq_er, sqq_bk, sqq_ct, wO_some, app_w, put_w, frz_o, frzK_some, nlit_le, nlit_lt, nlit_ge, nlit_gt, nlit_eq, nge0, in_tf, all_true, lenset_n, nm4, nm3, nm2, nd4, nd2, eq_n, le_n, mix_ev, eSt, gT_ev', addL6, List.cons_append, List.nil_append, tryK_ev, sqK_nx, sqK_rt, sqK_er, isi_b, tru_b, srt_l, Nat.reduceLT, 
  Option.map_some, Option.map_none, Option.bind_some, fin_nx, fin_rt, fin_er, List.length_cons, List.length_nil, List.length_map, List.length_append, List.length_range, List.set_cons_zero, List.set_cons_succ, ↓reduceIte, Nat.zero_add, Nat.add_zero, Nat.zero_le, Nat.reduceAdd, Nat.reduceLeDiff, Nat.reduceEqDiff, Int.reduceLT, Int.reduceNeg, Int.reducePow, Option.isNone_none, Option.isNone_some, Option.isSome_none, Option.isSome_some, decide_eq_true_eq, decide_true, decide_false, Bool.not_true, Bool.not_false, Bool.false_eq_true, eq_self, and_self, true_and, and_true, Bool.true_xor, Bool.false_xor])
local macro_rules | `(tactic| walk_at "evh") => `(tactic| simp only [*, ofE_err, bnd_err, ofE_ok, ofE_ok', bnd_ok, bnd_ok', sSeq_ev, sq_nx, sq_rt, sq_er, sq_bk, sq_ct, sIf_ev, sRet_ev, sDrop_ev, sSkip_ev, sRetN_ev, sRaise_ev, sFor_ev, eC_ev, e2_ev, e1_ev, eFn_ev, eCall_ev, aCons_ev, aNil_ev, nNew_ev, eTup_ev, eLst_ev, eIf_ev, eNew_ev, tTru_ev, tNot_ev, tAnd_ev, tOr_ev, tYes_ev, nLc_ev, wipe0, wipeS, tix_ev, set_ev, asg_ev, setO_ev, v0, vS, o0, o0', oS, g0, gS, own0, ownS, setAt0, setAtS, e3_ev, and_ev, or_ev, not_ev, val_ev, asB_b, iSeq_ev, seqOf_l, seqOf_t, iR1_ev, nRng_ev, gT_ev, gs_c, gs_n,
  add_i, sub_i, div_i, mod_i, mul_l, mul_r, neg_i, cmp_i, lt_i, eq_i, ne_i, isN_n, isN_i, isN_l, notN_n, notN_i, len_l, len_t, tru_l, tru_t, tru_b, tup_l, lst_l, lst_t, any_l, all_l, min_i, max_i, oIx_l, oIx_t, oIx_c0, oIx_c1, oIx_c2, limV,
  nup1, nup_le, nup_lt, nup_eq, ← Int.natCast_add,
  posts_some, postg_some, end_rt, end_nx, lp_nx, lp_ct, lp_bk, lp_rt, lp_er, sqq_nx, sqq_rt, sqq_er, sqq_bk, sqq_ct, wO_some, app_w, put_w, frz_o, frzK_some, nlit_le, nlit_lt, nlit_ge, nlit_gt, nlit_eq, nge0, in_tf, all_true, lenset_n, nm4, nm3, nm2, nd4, nd2, eq_n, le_n, mix_ev, eSt, gT_ev', addL6, List.cons_append, List.nil_append, tryK_ev, sqK_nx, sqK_rt, sqK_er, isi_b, tru_b, srt_l, Nat.reduceLT, 
  Option.map_some, Option.map_none, Option.bind_some, fin_nx, fin_rt, fin_er, List.length_cons, List.length_nil, List.length_map, List.length_append, List.length_range, List.set_cons_zero, List.set_cons_succ, ↓reduceIte, Nat.zero_add, Nat.add_zero, Nat.zero_le, Nat.reduceAdd, Nat.reduceLeDiff, Nat.reduceEqDiff, Int.reduceLT, Int.reduceNeg, Int.reducePow, Option.isNone_none, Option.isNone_some, Option.isSome_none, Option.isSome_some, decide_eq_true_eq, decide_true, decide_false, Bool.not_true, Bool.not_false, Bool.false_eq_true, eq_self, and_self, true_and, and_true, Bool.true_xor, Bool.false_xor])
theorem law_is (ns : List Int) (_ : ns.length ≤ 63) : m_law_v7 [.list (ns.map .int)] = ok (.bool true) := by
  have key : Post (fun d => d = .bool true) (m_law_v7 [.list (ns.map .int)]) := by
    refine post_run (by rfl) ?_
    walk_at "in"
    rw [b_law_v7]
    obtain ⟨d1, hm1, M0, rfl, V0, h40, h20⟩ := machine_is ns 0 4 (by decide) (by decide)
    have hm1' : m__law_machine [.list (ns.map .int), .int 0, .int 4] = ok (eM M0) := hm1
    obtain ⟨d3, hw, ws, rfl, hwl⟩ := word_is ns 102 9 (by decide)
    have hw' : m__law_word [.list (ns.map .int), .int 102, .int 9] = ok (.list (ws.map .int)) := hw
    clear hm1 hw
    have e1 : sSet 1 (eFn m__law_machine (aCons (eV 0) (aCons (eC (.int 0)) (aCons (eC (.int 4)) aNil)))) [some (B.d (.list (ns.map .int))), none, none, none, none, none, none, none, none, none, none, none, none, none, none, none, none, none] = some (.nx [some (B.d (.list (ns.map .int))), some (.d (eM M0)), none, none, none, none, none, none, none, none, none, none, none, none, none, none, none, none]) := by
      walk_at "ev"
      rw [hm1']
      walk_at "ev"
    have e2 : sSet 2 (e2 oMod (eFn m__law_mix (aCons (eV 0) (aCons (eC (.int 100)) aNil))) (eC (.int 3))) [some (B.d (.list (ns.map .int))), some (.d (eM M0)), none, none, none, none, none, none, none, none, none, none, none, none, none, none, none, none] = some (.nx [some (B.d (.list (ns.map .int))), some (.d (eM M0)), some (.d (cN (mixv ns 100 % 3))), none, none, none, none, none, none, none, none, none, none, none, none, none, none, none]) := by
      walk_at "ev"
    rw [sSeq_ev, e1, sq_nx, sSeq_ev, e2, sq_nx, sSeq_ev]
    refine posts_sq (part_good ns M0 V0 h40 h20 _ _ fun M j3 j4 j5 V h4 h2 => ?_)
    walk_at "ev"
    obtain ⟨cb, cf, lb, lf, eb, ef, hlt⟩ := later_tdv V h4 h2
    have hin := init_is V eb ef
    have hpos := V.pos
    rw [handed_ev (M := M.map eSt) (fs := W4 M cb cf (0, [])) (dv := .tuple [.int 0, .tuple []]) (d5 := .tuple [.bool true, .int 0, .list []]) rfl (rows_ok V) (by rw [List.length_map]; omega) (by simp) (by simp) (by simp) (by simp) (by simp) (by simp) hin (by walk_at "ev") (by walk_at "ev") (by walk_at "ev")]
    rw [show hRho [some (B.d (.list (ns.map .int))), some (.d (eM M)), some (.d (cN (mixv ns 100 % 3))), j3.map .d, j4.map .d, j5.map .d, none, none, none, none, none, none, none, none, none, none, none, none] 7 8 9 6 10 11 (W4 M cb cf (0, [])) =
      [some (B.d (.list (ns.map .int))), some (.d (eM M)), some (.d (cN (mixv ns 100 % 3))), j3.map .d, j4.map .d, j5.map .d, none, none, none, none, some (.obj (W4 M cb cf (0, []))), some (.obf (W4 M cb cf (0, []))), none, none, none, none, none, none] from rfl]
    have ht0 := told_is (cb := cb) (cf := cf) (q := (0, [])) hpos lb lf
    have hl0 := hlt 0 hpos
    have hix : ∀ k, k < M.length → oIx (eM M) (cN k) = ok (eSt (stA M k)) := fun k hk => oIx_list eSt M k _ (stA_mem hk).2.1
    have hix0 := hix 0 hpos
    have ht : ∀ q : ICfg, q.1 < M.length → m_W_told (W4 M cb cf q) = ok (.tuple [.bool (stA M q.1).1, lt3 (!cf.getD q.1 false) (cb.getD q.1 false)]) := fun q hq => told_is hq lb lf
    have ht0 := ht (0, []) hpos
    rw [show (cN 0) = PyData.int 0 from rfl] at hl0 hix0
    walk_at "ev"
    rw [meth_o (fs := W4 M cb cf (0, [])) rfl lk_t ht0, hix0, hl0]
    walk_at "ev"
    rw [ne_td]
    walk_at "ev"
    rw [hw']
    walk_at "ev"
    refine posts_sq (posts_for (fun i r => ∃ (q : ICfg) (j14 j15 : Option PyData), Eqn q (irun M (0, []) (ws.take i)) ∧ r = [some (.d (.list (ns.map .int))), some (.d (eM M)), some (.d (cN (mixv ns 100 % 3))), j3.map .d, j4.map .d, j5.map .d, none, none, none, none, some (.obj (W4 M cb cf q)), some (.obf (W4 M cb cf (0, []))), some (.d (cN q.1)), some (.d (.list (q.2.map .int))), j14.map .d, j15.map .d, none, none]) ?_ ?_ ?_)
    · exact ⟨(0, []), none, none, Eqn.rf, rfl⟩
    · rintro i x r hx ⟨q, j14, j15, hq, rfl⟩
      obtain ⟨a, ha, rfl⟩ := getq_map hx
      have hv : IVC M q := by rw [show q = _ from hq]; exact (ivc0 V).run V
      have hcm := come_isI V hv a
      have hcw := come_is V (cb := cb) (cf := cf) hv lb lf a
      have hv2 := hv.step V a
      have hqe : istep M q a = irun M (0, []) (ws.take (i + 1)) := by
        have hq' : q = _ := hq
        obtain ⟨hl, e⟩ := List.getElem?_eq_some_iff.mp ha
        rw [hq', List.take_succ_eq_append_getElem hl, e, irun, irun, List.foldl_append]; rfl
      generalize istep M q a = q' at hcm hcw hv2 hqe
      have hb6 : q'.2.length ≤ 6 := by rw [hv2.len]; exact (V.each _ (stA_mem hv2.st).1).boxes
      rw [eIL] at hcm
      rw [tdv] at hcw
      have ht' := ht q' hv2.st
      have hix' := hix q'.1 hv2.st
      have hl' := hlt q'.1 hv2.st
      walk_at "ev"
      rw [hcm]
      walk_at "ev"
      rw [come_ev (fs := W4 M cb cf q) (d := .int a) rfl (by cases j3 <;> cases j4 <;> cases j5 <;> cases j15 <;> rfl) lk_c (by simp) (by decide) (by walk_at "ev") hcw]
      walk_at "ev"
      rw [hix']
      walk_at "ev"
      rw [hl']
      walk_at "ev"
      rw [ne_td]
      walk_at "ev"
      rw [meth_o (fs := W4 M cb cf q') rfl lk_t ht']
      walk_at "ev"
      rw [ne_td]
      walk_at "ev"
      rw [kept_o (fs := W4 M cb cf q') (ns := q'.2) rfl lk_k held_W]
      walk_at "ev"
      rw [ne_ii]
      walk_at "ev"
      rw [keptApp_ev (fs := W4 M cb cf q') (ns := q'.2) (d := .int a) rfl lk_k held_W (by omega) (by walk_at "ev")]
      walk_at "ev"
      exact ⟨q', some (.int a), some (.tuple [.bool (stA M q'.1).1, lt3 (!cf.getD q'.1 false) (cb.getD q'.1 false)]), hqe, rfl⟩
    · rintro r ⟨q, j14, j15, hq, rfl⟩
      walk_at "ev"
      rw [meth_f (fs := W4 M cb cf (0, [])) rfl lk_t ht0, hix0, hl0]
      walk_at "ev"
      rw [ne_td]
      walk_at "ev"
      rw [kept_f (fs := W4 M cb cf (0, [])) (ns := []) rfl lk_k held_W]
      walk_at "ev"
      have e3 : oNe (.list ((isort ([] : List Int)).map .int)) (.list []) = ok (.bool false) := ne_ii (xs := [])
      rw [e3]
      walk_at "ev"
      rw [mkerr_ev]
      walk_at "ev"
      rw [refusal_is]
      walk_at "ev"
      rw [show nmX .mach = .str "machine" from rfl, eq_mch]
      walk_at "ev"
  obtain ⟨d, e, rfl⟩ := key
  exact e
end WK

set_option Elab.async false
set_option linter.all false
set_option maxRecDepth 100000
set_option maxHeartbeats 4000000
noncomputable section
namespace WK
open PySem PySem.Spec PyProof.Rows L2 DL
def spLaw (K : PySem.W.Frag) : Sp := fun vs H Q _ => ∃ (a : Addr) (ns : List Int), vs = [.ref a] ∧ SqL K H a (ns.map V.int) ∧ ns.length ≤ 63 ∧ ∀ H', Q (.bl true) H'
theorem law_sp {K : PySem.W.Frag} {ax : XN → Addr} (vs : List V) (H : Hp) (Q : VK) (E : XK) (h : spLaw K vs H Q E) : spD K ax m_law_v7 vs H Q E := by
  obtain ⟨a, ns, rfl, hS, hl, q⟩ := h
  refine ⟨[.list (ns.map .int)], H, Same.refl H, .cons (.lst hS dpAll_of_ints) .nil, ?_⟩
  rw [law_is ns hl]
  exact fun v H' F' _ hv => by cases hv; exact q H'
theorem cx_no {P : Program} {w : World} {l : List Env} {H : Hp} {s : Shared} {e : Value} {s' : Shared} (h : L2.CX P w l H s (fun _ _ _ => False) e s') : False := by
  obtain ⟨_, _, _, _, _, _, _, _, _, _, _, _, z⟩ := h
  exact z
theorem all_mk {P : Program} {w : World} {K : PySem.W.Frag} {h : Heap} {mg : Str → Option Value} {fa f0 f1 f2 f3 f4 f5 f6 f7 f8 f9 f10 f11 f12 f13 f14 f15 f16 f17 CW : Addr} (X : K.In h) (G : h.Ns mainGlobals mg) (hfa : mg "law" = some (.ref fa))
    {od0 an0 od1 an1 od2 an2 od3 an3 od4 an4 od5 an5 od6 an6 od7 an7 od8 an8 od9 an9 od10 an10 od11 an11 od12 an12 od13 an13 od14 an14 od15 an15 od16 an16 od17 an17 : Option Addr} {sl0 sl1 sl2 sl3 sl4 sl5 sl6 sl7 sl8 sl9 sl10 sl11 sl12 sl13 sl14 sl15 sl16 sl17 : Array (Option Value)} {oc0 kV0 dc0 pm0 cd0 ct0 oc1 kV1 dc1 pm1 cd1 ct1 oc2 kV2 dc2 pm2 cd2 ct2 oc3 kV3 dc3 pm3 cd3 ct3 oc4 kV4 dc4 pm4 cd4 ct4 oc5 kV5 dc5 pm5 cd5 ct5 oc6 kV6 dc6 pm6 cd6 ct6 oc7 kV7 dc7 pm7 cd7 ct7 oc8 kV8 dc8 pm8 cd8 ct8 oc9 kV9 dc9 pm9 cd9 ct9 oc10 kV10 dc10 pm10 cd10 ct10 oc11 kV11 dc11 pm11 cd11 ct11 oc12 kV12 dc12 pm12 cd12 ct12 oc13 kV13 dc13 pm13 cd13 ct13 oc14 kV14 dc14 pm14 cd14 ct14 oc15 kV15 dc15 pm15 cd15 ct15 oc16 kV16 dc16 pm16 cd16 ct16 oc17 kV17 dc17 pm17 cd17 ct17 : Value}
    (wa : PySem.W.nsIn K mainGlobals "Watcher" = some (some (.ref CW))) (pg : PySem.W.plainGet K CW Str.empty = true) (hd : PySem.W.hasDictIn K CW = true) (po : PySem.W.plainOver K CW = true) (sa : PySem.W.findIn K (.ref CW) "__setattr__" = some (some (.builtin "object.__setattr__"))) (mk : PySem.W.makesIn K CW = true) (kc : PySem.W.keepIn K (.ref CW) = true)
    (wn_can_be : PySem.W.findIn K (.ref CW) "can_be" = some none)
    (wn_can_fail : PySem.W.findIn K (.ref CW) "can_fail" = some none)
    (wn_here : PySem.W.findIn K (.ref CW) "here" = some none)
    (wn_machine : PySem.W.findIn K (.ref CW) "machine" = some none)
    (a0 : PySem.W.nsIn K mainGlobals "look_state" = some (some (.ref f0))) (l0 : K.lookup f0 = some ⟨oc0, od0, .func (PySem.W.fnOf "look_state" "look_state" (defArgs (topS 9)) (defBody (topS 9)) (defScope (topS 9)) .none kV0 dc0 pm0 an0 cd0 ct0), sl0⟩) (c0 : PySem.W.codeIn K cd0 "look_state" = true) (k0 : PySem.W.keepIn K (.ref f0) = true)
    (a1 : PySem.W.nsIn K mainGlobals "look_machine" = some (some (.ref f1))) (l1 : K.lookup f1 = some ⟨oc1, od1, .func (PySem.W.fnOf "look_machine" "look_machine" (defArgs (topS 10)) (defBody (topS 10)) (defScope (topS 10)) .none kV1 dc1 pm1 an1 cd1 ct1), sl1⟩) (c1 : PySem.W.codeIn K cd1 "look_machine" = true) (k1 : PySem.W.keepIn K (.ref f1) = true)
    (a2 : PySem.W.nsIn K mainGlobals "stepped" = some (some (.ref f2))) (l2 : K.lookup f2 = some ⟨oc2, od2, .func (PySem.W.fnOf "stepped" "stepped" (defArgs (topS 11)) (defBody (topS 11)) (defScope (topS 11)) .none kV2 dc2 pm2 an2 cd2 ct2), sl2⟩) (c2 : PySem.W.codeIn K cd2 "stepped" = true) (k2 : PySem.W.keepIn K (.ref f2) = true)
    (a3 : PySem.W.nsIn K mainGlobals "goals_of" = some (some (.ref f3))) (l3 : K.lookup f3 = some ⟨oc3, od3, .func (PySem.W.fnOf "goals_of" "goals_of" (defArgs (topS 12)) (defBody (topS 12)) (defScope (topS 12)) .none kV3 dc3 pm3 an3 cd3 ct3), sl3⟩) (c3 : PySem.W.codeIn K cd3 "goals_of" = true) (k3 : PySem.W.keepIn K (.ref f3) = true)
    (a4 : PySem.W.nsIn K mainGlobals "can_come" = some (some (.ref f4))) (l4 : K.lookup f4 = some ⟨oc4, od4, .func (PySem.W.fnOf "can_come" "can_come" (defArgs (topS 14)) (defBody (topS 14)) (defScope (topS 14)) .none kV4 dc4 pm4 an4 cd4 ct4), sl4⟩) (c4 : PySem.W.codeIn K cd4 "can_come" = true) (k4 : PySem.W.keepIn K (.ref f4) = true)
    (a5 : PySem.W.nsIn K mainGlobals "_law_cell" = some (some (.ref f5))) (l5 : K.lookup f5 = some ⟨oc5, od5, .func (PySem.W.fnOf "_law_cell" "_law_cell" (defArgs (topS 17)) (defBody (topS 17)) (defScope (topS 17)) .none kV5 dc5 pm5 an5 cd5 ct5), sl5⟩) (c5 : PySem.W.codeIn K cd5 "_law_cell" = true) (k5 : PySem.W.keepIn K (.ref f5) = true)
    (a6 : PySem.W.nsIn K mainGlobals "_law_mix" = some (some (.ref f6))) (l6 : K.lookup f6 = some ⟨oc6, od6, .func (PySem.W.fnOf "_law_mix" "_law_mix" (defArgs (topS 18)) (defBody (topS 18)) (defScope (topS 18)) .none kV6 dc6 pm6 an6 cd6 ct6), sl6⟩) (c6 : PySem.W.codeIn K cd6 "_law_mix" = true) (k6 : PySem.W.keepIn K (.ref f6) = true)
    (a7 : PySem.W.nsIn K mainGlobals "_law_sources" = some (some (.ref f7))) (l7 : K.lookup f7 = some ⟨oc7, od7, .func (PySem.W.fnOf "_law_sources" "_law_sources" (defArgs (topS 19)) (defBody (topS 19)) (defScope (topS 19)) .none kV7 dc7 pm7 an7 cd7 ct7), sl7⟩) (c7 : PySem.W.codeIn K cd7 "_law_sources" = true) (k7 : PySem.W.keepIn K (.ref f7) = true)
    (a8 : PySem.W.nsIn K mainGlobals "_law_machine" = some (some (.ref f8))) (l8 : K.lookup f8 = some ⟨oc8, od8, .func (PySem.W.fnOf "_law_machine" "_law_machine" (defArgs (topS 20)) (defBody (topS 20)) (defScope (topS 20)) .none kV8 dc8 pm8 an8 cd8 ct8), sl8⟩) (c8 : PySem.W.codeIn K cd8 "_law_machine" = true) (k8 : PySem.W.keepIn K (.ref f8) = true)
    (a9 : PySem.W.nsIn K mainGlobals "_law_word" = some (some (.ref f9))) (l9 : K.lookup f9 = some ⟨oc9, od9, .func (PySem.W.fnOf "_law_word" "_law_word" (defArgs (topS 21)) (defBody (topS 21)) (defScope (topS 21)) .none kV9 dc9 pm9 an9 cd9 ct9), sl9⟩) (c9 : PySem.W.codeIn K cd9 "_law_word" = true) (k9 : PySem.W.keepIn K (.ref f9) = true)
    (a10 : PySem.W.nsIn K mainGlobals "_law_come" = some (some (.ref f10))) (l10 : K.lookup f10 = some ⟨oc10, od10, .func (PySem.W.fnOf "_law_come" "_law_come" (defArgs (topS 22)) (defBody (topS 22)) (defScope (topS 22)) .none kV10 dc10 pm10 an10 cd10 ct10), sl10⟩) (c10 : PySem.W.codeIn K cd10 "_law_come" = true) (k10 : PySem.W.keepIn K (.ref f10) = true)
    (a11 : PySem.W.nsIn K mainGlobals "_law_refusal" = some (some (.ref f11))) (l11 : K.lookup f11 = some ⟨oc11, od11, .func (PySem.W.fnOf "_law_refusal" "_law_refusal" (defArgs (topS 23)) (defBody (topS 23)) (defScope (topS 23)) .none kV11 dc11 pm11 an11 cd11 ct11), sl11⟩) (c11 : PySem.W.codeIn K cd11 "_law_refusal" = true) (k11 : PySem.W.keepIn K (.ref f11) = true)
    (a12 : PySem.W.nsIn K mainGlobals "_law_later" = some (some (.ref f12))) (l12 : K.lookup f12 = some ⟨oc12, od12, .func (PySem.W.fnOf "_law_later" "_law_later" (defArgs (topS 24)) (defBody (topS 24)) (defScope (topS 24)) .none kV12 dc12 pm12 an12 cd12 ct12), sl12⟩) (c12 : PySem.W.codeIn K cd12 "_law_later" = true) (k12 : PySem.W.keepIn K (.ref f12) = true)
    (a13 : PySem.W.nsIn K mainGlobals "law" = some (some (.ref f13))) (l13 : K.lookup f13 = some ⟨oc13, od13, .func (PySem.W.fnOf "law" "law" (defArgs (topS 25)) (defBody (topS 25)) (defScope (topS 25)) .none kV13 dc13 pm13 an13 cd13 ct13), sl13⟩) (c13 : PySem.W.codeIn K cd13 "law" = true) (k13 : PySem.W.keepIn K (.ref f13) = true)
    (a14 : PySem.W.findIn K (.ref CW) "__init__" = some (some (.ref f14))) (i14 : PySem.W.isFn K (.ref f14) = true) (l14 : K.lookup f14 = some ⟨oc14, od14, .func (PySem.W.fnOf "__init__" "Watcher.__init__" (defArgs (inClass (topS 15) 0)) (defBody (inClass (topS 15) 0)) (defScope (inClass (topS 15) 0)) .none kV14 dc14 pm14 an14 cd14 ct14), sl14⟩) (c14 : PySem.W.codeIn K cd14 "Watcher.__init__" = true) (k14 : PySem.W.keepIn K (.ref f14) = true)
    (a15 : PySem.W.findIn K (.ref CW) "told" = some (some (.ref f15))) (i15 : PySem.W.isFn K (.ref f15) = true) (l15 : K.lookup f15 = some ⟨oc15, od15, .func (PySem.W.fnOf "told" "Watcher.told" (defArgs (inClass (topS 15) 1)) (defBody (inClass (topS 15) 1)) (defScope (inClass (topS 15) 1)) .none kV15 dc15 pm15 an15 cd15 ct15), sl15⟩) (c15 : PySem.W.codeIn K cd15 "Watcher.told" = true) (k15 : PySem.W.keepIn K (.ref f15) = true)
    (a16 : PySem.W.findIn K (.ref CW) "come" = some (some (.ref f16))) (i16 : PySem.W.isFn K (.ref f16) = true) (l16 : K.lookup f16 = some ⟨oc16, od16, .func (PySem.W.fnOf "come" "Watcher.come" (defArgs (inClass (topS 15) 2)) (defBody (inClass (topS 15) 2)) (defScope (inClass (topS 15) 2)) .none kV16 dc16 pm16 an16 cd16 ct16), sl16⟩) (c16 : PySem.W.codeIn K cd16 "Watcher.come" = true) (k16 : PySem.W.keepIn K (.ref f16) = true)
    (a17 : PySem.W.findIn K (.ref CW) "kept" = some (some (.ref f17))) (i17 : PySem.W.isFn K (.ref f17) = true) (l17 : K.lookup f17 = some ⟨oc17, od17, .func (PySem.W.fnOf "kept" "Watcher.kept" (defArgs (inClass (topS 15) 3)) (defBody (inClass (topS 15) 3)) (defScope (inClass (topS 15) 3)) .none kV17 dc17 pm17 an17 cd17 ct17), sl17⟩) (c17 : PySem.W.codeIn K cd17 "Watcher.kept" = true) (k17 : PySem.W.keepIn K (.ref f17) = true)
    (z_ValueError : PySem.W.nsIn K mainGlobals "ValueError" = some none)
    (z_all : PySem.W.nsIn K mainGlobals "all" = some none)
    (z_any : PySem.W.nsIn K mainGlobals "any" = some none)
    (z_bool : PySem.W.nsIn K mainGlobals "bool" = some none)
    (z_int : PySem.W.nsIn K mainGlobals "int" = some none)
    (z_isinstance : PySem.W.nsIn K mainGlobals "isinstance" = some none)
    (z_len : PySem.W.nsIn K mainGlobals "len" = some none)
    (z_list : PySem.W.nsIn K mainGlobals "list" = some none)
    (z_range : PySem.W.nsIn K mainGlobals "range" = some none)
    (z_set : PySem.W.nsIn K mainGlobals "set" = some none)
    (z_sorted : PySem.W.nsIn K mainGlobals "sorted" = some none)
    (z_tuple : PySem.W.nsIn K mainGlobals "tuple" = some none)
    {t_MOST_BOXES : Tok} (y_MOST_BOXES : PySem.W.nsIn K mainGlobals "MOST_BOXES" = some (some (.int 6 t_MOST_BOXES)))
    {t_MOST_STATES : Tok} (y_MOST_STATES : PySem.W.nsIn K mainGlobals "MOST_STATES" = some (some (.int 400 t_MOST_STATES)))
    {C_BadMachine : Addr} (xa_BadMachine : PySem.W.nsIn K mainGlobals "BadMachine" = some (some (.ref C_BadMachine))) (xx_BadMachine : PySem.W.excIn K C_BadMachine [.type "ValueError", .type "Exception", .type "BaseException", .type "object"] "ValueError.__new__" = true)
    (xk_BadMachine : PySem.W.keepIn K (.ref C_BadMachine) = true) (xs_BadMachine : PySem.W.subIn K (.ref C_BadMachine) (.type "BaseException") = some true) (xt_BadMachine : PySem.W.typeIn K (.ref C_BadMachine) = some (.type "type"))
    {C_BadText : Addr} (xa_BadText : PySem.W.nsIn K mainGlobals "BadText" = some (some (.ref C_BadText))) (xx_BadText : PySem.W.excIn K C_BadText [.type "ValueError", .type "Exception", .type "BaseException", .type "object"] "ValueError.__new__" = true)
    (xk_BadText : PySem.W.keepIn K (.ref C_BadText) = true) (xs_BadText : PySem.W.subIn K (.ref C_BadText) (.type "BaseException") = some true) (xt_BadText : PySem.W.typeIn K (.ref C_BadText) = some (.type "type"))
    {C_BadWord : Addr} (xa_BadWord : PySem.W.nsIn K mainGlobals "BadWord" = some (some (.ref C_BadWord))) (xx_BadWord : PySem.W.excIn K C_BadWord [.type "ValueError", .type "Exception", .type "BaseException", .type "object"] "ValueError.__new__" = true)
    (xk_BadWord : PySem.W.keepIn K (.ref C_BadWord) = true) (xs_BadWord : PySem.W.subIn K (.ref C_BadWord) (.type "BaseException") = some true) (xt_BadWord : PySem.W.typeIn K (.ref C_BadWord) = some (.type "type"))
    {C_TooMany : Addr} (xa_TooMany : PySem.W.nsIn K mainGlobals "TooMany" = some (some (.ref C_TooMany))) (xx_TooMany : PySem.W.excIn K C_TooMany [.type "ValueError", .type "Exception", .type "BaseException", .type "object"] "ValueError.__new__" = true)
    (xk_TooMany : PySem.W.keepIn K (.ref C_TooMany) = true) (xs_TooMany : PySem.W.subIn K (.ref C_TooMany) (.type "BaseException") = some true) (xt_TooMany : PySem.W.typeIn K (.ref C_TooMany) = some (.type "type"))
    (ea_BadMachine : PySem.W.findIn K (.ref C_BadMachine) "__getattribute__" = some (some (.builtin "BaseException.__getattribute__"))) (eb_BadMachine : PySem.W.findIn K (.ref C_BadMachine) "__getattr__" = some none) (ed_BadMachine : PySem.W.hasDictIn K C_BadMachine = true) (ee_BadMachine : PySem.W.findIn K (.ref C_BadMachine) "__class__" = some (some (.builtin "object.__class__"))) (eh_BadMachine : PySem.W.mroIn K C_BadMachine (.type "object") = some true)
    (ea_BadText : PySem.W.findIn K (.ref C_BadText) "__getattribute__" = some (some (.builtin "BaseException.__getattribute__"))) (eb_BadText : PySem.W.findIn K (.ref C_BadText) "__getattr__" = some none) (ed_BadText : PySem.W.hasDictIn K C_BadText = true) (ee_BadText : PySem.W.findIn K (.ref C_BadText) "__class__" = some (some (.builtin "object.__class__"))) (eh_BadText : PySem.W.mroIn K C_BadText (.type "object") = some true)
    (ea_BadWord : PySem.W.findIn K (.ref C_BadWord) "__getattribute__" = some (some (.builtin "BaseException.__getattribute__"))) (eb_BadWord : PySem.W.findIn K (.ref C_BadWord) "__getattr__" = some none) (ed_BadWord : PySem.W.hasDictIn K C_BadWord = true) (ee_BadWord : PySem.W.findIn K (.ref C_BadWord) "__class__" = some (some (.builtin "object.__class__"))) (eh_BadWord : PySem.W.mroIn K C_BadWord (.type "object") = some true)
    (ea_TooMany : PySem.W.findIn K (.ref C_TooMany) "__getattribute__" = some (some (.builtin "BaseException.__getattribute__"))) (eb_TooMany : PySem.W.findIn K (.ref C_TooMany) "__getattr__" = some none) (ed_TooMany : PySem.W.hasDictIn K C_TooMany = true) (ee_TooMany : PySem.W.findIn K (.ref C_TooMany) "__class__" = some (some (.builtin "object.__class__"))) (eh_TooMany : PySem.W.mroIn K C_TooMany (.type "object") = some true)
    (ef : PySem.W.specialIn K (.builtin "object.__class__") "__get__" = some (some (.builtin "getset_descriptor.__get__"))) (eg : PySem.W.takesIn K (.builtin "object.__class__") = some true)
    (ik_BadMachine_BadMachine : PySem.W.kitOne K (.ref C_BadMachine) (.ref C_BadMachine) = some true)
    (ik_BadMachine_BadText : PySem.W.kitOne K (.ref C_BadMachine) (.ref C_BadText) = some false)
    (ik_BadMachine_BadWord : PySem.W.kitOne K (.ref C_BadMachine) (.ref C_BadWord) = some false)
    (ik_BadMachine_TooMany : PySem.W.kitOne K (.ref C_BadMachine) (.ref C_TooMany) = some false)
    (ik_BadMachine_ValueError : PySem.W.kitOne K (.ref C_BadMachine) (.type "ValueError") = some true)
    (ik_BadText_BadMachine : PySem.W.kitOne K (.ref C_BadText) (.ref C_BadMachine) = some false)
    (ik_BadText_BadText : PySem.W.kitOne K (.ref C_BadText) (.ref C_BadText) = some true)
    (ik_BadText_BadWord : PySem.W.kitOne K (.ref C_BadText) (.ref C_BadWord) = some false)
    (ik_BadText_TooMany : PySem.W.kitOne K (.ref C_BadText) (.ref C_TooMany) = some false)
    (ik_BadText_ValueError : PySem.W.kitOne K (.ref C_BadText) (.type "ValueError") = some true)
    (ik_BadWord_BadMachine : PySem.W.kitOne K (.ref C_BadWord) (.ref C_BadMachine) = some false)
    (ik_BadWord_BadText : PySem.W.kitOne K (.ref C_BadWord) (.ref C_BadText) = some false)
    (ik_BadWord_BadWord : PySem.W.kitOne K (.ref C_BadWord) (.ref C_BadWord) = some true)
    (ik_BadWord_TooMany : PySem.W.kitOne K (.ref C_BadWord) (.ref C_TooMany) = some false)
    (ik_BadWord_ValueError : PySem.W.kitOne K (.ref C_BadWord) (.type "ValueError") = some true)
    (ik_TooMany_BadMachine : PySem.W.kitOne K (.ref C_TooMany) (.ref C_BadMachine) = some false)
    (ik_TooMany_BadText : PySem.W.kitOne K (.ref C_TooMany) (.ref C_BadText) = some false)
    (ik_TooMany_BadWord : PySem.W.kitOne K (.ref C_TooMany) (.ref C_BadWord) = some false)
    (ik_TooMany_TooMany : PySem.W.kitOne K (.ref C_TooMany) (.ref C_TooMany) = some true)
    (ik_TooMany_ValueError : PySem.W.kitOne K (.ref C_TooMany) (.type "ValueError") = some true)
    {C_BoxError : Addr} (xa_BoxError : PySem.W.nsIn K mainGlobals "BoxError" = some (some (.ref C_BoxError))) (xs_BoxError : PySem.W.subIn K (.ref C_BoxError) (.type "BaseException") = some true) (ed_BoxError : PySem.W.hasDictIn K C_BoxError = true) (xt_BoxError : PySem.W.typeIn K (.ref C_BoxError) = some (.type "type"))
    (xm_BoxError_BadMachine : PySem.W.subIn K (.ref C_BadMachine) (.ref C_BoxError) = some true)
    (xm_BoxError_BadText : PySem.W.subIn K (.ref C_BadText) (.ref C_BoxError) = some true)
    (xm_BoxError_BadWord : PySem.W.subIn K (.ref C_BadWord) (.ref C_BoxError) = some true)
    (xm_BoxError_TooMany : PySem.W.subIn K (.ref C_TooMany) (.ref C_BoxError) = some true)
    : ∃ fd : FuncData, (∀ (s : Shared) (v : Value), BindsTo s fd ⟨[v], []⟩ [("_law_script", v)]) ∧ ∀ base : Heap, K.In base → base.Ns mainGlobals mg → FnOk P w K mg base (L2.CX P w) 5 fa fd ["_law_script"] (spLaw K) := by
  have e := hfa.symm.trans (PySem.W.mg_of X G a13)
  cases e
  have F0 := fun_mk (st := (topS 9)) l0 c0 k0
  have b0 := F0.binds (ps := ["machine", "state"]) fun _ _ _ _ _ _ us hl => match us, hl with | [_, _], _ => rfl
  have F1 := fun_mk (st := (topS 10)) l1 c1 k1
  have b1 := F1.binds (ps := ["machine"]) fun _ _ _ _ _ _ us hl => match us, hl with | [_], _ => rfl
  have F2 := fun_mk (st := (topS 11)) l2 c2 k2
  have b2 := F2.binds (ps := ["machine", "here", "letter"]) fun _ _ _ _ _ _ us hl => match us, hl with | [_, _, _], _ => rfl
  have F3 := fun_mk (st := (topS 12)) l3 c3 k3
  have b3 := F3.binds (ps := ["machine"]) fun _ _ _ _ _ _ us hl => match us, hl with | [_], _ => rfl
  have F4 := fun_mk (st := (topS 14)) l4 c4 k4
  have b4 := F4.binds (ps := ["machine", "wished"]) fun _ _ _ _ _ _ us hl => match us, hl with | [_, _], _ => rfl
  have F5 := fun_mk (st := (topS 17)) l5 c5 k5
  have b5 := F5.binds (ps := ["_law_script", "_law_k"]) fun _ _ _ _ _ _ us hl => match us, hl with | [_, _], _ => rfl
  have F6 := fun_mk (st := (topS 18)) l6 c6 k6
  have b6 := F6.binds (ps := ["_law_script", "_law_k"]) fun _ _ _ _ _ _ us hl => match us, hl with | [_, _], _ => rfl
  have F7 := fun_mk (st := (topS 19)) l7 c7 k7
  have b7 := F7.binds (ps := ["_law_script", "_law_k", "_law_many", "_law_most"]) fun _ _ _ _ _ _ us hl => match us, hl with | [_, _, _, _], _ => rfl
  have F8 := fun_mk (st := (topS 20)) l8 c8 k8
  have b8 := F8.binds (ps := ["_law_script", "_law_k", "_law_most"]) fun _ _ _ _ _ _ us hl => match us, hl with | [_, _, _], _ => rfl
  have F9 := fun_mk (st := (topS 21)) l9 c9 k9
  have b9 := F9.binds (ps := ["_law_script", "_law_k", "_law_most"]) fun _ _ _ _ _ _ us hl => match us, hl with | [_, _, _], _ => rfl
  have F10 := fun_mk (st := (topS 22)) l10 c10 k10
  have b10 := F10.binds (ps := ["_law_machine_here", "_law_state", "_law_held", "_law_letter"]) fun _ _ _ _ _ _ us hl => match us, hl with | [_, _, _, _], _ => rfl
  have F11 := fun_mk (st := (topS 23)) l11 c11 k11
  have b11 := F11.binds (ps := ["_law_kept"]) fun _ _ _ _ _ _ us hl => match us, hl with | [_], _ => rfl
  have F12 := fun_mk (st := (topS 24)) l12 c12 k12
  have b12 := F12.binds (ps := ["_law_machine_here", "_law_state"]) fun _ _ _ _ _ _ us hl => match us, hl with | [_, _], _ => rfl
  have F13 := fun_mk (st := (topS 25)) l13 c13 k13
  have b13 := F13.binds (ps := ["_law_script"]) fun _ _ _ _ _ _ us hl => match us, hl with | [_], _ => rfl
  have F14 := fun_mk (st := (inClass (topS 15) 0)) l14 c14 k14
  have b14 := F14.binds (ps := ["self", "machine"]) fun _ _ _ _ _ _ us hl => match us, hl with | [_, _], _ => rfl
  have F15 := fun_mk (st := (inClass (topS 15) 1)) l15 c15 k15
  have b15 := F15.binds (ps := ["self"]) fun _ _ _ _ _ _ us hl => match us, hl with | [_], _ => rfl
  have F16 := fun_mk (st := (inClass (topS 15) 2)) l16 c16 k16
  have b16 := F16.binds (ps := ["self", "letter"]) fun _ _ _ _ _ _ us hl => match us, hl with | [_, _], _ => rfl
  have F17 := fun_mk (st := (inClass (topS 15) 3)) l17 c17 k17
  have b17 := F17.binds (ps := ["self"]) fun _ _ _ _ _ _ us hl => match us, hl with | [_], _ => rfl
  let fd0 := PySem.W.fnOf "look_state" "look_state" (defArgs (topS 9)) (defBody (topS 9)) (defScope (topS 9)) .none kV0 dc0 pm0 an0 cd0 ct0
  let FA : Nat → Addr := fun i => ([f0, f1, f2, f3, f4, f5, f6, f7, f8, f9, f10, f11, f12, fa, f14, f15, f16, f17, CW] : List Addr).getD i 0
  let FD : Nat → FuncData := fun i => ([PySem.W.fnOf "look_state" "look_state" (defArgs (topS 9)) (defBody (topS 9)) (defScope (topS 9)) .none kV0 dc0 pm0 an0 cd0 ct0, PySem.W.fnOf "look_machine" "look_machine" (defArgs (topS 10)) (defBody (topS 10)) (defScope (topS 10)) .none kV1 dc1 pm1 an1 cd1 ct1, PySem.W.fnOf "stepped" "stepped" (defArgs (topS 11)) (defBody (topS 11)) (defScope (topS 11)) .none kV2 dc2 pm2 an2 cd2 ct2, PySem.W.fnOf "goals_of" "goals_of" (defArgs (topS 12)) (defBody (topS 12)) (defScope (topS 12)) .none kV3 dc3 pm3 an3 cd3 ct3, PySem.W.fnOf "can_come" "can_come" (defArgs (topS 14)) (defBody (topS 14)) (defScope (topS 14)) .none kV4 dc4 pm4 an4 cd4 ct4, PySem.W.fnOf "_law_cell" "_law_cell" (defArgs (topS 17)) (defBody (topS 17)) (defScope (topS 17)) .none kV5 dc5 pm5 an5 cd5 ct5, PySem.W.fnOf "_law_mix" "_law_mix" (defArgs (topS 18)) (defBody (topS 18)) (defScope (topS 18)) .none kV6 dc6 pm6 an6 cd6 ct6, PySem.W.fnOf "_law_sources" "_law_sources" (defArgs (topS 19)) (defBody (topS 19)) (defScope (topS 19)) .none kV7 dc7 pm7 an7 cd7 ct7, PySem.W.fnOf "_law_machine" "_law_machine" (defArgs (topS 20)) (defBody (topS 20)) (defScope (topS 20)) .none kV8 dc8 pm8 an8 cd8 ct8, PySem.W.fnOf "_law_word" "_law_word" (defArgs (topS 21)) (defBody (topS 21)) (defScope (topS 21)) .none kV9 dc9 pm9 an9 cd9 ct9, PySem.W.fnOf "_law_come" "_law_come" (defArgs (topS 22)) (defBody (topS 22)) (defScope (topS 22)) .none kV10 dc10 pm10 an10 cd10 ct10, PySem.W.fnOf "_law_refusal" "_law_refusal" (defArgs (topS 23)) (defBody (topS 23)) (defScope (topS 23)) .none kV11 dc11 pm11 an11 cd11 ct11, PySem.W.fnOf "_law_later" "_law_later" (defArgs (topS 24)) (defBody (topS 24)) (defScope (topS 24)) .none kV12 dc12 pm12 an12 cd12 ct12, PySem.W.fnOf "law" "law" (defArgs (topS 25)) (defBody (topS 25)) (defScope (topS 25)) .none kV13 dc13 pm13 an13 cd13 ct13, PySem.W.fnOf "__init__" "Watcher.__init__" (defArgs (inClass (topS 15) 0)) (defBody (inClass (topS 15) 0)) (defScope (inClass (topS 15) 0)) .none kV14 dc14 pm14 an14 cd14 ct14, PySem.W.fnOf "told" "Watcher.told" (defArgs (inClass (topS 15) 1)) (defBody (inClass (topS 15) 1)) (defScope (inClass (topS 15) 1)) .none kV15 dc15 pm15 an15 cd15 ct15, PySem.W.fnOf "come" "Watcher.come" (defArgs (inClass (topS 15) 2)) (defBody (inClass (topS 15) 2)) (defScope (inClass (topS 15) 2)) .none kV16 dc16 pm16 an16 cd16 ct16, PySem.W.fnOf "kept" "Watcher.kept" (defArgs (inClass (topS 15) 3)) (defBody (inClass (topS 15) 3)) (defScope (inClass (topS 15) 3)) .none kV17 dc17 pm17 an17 cd17 ct17] : List FuncData).getD i fd0
  let AX : XN → Addr := fun x => match x with | .mach => C_BadMachine | .wrd => C_BadWord | .many => C_TooMany | .txt => C_BadText
  have T : Txt K mg FA FD AX := {
    f_look_state := F0, g_look_state := PySem.W.mg_of X G a0, b_look_state := b0,
    f_look_machine := F1, g_look_machine := PySem.W.mg_of X G a1, b_look_machine := b1,
    f_goals_of := F3, g_goals_of := PySem.W.mg_of X G a3, b_goals_of := b3,
    f_can_come := F4, g_can_come := PySem.W.mg_of X G a4, b_can_come := b4,
    f_stepped := F2, g_stepped := PySem.W.mg_of X G a2, b_stepped := b2,
    f__law_cell := F5, g__law_cell := PySem.W.mg_of X G a5, b__law_cell := b5,
    f__law_mix := F6, g__law_mix := PySem.W.mg_of X G a6, b__law_mix := b6,
    f__law_sources := F7, g__law_sources := PySem.W.mg_of X G a7, b__law_sources := b7,
    f__law_machine := F8, g__law_machine := PySem.W.mg_of X G a8, b__law_machine := b8,
    f__law_word := F9, g__law_word := PySem.W.mg_of X G a9, b__law_word := b9,
    f__law_come := F10, g__law_come := PySem.W.mg_of X G a10, b__law_come := b10,
    f__law_refusal := F11, g__law_refusal := PySem.W.mg_of X G a11, b__law_refusal := b11,
    f__law_later := F12, g__law_later := PySem.W.mg_of X G a12, b__law_later := b12,
    wf_told := F15, wb_told := b15,
    wm_told := ⟨a15, i15, k15⟩,
    wf_kept := F17, wb_kept := b17,
    wm_kept := ⟨a17, i17, k17⟩,
    wf_come := F16, wb_come := b16,
    wm_come := ⟨a16, i16, k16⟩,
    wf___init__ := F14, wb___init__ := b14,
    wmk := ⟨mk, a14, i14, kc⟩,
    f_law := F13, g_law := PySem.W.mg_of X G a13, b_law := b13,
    wc := wa, wcl := ⟨pg, hd, po, sa⟩, wg := PySem.W.mg_of X G wa,
    wn_can_be := wn_can_be,
    wn_can_fail := wn_can_fail,
    wn_here := wn_here,
    wn_machine := wn_machine,
    n_ValueError := PySem.W.mg_none_of X G z_ValueError,
    n_all := PySem.W.mg_none_of X G z_all,
    n_any := PySem.W.mg_none_of X G z_any,
    n_bool := PySem.W.mg_none_of X G z_bool,
    n_int := PySem.W.mg_none_of X G z_int,
    n_isinstance := PySem.W.mg_none_of X G z_isinstance,
    n_len := PySem.W.mg_none_of X G z_len,
    n_list := PySem.W.mg_none_of X G z_list,
    n_range := PySem.W.mg_none_of X G z_range,
    n_set := PySem.W.mg_none_of X G z_set,
    n_sorted := PySem.W.mg_none_of X G z_sorted,
    n_tuple := PySem.W.mg_none_of X G z_tuple,
    c_MOST_BOXES := ⟨_, PySem.W.mg_of X G y_MOST_BOXES⟩,
    c_MOST_STATES := ⟨_, PySem.W.mg_of X G y_MOST_STATES⟩,
    x_BadMachine := xx_BadMachine, g_BadMachine := PySem.W.mg_of X G xa_BadMachine, k_BadMachine := xk_BadMachine, s_BadMachine := xs_BadMachine, t_BadMachine := xt_BadMachine,
    x_BadText := xx_BadText, g_BadText := PySem.W.mg_of X G xa_BadText, k_BadText := xk_BadText, s_BadText := xs_BadText, t_BadText := xt_BadText,
    x_BadWord := xx_BadWord, g_BadWord := PySem.W.mg_of X G xa_BadWord, k_BadWord := xk_BadWord, s_BadWord := xs_BadWord, t_BadWord := xt_BadWord,
    x_TooMany := xx_TooMany, g_TooMany := PySem.W.mg_of X G xa_TooMany, k_TooMany := xk_TooMany, s_TooMany := xs_TooMany, t_TooMany := xt_TooMany,
    ec := fun xn => match xn with | .mach => ⟨ea_BadMachine, eb_BadMachine, xs_BadMachine, ed_BadMachine, ee_BadMachine, ef, eg, eh_BadMachine⟩ | .txt => ⟨ea_BadText, eb_BadText, xs_BadText, ed_BadText, ee_BadText, ef, eg, eh_BadText⟩ | .wrd => ⟨ea_BadWord, eb_BadWord, xs_BadWord, ed_BadWord, ee_BadWord, ef, eg, eh_BadWord⟩ | .many => ⟨ea_TooMany, eb_TooMany, xs_TooMany, ed_TooMany, ee_TooMany, ef, eg, eh_TooMany⟩,
    is_BadMachine := fun xn => match xn with | .mach => ik_BadMachine_BadMachine | .txt => ik_BadText_BadMachine | .wrd => ik_BadWord_BadMachine | .many => ik_TooMany_BadMachine,
    is_BadText := fun xn => match xn with | .mach => ik_BadMachine_BadText | .txt => ik_BadText_BadText | .wrd => ik_BadWord_BadText | .many => ik_TooMany_BadText,
    is_BadWord := fun xn => match xn with | .mach => ik_BadMachine_BadWord | .txt => ik_BadText_BadWord | .wrd => ik_BadWord_BadWord | .many => ik_TooMany_BadWord,
    is_TooMany := fun xn => match xn with | .mach => ik_BadMachine_TooMany | .txt => ik_BadText_TooMany | .wrd => ik_BadWord_TooMany | .many => ik_TooMany_TooMany,
    is_ValueError := fun xn => match xn with | .mach => ik_BadMachine_ValueError | .txt => ik_BadText_ValueError | .wrd => ik_BadWord_ValueError | .many => ik_TooMany_ValueError,
    c_BoxError := ⟨_, PySem.W.mg_of X G xa_BoxError, fun xn => match xn with | .mach => PySem.W.exm_ref xs_BoxError ed_BoxError xt_BoxError xm_BoxError_BadMachine | .txt => PySem.W.exm_ref xs_BoxError ed_BoxError xt_BoxError xm_BoxError_BadText | .wrd => PySem.W.exm_ref xs_BoxError ed_BoxError xt_BoxError xm_BoxError_BadWord | .many => PySem.W.exm_ref xs_BoxError ed_BoxError xt_BoxError xm_BoxError_TooMany⟩ }
  exact ⟨_, fun s v => .of_eq rfl, fun base _ _ => (ok_law (P := P) (w := w) (base := base) T).imp law_sp⟩
end WK
open PySem PySem.W PyProof.Rows
set_option maxHeartbeats 0 in
theorem PySem.Challenge.cw_boxword_k60_whole_watched_holds : PySem.Challenge.rw_boxword_k60_whole_watched.Holds := by
  w_on; o_law; k_head; (case hw => w_witness2)
  k_fill
  refine L2.walk_of (l := PySem.Challenge.rw_boxword_k60_whole_watched) (n := 63) (k := 5) (x := "_law_script") (CX := fun w => L2.CX PySem.Challenge.rw_boxword_k60_whole_watched.prog w) (sp := fun w => WK.spLaw _) rfl (by decide) rfl ⟨rfl, by decide, by decide⟩ (fun w h Y => PySem.W.kIn_of Y) ?F (fun _ _ a ns hl _ hS => ⟨a, ns, rfl, hS, hl, fun _ => rfl⟩) (fun _ _ _ _ _ h => WK.cx_no h)
  case F =>
    intro w mg fa h KX G hmg
    refine' WK.all_mk KX G hmg ?wa ?pg ?hd ?po ?sa ?mk ?kc ?wn_can_be ?wn_can_fail ?wn_here ?wn_machine ?a0 ?l0 ?c0 ?k0 ?a1 ?l1 ?c1 ?k1 ?a2 ?l2 ?c2 ?k2 ?a3 ?l3 ?c3 ?k3 ?a4 ?l4 ?c4 ?k4 ?a5 ?l5 ?c5 ?k5 ?a6 ?l6 ?c6 ?k6 ?a7 ?l7 ?c7 ?k7 ?a8 ?l8 ?c8 ?k8 ?a9 ?l9 ?c9 ?k9 ?a10 ?l10 ?c10 ?k10 ?a11 ?l11 ?c11 ?k11 ?a12 ?l12 ?c12 ?k12 ?a13 ?l13 ?c13 ?k13 ?a14 ?i14 ?l14 ?c14 ?k14 ?a15 ?i15 ?l15 ?c15 ?k15 ?a16 ?i16 ?l16 ?c16 ?k16 ?a17 ?i17 ?l17 ?c17 ?k17 ?z_ValueError ?z_all ?z_any ?z_bool ?z_int ?z_isinstance ?z_len ?z_list ?z_range ?z_set ?z_sorted ?z_tuple ?y_MOST_BOXES ?y_MOST_STATES ?xa_BadMachine ?xx_BadMachine ?xk_BadMachine ?xs_BadMachine ?xt_BadMachine ?xa_BadText ?xx_BadText ?xk_BadText ?xs_BadText ?xt_BadText ?xa_BadWord ?xx_BadWord ?xk_BadWord ?xs_BadWord ?xt_BadWord ?xa_TooMany ?xx_TooMany ?xk_TooMany ?xs_TooMany ?xt_TooMany ?ea_BadMachine ?eb_BadMachine ?ed_BadMachine ?ee_BadMachine ?eh_BadMachine ?ea_BadText ?eb_BadText ?ed_BadText ?ee_BadText ?eh_BadText ?ea_BadWord ?eb_BadWord ?ed_BadWord ?ee_BadWord ?eh_BadWord ?ea_TooMany ?eb_TooMany ?ed_TooMany ?ee_TooMany ?eh_TooMany ?ef ?eg ?ik_BadMachine_BadMachine ?ik_BadMachine_BadText ?ik_BadMachine_BadWord ?ik_BadMachine_TooMany ?ik_BadMachine_ValueError ?ik_BadText_BadMachine ?ik_BadText_BadText ?ik_BadText_BadWord ?ik_BadText_TooMany ?ik_BadText_ValueError ?ik_BadWord_BadMachine ?ik_BadWord_BadText ?ik_BadWord_BadWord ?ik_BadWord_TooMany ?ik_BadWord_ValueError ?ik_TooMany_BadMachine ?ik_TooMany_BadText ?ik_TooMany_BadWord ?ik_TooMany_TooMany ?ik_TooMany_ValueError ?xa_BoxError ?xs_BoxError ?ed_BoxError ?xt_BoxError ?xm_BoxError_BadMachine ?xm_BoxError_BadText ?xm_BoxError_BadWord ?xm_BoxError_TooMany
    (case wa => k_is)
    (case pg => k_is)
    (case hd => k_is)
    (case po => k_is)
    (case sa => k_is)
    (case mk => k_is)
    (case kc => k_is)
    (case wn_can_be => k_is)
    (case wn_can_fail => k_is)
    (case wn_here => k_is)
    (case wn_machine => k_is)
    (case a0 => k_is)
    (case l0 => k_is)
    (case c0 => k_is)
    (case k0 => k_is)
    (case a1 => k_is)
    (case l1 => k_is)
    (case c1 => k_is)
    (case k1 => k_is)
    (case a2 => k_is)
    (case l2 => k_is)
    (case c2 => k_is)
    (case k2 => k_is)
    (case a3 => k_is)
    (case l3 => k_is)
    (case c3 => k_is)
    (case k3 => k_is)
    (case a4 => k_is)
    (case l4 => k_is)
    (case c4 => k_is)
    (case k4 => k_is)
    (case a5 => k_is)
    (case l5 => k_is)
    (case c5 => k_is)
    (case k5 => k_is)
    (case a6 => k_is)
    (case l6 => k_is)
    (case c6 => k_is)
    (case k6 => k_is)
    (case a7 => k_is)
    (case l7 => k_is)
    (case c7 => k_is)
    (case k7 => k_is)
    (case a8 => k_is)
    (case l8 => k_is)
    (case c8 => k_is)
    (case k8 => k_is)
    (case a9 => k_is)
    (case l9 => k_is)
    (case c9 => k_is)
    (case k9 => k_is)
    (case a10 => k_is)
    (case l10 => k_is)
    (case c10 => k_is)
    (case k10 => k_is)
    (case a11 => k_is)
    (case l11 => k_is)
    (case c11 => k_is)
    (case k11 => k_is)
    (case a12 => k_is)
    (case l12 => k_is)
    (case c12 => k_is)
    (case k12 => k_is)
    (case a13 => k_is)
    (case l13 => k_is)
    (case c13 => k_is)
    (case k13 => k_is)
    (case a14 => k_is)
    (case i14 => k_is)
    (case l14 => k_is)
    (case c14 => k_is)
    (case k14 => k_is)
    (case a15 => k_is)
    (case i15 => k_is)
    (case l15 => k_is)
    (case c15 => k_is)
    (case k15 => k_is)
    (case a16 => k_is)
    (case i16 => k_is)
    (case l16 => k_is)
    (case c16 => k_is)
    (case k16 => k_is)
    (case a17 => k_is)
    (case i17 => k_is)
    (case l17 => k_is)
    (case c17 => k_is)
    (case k17 => k_is)
    (case z_ValueError => k_is)
    (case z_all => k_is)
    (case z_any => k_is)
    (case z_bool => k_is)
    (case z_int => k_is)
    (case z_isinstance => k_is)
    (case z_len => k_is)
    (case z_list => k_is)
    (case z_range => k_is)
    (case z_set => k_is)
    (case z_sorted => k_is)
    (case z_tuple => k_is)
    (case y_MOST_BOXES => k_is)
    (case y_MOST_STATES => k_is)
    (case xa_BadMachine => k_is)
    (case xx_BadMachine => first | k_is | k_exc)
    (case xk_BadMachine => k_is)
    (case xs_BadMachine => k_is)
    (case xt_BadMachine => k_is)
    (case xa_BadText => k_is)
    (case xx_BadText => first | k_is | k_exc)
    (case xk_BadText => k_is)
    (case xs_BadText => k_is)
    (case xt_BadText => k_is)
    (case xa_BadWord => k_is)
    (case xx_BadWord => first | k_is | k_exc)
    (case xk_BadWord => k_is)
    (case xs_BadWord => k_is)
    (case xt_BadWord => k_is)
    (case xa_TooMany => k_is)
    (case xx_TooMany => first | k_is | k_exc)
    (case xk_TooMany => k_is)
    (case xs_TooMany => k_is)
    (case xt_TooMany => k_is)
    (case ea_BadMachine => k_is)
    (case eb_BadMachine => k_is)
    (case ed_BadMachine => k_is)
    (case ee_BadMachine => k_is)
    (case eh_BadMachine => k_is)
    (case ea_BadText => k_is)
    (case eb_BadText => k_is)
    (case ed_BadText => k_is)
    (case ee_BadText => k_is)
    (case eh_BadText => k_is)
    (case ea_BadWord => k_is)
    (case eb_BadWord => k_is)
    (case ed_BadWord => k_is)
    (case ee_BadWord => k_is)
    (case eh_BadWord => k_is)
    (case ea_TooMany => k_is)
    (case eb_TooMany => k_is)
    (case ed_TooMany => k_is)
    (case ee_TooMany => k_is)
    (case eh_TooMany => k_is)
    (case ef => k_is)
    (case eg => k_is)
    (case ik_BadMachine_BadMachine => kit_is)
    (case ik_BadMachine_BadText => kit_is)
    (case ik_BadMachine_BadWord => kit_is)
    (case ik_BadMachine_TooMany => kit_is)
    (case ik_BadMachine_ValueError => kit_is)
    (case ik_BadText_BadMachine => kit_is)
    (case ik_BadText_BadText => kit_is)
    (case ik_BadText_BadWord => kit_is)
    (case ik_BadText_TooMany => kit_is)
    (case ik_BadText_ValueError => kit_is)
    (case ik_BadWord_BadMachine => kit_is)
    (case ik_BadWord_BadText => kit_is)
    (case ik_BadWord_BadWord => kit_is)
    (case ik_BadWord_TooMany => kit_is)
    (case ik_BadWord_ValueError => kit_is)
    (case ik_TooMany_BadMachine => kit_is)
    (case ik_TooMany_BadText => kit_is)
    (case ik_TooMany_BadWord => kit_is)
    (case ik_TooMany_TooMany => kit_is)
    (case ik_TooMany_ValueError => kit_is)
    (case xa_BoxError => k_is)
    (case xs_BoxError => k_is)
    (case ed_BoxError => k_is)
    (case xt_BoxError => k_is)
    (case xm_BoxError_BadMachine => k_is)
    (case xm_BoxError_BadText => k_is)
    (case xm_BoxError_BadWord => k_is)
    (case xm_BoxError_TooMany => k_is)

