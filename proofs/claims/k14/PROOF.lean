import PyProof.Rows.All
import Wide.All
import OpenK.AllK
import Wide.FinOn
import HandS.ForMost
import HandS.Lambda
import HandS.IsInst
import HandS.DictComp
import HandS.TupAny
import HandS.TupMul
import HandS.EndTab
import HandS.ExcSuper
import HandS.ExcInit
import HandS.TupSets
import HandS.Conv
import HandS.Style
import HandS.RaiseMore
import KE.SortData
import KE.SortLaws
import KE.DatumIndex
import KE.KDictPairs
import KE.KTupSum
import KE.DataMinMax
import KE.DatumOrd
import KE.KDictKeyed
import KE.GoesMore
import KE.GoesEnum
import PySem.Challenge.RW_farstory_k14_whole_told_spans_that_fit_n
import PyProof.ListMulRoad
import PyProof.FactsAll.tuple_2
import KE.KExcSuper
import KE.KSuper
import KE.OsGo
import KE.KIsAll
import PyProof.IsiTuple
import HandS.WordsExc
import PyProof.Rows.RegFStrParts
import PyProof.FitsInt
/-! K14Ev -/
set_option Elab.async false
set_option linter.all false
set_option maxRecDepth 100000
set_option maxHeartbeats 2000000
/-! The data layer: what a value stands for, away from the addresses that may change. -/
namespace K14
open PySem PySem.Spec PyProof.Rows L2

mutual
/-- the value v stands for the data d, none of whose objects lies at N -/
inductive DN (N : Addr → Prop) (H : Hp) : V → PyData → Prop
  | non : DN N H .non .none
  | bl (b : Bool) : DN N H (.bl b) (.bool b)
  | int (i : Int) : DN N H (.int i) (.int i)
  | str (x : Str) : DN N H (.str x) (.str x)
  | lst {a : Addr} {xs : List V} {ds : List PyData} : ¬ N a → H a = some (.lst xs) → DNs N H xs ds → DN N H (.ref a) (.list ds)
  | tup {a : Addr} {xs : List V} {ds : List PyData} : ¬ N a → H a = some (.tup xs) → DNs N H xs ds → DN N H (.ref a) (.tuple ds)
inductive DNs (N : Addr → Prop) (H : Hp) : List V → List PyData → Prop
  | nil : DNs N H [] []
  | cons {v : V} {vs : List V} {d : PyData} {ds : List PyData} : DN N H v d → DNs N H vs ds → DNs N H (v :: vs) (d :: ds)
end

/-- all that is tracked stays -/
abbrev Ex (H H' : Hp) : Prop := Same H H'
theorem Ex.rfl' {H : Hp} : Ex H H := fun _ _ h => h
theorem ex_new {H : Hp} {p : Addr} {o : HO} (h : H p = none) : Ex H (upd H p o) := fun a u e => by
  rw [upd_ne (ne_of_none e h)]
  exact e
/-- a later heap: more addresses may change, none that was in use; what lay elsewhere stays -/
structure Le (N : Addr → Prop) (H : Hp) (N1 : Addr → Prop) (H1 : Hp) : Prop where
  sub : ∀ a, N a → N1 a
  new : ∀ a, N1 a → N a ∨ H a = none
  keep : ∀ a o, ¬ N a → H a = some o → H1 a = some o
theorem Le.refl {N : Addr → Prop} {H : Hp} : Le N H N H := ⟨fun _ h => h, fun _ h => .inl h, fun _ _ _ h => h⟩
theorem Le.of {N : Addr → Prop} {H H1 : Hp} (e : Ex H H1) : Le N H N H1 := ⟨fun _ h => h, fun _ h => .inl h, fun a o _ h => e a o h⟩
theorem Le.trans {N N1 N2 : Addr → Prop} {H H1 H2 : Hp} (a : Le N H N1 H1) (b : Le N1 H1 N2 H2) : Le N H N2 H2 where
  sub := fun x h => b.sub x (a.sub x h)
  new := fun x h => by
    rcases b.new x h with h | h
    · exact a.new x h
    · by_cases n : N x
      · exact .inl n
      · cases q : H x with
        | none => exact .inr rfl
        | some o => rw [a.keep x o n q] at h; cases h
  keep := fun x o n h => by
    refine b.keep x o (fun n1 => ?_) (a.keep x o n h)
    rcases a.new x n1 with z | z
    · exact n z
    · rw [z] at h; cases h
theorem Le.ex {N N1 : Addr → Prop} {H H1 H2 : Hp} (a : Le N H N1 H1) (e : Ex H1 H2) : Le N H N1 H2 := a.trans (Le.of e)
/-- one address more may change: a new one -/
theorem Le.add {N : Addr → Prop} {H : Hp} {b : Addr} (h : H b = none) : Le N H (fun a => N a ∨ a = b) H :=
  ⟨fun _ h => .inl h, fun a z => z.elim .inl fun e => .inr (by rw [e]; exact h), fun _ _ _ h => h⟩
/-- what may change are lists that stand -/
def NOk (N : Addr → Prop) (H : Hp) : Prop := ∀ a, N a → ∃ xs, H a = some (.lst xs)
theorem NOk.ex {N : Addr → Prop} {H H1 : Hp} (n : NOk N H) (e : Ex H H1) : NOk N H1 := fun a h => let ⟨xs, q⟩ := n a h; ⟨xs, e a _ q⟩
theorem NOk.fresh {N : Addr → Prop} {H : Hp} (n : NOk N H) {p : Addr} (h : H p = none) : ¬ N p := fun z => by
  obtain ⟨xs, q⟩ := n p z
  rw [h] at q
  cases q
theorem NOk.tup {N : Addr → Prop} {H : Hp} (n : NOk N H) {p : Addr} {xs : List V} (h : H p = some (.tup xs)) : ¬ N p := fun z => by
  obtain ⟨ys, q⟩ := n p z
  rw [h] at q
  cases q

mutual
theorem DN.imp {N N' : Addr → Prop} {H H' : Hp} (k : ∀ a o, ¬ N a → H a = some o → ¬ N' a ∧ H' a = some o) : ∀ (d : PyData) (v : V), DN N H v d → DN N' H' v d
  | .none, _, h => by cases h; exact .non
  | .bool _, _, h => by cases h; exact .bl _
  | .int _, _, h => by cases h; exact .int _
  | .str _, _, h => by cases h; exact .str _
  | .list ds, _, h => by
    cases h with
    | lst n e r => exact .lst (k _ _ n e).1 (k _ _ n e).2 (DNs.imp k ds _ r)
  | .tuple ds, _, h => by
    cases h with
    | tup n e r => exact .tup (k _ _ n e).1 (k _ _ n e).2 (DNs.imp k ds _ r)
  | .dict _, _, h => by cases h
theorem DNs.imp {N N' : Addr → Prop} {H H' : Hp} (k : ∀ a o, ¬ N a → H a = some o → ¬ N' a ∧ H' a = some o) : ∀ (ds : List PyData) (vs : List V), DNs N H vs ds → DNs N' H' vs ds
  | [], _, h => by cases h; exact .nil
  | d :: ds, _, h => by
    cases h with
    | cons h1 h2 => exact .cons (DN.imp k d _ h1) (DNs.imp k ds _ h2)
end
section
variable {N N1 : Addr → Prop} {H H1 H2 : Hp} {v : V} {vs ws : List V} {d : PyData} {ds es : List PyData}
theorem Le.step (l : Le N H N1 H1) (a : Addr) (o : HO) (n : ¬ N a) (e : H a = some o) : ¬ N1 a ∧ H1 a = some o := by
  refine ⟨fun z => ?_, l.keep a o n e⟩
  rcases l.new a z with q | q
  · exact n q
  · rw [q] at e; cases e
theorem DN.le (h : DN N H v d) (l : Le N H N1 H1) : DN N1 H1 v d := DN.imp l.step d v h
theorem DNs.le (h : DNs N H vs ds) (l : Le N H N1 H1) : DNs N1 H1 vs ds := DNs.imp l.step ds vs h
theorem DN.ex (h : DN N H v d) (e : Ex H H1) : DN N H1 v d := h.le (Le.of e)
theorem DNs.ex (h : DNs N H vs ds) (e : Ex H H1) : DNs N H1 vs ds := h.le (Le.of e)
theorem DNs.length (h : DNs N H vs ds) : vs.length = ds.length := by
  induction ds generalizing vs with
  | nil => cases h; rfl
  | cons d r ih => cases h with | cons h1 h2 => rw [List.length_cons, List.length_cons, ih h2]
theorem DNs.get (h : DNs N H vs ds) {i : Nat} (e : ds[i]? = some d) : ∃ v, vs[i]? = some v ∧ DN N H v d := by
  induction ds generalizing vs i with
  | nil => simp at e
  | cons d0 r ih =>
    cases h with
    | cons h1 h2 =>
      cases i with
      | zero => simp at e; subst e; exact ⟨_, rfl, h1⟩
      | succ i => obtain ⟨v, a, b⟩ := ih h2 (i := i) (by simpa using e); exact ⟨v, by simpa using a, b⟩
theorem DNs.getV (h : DNs N H vs ds) {i : Nat} (e : vs[i]? = some v) : ∃ d, ds[i]? = some d ∧ DN N H v d := by
  induction ds generalizing vs i with
  | nil => cases h; simp at e
  | cons d0 r ih =>
    cases h with
    | cons h1 h2 =>
      cases i with
      | zero => simp at e; subst e; exact ⟨_, rfl, h1⟩
      | succ i => obtain ⟨v, a, b⟩ := ih h2 (i := i) (by simpa using e); exact ⟨v, by simpa using a, b⟩
theorem DNs.append (h : DNs N H vs ds) (g : DNs N H ws es) : DNs N H (vs ++ ws) (ds ++ es) := by
  induction ds generalizing vs with
  | nil => cases h; exact g
  | cons d r ih => cases h with | cons h1 h2 => exact .cons h1 (ih h2)
theorem DNs.snoc (h : DNs N H vs ds) (g : DN N H v d) : DNs N H (vs ++ [v]) (ds ++ [d]) := h.append (.cons g .nil)
theorem DNs.take (h : DNs N H vs ds) (n : Nat) : DNs N H (vs.take n) (ds.take n) := by
  induction ds generalizing vs n with
  | nil => cases h; simp; exact .nil
  | cons d r ih => cases h with | cons h1 h2 => cases n with | zero => exact .nil | succ n => exact .cons h1 (ih h2 n)
theorem DNs.drop (h : DNs N H vs ds) (n : Nat) : DNs N H (vs.drop n) (ds.drop n) := by
  induction ds generalizing vs n with
  | nil => cases h; simp; exact .nil
  | cons d r ih => cases h with | cons h1 h2 => cases n with | zero => exact .cons h1 h2 | succ n => exact ih h2 n
theorem DNs.eraseIdx (h : DNs N H vs ds) (n : Nat) : DNs N H (vs.eraseIdx n) (ds.eraseIdx n) := by
  induction ds generalizing vs n with
  | nil => cases h; simp; exact .nil
  | cons d r ih => cases h with | cons h1 h2 => cases n with | zero => exact h2 | succ n => exact .cons h1 (ih h2 n)
theorem DNs.set (h : DNs N H vs ds) (n : Nat) (g : DN N H v d) : DNs N H (vs.set n v) (ds.set n d) := by
  induction ds generalizing vs n with
  | nil => cases h; simp; exact .nil
  | cons d r ih => cases h with | cons h1 h2 => cases n with | zero => exact .cons g h2 | succ n => exact .cons h1 (ih h2 n)
theorem DNs.mem (h : DNs N H vs ds) (m : v ∈ vs) : ∃ d ∈ ds, DN N H v d := by
  obtain ⟨i, hi⟩ := List.getElem?_of_mem m
  obtain ⟨d, e, g⟩ := h.getV hi
  exact ⟨d, List.mem_of_getElem? e, g⟩
theorem DNs.of_get : ∀ {vs : List V} {ds : List PyData}, vs.length = ds.length → (∀ (i : Nat) v d, vs[i]? = some v → ds[i]? = some d → DN N H v d) → DNs N H vs ds
  | [], [], _, _ => .nil
  | v :: vs, d :: ds, hl, h => .cons (h 0 v d rfl rfl) (DNs.of_get (by simpa using hl) fun i v' d' a b => h (i + 1) v' d' (by simpa using a) (by simpa using b))
theorem DN.int_inv {i : Int} (h : DN N H v (.int i)) : v = .int i := by cases h; rfl
theorem DN.bl_inv {b : Bool} (h : DN N H v (.bool b)) : v = .bl b := by cases h; rfl
theorem DN.str_inv {x : Str} (h : DN N H v (.str x)) : v = .str x := by cases h; rfl
theorem DN.non_inv (h : DN N H v .none) : v = .non := by cases h; rfl
theorem DN.lst_inv (h : DN N H v (.list ds)) : ∃ a xs, v = .ref a ∧ ¬ N a ∧ H a = some (.lst xs) ∧ DNs N H xs ds := by
  cases h with | lst n e r => exact ⟨_, _, rfl, n, e, r⟩
theorem DN.tup_inv (h : DN N H v (.tuple ds)) : ∃ a xs, v = .ref a ∧ ¬ N a ∧ H a = some (.tup xs) ∧ DNs N H xs ds := by
  cases h with | tup n e r => exact ⟨_, _, rfl, n, e, r⟩
theorem DNs.ints {ns : List Int} (h : DNs N H vs (ns.map .int)) : vs = ns.map V.int := by
  induction ns generalizing vs with
  | nil => cases h; rfl
  | cons n r ih =>
    cases h with
    | cons h1 h2 => rw [List.map_cons, ih h2, h1.int_inv]
theorem DNs.of_ints : ∀ ns : List Int, DNs N H (ns.map V.int) (ns.map .int)
  | [] => .nil
  | n :: r => .cons (.int n) (DNs.of_ints r)
theorem DNs.bools {ns : List Bool} (h : DNs N H vs (ns.map .bool)) : vs = ns.map V.bl := by
  induction ns generalizing vs with
  | nil => cases h; rfl
  | cons n r ih =>
    cases h with
    | cons h1 h2 => rw [List.map_cons, ih h2, h1.bl_inv]
end
mutual
theorem DN.dp {N : Addr → Prop} {H : Hp} {K : PySem.W.Frag} : ∀ (d : PyData) (v : V), DN N H v d → Dp K H v d
  | .none, _, h => by cases h; exact .non
  | .bool _, _, h => by cases h; exact .bl _
  | .int _, _, h => by cases h; exact .int _
  | .str _, _, h => by cases h; exact .str _
  | .list ds, _, h => by
    cases h with
    | lst n e r => exact .lst (SqL.of e) (DNs.dp ds _ r)
  | .tuple ds, _, h => by
    cases h with
    | tup n e r => exact .tup (SqT.of e) (DNs.dp ds _ r)
  | .dict _, _, h => by cases h
theorem DNs.dp {N : Addr → Prop} {H : Hp} {K : PySem.W.Frag} : ∀ (ds : List PyData) (vs : List V), DNs N H vs ds → DpAll K H vs ds
  | [], _, h => by cases h; exact .nil
  | d :: ds, _, h => by
    cases h with
    | cons h1 h2 => exact .cons (DN.dp d _ h1) (DNs.dp ds _ h2)
end

/-! ### judgements -/
/-- the reading gives a value that stands for d, whatever later heap it is read in, and changes nothing -/
def EvD (N : Addr → Prop) (te : TE) (σ : L2.St) (H : Hp) (d : PyData) : Prop :=
  ∀ N1 H1, Le N H N1 H1 → NOk N1 H1 → ∀ Q : VK, (∀ v H2, Ex H1 H2 → DN N1 H2 v d → Q v H2) → te σ H1 Q
def EvB (N : Addr → Prop) (tt : TT) (σ : L2.St) (H : Hp) (b : Bool) : Prop :=
  ∀ N1 H1, Le N H N1 H1 → NOk N1 H1 → ∀ Q : Bool → Hp → Prop, (∀ H2, Ex H1 H2 → Q b H2) → tt σ H1 Q
def EvA (N : Addr → Prop) (ta : TA) (σ : L2.St) (H : Hp) (ds : List PyData) : Prop :=
  ∀ N1 H1, Le N H N1 H1 → NOk N1 H1 → ∀ Q : List V → Hp → Prop, (∀ vs H2, Ex H1 H2 → DNs N1 H2 vs ds → Q vs H2) → ta σ H1 Q
/-- by values -/
def R2D (N : Addr → Prop) (H : Hp) (r : R2) (a b d : PyData) : Prop :=
  ∀ N1 H1, Le N H N1 H1 → NOk N1 H1 → ∀ x y, DN N1 H1 x a → DN N1 H1 y b → ∀ Q : VK, (∀ v H2, Ex H1 H2 → DN N1 H2 v d → Q v H2) → r x y H1 Q
def RUD (N : Addr → Prop) (H : Hp) (r : V → Hp → VK → Prop) (a d : PyData) : Prop :=
  ∀ N1 H1, Le N H N1 H1 → NOk N1 H1 → ∀ x, DN N1 H1 x a → ∀ Q : VK, (∀ v H2, Ex H1 H2 → DN N1 H2 v d → Q v H2) → r x H1 Q
def RCD (N : Addr → Prop) (H : Hp) (r : List V → Hp → VK → Prop) (as : List PyData) (d : PyData) : Prop :=
  ∀ N1 H1, Le N H N1 H1 → NOk N1 H1 → ∀ xs, DNs N1 H1 xs as → ∀ Q : VK, (∀ v H2, Ex H1 H2 → DN N1 H2 v d → Q v H2) → r xs H1 Q

section
variable {K : PySem.W.Frag} {N N' : Addr → Prop} {σ : L2.St} {H H' : Hp} {ta tb tc te : TE} {t u : TT} {tas : TA} {a b c d : PyData} {as ds : List PyData} {r r' : R2}
theorem EvD.le (h : EvD N te σ H d) (l : Le N H N' H') : EvD N' te σ H' d := fun N1 H1 e n => h N1 H1 (l.trans e) n
theorem EvB.le {x : Bool} (h : EvB N t σ H x) (l : Le N H N' H') : EvB N' t σ H' x := fun N1 H1 e n => h N1 H1 (l.trans e) n
theorem EvA.le (h : EvA N tas σ H ds) (l : Le N H N' H') : EvA N' tas σ H' ds := fun N1 H1 e n => h N1 H1 (l.trans e) n
theorem EvD.is (h : EvD N te σ H d) (e : d = a) : EvD N te σ H a := e ▸ h
theorem EvB.is {x y : Bool} (h : EvB N t σ H x) (e : x = y) : EvB N t σ H y := e ▸ h
theorem ed_var {i : Nat} {v : V} (h : σ[i]? = some (some v)) (hd : DN N H v d) : EvD N (tVar i) σ H d := fun N1 H1 l n Q q => ⟨v, h, q v H1 Ex.rfl' (hd.le l)⟩
theorem ed_int {i : Int} : EvD N (tC (.int i)) σ H (.int i) := fun N1 H1 l n Q q => q _ H1 Ex.rfl' (.int i)
theorem ed_bl {i : Bool} : EvD N (tC (.bl i)) σ H (.bool i) := fun N1 H1 l n Q q => q _ H1 Ex.rfl' (.bl i)
theorem ed_str {i : Str} : EvD N (tC (.str i)) σ H (.str i) := fun N1 H1 l n Q q => q _ H1 Ex.rfl' (.str i)
theorem ed_non : EvD N (tC .non) σ H .none := fun N1 H1 l n Q q => q _ H1 Ex.rfl' .non
theorem ed_op (ha : EvD N ta σ H a) (hb : EvD N tb σ H b) (hr : R2D N H r a b d) : EvD N (tOp r ta tb) σ H d := fun N1 H1 l n Q q =>
  ha N1 H1 l n _ fun x H2 e2 hx => hb N1 H2 (l.ex e2) (n.ex e2) _ fun y H3 e3 hy =>
    hr N1 H3 ((l.ex e2).ex e3) ((n.ex e2).ex e3) x y (hx.ex e3) hy Q fun v H4 e4 hv => q v H4 ((e2.trans e3).trans e4) hv
theorem ed_un {r : V → Hp → VK → Prop} (ha : EvD N ta σ H a) (hr : RUD N H r a d) : EvD N (tUn r ta) σ H d := fun N1 H1 l n Q q =>
  ha N1 H1 l n _ fun x H2 e2 hx => hr N1 H2 (l.ex e2) (n.ex e2) x hx Q fun v H4 e4 hv => q v H4 (e2.trans e4) hv
theorem ea_nil : EvA N tNil σ H [] := fun N1 H1 l n Q q => q [] H1 Ex.rfl' .nil
theorem ea_cons (ha : EvD N ta σ H a) (hr : EvA N tas σ H as) : EvA N (tCons ta tas) σ H (a :: as) := fun N1 H1 l n Q q =>
  ha N1 H1 l n _ fun x H2 e2 hx => hr N1 H2 (l.ex e2) (n.ex e2) _ fun xs H3 e3 hxs => q (x :: xs) H3 (e2.trans e3) (.cons (hx.ex e3) hxs)
theorem ed_tup (h : EvA N tas σ H as) (hz : as.length ≤ sizeLine) : EvD N (tTup tas) σ H (.tuple as) := fun N1 H1 l n Q q =>
  h N1 H1 l n _ fun xs H2 e2 hxs => ⟨by rw [hxs.length]; exact hz, fun p hp => q _ _ (e2.trans (ex_new hp)) (.tup ((n.ex e2).fresh hp) upd_same (hxs.ex (ex_new hp)))⟩
theorem ed_lst (h : EvA N tas σ H as) (hz : as.length ≤ sizeLine) : EvD N (tLst tas) σ H (.list as) := fun N1 H1 l n Q q =>
  h N1 H1 l n _ fun xs H2 e2 hxs => ⟨by rw [hxs.length]; exact hz, fun p hp => q _ _ (e2.trans (ex_new hp)) (.lst ((n.ex e2).fresh hp) upd_same (hxs.ex (ex_new hp)))⟩
theorem ed_cb {r : List V → Hp → VK → Prop} (h : EvA N tas σ H as) (hr : RCD N H r as d) : EvD N (tCB r tas) σ H d := fun N1 H1 l n Q q =>
  h N1 H1 l n _ fun xs H2 e2 hxs => hr N1 H2 (l.ex e2) (n.ex e2) xs hxs Q fun v H4 e4 hv => q v H4 (e2.trans e4) hv

/-! promises of pure defs -/
def PureSp (R : List PyData → PyData → Prop) : Sp := fun vs H Q _ => ∃ (N : Addr → Prop) (as : List PyData) (d : PyData), NOk N H ∧ DNs N H vs as ∧ R as d ∧ ∀ v H', Ex H H' → DN N H' v d → Q v H'
theorem ed_call {R : List PyData → PyData → Prop} {E : XK} (h : EvA N tas σ H as) (hR : R as d) : EvD N (tCall (PureSp R) [] E tas) σ H d := fun N1 H1 l n Q q =>
  h N1 H1 l n _ fun xs H2 e2 hxs => ⟨N1, as, d, n.ex e2, by rw [List.append_nil]; exact hxs, hR, fun v H' e hv => q v H' (e2.trans e) hv⟩

/-! tests -/
theorem eb_test {x : Bool} (h : EvD N te σ H (.bool x)) : EvB N (tTest te) σ H x := fun N1 H1 l n Q q => h N1 H1 l n _ fun v H2 e2 hv => ⟨x, hv.bl_inv, q H2 e2⟩
theorem eb_B {x : Bool} (h : EvD N te σ H (.bool x)) : EvB N (tB te) σ H x := fun N1 H1 l n Q q => h N1 H1 l n _ fun v H2 e2 hv => ⟨x, hv.bl_inv, q H2 e2⟩
theorem eb_and {x y : Bool} (h1 : EvB N t σ H x) (h2 : x = true → EvB N u σ H y) : EvB N (tAnd t u) σ H (x && y) := fun N1 H1 l n Q q => h1 N1 H1 l n _ fun H2 e2 => by
  cases x with
  | true => exact iteT (h2 rfl N1 H2 (l.ex e2) (n.ex e2) Q fun H3 e3 => q H3 (e2.trans e3))
  | false => exact iteF (q H2 e2)
theorem eb_or {x y : Bool} (h1 : EvB N t σ H x) (h2 : x = false → EvB N u σ H y) : EvB N (tOr t u) σ H (x || y) := fun N1 H1 l n Q q => h1 N1 H1 l n _ fun H2 e2 => by
  cases x with
  | true => exact iteT (q H2 e2)
  | false => exact iteF (h2 rfl N1 H2 (l.ex e2) (n.ex e2) Q fun H3 e3 => q H3 (e2.trans e3))
theorem eb_not {x : Bool} (h1 : EvB N t σ H x) : EvB N (tNot t) σ H (!x) := fun N1 H1 l n Q q => h1 N1 H1 l n _ fun H2 e2 => q H2 e2
theorem eb_yes : EvB N tYes σ H true := fun N1 H1 l n Q q => q H1 Ex.rfl'
/-! bools as values -/
theorem ed_andV {x : Bool} (h1 : EvD N ta σ H (.bool x)) (h2 : x = true → EvD N tb σ H d) (h3 : x = false → d = .bool false) : EvD N (tAndV ta tb) σ H d := fun N1 H1 l n Q q => h1 N1 H1 l n _ fun v H2 e2 hv => ⟨x, hv.bl_inv, by
  cases x with
  | true => exact iteT (h2 rfl N1 H2 (l.ex e2) (n.ex e2) Q fun v H3 e3 => q v H3 (e2.trans e3))
  | false => exact iteF (q _ H2 e2 (by rw [h3 rfl]; exact .bl false))⟩
theorem ed_andB {x y : Bool} (h1 : EvD N ta σ H (.bool x)) (h2 : x = true → EvD N tb σ H (.bool y)) : EvD N (tAndV ta tb) σ H (.bool (x && y)) :=
  ed_andV h1 (fun e => by subst e; exact h2 rfl) fun e => by subst e; rfl
theorem ed_orB {x y : Bool} (h1 : EvD N ta σ H (.bool x)) (h2 : x = false → EvD N tb σ H (.bool y)) : EvD N (tOrV ta tb) σ H (.bool (x || y)) := fun N1 H1 l n Q q => h1 N1 H1 l n _ fun v H2 e2 hv => ⟨x, hv.bl_inv, by
  cases x with
  | true => exact iteT (q _ H2 e2 (.bl true))
  | false => exact iteF (h2 rfl N1 H2 (l.ex e2) (n.ex e2) Q fun v H3 e3 => q v H3 (e2.trans e3))⟩
theorem ed_notV {x : Bool} (h1 : EvD N ta σ H (.bool x)) : EvD N (tNotV ta) σ H (.bool (!x)) := fun N1 H1 l n Q q => h1 N1 H1 l n _ fun v H2 e2 hv => ⟨x, hv.bl_inv, q _ H2 e2 (.bl _)⟩
theorem ed_if {x : Bool} (h : EvB N t σ H x) (h1 : x = true → EvD N ta σ H d) (h2 : x = false → EvD N tb σ H d) : EvD N (tIf t ta tb) σ H d := fun N1 H1 l n Q q => h N1 H1 l n _ fun H2 e2 => by
  cases x with
  | true => exact iteT (h1 rfl N1 H2 (l.ex e2) (n.ex e2) Q fun v H3 e3 => q v H3 (e2.trans e3))
  | false => exact iteF (h2 rfl N1 H2 (l.ex e2) (n.ex e2) Q fun v H3 e3 => q v H3 (e2.trans e3))
/-- a op b op' c -/
theorem ed_chain {x y : Bool} (ha : EvD N ta σ H a) (hb : EvD N tb σ H b) (hc : EvD N tc σ H c) (h1 : R2D N H r a b (.bool x)) (h2 : x = true → R2D N H r' b c (.bool y)) : EvD N (tChain r r' ta tb tc) σ H (.bool (x && y)) := fun N1 H1 l n Q q =>
  ha N1 H1 l n _ fun v1 H2 e2 d1 => hb N1 H2 (l.ex e2) (n.ex e2) _ fun v2 H3 e3 d2 => h1 N1 H3 ((l.ex e2).ex e3) ((n.ex e2).ex e3) v1 v2 (d1.ex e3) d2 _ fun v3 H4 e4 d3 => ⟨x, d3.bl_inv, by
    have l4 := ((l.ex e2).ex e3).ex e4
    have n4 := ((n.ex e2).ex e3).ex e4
    have e24 := (e2.trans e3).trans e4
    cases x with
    | true => exact iteT (hc N1 H4 l4 n4 _ fun v5 H5 e5 d5 => h2 rfl N1 H5 (l4.ex e5) (n4.ex e5) v2 v5 ((d2.ex e4).ex e5) d5 Q fun v6 H6 e6 d6 => q v6 H6 ((e24.trans e5).trans e6) d6)
    | false => exact iteF (q _ H4 e24 (.bl false))⟩
end
end K14
/-! K14Ext -/
set_option Elab.async false
set_option linter.all false
set_option maxRecDepth 100000
set_option maxHeartbeats 2000000
/-! Rules of our own for calls and operators. -/
namespace K14
open PySem PySem.Spec PyProof.Rows L2
section
variable {X : Cx}

/-- sum of a list or a tuple of whole numbers -/
def rSum2 (K : PySem.W.Frag) : List V → Hp → VK → Prop := fun vs H Q => ∃ (a : Addr) (ns : List Int), vs = [V.ref a] ∧ (SqL K H a (ns.map V.int) ∨ SqT K H a (ns.map V.int)) ∧ Q (.int ns.sum) H
theorem cr_sum2 (hc : X.calm = true) : CallR X (.builtin "sum") (rSum2 X.K) := by
  intro pins s σ H vs us Q I r h
  obtain ⟨a, ns, rfl, hs | hs, q⟩ := h
  · exact cr_sum hc pins s σ H _ us Q I r ⟨a, ns, rfl, hs, q⟩
  · obtain ⟨its, rv, hl, _⟩ := I.tuple hs
    rw [Vals.ref1 r]
    have hi := rv.ints
    obtain ⟨xs, hx⟩ := hi.allInts.items
    have hn : numsOf its.toArray.toList = ns := by rw [show its.toArray.toList = its from rfl, hi.numsOf]
    rw [hx] at hl hn
    rw [nums_intItems] at hn
    refine PySem.W.ktm_sumG (I.ok.hd hc) hl fun h' tk t' hk => ⟨.int _, H, I.kept hk, ⟨_, rfl⟩, ?_⟩
    rw [preSum_eq, List.take_of_length_le (by simp), hn]
    exact q

/-- the least, the greatest of whole numbers (of none: 0) -/
def minI : List Int → Int
  | [] => 0
  | x :: xs => xs.foldl min x
def maxI : List Int → Int
  | [] => 0
  | x :: xs => xs.foldl max x
theorem foldl_min_le (xs : List Int) : ∀ x : Int, xs.foldl min x ≤ x ∧ ∀ y ∈ xs, xs.foldl min x ≤ y := by
  induction xs with
  | nil => exact fun x => ⟨Int.le_refl _, fun y hy => by simp at hy⟩
  | cons a r ih =>
    intro x
    obtain ⟨h1, h2⟩ := ih (min x a)
    refine ⟨Int.le_trans h1 (Int.min_le_left _ _), fun y hy => ?_⟩
    rcases List.mem_cons.mp hy with rfl | hy
    · exact Int.le_trans h1 (Int.min_le_right _ _)
    · exact h2 y hy
theorem foldl_max_le (xs : List Int) : ∀ x : Int, x ≤ xs.foldl max x ∧ ∀ y ∈ xs, y ≤ xs.foldl max x := by
  induction xs with
  | nil => exact fun x => ⟨Int.le_refl _, fun y hy => by simp at hy⟩
  | cons a r ih =>
    intro x
    obtain ⟨h1, h2⟩ := ih (max x a)
    refine ⟨Int.le_trans (Int.le_max_left _ _) h1, fun y hy => ?_⟩
    rcases List.mem_cons.mp hy with rfl | hy
    · exact Int.le_trans (Int.le_max_right _ _) h1
    · exact h2 y hy
theorem foldl_min_mem (xs : List Int) : ∀ x : Int, xs.foldl min x = x ∨ xs.foldl min x ∈ xs := by
  induction xs with
  | nil => exact fun x => .inl rfl
  | cons a r ih =>
    intro x
    rcases ih (min x a) with h | h
    · rw [List.foldl_cons, h]
      by_cases q : x ≤ a
      · exact .inl (by rw [Int.min_def, if_pos q])
      · exact .inr (by rw [Int.min_def, if_neg q]; exact List.mem_cons_self)
    · exact .inr (List.mem_cons_of_mem _ h)
theorem foldl_max_mem (xs : List Int) : ∀ x : Int, xs.foldl max x = x ∨ xs.foldl max x ∈ xs := by
  induction xs with
  | nil => exact fun x => .inl rfl
  | cons a r ih =>
    intro x
    rcases ih (max x a) with h | h
    · rw [List.foldl_cons, h]
      by_cases q : x ≤ a
      · exact .inr (by rw [Int.max_def, if_pos q]; exact List.mem_cons_self)
      · exact .inl (by rw [Int.max_def, if_neg q])
    · exact .inr (List.mem_cons_of_mem _ h)
theorem minI_mem {xs : List Int} (h : xs ≠ []) : minI xs ∈ xs := by
  cases xs with
  | nil => exact absurd rfl h
  | cons x r =>
    rcases foldl_min_mem r x with e | e
    · show r.foldl min x ∈ _
      rw [e]; exact List.mem_cons_self
    · exact List.mem_cons_of_mem _ e
theorem maxI_mem {xs : List Int} (h : xs ≠ []) : maxI xs ∈ xs := by
  cases xs with
  | nil => exact absurd rfl h
  | cons x r =>
    rcases foldl_max_mem r x with e | e
    · show r.foldl max x ∈ _
      rw [e]; exact List.mem_cons_self
    · exact List.mem_cons_of_mem _ e
theorem minI_le {xs : List Int} {y : Int} (h : y ∈ xs) : minI xs ≤ y := by
  cases xs with
  | nil => simp at h
  | cons x r =>
    rcases List.mem_cons.mp h with rfl | h
    · exact (foldl_min_le r y).1
    · exact (foldl_min_le r x).2 y h
theorem le_maxI {xs : List Int} {y : Int} (h : y ∈ xs) : y ≤ maxI xs := by
  cases xs with
  | nil => simp at h
  | cons x r =>
    rcases List.mem_cons.mp h with rfl | h
    · exact (foldl_max_le r y).1
    · exact (foldl_max_le r x).2 y h
theorem minI_eq {xs : List Int} {m : Int} (h1 : m ∈ xs) (h2 : ∀ y ∈ xs, m ≤ y) : minI xs = m :=
  Int.le_antisymm (minI_le h1) (h2 _ (minI_mem (List.ne_nil_of_mem h1)))
theorem maxI_eq {xs : List Int} {m : Int} (h1 : m ∈ xs) (h2 : ∀ y ∈ xs, y ≤ m) : maxI xs = m :=
  Int.le_antisymm (h2 _ (maxI_mem (List.ne_nil_of_mem h1))) (le_maxI h1)

theorem depth_intsL : ∀ ns : List Int, PyData.depthAll (ns.map PyData.int) = 0 := PySem.W.depth_ints
theorem alike_ints : ∀ ns : List Int, PySem.W.AlikeAll (ns.map PyData.int) := fun ns => ⟨fun x hx y hy => by
  obtain ⟨i, _, rfl⟩ := List.mem_map.mp hx
  obtain ⟨j, _, rfl⟩ := List.mem_map.mp hy
  rfl, fun x hx => by
  obtain ⟨i, _, rfl⟩ := List.mem_map.mp hx
  exact fun z => nomatch z⟩
theorem reads_ints {h : Heap} : ∀ {us : List Value} {ns : List Int}, IntsAre us ns → ∃ as, ReadsAll h us (ns.map .int) as := fun {us ns} hi => by
  have v := vals_of_ints hi
  clear hi
  induction ns generalizing us with
  | nil => cases v; exact ⟨[], .nil⟩
  | cons n r ih =>
    cases v with
    | cons r1 r2 =>
      obtain ⟨t, rfl⟩ := r1
      obtain ⟨as, q⟩ := ih r2
      exact ⟨_, .cons (.int n t) q⟩
/-- min, max of a list or a tuple of whole numbers, not empty -/
def rMin2 (K : PySem.W.Frag) : List V → Hp → VK → Prop := fun vs H Q => ∃ (a : Addr) (ns : List Int), vs = [V.ref a] ∧ (SqL K H a (ns.map V.int) ∨ SqT K H a (ns.map V.int)) ∧ ns ≠ [] ∧ Q (.int (minI ns)) H
def rMax2 (K : PySem.W.Frag) : List V → Hp → VK → Prop := fun vs H Q => ∃ (a : Addr) (ns : List Int), vs = [V.ref a] ∧ (SqL K H a (ns.map V.int) ∨ SqT K H a (ns.map V.int)) ∧ ns ≠ [] ∧ Q (.int (maxI ns)) H
theorem cr_min2 (hc : X.calm = true) (hu : X.A.units + 64 < cLine) : CallR X (.builtin "min") (rMin2 X.K) := by
  intro pins s σ H vs us Q I r h
  obtain ⟨a, ns, rfl, hs | hs, hne, q⟩ := h
  · exact cr_min hc pins s σ H _ us Q I r ⟨a, ns, rfl, hs, List.length_pos_iff.mpr hne, fun m h1 h2 => by rw [← minI_eq h1 h2]; exact q⟩
  · obtain ⟨its, rv, hl, _⟩ := I.tuple hs
    rw [Vals.ref1 r]
    obtain ⟨as, hr⟩ := reads_ints (h := s.heap) rv.ints
    cases ns with
    | nil => exact absurd rfl hne
    | cons n ns =>
      refine PySem.W.min_tuple_data (x := .int n) (xs := ns.map .int) (I.ok.hd hc) hl (by simpa using hr) (alike_ints (n :: ns)) (by rw [show (PyData.int n :: ns.map PyData.int) = (n :: ns).map PyData.int from rfl, depth_intsL]; omega) fun i v h' tk bs hi hv hk => ?_
      rw [PySem.W.minD_ints] at hv
      cases hv
      exact ⟨.int _, H, I.kept hk, ⟨_, rfl⟩, q⟩
theorem cr_max2 (hc : X.calm = true) (hu : X.A.units + 64 < cLine) : CallR X (.builtin "max") (rMax2 X.K) := by
  intro pins s σ H vs us Q I r h
  obtain ⟨a, ns, rfl, hs | hs, hne, q⟩ := h
  · exact cr_max hc pins s σ H _ us Q I r ⟨a, ns, rfl, hs, List.length_pos_iff.mpr hne, fun m h1 h2 => by rw [← maxI_eq h1 h2]; exact q⟩
  · obtain ⟨its, rv, hl, _⟩ := I.tuple hs
    rw [Vals.ref1 r]
    obtain ⟨as, hr⟩ := reads_ints (h := s.heap) rv.ints
    cases ns with
    | nil => exact absurd rfl hne
    | cons n ns =>
      refine PySem.W.max_tuple_data (x := .int n) (xs := ns.map .int) (I.ok.hd hc) hl (by simpa using hr) (alike_ints (n :: ns)) (by rw [show (PyData.int n :: ns.map PyData.int) = (n :: ns).map PyData.int from rfl, depth_intsL]; omega) fun i v h' tk bs hi hv hk => ?_
      rw [PySem.W.maxD_ints] at hv
      cases hv
      exact ⟨.int _, H, I.kept hk, ⟨_, rfl⟩, q⟩

/-- repr of data -/
def rRepr (K : PySem.W.Frag) : List V → Hp → VK → Prop := fun vs H Q => ∃ (a : Addr) (d : PyData), vs = [.ref a] ∧ Dp K H (.ref a) d ∧ d.showable = true ∧ d.hasDict = false ∧ d.depth ≤ 16 ∧ d.shown.length ≤ sizeLine ∧ Q (.str d.shown) H
theorem cr_repr (hg : X.A.guards = some []) (hu : X.A.units + 64 < cLine) : CallR X (.builtin "repr") (rRepr X.K) := by
  intro pins s σ H vs us Q I r h
  obtain ⟨a, d, rfl, hd, h1, h2, h3, h4, q⟩ := h
  rw [Vals.ref1 r]
  obtain ⟨as, hr⟩ := Dp.reads I d (.ref a) (.ref a) hd rfl
  exact repr_of_reads' hr h1 (fun e => by rw [h2] at e; cases e) hg (by omega) (fun _ _ e => e) (fun h' u tk hk => ⟨.str _, H, I.kept hk, ⟨_, rfl⟩, q⟩) h4
/-- repr of a scalar -/
def rReprS : List V → Hp → VK → Prop := fun vs H Q => (vs = [.non] ∧ Q (.str "None") H) ∨ (∃ i : Int, vs = [.int i] ∧ i.natAbs.log2 < 1920 ∧ Q (.str (toString i)) H) ∨ (∃ x : Str, vs = [.str x] ∧ (reprText x).length ≤ sizeLine ∧ Q (.str (reprText x)) H)
theorem cr_reprS : CallR X (.builtin "repr") rReprS := by
  intro pins s σ H vs us Q I r h
  rcases h with ⟨rfl, q⟩ | ⟨i, rfl, hi, q⟩ | ⟨x, rfl, hx, q⟩
  · obtain ⟨u, rfl, ru⟩ := vals1 r
    cases ru
    exact PySem.P.repr_of_none ⟨.str _, H, I.tok _, ⟨_, rfl⟩, q⟩
  · obtain ⟨u, rfl, ru⟩ := vals1 r
    obtain ⟨t, rfl⟩ := ru
    exact PySem.P.repr_of_int hi ⟨.str _, H, I.tok _, ⟨_, rfl⟩, q⟩
  · obtain ⟨u, rfl, ru⟩ := vals1 r
    obtain ⟨t, rfl⟩ := ru
    exact PySem.P.repr_of_str ⟨.str _, H, I.tok _, ⟨_, rfl⟩, q⟩ hx

/-- f(k = e, ..): keywords alone -/
theorem pe_callK0 {CX : CXT} {k : Nat} {f : Addr} {fd : FuncData} {ps ks : List Str} {sp : Sp} {E : XK} {x : Str} {p pos : Pos} {kws : List Keyword} {tk : TA} {g : List Value → List Value → List Value} {gV : List V → List V → List V}
    (F : FnOk X.prog X.w X.K X.mg X.base CX k f fd ps sp) (hr : Room k X.A) (hg : Gl X x) (hm : X.mg x = some (.ref f)) (hk : PySem.W.keepIn X.K (.ref f) = true) (hb : KBinds X.K fd ps ks g gV) (hx : Passes CX X E)
    (hkw : PK X kws tk) (hall : (backToKw pos (keywordEach kws X.env)).all (·.1.isSome) = true := by rfl) (hks : (backToKw pos (keywordEach kws X.env)).filterMap (·.1) = ks := by rfl)
    (hdb : (x == ("__debug__" : Str)) = false := by decide)
    (hpl : ((backTo pos (starEach [] X.env)).any (·.1) || (backToKw pos (keywordEach kws X.env)).any (·.1.isNone)) = false := by rfl) :
    PE X (.Call (.Name x p) [] kws pos) (tCallK sp gV E tNil tk) := by
  refine ⟨fun pins s σ H Q I h => ?_⟩
  refine wpAny_Call_Name_kw (ld_glob I hg hm ?_ hdb)
  refine PySem.W.callWith_KW0 (h₀ := X.base) I.ok.mod.kin hk hall ?_ hpl
  refine thn (hkw.run pos pins s σ H _ I h) fun ws s2 ⟨zs, H2, I2, rz, q2⟩ => ⟨I2.kIn, ?_⟩
  rw [hks]
  exact run_fnk F hr hb hx I2 .nil rz q2

/-- a op1 b op2 c op3 d, as a test -/
def tChain3 (r1 r2 r3 : R2) (ta tb tc td : TE) : TT := fun σ H Q => ta σ H fun x H1 => tb σ H1 fun y H2 => r1 x y H2 fun z H3 => ∃ k, z = .bl k ∧
  (if k = true then tc σ H3 fun w H4 => r2 y w H4 fun z H5 => ∃ k, z = .bl k ∧ (if k = true then td σ H5 fun u H6 => r3 w u H6 fun z H7 => ∃ k, z = .bl k ∧ Q k H7 else Q false H5) else Q false H3)
theorem pt_chain3 {a b c d : Expr} {ta tb tc td : TE} {op1 op2 op3 : CmpOp} {r1 r2 r3 : R2} {pos : Pos} (o1 : OpR X (compareOp op1) r1) (o2 : OpR X (compareOp op2) r2) (o3 : OpR X (compareOp op3) r3) (ha : PE X a ta) (hb : PE X b tb) (hc : PE X c tc) (hd : PE X d td)
    (hm : lastMarks [op1, op2, op3] [b, c, d] = false := by with_unfolding_all rfl) : PT X (.Compare a [op1, op2, op3] [b, c, d] pos) (tChain3 r1 r2 r3 ta tb tc td) := by
  refine ⟨fun pins s σ H Q I h => ?_⟩
  refine isTrue_chain (thn (ha.run pins s σ H _ I h) fun v s1 ⟨x, H1, I1, q1, w1⟩ => test_link (thn (hb.run pins s1 σ H1 _ I1 w1) fun u s2 ⟨y, H2, I2, q2, w2⟩ =>
    thn (o1 pins s2 σ H2 x y v u _ I2 q1 q2 w2) fun e s3 ⟨z, H3, I3, q3, k, ez, w3⟩ => ?_)) hm
  subst ez
  cases q3
  refine wpAny_truthy_bool ?_
  cases k with
  | false =>
    rw [if_neg Bool.false_ne_true] at w3 ⊢
    exact ⟨H3, I3, w3⟩
  | true =>
    rw [if_pos rfl] at w3 ⊢
    refine test_link (thn (hc.run pins s3 σ H3 _ I3 w3) fun u4 s4 ⟨y4, H4, I4, q4, w4⟩ => thn (o2 pins s4 σ H4 y y4 u u4 _ I4 q2 q4 w4) fun e5 s5 ⟨z5, H5, I5, q5, k5, ez5, w5⟩ => ?_)
    subst ez5
    cases q5
    refine wpAny_truthy_bool ?_
    cases k5 with
    | false =>
      rw [if_neg Bool.false_ne_true] at w5 ⊢
      exact ⟨H5, I5, w5⟩
    | true =>
      rw [if_pos rfl] at w5 ⊢
      refine test_last (thn (hd.run pins s5 σ H5 _ I5 w5) fun u6 s6 ⟨y6, H6, I6, q6, w6⟩ => thn (o3 pins s6 σ H6 y4 y6 u4 u6 _ I6 q4 q6 w6) fun e7 s7 ⟨z7, H7, I7, q7, k7, ez7, w7⟩ => ?_)
      subst ez7
      cases q7
      exact wpAny_truthy_bool ⟨H7, I7, w7⟩
end
end K14
/-! K14Dict -/
set_option Elab.async false
set_option linter.all false
set_option maxRecDepth 100000
set_option maxHeartbeats 2000000
/-! Dict displays by comprehension, no test: one clause (keys of any kind that DPut tells), two clauses. -/
namespace K14
open PySem PySem.Spec PyProof.Rows L2

theorem turn_d1 (kx vx t0 i0 : Expr) (scope : Scope) (pos : Pos) (it : Value) (D : Addr) (env : Env) :
    compTurn (.DictComp kx vx [⟨t0, i0, [], 0⟩] scope pos) 0 it (.ref D) env = (do
      standAt i0.pos
      match ← pyNext it with
      | none => pure (.done .next)
      | some v =>
        letOwnedTupleGo t0 it v
        assign t0 env v
        (do
          let kv ← eval kx env
          let vv ← holding [kv] (eval vx env)
          standAt { kx.pos with endLine := vx.pos.endLine, endCol := vx.pos.endCol }
          holding [kv, vv] (dictSet D kv vv))
        again (.compLoop (.DictComp kx vx [⟨t0, i0, [], 0⟩] scope pos) 0 it (.ref D) env)) := by rfl
theorem turn_d2o (kx vx t0 i0 t1 i1 : Expr) (scope : Scope) (pos : Pos) (it acc : Value) (env : Env) :
    compTurn (.DictComp kx vx [⟨t0, i0, [], 0⟩, ⟨t1, i1, [], 0⟩] scope pos) 0 it acc env = (do
      standAt i0.pos
      match ← pyNext it with
      | none => pure (.done .next)
      | some v =>
        letOwnedTupleGo t0 it v
        assign t0 env v
        let x ← eval i1 env
        standAt i1.pos
        let x ← foldedSetIterable i1 env x
        let _ ← runOwn (.compStart (.DictComp kx vx [⟨t0, i0, [], 0⟩, ⟨t1, i1, [], 0⟩] scope pos) 1 (← holding [x] (pyIter x)) acc env) env
        again (.compLoop (.DictComp kx vx [⟨t0, i0, [], 0⟩, ⟨t1, i1, [], 0⟩] scope pos) 0 it acc env)) := by rfl
theorem turn_d2i (kx vx t0 i0 t1 i1 : Expr) (scope : Scope) (pos : Pos) (it : Value) (D : Addr) (env : Env) :
    compTurn (.DictComp kx vx [⟨t0, i0, [], 0⟩, ⟨t1, i1, [], 0⟩] scope pos) 1 it (.ref D) env = (do
      standAt i1.pos
      match ← pyNext it with
      | none => pure (.done .next)
      | some v =>
        letOwnedTupleGo t1 it v
        assign t1 env v
        (do
          let kv ← eval kx env
          let vv ← holding [kv] (eval vx env)
          standAt { kx.pos with endLine := vx.pos.endLine, endCol := vx.pos.endCol }
          holding [kv, vv] (dictSet D kv vv))
        again (.compLoop (.DictComp kx vx [⟨t0, i0, [], 0⟩, ⟨t1, i1, [], 0⟩] scope pos) 1 it (.ref D) env)) := by rfl

section
variable {prog : Program} {w : World} {A : Around} {R : Result → Shared → Prop} {s : Shared} {kx vx t0 i0 t1 i1 : Expr} {scope : Scope} {pos : Pos} {it acc : Value} {D : Addr} {env : Env}
/-- what one turn of a filling loop must bring -/
def Fills (prog : Program) (w : World) (A : Around) (R : Result → Shared → Prop) (kx vx tg : Expr) (it : Value) (D : Addr) (env : Env) (I : Nat → Shared → Prop) (n : Nat) (s : Shared) : Prop :=
  wpAny (model prog w) A (pyNext it) (fun r s₁ => match r with
      | none => R (.ok .next) s₁
      | some v => wpAny (model prog w) A (letOwnedTupleGo tg it v) (fun _ s₂ => wpAny (model prog w) A (assign tg env v) (fun _ s₃ =>
          wpAny (model prog w) A (eval kx env) (fun kv s₄ => wpAny (model prog w) A (eval vx env) (fun vv s₅ => wpAny (model prog w) A (dictSet D kv vv) (fun _ s₆ => ∃ m, m < n ∧ I m s₆) (fun _ _ => False) s₅) (fun _ _ => False) s₄) (fun _ _ => False) s₃) (fun _ _ => False) s₂) (fun _ _ => False) s₁) (fun _ _ => False) s
theorem loop_d1 (I : Nat → Shared → Prop) (turn : ∀ n s, I n s → Fills prog w A R kx vx t0 it D env I n s) (n : Nat) (h : I n s) :
    codeAny (model prog w) A (.compLoop (.DictComp kx vx [⟨t0, i0, [], 0⟩] scope pos) 0 it (.ref D) env) R s := by
  refine codeAny_loop rfl I (fun n s hI => ?_) n h
  show wpAny _ A ((compTurn (.DictComp kx vx [⟨t0, i0, [], 0⟩] scope pos) 0 it (.ref D) env).onRaise (fun x => do noteFrame x env; theTreesLotGoes x)) _ _ s
  refine wpAny_noted ?_
  rw [turn_d1]
  refine wpAny_bind (wpAny_standAt (wpAny_bind (thnF (turn n s hI) fun r s1 h1 => ?_)))
  cases r with
  | none => exact wpAny_pure h1
  | some v =>
    exact wpAny_bind (thnF h1 fun _ s2 h2 => wpAny_bind (thnF h2 fun _ s3 h3 => wpAny_bind (wpAny_bind (thnF h3 fun kv s4 h4 => wpAny_bind (wpAny_holding (thnF h4 fun vv s5 h5 => wpAny_bind (wpAny_standAt (wpAny_holding (thnF h5 fun _ s6 h6 => wpAny_pure ⟨rfl, h6⟩)))))))))
theorem loop_d2i (I : Nat → Shared → Prop) (turn : ∀ n s, I n s → Fills prog w A R kx vx t1 it D env I n s) (n : Nat) (h : I n s) :
    codeAny (model prog w) A (.compLoop (.DictComp kx vx [⟨t0, i0, [], 0⟩, ⟨t1, i1, [], 0⟩] scope pos) 1 it (.ref D) env) R s := by
  refine codeAny_loop rfl I (fun n s hI => ?_) n h
  show wpAny _ A ((compTurn (.DictComp kx vx [⟨t0, i0, [], 0⟩, ⟨t1, i1, [], 0⟩] scope pos) 1 it (.ref D) env).onRaise (fun x => do noteFrame x env; theTreesLotGoes x)) _ _ s
  refine wpAny_noted ?_
  rw [turn_d2i]
  refine wpAny_bind (wpAny_standAt (wpAny_bind (thnF (turn n s hI) fun r s1 h1 => ?_)))
  cases r with
  | none => exact wpAny_pure h1
  | some v =>
    exact wpAny_bind (thnF h1 fun _ s2 h2 => wpAny_bind (thnF h2 fun _ s3 h3 => wpAny_bind (wpAny_bind (thnF h3 fun kv s4 h4 => wpAny_bind (wpAny_holding (thnF h4 fun vv s5 h5 => wpAny_bind (wpAny_standAt (wpAny_holding (thnF h5 fun _ s6 h6 => wpAny_pure ⟨rfl, h6⟩)))))))))
/-- the second clause begins -/
theorem start_d2 (h0 : codeAny (model prog w) A (.compLoop (.DictComp kx vx [⟨t0, i0, [], 0⟩, ⟨t1, i1, [], 0⟩] scope pos) 1 it acc env) R s)
    (h : wpAny (model prog w) A (pyIter it) (fun it' s' => codeAny (model prog w) A (.compLoop (.DictComp kx vx [⟨t0, i0, [], 0⟩, ⟨t1, i1, [], 0⟩] scope pos) 1 it' acc env) R s') (fun _ _ => False) s) :
    codeAny (model prog w) A (.compStart (.DictComp kx vx [⟨t0, i0, [], 0⟩, ⟨t1, i1, [], 0⟩] scope pos) 1 it acc env) R s := by
  refine codeAny_of_tree ?_
  show wpAny _ A ((compStart (.DictComp kx vx [⟨t0, i0, [], 0⟩, ⟨t1, i1, [], 0⟩] scope pos) 1 it acc env).onRaise (fun x => do noteFrame x env; standAt theWindowsPlace)) _ _ s
  refine wpAny_notedAt ?_
  unfold compStart
  show wpAny _ A (ask >>= _) _ _ s
  refine wpAny_bind (wpAny_askSetting (wpAny_ite ?_))
  split
  · exact wpAny_bind (wpAny_pure (wpAny_pure (And.intro rfl h0)))
  · refine wpAny_bind (wpAny_rule ?_)
    show wpAny _ A (standAt i1.pos >>= _) _ _ s
    exact wpAny_bind (wpAny_standAt (wpAny_bind (thnF h fun it' s' h' => wpAny_pure (And.intro rfl h'))))
theorem loop_d2o (hs : ∀ x, foldedSetIterable i1 env x = pure x) (I : Nat → Shared → Prop)
    (turn : ∀ n s, I n s → wpAny (model prog w) A (pyNext it) (fun r s₁ => match r with
      | none => R (.ok .next) s₁
      | some v => wpAny (model prog w) A (letOwnedTupleGo t0 it v) (fun _ s₂ => wpAny (model prog w) A (assign t0 env v) (fun _ s₃ =>
          wpAny (model prog w) A (eval i1 env) (fun x s₄ => wpAny (model prog w) A (pyIter x) (fun it1 s₅ =>
            codeAny (model prog w) A (.compStart (.DictComp kx vx [⟨t0, i0, [], 0⟩, ⟨t1, i1, [], 0⟩] scope pos) 1 it1 acc env) (fun r s' => match r with
              | .ok _ => ∃ m, m < n ∧ I m s'
              | .error _ => False) s₅) (fun _ _ => False) s₄) (fun _ _ => False) s₃) (fun _ _ => False) s₂) (fun _ _ => False) s₁) (fun _ _ => False) s)
    (n : Nat) (h : I n s) :
    codeAny (model prog w) A (.compLoop (.DictComp kx vx [⟨t0, i0, [], 0⟩, ⟨t1, i1, [], 0⟩] scope pos) 0 it acc env) R s := by
  refine codeAny_loop rfl I (fun n s hI => ?_) n h
  show wpAny _ A ((compTurn (.DictComp kx vx [⟨t0, i0, [], 0⟩, ⟨t1, i1, [], 0⟩] scope pos) 0 it acc env).onRaise (fun x => do noteFrame x env; theTreesLotGoes x)) _ _ s
  refine wpAny_noted ?_
  rw [turn_d2o]
  refine wpAny_bind (wpAny_standAt (wpAny_bind (thnF (turn n s hI) fun r s1 h1 => ?_)))
  cases r with
  | none => exact wpAny_pure h1
  | some v =>
    refine wpAny_bind (thnF h1 fun _ s2 h2 => wpAny_bind (thnF h2 fun _ s3 h3 => wpAny_bind (thnF h3 fun x s4 h4 => ?_)))
    refine wpAny_bind (wpAny_standAt (wpAny_bind (wpAny_of_eq (hs x) (wpAny_bind (wpAny_holding (thnF h4 fun it1 s5 h5 => ?_))))))
    refine wpAny_bind (wpAny_runOwn ?_)
    rw [Around.mark_none]
    refine codeAny_mono h5 fun r s' hr => ?_
    cases r with
    | ok f =>
      first
        | exact wpAny_pure ⟨rfl, hr⟩
        | exact wpAny_bind (wpAny_pure (wpAny_pure ⟨rfl, hr⟩))
    | error e => exact hr.elim
end

/-! d[k] = v within a comprehension -/
section
variable {X : Cx} {pins : List (Addr × Obj)} {σ : L2.St} {H : Hp} {s : Shared}
theorem d_put {H' : Hp} {E : Value → Shared → Prop} {D : Addr} {y v : V} {u r : Value} {Q : Unit → Shared → Prop} (hu : X.A.units < cLine) (I : Inv X pins σ H s) (g : DPut H D y v H') (ry : RelV y u) (rv : RelV v r) (h : ∀ s', Inv X pins σ H' s' → Q () s') :
    wpAny (model X.prog X.w) X.A (dictSet D u r) Q E s := by
  rcases g with ⟨kvs, k, e, ey, l, eH⟩ | ⟨kvs, k, b, e, ey, eb, l, eH⟩
  · subst ey eH
    exact d_dictSet I e l ry rv h
  · subst ey eH
    cases (show u = Value.ref b from ry)
    obtain ⟨z, hd, xs, rel, dd⟩ := dt_of I.hok e
    have hz : xs.length ≤ sizeLine := by rw [← Paired.length rel]; exact z
    have hl : (putK kvs k v).length ≤ sizeLine := by have := length_putK kvs k v; omega
    refine wpAny_dictSet_heap (knd := tupleKind (mixKind X.prog X.w)) (hsz := hz) hu (key_of I.hok eb) dd fun h' dd' hs => h _ ?_
    obtain ⟨q, es, ep, hq, h2, h3, h4, _, h5⟩ := dd'
    refine d_write I (by rw [e]; exact True.intro) hs ⟨q, hq⟩ ⟨hl, hd, _, (rel.put k eb rv).keeps fun c ys ec => ?_, q, es, ep, hq, h2, h3, h4, h5⟩
    rw [upd_ne (ne_of ec e (fun z => nomatch z))]
    exact ec
end

section
variable {X : Cx}
/-- a dict comprehension up to its first loop: the block has begun, the new dict o0 lies at D -/
theorem dc_block {pins : List (Addr × Obj)} {s : Shared} {σ : L2.St} {H : Hp} {Q : VK} {kx vx tg iter : Expr} {more : List Comprehension} {scope : Scope} {own : List (Str × Nat)} {pos pos' : Pos} {wi : TI} {o0 : HO} {Rd : It → Addr → Hp → Prop} {use : Option (Value → Sem Unit)} {Qf : Value → Shared → Prop}
    (hN : X.N.Nodup) (I : Inv X pins σ H s) (hi : PI X tg iter wi) (ok : BlkOk X.N X.env.scope scope own) (hs : ∀ x, foldedSetIterable iter X.env x = pure x)
    (ho : ∀ (Hx : Hp) (h : Heap), sysModules < h.objs.size → ObjOk X.prog X.w Hx (h.push { cls := .type "dict", data := .dict #[] }) h.objs.size o0)
    (h : wi σ H fun J H1 => ∀ D, H1 D = none → Rd J D (upd H1 D o0))
    (hloop : ∀ (s3 s4 : Shared) (H3 : Hp) (C : Addr) (cl : List (Str × Addr)) (fp : List Addr) (it : Addr) (tn : Nat → Heap → Prop) (J : It) (D : Addr),
      Inv (X.blk s3 H3 scope (compEnvC scope cl C X.env) fp) [] (wipe σ (own.map (·.2))) H3 s4 → Turn X.prog X.w X.K tg J fp it tn → tn 0 s4.heap → (∀ b ∈ fp, H3 b = none) → Rd J D H3 →
      codeAny (model X.prog X.w) X.A (.compLoop (.DictComp kx vx (⟨tg, iter, [], 0⟩ :: more) scope pos) 0 (.ref it) (.ref D) (compEnvC scope cl C X.env))
        (fun r s' => r = .ok .next ∧ ∃ H5, Inv (X.blk s3 H3 scope (compEnvC scope cl C X.env) fp) [] (wipe σ (own.map (·.2))) H5 s' ∧ Q (.ref D) H5) s4)
    (hRR : ∀ D C s' m H', Inv X pins σ H' s' → Q (.ref D) H' → s'.heap.Ns C m → FpOk X pins H' C → compPost (model X.prog X.w) X.A X.xe use Qf (.ref D) C (.ok .next) s') :
    wpAny (model X.prog X.w) X.A (comprehension (.DictComp kx vx (⟨tg, iter, [], 0⟩ :: more) scope pos) scope X.env pos' newDict false (eval iter X.env) use) Qf X.xe s := by
  have caught : ∀ y ∈ scope.names, y.2 = .free → ∃ c, X.env.cells.lookup y.1 = some c := fun y hy e => by
    rcases ok.free y hy e with k | k
    · exact I.ok.has _ (.inl k)
    · exact I.ok.has _ (.inr k)
  refine wpAny_comprehension_free (use := use) rfl hs (closure_ok caught) ok.kind (fun y hy e => by rw [ok.uniq y hy, e]) (thn (hi.run pins s σ H _ I h) fun xv s1 hx => thn hx fun itv s2 h2 => ?_)
  obtain ⟨it, fp, tn, J, H2, ei, I2, T, st2, f2, q⟩ := h2
  subst ei
  refine wpAny_newObj_type (newEnv_comp ?_)
  generalize hD : s2.heap.objs.size = D
  have hDn : H2 D = none := I2.hok.fresh (Nat.le_of_eq hD)
  have qD := q D hDn
  generalize es3 : ({ s2 with heap := s2.heap.push { cls := .type "dict", data := .dict #[] } } : Shared) = s3
  have h3 : s3.heap = s2.heap.push { cls := .type "dict", data := .dict #[] } := by rw [← es3]
  have I3 : Inv X pins σ (upd H2 D o0) s3 := by
    rw [← es3]
    refine I2.laid (t' := s2.toks) (fun b o e => Heap.get?_push_of_some _ e) (Nat.le_of_eq hD) ?_
    rw [← hD]
    exact ho _ s2.heap I2.big
  have f3 : ∀ b ∈ fp, FpOk X pins (upd H2 D o0) b ∧ b < s3.heap.objs.size := fun b hb => by
    obtain ⟨ob, e, _⟩ := T.obj _ _ st2 b hb
    have hlt := Heap.lt_size e
    refine ⟨⟨?_, (f2 b hb).2⟩, by rw [h3, Heap.size_push]; exact Nat.lt_succ_of_lt hlt⟩
    rw [upd_ne (by rw [← hD]; exact Nat.ne_of_lt hlt)]
    exact (f2 b hb).1
  have st3 : tn 0 s3.heap := T.keep _ _ _ st2 fun b _ o e => by rw [h3]; exact Heap.get?_push_of_some _ e
  have I4 := block_start I3 ok hN f3
  show codeAny _ _ (.compStart (.DictComp kx vx (⟨tg, iter, [], 0⟩ :: more) scope pos) 0 (.ref it) (.ref D) (compEnvC scope (cellsFrom (s3.heap.objs.size + 1) scope.names (cloFrom X.env.cells scope.names [])) s3.heap.objs.size X.env)) (compPost (model X.prog X.w) X.A X.xe use Qf (.ref D) s3.heap.objs.size) { s3 with heap := pushCells (s3.heap.push { cls := .type "dict", data := .dict #[] }) scope.names }
  have lp := hloop s3 { s3 with heap := pushCells (s3.heap.push { cls := .type "dict", data := .dict #[] }) scope.names } (upd H2 D o0) s3.heap.objs.size (cellsFrom (s3.heap.objs.size + 1) scope.names (cloFrom X.env.cells scope.names [])) fp it tn J D I4 T
    (T.keep _ _ _ st3 fun b _ o e => pushCells_keeps _ _ _ _ (Heap.get?_push_of_some _ e)) (fun b hb => (f3 b hb).1.1) qD
  have fin := codeAny_mono lp (R' := compPost (model X.prog X.w) X.A X.xe use Qf (.ref D) s3.heap.objs.size) fun r s' hr => by
    obtain ⟨er, H5, I5, q5⟩ := hr
    subst er
    have I6 : Inv X pins σ H5 s' := I3.call' (ch := fp) I5.os I5.base I5.hok I5.bare fun b hb => ⟨(f3 b hb).1.2.2.2.1, (f3 b hb).1.2.1, (f3 b hb).1.2.2.2.2.1, (f3 b hb).1.2.2.2.2.2⟩
    obtain ⟨m, hn, _⟩ := I5.loc
    exact hRR D s3.heap.objs.size s' m H5 I6 q5 hn (I3.fpOk (Nat.le_refl _) I5.free)
  exact codeAny_compStart_dict fin (T.self X.A 0 _ _ _ (T.keep _ _ _ st3 fun b _ o e => pushCells_keeps _ _ _ _ (Heap.get?_push_of_some _ e)) fin)
end

section
variable {X : Cx}
/-- {k: v for tg in iter} -/
def Rd1 (g : TG) (tk tv : TE) (vs : List Nat) (σ : L2.St) (Q : VK) (J : It) (D : Addr) (Hd : Hp) : Prop := ∃ W : Nat → Nat → Hp → Prop, (∃ m, W 0 m Hd) ∧ ∀ i m H, W i m H →
  (J.stop i H ∧ Q (.ref D) H) ∨ (J.go i H ∧ ∃ Nx : Hp → Prop, (∀ H', Nx H' → ∃ m', m' < m ∧ W (i + 1) m' H') ∧ ∀ x H', J.yld i H x H' → g x (wipe σ vs) H' fun σ2 H2 => wipe σ2 vs = wipe σ vs ∧
    tk σ2 H2 fun y H4 => tv σ2 H4 fun z H5 => ∃ H6, DPut H5 D y z H6 ∧ Nx H6)
def tDc1 (o0 : HO) (wi : TI) (g : TG) (tk tv : TE) (vs : List Nat) : TE := fun σ H Q => wi σ H fun J H1 => ∀ D, H1 D = none → Rd1 g tk tv vs σ Q J D (upd H1 D o0)
/-- {k: v for tg in iter for tg1 in iter1} -/
def Rd2 (g : TG) (wi1 : TI) (g1 : TG) (tk tv : TE) (vs vs1 : List Nat) (σ : L2.St) (Q : VK) (J : It) (D : Addr) (Hd : Hp) : Prop := ∃ W : Nat → Nat → Hp → Prop, (∃ m, W 0 m Hd) ∧ ∀ i m H, W i m H →
  (J.stop i H ∧ Q (.ref D) H) ∨ (J.go i H ∧ ∃ Nx : Hp → Prop, (∀ H', Nx H' → ∃ m', m' < m ∧ W (i + 1) m' H') ∧ ∀ x H', J.yld i H x H' → g x (wipe σ vs) H' fun σ2 H2 => wipe σ2 vs = wipe σ vs ∧
    wi1 σ2 H2 fun J1 H3 => ∃ W1 : Nat → Nat → Hp → Prop, (∃ m, W1 0 m H3) ∧ ∀ j m1 H, W1 j m1 H →
      (J1.stop j H ∧ Nx H) ∨ (J1.go j H ∧ ∃ Nx1 : Hp → Prop, (∀ H', Nx1 H' → ∃ m', m' < m1 ∧ W1 (j + 1) m' H') ∧ ∀ x1 H', J1.yld j H x1 H' → g1 x1 (wipe σ2 vs1) H' fun σ3 H4 => wipe σ3 vs1 = wipe σ2 vs1 ∧
        tk σ3 H4 fun y H5 => tv σ3 H5 fun z H6 => ∃ H7, DPut H6 D y z H7 ∧ Nx1 H7))
def tDc2 (wi : TI) (g : TG) (wi1 : TI) (g1 : TG) (tk tv : TE) (vs vs1 : List Nat) : TE := fun σ H Q => wi σ H fun J H1 => ∀ D, H1 D = none → Rd2 g wi1 g1 tk tv vs vs1 σ Q J D (upd H1 D (.dK []))

/-- within a block: the iterator's records are ours -/
theorem blk_fp {s3 : Shared} {H3 H' : Hp} {scope : Scope} {ce : Env} {fp : List Addr} {pins : List (Addr × Obj)} {σ' : L2.St} {s' : Shared} (I' : Inv (X.blk s3 H3 scope ce fp) pins σ' H' s') (hn : ∀ b ∈ fp, H' b = none)
    (hp : ∀ b ∈ fp, ∀ p ∈ pins, p.1 ≠ b) : ∀ b ∈ fp, FpOk (X.blk s3 H3 scope ce fp) pins H' b := fun b hb =>
  ⟨hn b hb, (I'.ok.exf b hb).1, I'.ok.exfs b hb, .inl hb, fun x c e => (I'.ok.exf b hb).2 x c e, fun p hm => hp b hb p (by simpa using hm)⟩
/-- a turn is over: the records stand as they were pinned -/
theorem unpin {P : Program} {w : World} {K : PySem.W.Frag} {Y : Cx} {tg : Expr} {J : It} {fp : List Addr} {it : Addr} {tn : Nat → Heap → Prop} {pins : List (Addr × Obj)} {σ' : L2.St} {H' : Hp} {s7 s' : Shared} {i : Nat} (T : Turn P w K tg J fp it tn) (st : tn i s7.heap)
    (I' : Inv Y (pins ++ pinsAt fp s7.heap) σ' H' s') : tn i s'.heap ∧ ∀ b ∈ fp, H' b = none := by
  have pin' : ∀ b ∈ fp, ∀ o, s7.heap.get? b = some o → s'.heap.get? b = some o ∧ H' b = none := fun b hb o e =>
    let z := I'.pin (b, o) (List.mem_append_right _ (List.mem_append_right _ (mem_pinsAt hb e)))
    ⟨z.1, z.2.1⟩
  refine ⟨T.keep _ _ _ st fun b hb o e => (pin' b hb o e).1, fun b hb => ?_⟩
  obtain ⟨o, e, _⟩ := T.obj _ _ st b hb
  exact (pin' b hb o e).2

variable {kx vx tg iter tg1 iter1 : Expr} {scope : Scope} {own : List (Str × Nat)} {vs1 : List Nat} {pos : Pos} {wi wi1 : TI} {g g1 : TG} {tk tv : TE}
theorem pe_dcT (hu : X.A.units < cLine) (hc : X.calm = true) (hN : X.N.Nodup) (hi : PI X tg iter wi) (ok : BlkOk X.N X.env.scope scope own)
    (hg : ∀ (s : Shared) (H : Hp) (C : Addr) (cl : List (Str × Addr)) (fp : List Addr), PG (X.blk s H scope (compEnvC scope cl C X.env) fp) tg g)
    (hk : ∀ (s : Shared) (H : Hp) (C : Addr) (cl : List (Str × Addr)) (fp : List Addr), PE (X.blk s H scope (compEnvC scope cl C X.env) fp) kx tk)
    (he : ∀ (s : Shared) (H : Hp) (C : Addr) (cl : List (Str × Addr)) (fp : List Addr), PE (X.blk s H scope (compEnvC scope cl C X.env) fp) vx tv) (hs : ∀ x, foldedSetIterable iter X.env x = pure x := by intro _; rfl) :
    PE X (.DictComp kx vx [⟨tg, iter, [], 0⟩] scope pos) (tDc1 (.dT []) wi g tk tv (own.map (·.2))) := by
  refine ⟨fun pins s σ H Q I h => ?_⟩
  rw [arm_eval_DictComp]
  refine dc_block (o0 := .dT []) (Rd := Rd1 g tk tv (own.map fun p : Str × Nat => p.2) σ Q) (Q := Q) hN I hi ok hs (fun Hx h hb => dt_empty h hb) h (fun s3 s4 H3 C cl fp it tn J D I4 T st4 n4 hR => ?_) fun D C s' m H' I' q hn f => ⟨m, hn, fun h'' sb => ?_⟩
  · obtain ⟨W, ⟨m0, w0⟩, turn⟩ := hR
    refine loop_d1 (fun n s' => ∃ i H', Inv (X.blk s3 H3 scope (compEnvC scope cl C X.env) fp) [] (wipe σ (own.map (·.2))) H' s' ∧ tn i s'.heap ∧ (∀ b ∈ fp, H' b = none) ∧ W i n H') ?_ m0 ⟨0, H3, I4, st4, n4, w0⟩
    rintro n s5 ⟨i, H5, I5, st5, n5, w5⟩
    have mine := blk_fp I5 n5 fun b hb p hp => absurd hp (by simp)
    rcases turn i n H5 w5 with ⟨stop, qq⟩ | ⟨go, Nx, hNx, step⟩
    · refine thnF (T.done (X.blk s3 H3 scope (compEnvC scope cl C X.env) fp) rfl rfl rfl hc i [] s5 _ H5 (fun _ _ => False) I5 mine st5 stop) fun r s6 ⟨hr, I6⟩ => ?_
      subst hr
      exact ⟨rfl, H5, I6, qq⟩
    · refine thnF (T.item (X.blk s3 H3 scope (compEnvC scope cl C X.env) fp) rfl rfl rfl hc i [] s5 _ H5 (fun _ _ => False) I5 mine st5 go) fun r s6 ⟨u, hr, h6⟩ => ?_
      subst hr
      refine thnF h6 fun _ s7 ⟨x, H7, I7, r7, y7, st7, n7⟩ => ?_
      have I7' := I7.pinned (blk_fp I7 n7 fun b hb p hp => absurd hp (by simp)) (T.obj _ _ st7)
      refine thnF ((hg s3 H3 C cl fp).run _ s7 _ H7 x u _ I7' r7 (step x H7 y7)) fun _ s8 ⟨σ8, H8, I8, hw8, q8⟩ => ?_
      refine thnF ((hk s3 H3 C cl fp).run _ s8 σ8 H8 _ I8 q8) fun kv s9 ⟨yk, H9, I9, r9, q9⟩ => ?_
      refine thnF ((he s3 H3 C cl fp).run _ s9 σ8 H9 _ I9 q9) fun vv s10 ⟨yv, H10, I10, r10, H11, put, nx⟩ => ?_
      refine d_put (X := X.blk s3 H3 scope (compEnvC scope cl C X.env) fp) hu I10 put r9 r10 fun s11 I11 => ?_
      obtain ⟨m', hm, w'⟩ := hNx H11 nx
      obtain ⟨u1, u2⟩ := unpin T st7 I11
      exact ⟨m', hm, i + 1, H11, (I11.unpinned (pins := [])).weak (by rw [← hw8, wipe_length]) (fun j v e => by rw [← hw8] at e; exact (wipe_some e).1), u1, u2, w'⟩
  · obtain ⟨f0, f1, f2, f3, f4, f5⟩ := f
    exact ⟨.ref D, H', I'.turned (t' := s'.toks) (fun b o hb e => (sb.2 b hb).trans e) f0 f1 f3 f4 f5, rfl, q⟩

theorem pe_dc2 (hu : X.A.units < cLine) (hc : X.calm = true) (hN : X.N.Nodup) (hi : PI X tg iter wi) (ok : BlkOk X.N X.env.scope scope own) (hv : ∀ i ∈ vs1, i ∈ own.map (·.2))
    (hg : ∀ (s : Shared) (H : Hp) (C : Addr) (cl : List (Str × Addr)) (fp : List Addr), PG (X.blk s H scope (compEnvC scope cl C X.env) fp) tg g)
    (hi1 : ∀ (s : Shared) (H : Hp) (C : Addr) (cl : List (Str × Addr)) (fp : List Addr), PI (X.blk s H scope (compEnvC scope cl C X.env) fp) tg1 iter1 wi1)
    (hg1 : ∀ (s : Shared) (H : Hp) (C : Addr) (cl : List (Str × Addr)) (fp : List Addr), PG (X.blk s H scope (compEnvC scope cl C X.env) fp) tg1 g1)
    (hk : ∀ (s : Shared) (H : Hp) (C : Addr) (cl : List (Str × Addr)) (fp : List Addr), PE (X.blk s H scope (compEnvC scope cl C X.env) fp) kx tk)
    (he : ∀ (s : Shared) (H : Hp) (C : Addr) (cl : List (Str × Addr)) (fp : List Addr), PE (X.blk s H scope (compEnvC scope cl C X.env) fp) vx tv) (hs : ∀ x, foldedSetIterable iter X.env x = pure x := by intro _; rfl) (hs1 : ∀ env x, foldedSetIterable iter1 env x = pure x := by intro _ _; rfl) :
    PE X (.DictComp kx vx [⟨tg, iter, [], 0⟩, ⟨tg1, iter1, [], 0⟩] scope pos) (tDc2 wi g wi1 g1 tk tv (own.map (·.2)) vs1) := by
  refine ⟨fun pins s σ H Q I h => ?_⟩
  rw [arm_eval_DictComp]
  refine dc_block (o0 := .dK []) (Rd := Rd2 g wi1 g1 tk tv (own.map fun p : Str × Nat => p.2) vs1 σ Q) (Q := Q) hN I hi ok hs (fun Hx h hb => dk_empty h hb) h (fun s3 s4 H3 C cl fp it tn J D I4 T st4 n4 hR => ?_) fun D C s' m H' I' q hn f => ⟨m, hn, fun h'' sb => ?_⟩
  · obtain ⟨W, ⟨m0, w0⟩, turn⟩ := hR
    refine loop_d2o (hs1 _) (fun n s' => ∃ i H', Inv (X.blk s3 H3 scope (compEnvC scope cl C X.env) fp) [] (wipe σ (own.map (·.2))) H' s' ∧ tn i s'.heap ∧ (∀ b ∈ fp, H' b = none) ∧ W i n H') ?_ m0 ⟨0, H3, I4, st4, n4, w0⟩
    rintro n s5 ⟨i, H5, I5, st5, n5, w5⟩
    have mine := blk_fp I5 n5 fun b hb p hp => absurd hp (by simp)
    rcases turn i n H5 w5 with ⟨stop, qq⟩ | ⟨go, Nx, hNx, step⟩
    · refine thnF (T.done (X.blk s3 H3 scope (compEnvC scope cl C X.env) fp) rfl rfl rfl hc i [] s5 _ H5 (fun _ _ => False) I5 mine st5 stop) fun r s6 ⟨hr, I6⟩ => ?_
      subst hr
      exact ⟨rfl, H5, I6, qq⟩
    · refine thnF (T.item (X.blk s3 H3 scope (compEnvC scope cl C X.env) fp) rfl rfl rfl hc i [] s5 _ H5 (fun _ _ => False) I5 mine st5 go) fun r s6 ⟨u, hr, h6⟩ => ?_
      subst hr
      refine thnF h6 fun _ s7 ⟨x, H7, I7, r7, y7, st7, n7⟩ => ?_
      have I7' := I7.pinned (blk_fp I7 n7 fun b hb p hp => absurd hp (by simp)) (T.obj _ _ st7)
      refine thnF ((hg s3 H3 C cl fp).run _ s7 _ H7 x u _ I7' r7 (step x H7 y7)) fun _ s8 ⟨σ8, H8, I8, hw8, q8⟩ => ?_
      refine thnF ((hi1 s3 H3 C cl fp).run _ s8 σ8 H8 _ I8 q8) fun xv s10 hx => thnF hx fun itv s11 h11 => ?_
      obtain ⟨it1, fp1, tn1, J1, H11, e1, I11, T1, st11, f11, W1, ⟨m1, w1⟩, turn1⟩ := h11
      subst e1
      have same8 : ∀ (j : Nat) v, (wipe σ (own.map (·.2)))[j]? = some (some v) → (wipe σ8 vs1)[j]? = some (some v) := fun j v e => by
        rw [← hw8] at e
        obtain ⟨e1, e2⟩ := wipe_some e
        rw [wipe_out fun z => e2 (hv j z)]
        exact e1
      have mine1 : ∀ {H' : Hp}, (∀ b ∈ fp1, H' b = none) → ∀ b ∈ fp1, FpOk (X.blk s3 H3 scope (compEnvC scope cl C X.env) fp) ([] ++ pinsAt fp s7.heap) H' b := fun hn b hb => ⟨hn b hb, (f11 b hb).2⟩
      have lp : codeAny (model X.prog X.w) X.A (.compLoop (.DictComp kx vx [⟨tg, iter, [], 0⟩, ⟨tg1, iter1, [], 0⟩] scope pos) 1 (.ref it1) (.ref D) (compEnvC scope cl C X.env))
          (fun r s' => match r with
            | .ok _ => ∃ m, m < n ∧ ∃ i H', Inv (X.blk s3 H3 scope (compEnvC scope cl C X.env) fp) [] (wipe σ (own.map (·.2))) H' s' ∧ tn i s'.heap ∧ (∀ b ∈ fp, H' b = none) ∧ W i m H'
            | .error _ => False) s11 := by
        refine loop_d2i (fun k s' => ∃ j H', Inv (X.blk s3 H3 scope (compEnvC scope cl C X.env) fp) ([] ++ pinsAt fp s7.heap) (wipe σ8 vs1) H' s' ∧ tn1 j s'.heap ∧ (∀ b ∈ fp1, H' b = none) ∧ W1 j k H') ?_ m1 ⟨0, H11, I11.weak (wipe_length _ _) (fun j v e => (wipe_some e).1), st11, fun b hb => (f11 b hb).1, w1⟩
        rintro k s12 ⟨j, H12, I12, st12, n12, w12⟩
        rcases turn1 j k H12 w12 with ⟨stop1, nx1⟩ | ⟨go1, Nx1, hNx1, step1⟩
        · refine thnF (T1.done (X.blk s3 H3 scope (compEnvC scope cl C X.env) fp) rfl rfl rfl hc j _ s12 (wipe σ8 vs1) H12 (fun _ _ => False) I12 (mine1 n12) st12 stop1) fun r s13 ⟨hr, I13⟩ => ?_
          subst hr
          obtain ⟨m', hm, w'⟩ := hNx H12 nx1
          obtain ⟨u1, u2⟩ := unpin T st7 I13
          exact ⟨m', hm, i + 1, H12, (I13.unpinned (pins := [])).weak (by have z := congrArg List.length hw8; rw [wipe_length] at z; rw [wipe_length _ vs1]; exact z.symm) same8, u1, u2, w'⟩
        · refine thnF (T1.item (X.blk s3 H3 scope (compEnvC scope cl C X.env) fp) rfl rfl rfl hc j _ s12 (wipe σ8 vs1) H12 (fun _ _ => False) I12 (mine1 n12) st12 go1) fun r s13 ⟨u1, hr, h13⟩ => ?_
          subst hr
          refine thnF h13 fun _ s14 ⟨x1, H14, I14, r14, y14, st14, n14⟩ => ?_
          have I14' := I14.pinned (mine1 n14) (T1.obj _ _ st14)
          refine thnF ((hg1 s3 H3 C cl fp).run _ s14 (wipe σ8 vs1) H14 x1 u1 _ I14' r14 (step1 x1 H14 y14)) fun _ s15 ⟨σ15, H15, I15, hw15, q15⟩ => ?_
          refine thnF ((hk s3 H3 C cl fp).run _ s15 σ15 H15 _ I15 q15) fun kv s16 ⟨yk, H16, I16, r16, q16⟩ => ?_
          refine thnF ((he s3 H3 C cl fp).run _ s16 σ15 H16 _ I16 q16) fun vv s17 ⟨yv, H17, I17, r17, H18, put, nx⟩ => ?_
          refine d_put (X := X.blk s3 H3 scope (compEnvC scope cl C X.env) fp) hu I17 put r16 r17 fun s18 I18 => ?_
          obtain ⟨m', hm, w'⟩ := hNx1 H18 nx
          obtain ⟨v1, v2⟩ := unpin T1 st14 I18
          exact ⟨m', hm, j + 1, H18, I18.unpinned.weak (by rw [← hw15, wipe_length]) (fun j v e => by rw [← hw15] at e; exact (wipe_some e).1), v1, v2, w'⟩
      exact start_d2 lp (T1.self X.A 0 _ _ _ st11 lp)
  · obtain ⟨f0, f1, f2, f3, f4, f5⟩ := f
    exact ⟨.ref D, H', I'.turned (t' := s'.toks) (fun b o hb e => (sb.2 b hb).trans e) f0 f1 f3 f4 f5, rfl, q⟩
end
end K14
/-! K14Sort -/
set_option Elab.async false
set_option linter.all false
set_option maxRecDepth 100000
set_option maxHeartbeats 2000000
/-! sorted of data; dict(list of pairs) whose keys are tuples of whole numbers. -/
namespace K14
open PySem PySem.Spec PyProof.Rows L2

theorem dpAll_len {K : PySem.W.Frag} {H : Hp} : ∀ {xs : List V} {ds : List PyData}, DpAll K H xs ds → xs.length = ds.length
  | _, _, .nil => rfl
  | _, _, .cons _ t => by rw [List.length_cons, List.length_cons, dpAll_len t]
theorem zip_snd {α β : Type} : ∀ {xs : List α} {ds : List β}, xs.length = ds.length → (xs.zip ds).map (fun p => p.2) = ds
  | [], [], _ => rfl
  | x :: xs, d :: ds, h => by rw [List.zip_cons_cons, List.map_cons, zip_snd (by simpa using h)]
theorem zip_fst {α β : Type} : ∀ {xs : List α} {ds : List β}, xs.length = ds.length → (xs.zip ds).map (fun p => p.1) = xs
  | [], [], _ => rfl
  | x :: xs, d :: ds, h => by rw [List.zip_cons_cons, List.map_cons, zip_fst (by simpa using h)]
section
variable {X : Cx}
/-- sorted(xs), a list of data that can be compared -/
def rSortD (K : PySem.W.Frag) : List V → Hp → VK → Prop := fun vs H Q => ∃ (a : Addr) (xs : List V) (ds : List PyData), vs = [.ref a] ∧ SqL K H a xs ∧ DpAll K H xs ds ∧ PySem.W.AllAlike ds ∧ PySem.W.Sortable ds ∧ (∀ d ∈ ds, d.depth ≤ 8) ∧
  ∀ (p : Addr) (bs : List (V × PyData)), bs.Perm (xs.zip ds) → bs.map (fun b => b.2) = ds.mergeSort (PySem.W.dataLe false id) → H p = none → Q (.ref p) (upd H p (.lst (bs.map fun b => b.1)))
theorem each_zip {X : Cx} {pins : List (Addr × Obj)} {σ : L2.St} {H : Hp} {s : Shared} (I : Inv X pins σ H s) : ∀ {xs : List V} {ds : List PyData} {us : List Value}, DpAll X.K H xs ds → Vals xs us →
    PySem.W.EachIs (fun u (b : V × PyData) => RelV b.1 u) us (xs.zip ds) ∧ PySem.W.EachIs (fun u (b : V × PyData) => ∃ as, Reads s.heap u b.2 as) us (xs.zip ds)
  | _, _, _, .nil, .nil => ⟨.nil, .nil⟩
  | _, _, _, .cons h1 h2, .cons r1 r2 =>
    let ⟨a, b⟩ := each_zip I h2 r2
    ⟨.cons r1 a, .cons (Dp.reads I _ _ _ h1 r1) b⟩
theorem vals_each : ∀ {us : List Value} {bs : List (V × PyData)}, PySem.W.EachIs (fun u (b : V × PyData) => RelV b.1 u) us bs → Vals (bs.map fun b => b.1) us
  | _, _, .nil => .nil
  | _, _, .cons r t => .cons r (vals_each t)
theorem cr_sortD (hu : X.A.units + 64 < cLine) : CallR X (.builtin "sorted") (rSortD X.K) := by
  intro pins s σ H vs us Q I r h
  obtain ⟨a, xs, ds, rfl, hs, hd, h1, h2, h3, q⟩ := h
  obtain ⟨its, rv, hl, hz⟩ := I.list hs
  rw [Vals.ref1 r]
  have hlen := dpAll_len hd
  obtain ⟨e1, e2⟩ := each_zip I hd rv
  have em : (xs.zip ds).map (fun b : V × PyData => b.2) = ds := zip_snd hlen
  refine PySem.W.sorted_data (enc := fun b : V × PyData => b.2) hl.isList e1 e2 (by rw [em]; exact h1) (by rw [em]; exact h2) (by rw [List.length_zip]; omega) (fun b hb => ?_) fun out ho eo => ?_
  · have := h3 b.2 (by rw [← em]; exact List.mem_map.mpr ⟨b, hb, rfl⟩)
    omega
  · obtain ⟨ep, he'⟩ := PyProof.Rows.sortedAll_at s.heap its out.toArray
    have hv := vals_each eo
    have hp : ((xs.zip ds).mergeSort (PySem.W.dataLe false fun b : V × PyData => b.2)).Perm (xs.zip ds) := List.mergeSort_perm _ _
    have hlen2 : (((xs.zip ds).mergeSort (PySem.W.dataLe false fun b : V × PyData => b.2)).map fun b => b.1).length ≤ sizeLine := by
      rw [List.length_map, hp.length_eq, List.length_zip]; omega
    refine ⟨.ref _, upd H (s.heap.objs.size + 1) (.lst (((xs.zip ds).mergeSort (PySem.W.dataLe false fun b : V × PyData => b.2)).map fun b => b.1)), I.laid (t' := s.toks) (fun _ _ => PyProof.Rows.sortedAll_old) (Nat.le_succ _) ⟨hlen2, out, ep, hv, he'⟩, rfl, q _ _ hp ?_ (I.hok.fresh (Nat.le_succ _))⟩
    have z := PySem.W.sort_maps (r := PySem.W.dataLe false fun b : V × PyData => b.2) (s := PySem.W.dataLe false (id : PyData → PyData)) (fun b : V × PyData => b.2) (l := xs.zip ds) (fun _ _ _ _ => rfl)
    rw [z, em]
/-- the list has data: what comes out -/
theorem rc_sort {K : PySem.W.Frag} {N : Addr → Prop} {H : Hp} {ds : List PyData} (h1 : PySem.W.AllAlike ds) (h2 : PySem.W.Sortable ds) (h3 : ∀ d ∈ ds, d.depth ≤ 8) : RCD N H (rSortD K) [.list ds] (.list (ds.mergeSort (PySem.W.dataLe false id))) := fun N1 H1 l n vs hv Q q => by
  cases hv with
  | cons hv t =>
    cases t
    obtain ⟨a, xs, rfl, na, ha, hx⟩ := hv.lst_inv
    refine ⟨a, xs, ds, rfl, SqL.of ha, DNs.dp ds xs hx, h1, h2, h3, fun p bs hp hb hn => q _ _ (ex_new hn) (.lst (n.fresh hn) upd_same ?_)⟩
    rw [← hb]
    have all : ∀ b ∈ bs, DN N1 (upd H1 p (.lst (bs.map fun b => b.1))) b.1 b.2 := fun b hm => by
      have hm2 := hp.mem_iff.mp hm
      obtain ⟨i, hi⟩ := List.getElem?_of_mem hm2
      have z := List.getElem?_zip_eq_some.mp hi
      obtain ⟨d, e1, e2⟩ := hx.getV z.1
      rw [z.2] at e1
      cases e1
      exact e2.ex (ex_new hn)
    clear hb hp
    generalize upd H1 p (.lst (bs.map fun b => b.1)) = H2 at all
    induction bs with
    | nil => exact .nil
    | cons b r ih => exact .cons (all b List.mem_cons_self) (ih fun c hc => all c (List.mem_cons_of_mem _ hc))
end

/-! dict(pairs), the keys tuples -/
def putAll (acc more : List (List Key × V)) : List (List Key × V) := more.foldl (fun a kv => putK a kv.1 kv.2) acc
theorem kt_putAll {H : Hp} {more : List (List Key × V)} {prs : List (List Key × Addr × Value)} {acc : List (List Key × V)} {xs : List (List Key × Addr × Value)} (h1 : KT H more prs) (h2 : KT H acc xs) : KT H (putAll acc more) (storedAllH xs prs) := by
  induction h1 generalizing acc xs with
  | nil => exact h2
  | @cons p q l1 l2 r t ih =>
    have z := KT.put h2 p.1 (b := q.2.1) (y := p.2) (u := q.2.2) r.2.1 r.2.2
    have e : storedH xs p.1 q.2.1 q.2.2 = storedH xs q.1 q.2.1 q.2.2 := by rw [r.1]
    rw [e] at z
    exact ih z
theorem putAll_len : ∀ (more acc : List (List Key × V)), (putAll acc more).length ≤ acc.length + more.length
  | [], acc => Nat.le_refl _
  | p :: r, acc => by
    have h1 := putAll_len r (putK acc p.1 p.2)
    have h2 := length_putK acc p.1 p.2
    show (putAll (putK acc p.1 p.2) r).length ≤ _
    rw [List.length_cons]
    omega
section
variable {X : Cx}
/-- the pairs' parts, by values -/
theorem pairsT {pins : List (Addr × Obj)} {σ : L2.St} {H : Hp} {s : Shared} (I : Inv X pins σ H s) : ∀ {ps : List Addr} {ts : List (List Key × Addr × V)}, Paired (fun p t => SqT X.K H p [.ref t.2.1, t.2.2] ∧ H t.2.1 = some (.tup (t.1.map kV))) ps ts →
    ∃ prs : List (List Key × Addr × Value), KT H (ts.map fun t => (t.1, t.2.2)) prs ∧ prs.length = ps.length ∧ ∀ (j : Nat) q, prs[j]? = some q → ∃ p, ps[j]? = some p ∧ s.heap.IsTuple p #[.ref q.2.1, q.2.2]
  | _, _, .nil => ⟨[], .nil, rfl, fun j q e => by simp at e⟩
  | _, _, .cons (a := p) (b := t) ⟨h1, h2⟩ r => by
    obtain ⟨prs, k, l, g⟩ := pairsT I r
    obtain ⟨its, rv, ht, _⟩ := I.tuple h1
    obtain ⟨u1, u2, rfl, r1, r2⟩ := vals2 rv
    cases r1
    refine ⟨(t.1, t.2.1, u2) :: prs, .cons ⟨rfl, h2, r2⟩ k, by rw [List.length_cons, List.length_cons, l], fun j q e => ?_⟩
    cases j with
    | zero =>
      have e' : (t.1, t.2.1, u2) = q := by simpa using e
      subst e'
      exact ⟨p, rfl, ht⟩
    | succ j =>
      obtain ⟨p', a, b⟩ := g j q (by simpa using e)
      exact ⟨p', by simpa using a, b⟩
def rDictT (K : PySem.W.Frag) : List V → Hp → VK → Prop := fun xs H Q => ∃ (a : Addr) (ps : List Addr) (ts : List (List Key × Addr × V)), xs = [.ref a] ∧ SqL K H a (ps.map V.ref) ∧ Paired (fun p t => SqT K H p [.ref t.2.1, t.2.2] ∧ H t.2.1 = some (.tup (t.1.map kV))) ps ts ∧
  ∀ p, H p = none → Q (.ref p) (upd H p (.dT (putAll [] (ts.map fun t => (t.1, t.2.2)))))
theorem cr_dictT (hcalm : X.calm = true) (hu : X.A.units + 64 < cLine) : CallR X (.type "dict") (rDictT X.K) := by
  intro pins s σ H xs us Q I r q
  obtain ⟨a, ps, ts, rfl, hq, hp, q⟩ := q
  rw [Vals.ref1 r]
  obtain ⟨its, rv, ⟨o, n, ho, hc, hd, hdat⟩, hz⟩ := I.list hq
  have ei := refs_at rv
  subst ei
  rw [List.length_map] at hz
  obtain ⟨prs, rel, hl, hpr⟩ := pairsT I hp
  have keyis : ∀ x ∈ prs, (tupleKind (mixKind X.prog X.w)).is s.heap x.1 x.2.1 := fun x hx => by
    have all : ∀ {l : List (List Key × V)} {m : List (List Key × Addr × Value)}, KT H l m → ∀ x ∈ m, (tupleKind (mixKind X.prog X.w)).is s.heap x.1 x.2.1 := by
      intro l m q
      induction q with
      | nil => intro x hx; exact nomatch hx
      | @cons p q ps qs hq t ih =>
        intro x hx
        rcases List.mem_cons.mp hx with e | hx
        · subst e
          exact key_of I.hok (by rw [← hq.1]; exact hq.2.1)
        · exact ih x hx
    exact all rel x hx
  have getp : ∀ j q, prs[j]? = some q → ps.getD j 0 = ps.getD j 0 ∧ ∃ p, ps[j]? = some p := fun j q e => ⟨rfl, let ⟨p, a, _⟩ := hpr j q e; ⟨p, a⟩⟩
  refine call_dict_pairsH (knd := tupleKind (mixKind X.prog X.w)) (ps := prs) (PairArg.list a (ps.map Value.ref).toArray (fun j => ps.getD j 0) (prs.map fun x => (Value.ref x.2.1, x.2.2))) (I.ok.hd hcalm) (by show X.A.units + 1 + 1 < cLine; omega)
    ⟨⟨o, n, ho, hc, hd, hdat⟩, by rw [List.size_toArray, List.length_map, List.length_map, hl], fun j k v e => ?_⟩ ⟨by rw [List.length_map], fun i key v e => ?_⟩ (fun h' hk x hx => ?_) (by rw [List.length_map, hl]; exact hz) fun h' tk hd' k => ?_
  · rw [List.getElem?_map] at e
    cases eq : prs[j]? with
    | none => rw [eq] at e; cases e
    | some x =>
      rw [eq] at e
      obtain ⟨p, e1, e2⟩ := hpr j x eq
      have e' : (Value.ref x.2.1, x.2.2) = (k, v) := by simpa using e
      have ek : Value.ref x.2.1 = k := congrArg Prod.fst e'
      have ev : x.2.2 = v := congrArg Prod.snd e'
      subst ek ev
      have eg : ps.getD j 0 = p := by rw [List.getD_eq_getElem?_getD, e1]; rfl
      refine ⟨?_, .inl ?_⟩
      · show (ps.map Value.ref).toArray[j]? = some (Value.ref (ps.getD j 0))
        rw [eg]
        simp [e1]
      · show s.heap.IsTuple (ps.getD j 0) _
        rw [eg]
        exact e2
  · have e : (prs.map fun x => (Value.ref x.2.1, x.2.2))[i]? = some (key, v) := e
    rw [List.getElem?_map] at e
    cases eq : prs[i]? with
    | none => rw [eq] at e; cases e
    | some x =>
      rw [eq] at e
      have e' : (Value.ref x.2.1, x.2.2) = (key, v) := by simpa using e
      have ek : Value.ref x.2.1 = key := congrArg Prod.fst e'
      have ev : x.2.2 = v := congrArg Prod.snd e'
      subst ek ev
      exact ⟨x.1, x.2.1, rfl, rfl⟩
  · exact tupleKind_stays.all h' (fun b ob _ e => hk b ob (Nat.ne_of_lt (Heap.lt_size e)) (by simp) e) _ _ (keyis x hx)
  · have hm : (s.heap.objs.size == sysModules) = false := beq_eq_false_iff_ne.mpr (Nat.ne_of_gt I.big)
    have hlen : (putAll [] (ts.map fun t => (t.1, t.2.2))).length ≤ sizeLine := by
      refine Nat.le_trans (putAll_len _ _) ?_
      rw [List.length_nil, Nat.zero_add, Paired.length rel, hl]
      exact hz
    have kt := kt_putAll (acc := []) (xs := []) rel .nil
    have hk : ∀ b o, s.heap.get? b = some o → h'.get? b = some o := fun b ob e => k b ob (by simp) e
    obtain ⟨q', es, ep, e1, e2, e3, e4, _, e5⟩ := hd'
    refine ⟨.ref s.heap.objs.size, upd H s.heap.objs.size (.dT (putAll [] (ts.map fun t => (t.1, t.2.2)))), I.laid (t' := tk) hk (Nat.le_refl _) ⟨hlen, hm, _, kt.keeps fun c ys ec => ?_, q', es, ep, e1, e2, e3, e4, e5⟩, rfl, q _ (I.hok.fresh (Nat.le_refl _))⟩
    rw [upd_ne (ne_of_none ec (I.hok.fresh (Nat.le_refl _)))]
    exact ec
end
end K14
/-! K14Ops -/
set_option Elab.async false
set_option linter.all false
set_option maxRecDepth 100000
set_option maxHeartbeats 2000000
/-! Operators and built-ins on data. -/
namespace K14
open PySem PySem.Spec PyProof.Rows L2

section
variable {X : Cx}
def rAddU (K : PySem.W.Frag) : R2 := fun x y H Q => rI0 (fun i j => .int (i + j)) x y H Q ∨ rCat x y H Q ∨ rCatA K x y H Q
theorem op_addU : OpR X (binaryOp .Add) (rAddU X.K) := op_add.or (op_cat.or op_catA)
abbrev rSubU : R2 := rI0 fun i j => .int (i - j)
theorem op_subU : OpR X (binaryOp .Sub) rSubU := op_sub
abbrev rMulU : R2 := fun x y H Q => rI CMul (fun i j => .int (i * j)) x y H Q ∨ rRep x y H Q
theorem op_mulU : OpR X (binaryOp .Mult) rMulU := op_mul.or op_rep
abbrev rDivU : R2 := rI CDiv fun i j => .int (i / j)
theorem op_divU : OpR X (binaryOp .FloorDiv) rDivU := op_fdiv
abbrev rModU : R2 := rI (fun _ j => 0 < j) fun i j => .int (i % j)
theorem op_modU : OpR X (binaryOp .Mod) rModU := op_mod
abbrev rPowU : R2 := rI CPow fun i j => .int (i ^ j.toNat)
theorem op_powU : OpR X (binaryOp .Pow) rPowU := op_pow
abbrev rLtU : R2 := rI0 fun i j => .bl (decide (i < j))
abbrev rLeU : R2 := rI0 fun i j => .bl (decide (i ≤ j))
abbrev rGtU : R2 := rI0 fun i j => .bl (decide (j < i))
abbrev rGeU : R2 := rI0 fun i j => .bl (decide (j ≤ i))
theorem op_ltU : OpR X (compareOp .Lt) rLtU := op_lt
theorem op_leU : OpR X (compareOp .LtE) rLeU := op_le
theorem op_gtU : OpR X (compareOp .Gt) rGtU := op_gt
theorem op_geU : OpR X (compareOp .GtE) rGeU := op_ge
def rIsNU : R2 := fun x y H Q => y = .non ∧ Q (.bl (decide (x = .non))) H
def rNotNU : R2 := fun x y H Q => y = .non ∧ Q (.bl (!decide (x = .non))) H
theorem op_isNU : OpR X (compareOp .Is) rIsNU := op_isN
theorem op_notNU : OpR X (compareOp .IsNot) rNotNU := op_notN
def rSlU (K : PySem.W.Frag) : V → Option Int → Option Int → Hp → VK → Prop := fun x lo hi H Q => rSlL K x lo hi H Q ∨ rSlA K x lo hi H Q
theorem sl_U : SlR X (rSlU X.K) := sl_list.or sl_tupA
end

section
variable {K : PySem.W.Frag} {N : Addr → Prop} {σ : L2.St} {H : Hp} {ta tb te : TE} {a b d : PyData} {as bs ds : List PyData}
/-! whole numbers -/
theorem r2_I {g : Int → Int → V} {i j : Int} {d : PyData} (h : ∀ N H, DN N H (g i j) d) : R2D N H (rI0 g) (.int i) (.int j) d := fun N1 H1 l n x y hx hy Q q => ⟨i, j, hx.int_inv, hy.int_inv, q _ H1 Ex.rfl' (h N1 H1)⟩
theorem r2_IC {C : Int → Int → Prop} {g : Int → Int → V} {i j : Int} {d : PyData} (hc : C i j) (h : ∀ N H, DN N H (g i j) d) : R2D N H (rI C g) (.int i) (.int j) d := fun N1 H1 l n x y hx hy Q q => ⟨i, j, hx.int_inv, hy.int_inv, hc, q _ H1 Ex.rfl' (h N1 H1)⟩
theorem r2_or1 {r r' : R2} (h : R2D N H r a b d) : R2D N H (fun x y H Q => r x y H Q ∨ r' x y H Q) a b d := fun N1 H1 l n x y hx hy Q q => .inl (h N1 H1 l n x y hx hy Q q)
theorem r2_or2 {r r' : R2} (h : R2D N H r' a b d) : R2D N H (fun x y H Q => r x y H Q ∨ r' x y H Q) a b d := fun N1 H1 l n x y hx hy Q q => .inr (h N1 H1 l n x y hx hy Q q)
theorem r_add {i j : Int} : R2D N H (rAddU K) (.int i) (.int j) (.int (i + j)) := r2_or1 (r2_I fun _ _ => .int _)
theorem r_sub {i j : Int} : R2D N H rSubU (.int i) (.int j) (.int (i - j)) := r2_I fun _ _ => .int _
theorem r_mul {i j : Int} (h : CMul i j) : R2D N H rMulU (.int i) (.int j) (.int (i * j)) := r2_or1 (r2_IC h fun _ _ => .int _)
theorem r_div {i j : Int} (h : 0 < j ∧ j < 1073741824) : R2D N H rDivU (.int i) (.int j) (.int (i / j)) := r2_IC h fun _ _ => .int _
theorem r_mod {i j : Int} (h : 0 < j) : R2D N H rModU (.int i) (.int j) (.int (i % j)) := r2_IC h fun _ _ => .int _
theorem r_pow {i j : Int} (h : CPow i j) : R2D N H rPowU (.int i) (.int j) (.int (i ^ j.toNat)) := r2_IC h fun _ _ => .int _
theorem r_lt {i j : Int} : R2D N H rLtU (.int i) (.int j) (.bool (decide (i < j))) := r2_I fun _ _ => .bl _
theorem r_le {i j : Int} : R2D N H rLeU (.int i) (.int j) (.bool (decide (i ≤ j))) := r2_I fun _ _ => .bl _
theorem r_gt {i j : Int} : R2D N H rGtU (.int i) (.int j) (.bool (decide (j < i))) := r2_I fun _ _ => .bl _
theorem r_ge {i j : Int} : R2D N H rGeU (.int i) (.int j) (.bool (decide (j ≤ i))) := r2_I fun _ _ => .bl _
theorem r_neg {i : Int} : RUD N H (rU fun i => .int (-i)) (.int i) (.int (-i)) := fun N1 H1 l n x hx Q q => ⟨i, hx.int_inv, q _ H1 Ex.rfl' (.int _)⟩
/-! None -/
def isNone : PyData → Bool
  | .none => true
  | _ => false
theorem DN.isNone {N : Addr → Prop} {H : Hp} {x : V} {a : PyData} (h : DN N H x a) : decide (x = .non) = isNone a := by
  cases h <;> first | rfl | exact decide_eq_false (fun z => nomatch z)
theorem r_isN : R2D N H rIsNU a .none (.bool (isNone a)) := fun N1 H1 l n x y hx hy Q q => ⟨hy.non_inv, by rw [hx.isNone]; exact q _ H1 Ex.rfl' (.bl _)⟩
theorem r_notN : R2D N H rNotNU a .none (.bool (!isNone a)) := fun N1 H1 l n x y hx hy Q q => ⟨hy.non_inv, by rw [hx.isNone]; exact q _ H1 Ex.rfl' (.bl _)⟩
/-! lists and tuples -/
theorem r_addL (h : as.length + bs.length ≤ sizeLine) : R2D N H (rAddU K) (.list as) (.list bs) (.list (as ++ bs)) := r2_or2 (r2_or1 fun N1 H1 l n x y hx hy Q q => by
  obtain ⟨p, xs, rfl, na, ea, ha⟩ := hx.lst_inv
  obtain ⟨p', ys, rfl, nb, eb, hb⟩ := hy.lst_inv
  exact ⟨p, p', xs, ys, rfl, rfl, ea, eb, by rw [ha.length, hb.length]; exact h, fun p hp => q _ _ (ex_new hp) (.lst (n.fresh hp) upd_same ((ha.append hb).ex (ex_new hp)))⟩)
theorem r_addT (h : as.length + bs.length ≤ sizeLine) : R2D N H (rAddU K) (.tuple as) (.tuple bs) (.tuple (as ++ bs)) := r2_or2 (r2_or2 fun N1 H1 l n x y hx hy Q q => by
  obtain ⟨p, xs, rfl, na, ea, ha⟩ := hx.tup_inv
  obtain ⟨p', ys, rfl, nb, eb, hb⟩ := hy.tup_inv
  refine ⟨p, p', xs, ys, rfl, rfl, SqT.of ea, SqT.of eb, by rw [ha.length, hb.length]; exact h, fun e => ?_, fun _ e => ?_, fun _ _ p hp => q _ _ (ex_new hp) (.tup (n.fresh hp) upd_same ((ha.append hb).ex (ex_new hp)))⟩
  · subst e
    cases ha
    exact q _ H1 Ex.rfl' (.tup nb eb hb)
  · subst e
    cases hb
    rw [List.append_nil] at q
    exact q _ H1 Ex.rfl' (.tup na ea ha))
theorem rep_DNs {N : Addr → Prop} {H : Hp} {xs : List V} (h : DNs N H xs as) : ∀ k : Nat, DNs N H (List.replicate k xs).flatten (List.replicate k as).flatten
  | 0 => .nil
  | k + 1 => by
    rw [List.replicate_succ, List.replicate_succ, List.flatten_cons, List.flatten_cons]
    exact h.append (rep_DNs h k)
theorem r_repL {k : Int} (h1 : 0 ≤ k ∧ k ≤ 1000) (h2 : as.length ≤ 1000) : R2D N H rMulU (.list as) (.int k) (.list (List.replicate k.toNat as).flatten) := r2_or2 fun N1 H1 l n x y hx hy Q q => by
  obtain ⟨p, xs, rfl, na, ea, ha⟩ := hx.lst_inv
  refine ⟨p, k, xs, rfl, hy.int_inv, ea, by omega, by omega, ?_, fun p hp => q _ _ (ex_new hp) (.lst (n.fresh hp) upd_same ((rep_DNs ha _).ex (ex_new hp)))⟩
  rw [ha.length]
  have : as.length * k.toNat ≤ 1000 * 1000 := Nat.mul_le_mul h2 (by omega)
  rw [sizeLine_eq]
  omega
theorem r_ixL {i : Int} (h : atI as i = some d) : R2D N H (rIx K) (.list as) (.int i) d := fun N1 H1 l n x y hx hy Q q => by
  obtain ⟨p, xs, rfl, na, ea, ha⟩ := hx.lst_inv
  unfold atI at h
  rw [← ha.length] at h
  cases e : ixN xs.length i with
  | none => rw [e] at h; cases h
  | some j =>
    rw [e] at h
    obtain ⟨v, e1, e2⟩ := ha.get h
    exact .inl ⟨p, xs, i, v, rfl, hy.int_inv, SqL.of ea, by unfold atI; rw [e]; exact e1, q _ H1 Ex.rfl' e2⟩
theorem r_ixT {i : Int} (h : atI as i = some d) : R2D N H (rIx K) (.tuple as) (.int i) d := fun N1 H1 l n x y hx hy Q q => by
  obtain ⟨p, xs, rfl, na, ea, ha⟩ := hx.tup_inv
  unfold atI at h
  rw [← ha.length] at h
  cases e : ixN xs.length i with
  | none => rw [e] at h; cases h
  | some j =>
    rw [e] at h
    obtain ⟨v, e1, e2⟩ := ha.get h
    exact .inr (.inl ⟨p, xs, i, v, rfl, hy.int_inv, SqT.of ea, by unfold atI; rw [e]; exact e1, q _ H1 Ex.rfl' e2⟩)
/-- a cut of data -/
def cutD (as : List PyData) (lo hi : Option Int) : List PyData := (as.drop (HT.sIx as.length 0 lo)).take (HT.sIx as.length as.length hi - HT.sIx as.length 0 lo)
theorem DNs.cut {N : Addr → Prop} {H : Hp} {xs : List V} (h : DNs N H xs as) (lo hi : Option Int) : DNs N H (cutV xs lo hi) (cutD as lo hi) := by
  unfold cutV cutD
  rw [h.length]
  exact (h.drop _).take _
/-- the parts of a slice -/
def EvO (N : Addr → Prop) (to : TO) (σ : L2.St) (H : Hp) (o : Option Int) : Prop :=
  ∀ N1 H1, Le N H N1 H1 → NOk N1 H1 → ∀ Q : Option Int → Hp → Prop, (∀ H2, Ex H1 H2 → Q o H2) → to σ H1 Q
theorem eo_none : EvO N tNoPart σ H none := fun N1 H1 l n Q q => q H1 Ex.rfl'
theorem eo_some {i : Int} (h : EvD N te σ H (.int i)) : EvO N (tPart te) σ H (some i) := fun N1 H1 l n Q q => h N1 H1 l n _ fun v H2 e hv => ⟨i, hv.int_inv, q H2 e⟩
theorem ed_slL {tl th : TO} {lo hi : Option Int} (h : EvD N te σ H (.list as)) (h1 : EvO N tl σ H lo) (h2 : EvO N th σ H hi) : EvD N (tSl (rSlU K) te tl th) σ H (.list (cutD as lo hi)) := fun N1 H1 l n Q q =>
  h N1 H1 l n _ fun v H2 e2 hv => h1 N1 H2 (l.ex e2) (n.ex e2) _ fun H3 e3 => h2 N1 H3 ((l.ex e2).ex e3) ((n.ex e2).ex e3) _ fun H4 e4 => by
    obtain ⟨p, xs, rfl, na, ea, ha⟩ := (hv.ex (e3.trans e4)).lst_inv
    exact .inl ⟨p, xs, rfl, SqL.of ea, fun p hp => q _ _ (((e2.trans e3).trans e4).trans (ex_new hp)) (.lst ((((n.ex e2).ex e3).ex e4).fresh hp) upd_same ((ha.cut lo hi).ex (ex_new hp)))⟩
theorem ed_slT {tl th : TO} {lo hi : Option Int} (h : EvD N te σ H (.tuple as)) (h1 : EvO N tl σ H lo) (h2 : EvO N th σ H hi) : EvD N (tSl (rSlU K) te tl th) σ H (.tuple (cutD as lo hi)) := fun N1 H1 l n Q q =>
  h N1 H1 l n _ fun v H2 e2 hv => h1 N1 H2 (l.ex e2) (n.ex e2) _ fun H3 e3 => h2 N1 H3 ((l.ex e2).ex e3) ((n.ex e2).ex e3) _ fun H4 e4 => by
    obtain ⟨p, xs, rfl, na, ea, ha⟩ := (hv.ex (e3.trans e4)).tup_inv
    refine .inr ⟨p, xs, rfl, SqT.of ea, fun z => ?_, fun _ p hp => q _ _ (((e2.trans e3).trans e4).trans (ex_new hp)) (.tup ((((n.ex e2).ex e3).ex e4).fresh hp) upd_same ((ha.cut lo hi).ex (ex_new hp)))⟩
    have e : cutD as lo hi = as := by
      unfold cutD
      rw [← ha.length, z.1, z.2, ha.length]
      show List.take (as.length - 0) as = as
      rw [Nat.sub_zero, List.take_length]
    rw [e] at q
    exact q _ H4 ((e2.trans e3).trans e4) (.tup na ea ha)
theorem r_eq (h1 : SeqAt.shaped a = true) (h2 : SeqAt.shaped b = true) : R2D N H (rEqD K) a b (.bool (PyData.eqv a b)) := fun N1 H1 l n x y hx hy Q q => ⟨a, b, DN.dp a x hx, DN.dp b y hy, h1, h2, q _ H1 Ex.rfl' (.bl _)⟩
theorem r_ne (h1 : SeqAt.shaped a = true) (h2 : SeqAt.shaped b = true) : R2D N H (rNeD K) a b (.bool (!PyData.eqv a b)) := fun N1 H1 l n x y hx hy Q q => ⟨a, b, DN.dp a x hx, DN.dp b y hy, h1, h2, q _ H1 Ex.rfl' (.bl _)⟩
theorem flat_ints (ns : List Int) : (ns.map V.int).all flatV = true := by
  rw [List.all_eq_true]
  intro x hx
  obtain ⟨i, _, rfl⟩ := List.mem_map.mp hx
  rfl
theorem inV_int (i : Int) (ns : List Int) : inV (.int i) (ns.map V.int) = decide (i ∈ ns) := by
  unfold inV
  rw [List.any_map, Bool.eq_iff_iff, List.any_eq_true, decide_eq_true_eq]
  constructor
  · rintro ⟨x, hx, e⟩
    have e' : (x == i) = true := e
    rw [← beq_iff_eq.mp e']
    exact hx
  · intro h
    exact ⟨i, h, by show (i == i) = true; simp⟩
theorem r_notin {i : Int} {ns : List Int} : R2D N H (rIn K true) (.int i) (.list (ns.map .int)) (.bool (!decide (i ∈ ns))) := fun N1 H1 l n x y hx hy Q q => by
  obtain ⟨p, xs, rfl, na, ea, ha⟩ := hy.lst_inv
  obtain rfl := hx.int_inv
  have e := ha.ints
  subst e
  refine ⟨p, ns.map V.int, rfl, .inl (SqL.of ea), rfl, flat_ints ns, ?_⟩
  rw [inV_int]
  exact q _ H1 Ex.rfl' (.bl _)

/-! calls of built-ins -/
def rLen (K : PySem.W.Frag) : List V → Hp → VK → Prop := fun xs H Q => ∃ p ys, xs = [.ref p] ∧ (SqL K H p ys ∨ SqT K H p ys) ∧ Q (.int ys.length) H
theorem one_arg {N : Addr → Prop} {H : Hp} {vs : List V} {a : PyData} (h : DNs N H vs [a]) : ∃ v, vs = [v] ∧ DN N H v a := by
  cases h with
  | cons h t => cases t; exact ⟨_, rfl, h⟩
theorem two_args {N : Addr → Prop} {H : Hp} {vs : List V} {a b : PyData} (h : DNs N H vs [a, b]) : ∃ v w, vs = [v, w] ∧ DN N H v a ∧ DN N H w b := by
  cases h with
  | cons h t => cases t with | cons h2 t => cases t; exact ⟨_, _, rfl, h, h2⟩
theorem rc_lenL : RCD N H (rLen K) [.list as] (.int as.length) := fun N1 H1 l n vs hvs Q q => by
  obtain ⟨v, rfl, hv⟩ := one_arg hvs
  obtain ⟨p, xs, rfl, na, ea, ha⟩ := hv.lst_inv
  exact ⟨p, xs, rfl, .inl (SqL.of ea), by rw [ha.length]; exact q _ H1 Ex.rfl' (.int _)⟩
theorem rc_lenT : RCD N H (rLen K) [.tuple as] (.int as.length) := fun N1 H1 l n vs hvs Q q => by
  obtain ⟨v, rfl, hv⟩ := one_arg hvs
  obtain ⟨p, xs, rfl, na, ea, ha⟩ := hv.tup_inv
  exact ⟨p, xs, rfl, .inr (SqT.of ea), by rw [ha.length]; exact q _ H1 Ex.rfl' (.int _)⟩
theorem rc_sumL {ns : List Int} : RCD N H (rSum2 K) [.list (ns.map .int)] (.int ns.sum) := fun N1 H1 l n vs hvs Q q => by
  obtain ⟨v, rfl, hv⟩ := one_arg hvs
  obtain ⟨p, xs, rfl, na, ea, ha⟩ := hv.lst_inv
  obtain rfl := ha.ints
  exact ⟨p, ns, rfl, .inl (SqL.of ea), q _ H1 Ex.rfl' (.int _)⟩
theorem rc_sumT {ns : List Int} : RCD N H (rSum2 K) [.tuple (ns.map .int)] (.int ns.sum) := fun N1 H1 l n vs hvs Q q => by
  obtain ⟨v, rfl, hv⟩ := one_arg hvs
  obtain ⟨p, xs, rfl, na, ea, ha⟩ := hv.tup_inv
  obtain rfl := ha.ints
  exact ⟨p, ns, rfl, .inr (SqT.of ea), q _ H1 Ex.rfl' (.int _)⟩
theorem rc_minL {ns : List Int} (h : ns ≠ []) : RCD N H (rMin2 K) [.list (ns.map .int)] (.int (minI ns)) := fun N1 H1 l n vs hvs Q q => by
  obtain ⟨v, rfl, hv⟩ := one_arg hvs
  obtain ⟨p, xs, rfl, na, ea, ha⟩ := hv.lst_inv
  obtain rfl := ha.ints
  exact ⟨p, ns, rfl, .inl (SqL.of ea), h, q _ H1 Ex.rfl' (.int _)⟩
theorem rc_minT {ns : List Int} (h : ns ≠ []) : RCD N H (rMin2 K) [.tuple (ns.map .int)] (.int (minI ns)) := fun N1 H1 l n vs hvs Q q => by
  obtain ⟨v, rfl, hv⟩ := one_arg hvs
  obtain ⟨p, xs, rfl, na, ea, ha⟩ := hv.tup_inv
  obtain rfl := ha.ints
  exact ⟨p, ns, rfl, .inr (SqT.of ea), h, q _ H1 Ex.rfl' (.int _)⟩
theorem rc_maxL {ns : List Int} (h : ns ≠ []) : RCD N H (rMax2 K) [.list (ns.map .int)] (.int (maxI ns)) := fun N1 H1 l n vs hvs Q q => by
  obtain ⟨v, rfl, hv⟩ := one_arg hvs
  obtain ⟨p, xs, rfl, na, ea, ha⟩ := hv.lst_inv
  obtain rfl := ha.ints
  exact ⟨p, ns, rfl, .inl (SqL.of ea), h, q _ H1 Ex.rfl' (.int _)⟩
theorem rc_maxT {ns : List Int} (h : ns ≠ []) : RCD N H (rMax2 K) [.tuple (ns.map .int)] (.int (maxI ns)) := fun N1 H1 l n vs hvs Q q => by
  obtain ⟨v, rfl, hv⟩ := one_arg hvs
  obtain ⟨p, xs, rfl, na, ea, ha⟩ := hv.tup_inv
  obtain rfl := ha.ints
  exact ⟨p, ns, rfl, .inr (SqT.of ea), h, q _ H1 Ex.rfl' (.int _)⟩
theorem rc_any {bs : List Bool} : RCD N H (rAny K) [.list (bs.map .bool)] (.bool (bs.any id)) := fun N1 H1 l n vs hvs Q q => by
  obtain ⟨v, rfl, hv⟩ := one_arg hvs
  obtain ⟨p, xs, rfl, na, ea, ha⟩ := hv.lst_inv
  obtain rfl := ha.bools
  exact ⟨p, bs, rfl, SqL.of ea, q _ H1 Ex.rfl' (.bl _)⟩
theorem rc_all {bs : List Bool} : RCD N H (rAll K) [.list (bs.map .bool)] (.bool (bs.all id)) := fun N1 H1 l n vs hvs Q q => by
  obtain ⟨v, rfl, hv⟩ := one_arg hvs
  obtain ⟨p, xs, rfl, na, ea, ha⟩ := hv.lst_inv
  obtain rfl := ha.bools
  exact ⟨p, bs, rfl, SqL.of ea, q _ H1 Ex.rfl' (.bl _)⟩
def rTupleOf (K : PySem.W.Frag) : List V → Hp → VK → Prop := fun xs H Q => ∃ p ys, xs = [.ref p] ∧ ((SqL K H p ys ∧ ∀ l, H l = none → Q (.ref l) (upd H l (.tup ys))) ∨ (SqT K H p ys ∧ Q (.ref p) H))
def rListOf (K : PySem.W.Frag) : List V → Hp → VK → Prop := fun xs H Q => ∃ p ys, xs = [.ref p] ∧ (SqL K H p ys ∨ SqT K H p ys) ∧ ∀ l, H l = none → Q (.ref l) (upd H l (.lst ys))
theorem rc_tupleL : RCD N H (rTupleOf K) [.list as] (.tuple as) := fun N1 H1 l n vs hvs Q q => by
  obtain ⟨v, rfl, hv⟩ := one_arg hvs
  obtain ⟨p, xs, rfl, na, ea, ha⟩ := hv.lst_inv
  exact ⟨p, xs, rfl, .inl ⟨SqL.of ea, fun l hl => q _ _ (ex_new hl) (.tup (n.fresh hl) upd_same (ha.ex (ex_new hl)))⟩⟩
theorem rc_tupleT : RCD N H (rTupleOf K) [.tuple as] (.tuple as) := fun N1 H1 l n vs hvs Q q => by
  obtain ⟨v, rfl, hv⟩ := one_arg hvs
  obtain ⟨p, xs, rfl, na, ea, ha⟩ := hv.tup_inv
  exact ⟨p, xs, rfl, .inr ⟨SqT.of ea, q _ H1 Ex.rfl' (.tup na ea ha)⟩⟩
theorem rc_listL : RCD N H (rListOf K) [.list as] (.list as) := fun N1 H1 l n vs hvs Q q => by
  obtain ⟨v, rfl, hv⟩ := one_arg hvs
  obtain ⟨p, xs, rfl, na, ea, ha⟩ := hv.lst_inv
  exact ⟨p, xs, rfl, .inl (SqL.of ea), fun l hl => q _ _ (ex_new hl) (.lst (n.fresh hl) upd_same (ha.ex (ex_new hl)))⟩
theorem rc_listT : RCD N H (rListOf K) [.tuple as] (.list as) := fun N1 H1 l n vs hvs Q q => by
  obtain ⟨v, rfl, hv⟩ := one_arg hvs
  obtain ⟨p, xs, rfl, na, ea, ha⟩ := hv.tup_inv
  exact ⟨p, xs, rfl, .inr (SqT.of ea), fun l hl => q _ _ (ex_new hl) (.lst (n.fresh hl) upd_same (ha.ex (ex_new hl)))⟩
def rInt1 : List V → Hp → VK → Prop := fun xs H Q => (∃ i, xs = [.int i] ∧ Q (.int i) H) ∨ ∃ k, xs = [.bl k] ∧ Q (.int (if k then 1 else 0)) H
theorem rc_intI {i : Int} : RCD N H rInt1 [.int i] (.int i) := fun N1 H1 l n vs hvs Q q => by
  obtain ⟨v, rfl, hv⟩ := one_arg hvs
  obtain rfl := hv.int_inv
  exact .inl ⟨i, rfl, q _ H1 Ex.rfl' (.int _)⟩
theorem rc_intB {b : Bool} : RCD N H rInt1 [.bool b] (.int (if b then 1 else 0)) := fun N1 H1 l n vs hvs Q q => by
  obtain ⟨v, rfl, hv⟩ := one_arg hvs
  obtain rfl := hv.bl_inv
  exact .inr ⟨b, rfl, q _ H1 Ex.rfl' (.int _)⟩
def rAbs : List V → Hp → VK → Prop := fun xs H Q => ∃ i, xs = [.int i] ∧ Q (.int (if i < 0 then -i else i)) H
theorem rc_abs {i : Int} : RCD N H rAbs [.int i] (.int (if i < 0 then -i else i)) := fun N1 H1 l n vs hvs Q q => by
  obtain ⟨v, rfl, hv⟩ := one_arg hvs
  obtain rfl := hv.int_inv
  exact ⟨i, rfl, q _ H1 Ex.rfl' (.int _)⟩
def rMaxP : List V → Hp → VK → Prop := fun xs H Q => ∃ i j, xs = [.int i, .int j] ∧ Q (.int (if j > i then j else i)) H
def rMinP : List V → Hp → VK → Prop := fun xs H Q => ∃ i j, xs = [.int i, .int j] ∧ Q (.int (if j < i then j else i)) H
theorem rc_max2 {i j : Int} : RCD N H rMaxP [.int i, .int j] (.int (max i j)) := fun N1 H1 l n vs hvs Q q => by
  obtain ⟨v, w, rfl, hv, hw⟩ := two_args hvs
  obtain rfl := hv.int_inv
  obtain rfl := hw.int_inv
  refine ⟨i, j, rfl, ?_⟩
  have e : (if j > i then j else i) = max i j := by rw [Int.max_def]; split <;> split <;> omega
  rw [e]
  exact q _ H1 Ex.rfl' (.int _)
theorem rc_min2 {i j : Int} : RCD N H rMinP [.int i, .int j] (.int (min i j)) := fun N1 H1 l n vs hvs Q q => by
  obtain ⟨v, w, rfl, hv, hw⟩ := two_args hvs
  obtain rfl := hv.int_inv
  obtain rfl := hw.int_inv
  refine ⟨i, j, rfl, ?_⟩
  have e : (if j < i then j else i) = min i j := by rw [Int.min_def]; split <;> split <;> omega
  rw [e]
  exact q _ H1 Ex.rfl' (.int _)
theorem rc_repr (h1 : a.showable = true) (h2 : a.hasDict = false) (h3 : a.depth ≤ 16) (h4 : a.shown.length ≤ sizeLine) (h5 : (∃ ds, a = .list ds) ∨ ∃ ds, a = .tuple ds) : RCD N H (rRepr K) [a] (.str a.shown) := fun N1 H1 l n vs hvs Q q => by
  obtain ⟨v, rfl, hv⟩ := one_arg hvs
  have hr : ∃ p, v = .ref p := by
    rcases h5 with ⟨ds, rfl⟩ | ⟨ds, rfl⟩
    · obtain ⟨p, xs, e, _⟩ := hv.lst_inv; exact ⟨p, e⟩
    · obtain ⟨p, xs, e, _⟩ := hv.tup_inv; exact ⟨p, e⟩
  obtain ⟨p, rfl⟩ := hr
  exact ⟨p, a, rfl, DN.dp a _ hv, h1, h2, h3, h4, q _ H1 Ex.rfl' (.str _)⟩
end
end K14
/-! K14Stm -/
set_option Elab.async false
set_option linter.all false
set_option maxRecDepth 100000
set_option maxHeartbeats 2000000
/-! Comprehensions and statements on data. -/
namespace K14
open PySem PySem.Spec PyProof.Rows L2

/-- what may be walked: a list, a tuple -/
def isSeqD : PyData → List PyData → Prop := fun d ds => d = .list ds ∨ d = .tuple ds
section
variable {K : PySem.W.Frag} {N : Addr → Prop} {σ : L2.St} {H : Hp} {ta tb te tl : TE} {tt : TT} {a b d : PyData} {as bs ds xs : List PyData} {j : Nat} {vs : List Nat}

/-- the state of a list that is being made at D -/
structure Mk (N : Addr → Prop) (H1 : Hp) (D : Addr) (out : List PyData) (H' : Hp) : Prop where
  new : H1 D = none
  ext : Ex H1 H'
  lst : ∃ acc, H' D = some (.lst acc) ∧ DNs (fun a => N a ∨ a = D) H' acc out
theorem Mk.start {H1 : Hp} {D : Addr} (h : H1 D = none) : Mk N H1 D [] (upd H1 D (.lst [])) := ⟨h, ex_new h, [], upd_same, .nil⟩
theorem Mk.nok {H1 H' : Hp} {D : Addr} {out : List PyData} (m : Mk N H1 D out H') (n : NOk N H1) : NOk (fun a => N a ∨ a = D) H' := fun a h => by
  rcases h with h | h
  · exact (n.ex m.ext) a h
  · obtain ⟨acc, e, _⟩ := m.lst
    subst h
    exact ⟨acc, e⟩
theorem Mk.le {H1 H' : Hp} {D : Addr} {out : List PyData} (m : Mk N H1 D out H') : Le N H1 (fun a => N a ∨ a = D) H' := (Le.add m.new).trans ⟨fun _ h => h, fun _ h => .inl h, fun a o _ h => m.ext a o h⟩
/-- nothing is added -/
theorem Mk.same {H1 H' H2 : Hp} {D : Addr} {out : List PyData} (m : Mk N H1 D out H') (e : Ex H' H2) : Mk N H1 D out H2 :=
  ⟨m.new, m.ext.trans e, let ⟨acc, h1, h2⟩ := m.lst; ⟨acc, e _ _ h1, h2.ex e⟩⟩
/-- an item is added -/
theorem Mk.add {H1 H' H2 : Hp} {D : Addr} {out : List PyData} {v : V} (m : Mk N H1 D out H') (e : Ex H' H2) (hv : DN (fun a => N a ∨ a = D) H2 v d) : ∃ acc, H2 D = some (.lst acc) ∧ acc.length = out.length ∧ Mk N H1 D (out ++ [d]) (upd H2 D (.lst (acc ++ [v]))) := by
  obtain ⟨acc, h1, h2⟩ := m.lst
  have h3 := e _ _ h1
  have keep : Le (fun a => N a ∨ a = D) H2 (fun a => N a ∨ a = D) (upd H2 D (.lst (acc ++ [v]))) := ⟨fun _ h => h, fun _ h => .inl h, fun b o nb eb => by
    rw [upd_ne (fun z => nb (.inr z))]
    exact eb⟩
  refine ⟨acc, h3, h2.length, m.new, fun b o eb => ?_, acc ++ [v], upd_same, ((h2.ex e).snoc hv).le keep⟩
  have nb : b ≠ D := ne_of_none eb m.new
  rw [upd_ne nb]
  exact e _ _ (m.ext _ _ eb)
/-- done: it is data -/
theorem Mk.done {H1 H' : Hp} {D : Addr} {out : List PyData} (m : Mk N H1 D out H') (n : NOk N H1) : DN N H' (.ref D) (.list out) := by
  obtain ⟨acc, h1, h2⟩ := m.lst
  refine .lst (n.fresh m.new) h1 (DNs.imp (fun a o na e => ⟨fun z => na (.inl z), e⟩) out acc h2)

/-- the comprehension's block: names wiped, the loop's name set -/
abbrev blkSt (σ : L2.St) (vs : List Nat) (j : Nat) (v : V) : L2.St := (wipe σ vs).set j (some v)
def keptD (f : PyData → Bool) (g : PyData → PyData) (xs : List PyData) : List PyData := (xs.filter f).map g
theorem keptD_snoc (f : PyData → Bool) (g : PyData → PyData) (xs : List PyData) (x : PyData) : keptD f g (xs ++ [x]) = keptD f g xs ++ (if f x then [g x] else []) := by
  unfold keptD
  rw [List.filter_append, List.map_append]
  congr 1
  by_cases h : f x = true
  · rw [if_pos h, List.filter_cons_of_pos h]; rfl
  · rw [if_neg h, List.filter_cons_of_neg h]; rfl
theorem keptD_len (f : PyData → Bool) (g : PyData → PyData) (xs : List PyData) : (keptD f g xs).length ≤ xs.length := by
  unfold keptD
  rw [List.length_map]
  exact List.length_filter_le _ _
theorem take_get {α : Type} {xs : List α} {i : Nat} {x : α} (h : xs[i]? = some x) : xs.take (i + 1) = xs.take i ++ [x] := by
  rw [List.take_succ, h]; rfl
/-- one turn of a comprehension -/
def TurnD (N : Addr → Prop) (tt : TT) (te : TE) (σ : L2.St) (H : Hp) (f : PyData → Bool) (g : PyData → PyData) (vs : List Nat) (j : Nat) (xs : List PyData) : Prop :=
  ∀ x ∈ xs, ∀ N1 H1 v, Le N H N1 H1 → NOk N1 H1 → DN N1 H1 v x → EvB N1 tt (blkSt σ vs j v) H1 (f x) ∧ (f x = true → EvD N1 te (blkSt σ vs j v) H1 (g x))
theorem lc_step {H1 H3 : Hp} {D : Addr} {i : Nat} {x : PyData} {v : V} {N1 : Addr → Prop} {f : PyData → Bool} {g : PyData → PyData} (ht : TurnD N tt te σ H f g vs j xs) (l : Le N H N1 H1) (n : NOk N1 H1) (hz : xs.length ≤ sizeLine)
    (hx : xs[i]? = some x) (m : Mk N1 H1 D (keptD f g (xs.take i)) H3) (hv : DN (fun a => N1 a ∨ a = D) H3 v x) (hw : wipe (blkSt σ vs j v) vs = wipe σ vs) :
    (gName j) v (wipe σ vs) H3 fun σ2 H2 => wipe σ2 vs = wipe σ vs ∧ tt σ2 H2 fun b H3 =>
      if b = true then te σ2 H3 fun y H4 => ∃ acc, H4 D = some (.lst acc) ∧ acc.length < sizeLine ∧ Mk N1 H1 D (keptD f g (xs.take (i + 1))) (upd H4 D (.lst (acc ++ [y]))) else Mk N1 H1 D (keptD f g (xs.take (i + 1))) H3 := by
  have hmem := List.mem_of_getElem? hx
  have n3 := m.nok n
  have l3 : Le N H (fun a => N1 a ∨ a = D) H3 := l.trans m.le
  obtain ⟨h1, h2⟩ := ht x hmem _ H3 v l3 n3 hv
  refine ⟨hw, h1 _ H3 Le.refl n3 _ fun H4 e4 => ?_⟩
  have m4 := m.same e4
  have lenlt : (keptD f g (xs.take i)).length < sizeLine := by
    have a1 := keptD_len f g (xs.take i)
    have a2 : i < xs.length := (List.getElem?_eq_some_iff.mp hx).1
    rw [List.length_take] at a1
    omega
  rw [take_get hx, keptD_snoc]
  by_cases hf : f x = true
  · rw [if_pos hf, if_pos hf]
    refine h2 hf _ H4 (Le.of e4) (n3.ex e4) _ fun y H5 e5 hy => ?_
    obtain ⟨acc, a1, a2, a3⟩ := m4.add e5 hy
    exact ⟨acc, a1, by rw [a2]; exact lenlt, a3⟩
  · rw [if_neg hf, if_neg hf, List.append_nil]
    exact m4
/-- [g x for x in a list if f x] -/
theorem ed_lcL (f : PyData → Bool) (g : PyData → PyData) (hl : EvD N tl σ H (.list xs)) (hz : xs.length ≤ sizeLine) (hw : ∀ v, wipe (blkSt σ vs j v) vs = wipe σ vs) (ht : TurnD N tt te σ H f g vs j xs) :
    EvD N (tLc (iList K tl) (gName j) tt te vs) σ H (.list (keptD f g xs)) := fun N1 H0 l n Q q =>
  hl N1 H0 l n _ fun v H1 e1 hv => by
    obtain ⟨a, ws, rfl, na, ea, hws⟩ := hv.lst_inv
    refine ⟨a, rfl, ⟨ws, SqL.of ea⟩, fun D hD => lc_list (xs := ws) (fun i H' => Mk N1 H1 D (keptD f g (xs.take i)) H') (by rw [List.take_zero]; exact .start hD) (fun i H' hi m => SqL.of (m.ext _ _ ea)) (fun i x H' hi m => ?_) fun H' m => ?_⟩
    · obtain ⟨d, e2, hd⟩ := hws.getV hi
      exact lc_step ht (l.ex e1) (n.ex e1) hz e2 m (hd.le m.le) (hw x)
    · rw [hws.length, List.take_length] at m
      exact q _ H' (e1.trans m.ext) (m.done (n.ex e1))
theorem ed_lcT (f : PyData → Bool) (g : PyData → PyData) (hl : EvD N tl σ H (.tuple xs)) (hz : xs.length ≤ sizeLine) (hw : ∀ v, wipe (blkSt σ vs j v) vs = wipe σ vs) (ht : TurnD N tt te σ H f g vs j xs) :
    EvD N (tLc (iTup K tl) (gName j) tt te vs) σ H (.list (keptD f g xs)) := fun N1 H0 l n Q q =>
  hl N1 H0 l n _ fun v H1 e1 hv => by
    obtain ⟨a, ws, rfl, na, ea, hws⟩ := hv.tup_inv
    refine ⟨a, rfl, ⟨ws, SqT.of ea⟩, fun D hD => lc_tup (xs := ws) (fun i H' => Mk N1 H1 D (keptD f g (xs.take i)) H') (by rw [List.take_zero]; exact .start hD) (fun i H' hi m => SqT.of (m.ext _ _ ea)) (fun i x H' hi m => ?_) fun H' m => ?_⟩
    · obtain ⟨d, e2, hd⟩ := hws.getV hi
      exact lc_step ht (l.ex e1) (n.ex e1) hz e2 m (hd.le m.le) (hw x)
    · rw [hws.length, List.take_length] at m
      exact q _ H' (e1.trans m.ext) (m.done (n.ex e1))
/-- the numbers lo, lo + 1, .. -/
def upTo (lo : Int) (n : Nat) : List Int := (List.range n).map fun i => lo + (i : Nat)
theorem upTo_get {lo : Int} {n i : Nat} (h : i < n) : (upTo lo n)[i]? = some (lo + (i : Nat)) := by
  unfold upTo
  rw [List.getElem?_map, List.getElem?_range h]; rfl
theorem upTo_len {lo : Int} {n : Nat} : (upTo lo n).length = n := by unfold upTo; rw [List.length_map, List.length_range]
theorem mem_upTo {lo x : Int} {n : Nat} : x ∈ upTo lo n ↔ lo ≤ x ∧ x < lo + n := by
  unfold upTo
  rw [List.mem_map]
  constructor
  · rintro ⟨i, hi, rfl⟩
    have := List.mem_range.mp hi
    omega
  · rintro ⟨h1, h2⟩
    exact ⟨(x - lo).toNat, List.mem_range.mpr (by omega), by omega⟩
theorem range_body {D : Addr} {H1 : Hp} {N1 : Addr → Prop} {lo : Int} {m : Nat} {Q : VK} (f : PyData → Bool) (g : PyData → PyData) (hz : m ≤ sizeLine) (hw : ∀ v, wipe (blkSt σ vs j v) vs = wipe σ vs) (ht : TurnD N tt te σ H f g vs j ((upTo lo m).map .int))
    (l : Le N H N1 H1) (n : NOk N1 H1) (hD : H1 D = none) (q : ∀ H', Ex H1 H' → DN N1 H' (.ref D) (.list (keptD f g ((upTo lo m).map .int))) → Q (.ref D) H') :
    ∃ W : Nat → Nat → Hp → Prop, (∃ m, W 0 m (upd H1 D (.lst []))) ∧ ∀ i k H, W i k H →
      ((Itr lo m).stop i H ∧ Q (.ref D) H) ∨ ((Itr lo m).go i H ∧ ∃ Nx : Hp → Prop, (∀ H', Nx H' → ∃ m', m' < k ∧ W (i + 1) m' H') ∧ ∀ x H', (Itr lo m).yld i H x H' → (gName j) x (wipe σ vs) H' fun σ2 H2 => wipe σ2 vs = wipe σ vs ∧ tt σ2 H2 fun b H3 =>
        if b = true then te σ2 H3 fun y H4 => ∃ acc, H4 D = some (.lst acc) ∧ acc.length < sizeLine ∧ Nx (upd H4 D (.lst (acc ++ [y]))) else Nx H3) := by
  refine lc_range (fun i H' => Mk N1 H1 D (keptD f g (((upTo lo m).map .int).take i)) H') (by rw [List.take_zero]; exact .start hD) (fun i H' hi mk => ?_) fun H' mk => ?_
  · exact lc_step ht l n (by rw [List.length_map, upTo_len]; exact hz) (by rw [List.getElem?_map, upTo_get hi]; rfl) mk (.int _) (hw _)
  · have e : ((upTo lo m).map PyData.int).take m = (upTo lo m).map .int := List.take_of_length_le (by rw [List.length_map, upTo_len]; exact Nat.le_refl _)
    rw [e] at mk
    exact q H' mk.ext (mk.done n)
theorem ed_lcR1 {tas : TA} {n : Int} (f : PyData → Bool) (g : PyData → PyData) (ha : EvA N tas σ H [.int n]) (hb : 0 ≤ n ∧ n ≤ 10000000) (hw : ∀ v, wipe (blkSt σ vs j v) vs = wipe σ vs) (ht : TurnD N tt te σ H f g vs j ((upTo 0 n.toNat).map .int)) :
    EvD N (tLc (iRng1 tas) (gName j) tt te vs) σ H (.list (keptD f g ((upTo 0 n.toNat).map .int))) := fun N1 H0 l nk Q q =>
  ha N1 H0 l nk _ fun ws H1 e1 hws => by
    obtain ⟨v, rfl, hv⟩ := one_arg hws
    obtain rfl := hv.int_inv
    exact ⟨n, rfl, by omega, by omega, fun D hD => range_body f g (by rw [sizeLine_eq]; omega) hw ht (l.ex e1) (nk.ex e1) hD fun H' e hd => q _ H' (e1.trans e) hd⟩
theorem ed_lcR2 {tas : TA} {lo n : Int} (f : PyData → Bool) (g : PyData → PyData) (ha : EvA N tas σ H [.int lo, .int n]) (hb : -10000000 ≤ lo ∧ lo ≤ 10000000 ∧ -10000000 ≤ n ∧ n ≤ 10000000 ∧ (n - lo).toNat ≤ 10000000) (hw : ∀ v, wipe (blkSt σ vs j v) vs = wipe σ vs) (ht : TurnD N tt te σ H f g vs j ((upTo lo (n - lo).toNat).map .int)) :
    EvD N (tLc (iRng2 tas) (gName j) tt te vs) σ H (.list (keptD f g ((upTo lo (n - lo).toNat).map .int))) := fun N1 H0 l nk Q q =>
  ha N1 H0 l nk _ fun ws H1 e1 hws => by
    obtain ⟨v, v', rfl, hv, hv'⟩ := two_args hws
    obtain rfl := hv.int_inv
    obtain rfl := hv'.int_inv
    exact ⟨lo, n, rfl, by omega, fun D hD => range_body f g (by rw [sizeLine_eq]; omega) hw ht (l.ex e1) (nk.ex e1) hD fun H' e hd => q _ H' (e1.trans e) hd⟩

/-! statements: what follows is told of every later heap -/
variable {tz tu tw : TS} {D : Ends} {Q : VK}
theorem s_set {i : Nat} (n : NOk N H) (h : EvD N te σ H d) (k : ∀ v H1, Ex H H1 → DN N H1 v d → tz D (σ.set i (some v)) H1) : tSeq (tAsg te (gName i)) tz D σ H := h N H Le.refl n _ k
theorem s_set1 {i : Nat} (n : NOk N H) (h : EvD N te σ H d) (k : ∀ v H1, Ex H H1 → DN N H1 v d → D.nx (σ.set i (some v)) H1) : tAsg te (gName i) D σ H := h N H Le.refl n _ k
theorem s_ret (n : NOk N H) (h : EvD N te σ H d) (k : ∀ v H1, Ex H H1 → DN N H1 v d → D.rt v H1) : tRet te D σ H := h N H Le.refl n _ k
theorem s_if {x : Bool} (n : NOk N H) (h : EvB N tt σ H x) (h1 : x = true → ∀ H1, Ex H H1 → tu { D with nx := tz D } σ H1) (h2 : x = false → ∀ H1, Ex H H1 → tw { D with nx := tz D } σ H1) : tSeq (tIfS tt tu tw) tz D σ H := h N H Le.refl n _ fun H1 e => by
  cases x with
  | true => exact iteT (h1 rfl H1 e)
  | false => exact iteF (h2 rfl H1 e)
theorem s_ifL {x : Bool} (n : NOk N H) (h : EvB N tt σ H x) (h1 : x = true → ∀ H1, Ex H H1 → tu D σ H1) (h2 : x = false → ∀ H1, Ex H H1 → tw D σ H1) : tIfS tt tu tw D σ H := h N H Le.refl n _ fun H1 e => by
  cases x with
  | true => exact iteT (h1 rfl H1 e)
  | false => exact iteF (h2 rfl H1 e)
theorem s_par {i j : Nat} {tas : TA} {a b : PyData} (n : NOk N H) (h : EvA N tas σ H [a, b]) (k : ∀ v w H1, Ex H H1 → DN N H1 v a → DN N H1 w b → tz D ((σ.set i (some v)).set j (some w)) H1) : tSeq (tPar i j tas) tz D σ H := h N H Le.refl n _ fun vs H1 e hv => by
  obtain ⟨v, w, rfl, h1, h2⟩ := two_args hv
  exact ⟨v, w, rfl, k v w H1 e h1 h2⟩
theorem s_par3 {i j l : Nat} {tas : TA} {a b c : PyData} (n : NOk N H) (h : EvA N tas σ H [a, b, c]) (k : ∀ u v w H1, Ex H H1 → DN N H1 u a → DN N H1 v b → DN N H1 w c → tz D (((σ.set i (some u)).set j (some v)).set l (some w)) H1) : tSeq (tPar3 i j l tas) tz D σ H := h N H Le.refl n _ fun vs H1 e hv => by
  cases hv with
  | cons h1 t =>
    obtain ⟨v, w, rfl, h2, h3⟩ := two_args t
    exact ⟨_, v, w, rfl, k _ v w H1 e h1 h2 h3⟩
end
end K14
/-! K14Enum -/
set_option Elab.async false
set_option linter.all false
set_option maxRecDepth 100000
set_option maxHeartbeats 2000000
/-! enumerate(t) of a tuple; a list or a tuple walked; a def's promise with its place. -/
namespace PySem
open AutoSeq1 (wpAny_loadPart')
theorem k14_enum_new (l : Addr) (items : Array Value) (n : Nat) (dct : Option Addr) (sl : Array (Option Value)) :
    Meets (Builtin.«enumerate.__new__» ⟨[.type "enumerate", .ref l], []⟩) (fun _ R s => s.heap.get? l = some { cls := .type "tuple", dict := dct, data := .seq items n, slots := sl } ∧
      R (.ok (.ret (.ref (s.heap.push { cls := .type "tuple_iterator", data := .fields #[.ref l, .int 0 0] }).objs.size)))
        { s with heap := (s.heap.push { cls := .type "tuple_iterator", data := .fields #[.ref l, .int 0 0] }).push { cls := .type "enumerate", data := .fields #[.none, .bool false, .ref s.heap.objs.size, rawInt 0, .none, .none] } }) :=
  .of_wp fun prog w A R s h => by
    obtain ⟨hp, g, d, tk, os⟩ := s
    obtain ⟨hl, h⟩ := h
    have hsub := sub_enumerate
    have hT : Heap.IsTuple (Shared.heap ⟨hp, g, d, tk, os⟩) l items := ⟨_, hl, rfl, n, rfl⟩
    wp_walk using wpAny_loadPart' hl
    refine wpAny_stack_any fun st => wpAny_pure ?_
    split
    · rename_i c _ _ _ _ _
      cases (c == Value.type "enumerate") <;> (wp_walk using wpAny_loadPart' hl, wpAny_pyIter_tuple hT; exact ⟨_, rfl, h⟩)
    · wp_walk using wpAny_loadPart' hl, wpAny_pyIter_tuple hT
      exact ⟨_, rfl, h⟩
section
variable {prog : Program} {w : World} {A : Around} {E : Value → Shared → Prop} {s : Shared}
theorem k14_enum_call {l : Addr} {items : Array Value} {Q : Value → Shared → Prop} (hT : s.heap.IsTuple l items)
    (h : ∀ h', IsEnum h' (s.heap.objs.size + 1) s.heap.objs.size 0 .none → h'.IsTupleIter s.heap.objs.size l 0 → (∀ b o, s.heap.get? b = some o → h'.get? b = some o) → Q (.ref (s.heap.objs.size + 1)) { s with heap := h' }) :
    wpAny (model prog w) A (call (.type "enumerate") [.ref l]) Q E s := by
  obtain ⟨⟨c, dct, dt, sl⟩, hl, hc, n, hd⟩ := hT
  replace hc : c = .type "tuple" := hc
  replace hd : dt = .seq items n := hd
  subst hc hd
  refine callType_new F.called_enumerate (by decide) (F.typeCall_enumerate_1 _) (F.newCall_enumerate_1 _) (fun obj => F.args_object_init_2 obj _) F.entry_enumerate_new (k14_enum_new l items n dct sl) ⟨hl, ?_⟩
  have hz : (s.heap.push { cls := .type "tuple_iterator", data := .fields #[.ref l, .int 0 0] }).objs.size = s.heap.objs.size + 1 := Heap.size_push ..
  show _ ∧ _
  rw [hz]
  have he : IsEnum ((s.heap.push { cls := .type "tuple_iterator", data := .fields #[.ref l, .int 0 0] }).push { cls := .type "enumerate", data := .fields #[.none, .bool false, .ref s.heap.objs.size, rawInt 0, .none, .none] }) (s.heap.objs.size + 1) s.heap.objs.size 0 .none := by
    have z := Heap.get?_push_size (s.heap.push { cls := .type "tuple_iterator", data := .fields #[.ref l, .int 0 0] }) (o := { cls := .type "enumerate", data := .fields #[.none, .bool false, .ref s.heap.objs.size, rawInt 0, .none, .none] }) rfl
    rw [hz] at z
    exact z
  exact ⟨⟨_, he, rfl⟩, h _ he ⟨_, Heap.get?_push_of_some _ (Heap.get?_push_size _ rfl), rfl, rfl⟩ fun b o x => Heap.get?_push_of_some _ (Heap.get?_push_of_some _ x)⟩
end
end PySem
namespace K14
open PySem PySem.Spec PyProof.Rows L2
/-- a tuple at a, each item in a new pair with its place -/
def Itet (K : PySem.W.Frag) (a : Addr) : It :=
  ⟨fun i H => ∃ (xs : List V) (x : V), SqT K H a xs ∧ xs[i]? = some x, fun i H v H' => ∃ T x, v = .ref T ∧ H T = none ∧ H' = upd H T (.tup [.int (i : Nat), x]) ∧ ∀ xs, SqT K H a xs → xs[i]? = some x, fun i H => ∃ xs : List V, SqT K H a xs ∧ xs.length = i⟩
theorem turn_enumT {P : Program} {w : World} {K : PySem.W.Frag} {elts : List Expr} {kk : Nat} {tpos : Pos} (a e it : Addr) (hai : a ≠ it) (hae : a ≠ e) :
    Turn P w K (.Tuple elts kk tpos) (Itet K a) [e, it] e (fun i h => (∃ old, IsEnum h e it ((i : Nat) : Int) old) ∧ h.IsTupleIter it a i ∧ e ≠ it) where
  mem := by simp
  obj := fun i h st b hb => by
    obtain ⟨⟨old, he⟩, ⟨o, ho, hc, hd⟩, _⟩ := st
    have e' : b = e ∨ b = it := by simpa using hb
    rcases e' with z | z
    · rw [z]; exact ⟨_, he, fun v q => nomatch q⟩
    · rw [z]; exact ⟨o, ho, fun v q => by rw [hd] at q; cases q⟩
  keep := fun i h h' st k => let ⟨⟨old, he⟩, hi, hne⟩ := st; ⟨⟨old, k e (by simp) _ he⟩, hi.at fun o q => k it (by simp) o q, hne⟩
  item := by
    intro X hP hw hK hc i pins s σ H E I hf st hg
    subst hP hw hK
    obtain ⟨⟨old, he⟩, hit, hne⟩ := st
    obtain ⟨xs, x, hq, hx⟩ := hg
    obtain ⟨its, rv, p, hz⟩ := I.tuple hq
    obtain ⟨u, hu, ru⟩ := rv.get hx
    have hel : e < s.heap.objs.size := Heap.lt_size he
    have hil : it < s.heap.objs.size := by obtain ⟨_, q, _⟩ := hit; exact Heap.lt_size q
    have D := Draws.tuple (prog := X.prog) (w := X.w) (A := X.A.in1) (I.ok.hd hc) it a hai its.toArray
    refine wpAny_pyNext_enum_itemC D he ⟨hit, p⟩ (by have := (List.getElem?_eq_some_iff.mp hu).1; simpa using this) hne (fun z => ?_) fun x' h' tk hx' ho hst' hT hsz hk => ?_
    · simp at z
      rcases z with z | z
      · exact hne z
      · exact hae z.symm
    · have ex : x' = u := by
        have z : its.toArray[i]? = some x' := hx'
        have z2 : its.toArray[i]? = some u := by simpa using hu
        rw [z2] at z
        exact (Option.some.inj z).symm
      subst ex
      refine ⟨_, rfl, wpAny_letOwnedTupleGo_enum (s := { s with heap := h', toks := tk + 1 }) ho fun h'' he' sb => ?_⟩
      have hT2 : h''.get? s.heap.objs.size = some { cls := .type "tuple", data := .seq #[.int i tk, x'] } := (sb.2 _ (Nat.ne_of_gt hel)).trans hT
      have new : ObjOk X.prog X.w (upd H s.heap.objs.size (.tup [.int (i : Nat), x])) h'' s.heap.objs.size (.tup [.int (i : Nat), x]) :=
        ⟨by show 2 ≤ sizeLine; decide, [.int i tk, x'], .cons ⟨_, rfl⟩ (.cons ru .nil), ⟨_, hT2, rfl, _, rfl⟩⟩
      have I1 : Inv X pins σ (upd H s.heap.objs.size (.tup [.int (i : Nat), x])) { s with heap := h'', toks := tk + 1 } :=
        I.turnedNew (ch := [e, it]) (fun b ob hb q => (sb.2 b (fun z => hb (by simp [z]))).trans (hk b ob (fun z => hb (by simp [z])) (fun z => hb (by simp [z])) q)) hf (Nat.le_refl _) new
      refine ⟨.ref s.heap.objs.size, _, I1, rfl, ⟨_, x, rfl, I.hok.fresh (Nat.le_refl _), rfl, fun ys hy => by rw [I.tuple_inj hy hq]; exact hx⟩, ⟨⟨x', ?_⟩, hst'.1.at fun o q => (sb.2 it (Ne.symm hne)).trans q, hne⟩, fun b hb => ?_⟩
      · have e1 : ((i + 1 : Nat) : Int) = (i : Int) + 1 := by omega
        rw [e1]; exact he'
      · have hb' : b < s.heap.objs.size := by
          have e' : b = e ∨ b = it := by simpa using hb
          rcases e' with z | z
          · rw [z]; exact hel
          · rw [z]; exact hil
        rw [upd_ne (Nat.ne_of_lt hb')]
        exact (hf b hb).1
  done := by
    intro X hP hw hK hc i pins s σ H E I hf st hg
    subst hP hw hK
    obtain ⟨⟨old, he⟩, hit, hne⟩ := st
    obtain ⟨xs, hq, hx⟩ := hg
    obtain ⟨its, rv, p, hz⟩ := I.tuple hq
    obtain ⟨f0, f1, f2, f3, f4, f5⟩ := hf it (by simp)
    have hl := rv.length
    have D := Draws.tuple (prog := X.prog) (w := X.w) (A := X.A.in1) (I.ok.hd hc) it a hai its.toArray
    have hi : i = its.toArray.size := by rw [List.size_toArray, ← hl, hx]
    subst hi
    exact wpAny_pyNext_enum_endD D he ⟨hit, p⟩ fun h' eb => ⟨rfl, I.turned (t' := s.toks) (fun b o hb q => eb b o hb q) f0 f1 f3 f4 f5⟩
  self := fun A i s Q E st h => let ⟨⟨_, he⟩, _⟩ := st; wpAny_pyIter_enum he h

def iEnumT (K : PySem.W.Frag) (te : TE) : TI := fun σ H R => te σ H fun v H1 => ∃ a xs, v = .ref a ∧ SqT K H1 a xs ∧ R (Itet K a) H1
theorem pi_enumT {X : Cx} {e : Expr} {te : TE} {p pos tpos : Pos} {elts : List Expr} {kk : Nat} (hg : Gl X "enumerate") (hm : X.mg "enumerate" = none) (ha : PE X e te) (hs : starEach [e] X.env = [(false, eval e X.env)] := by rfl) (hs' : starEach [e] X.env = (false, eval e X.env) :: starEach [] X.env := by rfl) :
    PI X (.Tuple elts kk tpos) (.Call (.Name "enumerate" p) [e] [] pos) (iEnumT X.K te) := by
  refine ⟨fun pins s σ H R I h => ?_⟩
  have h' : (tCons te tNil) σ H (fun vs H1 => ∃ a xs, vs = [.ref a] ∧ SqT X.K H1 a xs ∧ R (Itet X.K a) H1) := by
    have mono : ∀ (A B : VK), A = B → te σ H A → te σ H B := fun A B e x => e ▸ x
    refine mono _ _ ?_ h
    funext v H1
    apply propext
    constructor
    · rintro ⟨a, xs, rfl, h1, h2⟩
      exact ⟨a, xs, rfl, h1, h2⟩
    · rintro ⟨a, xs, e, h1, h2⟩
      cases e
      exact ⟨a, xs, rfl, h1, h2⟩
  refine Call_ (ld_blt I hg hm boot_enumerate (PyProof.Rows.callWith_type1 (thn ((pa_cons ha pa_nil hs').run pos pins s σ H _ I h') fun us s1 ⟨vs, H1, I1, r1, q1⟩ => ?_) hs rfl))
  obtain ⟨a, xs, ex, hq, q⟩ := q1
  subst ex
  rw [Vals.ref1 r1]
  obtain ⟨its, rv, p', hz⟩ := I1.tuple hq
  refine k14_enum_call (show s1.heap.IsTuple a its.toArray from p') fun h' he hit hk => wpAny_pyIter_enum he ?_
  have I2 : Inv X pins σ H1 { s1 with heap := h' } := I1.kept (t' := s1.toks) hk
  have la : a < s1.heap.objs.size := p'.lt
  refine ⟨s1.heap.objs.size + 1, [s1.heap.objs.size + 1, s1.heap.objs.size], _, _, H1, rfl, I2, turn_enumT a (s1.heap.objs.size + 1) s1.heap.objs.size (Nat.ne_of_lt la) (Nat.ne_of_lt (Nat.lt_succ_of_lt la)), ⟨⟨.none, he⟩, hit, Nat.succ_ne_self _⟩, fun b hb => ?_, q⟩
  have e' : b = s1.heap.objs.size + 1 ∨ b = s1.heap.objs.size := by simpa using hb
  have hle : s1.heap.objs.size ≤ b := by
    rcases e' with z | z
    · rw [z]; exact Nat.le_add_right _ _
    · rw [z]; exact Nat.le_refl _
  exact I1.fpOk hle (I1.hok.fresh hle)

/-- a list or a tuple, whichever it is -/
def iSeq (K : PySem.W.Frag) (tl : TE) : TI := fun σ H R => tl σ H fun x H1 => ∃ a, x = .ref a ∧ (((∃ xs, SqL K H1 a xs) ∧ R (Itl K a) H1) ∨ ((∃ xs, SqT K H1 a xs) ∧ R (Itt K a) H1))
theorem pi_seq {X : Cx} {tg l : Expr} {tl : TE} (hl : PE X l tl) : PI X tg l (iSeq X.K tl) := by
  refine ⟨fun pins s σ H R I h => ?_⟩
  refine thn (hl.run pins s σ H _ I h) fun v s1 ⟨x, H1, I1, r1, q1⟩ => ?_
  obtain ⟨a, e, ⟨⟨xs, hq⟩, q⟩ | ⟨⟨xs, hq⟩, q⟩⟩ := q1
  · subst e
    cases r1
    obtain ⟨its, rv, p, hz⟩ := I1.list hq
    refine wpAny_pyIter_list p.isList ?_
    refine ⟨s1.heap.objs.size, [s1.heap.objs.size], _, _, H1, rfl, I1.kept (t' := s1.toks) fun b o e => Heap.get?_push_of_some _ e, turn_list a _, ⟨_, Heap.get?_push_size _ rfl, rfl, rfl⟩, fun b hb => ?_, q⟩
    rw [List.mem_singleton.mp hb]
    exact I1.fpOk (Nat.le_refl _) (I1.hok.fresh (Nat.le_refl _))
  · subst e
    cases r1
    obtain ⟨its, rv, p, hz⟩ := I1.tuple hq
    refine wpAny_pyIter_tuple (show s1.heap.IsTuple a its.toArray from p) ?_
    refine ⟨s1.heap.objs.size, [s1.heap.objs.size], _, _, H1, rfl, I1.kept (t' := s1.toks) fun b o e => Heap.get?_push_of_some _ e, turn_tuple a _, ⟨_, Heap.get?_push_size _ rfl, rfl, rfl⟩, fun b hb => ?_, q⟩
    rw [List.mem_singleton.mp hb]
    exact I1.fpOk (Nat.le_refl _) (I1.hok.fresh (Nat.le_refl _))
section
variable {K : PySem.W.Frag} {N : Addr → Prop} {σ : L2.St} {H : Hp} {tl te : TE} {tt : TT} {xs : List PyData} {j : Nat} {vs : List Nat}
theorem ed_lsL (f : PyData → Bool) (g : PyData → PyData) (hl : EvD N tl σ H (.list xs)) (hz : xs.length ≤ sizeLine) (hw : ∀ v, wipe (blkSt σ vs j v) vs = wipe σ vs) (ht : TurnD N tt te σ H f g vs j xs) :
    EvD N (tLc (iSeq K tl) (gName j) tt te vs) σ H (.list (keptD f g xs)) := fun N1 H0 l n Q q => by
  refine hl N1 H0 l n _ fun v H1 e1 hv => ?_
  obtain ⟨a, ws, rfl, na, ea, hws⟩ := hv.lst_inv
  refine ⟨a, rfl, .inl ⟨⟨ws, SqL.of ea⟩, fun D hD => lc_list (xs := ws) (fun i H' => Mk N1 H1 D (keptD f g (xs.take i)) H') (by rw [List.take_zero]; exact .start hD) (fun i H' hi m => SqL.of (m.ext _ _ ea)) (fun i x H' hi m => ?_) fun H' m => ?_⟩⟩
  · obtain ⟨d, e2, hd⟩ := hws.getV hi
    exact lc_step ht (l.ex e1) (n.ex e1) hz e2 m (hd.le m.le) (hw x)
  · rw [hws.length, List.take_length] at m
    exact q _ H' (e1.trans m.ext) (m.done (n.ex e1))
theorem ed_lsT (f : PyData → Bool) (g : PyData → PyData) (hl : EvD N tl σ H (.tuple xs)) (hz : xs.length ≤ sizeLine) (hw : ∀ v, wipe (blkSt σ vs j v) vs = wipe σ vs) (ht : TurnD N tt te σ H f g vs j xs) :
    EvD N (tLc (iSeq K tl) (gName j) tt te vs) σ H (.list (keptD f g xs)) := fun N1 H0 l n Q q => by
  refine hl N1 H0 l n _ fun v H1 e1 hv => ?_
  obtain ⟨a, ws, rfl, na, ea, hws⟩ := hv.tup_inv
  refine ⟨a, rfl, .inr ⟨⟨ws, SqT.of ea⟩, fun D hD => lc_tup (xs := ws) (fun i H' => Mk N1 H1 D (keptD f g (xs.take i)) H') (by rw [List.take_zero]; exact .start hD) (fun i H' hi m => SqT.of (m.ext _ _ ea)) (fun i x H' hi m => ?_) fun H' m => ?_⟩⟩
  · obtain ⟨d, e2, hd⟩ := hws.getV hi
    exact lc_step ht (l.ex e1) (n.ex e1) hz e2 m (hd.le m.le) (hw x)
  · rw [hws.length, List.take_length] at m
    exact q _ H' (e1.trans m.ext) (m.done (n.ex e1))
end

/-! ### a def's promise with its place -/
structure Has (P : Program) (w : World) (K : PySem.W.Frag) (mg : Str → Option Value) (base : Heap) (CX : CXT) (k : Nat) (x : Str) (ps : List Str) (sp : Sp) : Prop where
  ex : ∃ (f : Addr) (fd : FuncData), FnOk P w K mg base CX k f fd ps sp ∧ mg x = some (.ref f) ∧ PySem.W.keepIn K (.ref f) = true ∧ Binds K fd ps []
theorem pe_callH {X : Cx} {CX : CXT} {k j : Nat} {x : Str} {ps : List Str} {sp : Sp} {E : XK} {p pos : Pos} {e : Expr} {es : List Expr} {t : TA} (G : Has X.prog X.w X.K X.mg X.base CX j x ps sp) (hr : Room k X.A) (hg : Gl X x) (hx : Passes CX X E) (ha : PA X (e :: es) t) (hj : j ≤ k := by decide)
    (hdb : (x == ("__debug__" : Str)) = false := by decide) (he : starEach (e :: es) X.env = (false, eval e X.env) :: starEach es X.env := by rfl) (hpl : (backTo pos (starEach es X.env)).any (·.1) = false := by rfl) :
    PE X (.Call (.Name x p) (e :: es) [] pos) (tCall sp [] E t) := by
  obtain ⟨f, fd, F, hm, hk, hb⟩ := G.ex
  exact pe_call F (hr.mono hj) hg hm hk hb .nil hx ha hdb he hpl
end K14
/-! K14Keys -/
set_option Elab.async false
set_option linter.all false
set_option maxRecDepth 100000
set_option maxHeartbeats 2000000
/-! Dicts of our kinds, on data: keys tuples of whole numbers, or whole numbers; all values True. -/
namespace K14
open PySem PySem.Spec PyProof.Rows L2

section
variable {X : Cx}
theorem cr_tupleOf : CallR X (.type "tuple") (rTupleOf X.K) := call_tuple_of
theorem cr_listOf : CallR X (.type "list") (rListOf X.K) := call_list_of
theorem cr_int1 : CallR X (.type "int") rInt1 := call_int1
theorem cr_abs1 : CallR X (.builtin "abs") rAbs := call_abs
theorem cr_minP (hc : X.calm = true) : CallR X (.builtin "min") rMinP := call_min2 hc
theorem cr_maxP (hc : X.calm = true) : CallR X (.builtin "max") rMaxP := call_max2 hc
theorem cr_len1 : CallR X (.builtin "len") (rLen X.K) := call_len_seq
def rListDT : List V → Hp → VK → Prop := fun xs H Q => ∃ d kvs, xs = [V.ref d] ∧ Rd H d (.dT kvs) ∧ ∀ p bs, H p = none → IsKeys H kvs bs → Q (.ref p) (upd H p (.lst (bs.map V.ref)))
theorem cr_listDT (hc : X.calm = true) : CallR X (.type "list") rListDT := call_list_dT hc
end

abbrev tupD (ns : List Int) : PyData := .tuple (ns.map .int)
def addK (kss : List (List Int)) (k : List Int) : List (List Int) := if k ∈ kss then kss else kss ++ [k]
def dedupK (l : List (List Int)) : List (List Int) := l.foldl addK []
def entK (ns : List Int) : List Key × V := (ns.map Sum.inl, .bl true)
theorem inl_inj : ∀ {a b : List Int}, a.map (Sum.inl : Int → Key) = b.map Sum.inl → a = b
  | [], [], _ => rfl
  | [], _ :: _, h => by cases h
  | _ :: _, [], h => by cases h
  | x :: a, y :: b, h => by
    rw [List.map_cons, List.map_cons] at h
    injection h with h1 h2
    rw [Sum.inl.inj h1, inl_inj h2]
theorem putK_ent (kss : List (List Int)) (k : List Int) : putK (kss.map entK) (k.map Sum.inl) (.bl true) = (addK kss k).map entK := by
  have e : ((kss.map entK).any fun kv => decide (kv.1 = k.map Sum.inl)) = decide (k ∈ kss) := by
    rw [Bool.eq_iff_iff, List.any_eq_true, decide_eq_true_eq]
    constructor
    · rintro ⟨x, hx, h⟩
      obtain ⟨ns, hn, rfl⟩ := List.mem_map.mp hx
      rw [← inl_inj (of_decide_eq_true h)]
      exact hn
    · intro h
      exact ⟨entK k, List.mem_map.mpr ⟨k, h, rfl⟩, decide_eq_true rfl⟩
  unfold putK addK
  rw [e]
  by_cases h : k ∈ kss
  · rw [if_pos (decide_eq_true h), if_pos h, List.map_map]
    refine List.map_congr_left fun ns hn => ?_
    show (if (entK ns).1 = _ then ((entK ns).1, V.bl true) else entK ns) = entK ns
    split
    · rfl
    · rfl
  · rw [if_neg (by rw [decide_eq_false h]; exact Bool.false_ne_true), if_neg h, List.map_append]
    rfl
theorem addK_len (kss : List (List Int)) (k : List Int) : (addK kss k).length ≤ kss.length + 1 := by
  unfold addK
  split
  · omega
  · rw [List.length_append]; exact Nat.le_refl _
theorem foldl_addK_len (l : List (List Int)) : ∀ acc : List (List Int), (l.foldl addK acc).length ≤ acc.length + l.length := by
  induction l with
  | nil => intro acc; exact Nat.le_refl _
  | cons k r ih =>
    intro acc
    have h1 := ih (addK acc k)
    have h2 := addK_len acc k
    rw [List.foldl_cons, List.length_cons]
    omega
theorem dedupK_len (l : List (List Int)) : (dedupK l).length ≤ l.length := by
  have := foldl_addK_len l []
  rw [List.length_nil, Nat.zero_add] at this
  exact this
theorem dedupK_snoc (l : List (List Int)) (k : List Int) : dedupK (l ++ [k]) = addK (dedupK l) k := by
  unfold dedupK
  rw [List.foldl_append]; rfl
theorem kV_inl (ns : List Int) : (ns.map (Sum.inl : Int → Key)).map kV = ns.map V.int := by
  rw [List.map_map]; rfl

section
variable {K : PySem.W.Frag} {N : Addr → Prop} {σ : L2.St} {H : Hp} {tl te tk : TE} {ds : List PyData} {d : PyData} {nss : List (List Int)} {j : Nat} {vs : List Nat}
theorem paired_get {α β : Type} {F : α → β → Prop} : ∀ {l : List α} {m : List β} {i : Nat} {x : α}, Paired F l m → l[i]? = some x → ∃ y, m[i]? = some y ∧ F x y
  | _, _, _, _, .nil, e => by simp at e
  | _, _, 0, _, .cons h _, e => by simp at e; subst e; exact ⟨_, rfl, h⟩
  | _, _, i + 1, x, .cons _ t, e => by
    obtain ⟨y, a, b⟩ := paired_get (i := i) (x := x) t (by simpa using e)
    exact ⟨y, by simpa using a, b⟩
/-- one turn of {tuple(one): True for one in value} -/
theorem dc1_turn {H1 H' : Hp} {N1 : Addr → Prop} {D : Addr} {v : V} {i : Nat} {Nx : Hp → Prop} {ns : List Int} (n : NOk N1 H1) (hz : nss.length ≤ sizeLine) (e : Ex H1 H') (hD : H1 D = none) (hd : H' D = some (.dT ((dedupK (nss.take i)).map entK)))
    (hn : nss[i]? = some ns) (hv : ∃ d, DN N1 H' v d ∧ isSeqD d (ns.map .int)) (hj : j < σ.length) (hw : wipe (blkSt σ vs j v) vs = wipe σ vs) (hNx : ∀ H2, Ex H1 H2 → H2 D = some (.dT ((dedupK (nss.take (i + 1))).map entK)) → Nx H2) :
    (gName j) v (wipe σ vs) H' fun σ2 H2 => wipe σ2 vs = wipe σ vs ∧ (tCB (rTupleOf K) (tCons (tVar j) tNil)) σ2 H2 fun y H4 => (tC (.bl true)) σ2 H4 fun z H5 => ∃ H6, DPut H5 D y z H6 ∧ Nx H6 := by
  refine ⟨hw, ?_⟩
  have n' := n.ex e
  have look : (blkSt σ vs j v)[j]? = some (some v) := by
    show ((wipe σ vs).set j (some v))[j]? = _
    rw [List.getElem?_set_self (by rw [wipe_length]; exact hj)]
  obtain ⟨d, hdv, hsq⟩ := hv
  have fin : ∀ (y : V) (H4 : Hp), Ex H' H4 → DN N1 H4 y (tupD ns) → ∃ H6, DPut H4 D y (.bl true) H6 ∧ Nx H6 := fun y H4 e4 hy => by
    obtain ⟨b, xs, rfl, nb, eb, hxs⟩ := hy.tup_inv
    obtain rfl := hxs.ints
    have hd4 := e4 _ _ hd
    refine ⟨_, DPut.t (k := ns.map Sum.inl) hd4 (by rw [kV_inl]; exact eb) ?_, hNx _ (fun b o q => ?_) ?_⟩
    · rw [List.length_map]
      have a1 := dedupK_len (nss.take i)
      have a2 := (List.getElem?_eq_some_iff.mp hn).1
      rw [List.length_take] at a1
      omega
    · rw [upd_ne (ne_of_none q hD)]
      exact e4 _ _ (e _ _ q)
    · rw [upd_same, putK_ent, ← dedupK_snoc, ← take_get hn]
  refine ⟨v, look, ?_⟩
  rcases hsq with rfl | rfl
  · exact rc_tupleL (K := K) N1 H' Le.refl n' [v] (.cons hdv .nil) _ fun y H4 e4 hy => fin y H4 e4 hy
  · exact rc_tupleT (K := K) N1 H' Le.refl n' [v] (.cons hdv .nil) _ fun y H4 e4 hy => fin y H4 e4 hy
theorem dc1_gives (hl : EvD N tl σ H d) (hs : isSeqD d ds) (hp : Paired (fun d ns => isSeqD d (ns.map .int)) ds nss) (hz : nss.length ≤ sizeLine) (hj : j < σ.length) (hw : ∀ v, wipe (blkSt σ vs j v) vs = wipe σ vs) :
    ∀ N1 H1, Le N H N1 H1 → NOk N1 H1 → ∀ Q : VK, (∀ D H2, Ex H1 H2 → H2 D = some (.dT ((dedupK nss).map entK)) → Q (.ref D) H2) →
      tDc1 (.dT []) (iSeq K tl) (gName j) (tCB (rTupleOf K) (tCons (tVar j) tNil)) (tC (.bl true)) vs σ H1 Q := fun N1 H0 l n Q q => by
  refine hl N1 H0 l n _ fun v H1 e1 hv => ?_
  have hlen : ds.length = nss.length := Paired.length hp
  have body : ∀ (D a : Addr) (ws : List V), H1 D = none → DNs N1 H1 ws ds → ∃ W : Nat → Nat → Hp → Prop, (∃ m, W 0 m (upd H1 D (.dT []))) ∧ (∀ i m H', W i m H' → Ex H1 H' ∧ i ≤ nss.length ∧ m = nss.length - i) ∧ (∀ m H', W nss.length m H' → Q (.ref D) H') ∧
      ∀ i m H' x, W i m H' → i < nss.length → ws[i]? = some x → ∃ Nx : Hp → Prop, (∀ H', Nx H' → ∃ m', m' < m ∧ W (i + 1) m' H') ∧ (gName j) x (wipe σ vs) H' fun σ2 H2 => wipe σ2 vs = wipe σ vs ∧ (tCB (rTupleOf K) (tCons (tVar j) tNil)) σ2 H2 fun y H4 => (tC (.bl true)) σ2 H4 fun z H5 => ∃ H6, DPut H5 D y z H6 ∧ Nx H6 := by
    intro D a ws hD hws
    refine ⟨fun i m H' => m = nss.length - i ∧ i ≤ nss.length ∧ Ex H1 H' ∧ H' D = some (.dT ((dedupK (nss.take i)).map entK)), ⟨nss.length, by simp, Nat.zero_le _, ex_new hD, upd_same⟩, fun i m H' hW => ⟨hW.2.2.1, hW.2.1, hW.1⟩, fun m H' hW => ?_, fun i m H' x hW hi hx => ?_⟩
    · obtain ⟨_, _, e, hd⟩ := hW
      rw [List.take_length] at hd
      exact q D H' (e1.trans e) hd
    · obtain ⟨rfl, _, e, hd⟩ := hW
      obtain ⟨dx, ex, hdx⟩ := hws.getV hx
      obtain ⟨ns, en, hsq⟩ := paired_get hp ex
      refine ⟨fun H2 => Ex H1 H2 ∧ H2 D = some (.dT ((dedupK (nss.take (i + 1))).map entK)), fun H2 ⟨a, b⟩ => ⟨nss.length - (i + 1), by omega, rfl, hi, a, b⟩, ?_⟩
      exact dc1_turn (n.ex e1) hz e hD hd en ⟨dx, hdx.ex e, hsq⟩ hj (hw x) fun H2 a b => ⟨a, b⟩
  rcases hs with rfl | rfl
  · obtain ⟨a, ws, rfl, na, ea, hws⟩ := hv.lst_inv
    refine ⟨a, rfl, .inl ⟨⟨ws, SqL.of ea⟩, fun D hD => ?_⟩⟩
    obtain ⟨W, w0, wf, wd, wt⟩ := body D a ws hD hws
    have hwl : ws.length = nss.length := by rw [hws.length, hlen]
    refine ⟨W, w0, fun i m H' hW => ?_⟩
    obtain ⟨e, hi, hm⟩ := wf i m H' hW
    have sq : SqL K H' a ws := SqL.of (e _ _ ea)
    by_cases hlt : i < nss.length
    · have hx : ws[i]? = some (ws[i]'(by omega)) := List.getElem?_eq_getElem _
      obtain ⟨Nx, h1, h2⟩ := wt i m H' _ hW hlt hx
      refine .inr ⟨⟨ws, _, sq, hx⟩, Nx, h1, fun x H2 y => ?_⟩
      obtain ⟨rfl, y⟩ := y
      have ee := y ws sq
      rw [hx] at ee
      cases ee
      exact h2
    · have ei : i = nss.length := by omega
      subst ei
      exact .inl ⟨⟨ws, sq, by omega⟩, wd m H' hW⟩
  · obtain ⟨a, ws, rfl, na, ea, hws⟩ := hv.tup_inv
    refine ⟨a, rfl, .inr ⟨⟨ws, SqT.of ea⟩, fun D hD => ?_⟩⟩
    obtain ⟨W, w0, wf, wd, wt⟩ := body D a ws hD hws
    have hwl : ws.length = nss.length := by rw [hws.length, hlen]
    refine ⟨W, w0, fun i m H' hW => ?_⟩
    obtain ⟨e, hi, hm⟩ := wf i m H' hW
    have sq : SqT K H' a ws := SqT.of (e _ _ ea)
    by_cases hlt : i < nss.length
    · have hx : ws[i]? = some (ws[i]'(by omega)) := List.getElem?_eq_getElem _
      obtain ⟨Nx, h1, h2⟩ := wt i m H' _ hW hlt hx
      refine .inr ⟨⟨ws, _, sq, hx⟩, Nx, h1, fun x H2 y => ?_⟩
      obtain ⟨rfl, y⟩ := y
      have ee := y ws sq
      rw [hx] at ee
      cases ee
      exact h2
    · have ei : i = nss.length := by omega
      subst ei
      exact .inl ⟨⟨ws, sq, by omega⟩, wd m H' hW⟩
/-- the keys of such a dict, as a list -/
theorem keys_DNs {N : Addr → Prop} {H1 : Hp} (n : NOk N H1) : ∀ {kss : List (List Int)} {bs : List Addr}, IsKeys H1 (kss.map entK) bs → DNs N H1 (bs.map V.ref) (kss.map tupD)
  | [], _, h => by cases h; exact .nil
  | k :: r, _, h => by
    cases h with
    | cons h1 h2 =>
      have h1 : H1 _ = some (.tup ((k.map Sum.inl).map kV)) := h1
      rw [kV_inl] at h1
      exact .cons (.tup (n.tup h1) h1 (DNs.of_ints k)) (keys_DNs n h2)
theorem list_of_dT {kss : List (List Int)} (h : ∀ N1 H1, Le N H N1 H1 → NOk N1 H1 → ∀ Q : VK, (∀ D H2, Ex H1 H2 → H2 D = some (.dT (kss.map entK)) → Q (.ref D) H2) → te σ H1 Q) : EvD N (tCB rListDT (tCons te tNil)) σ H (.list (kss.map tupD)) := fun N1 H1 l n Q q =>
  h N1 H1 l n _ fun D H2 e2 hD => ⟨D, kss.map entK, rfl, .inl hD, fun p bs hp hk => q _ _ (e2.trans (ex_new hp)) (.lst ((n.ex e2).fresh hp) upd_same ((keys_DNs (n.ex e2) hk).ex (ex_new hp)))⟩
/-- dict([(key, True), ..]) -/
theorem dictT_gives (h : EvD N te σ H (.list (nss.map fun ns => .tuple [tupD ns, .bool true]))) :
    ∀ N1 H1, Le N H N1 H1 → NOk N1 H1 → ∀ Q : VK, (∀ D H2, Ex H1 H2 → H2 D = some (.dT ((dedupK nss).map entK)) → Q (.ref D) H2) → (tCB (rDictT K) (tCons te tNil)) σ H1 Q := fun N1 H0 l n Q q => by
  refine h N1 H0 l n _ fun v H1 e1 hv => ?_
  obtain ⟨a, ws, rfl, na, ea, hws⟩ := hv.lst_inv
  have parts : ∀ {nss : List (List Int)} {ws : List V}, DNs N1 H1 ws (nss.map fun ns => PyData.tuple [tupD ns, .bool true]) → ∃ (ps bs : List Addr), ws = ps.map V.ref ∧ bs.length = nss.length ∧
      Paired (fun p (t : List Key × Addr × V) => SqT K H1 p [.ref t.2.1, t.2.2] ∧ H1 t.2.1 = some (.tup (t.1.map kV))) ps ((nss.zip bs).map fun z => (z.1.map Sum.inl, z.2, V.bl true)) := by
    intro nss
    induction nss with
    | nil => intro ws h; cases h; exact ⟨[], [], rfl, rfl, .nil⟩
    | cons ns r ih =>
      intro ws h
      cases h with
      | cons h1 h2 =>
        obtain ⟨ps, bs, rfl, hl, hp⟩ := ih h2
        obtain ⟨p, xs, rfl, np, ep, hx⟩ := h1.tup_inv
        obtain ⟨u, w, rfl, h3, h4⟩ := two_args hx
        obtain ⟨b, ys, rfl, nb, eb, hy⟩ := h3.tup_inv
        obtain rfl := hy.ints
        obtain rfl := h4.bl_inv
        exact ⟨p :: ps, b :: bs, rfl, by rw [List.length_cons, List.length_cons, hl], .cons ⟨SqT.of ep, by show H1 b = _; rw [kV_inl]; exact eb⟩ hp⟩
  obtain ⟨ps, bs, rfl, hl, hp⟩ := parts hws
  refine ⟨a, ps, _, rfl, SqL.of ea, hp, fun p hpn => ?_⟩
  have e : (((nss.zip bs).map fun z => (z.1.map (Sum.inl : Int → Key), z.2, V.bl true)).map fun t => (t.1, t.2.2)) = nss.map entK := by
    rw [List.map_map]
    have z1 : (nss.zip bs).map Prod.fst = nss := List.map_fst_zip (by omega)
    have z2 : ((nss.zip bs).map Prod.fst).map entK = nss.map entK := by rw [z1]
    rw [List.map_map] at z2
    exact z2
  have e2 : ∀ (l acc : List (List Int)), putAll (acc.map entK) (l.map entK) = (l.foldl addK acc).map entK := by
    intro l
    induction l with
    | nil => intro acc; rfl
    | cons k r ih =>
      intro acc
      show putAll (putK (acc.map entK) (k.map Sum.inl) (.bl true)) (r.map entK) = _
      rw [putK_ent, ih]; rfl
  rw [e]
  have e3 : putAll [] (nss.map entK) = (dedupK nss).map entK := e2 nss []
  rw [e3]
  exact q p _ (e1.trans (ex_new hpn)) upd_same
end

/-! whole numbers as keys, two clauses -/
def addI (l : List Int) (x : Int) : List Int := if x ∈ l then l else l ++ [x]
def dedupI (l : List Int) : List Int := l.foldl addI []
def entI (x : Int) : Key × V := (Sum.inl x, .bl true)
theorem putK_entI (l : List Int) (x : Int) : putK (l.map entI) (Sum.inl x) (.bl true) = (addI l x).map entI := by
  have e : ((l.map entI).any fun kv => decide (kv.1 = Sum.inl x)) = decide (x ∈ l) := by
    rw [Bool.eq_iff_iff, List.any_eq_true, decide_eq_true_eq]
    constructor
    · rintro ⟨y, hy, h⟩
      obtain ⟨z, hz, rfl⟩ := List.mem_map.mp hy
      have h2 : (Sum.inl z : Key) = Sum.inl x := of_decide_eq_true h
      rw [← Sum.inl.inj h2]
      exact hz
    · intro h
      exact ⟨entI x, List.mem_map.mpr ⟨x, h, rfl⟩, decide_eq_true rfl⟩
  unfold putK addI
  rw [e]
  by_cases h : x ∈ l
  · rw [if_pos (decide_eq_true h), if_pos h, List.map_map]
    refine List.map_congr_left fun z hz => ?_
    show (if (entI z).1 = _ then ((entI z).1, V.bl true) else entI z) = entI z
    split
    · rfl
    · rfl
  · rw [if_neg (by rw [decide_eq_false h]; exact Bool.false_ne_true), if_neg h, List.map_append]
    rfl
theorem dedupI_snoc (l : List Int) (x : Int) : dedupI (l ++ [x]) = addI (dedupI l) x := by
  unfold dedupI
  rw [List.foldl_append]; rfl
theorem dedupI_len (l : List Int) : (dedupI l).length ≤ l.length := by
  have gen : ∀ (l acc : List Int), (l.foldl addI acc).length ≤ acc.length + l.length := by
    intro l
    induction l with
    | nil => intro acc; exact Nat.le_refl _
    | cons x r ih =>
      intro acc
      have h1 := ih (addI acc x)
      have h2 : (addI acc x).length ≤ acc.length + 1 := by
        unfold addI
        split
        · omega
        · rw [List.length_append]; exact Nat.le_refl _
      rw [List.foldl_cons, List.length_cons]
      omega
  have := gen l []
  rw [List.length_nil, Nat.zero_add] at this
  exact this
theorem mem_dedupI (l : List Int) (x : Int) : x ∈ dedupI l ↔ x ∈ l := by
  have gen : ∀ (l acc : List Int), x ∈ l.foldl addI acc ↔ x ∈ acc ∨ x ∈ l := by
    intro l
    induction l with
    | nil => intro acc; simp
    | cons y r ih =>
      intro acc
      rw [List.foldl_cons, ih]
      have : x ∈ addI acc y ↔ x ∈ acc ∨ x = y := by
        unfold addI
        split
        · rename_i h
          exact ⟨.inl, fun z => z.elim id fun z => z ▸ h⟩
        · rw [List.mem_append, List.mem_singleton]
      rw [this, List.mem_cons]
      exact ⟨fun h => h.elim (fun h => h.elim .inl fun h => .inr (.inl h)) fun h => .inr (.inr h), fun h => h.elim (fun h => .inl (.inl h)) fun h => h.elim (fun h => .inl (.inr h)) .inr⟩
  show x ∈ l.foldl addI [] ↔ _
  rw [gen]
  simp
theorem valV_entI (l : List Int) (x : Int) : (valV (l.map entI) (Sum.inl x)).isSome = decide (x ∈ l) := by
  unfold valV
  rw [Option.isSome_map, Bool.eq_iff_iff, List.find?_isSome, decide_eq_true_eq]
  constructor
  · rintro ⟨y, hy, h⟩
    obtain ⟨z, hz, rfl⟩ := List.mem_map.mp hy
    have h2 : (Sum.inl z : Key) = Sum.inl x := of_decide_eq_true h
    rw [← Sum.inl.inj h2]
    exact hz
  · intro h
    exact ⟨entI x, List.mem_map.mpr ⟨x, h, rfl⟩, decide_eq_true rfl⟩
/-- the numbers of stretches -/
def rowsOf (bs : List (Int × Int)) : List Int := (bs.map fun b => upTo b.1 (b.2 - b.1).toNat).flatten
theorem rowsOf_snoc (bs : List (Int × Int)) (b : Int × Int) : rowsOf (bs ++ [b]) = rowsOf bs ++ upTo b.1 (b.2 - b.1).toNat := by
  unfold rowsOf
  rw [List.map_append, List.flatten_append]
  simp
theorem mem_rowsOf (bs : List (Int × Int)) (x : Int) : x ∈ rowsOf bs ↔ ∃ b ∈ bs, b.1 ≤ x ∧ x < b.2 := by
  unfold rowsOf
  rw [List.mem_flatten]
  constructor
  · rintro ⟨l, hl, hx⟩
    obtain ⟨b, hb, rfl⟩ := List.mem_map.mp hl
    have := mem_upTo.mp hx
    exact ⟨b, hb, this.1, by omega⟩
  · rintro ⟨b, hb, h1, h2⟩
    exact ⟨_, List.mem_map.mpr ⟨b, hb, rfl⟩, mem_upTo.mpr ⟨h1, by omega⟩⟩
theorem upTo_succ (lo : Int) (k : Nat) : upTo lo (k + 1) = upTo lo k ++ [lo + (k : Nat)] := by
  unfold upTo
  rw [List.range_succ, List.map_append]; rfl
theorem rowsOf_take_len {bs : List (Int × Int)} {i k : Nat} {b : Int × Int} (hb : bs[i]? = some b) (hk : k ≤ (b.2 - b.1).toNat) : (rowsOf (bs.take i) ++ upTo b.1 k).length ≤ (rowsOf bs).length := by
  have e : bs = bs.take i ++ b :: bs.drop (i + 1) := by
    have h1 := List.getElem?_eq_some_iff.mp hb
    conv => lhs; rw [← List.take_append_drop i bs]
    rw [List.drop_eq_getElem_cons h1.1, h1.2]
  conv => rhs; rw [e]
  unfold rowsOf
  rw [List.map_append, List.flatten_append, List.map_cons, List.flatten_cons, List.length_append, List.length_append, List.length_append, upTo_len, upTo_len]
  omega
section
variable {K : PySem.W.Frag} {N : Addr → Prop} {σ : L2.St} {H : Hp} {tl te : TE} {tas : TA} {ds : List PyData} {bnds : List (Int × Int)} {j j1 : Nat} {vs : List Nat}
theorem dc2_gives (hl : EvD N tl σ H (.list ds)) (hlen : ds.length = bnds.length) (hz : (rowsOf bnds).length ≤ 1000000)
    (hb : ∀ b ∈ bnds, -1000000 ≤ b.1 ∧ b.1 ≤ 1000000 ∧ -1000000 ≤ b.2 ∧ b.2 ≤ 1000000)
    (ha : ∀ (i : Nat) (d : PyData) (b : Int × Int), ds[i]? = some d → bnds[i]? = some b → ∀ N1 H1 v, Le N H N1 H1 → NOk N1 H1 → DN N1 H1 v d → EvA N1 tas (blkSt σ vs j v) H1 [.int b.1, .int b.2])
    (hw : ∀ v, wipe (blkSt σ vs j v) vs = wipe σ vs) (hw1 : ∀ v x, wipe ((wipe (blkSt σ vs j v) [j1]).set j1 (some x)) [j1] = wipe (blkSt σ vs j v) [j1]) (hj1 : j1 < σ.length) :
    ∀ N1 H1, Le N H N1 H1 → NOk N1 H1 → ∀ Q : VK, (∀ D H2, Ex H1 H2 → H2 D = some (.dK ((dedupI (rowsOf bnds)).map entI)) → Q (.ref D) H2) →
      tDc2 (iSeq K tl) (gName j) (iRng2 tas) (gName j1) (tVar j1) (tC (.bl true)) vs [j1] σ H1 Q := fun N1 H0 l n Q q => by
  refine hl N1 H0 l n _ fun v H1 e1 hv => ?_
  obtain ⟨a, ws, rfl, na, ea, hws⟩ := hv.lst_inv
  refine ⟨a, rfl, .inl ⟨⟨ws, SqL.of ea⟩, fun D hD => ?_⟩⟩
  refine ⟨fun i m H' => m = bnds.length - i ∧ i ≤ bnds.length ∧ Ex H1 H' ∧ H' D = some (.dK ((dedupI (rowsOf (bnds.take i))).map entI)), ⟨bnds.length, by simp, Nat.zero_le _, ex_new hD, upd_same⟩, fun i m H' hW => ?_⟩
  obtain ⟨rfl, hi, e, hd⟩ := hW
  have sq : SqL K H' a ws := SqL.of (e _ _ ea)
  have hwl : ws.length = bnds.length := by rw [hws.length, hlen]
  by_cases hlt : i < bnds.length
  · have hx : ws[i]? = some (ws[i]'(by omega)) := List.getElem?_eq_getElem _
    obtain ⟨dx, ex, hdx⟩ := hws.getV hx
    have hbi : bnds[i]? = some bnds[i] := List.getElem?_eq_getElem hlt
    have bd := hb _ (List.mem_of_getElem? hbi)
    refine .inr ⟨⟨ws, _, sq, hx⟩, fun H2 => Ex H1 H2 ∧ H2 D = some (.dK ((dedupI (rowsOf (bnds.take (i + 1)))).map entI)), fun H2 ⟨x, y⟩ => ⟨bnds.length - (i + 1), by omega, rfl, hlt, x, y⟩, fun x H2 y => ?_⟩
    obtain ⟨rfl, y⟩ := y
    have ee := y ws sq
    rw [hx] at ee
    cases ee
    refine ⟨hw _, ?_⟩
    refine ha i dx _ ex hbi N1 H2 _ ((l.ex e1).ex e) ((n.ex e1).ex e) (hdx.ex e) N1 H2 Le.refl ((n.ex e1).ex e) _ fun us H3 e3 hus => ?_
    obtain ⟨u1, u2, rfl, h1, h2⟩ := two_args hus
    obtain rfl := h1.int_inv
    obtain rfl := h2.int_inv
    refine ⟨_, _, rfl, ⟨by omega, by omega, by omega, by omega⟩, ?_⟩
    refine ⟨fun k m H' => m = (bnds[i].2 - bnds[i].1).toNat - k ∧ k ≤ (bnds[i].2 - bnds[i].1).toNat ∧ Ex H1 H' ∧ H' D = some (.dK ((dedupI (rowsOf (bnds.take i) ++ upTo bnds[i].1 k)).map entI)),
      ⟨_, rfl, Nat.zero_le _, e.trans e3, by show H3 D = _; rw [show upTo bnds[i].1 0 = [] from rfl, List.append_nil]; exact e3 _ _ hd⟩, fun k m H' hW => ?_⟩
    obtain ⟨rfl, hk, e4, hd4⟩ := hW
    by_cases hkl : k < (bnds[i].2 - bnds[i].1).toNat
    · refine .inr ⟨hkl, fun H2 => Ex H1 H2 ∧ H2 D = some (.dK ((dedupI (rowsOf (bnds.take i) ++ upTo bnds[i].1 (k + 1))).map entI)), fun H2 ⟨x, y⟩ => ⟨_, by omega, rfl, hkl, x, y⟩, fun x1 H5 y => ?_⟩
      obtain ⟨rfl, rfl⟩ := y
      refine ⟨hw1 _ _, ?_⟩
      refine ⟨.int (bnds[i].1 + (k : Nat)), ?_, ?_⟩
      · show ((wipe (blkSt σ vs j _) [j1]).set j1 (some _))[j1]? = _
        rw [List.getElem?_set_self (by rw [wipe_length]; show j1 < ((wipe σ vs).set j _).length; rw [List.length_set, wipe_length]; exact hj1)]
      · refine ⟨_, DPut.k (k := Sum.inl (bnds[i].1 + (k : Nat))) hd4 ?_, fun b o qb => ?_, ?_⟩
        · rw [List.length_map]
          have a1 := dedupI_len (rowsOf (bnds.take i) ++ upTo bnds[i].1 k)
          have a2 := rowsOf_take_len hbi hk
          rw [sizeLine_eq]
          omega
        · rw [upd_ne (ne_of_none qb hD)]
          exact e4 _ _ qb
        · rw [upd_same, putK_entI, ← dedupI_snoc, upTo_succ, List.append_assoc]
    · have ek : k = (bnds[i].2 - bnds[i].1).toNat := by omega
      refine .inl ⟨by show (bnds[i].2 - bnds[i].1).toNat ≤ k; omega, e4, ?_⟩
      rw [take_get hbi, rowsOf_snoc, ← ek]
      exact hd4
  · have ei : i = bnds.length := by omega
    subst ei
    rw [List.take_length] at hd
    exact .inl ⟨⟨ws, sq, by omega⟩, q D H' (e1.trans e) hd⟩
end
end K14
/-! K14Loop -/
set_option Elab.async false
set_option linter.all false
set_option maxRecDepth 100000
set_option maxHeartbeats 2000000
/-! Loops over data; isinstance on data; promises of pure defs. -/
namespace K14
open PySem PySem.Spec PyProof.Rows L2

/-- what is not about to change stays -/
def Kp (N : Addr → Prop) (H H1 : Hp) : Prop := ∀ a o, ¬ N a → H a = some o → H1 a = some o
section
variable {K : PySem.W.Frag} {N N1 : Addr → Prop} {σ : L2.St} {H H1 H2 : Hp} {ta tb tl te : TE} {tas : TA} {tt : TT} {v : V} {a b d : PyData} {as ds : List PyData} {vs : List V}
theorem Kp.refl : Kp N H H := fun _ _ _ h => h
theorem Kp.of (e : Ex H H1) : Kp N H H1 := fun a o _ h => e a o h
theorem Kp.trans (h : Kp N H H1) (g : Kp N H1 H2) : Kp N H H2 := fun a o n e => g a o n (h a o n e)
theorem Kp.ex (h : Kp N H H1) (g : Ex H1 H2) : Kp N H H2 := h.trans (.of g)
theorem Kp.le (h : Kp N H H1) : Le N H N H1 := ⟨fun _ h => h, fun _ h => .inl h, h⟩
theorem Le.kp (h : Le N H N H1) : Kp N H H1 := h.keep
theorem DN.kp (h : DN N H v d) (k : Kp N H H1) : DN N H1 v d := h.le k.le
theorem DNs.kp (h : DNs N H vs ds) (k : Kp N H H1) : DNs N H1 vs ds := h.le k.le
/-- a walk of a tuple or list; P is told of the heap at the loop's start -/
theorem s_forS {g : TG} {tbd : TS} {D : Ends} (P : Hp → Nat → L2.St → Hp → Prop) (hl : EvD N tl σ H d) (hd : isSeqD d ds) (n : NOk N H) (h0 : ∀ H1, Ex H H1 → P H1 0 σ H1) (hk : ∀ H0, Ex H H0 → ∀ i σ1 H1, P H0 i σ1 H1 → Kp N H0 H1)
    (step : ∀ H0, Ex H H0 → ∀ (i : Nat) (x : PyData) (v : V) (σ1 : L2.St) (H1 : Hp), ds[i]? = some x → P H0 i σ1 H1 → DN N H1 v x → g v σ1 H1 fun σ2 H2 => tbd { D with nx := P H0 (i + 1), ct := P H0 (i + 1), bk := D.nx } σ2 H2)
    (done : ∀ H0, Ex H H0 → ∀ σ1 H1, P H0 ds.length σ1 H1 → D.nx σ1 H1) : tFor (iSeq K tl) g tbd D σ H := by
  refine hl N H Le.refl n _ fun v H1 e1 hv => ?_
  rcases hd with rfl | rfl
  · obtain ⟨a, ws, rfl, na, ea, hws⟩ := hv.lst_inv
    refine ⟨a, rfl, .inl ⟨⟨ws, SqL.of ea⟩, fun i m σ' H' => i + m = ds.length ∧ P H1 i σ' H', ⟨ds.length, Nat.zero_add _, h0 H1 e1⟩, fun i m σ' H' hW => ?_⟩⟩
    obtain ⟨em, hP⟩ := hW
    have kp := hk H1 e1 i σ' H' hP
    have sq : SqL K H' a ws := SqL.of (kp _ _ na ea)
    have hwl := hws.length
    by_cases hlt : i < ds.length
    · have hx : ws[i]? = some (ws[i]'(by omega)) := List.getElem?_eq_getElem _
      obtain ⟨dx, ex, hdx⟩ := hws.getV hx
      refine .inr ⟨⟨ws, _, sq, hx⟩, P H1 (i + 1), fun σ2 H2 q => ⟨m - 1, by omega, by omega, q⟩, fun x H2 y => ?_⟩
      obtain ⟨rfl, y⟩ := y
      have ee := y ws sq
      rw [hx] at ee
      cases ee
      exact step H1 e1 i dx _ σ' H2 ex hP (hdx.kp kp)
    · have ei : i = ds.length := by omega
      subst ei
      exact .inl ⟨⟨ws, sq, by omega⟩, done H1 e1 σ' H' hP⟩
  · obtain ⟨a, ws, rfl, na, ea, hws⟩ := hv.tup_inv
    refine ⟨a, rfl, .inr ⟨⟨ws, SqT.of ea⟩, fun i m σ' H' => i + m = ds.length ∧ P H1 i σ' H', ⟨ds.length, Nat.zero_add _, h0 H1 e1⟩, fun i m σ' H' hW => ?_⟩⟩
    obtain ⟨em, hP⟩ := hW
    have kp := hk H1 e1 i σ' H' hP
    have sq : SqT K H' a ws := SqT.of (kp _ _ na ea)
    have hwl := hws.length
    by_cases hlt : i < ds.length
    · have hx : ws[i]? = some (ws[i]'(by omega)) := List.getElem?_eq_getElem _
      obtain ⟨dx, ex, hdx⟩ := hws.getV hx
      refine .inr ⟨⟨ws, _, sq, hx⟩, P H1 (i + 1), fun σ2 H2 q => ⟨m - 1, by omega, by omega, q⟩, fun x H2 y => ?_⟩
      obtain ⟨rfl, y⟩ := y
      have ee := y ws sq
      rw [hx] at ee
      cases ee
      exact step H1 e1 i dx _ σ' H2 ex hP (hdx.kp kp)
    · have ei : i = ds.length := by omega
      subst ei
      exact .inl ⟨⟨ws, sq, by omega⟩, done H1 e1 σ' H' hP⟩
/-- for i in range(n) -/
theorem s_forR {g : TG} {tbd : TS} {D : Ends} {m : Int} (P : Hp → Nat → L2.St → Hp → Prop) (hl : EvA N tas σ H [.int m]) (hm : 0 ≤ m ∧ m ≤ 10000000) (n : NOk N H) (h0 : ∀ H1, Ex H H1 → P H1 0 σ H1)
    (step : ∀ H0, Ex H H0 → ∀ (i : Nat) (σ1 : L2.St) (H1 : Hp), (i : Int) < m → P H0 i σ1 H1 → g (.int i) σ1 H1 fun σ2 H2 => tbd { D with nx := P H0 (i + 1), ct := P H0 (i + 1), bk := D.nx } σ2 H2)
    (done : ∀ H0, Ex H H0 → ∀ σ1 H1, P H0 m.toNat σ1 H1 → D.nx σ1 H1) : tFor (iRng1 tas) g tbd D σ H := by
  refine hl N H Le.refl n _ fun ws H1 e1 hws => ?_
  obtain ⟨v, rfl, hv⟩ := one_arg hws
  obtain rfl := hv.int_inv
  refine ⟨m, rfl, by omega, by omega, fun i k σ' H' => i + k = m.toNat ∧ P H1 i σ' H', ⟨m.toNat, Nat.zero_add _, h0 H1 e1⟩, fun i k σ' H' hW => ?_⟩
  obtain ⟨em, hP⟩ := hW
  by_cases hlt : i < m.toNat
  · refine .inr ⟨hlt, P H1 (i + 1), fun σ2 H2 q => ⟨k - 1, by omega, by omega, q⟩, fun x H2 y => ?_⟩
    obtain ⟨rfl, rfl⟩ := y
    have z := step H1 e1 i σ' H2 (by omega) hP
    rw [Int.zero_add]
    exact z
  · have ei : i = m.toNat := by omega
    subst ei
    exact .inl ⟨by show m.toNat ≤ m.toNat; omega, done H1 e1 σ' H' hP⟩
/-- for i, x in enumerate(t), a tuple -/
theorem s_forE {i1 i2 : Nat} {tbd : TS} {D : Ends} (P : Hp → Nat → L2.St → Hp → Prop) (hl : EvD N tl σ H (.tuple ds)) (n : NOk N H) (h0 : ∀ H1, Ex H H1 → P H1 0 σ H1) (hk : ∀ H0, Ex H H0 → ∀ i σ1 H1, P H0 i σ1 H1 → Kp N H0 H1) (hp : ∀ H0, Ex H H0 → ∀ i σ1 H1 H2, P H0 i σ1 H1 → Ex H1 H2 → P H0 i σ1 H2)
    (step : ∀ H0, Ex H H0 → ∀ (i : Nat) (x : PyData) (v : V) (σ1 : L2.St) (H1 : Hp), ds[i]? = some x → P H0 i σ1 H1 → DN N H1 v x → tbd { D with nx := P H0 (i + 1), ct := P H0 (i + 1), bk := D.nx } ((σ1.set i1 (some (.int i))).set i2 (some v)) H1)
    (done : ∀ H0, Ex H H0 → ∀ σ1 H1, P H0 ds.length σ1 H1 → D.nx σ1 H1) : tFor (iEnumT K tl) (gTup K 2 (gCons (gName i1) (gCons (gName i2) gNil))) tbd D σ H := by
  refine hl N H Le.refl n _ fun v H1 e1 hv => ?_
  obtain ⟨a, ws, rfl, na, ea, hws⟩ := hv.tup_inv
  refine ⟨a, ws, rfl, SqT.of ea, fun i m σ' H' => i + m = ds.length ∧ P H1 i σ' H', ⟨ds.length, Nat.zero_add _, h0 H1 e1⟩, fun i m σ' H' hW => ?_⟩
  obtain ⟨em, hP⟩ := hW
  have kp := hk H1 e1 i σ' H' hP
  have sq : SqT K H' a ws := SqT.of (kp _ _ na ea)
  have hwl := hws.length
  by_cases hlt : i < ds.length
  · have hx : ws[i]? = some (ws[i]'(by omega)) := List.getElem?_eq_getElem _
    obtain ⟨dx, ex, hdx⟩ := hws.getV hx
    refine .inr ⟨⟨ws, _, sq, hx⟩, P H1 (i + 1), fun σ2 H2 q => ⟨m - 1, by omega, by omega, q⟩, fun x H2 y => ?_⟩
    obtain ⟨T, x', rfl, hT, rfl, hx'⟩ := y
    have ee := hx' ws sq
    rw [hx] at ee
    cases ee
    refine ⟨T, _, rfl, SqT.of upd_same, rfl, _, _, rfl, _, _, rfl, rfl, ?_⟩
    exact step H1 e1 i dx _ σ' _ ex (hp H1 e1 i σ' H' _ hP (ex_new hT)) ((hdx.kp kp).ex (ex_new hT))
  · have ei : i = ds.length := by omega
    subst ei
    exact .inl ⟨⟨ws, sq, by omega⟩, done H1 e1 σ' H' hP⟩

/-! isinstance -/
def tyD : PyData → String
  | .none => "NoneType"
  | .bool _ => "bool"
  | .int _ => "int"
  | .str _ => "str"
  | .list _ => "list"
  | .tuple _ => "tuple"
  | .dict _ => "dict"
theorem DN.ty {N : Addr → Prop} {H : Hp} {x : V} {a : PyData} (h : DN N H x a) : TyX K H x (.type (tyD a)) := by
  cases h with
  | non => exact .base .non
  | bl b => exact .base (.bl b)
  | int i => exact .base (.int i)
  | str x => exact .base (.str x)
  | lst n e r => exact .base (.lst e)
  | tup n e r => exact .base (.tup e)
theorem ed_isi {n : String} {r : Bool} (ha : EvD N ta σ H a) (hk : kitB (tyD a) n = some r) : EvD N (tCB (rIsi K) (tCons ta (tCons (tC (.ty n)) tNil))) σ H (.bool r) := fun N1 H1 l nk Q q =>
  ha N1 H1 l nk _ fun v H2 e2 hv => ⟨v, .ty n, .type (tyD a), .type n, r, rfl, .ty n, hv.ty, kit_ty hk, q _ H2 e2 (.bl r)⟩
theorem ed_isi2 {n m : String} {r1 r2 : Bool} (ha : EvD N ta σ H a) (h1 : kitB (tyD a) n = some r1) (h2 : kitB (tyD a) m = some r2) : EvD N (tCB (rIsiT K) (tCons ta (tCons (tTup (tCons (tC (.ty n)) (tCons (tC (.ty m)) tNil))) tNil))) σ H (.bool (r1 || r2)) := fun N1 H1 l nk Q q =>
  ha N1 H1 l nk _ fun v H2 e2 hv => ⟨by show 2 ≤ sizeLine; decide, fun p hp => ⟨v, p, [.ty n, .ty m], .type (tyD a), [.type n, .type m], r1 || r2, rfl, upd_same, .cons (.ty n) (.cons (.ty m) .nil), (hv.ex (ex_new hp)).ty, by
    refine kitAny_cons (kit_ty h1) (fun e => ?_) fun e => by rw [e]; rfl
    rw [e]
    refine kitAny_cons (kit_ty h2) (fun e => ?_) fun e => by rw [e]; rfl
    rw [e]
    exact kitAny_nil, q _ _ (e2.trans (ex_new hp)) (.bl _)⟩⟩
end

/-! promises -/
theorem pure_len {R : List PyData → PyData → Prop} {n : Nat} (h : ∀ as d, R as d → as.length = n) : ∀ vs H Q E, PureSp R vs H Q E → vs.length = n := fun vs H Q E ⟨N, as, d, _, h1, h2, _⟩ => by rw [h1.length, h as d h2]
theorem Has.of {P : Program} {w : World} {K : PySem.W.Frag} {mg : Str → Option Value} {base : Heap} {CX : CXT} {k : Nat} {x : Str} {st : Stmt} {f : Addr} {fd : FuncData} {ps : List Str} {sp : Sp} (F : Fun K x x st f fd) (ok : FnOk P w K mg base CX k f fd ps sp) (hm : mg x = some (.ref f)) (hb : Binds K fd ps []) : Has P w K mg base CX k x ps sp :=
  ⟨f, fd, ok, hm, F.kp, hb⟩
theorem Has.mono {P : Program} {w : World} {K : PySem.W.Frag} {mg : Str → Option Value} {base : Heap} {CX : CXT} {j k : Nat} {x : Str} {ps : List Str} {sp : Sp} (h : Has P w K mg base CX j x ps sp) (hj : j ≤ k) : Has P w K mg base CX k x ps sp := by
  obtain ⟨f, fd, F, a, b, c⟩ := h.ex
  exact ⟨f, fd, F.mono hj, a, b, c⟩
end K14
/-! K14Def -/
set_option Elab.async false
set_option linter.all false
set_option maxRecDepth 100000
set_option maxHeartbeats 2000000
/-! The text's defs, what is known of the globals, the spans. -/
namespace K14
open PySem PySem.Spec PyProof.Rows L2

def topS (i : Nat) : Stmt := PySem.Challenge.pw_farstory_k14_whole_told_spans_that_fit_n.main.body.getD i (.Pass ⟨0, 0, 0, 0⟩)
abbrev s_is_integer : Stmt := topS 4
/- slots: value=0; cells:  -/
theorem sc_is_integer : FnScope ["value"] ["value"] (defScope s_is_integer) := ⟨rfl, rfl, rfl, by decide +kernel, rfl, by decide +kernel, by decide +kernel⟩
abbrev s_is_number : Stmt := topS 5
/- slots: value=0; cells:  -/
theorem sc_is_number : FnScope ["value"] ["value"] (defScope s_is_number) := ⟨rfl, rfl, rfl, by decide +kernel, rfl, by decide +kernel, by decide +kernel⟩
abbrev s_is_sequence : Stmt := topS 6
/- slots: value=0; cells:  -/
theorem sc_is_sequence : FnScope ["value"] ["value"] (defScope s_is_sequence) := ⟨rfl, rfl, rfl, by decide +kernel, rfl, by decide +kernel, by decide +kernel⟩
abbrev s_is_told_span : Stmt := topS 11
/- slots: value=0 one=1; cells:  -/
theorem sc_is_told_span : FnScope ["value", "one"] ["value"] (defScope s_is_told_span) := ⟨rfl, rfl, rfl, by decide +kernel, rfl, by decide +kernel, by decide +kernel⟩
abbrev s_check_told_spans : Stmt := topS 12
/- slots: value=0 one=1; cells:  -/
theorem sc_check_told_spans : FnScope ["value", "one"] ["value"] (defScope s_check_told_spans) := ⟨rfl, rfl, rfl, by decide +kernel, rfl, by decide +kernel, by decide +kernel⟩
abbrev s_end_of : Stmt := topS 13
/- slots: span=0; cells:  -/
theorem sc_end_of : FnScope ["span"] ["span"] (defScope s_end_of) := ⟨rfl, rfl, rfl, by decide +kernel, rfl, by decide +kernel, by decide +kernel⟩
abbrev s_is_inside : Stmt := topS 14
/- slots: one=0 other=1; cells:  -/
theorem sc_is_inside : FnScope ["one", "other"] ["one", "other"] (defScope s_is_inside) := ⟨rfl, rfl, rfl, by decide +kernel, rfl, by decide +kernel, by decide +kernel⟩
abbrev s_first_crossed : Stmt := topS 15
/- slots: spans=0 at=1 one=2 other=3 is_apart=4 is_nested=5; cells:  -/
theorem sc_first_crossed : FnScope ["spans", "at", "one", "other", "is_apart", "is_nested"] ["spans"] (defScope s_first_crossed) := ⟨rfl, rfl, rfl, by decide +kernel, rfl, by decide +kernel, by decide +kernel⟩
abbrev s_parts_of : Stmt := topS 16
/- slots: spans=0 span=1 inside=2 one=3 other=4; cells: inside span -/
theorem sc_parts_of : FnScope ["spans", "span", "inside", "one", "other"] ["spans", "span"] (defScope s_parts_of) := ⟨rfl, rfl, rfl, by decide +kernel, rfl, by decide +kernel, by decide +kernel⟩
abbrev s_rest_of : Stmt := topS 17
/- slots: spans=0 span=1 parts=2 told=3 part=4 row=5 rows=6 needs_low=7 needs_high=8; cells: span told -/
theorem sc_rest_of : FnScope ["spans", "span", "parts", "told", "part", "row", "rows", "needs_low", "needs_high"] ["spans", "span"] (defScope s_rest_of) := ⟨rfl, rfl, rfl, by decide +kernel, rfl, by decide +kernel, by decide +kernel⟩
abbrev s_sum_span : Stmt := topS 18
/- slots: many=0 low=1 high=2 needs_low=3 needs_high=4 held=5 base=6; cells:  -/
theorem sc_sum_span : FnScope ["many", "low", "high", "needs_low", "needs_high", "held", "base"] ["many", "low", "high", "needs_low", "needs_high"] (defScope s_sum_span) := ⟨rfl, rfl, rfl, by decide +kernel, rfl, by decide +kernel, by decide +kernel⟩
abbrev s_can_sum : Stmt := topS 19
/- slots: many=0 total=1 low=2 high=3 needs_low=4 needs_high=5 told=6; cells:  -/
theorem sc_can_sum : FnScope ["many", "total", "low", "high", "needs_low", "needs_high", "told"] ["many", "total", "low", "high", "needs_low", "needs_high"] (defScope s_can_sum) := ⟨rfl, rfl, rfl, by decide +kernel, rfl, by decide +kernel, by decide +kernel⟩
abbrev s_is_fit : Stmt := topS 20
/- slots: spans=0 span=1 part=2 rows=3 total=4 needs_low=5 needs_high=6; cells: span -/
theorem sc_is_fit : FnScope ["spans", "span", "part", "rows", "total", "needs_low", "needs_high"] ["spans", "span"] (defScope s_is_fit) := ⟨rfl, rfl, rfl, by decide +kernel, rfl, by decide +kernel, by decide +kernel⟩
abbrev s_span_quarrel : Stmt := topS 21
/- slots: spans=0 told=1 crossed=2 unfit=3 span=4; cells: told -/
theorem sc_span_quarrel : FnScope ["spans", "told", "crossed", "unfit", "span"] ["spans"] (defScope s_span_quarrel) := ⟨rfl, rfl, rfl, by decide +kernel, rfl, by decide +kernel, by decide +kernel⟩
abbrev s_l_box : Stmt := topS 23
/- slots: _law_script=0 _law_k=1 _law_cell=2 _law_great=3; cells:  -/
theorem sc_l_box : FnScope ["_law_script", "_law_k", "_law_cell", "_law_great"] ["_law_script", "_law_k"] (defScope s_l_box) := ⟨rfl, rfl, rfl, by decide +kernel, rfl, by decide +kernel, by decide +kernel⟩
abbrev s_l_take : Stmt := topS 24
/- slots: _law_box_here=0 _law_many=1 _law_digit=2 _law_raw=3; cells:  -/
theorem sc_l_take : FnScope ["_law_box_here", "_law_many", "_law_digit", "_law_raw"] ["_law_box_here", "_law_many"] (defScope s_l_take) := ⟨rfl, rfl, rfl, by decide +kernel, rfl, by decide +kernel, by decide +kernel⟩
abbrev s_l_pick : Stmt := topS 25
/- slots: _law_box_here=0 _law_some=1; cells:  -/
theorem sc_l_pick : FnScope ["_law_box_here", "_law_some"] ["_law_box_here", "_law_some"] (defScope s_l_pick) := ⟨rfl, rfl, rfl, by decide +kernel, rfl, by decide +kernel, by decide +kernel⟩
abbrev s_l_spans : Stmt := topS 26
/- slots: _law_box_here=0 _law_many=1 _law_values=2 _law_row=3 _law_found=4 _law_stretches=5 _law_turn=6 _law_first=7 _law_last=8 _law_some=9 _law_cut=10; cells: _law_box_here -/
theorem sc_l_spans : FnScope ["_law_box_here", "_law_many", "_law_values", "_law_row", "_law_found", "_law_stretches", "_law_turn", "_law_first", "_law_last", "_law_some", "_law_cut"] ["_law_box_here", "_law_many"] (defScope s_l_spans) := ⟨rfl, rfl, rfl, by decide +kernel, rfl, by decide +kernel, by decide +kernel⟩
abbrev s_l_mixed : Stmt := topS 27
/- slots: _law_box_here=0 _law_spans_here=1 _law_left=2 _law_found=3 _law_turn=4; cells:  -/
theorem sc_l_mixed : FnScope ["_law_box_here", "_law_spans_here", "_law_left", "_law_found", "_law_turn"] ["_law_box_here", "_law_spans_here"] (defScope s_l_mixed) := ⟨rfl, rfl, rfl, by decide +kernel, rfl, by decide +kernel, by decide +kernel⟩
abbrev s_l_bent : Stmt := topS 28
/- slots: _law_box_here=0 _law_spans_here=1 _law_found=2 _law_span=3 _law_at=4 _law_part=5; cells:  -/
theorem sc_l_bent : FnScope ["_law_box_here", "_law_spans_here", "_law_found", "_law_span", "_law_at", "_law_part"] ["_law_box_here", "_law_spans_here"] (defScope s_l_bent) := ⟨rfl, rfl, rfl, by decide +kernel, rfl, by decide +kernel, by decide +kernel⟩
abbrev s_l_fits : Stmt := topS 29
/- slots: _law_spans_here=0 _law_values=1 _law_first=2 _law_many=3 _law_total=4 _law_low=5 _law_high=6 _law_some=7; cells:  -/
theorem sc_l_fits : FnScope ["_law_spans_here", "_law_values", "_law_first", "_law_many", "_law_total", "_law_low", "_law_high", "_law_some"] ["_law_spans_here", "_law_values"] (defScope s_l_fits) := ⟨rfl, rfl, rfl, by decide +kernel, rfl, by decide +kernel, by decide +kernel⟩
abbrev s_l_all : Stmt := topS 30
/- slots: _law_rows=0 _law_least=1 _law_most=2 _law_found=3 _law_row=4 _law_longer=5 _law_some=6 _law_value=7; cells: _law_some -/
theorem sc_l_all : FnScope ["_law_rows", "_law_least", "_law_most", "_law_found", "_law_row", "_law_longer", "_law_some", "_law_value"] ["_law_rows", "_law_least", "_law_most"] (defScope s_l_all) := ⟨rfl, rfl, rfl, by decide +kernel, rfl, by decide +kernel, by decide +kernel⟩
abbrev s_l_choices : Stmt := topS 31
/- slots: _law_spans_here=0 _law_rows=1 _law_least=2 _law_most=3 _law_span=4 _law_some=5; cells: _law_spans_here -/
theorem sc_l_choices : FnScope ["_law_spans_here", "_law_rows", "_law_least", "_law_most", "_law_span", "_law_some"] ["_law_spans_here", "_law_rows"] (defScope s_l_choices) := ⟨rfl, rfl, rfl, by decide +kernel, rfl, by decide +kernel, by decide +kernel⟩
abbrev s_l_in : Stmt := topS 32
/- slots: _law_one=0 _law_other=1; cells:  -/
theorem sc_l_in : FnScope ["_law_one", "_law_other"] ["_law_one", "_law_other"] (defScope s_l_in) := ⟨rfl, rfl, rfl, by decide +kernel, rfl, by decide +kernel, by decide +kernel⟩
abbrev s_l_crossed : Stmt := topS 33
/- slots: _law_spans_here=0 _law_at=1 _law_other=2 _law_one=3 _law_is_apart=4; cells:  -/
theorem sc_l_crossed : FnScope ["_law_spans_here", "_law_at", "_law_other", "_law_one", "_law_is_apart"] ["_law_spans_here"] (defScope s_l_crossed) := ⟨rfl, rfl, rfl, by decide +kernel, rfl, by decide +kernel, by decide +kernel⟩
abbrev s_l_parts : Stmt := topS 34
/- slots: _law_spans_here=0 _law_span=1 _law_inside=2 _law_one=3 _law_other=4; cells: _law_inside _law_span -/
theorem sc_l_parts : FnScope ["_law_spans_here", "_law_span", "_law_inside", "_law_one", "_law_other"] ["_law_spans_here", "_law_span"] (defScope s_l_parts) := ⟨rfl, rfl, rfl, by decide +kernel, rfl, by decide +kernel, by decide +kernel⟩
abbrev s_l_rest : Stmt := topS 35
/- slots: _law_spans_here=0 _law_span=1 _law_parts_here=2 _law_told=3 _law_part=4 _law_row=5; cells: _law_told -/
theorem sc_l_rest : FnScope ["_law_spans_here", "_law_span", "_law_parts_here", "_law_told", "_law_part", "_law_row"] ["_law_spans_here", "_law_span"] (defScope s_l_rest) := ⟨rfl, rfl, rfl, by decide +kernel, rfl, by decide +kernel, by decide +kernel⟩
abbrev s_l_unfit : Stmt := topS 36
/- slots: _law_spans_here=0 _law_span=1 _law_parts_here=2 _law_rest_here=3 _law_part=4 _law_lows=5 _law_highs=6 _law_total=7 _law_some=8; cells: _law_span -/
theorem sc_l_unfit : FnScope ["_law_spans_here", "_law_span", "_law_parts_here", "_law_rest_here", "_law_part", "_law_lows", "_law_highs", "_law_total", "_law_some"] ["_law_spans_here", "_law_span"] (defScope s_l_unfit) := ⟨rfl, rfl, rfl, by decide +kernel, rfl, by decide +kernel, by decide +kernel⟩
abbrev s_l_refused : Stmt := topS 37
/- slots: _law_ask=0 fault=1; cells:  -/
theorem sc_l_refused : FnScope ["_law_ask", "fault"] ["_law_ask"] (defScope s_l_refused) := ⟨rfl, rfl, rfl, by decide +kernel, rfl, by decide +kernel, by decide +kernel⟩
abbrev s_law : Stmt := topS 38
/- slots: _law_script=0 _law_k=1 _law_box_here=2 _law_rows=3 _law_values=4 _law_spans_here=5 _law_turn=6 _law_some=7 _law_line=8 _law_span=9 _law_handed=10 _law_crossed_here=11 _law_due=12 _law_unfit_here=13 _law_wide=14 _law_parts_here=15 _law_rest_here=16 _law_left=17 _law_part=18 _law_low=19 _law_high=20 _law_odd=21; cells: _law_line _law_odd -/
theorem sc_law : FnScope ["_law_script", "_law_k", "_law_box_here", "_law_rows", "_law_values", "_law_spans_here", "_law_turn", "_law_some", "_law_line", "_law_span", "_law_handed", "_law_crossed_here", "_law_due", "_law_unfit_here", "_law_wide", "_law_parts_here", "_law_rest_here", "_law_left", "_law_part", "_law_low", "_law_high", "_law_odd"] ["_law_script"] (defScope s_law) := ⟨rfl, rfl, rfl, by decide +kernel, rfl, by decide +kernel, by decide +kernel⟩

structure Gl0 (mg : Str → Option Value) : Prop where
  len : mg "len" = none
  all : mg "all" = none
  any : mg "any" = none
  sum : mg "sum" = none
  min : mg "min" = none
  max : mg "max" = none
  sorted : mg "sorted" = none
  repr : mg "repr" = none
  abs : mg "abs" = none
  isinstance : mg "isinstance" = none
  range : mg "range" = none
  enumerate : mg "enumerate" = none
  list : mg "list" = none
  tuple : mg "tuple" = none
  dict : mg "dict" = none
  int : mg "int" = none
  bool : mg "bool" = none
  super : mg "super" = none
  most : ∃ t, mg "MOST_VALUE" = some (.int 1000000 t)
  crossed : ∃ t, mg "CROSSED" = some (.str "crossed" t)
  unfit : ∃ t, mg "UNFIT" = some (.str "unfit" t)
section
variable {X : Cx}
theorem pe_most {p : Pos} (T : Gl0 X.mg) (hg : Gl X "MOST_VALUE") : PE X (.Name "MOST_VALUE" p) (tC (.int 1000000)) := by
  obtain ⟨t, h⟩ := T.most
  exact pe_glob hg h ⟨_, rfl⟩
theorem pe_crossed {p : Pos} (T : Gl0 X.mg) (hg : Gl X "CROSSED") : PE X (.Name "CROSSED" p) (tC (.str "crossed")) := by
  obtain ⟨t, h⟩ := T.crossed
  exact pe_glob hg h ⟨_, rfl⟩
theorem pe_unfit {p : Pos} (T : Gl0 X.mg) (hg : Gl X "UNFIT") : PE X (.Name "UNFIT" p) (tC (.str "unfit")) := by
  obtain ⟨t, h⟩ := T.unfit
  exact pe_glob hg h ⟨_, rfl⟩
end

/-! ### spans -/
structure Span where
  first : Int
  many : Int
  sum : Int
  low : Int
  high : Int
deriving DecidableEq
def spL (s : Span) : List Int := [s.first, s.many, s.sum, s.low, s.high]
abbrev spD (s : Span) : PyData := tupD (spL s)
def endO (s : Span) : Int := s.first + s.many
/-- a lies in b -/
def ins (a b : Span) : Bool := decide (b.first ≤ a.first) && decide (endO a ≤ endO b)
def isApart (a b : Span) : Bool := decide (endO a ≤ b.first) || decide (endO b ≤ a.first)
def crossB (a b : Span) : Bool := !isApart a b && !(ins a b != ins b a)
def firstX : List Span → Option (Span × Span)
  | [] => none
  | a :: r => match r.find? (crossB a) with
    | some b => some (a, b)
    | none => firstX r
def inside (l : List Span) (s : Span) : List Span := l.filter fun o => decide (o ≠ s) && ins o s
def parts (l : List Span) (s : Span) : List Span := (inside l s).filter fun o => !((inside l s).any fun t => decide (t ≠ o) && ins o t)
def restRows (l : List Span) (s : Span) : List Int := (upTo s.first s.many.toNat).filter fun r => !((parts l s).any fun p => decide (p.first ≤ r) && decide (r < endO p))
def needsLow (l : List Span) (s : Span) : Bool := (parts l s).all fun p => decide (p.low ≠ s.low)
def needsHigh (l : List Span) (s : Span) : Bool := (parts l s).all fun p => decide (p.high ≠ s.high)
def restSum (l : List Span) (s : Span) : Int := s.sum - ((parts l s).map (·.sum)).sum
def b2i (b : Bool) : Int := if b then 1 else 0
/-- least and most sum of so many values between low and high -/
def sumSpan (many low high : Int) (nl nh : Bool) : Option (Int × Int) :=
  if low = high then (if 0 < many ∨ (nl = false ∧ nh = false) then some (many * low, many * low) else none)
  else if many < b2i nl + b2i nh then none
  else some (low * b2i nl + high * b2i nh + (many - (b2i nl + b2i nh)) * low, low * b2i nl + high * b2i nh + (many - (b2i nl + b2i nh)) * high)
def canSum (many total low high : Int) (nl nh : Bool) : Bool := match sumSpan many low high nl nh with
  | none => false
  | some p => decide (p.1 ≤ total) && decide (total ≤ p.2)
def inRange (s : Span) : Bool := decide (-1000000 ≤ s.low) && (decide (s.low ≤ s.high) && decide (s.high ≤ 1000000))
def partsIn (l : List Span) (s : Span) : Bool := (parts l s).all fun p => decide (s.low ≤ p.low) && decide (p.high ≤ s.high)
def isFit (l : List Span) (s : Span) : Bool := inRange s && (partsIn l s && canSum (restRows l s).length (restSum l s) s.low s.high (needsLow l s) (needsHigh l s))
/-- what is wrong, as data -/
def quarrelD (l : List Span) : PyData := match firstX l with
  | some p => .tuple [.str "crossed", spD p.1, spD p.2]
  | none => match l.filter fun s => !isFit l s with
    | s :: _ => .tuple [.str "unfit", spD s]
    | [] => .none
/-- the told spans in order -/
def dedupS (l : List Span) : List Span := l.foldl (fun acc s => if s ∈ acc then acc else acc ++ [s]) []
def lineOf (l : List Span) : List Span := (dedupS l).mergeSort fun a b => PySem.W.dataLe false id (spD a) (spD b)
end K14
/-! K14Prog1 -/
set_option Elab.async false
set_option linter.all false
set_option maxRecDepth 100000
set_option maxHeartbeats 2000000
/-! The program's defs: what a told span is. -/
namespace K14
open PySem PySem.Spec PyProof.Rows L2
def isIntD : PyData → Bool
  | .int _ => true
  | _ => false
def isSeqB : PyData → Bool
  | .list _ => true
  | .tuple _ => true
  | _ => false
def isNumD : PyData → Bool
  | .int i => decide (0 ≤ i)
  | _ => false
def itemsD : PyData → List PyData
  | .list ds => ds
  | .tuple ds => ds
  | _ => []
/-- what is_told_span answers -/
def toldB (d : PyData) : Bool := isSeqB d && match itemsD d with
  | [a, b, c, e, f] => isNumD a && isNumD b && !PyData.eqv b (.int 0) && isIntD c && isIntD e && isIntD f
  | _ => false
theorem isSeqD_of : ∀ {d : PyData}, isSeqB d = true → isSeqD d (itemsD d)
  | .list _, _ => .inl rfl
  | .tuple _, _ => .inr rfl
theorem eqv_int (i j : Int) : PyData.eqv (.int i) (.int j) = decide (i = j) := by
  rw [PyData.eqv]
  by_cases h : i = j <;> simp [h]
theorem eqv_tupD (a b : List Int) : PyData.eqv (tupD a) (tupD b) = decide (a = b) := by
  rw [PyData.eqv, PySem.W.ked_eqvAll]
theorem spL_inj {s t : Span} (h : spL s = spL t) : s = t := by
  cases s; cases t
  simp only [spL, List.cons.injEq] at h
  obtain ⟨rfl, rfl, rfl, rfl, rfl, _⟩ := h
  rfl
theorem eqv_spD (s t : Span) : PyData.eqv (spD s) (spD t) = decide (s = t) := by
  rw [eqv_tupD, decide_eq_decide]
  exact ⟨spL_inj, fun h => by rw [h]⟩
theorem canLay_ints : ∀ ns : List Int, PyData.canLayAll0 (ns.map .int) = true
  | [] => rfl
  | n :: r => by
    rw [List.map_cons, PyData.canLayAll0, canLay_ints r]; rfl
theorem sh_tupD (a : List Int) : SeqAt.shaped (tupD a) = true := by
  unfold SeqAt.shaped
  rw [PyData.canLay0, canLay_ints, PyData.depth, depth_intsL]
  rfl
theorem sh_int (i : Int) : SeqAt.shaped (.int i) = true := rfl
section
variable {K : PySem.W.Frag} {N : Addr → Prop} {σ : L2.St} {H : Hp} {te : TE} {d : PyData} {ds : List PyData}
theorem r_eqI {i j : Int} : R2D N H (rEqD K) (.int i) (.int j) (.bool (decide (i = j))) := by
  rw [← eqv_int]; exact r_eq (sh_int i) (sh_int j)
theorem r_neI {i j : Int} : R2D N H (rNeD K) (.int i) (.int j) (.bool (!decide (i = j))) := by
  rw [← eqv_int]; exact r_ne (sh_int i) (sh_int j)
theorem r_eqT {a b : List Int} : R2D N H (rEqD K) (tupD a) (tupD b) (.bool (decide (a = b))) := by
  rw [← eqv_tupD]; exact r_eq (sh_tupD a) (sh_tupD b)
theorem r_neS {a b : Span} : R2D N H (rNeD K) (spD a) (spD b) (.bool (!decide (a = b))) := by
  rw [← eqv_spD]; exact r_ne (sh_tupD _) (sh_tupD _)
theorem rc_lenS (h : isSeqD d ds) : RCD N H (rLen K) [d] (.int ds.length) := by
  rcases h with rfl | rfl
  · exact rc_lenL
  · exact rc_lenT
theorem r_ixS {i : Int} {x : PyData} (h : isSeqD d ds) (e : atI ds i = some x) : R2D N H (rIx K) d (.int i) x := by
  rcases h with rfl | rfl
  · exact r_ixL e
  · exact r_ixT e
theorem ed_slS {tl th : TO} {lo hi : Option Int} (h : isSeqD d ds) (h0 : EvD N te σ H d) (h1 : EvO N tl σ H lo) (h2 : EvO N th σ H hi) : ∃ d', isSeqD d' (cutD ds lo hi) ∧ EvD N (tSl (rSlU K) te tl th) σ H d' := by
  rcases h with rfl | rfl
  · exact ⟨_, .inl rfl, ed_slL h0 h1 h2⟩
  · exact ⟨_, .inr rfl, ed_slT h0 h1 h2⟩
theorem ed_lsS {tl : TE} {tt : TT} {j : Nat} {vs : List Nat} (f : PyData → Bool) (g : PyData → PyData) (h : isSeqD d ds) (hl : EvD N tl σ H d) (hz : ds.length ≤ sizeLine) (hw : ∀ v, wipe (blkSt σ vs j v) vs = wipe σ vs) (ht : TurnD N tt te σ H f g vs j ds) :
    EvD N (tLc (iSeq K tl) (gName j) tt te vs) σ H (.list (keptD f g ds)) := by
  rcases h with rfl | rfl
  · exact ed_lsL f g hl hz hw ht
  · exact ed_lsT f g hl hz hw ht
theorem kept_bools (p : PyData → Bool) (xs : List PyData) : keptD (fun _ => true) (fun d => .bool (p d)) xs = (xs.map p).map .bool := by
  unfold keptD
  rw [List.filter_eq_self.mpr (fun _ _ => rfl), List.map_map]; rfl
theorem blk_get {v : V} {vs : List Nat} {j : Nat} (h : j < σ.length) : (blkSt σ vs j v)[j]? = some (some v) := by
  show ((wipe σ vs).set j (some v))[j]? = _
  rw [List.getElem?_set_self (by rw [wipe_length]; exact h)]
end
theorem kit_int : ∀ d : PyData, kitB (tyD d) "int" = some (isIntD d || match d with | .bool _ => true | _ => false)
  | .none => (by decide +kernel : kitB "NoneType" "int" = some false)
  | .bool _ => (by decide +kernel : kitB "bool" "int" = some true)
  | .int _ => (by decide +kernel : kitB "int" "int" = some true)
  | .str _ => (by decide +kernel : kitB "str" "int" = some false)
  | .list _ => (by decide +kernel : kitB "list" "int" = some false)
  | .tuple _ => (by decide +kernel : kitB "tuple" "int" = some false)
  | .dict _ => (by decide +kernel : kitB "dict" "int" = some false)
theorem kit_bool : ∀ d : PyData, kitB (tyD d) "bool" = some (match d with | .bool _ => true | _ => false)
  | .none => (by decide +kernel : kitB "NoneType" "bool" = some false)
  | .bool _ => (by decide +kernel : kitB "bool" "bool" = some true)
  | .int _ => (by decide +kernel : kitB "int" "bool" = some false)
  | .str _ => (by decide +kernel : kitB "str" "bool" = some false)
  | .list _ => (by decide +kernel : kitB "list" "bool" = some false)
  | .tuple _ => (by decide +kernel : kitB "tuple" "bool" = some false)
  | .dict _ => (by decide +kernel : kitB "dict" "bool" = some false)
theorem kit_list : ∀ d : PyData, kitB (tyD d) "list" = some (match d with | .list _ => true | _ => false)
  | .none => (by decide +kernel : kitB "NoneType" "list" = some false)
  | .bool _ => (by decide +kernel : kitB "bool" "list" = some false)
  | .int _ => (by decide +kernel : kitB "int" "list" = some false)
  | .str _ => (by decide +kernel : kitB "str" "list" = some false)
  | .list _ => (by decide +kernel : kitB "list" "list" = some true)
  | .tuple _ => (by decide +kernel : kitB "tuple" "list" = some false)
  | .dict _ => (by decide +kernel : kitB "dict" "list" = some false)
theorem kit_tuple : ∀ d : PyData, kitB (tyD d) "tuple" = some (match d with | .tuple _ => true | _ => false)
  | .none => (by decide +kernel : kitB "NoneType" "tuple" = some false)
  | .bool _ => (by decide +kernel : kitB "bool" "tuple" = some false)
  | .int _ => (by decide +kernel : kitB "int" "tuple" = some false)
  | .str _ => (by decide +kernel : kitB "str" "tuple" = some false)
  | .list _ => (by decide +kernel : kitB "list" "tuple" = some false)
  | .tuple _ => (by decide +kernel : kitB "tuple" "tuple" = some true)
  | .dict _ => (by decide +kernel : kitB "dict" "tuple" = some false)
section
variable {P : Program} {w : World} {K : PySem.W.Frag} {mg : Str → Option Value} {base : Heap} {f : Addr} {fd : FuncData}
def R1 (g : PyData → PyData) : List PyData → PyData → Prop := fun as d => ∃ a, as = [a] ∧ d = g a
abbrev RisInt := R1 fun a => .bool (isIntD a)
abbrev RisNum := R1 fun a => .bool (isNumD a)
abbrev RisSeq := R1 fun a => .bool (isSeqB a)
abbrev Rtold := R1 fun a => .bool (toldB a)
theorem ok_is_integer (F : Fun K "is_integer" "is_integer" s_is_integer f fd) (T : Gl0 mg) : FnOk P w K mg base CX0 1 f fd ["value"] (PureSp RisInt) := by
  refine F.ok sc_is_integer (pure_len fun as d ⟨a, h, _⟩ => by rw [h]; rfl) (fun cdv A outer s H vs Q E hr h => ?_)
  obtain ⟨N, as, d, n, hv0, ⟨a, rfl, rfl⟩, q⟩ := h
  obtain ⟨v, rfl, hv⟩ := one_arg hv0
  refine ⟨_, (pss_one (ps_ret (pe_and (pe_callB call_isi (by rfl) T.isinstance (by decide +kernel) (pa_cons (pv 0) (pa_cons (pe_bltn (v := .ty "int") (by rfl) T.int (by decide +kernel) rfl) pa_nil))) (pe_one (pe_not (pe_callB call_isi (by rfl) T.isinstance (by decide +kernel) (pa_cons (pv 0) (pa_cons (pe_bltn (v := .ty "bool") (by rfl) T.bool (by decide +kernel) rfl) pa_nil)))))))), ?_⟩
  refine s_ret n ((ed_andB (ed_isi (ed_var (i := 0) rfl hv) (kit_int a)) fun _ => ed_notV (ed_isi (ed_var (i := 0) rfl hv) (kit_bool a))).is ?_) q
  cases a <;> rfl
theorem ok_is_number (F : Fun K "is_number" "is_number" s_is_number f fd) (T : Gl0 mg) (G_is_integer : Has P w K mg base CX0 1 "is_integer" ["value"] (PureSp RisInt)) : FnOk P w K mg base CX0 2 f fd ["value"] (PureSp RisNum) := by
  refine F.ok sc_is_number (pure_len fun as d ⟨a, h, _⟩ => by rw [h]; rfl) (fun cdv A outer s H vs Q E hr h => ?_)
  obtain ⟨N, as, d, n, hv0, ⟨a, rfl, rfl⟩, q⟩ := h
  obtain ⟨v, rfl, hv⟩ := one_arg hv0
  refine ⟨_, (pss_one (ps_ret (pe_and (pe_callH G_is_integer hr (by rfl) pass0 (pa_cons (pv 0) pa_nil)) (pe_one (pe_cmpR op_geU (pv 0) pe_int (nomark _)))))), ?_⟩
  refine s_ret n (ed_andV (x := isIntD a) (ed_call (ea_cons (ed_var (i := 0) rfl hv) ea_nil) ⟨a, rfl, rfl⟩) (fun e => ?_) fun e => ?_) q
  · cases a with
    | int i => exact ed_op (ed_var (i := 0) rfl hv) ed_int r_ge
    | _ => cases e
  · cases a <;> first | rfl | cases e
theorem ok_is_sequence (F : Fun K "is_sequence" "is_sequence" s_is_sequence f fd) (T : Gl0 mg) : FnOk P w K mg base CX0 1 f fd ["value"] (PureSp RisSeq) := by
  refine F.ok sc_is_sequence (pure_len fun as d ⟨a, h, _⟩ => by rw [h]; rfl) (fun cdv A outer s H vs Q E hr h => ?_)
  obtain ⟨N, as, d, n, hv0, ⟨a, rfl, rfl⟩, q⟩ := h
  obtain ⟨v, rfl, hv⟩ := one_arg hv0
  refine ⟨_, (pss_one (ps_ret (pe_callB call_isiT (by rfl) T.isinstance (by decide +kernel) (pa_cons (pv 0) (pa_cons (pe_tup (pa_cons (pe_bltn (v := .ty "list") (by rfl) T.list (by decide +kernel) rfl) (pa_cons (pe_bltn (v := .ty "tuple") (by rfl) T.tuple (by decide +kernel) rfl) pa_nil))) pa_nil))))), ?_⟩
  refine s_ret n ((ed_isi2 (ed_var (i := 0) rfl hv) (kit_list a) (kit_tuple a)).is ?_) q
  cases a <;> rfl
theorem ok_is_told_span (F : Fun K "is_told_span" "is_told_span" s_is_told_span f fd) (T : Gl0 mg) (G_is_integer : Has P w K mg base CX0 1 "is_integer" ["value"] (PureSp RisInt)) (G_is_number : Has P w K mg base CX0 2 "is_number" ["value"] (PureSp RisNum)) (G_is_sequence : Has P w K mg base CX0 1 "is_sequence" ["value"] (PureSp RisSeq)) :
    FnOk P w K mg base CX0 3 f fd ["value"] (PureSp Rtold) := by
  refine F.ok sc_is_told_span (pure_len fun as d ⟨a, h, _⟩ => by rw [h]; rfl) (fun cdv A outer s H vs Q E hr h => ?_)
  obtain ⟨N, as, d, n, hv0, ⟨a, rfl, rfl⟩, q⟩ := h
  obtain ⟨v, rfl, hv⟩ := one_arg hv0
  refine ⟨_, (pss_cons (ps_if (PW.pt (pw_or (pt_not (pt_val (pe_callH G_is_sequence hr (by rfl) pass0 (pa_cons (pv 0) pa_nil)))) (pw_or (pt_cmpR (op_neD hr.units) (pe_callB cr_len1 (by rfl) T.len (by decide +kernel) (pa_cons (pv 0) pa_nil)) pe_int (nomark _)) (pw_or (pt_not (pt_val (pe_callH G_is_number hr (by rfl) pass0 (pa_cons (pe_ix ix_seq (pv 0) pe_int (fun _ _ => rfl)) pa_nil)))) (pw_or (pt_not (pt_val (pe_callH G_is_number hr (by rfl) pass0 (pa_cons (pe_ix ix_seq (pv 0) pe_int (fun _ _ => rfl)) pa_nil)))) (pw_or1 (pt_cmpR (op_eqD hr.units) (pe_ix ix_seq (pv 0) pe_int (fun _ _ => rfl)) pe_int (nomark _)))))))) (pss_one (ps_ret pe_bl)) pss_nil) (pss_one (ps_ret (pe_callB (cr_all rfl) (by rfl) T.all (by decide +kernel) (pa_cons (pe_lc (own := [("one", 1)]) (g := gName 1) (tt := tYes) rfl sc_is_told_span.nd (pi_seq (pe_slice sl_U (pv 0) (po_some pe_int) po_none)) (blkOk_by (N := ["value", "one"]) (sc := defScope s_is_told_span) (by decide +kernel)) (fun _ _ _ _ _ => pg_name (i := 1) sc_is_told_span.nd rfl (by first | exact Or.inl rfl | exact Or.inr rfl)) (fun _ _ _ _ _ => pts_nil) (fun _ _ _ _ _ => (pe_callH G_is_integer hr (by rfl) pass0 (pa_cons (pv 1) pa_nil)))) pa_nil))))), ?_⟩
  have ev : EvD N (tVar 0) (start ["value", "one"] [v]) H a := ed_var (i := 0) rfl hv
  refine s_if (x := !isSeqB a || (!decide (((itemsD a).length : Int) = 5) || (!isNumD ((itemsD a).getD 0 .none) || (!isNumD ((itemsD a).getD 1 .none) || PyData.eqv ((itemsD a).getD 1 .none) (.int 0))))) n ?_ ?_ ?_
  · refine eb_or (eb_not (eb_B (ed_call (ea_cons ev ea_nil) ⟨a, rfl, rfl⟩))) fun e1 => ?_
    have hs := isSeqD_of (by simpa using e1)
    refine eb_or (eb_test (ed_op (ed_cb (ea_cons ev ea_nil) (rc_lenS hs)) ed_int r_neI)) fun e2 => ?_
    have hl : (itemsD a).length = 5 := by
      have : ((itemsD a).length : Int) = 5 := by simpa using e2
      omega
    obtain ⟨a0, a1, a2, a3, a4, e5⟩ : ∃ a0 a1 a2 a3 a4, itemsD a = [a0, a1, a2, a3, a4] := by
      match itemsD a, hl with
      | [a0, a1, a2, a3, a4], _ => exact ⟨a0, a1, a2, a3, a4, rfl⟩
    rw [e5] at hs ⊢
    have i0 : EvD N (tOp (rIx K) (tVar 0) (tC (.int 0))) (start ["value", "one"] [v]) H a0 := ed_op ev ed_int (r_ixS hs rfl)
    have i1 : EvD N (tOp (rIx K) (tVar 0) (tC (.int 1))) (start ["value", "one"] [v]) H a1 := ed_op ev ed_int (r_ixS hs rfl)
    refine eb_or (eb_not (eb_B (ed_call (ea_cons i0 ea_nil) ⟨a0, rfl, rfl⟩))) fun e3 => ?_
    refine eb_or (eb_not (eb_B (ed_call (ea_cons i1 ea_nil) ⟨a1, rfl, rfl⟩))) fun e4 => ?_
    refine eb_test (ed_op i1 ed_int (r_eq ?_ (sh_int 0)))
    show SeqAt.shaped a1 = true
    have e4 : isNumD a1 = true := by simpa using e4
    cases a1 <;> first | exact sh_int _ | cases e4
  · intro e H1 e1
    refine s_ret (n.ex e1) (ed_bl (i := false) |>.is ?_) fun v H2 e2 hv => q v H2 (e1.trans e2) hv
    refine congrArg PyData.bool ?_
    symm
    unfold toldB
    rw [Bool.and_eq_false_iff]
    cases hs : isSeqB a with
    | false => exact .inl rfl
    | true =>
      refine .inr ?_
      rw [hs] at e
      split
      · rename_i x0 x1 x2 x3 x4 e5
        rw [e5] at e
        have e : (!isNumD x0 || (!isNumD x1 || PyData.eqv x1 (.int 0))) = true := by simpa using e
        cases h0 : isNumD x0 with
        | false => rfl
        | true =>
          cases h1 : isNumD x1 with
          | false => rfl
          | true =>
            rw [h0, h1] at e
            have e : PyData.eqv x1 (.int 0) = true := e
            rw [e]; rfl
      · rfl
  · intro e H1 e1
    have h1 : isSeqB a = true := by
      cases h : isSeqB a with
      | true => rfl
      | false => rw [h] at e; cases e
    have hs := isSeqD_of h1
    rw [h1] at e
    have hl : (itemsD a).length = 5 := by
      by_cases z : (itemsD a).length = 5
      · exact z
      · have z2 : ¬ (((itemsD a).length : Int) = 5) := by omega
        rw [decide_eq_false z2] at e
        cases e
    obtain ⟨a0, a1, a2, a3, a4, e5⟩ : ∃ a0 a1 a2 a3 a4, itemsD a = [a0, a1, a2, a3, a4] := by
      match itemsD a, hl with
      | [a0, a1, a2, a3, a4], _ => exact ⟨a0, a1, a2, a3, a4, rfl⟩
    have et : toldB a = (isIntD a2 && (isIntD a3 && isIntD a4)) := by
      unfold toldB
      rw [e5] at e ⊢
      rw [h1]
      have e : (!isNumD a0 || (!isNumD a1 || PyData.eqv a1 (.int 0))) = false := by simpa using e
      rw [Bool.or_eq_false_iff, Bool.or_eq_false_iff, Bool.not_eq_false', Bool.not_eq_false'] at e
      obtain ⟨z1, z2, z3⟩ := e
      show (true && (isNumD a0 && isNumD a1 && !PyData.eqv a1 (.int 0) && isIntD a2 && isIntD a3 && isIntD a4)) = _
      rw [z1, z2, z3]
      simp [Bool.and_assoc]
    rw [e5] at hs
    have ev1 : EvD N (tVar 0) (start ["value", "one"] [v]) H1 a := ev.le (Le.of e1)
    obtain ⟨d', hd', ed'⟩ := ed_slS (K := K) hs ev1 (eo_some ed_int) (hi := none) eo_none
    refine s_ret (n.ex e1) (ed_cb (d := .bool (toldB a)) (ea_cons ((ed_lsS (fun _ => true) (fun d => .bool (isIntD d)) hd' ed' ?_ (fun _ => rfl) ?_).is (congrArg PyData.list (kept_bools isIntD _))) ea_nil) ?_) fun v H2 e2 hv => q v H2 (e1.trans e2) hv
    · exact (by decide : 3 ≤ sizeLine)
    · intro x hx N1 H2 v1 l1 n1 hv1
      exact ⟨eb_yes, fun _ => ed_call (ea_cons (ed_var (i := 1) rfl hv1) ea_nil) ⟨x, rfl, rfl⟩⟩
    · rw [et]
      have z := rc_all (K := K) (N := N) (H := H1) (bs := ((cutD [a0, a1, a2, a3, a4] (some 2) none).map isIntD))
      have ec : ((cutD [a0, a1, a2, a3, a4] (some 2) none).map isIntD).all id = (isIntD a2 && (isIntD a3 && isIntD a4)) := by
        show ([a2, a3, a4].map isIntD).all id = _
        simp
      rw [ec] at z
      exact z
end
end K14
/-! K14Prog2 -/
set_option Elab.async false
set_option linter.all false
set_option maxRecDepth 100000
set_option maxHeartbeats 2000000
/-! The program's defs: ends, nesting, crossing, parts. -/
namespace K14
open PySem PySem.Spec PyProof.Rows L2
theorem cut_from (as : List PyData) (k : Nat) : cutD as (some (k : Int)) none = as.drop k := by
  unfold cutD
  rw [HT.sIx_nat, HT.sIx_none]
  by_cases h : k ≤ as.length
  · rw [Nat.min_eq_left h, List.take_of_length_le (by rw [List.length_drop]; exact Nat.le_refl _)]
  · rw [Nat.min_eq_right (by omega), List.drop_length, List.drop_eq_nil_of_le (by omega)]
    rw [List.take_nil]
theorem cut_to (as : List PyData) (k : Nat) : cutD as none (some (k : Int)) = as.take k := by
  unfold cutD
  rw [HT.sIx_nat, HT.sIx_none, List.drop_zero, Nat.sub_zero]
  by_cases h : k ≤ as.length
  · rw [Nat.min_eq_left h]
  · rw [Nat.min_eq_right (by omega), List.take_length, List.take_of_length_le (by omega)]
theorem drop_get {α : Type} {l : List α} {i : Nat} {a : α} (h : l[i]? = some a) : l.drop i = a :: l.drop (i + 1) := by
  obtain ⟨h1, h2⟩ := List.getElem?_eq_some_iff.mp h
  rw [List.drop_eq_getElem_cons h1, h2]
theorem map_get {α β : Type} {g : α → β} {l : List α} {i : Nat} {x : β} (h : (l.map g)[i]? = some x) : ∃ a, l[i]? = some a ∧ x = g a := by
  rw [List.getElem?_map] at h
  cases e : l[i]? with
  | none => rw [e] at h; cases h
  | some a => rw [e] at h; exact ⟨a, rfl, (Option.some.inj h).symm⟩
theorem mem_map' {α β : Type} {g : α → β} {l : List α} {x : β} (h : x ∈ l.map g) : ∃ a, a ∈ l ∧ x = g a := by
  obtain ⟨a, h1, h2⟩ := List.mem_map.mp h
  exact ⟨a, h1, h2.symm⟩
section
variable {K : PySem.W.Frag} {N : Addr → Prop} {σ : L2.St} {H : Hp} {te : TE} {s : Span}
theorem e_first (h : EvD N te σ H (spD s)) : EvD N (tOp (rIx K) te (tC (.int 0))) σ H (.int s.first) := ed_op h ed_int (r_ixT rfl)
theorem e_many (h : EvD N te σ H (spD s)) : EvD N (tOp (rIx K) te (tC (.int 1))) σ H (.int s.many) := ed_op h ed_int (r_ixT rfl)
theorem e_sum (h : EvD N te σ H (spD s)) : EvD N (tOp (rIx K) te (tC (.int 2))) σ H (.int s.sum) := ed_op h ed_int (r_ixT rfl)
theorem e_low (h : EvD N te σ H (spD s)) : EvD N (tOp (rIx K) te (tC (.int 3))) σ H (.int s.low) := ed_op h ed_int (r_ixT rfl)
theorem e_high (h : EvD N te σ H (spD s)) : EvD N (tOp (rIx K) te (tC (.int 4))) σ H (.int s.high) := ed_op h ed_int (r_ixT rfl)
theorem r_neB {a b : Bool} : R2D N H (rNeD K) (.bool a) (.bool b) (.bool (a != b)) := by
  have z := r_ne (K := K) (N := N) (H := H) (a := .bool a) (b := .bool b) rfl rfl
  have e : (!PyData.eqv (.bool a) (.bool b)) = (a != b) := by rw [PyData.eqv]; rfl
  rw [e] at z
  exact z
theorem lt_bool {tt : TT} {x : Bool} (h : EvD N te σ H (.bool x)) : EvB N (tB te) σ H x := eb_B h
/-- a list of spans, picked by a test on spans -/
theorem kept_spans (p : Span → Bool) (f : PyData → Bool) (hf : ∀ s, f (spD s) = p s) (l : List Span) : keptD f id (l.map spD) = (l.filter p).map spD := by
  unfold keptD
  rw [List.map_id, List.filter_map]
  congr 1
  exact List.filter_congr fun s _ => hf s
theorem kept_map {β : Type} (k : β → PyData) (r : Span → β) (g : PyData → PyData) (hg : ∀ s, g (spD s) = k (r s)) (l : List Span) : keptD (fun _ => true) g (l.map spD) = (l.map r).map k := by
  unfold keptD
  rw [List.filter_eq_self.mpr (fun _ _ => rfl), List.map_map, List.map_map]
  exact List.map_congr_left fun s _ => hg s
end
/-- a test on data that stands for one on spans -/
def ofD (d : PyData) : Span := match d with
  | .tuple [.int a, .int b, .int c, .int e, .int f] => ⟨a, b, c, e, f⟩
  | _ => ⟨0, 0, 0, 0, 0⟩
theorem ofD_spD (s : Span) : ofD (spD s) = s := rfl
theorem op_neDK {X : Cx} {K : PySem.W.Frag} (e : X.K = K) (hu : X.A.units + 64 < cLine) : OpR X (compareOp .NotEq) (rNeD K) := e ▸ op_neD hu
theorem cr_anyK {X : Cx} {K : PySem.W.Frag} (e : X.K = K) (hc : X.calm = true) : CallR X (.builtin "any") (rAny K) := e ▸ cr_any hc
theorem cr_allK {X : Cx} {K : PySem.W.Frag} (e : X.K = K) (hc : X.calm = true) : CallR X (.builtin "all") (rAll K) := e ▸ cr_all hc
theorem pi_seqK {X : Cx} {K : PySem.W.Frag} {tg l : Expr} {tl : TE} (e : X.K = K) (hl : PE X l tl) : PI X tg l (iSeq K tl) := e ▸ pi_seq hl
theorem op_eqDK {X : Cx} {K : PySem.W.Frag} (e : X.K = K) (hu : X.A.units + 64 < cLine) : OpR X (compareOp .Eq) (rEqD K) := e ▸ op_eqD hu
theorem op_notInK {X : Cx} {K : PySem.W.Frag} (e : X.K = K) : OpR X (compareOp .NotIn) (rIn K true) := e ▸ op_notIn_seq
theorem op_addUK {X : Cx} {K : PySem.W.Frag} (e : X.K = K) : OpR X (binaryOp .Add) (rAddU K) := e ▸ op_addU
theorem ix_seqK {X : Cx} {K : PySem.W.Frag} (e : X.K = K) : IxR X (rIx K) := e ▸ ix_seq
theorem cr_listOfK {X : Cx} {K : PySem.W.Frag} (e : X.K = K) : CallR X (.type "list") (rListOf K) := e ▸ cr_listOf
theorem cr_tupleOfK {X : Cx} {K : PySem.W.Frag} (e : X.K = K) : CallR X (.type "tuple") (rTupleOf K) := e ▸ cr_tupleOf
def firstD : Option (Span × Span) → PyData
  | some p => .tuple [spD p.1, spD p.2]
  | none => .none
section
variable {P : Program} {w : World} {K : PySem.W.Frag} {mg : Str → Option Value} {base : Heap} {f : Addr} {fd : FuncData}
def Rend : List PyData → PyData → Prop := fun as d => ∃ s, as = [spD s] ∧ d = .int (endO s)
def Rinside : List PyData → PyData → Prop := fun as d => ∃ s t, as = [spD s, spD t] ∧ d = .bool (ins s t)
def Rfirst : List PyData → PyData → Prop := fun as d => ∃ l : List Span, as = [.tuple (l.map spD)] ∧ l.length ≤ 1000 ∧ d = firstD (firstX l)
def Rparts : List PyData → PyData → Prop := fun as d => ∃ (l : List Span) (s : Span) (d0 : PyData), as = [d0, spD s] ∧ isSeqD d0 (l.map spD) ∧ l.length ≤ 1000 ∧ d = .list ((parts l s).map spD)
theorem ok_end_of (F : Fun K "end_of" "end_of" s_end_of f fd) : FnOk P w K mg base CX0 1 f fd ["span"] (PureSp Rend) := by
  refine F.ok sc_end_of (pure_len fun as d ⟨s, h, _⟩ => by rw [h]; rfl) (fun cdv A outer st H vs Q E hr h => ?_)
  obtain ⟨N, as, d, n, hv0, ⟨s, rfl, rfl⟩, q⟩ := h
  obtain ⟨v, rfl, hv⟩ := one_arg hv0
  refine ⟨_, (pss_one (ps_ret (pe_op op_addU (pe_ix ix_seq (pv 0) pe_int (fun _ _ => rfl)) (pe_ix ix_seq (pv 0) pe_int (fun _ _ => rfl))))), ?_⟩
  have ev : EvD N (tVar 0) (start ["span"] [v]) H (spD s) := ed_var (i := 0) rfl hv
  exact s_ret n (ed_op (e_first ev) (e_many ev) r_add) q
theorem ok_is_inside (F : Fun K "is_inside" "is_inside" s_is_inside f fd) (G_end_of : Has P w K mg base CX0 1 "end_of" ["span"] (PureSp Rend)) : FnOk P w K mg base CX0 2 f fd ["one", "other"] (PureSp Rinside) := by
  refine F.ok sc_is_inside (pure_len fun as d ⟨s, t, h, _⟩ => by rw [h]; rfl) (fun cdv A outer st H vs Q E hr h => ?_)
  obtain ⟨N, as, d, n, hv0, ⟨s, t, rfl, rfl⟩, q⟩ := h
  obtain ⟨v, v', rfl, hv, hv'⟩ := two_args hv0
  refine ⟨_, (pss_one (ps_ret (pe_and (pe_cmpR op_leU (pe_ix ix_seq (pv 1) pe_int (fun _ _ => rfl)) (pe_ix ix_seq (pv 0) pe_int (fun _ _ => rfl)) (nomark _)) (pe_one (pe_cmpR op_leU (pe_callH G_end_of hr (by rfl) pass0 (pa_cons (pv 0) pa_nil)) (pe_callH G_end_of hr (by rfl) pass0 (pa_cons (pv 1) pa_nil)) (nomark _)))))), ?_⟩
  have ev : EvD N (tVar 0) (start ["one", "other"] [v, v']) H (spD s) := ed_var (i := 0) rfl hv
  have ev' : EvD N (tVar 1) (start ["one", "other"] [v, v']) H (spD t) := ed_var (i := 1) rfl hv'
  exact s_ret n (ed_andB (ed_op (e_first ev') (e_first ev) r_le) fun _ => ed_op (ed_call (ea_cons ev ea_nil) ⟨s, rfl, rfl⟩) (ed_call (ea_cons ev' ea_nil) ⟨t, rfl, rfl⟩) r_le) q
theorem ok_first_crossed (F : Fun K "first_crossed" "first_crossed" s_first_crossed f fd) (T : Gl0 mg) (G_end_of : Has P w K mg base CX0 1 "end_of" ["span"] (PureSp Rend)) (G_is_inside : Has P w K mg base CX0 2 "is_inside" ["one", "other"] (PureSp Rinside)) : FnOk P w K mg base CX0 3 f fd ["spans"] (PureSp Rfirst) := by
  refine F.ok sc_first_crossed (pure_len fun as d ⟨s, h, _⟩ => by rw [h]; rfl) (fun cdv A outer st H vs Q E hr h => ?_)
  obtain ⟨N, as, d, n, hv0, ⟨l, rfl, hl, rfl⟩, q⟩ := h
  obtain ⟨v, rfl, hv⟩ := one_arg hv0
  refine ⟨_, (pss_cons (ps_for PassesOwn.never rfl (pi_enumT (by rfl) T.enumerate (pv 0)) (pg_tup rfl (pgs_cons (pg_name (i := 1) sc_first_crossed.nd rfl (by first | exact Or.inl rfl | exact Or.inr rfl)) (pgs_cons (pg_name (i := 2) sc_first_crossed.nd rfl (by first | exact Or.inl rfl | exact Or.inr rfl)) pgs_nil))) (pss_one (ps_for PassesOwn.never rfl (pi_seq (pe_slice sl_U (pv 0) (po_some (pe_op op_addU (pv 1) pe_int)) po_none)) (pg_name (i := 3) sc_first_crossed.nd rfl (by first | exact Or.inl rfl | exact Or.inr rfl)) (pss_cons (ps_set (i := 4) sc_first_crossed.nd rfl (Or.inl rfl) (pe_or (pe_cmpR op_leU (pe_callH G_end_of hr (by rfl) pass0 (pa_cons (pv 2) pa_nil)) (pe_ix ix_seq (pv 3) pe_int (fun _ _ => rfl)) (nomark _)) (pe_one (pe_cmpR op_leU (pe_callH G_end_of hr (by rfl) pass0 (pa_cons (pv 3) pa_nil)) (pe_ix ix_seq (pv 2) pe_int (fun _ _ => rfl)) (nomark _))))) (pss_cons (ps_set (i := 5) sc_first_crossed.nd rfl (Or.inl rfl) (pe_cmpR (op_neD hr.units) (pe_callH G_is_inside hr (by rfl) pass0 (pa_cons (pv 2) (pa_cons (pv 3) pa_nil))) (pe_callH G_is_inside hr (by rfl) pass0 (pa_cons (pv 3) (pa_cons (pv 2) pa_nil))) (nomark _))) (pss_one (ps_if (PW.pt (pw_and (pt_not (pt_val (pv 4))) (pw_and1 (pt_not (pt_val (pv 5)))))) (pss_one (ps_ret (pe_tup (pa_cons (pv 2) (pa_cons (pv 3) pa_nil))))) pss_nil))))))) (pss_one (ps_ret pe_non))), ?_⟩
  refine s_forE (fun H0 i σ1 H1 => Ex H0 H1 ∧ ∃ x1 x2 x3 x4 x5, σ1 = [some v, x1, x2, x3, x4, x5] ∧ firstX l = firstX (l.drop i)) (ed_var (i := 0) rfl hv) n (fun H1 e => ⟨Ex.rfl', _, _, _, _, _, rfl, rfl⟩) (fun H0 e0 i σ1 H1 h => .of h.1) (fun H0 e0 i σ1 H1 H2 h e => ⟨h.1.trans e, h.2⟩) (fun H0 e0 i x vx σ1 H1 hx hP hvx => ?_) fun H0 e0 σ1 H1 hP => ?_
  · obtain ⟨e1, x1, x2, x3, x4, x5, rfl, hf⟩ := hP
    obtain ⟨a, ha, rfl⟩ := map_get hx
    rw [drop_get ha] at hf
    have n1 := (n.ex e0).ex e1
    have hv1 := (hv.ex e0).ex e1
    refine s_forS (d := .tuple ((l.drop (i + 1)).map spD)) (fun H0' j σ2 H2 => Ex H0' H2 ∧ ∃ x3 x4 x5, σ2 = [some v, some (.int i), some vx, x3, x4, x5] ∧ (l.drop (i + 1)).find? (crossB a) = ((l.drop (i + 1)).drop j).find? (crossB a))
      ?_ (.inr rfl) n1 (fun H2 e2 => ⟨Ex.rfl', _, _, _, rfl, rfl⟩) (fun H0' e0' j σ2 H2 h => .of h.1) (fun H0' e0' j y vy σ2 H2 hy hP hvy => ?_) fun H0' e0' σ2 H2 hP => ?_
    · refine (ed_slT (ed_var (i := 0) rfl hv1) (eo_some (i := ((i + 1 : Nat) : Int)) (ed_op (ed_var (i := 1) rfl (.int _)) ed_int r_add)) eo_none).is ?_
      rw [cut_from, List.map_drop]
    · obtain ⟨e2, y3, y4, y5, rfl, hfi⟩ := hP
      obtain ⟨b, hb, rfl⟩ := map_get hy
      rw [drop_get hb, List.find?_cons] at hfi
      have n2 := (n1.ex e0').ex e2
      have h1 : DN N H2 vx (spD a) := (hvx.ex e0').ex e2
      have o1 : ∀ {y4 y5 : Option V}, EvD N (tVar 2) [some v, some (.int i), some vx, some vy, y4, y5] H2 (spD a) := ed_var (i := 2) rfl h1
      have o2 : ∀ {y4 y5 : Option V}, EvD N (tVar 3) [some v, some (.int i), some vx, some vy, y4, y5] H2 (spD b) := ed_var (i := 3) rfl hvy
      refine s_set n2 (d := .bool (isApart a b)) (ed_orB (ed_op (ed_call (ea_cons o1 ea_nil) ⟨a, rfl, rfl⟩) (e_first o2) r_le) fun _ => ed_op (ed_call (ea_cons o2 ea_nil) ⟨b, rfl, rfl⟩) (e_first o1) r_le) fun w4 H3 e3 hw4 => ?_
      refine s_set (n2.ex e3) (d := .bool (ins a b != ins b a)) (ed_op (ed_call (ea_cons (o1.le (Le.of e3)) (ea_cons (o2.le (Le.of e3)) ea_nil)) ⟨a, b, rfl, rfl⟩) (ed_call (ea_cons (o2.le (Le.of e3)) (ea_cons (o1.le (Le.of e3)) ea_nil)) ⟨b, a, rfl, rfl⟩) r_neB) fun w5 H4 e4 hw5 => ?_
      have e34 := e3.trans e4
      refine s_ifL (x := crossB a b) ((n2.ex e3).ex e4) (eb_and (eb_not (eb_B (ed_var (i := 4) rfl (hw4.ex e4)))) fun _ => eb_not (eb_B (ed_var (i := 5) rfl hw5))) (fun ex H5 e5 => ?_) fun ex H5 e5 => ?_
      · have e25 := e34.trans e5
        refine s_ret ((((n2.ex e3).ex e4)).ex e5) (ed_tup (ea_cons (o1.le (Le.of e25)) (ea_cons (o2.le (Le.of e25)) ea_nil)) (by show 2 ≤ sizeLine; decide)) fun u H6 e6 hu => ?_
        have ef : firstX l = some (a, b) := by
          rw [hf]
          show (match (l.drop (i + 1)).find? (crossB a) with
            | some b => some (a, b)
            | none => firstX (l.drop (i + 1))) = _
          rw [hfi, ex]
        rw [ef] at q
        exact q u H6 (((((e0.trans e1).trans e0').trans e2).trans e25).trans e6) hu
      · refine ⟨(e2.trans e34).trans e5, _, _, _, rfl, ?_⟩
        rw [hfi, ex]
    · obtain ⟨e2, y3, y4, y5, rfl, hfi⟩ := hP
      rw [List.length_map, List.drop_length] at hfi
      refine ⟨(e1.trans e0').trans e2, _, _, _, _, _, rfl, ?_⟩
      rw [hf]
      show (match (l.drop (i + 1)).find? (crossB a) with
        | some b => some (a, b)
        | none => firstX (l.drop (i + 1))) = _
      rw [hfi]; rfl
  · obtain ⟨e1, x1, x2, x3, x4, x5, rfl, hf⟩ := hP
    rw [List.length_map, List.drop_length] at hf
    dsimp only
    refine s_ret ((n.ex e0).ex e1) ed_non fun u H2 e2 hu => ?_
    rw [hf] at q
    exact q u H2 ((e0.trans e1).trans e2) hu
theorem ok_parts_of (F : Fun K "parts_of" "parts_of" s_parts_of f fd) (T : Gl0 mg) (G_is_inside : Has P w K mg base CX0 2 "is_inside" ["one", "other"] (PureSp Rinside)) : FnOk P w K mg base CX0 3 f fd ["spans", "span"] (PureSp Rparts) := by
  refine F.ok sc_parts_of (pure_len fun as d ⟨l, s, d0, h, _⟩ => by rw [h]; rfl) (fun cdv A outer st H vs Q E hr h => ?_)
  obtain ⟨N, as, d, n, hv0, ⟨l, s, d0, rfl, hd0, hl, rfl⟩, q⟩ := h
  obtain ⟨v, v', rfl, hv, hv'⟩ := two_args hv0
  refine ⟨_, (pss_cons (ps_set (i := 2) sc_parts_of.nd rfl (Or.inr rfl) (pe_lc (own := [("one", 3)]) (g := gName 3) rfl sc_parts_of.nd (pi_seq (pv 0)) (blkOk_by (N := ["spans", "span", "inside", "one", "other"]) (sc := defScope s_parts_of) (by decide +kernel)) (fun _ _ _ _ _ => pg_name (i := 3) sc_parts_of.nd rfl (by first | exact Or.inl rfl | exact Or.inr rfl)) (fun _ _ _ _ _ => pts_one (PW.pt (pw_and (pt_cmpR (op_neDK (K := K) rfl hr.units) (pv 3) (pv 1) (nomark _)) (pw_and1 (pt_val (pe_callH G_is_inside hr (by rfl) pass0 (pa_cons (pv 3) (pa_cons (pv 1) pa_nil)))))))) (fun _ _ _ _ _ => (pv 3)))) (pss_one (ps_ret (pe_lc (own := [("one", 3)]) (g := gName 3) rfl sc_parts_of.nd (pi_seq (pv 2)) (blkOk_by (N := ["spans", "span", "inside", "one", "other"]) (sc := defScope s_parts_of) (by decide +kernel)) (fun _ _ _ _ _ => pg_name (i := 3) sc_parts_of.nd rfl (by first | exact Or.inl rfl | exact Or.inr rfl)) (fun _ _ _ _ _ => pts_one (pt_not (pt_val (pe_callB (cr_anyK (K := K) rfl rfl) (by rfl) T.any (by decide +kernel) (pa_cons (pe_lc (own := [("other", 4)]) (g := gName 4) (tt := tYes) rfl sc_parts_of.nd (pi_seqK (K := K) rfl (pv 2)) (blkOk_by (N := ["spans", "span", "inside", "one", "other"]) (sc := relS _ (defScope s_parts_of)) (by decide +kernel)) (fun _ _ _ _ _ => pg_name (i := 4) sc_parts_of.nd rfl (by first | exact Or.inl rfl | exact Or.inr rfl)) (fun _ _ _ _ _ => pts_nil) (fun _ _ _ _ _ => (pe_and (pe_cmpR (op_neDK (K := K) rfl hr.units) (pv 4) (pv 3) (nomark _)) (pe_one (pe_callH G_is_inside hr (by rfl) pass0 (pa_cons (pv 3) (pa_cons (pv 4) pa_nil))))))) pa_nil))))) (fun _ _ _ _ _ => (pv 3)))))), ?_⟩
  have hz : l.length ≤ sizeLine := by rw [sizeLine_eq]; omega
  refine s_set n (d := .list ((inside l s).map spD)) ((ed_lsS (fun d => decide (ofD d ≠ s) && ins (ofD d) s) id hd0 (ed_var (i := 0) rfl hv) (by rw [List.length_map]; exact hz) (fun _ => rfl) ?_).is (congrArg PyData.list (kept_spans _ _ (fun s => rfl) l))) fun v2 H1 e1 hv2 => ?_
  · intro x hx N1 H1 v1 l1 n1 hv1
    obtain ⟨a, ha, rfl⟩ := mem_map' hx
    have o1 : EvD N1 (tVar 3) (blkSt (start ["spans", "span", "inside", "one", "other"] [v, v']) [3] 3 v1) H1 (spD a) := ed_var (i := 3) rfl hv1
    have o2 : EvD N1 (tVar 1) (blkSt (start ["spans", "span", "inside", "one", "other"] [v, v']) [3] 3 v1) H1 (spD s) := ed_var (i := 1) rfl (hv'.le l1)
    refine ⟨?_, fun _ => o1⟩
    refine (eb_and (eb_test (ed_op o1 o2 r_neS)) fun _ => eb_B (ed_call (ea_cons o1 (ea_cons o2 ea_nil)) ⟨a, s, rfl, rfl⟩)).is ?_
    show (!decide (a = s) && ins a s) = (decide (a ≠ s) && ins a s)
    rw [decide_not]
  · have hz2 : (inside l s).length ≤ sizeLine := Nat.le_trans (List.length_filter_le _ _) hz
    refine s_ret (n.ex e1) ((ed_lsL (fun d => !((inside l s).any fun t => decide (t ≠ ofD d) && ins (ofD d) t)) id (ed_var (i := 2) rfl hv2) (by rw [List.length_map]; exact hz2) (fun _ => rfl) ?_).is (congrArg PyData.list (kept_spans _ _ (fun s => rfl) _))) fun v3 H2 e2 hv3 => q v3 H2 (e1.trans e2) hv3
    intro x hx N1 H2 v1 l1 n1 hv1
    obtain ⟨a, ha, rfl⟩ := mem_map' hx
    refine ⟨?_, fun _ => ed_var (i := 3) rfl hv1⟩
    refine (eb_not (eb_B (ed_cb (ea_cons ((ed_lsL (fun _ => true) (fun d => .bool (decide (ofD d ≠ a) && ins a (ofD d))) (ed_var (i := 2) rfl (hv2.le l1)) (by rw [List.length_map]; exact hz2) (fun _ => rfl) ?_).is (congrArg PyData.list (kept_map PyData.bool (fun t => decide (t ≠ a) && ins a t) _ (fun t => rfl) (inside l s)))) ea_nil) rc_any))).is ?_
    · intro y hy N3 H3 v4 l3 n3 hv4
      obtain ⟨b, hb, rfl⟩ := mem_map' hy
      refine ⟨eb_yes, fun _ => ?_⟩
      have o1 : EvD N3 (tVar 3) (blkSt (blkSt [some v, some v', some v2, none, none] [3] 3 v1) [4] 4 v4) H3 (spD a) := ed_var (i := 3) rfl (hv1.le l3)
      have o2 : EvD N3 (tVar 4) (blkSt (blkSt [some v, some v', some v2, none, none] [3] 3 v1) [4] 4 v4) H3 (spD b) := ed_var (i := 4) rfl hv4
      refine (ed_andB (ed_op o2 o1 r_neS) fun _ => ed_call (ea_cons o1 (ea_cons o2 ea_nil)) ⟨a, b, rfl, rfl⟩).is ?_
      show PyData.bool (!decide (b = a) && ins a b) = PyData.bool (decide (b ≠ a) && ins a b)
      rw [decide_not]
    · show _ = !(inside l s).any fun t => decide (t ≠ a) && ins a t
      rw [List.any_map]; rfl
end
end K14
/-! K14Line -/
set_option Elab.async false
set_option linter.all false
set_option maxRecDepth 100000
set_option maxHeartbeats 2000000
/-! The told spans in order, each once. -/
namespace K14
open PySem PySem.Spec PyProof.Rows L2

abbrev spLe : Span → Span → Bool := PySem.W.dataLe false spD
theorem toks_inj {s t : Span} (h : PySem.W.keyToks (spD s) = PySem.W.keyToks (spD t)) : s = t := by
  obtain ⟨a, b, c, d, e⟩ := s
  obtain ⟨a', b', c', d', e'⟩ := t
  have z : ([.inl 1, .inl a, .inl 1, .inl b, .inl 1, .inl c, .inl 1, .inl d, .inl 1, .inl e, .inl 0] : List (Int ⊕ List Nat)) = [.inl 1, .inl a', .inl 1, .inl b', .inl 1, .inl c', .inl 1, .inl d', .inl 1, .inl e', .inl 0] := h
  simp only [List.cons.injEq, Sum.inl.injEq, true_and, and_true] at z
  obtain ⟨rfl, rfl, rfl, rfl, rfl⟩ := z
  rfl
theorem spLe_total : PySem.W.TotalLe spLe := PySem.W.sortLe_total (listOrd itemOrd) false fun b => PySem.W.keyToks (spD b)
theorem spLe_anti {a b : Span} (h1 : spLe a b = true) (h2 : spLe b a = true) : a = b := by
  refine toks_inj ((listOrd itemOrd).total _ _ ?_ ?_)
  · have z : (!(listOrd itemOrd).blt (PySem.W.keyToks (spD a)) (PySem.W.keyToks (spD b))) = true := h2
    simpa using z
  · have z : (!(listOrd itemOrd).blt (PySem.W.keyToks (spD b)) (PySem.W.keyToks (spD a))) = true := h1
    simpa using z
theorem rank_eq {c x : Span} : PySem.W.sameRank spLe c x = decide (x = c) := by
  rw [Bool.eq_iff_iff, decide_eq_true_eq]
  constructor
  · intro h
    have h := (Bool.and_eq_true_iff.mp h)
    exact spLe_anti h.2 h.1
  · rintro rfl
    exact PySem.W.sameRank_self spLe_total _

def addS (acc : List Span) (s : Span) : List Span := if s ∈ acc then acc else acc ++ [s]
theorem dedupS_eq (l : List Span) : dedupS l = l.foldl addS [] := rfl
theorem dedup_gen (l : List Span) : ∀ acc : List Span, acc.Nodup → (l.foldl addS acc).Nodup ∧ ∀ x, x ∈ l.foldl addS acc ↔ x ∈ acc ∨ x ∈ l := by
  induction l with
  | nil => intro acc h; exact ⟨h, fun x => by simp⟩
  | cons s r ih =>
    intro acc h
    have nd : (addS acc s).Nodup := by
      unfold addS
      split
      · exact h
      · rename_i hn
        rw [List.nodup_append]
        exact ⟨h, by simp, fun a ha b hb => by rw [List.mem_singleton.mp hb]; exact fun z => hn (z ▸ ha)⟩
    obtain ⟨h1, h2⟩ := ih (addS acc s) nd
    refine ⟨h1, fun x => ?_⟩
    rw [List.foldl_cons, h2 x]
    have : x ∈ addS acc s ↔ x ∈ acc ∨ x = s := by
      unfold addS
      split
      · rename_i hs
        exact ⟨.inl, fun z => z.elim id fun z => z ▸ hs⟩
      · rw [List.mem_append, List.mem_singleton]
    rw [this, List.mem_cons]
    exact ⟨fun h => h.elim (fun h => h.elim .inl fun h => .inr (.inl h)) fun h => .inr (.inr h), fun h => h.elim (fun h => .inl (.inl h)) fun h => h.elim (fun h => .inl (.inr h)) .inr⟩
theorem nodup_dedupS (l : List Span) : (dedupS l).Nodup := (dedup_gen l [] List.nodup_nil).1
theorem mem_dedupS {l : List Span} {x : Span} : x ∈ dedupS l ↔ x ∈ l := by
  rw [dedupS_eq, (dedup_gen l [] List.nodup_nil).2 x]
  simp
theorem dedupS_of_nodup {l : List Span} (h : l.Nodup) : dedupS l = l := by
  have gen : ∀ (l acc : List Span), (acc ++ l).Nodup → l.foldl addS acc = acc ++ l := by
    intro l
    induction l with
    | nil => intro acc _; simp
    | cons s r ih =>
      intro acc h
      have hn : s ∉ acc := by
        rw [List.nodup_append] at h
        intro z
        exact h.2.2 s z s List.mem_cons_self rfl
      rw [List.foldl_cons]
      have e : addS acc s = acc ++ [s] := by unfold addS; rw [if_neg hn]
      rw [e, ih (acc ++ [s]) (by rw [List.append_assoc]; exact h), List.append_assoc]
      rfl
  exact gen l [] h
theorem dedup_map (l : List Span) : dedupK (l.map spL) = (dedupS l).map spL := by
  have gen : ∀ (l acc : List Span), (l.map spL).foldl addK (acc.map spL) = (l.foldl addS acc).map spL := by
    intro l
    induction l with
    | nil => intro acc; rfl
    | cons s r ih =>
      intro acc
      rw [List.map_cons, List.foldl_cons, List.foldl_cons]
      have e : addK (acc.map spL) (spL s) = (addS acc s).map spL := by
        unfold addK addS
        by_cases h : s ∈ acc
        · rw [if_pos h, if_pos (List.mem_map.mpr ⟨s, h, rfl⟩)]
        · rw [if_neg h, if_neg (fun z => ?_), List.map_append]
          · rfl
          · obtain ⟨t, ht, e⟩ := List.mem_map.mp z
            exact h (spL_inj e ▸ ht)
      rw [e, ih]
  exact gen l []
theorem lineOf_eq (l : List Span) : lineOf l = (dedupS l).mergeSort spLe := rfl
theorem lineOf_perm (l : List Span) : (lineOf l).Perm (dedupS l) := List.mergeSort_perm _ _
theorem mem_lineOf {l : List Span} {x : Span} : x ∈ lineOf l ↔ x ∈ l := by rw [(lineOf_perm l).mem_iff, mem_dedupS]
theorem nodup_lineOf (l : List Span) : (lineOf l).Nodup := (lineOf_perm l).nodup_iff.mpr (nodup_dedupS l)
theorem length_dedupS (l : List Span) : (dedupS l).length ≤ l.length := by
  have gen : ∀ (l acc : List Span), (l.foldl addS acc).length ≤ acc.length + l.length := by
    intro l
    induction l with
    | nil => intro acc; exact Nat.le_refl _
    | cons s r ih =>
      intro acc
      have h1 := ih (addS acc s)
      have h2 : (addS acc s).length ≤ acc.length + 1 := by
        unfold addS
        split
        · omega
        · rw [List.length_append]; exact Nat.le_refl _
      rw [List.foldl_cons, List.length_cons]
      omega
  have := gen l []
  rw [List.length_nil, Nat.zero_add] at this
  exact this
theorem length_lineOf (l : List Span) : (lineOf l).length ≤ l.length := by
  rw [(lineOf_perm l).length_eq]
  exact length_dedupS l
theorem lineOf_pair (l : List Span) : (lineOf l).Pairwise fun a b => spLe a b = true := PySem.W.sort_pairwise spLe_total _
theorem filter_eq_of {l : List Span} (h : l.Nodup) (c : Span) : l.filter (fun x => decide (x = c)) = if c ∈ l then [c] else [] := by
  induction l with
  | nil => rfl
  | cons a r ih =>
    rw [List.nodup_cons] at h
    by_cases e : a = c
    · subst e
      rw [List.filter_cons_of_pos (by simp), ih h.2, if_neg h.1, if_pos List.mem_cons_self]
    · rw [List.filter_cons_of_neg (by simpa using e), ih h.2]
      by_cases m : c ∈ r
      · rw [if_pos m, if_pos (List.mem_cons_of_mem _ m)]
      · rw [if_neg m, if_neg (fun z => (List.mem_cons.mp z).elim (fun z => e z.symm) m)]
/-- in order, each once: told by its members -/
theorem line_ext {l m : List Span} (h1 : l.Pairwise fun a b => spLe a b = true) (h2 : m.Pairwise fun a b => spLe a b = true) (n1 : l.Nodup) (n2 : m.Nodup) (h : ∀ x, x ∈ l ↔ x ∈ m) : l = m := by
  refine PySem.W.sort_one spLe_total l m h1 h2 fun c => ?_
  have e : (PySem.W.sameRank spLe c) = fun x => decide (x = c) := funext fun x => rank_eq
  rw [e, filter_eq_of n1, filter_eq_of n2]
  by_cases z : c ∈ l
  · rw [if_pos z, if_pos ((h c).mp z)]
  · rw [if_neg z, if_neg fun q => z ((h c).mpr q)]
theorem lineOf_congr {l m : List Span} (h : ∀ x, x ∈ l ↔ x ∈ m) : lineOf l = lineOf m :=
  line_ext (lineOf_pair l) (lineOf_pair m) (nodup_lineOf l) (nodup_lineOf m) fun x => by rw [mem_lineOf, mem_lineOf]; exact h x
theorem lineOf_idem (l : List Span) : lineOf (lineOf l) = lineOf l := lineOf_congr fun x => mem_lineOf
theorem sorted_data (l : List Span) : ((dedupK (l.map spL)).map tupD).mergeSort (PySem.W.dataLe false id) = (lineOf l).map spD := by
  rw [dedup_map, List.map_map, lineOf_eq]
  exact (PySem.W.sort_maps (r := spLe) (s := PySem.W.dataLe false id) spD fun a _ b _ => rfl).symm
theorem alike_ints5 (s t : Span) : PySem.W.alike (spD s) (spD t) = true := by
  obtain ⟨a, b, c, d, e⟩ := s
  obtain ⟨a', b', c', d', e'⟩ := t
  simp [spL, PySem.W.alike, PySem.W.alikeAll]
theorem spans_alike (l : List (List Int)) (h : ∀ k ∈ l, ∃ s, k = spL s) : PySem.W.AllAlike (l.map tupD) := fun d hd d' hd' => by
  obtain ⟨k, hk, rfl⟩ := List.mem_map.mp hd
  obtain ⟨k', hk', rfl⟩ := List.mem_map.mp hd'
  obtain ⟨s, rfl⟩ := h k hk
  obtain ⟨t, rfl⟩ := h k' hk'
  exact alike_ints5 s t
theorem spans_sortable (l : List (List Int)) (h : ∀ k ∈ l, ∃ s, k = spL s) : PySem.W.Sortable (l.map tupD) := .inl fun d hd => by
  obtain ⟨k, hk, rfl⟩ := List.mem_map.mp hd
  obtain ⟨s, rfl⟩ := h k hk
  exact ⟨_, _, rfl⟩
theorem tup_depth (l : List (List Int)) : ∀ d ∈ l.map tupD, d.depth ≤ 8 := fun d hd => by
  obtain ⟨k, hk, rfl⟩ := List.mem_map.mp hd
  rw [PyData.depth, depth_intsL]
  omega
theorem dedup_spL (l : List Span) : ∀ k ∈ dedupK (l.map spL), ∃ s, k = spL s := fun k hk => by
  rw [dedup_map] at hk
  obtain ⟨s, _, rfl⟩ := List.mem_map.mp hk
  exact ⟨s, rfl⟩
end K14
/-! K14Prog3 -/
set_option Elab.async false
set_option linter.all false
set_option maxRecDepth 100000
set_option maxHeartbeats 2000000
/-! The program's defs: told spans checked, the rest, sums, fit, the quarrel. -/
namespace K14
open PySem PySem.Spec PyProof.Rows L2
structure Good (s : Span) : Prop where
  f0 : 0 ≤ s.first
  f1 : s.first ≤ 1000
  m0 : 1 ≤ s.many
  m1 : s.many ≤ 1000
/-- what is handed in: a list or tuple of lists or tuples -/
structure Told (d : PyData) (ss : List Span) : Prop where
  ex : ∃ ds, isSeqD d ds ∧ Paired (fun d s => isSeqD d ((spL s).map .int)) ds ss
  good : ∀ s ∈ ss, Good s
  len : ss.length ≤ 1000
theorem paired_self : ∀ l : List Span, Paired (fun d s => isSeqD d ((spL s).map .int)) (l.map spD) l
  | [] => .nil
  | s :: r => .cons (.inr rfl) (paired_self r)
theorem paired_map {α β γ : Type} {F : α → β → Prop} {G : α → γ → Prop} {g : β → γ} (h : ∀ a b, F a b → G a (g b)) : ∀ {l : List α} {m : List β}, Paired F l m → Paired G l (m.map g)
  | _, _, .nil => .nil
  | _, _, .cons a t => .cons (h _ _ a) (paired_map h t)
theorem paired_len {α β : Type} {F : α → β → Prop} : ∀ {l : List α} {m : List β}, Paired F l m → l.length = m.length
  | _, _, .nil => rfl
  | _, _, .cons _ t => by rw [List.length_cons, List.length_cons, paired_len t]
theorem paired_mem {α β : Type} {F : α → β → Prop} {x : α} : ∀ {l : List α} {m : List β}, Paired F l m → x ∈ l → ∃ y ∈ m, F x y
  | _, _, .nil, h => by simp at h
  | _, _, .cons a t, h => by
    rcases List.mem_cons.mp h with rfl | h
    · exact ⟨_, List.mem_cons_self, a⟩
    · obtain ⟨y, h1, h2⟩ := paired_mem t h
      exact ⟨y, List.mem_cons_of_mem _ h1, h2⟩
theorem Told.of {l : List Span} (g : ∀ s ∈ l, Good s) (h : l.length ≤ 1000) {d : PyData} (hd : isSeqD d (l.map spD)) : Told d l := ⟨⟨_, hd, paired_self l⟩, g, h⟩
theorem told_of {d : PyData} {s : Span} (h : isSeqD d ((spL s).map .int)) (g : Good s) : toldB d = true := by
  have e : isSeqB d = true ∧ itemsD d = (spL s).map .int := by
    rcases h with rfl | rfl <;> exact ⟨rfl, rfl⟩
  unfold toldB
  rw [e.1, e.2]
  have h1 := g.f0
  have h2 := g.m0
  show (true && (decide (0 ≤ s.first) && decide (0 ≤ s.many) && !PyData.eqv (.int s.many) (.int 0) && true && true && true)) = true
  rw [eqv_int, decide_eq_true h1, decide_eq_true (show 0 ≤ s.many by omega), decide_eq_false (show ¬ s.many = 0 by omega)]
  rfl
/-- the rest as the program tells it -/
def restD (l : List Span) (s : Span) : PyData := .tuple [.tuple ((restRows l s).map .int), .int (restSum l s), .bool (needsLow l s), .bool (needsHigh l s)]
def sumD : Option (Int × Int) → PyData
  | some p => .tuple [.int p.1, .int p.2]
  | none => .none
theorem mem_rest {l : List Span} {s : Span} {x : Int} : decide (x ∈ dedupI (rowsOf ((parts l s).map fun p => (p.first, endO p)))) = ((parts l s).any fun p => decide (p.first ≤ x) && decide (x < endO p)) := by
  rw [Bool.eq_iff_iff, decide_eq_true_eq, mem_dedupI, mem_rowsOf, List.any_eq_true]
  constructor
  · rintro ⟨b, hb, h⟩
    obtain ⟨p, hp, rfl⟩ := List.mem_map.mp hb
    exact ⟨p, hp, by rw [decide_eq_true h.1, decide_eq_true h.2]; rfl⟩
  · rintro ⟨p, hp, h⟩
    rw [Bool.and_eq_true, decide_eq_true_eq, decide_eq_true_eq] at h
    exact ⟨_, List.mem_map.mpr ⟨p, hp, rfl⟩, h⟩
def intOf : PyData → Int
  | .int i => i
  | _ => 0
theorem kept_ints (f : PyData → Bool) (p : Int → Bool) (h : ∀ x, f (.int x) = p x) (l : List Int) : keptD f id (l.map .int) = (l.filter p).map .int := by
  unfold keptD
  rw [List.map_id, List.filter_map]
  congr 1
  exact List.filter_congr fun x _ => h x
theorem NOk.dK {N : Addr → Prop} {H : Hp} (n : NOk N H) {p : Addr} {kvs : List (Key × V)} (h : H p = some (.dK kvs)) : ¬ N p := fun z => by
  obtain ⟨ys, q⟩ := n p z
  rw [h] at q
  cases q
theorem rows_small : ∀ {l : List (Int × Int)} {k : Nat}, l.length ≤ k → (∀ b ∈ l, b.2 - b.1 ≤ 1000) → (rowsOf l).length ≤ k * 1000
  | [], k, _, _ => Nat.zero_le _
  | b :: r, 0, h, _ => by simp at h
  | b :: r, k + 1, h, hb => by
    have e : rowsOf (b :: r) = upTo b.1 (b.2 - b.1).toNat ++ rowsOf r := by
      unfold rowsOf
      rw [List.map_cons, List.flatten_cons]
    have h1 := hb b List.mem_cons_self
    have h2 := rows_small (l := r) (k := k) (by rw [List.length_cons] at h; omega) fun b' hb' => hb b' (List.mem_cons_of_mem _ hb')
    rw [e, List.length_append, upTo_len]
    omega
theorem parts_mem {l : List Span} {s p : Span} (h : p ∈ parts l s) : p ∈ l := (List.mem_filter.mp (List.mem_filter.mp h).1).1
theorem parts_len (l : List Span) (s : Span) : (parts l s).length ≤ l.length := Nat.le_trans (List.length_filter_le _ _) (List.length_filter_le _ _)
theorem cons_args {N : Addr → Prop} {H : Hp} {vs : List V} {a : PyData} {as : List PyData} (h : DNs N H vs (a :: as)) : ∃ v vs', vs = v :: vs' ∧ DN N H v a ∧ DNs N H vs' as := by
  cases h with
  | cons h t => exact ⟨_, _, rfl, h, t⟩
theorem five_args {N : Addr → Prop} {H : Hp} {vs : List V} {a b c d e : PyData} (h : DNs N H vs [a, b, c, d, e]) : ∃ v1 v2 v3 v4 v5, vs = [v1, v2, v3, v4, v5] ∧ DN N H v1 a ∧ DN N H v2 b ∧ DN N H v3 c ∧ DN N H v4 d ∧ DN N H v5 e := by
  obtain ⟨v1, _, rfl, h1, h⟩ := cons_args h
  obtain ⟨v2, _, rfl, h2, h⟩ := cons_args h
  obtain ⟨v3, _, rfl, h3, h⟩ := cons_args h
  obtain ⟨v4, v5, rfl, h4, h5⟩ := two_args h
  exact ⟨_, _, _, _, _, rfl, h1, h2, h3, h4, h5⟩
section
variable {K : PySem.W.Frag} {N : Addr → Prop} {σ : L2.St} {H : Hp} {te : TE}
/-- test: a op b op c op d -/
theorem eb_chain3 {r1 r2 r3 : R2} {ta tb tc td : TE} {a b c d : PyData} {x y z : Bool} (ha : EvD N ta σ H a) (hb : EvD N tb σ H b) (hc : EvD N tc σ H c) (hd : EvD N td σ H d) (h1 : R2D N H r1 a b (.bool x)) (h2 : R2D N H r2 b c (.bool y)) (h3 : R2D N H r3 c d (.bool z)) :
    EvB N (tChain3 r1 r2 r3 ta tb tc td) σ H (x && (y && z)) := fun N1 H1 l n Q q =>
  ha N1 H1 l n _ fun v1 H2 e2 d1 => hb N1 H2 (l.ex e2) (n.ex e2) _ fun v2 H3 e3 d2 => h1 N1 H3 ((l.ex e2).ex e3) ((n.ex e2).ex e3) v1 v2 (d1.ex e3) d2 _ fun v3 H4 e4 d3 => ⟨x, d3.bl_inv, by
    have l4 := ((l.ex e2).ex e3).ex e4
    have n4 := ((n.ex e2).ex e3).ex e4
    have e24 := (e2.trans e3).trans e4
    cases x with
    | false => exact iteF (q H4 e24)
    | true =>
      refine iteT (hc N1 H4 l4 n4 _ fun v5 H5 e5 d5 => h2 N1 H5 (l4.ex e5) (n4.ex e5) v2 v5 ((d2.ex e4).ex e5) d5 _ fun v6 H6 e6 d6 => ⟨y, d6.bl_inv, ?_⟩)
      have l6 := (l4.ex e5).ex e6
      have n6 := (n4.ex e5).ex e6
      have e46 := (e24.trans e5).trans e6
      cases y with
      | false => exact iteF (q H6 e46)
      | true => exact iteT (hd N1 H6 l6 n6 _ fun v7 H7 e7 d7 => h3 N1 H7 (l6.ex e7) (n6.ex e7) v5 v7 ((d5.ex e6).ex e7) d7 _ fun v8 H8 e8 d8 => ⟨z, d8.bl_inv, q H8 ((e46.trans e7).trans e8)⟩)⟩
/-- four names from a tuple -/
theorem s_unp4 {D : Ends} {tz : TS} {i j k m : Nat} {a b c d : PyData} (n : NOk N H) (h : EvD N te σ H (.tuple [a, b, c, d])) (q : ∀ v1 v2 v3 v4 H1, Ex H H1 → DN N H1 v1 a → DN N H1 v2 b → DN N H1 v3 c → DN N H1 v4 d → tz D ((((σ.set i (some v1)).set j (some v2)).set k (some v3)).set m (some v4)) H1) :
    tSeq (tAsg te (gTup K 4 (gCons (gName i) (gCons (gName j) (gCons (gName k) (gCons (gName m) gNil)))))) tz D σ H := h N H Le.refl n _ fun v H1 e hv => by
  obtain ⟨p, xs, rfl, na, ea, hx⟩ := hv.tup_inv
  cases hx with
  | cons h1 t => cases t with | cons h2 t => cases t with | cons h3 t => cases t with | cons h4 t =>
    cases t
    exact ⟨p, _, rfl, SqT.of ea, rfl, _, _, rfl, _, _, rfl, _, _, rfl, _, _, rfl, rfl, q _ _ _ _ H1 e h1 h2 h3 h4⟩
end
section
variable {P : Program} {w : World} {K : PySem.W.Frag} {mg : Str → Option Value} {base : Heap} {f : Addr} {fd : FuncData}
def Rcheck : List PyData → PyData → Prop := fun as d => ∃ d0 ss, as = [d0] ∧ Told d0 ss ∧ d = .tuple ((lineOf ss).map spD)
def Rrest : List PyData → PyData → Prop := fun as d => ∃ d0 ss s, as = [d0, spD s] ∧ Told d0 ss ∧ Good s ∧ d = restD (lineOf ss) s
def Rsum : List PyData → PyData → Prop := fun as d => ∃ (many low high : Int) (nl nh : Bool), as = [.int many, .int low, .int high, .bool nl, .bool nh] ∧ 0 ≤ many ∧ many ≤ 100000 ∧ d = sumD (sumSpan many low high nl nh)
def Rcan : List PyData → PyData → Prop := fun as d => ∃ (many total low high : Int) (nl nh : Bool), as = [.int many, .int total, .int low, .int high, .bool nl, .bool nh] ∧ 0 ≤ many ∧ many ≤ 100000 ∧ d = .bool (canSum many total low high nl nh)
def Rfit : List PyData → PyData → Prop := fun as d => ∃ (l : List Span) (s : Span), as = [.tuple (l.map spD), spD s] ∧ (∀ t ∈ l, Good t) ∧ l.length ≤ 1000 ∧ lineOf l = l ∧ Good s ∧ d = .bool (isFit l s)
def Rquarrel : List PyData → PyData → Prop := fun as d => ∃ d0 ss, as = [d0] ∧ Told d0 ss ∧ d = quarrelD (lineOf ss)
theorem ok_check_told_spans (F : Fun K "check_told_spans" "check_told_spans" s_check_told_spans f fd) (T : Gl0 mg) (G_is_sequence : Has P w K mg base CX0 1 "is_sequence" ["value"] (PureSp RisSeq)) (G_is_told_span : Has P w K mg base CX0 3 "is_told_span" ["value"] (PureSp Rtold)) :
    FnOk P w K mg base CX0 4 f fd ["value"] (PureSp Rcheck) := by
  refine F.ok sc_check_told_spans (pure_len fun as d ⟨d0, ss, h, _⟩ => by rw [h]; rfl) (fun cdv A outer st H vs Q E hr h => ?_)
  obtain ⟨N, as, d, n, hv0, ⟨d0, ss, rfl, TL, rfl⟩, q⟩ := h
  obtain ⟨v, rfl, hv⟩ := one_arg hv0
  refine ⟨_, (pss_cons (ps_if (PW.pt (pw_or (pt_not (pt_val (pe_callH G_is_sequence hr (by rfl) pass0 (pa_cons (pv 0) pa_nil)))) (pw_or1 (pt_not (pt_val (pe_callB (cr_all rfl) (by rfl) T.all (by decide +kernel) (pa_cons (pe_lc (own := [("one", 1)]) (g := gName 1) (tt := tYes) rfl sc_check_told_spans.nd (pi_seq (pv 0)) (blkOk_by (N := ["value", "one"]) (sc := defScope s_check_told_spans) (by decide +kernel)) (fun _ _ _ _ _ => pg_name (i := 1) sc_check_told_spans.nd rfl (by first | exact Or.inl rfl | exact Or.inr rfl)) (fun _ _ _ _ _ => pts_nil) (fun _ _ _ _ _ => (pe_callH G_is_told_span hr (by rfl) pass0 (pa_cons (pv 1) pa_nil)))) pa_nil))))))) (pss_one ps_never) pss_nil) (pss_one (ps_ret (pe_callTy cr_tupleOf (by rfl) T.tuple (by decide +kernel) (pa_cons (pe_callB (cr_sortD hr.units) (by rfl) T.sorted (by decide +kernel) (pa_cons (pe_callTy (cr_listDT rfl) (by rfl) T.list (by decide +kernel) (pa_cons (pe_dcT (own := [("one", 1)]) (g := gName 1) hr.units0 rfl sc_check_told_spans.nd (pi_seq (pv 0)) (blkOk_by (N := ["value", "one"]) (sc := defScope s_check_told_spans) (by decide +kernel)) (fun _ _ _ _ _ => pg_name (i := 1) sc_check_told_spans.nd rfl (by first | exact Or.inl rfl | exact Or.inr rfl)) (fun _ _ _ _ _ => (pe_callTy (cr_tupleOfK (K := K) rfl) (by rfl) T.tuple (by decide +kernel) (pa_cons (pv 1) pa_nil))) (fun _ _ _ _ _ => pe_bl)) pa_nil)) pa_nil)) pa_nil))))), ?_⟩
  obtain ⟨ds, hs, hp⟩ := TL.ex
  have ev : EvD N (tVar 0) (start ["value", "one"] [v]) H d0 := ed_var (i := 0) rfl hv
  have hsq : isSeqB d0 = true := by rcases hs with rfl | rfl <;> rfl
  have hz : ds.length ≤ sizeLine := by rw [paired_len hp, sizeLine_eq]; have := TL.len; omega
  refine s_if (x := false) n ?_ (fun e => nomatch e) fun _ H1 e1 => ?_
  · refine (eb_or (x := false) (y := false) ((eb_not (eb_B (ed_call (ea_cons ev ea_nil) ⟨d0, rfl, rfl⟩))).is (by rw [hsq]; rfl)) fun _ => ?_).is rfl
    refine (eb_not (eb_B (ed_cb (ea_cons ((ed_lsS (fun _ => true) (fun d => .bool (toldB d)) hs ev hz (fun _ => rfl) ?_).is (congrArg PyData.list (kept_bools toldB ds))) ea_nil) rc_all))).is ?_
    · intro x hx N1 H2 v1 l1 n1 hv1
      exact ⟨eb_yes, fun _ => ed_call (ea_cons (ed_var (i := 1) rfl hv1) ea_nil) ⟨x, rfl, rfl⟩⟩
    · have e : (ds.map toldB).all id = true := by
        rw [List.all_map, List.all_eq_true]
        intro x hx
        obtain ⟨s, h1, h2⟩ := paired_mem hp hx
        exact told_of h2 (TL.good s h1)
      rw [e]; rfl
  · refine s_ret (n.ex e1) (ed_cb (ea_cons (ed_cb (ea_cons (list_of_dT (kss := dedupK (ss.map spL)) (dc1_gives (ev.le (Le.of e1)) hs (nss := ss.map spL) (paired_map (g := spL) (fun a b h => h) hp) ?_ ?_ ?_)) ea_nil) (rc_sort (spans_alike _ (dedup_spL ss)) (spans_sortable _ (dedup_spL ss)) (tup_depth _))) ea_nil) rc_tupleL) fun u H2 e2 hu => ?_
    · rw [List.length_map, sizeLine_eq]; have := TL.len; omega
    · show 1 < 2
      decide
    · intro _; rfl
    · rw [sorted_data] at hu
      exact q u H2 (e1.trans e2) hu
theorem ok_sum_span (F : Fun K "sum_span" "sum_span" s_sum_span f fd) (T : Gl0 mg) : FnOk P w K mg base CX0 1 f fd ["many", "low", "high", "needs_low", "needs_high"] (PureSp Rsum) := by
  refine F.ok sc_sum_span (pure_len fun as d ⟨_, _, _, _, _, h, _⟩ => by rw [h]; rfl) (fun cdv A outer st H vs Q E hr h => ?_)
  obtain ⟨N, as, d, n, hv0, ⟨many, low, high, nl, nh, rfl, m0, m1, rfl⟩, q⟩ := h
  obtain ⟨v1, v2, v3, v4, v5, rfl, h1, h2, h3, h4, h5⟩ := five_args hv0
  obtain rfl := h1.int_inv
  obtain rfl := h2.int_inv
  obtain rfl := h3.int_inv
  obtain rfl := h4.bl_inv
  obtain rfl := h5.bl_inv
  refine ⟨_, (pss_cons (ps_if (pt_cmpR (op_eqD hr.units) (pv 1) (pv 2) (nomark _)) (pss_one (ps_ret (pe_ifExp (PW.pt (pw_or (pt_cmpR op_gtU (pv 0) pe_int (nomark _)) (pw_or1 (PW.pt (pw_and (pt_not (pt_val (pv 3))) (pw_and1 (pt_not (pt_val (pv 4))))))))) (pe_tup (pa_cons (pe_op op_mulU (pv 0) (pv 1)) (pa_cons (pe_op op_mulU (pv 0) (pv 1)) pa_nil))) pe_non))) pss_nil) (pss_cons (ps_set (i := 5) sc_sum_span.nd rfl (Or.inl rfl) (pe_op op_addU (pe_callTy cr_int1 (by rfl) T.int (by decide +kernel) (pa_cons (pv 3) pa_nil)) (pe_callTy cr_int1 (by rfl) T.int (by decide +kernel) (pa_cons (pv 4) pa_nil)))) (pss_cons (ps_if (pt_cmpR op_ltU (pv 0) (pv 5) (nomark _)) (pss_one (ps_ret pe_non)) pss_nil) (pss_cons (ps_set (i := 6) sc_sum_span.nd rfl (Or.inl rfl) (pe_op op_addU (pe_op op_mulU (pv 1) (pe_callTy cr_int1 (by rfl) T.int (by decide +kernel) (pa_cons (pv 3) pa_nil))) (pe_op op_mulU (pv 2) (pe_callTy cr_int1 (by rfl) T.int (by decide +kernel) (pa_cons (pv 4) pa_nil))))) (pss_one (ps_ret (pe_tup (pa_cons (pe_op op_addU (pv 6) (pe_op op_mulU (pe_op op_subU (pv 0) (pv 5)) (pv 1))) (pa_cons (pe_op op_addU (pv 6) (pe_op op_mulU (pe_op op_subU (pv 0) (pv 5)) (pv 2))) pa_nil))))))))), ?_⟩
  have cm : CMul many low := .inl ⟨by omega, by omega⟩
  refine s_if (x := decide (low = high)) n (eb_test (ed_op (ed_var (i := 1) rfl (.int _)) (ed_var (i := 2) rfl (.int _)) r_eqI)) (fun e H1 e1 => ?_) fun e H1 e1 => ?_
  · have n1 := n.ex e1
    have el : low = high := of_decide_eq_true e
    have mm : EvD N (tOp rMulU (tVar 0) (tVar 1)) (start ["many", "low", "high", "needs_low", "needs_high", "held", "base"] [.int many, .int low, .int high, .bl nl, .bl nh]) H1 (.int (many * low)) := ed_op (ed_var (i := 0) rfl (.int _)) (ed_var (i := 1) rfl (.int _)) (r_mul cm)
    refine s_ret n1 (d := sumD (sumSpan many low high nl nh)) ?_ fun u H2 e2 hu => q u H2 (e1.trans e2) hu
    unfold sumSpan
    rw [if_pos el]
    refine ed_if (x := decide (0 < many) || (!nl && !nh)) (eb_or (eb_test (ed_op (ed_var (i := 0) rfl (.int _)) ed_int r_gt)) fun _ => eb_and (eb_not (eb_B (ed_var (i := 3) rfl (.bl _)))) fun _ => eb_not (eb_B (ed_var (i := 4) rfl (.bl _)))) (fun ex => ?_) fun ex => ?_
    · rw [if_pos]
      · exact ed_tup (ea_cons mm (ea_cons mm ea_nil)) (by show 2 ≤ sizeLine; decide)
      · rw [Bool.or_eq_true, decide_eq_true_eq, Bool.and_eq_true, Bool.not_eq_true', Bool.not_eq_true'] at ex
        exact ex
    · rw [if_neg]
      · exact ed_non
      · intro z
        have : (decide (0 < many) || (!nl && !nh)) = true := by
          rw [Bool.or_eq_true, decide_eq_true_eq, Bool.and_eq_true, Bool.not_eq_true', Bool.not_eq_true']
          exact z
        rw [this] at ex
        cases ex
  · have n1 := n.ex e1
    have el : ¬ low = high := of_decide_eq_false e
    have il : ∀ {H' : Hp} {x y : Option V}, EvD N (tCB rInt1 (tCons (tVar 3) tNil)) [some (.int many), some (.int low), some (.int high), some (.bl nl), some (.bl nh), x, y] H' (.int (b2i nl)) := ed_cb (ea_cons (ed_var (i := 3) rfl (.bl _)) ea_nil) rc_intB
    have ih : ∀ {H' : Hp} {x y : Option V}, EvD N (tCB rInt1 (tCons (tVar 4) tNil)) [some (.int many), some (.int low), some (.int high), some (.bl nl), some (.bl nh), x, y] H' (.int (b2i nh)) := ed_cb (ea_cons (ed_var (i := 4) rfl (.bl _)) ea_nil) rc_intB
    refine s_set n1 (d := .int (b2i nl + b2i nh)) (ed_op il ih r_add) fun v5 H2 e2 hv5 => ?_
    obtain rfl := hv5.int_inv
    have n2 := n1.ex e2
    have hb1 : 0 ≤ b2i nl ∧ b2i nl ≤ 1 := by unfold b2i; split <;> omega
    have hb2 : 0 ≤ b2i nh ∧ b2i nh ≤ 1 := by unfold b2i; split <;> omega
    refine s_if (x := decide (many < b2i nl + b2i nh)) n2 (eb_test (ed_op (ed_var (i := 0) rfl (.int _)) (ed_var (i := 5) rfl (.int _)) r_lt)) (fun e' H3 e3 => ?_) fun e' H3 e3 => ?_
    · refine s_ret (n2.ex e3) (d := sumD (sumSpan many low high nl nh)) (ed_non.is ?_) fun u H4 e4 hu => q u H4 (((e1.trans e2).trans e3).trans e4) hu
      unfold sumSpan
      rw [if_neg el, if_pos (of_decide_eq_true e')]; rfl
    · have n3 := n2.ex e3
      have h3' : ¬ many < b2i nl + b2i nh := of_decide_eq_false e'
      refine s_set n3 (d := .int (low * b2i nl + high * b2i nh)) (ed_op (ed_op (ed_var (i := 1) rfl (.int _)) il (r_mul (.inr ⟨by omega, by omega⟩))) (ed_op (ed_var (i := 2) rfl (.int _)) ih (r_mul (.inr ⟨by omega, by omega⟩))) r_add) fun v6 H4 e4 hv6 => ?_
      obtain rfl := hv6.int_inv
      have hd : ∀ x : Int, CMul (many - (b2i nl + b2i nh)) x := fun x => .inl ⟨by omega, by omega⟩
      refine s_ret (n3.ex e4) (d := sumD (sumSpan many low high nl nh)) ((ed_tup (ea_cons (ed_op (ed_var (i := 6) rfl (.int _)) (ed_op (ed_op (ed_var (i := 0) rfl (.int _)) (ed_var (i := 5) rfl (.int _)) r_sub) (ed_var (i := 1) rfl (.int _)) (r_mul (hd _))) r_add) (ea_cons (ed_op (ed_var (i := 6) rfl (.int _)) (ed_op (ed_op (ed_var (i := 0) rfl (.int _)) (ed_var (i := 5) rfl (.int _)) r_sub) (ed_var (i := 2) rfl (.int _)) (r_mul (hd _))) r_add) ea_nil)) (by show 2 ≤ sizeLine; decide)).is ?_) fun u H5 e5 hu => q u H5 ((((e1.trans e2).trans e3).trans e4).trans e5) hu
      unfold sumSpan
      rw [if_neg el, if_neg h3']; rfl
theorem ok_can_sum (F : Fun K "can_sum" "can_sum" s_can_sum f fd) (T : Gl0 mg) (G_sum_span : Has P w K mg base CX0 1 "sum_span" ["many", "low", "high", "needs_low", "needs_high"] (PureSp Rsum)) : FnOk P w K mg base CX0 2 f fd ["many", "total", "low", "high", "needs_low", "needs_high"] (PureSp Rcan) := by
  refine F.ok sc_can_sum (pure_len fun as d ⟨_, _, _, _, _, _, h, _⟩ => by rw [h]; rfl) (fun cdv A outer st H vs Q E hr h => ?_)
  obtain ⟨N, as, d, n, hv0, ⟨many, total, low, high, nl, nh, rfl, m0, m1, rfl⟩, q⟩ := h
  obtain ⟨v1, vs', rfl, h1, hv0⟩ := cons_args hv0
  obtain ⟨v2, v3, v4, v5, v6, rfl, h2, h3, h4, h5, h6⟩ := five_args hv0
  refine ⟨_, (pss_cons (ps_set (i := 6) sc_can_sum.nd rfl (Or.inl rfl) (pe_callH G_sum_span hr (by rfl) pass0 (pa_cons (pv 0) (pa_cons (pv 2) (pa_cons (pv 3) (pa_cons (pv 4) (pa_cons (pv 5) pa_nil))))))) (pss_one (ps_ret (pe_and (pe_cmpR op_notNU (pv 6) pe_non (nomark _)) (pe_one (pe_chain op_leU op_leU (pe_ix ix_seq (pv 6) pe_int (fun _ _ => rfl)) (pv 1) (pe_ix ix_seq (pv 6) pe_int (fun _ _ => rfl)))))))), ?_⟩
  refine s_set n (d := sumD (sumSpan many low high nl nh)) (ed_call (ea_cons (ed_var (i := 0) rfl h1) (ea_cons (ed_var (i := 2) rfl h3) (ea_cons (ed_var (i := 3) rfl h4) (ea_cons (ed_var (i := 4) rfl h5) (ea_cons (ed_var (i := 5) rfl h6) ea_nil))))) ⟨many, low, high, nl, nh, rfl, m0, m1, rfl⟩) fun v7 H1 e1 hv7 => ?_
  refine s_ret (n.ex e1) (ed_andV (x := !isNone (sumD (sumSpan many low high nl nh))) (ed_op (ed_var (i := 6) rfl hv7) ed_non r_notN) (fun e => ?_) fun e => ?_) fun u H2 e2 hu => q u H2 (e1.trans e2) hu
  · unfold canSum
    cases es : sumSpan many low high nl nh with
    | none => rw [es] at e; cases e
    | some p =>
      rw [es] at hv7
      have ep : EvD N (tVar 6) [some v1, some v2, some v3, some v4, some v5, some v6, some v7] H1 (.tuple [.int p.1, .int p.2]) := ed_var (i := 6) rfl hv7
      exact ed_chain (ed_op ep ed_int (r_ixT rfl)) (ed_var (i := 1) rfl (h2.ex e1)) (ed_op ep ed_int (r_ixT rfl)) r_le fun _ => r_le
  · unfold canSum
    cases es : sumSpan many low high nl nh with
    | none => rfl
    | some p => rw [es] at e; cases e
theorem ok_rest_of (F : Fun K "rest_of" "rest_of" s_rest_of f fd) (T : Gl0 mg) (G_end_of : Has P w K mg base CX0 1 "end_of" ["span"] (PureSp Rend)) (G_parts_of : Has P w K mg base CX0 3 "parts_of" ["spans", "span"] (PureSp Rparts)) (G_check_told_spans : Has P w K mg base CX0 4 "check_told_spans" ["value"] (PureSp Rcheck)) :
    FnOk P w K mg base CX0 5 f fd ["spans", "span"] (PureSp Rrest) := by
  refine F.ok sc_rest_of (pure_len fun as d ⟨_, _, _, h, _⟩ => by rw [h]; rfl) (fun cdv A outer st H vs Q E hr h => ?_)
  obtain ⟨N, as, d, n, hv0, ⟨d0, ss, s, rfl, TL, gs, rfl⟩, q⟩ := h
  obtain ⟨v, v', rfl, hv, hv'⟩ := two_args hv0
  refine ⟨_, (pss_cons (ps_set (i := 1) sc_rest_of.nd rfl (Or.inr rfl) (pe_callTy cr_tupleOf (by rfl) T.tuple (by decide +kernel) (pa_cons (pv 1) pa_nil))) (pss_cons (ps_set (i := 2) sc_rest_of.nd rfl (Or.inl rfl) (pe_callH G_parts_of hr (by rfl) pass0 (pa_cons (pe_callH G_check_told_spans hr (by rfl) pass0 (pa_cons (pv 0) pa_nil)) (pa_cons (pv 1) pa_nil)))) (pss_cons (ps_set (i := 3) sc_rest_of.nd rfl (Or.inr rfl) (pe_dc2 (own := [("part", 4), ("row", 5)]) (vs1 := [5]) (g := gName 4) (g1 := gName 5) hr.units0 rfl sc_rest_of.nd (pi_seq (pv 2)) (blkOk_by (N := ["spans", "span", "parts", "told", "part", "row", "rows", "needs_low", "needs_high"]) (sc := defScope s_rest_of) (by decide +kernel)) (by decide) (fun _ _ _ _ _ => pg_name (i := 4) sc_rest_of.nd rfl (by first | exact Or.inl rfl | exact Or.inr rfl)) (fun _ _ _ _ _ => (pi_range2 (by rfl) T.range (pa_cons (pe_ix (ix_seqK (K := K) rfl) (pv 4) pe_int (fun _ _ => rfl)) (pa_cons (pe_callH G_end_of hr (by rfl) pass0 (pa_cons (pv 4) pa_nil)) pa_nil)))) (fun _ _ _ _ _ => pg_name (i := 5) sc_rest_of.nd rfl (by first | exact Or.inl rfl | exact Or.inr rfl)) (fun _ _ _ _ _ => (pv 5)) (fun _ _ _ _ _ => pe_bl))) (pss_cons (ps_set (i := 6) sc_rest_of.nd rfl (Or.inl rfl) (pe_callTy cr_tupleOf (by rfl) T.tuple (by decide +kernel) (pa_cons (pe_lc (own := [("row", 5)]) (g := gName 5) rfl sc_rest_of.nd (pi_range2 (by rfl) T.range (pa_cons (pe_ix ix_seq (pv 1) pe_int (fun _ _ => rfl)) (pa_cons (pe_callH G_end_of hr (by rfl) pass0 (pa_cons (pv 1) pa_nil)) pa_nil))) (blkOk_by (N := ["spans", "span", "parts", "told", "part", "row", "rows", "needs_low", "needs_high"]) (sc := defScope s_rest_of) (by decide +kernel)) (fun _ _ _ _ _ => pg_name (i := 5) sc_rest_of.nd rfl (by first | exact Or.inl rfl | exact Or.inr rfl)) (fun _ _ _ _ _ => pts_one (pt_cmp (pc_dnotin (hu_of hr) (pv 5) (pv 3)) (by rfl))) (fun _ _ _ _ _ => (pv 5))) pa_nil))) (pss_cons (ps_set (i := 7) sc_rest_of.nd rfl (Or.inl rfl) (pe_callB (cr_all rfl) (by rfl) T.all (by decide +kernel) (pa_cons (pe_lc (own := [("part", 4)]) (g := gName 4) (tt := tYes) rfl sc_rest_of.nd (pi_seq (pv 2)) (blkOk_by (N := ["spans", "span", "parts", "told", "part", "row", "rows", "needs_low", "needs_high"]) (sc := defScope s_rest_of) (by decide +kernel)) (fun _ _ _ _ _ => pg_name (i := 4) sc_rest_of.nd rfl (by first | exact Or.inl rfl | exact Or.inr rfl)) (fun _ _ _ _ _ => pts_nil) (fun _ _ _ _ _ => (pe_cmpR (op_neDK (K := K) rfl hr.units) (pe_ix (ix_seqK (K := K) rfl) (pv 4) pe_int (fun _ _ => rfl)) (pe_ix (ix_seqK (K := K) rfl) (pv 1) pe_int (fun _ _ => rfl)) (nomark _)))) pa_nil))) (pss_cons (ps_set (i := 8) sc_rest_of.nd rfl (Or.inl rfl) (pe_callB (cr_all rfl) (by rfl) T.all (by decide +kernel) (pa_cons (pe_lc (own := [("part", 4)]) (g := gName 4) (tt := tYes) rfl sc_rest_of.nd (pi_seq (pv 2)) (blkOk_by (N := ["spans", "span", "parts", "told", "part", "row", "rows", "needs_low", "needs_high"]) (sc := defScope s_rest_of) (by decide +kernel)) (fun _ _ _ _ _ => pg_name (i := 4) sc_rest_of.nd rfl (by first | exact Or.inl rfl | exact Or.inr rfl)) (fun _ _ _ _ _ => pts_nil) (fun _ _ _ _ _ => (pe_cmpR (op_neDK (K := K) rfl hr.units) (pe_ix (ix_seqK (K := K) rfl) (pv 4) pe_int (fun _ _ => rfl)) (pe_ix (ix_seqK (K := K) rfl) (pv 1) pe_int (fun _ _ => rfl)) (nomark _)))) pa_nil))) (pss_one (ps_ret (pe_tup (pa_cons (pv 6) (pa_cons (pe_op op_subU (pe_ix ix_seq (pv 1) pe_int (fun _ _ => rfl)) (pe_callB (cr_sum2 rfl) (by rfl) T.sum (by decide +kernel) (pa_cons (pe_lc (own := [("part", 4)]) (g := gName 4) (tt := tYes) rfl sc_rest_of.nd (pi_seq (pv 2)) (blkOk_by (N := ["spans", "span", "parts", "told", "part", "row", "rows", "needs_low", "needs_high"]) (sc := defScope s_rest_of) (by decide +kernel)) (fun _ _ _ _ _ => pg_name (i := 4) sc_rest_of.nd rfl (by first | exact Or.inl rfl | exact Or.inr rfl)) (fun _ _ _ _ _ => pts_nil) (fun _ _ _ _ _ => (pe_ix (ix_seqK (K := K) rfl) (pv 4) pe_int (fun _ _ => rfl)))) pa_nil))) (pa_cons (pv 7) (pa_cons (pv 8) pa_nil))))))))))))), ?_⟩
  have gl : ∀ t ∈ lineOf ss, Good t := fun t ht => TL.good t (mem_lineOf.mp ht)
  have ll : (lineOf ss).length ≤ 1000 := Nat.le_trans (length_lineOf ss) TL.len
  obtain ⟨l, el⟩ : ∃ l, l = lineOf ss := ⟨_, rfl⟩
  rw [← el] at gl ll q
  have gp : ∀ t ∈ parts l s, Good t := fun t ht => gl t (parts_mem ht)
  have lp : (parts l s).length ≤ 1000 := Nat.le_trans (parts_len l s) ll
  have lz : ((parts l s).map spD).length ≤ sizeLine := by rw [List.length_map, sizeLine_eq]; omega
  refine s_set n (ed_cb (ea_cons (ed_var (i := 1) rfl hv') ea_nil) rc_tupleT) fun v1 H1 e1 hv1 => ?_
  have n1 := n.ex e1
  refine s_set n1 (d := .list ((parts l s).map spD)) (ed_call (ea_cons (ed_call (ea_cons (ed_var (i := 0) rfl (hv.ex e1)) ea_nil) ⟨d0, ss, rfl, TL, rfl⟩) (ea_cons (ed_var (i := 1) rfl hv1) ea_nil)) ⟨l, s, .tuple (l.map spD), by rw [el], .inr rfl, ll, rfl⟩) fun v2 H2 e2 hv2 => ?_
  have n2 := n1.ex e2
  have hv1 : DN N H2 v1 (spD s) := hv1.ex e2
  have bl : ((parts l s).map fun p => (p.first, endO p)).length ≤ 1000 := by rw [List.length_map]; exact lp
  have hb : ∀ b ∈ (parts l s).map (fun p => (p.first, endO p)), 0 ≤ b.1 ∧ b.1 ≤ 1000 ∧ 0 ≤ b.2 ∧ b.2 ≤ 2000 ∧ b.2 - b.1 ≤ 1000 := by
    intro b hb
    obtain ⟨p, hp, rfl⟩ := List.mem_map.mp hb
    have g := gp p hp
    have := g.f0; have := g.f1; have := g.m0; have := g.m1
    unfold endO
    dsimp only
    omega
  refine dc2_gives (bnds := (parts l s).map fun p => (p.first, endO p)) (ds := (parts l s).map spD) (ed_var (i := 2) rfl hv2) (by rw [List.length_map, List.length_map]) (rows_small bl fun b h => (hb b h).2.2.2.2) (fun b h => by have := hb b h; omega) (fun i d b hd hbi N3 H3 v3 l3 n3 hv3 => ?_) (fun _ => rfl) (fun _ _ => rfl) (by show 5 < 9; decide) N H2 Le.refl n2 _ fun D H3 e3 hD => ?_
  · obtain ⟨p, hp, rfl⟩ := map_get hd
    rw [List.getElem?_map, hp] at hbi
    cases hbi
    have ep : EvD N3 (tVar 4) (blkSt [some v, some v1, some v2, none, none, none, none, none, none] [4, 5] 4 v3) H3 (spD p) := ed_var (i := 4) rfl hv3
    exact ea_cons (e_first ep) (ea_cons (ed_call (ea_cons ep ea_nil) ⟨p, rfl, rfl⟩) ea_nil)
  have n3 := n2.ex e3
  have nD := n3.dK hD
  have hv1 : DN N H3 v1 (spD s) := hv1.ex e3
  have hv2 : DN N H3 v2 (.list ((parts l s).map spD)) := hv2.ex e3
  have ev1 : EvD N (tVar 1) [some v, some v1, some v2, some (.ref D), none, none, none, none, none] H3 (spD s) := ed_var (i := 1) rfl hv1
  have em : (endO s - s.first).toNat = s.many.toNat := by unfold endO; congr 1; omega
  show tSeq _ _ _ [some v, some v1, some v2, some (.ref D), none, none, none, none, none] H3
  refine s_set n3 (d := .tuple ((restRows l s).map .int)) (ed_cb (ea_cons ((ed_lcR2 (fun d => !decide (intOf d ∈ dedupI (rowsOf ((parts l s).map fun p => (p.first, endO p))))) id (ea_cons (e_first ev1) (ea_cons (ed_call (ea_cons ev1 ea_nil) ⟨s, rfl, rfl⟩) ea_nil)) ?_ (fun _ => rfl) ?_).is ?_) ea_nil) rc_tupleL) fun v6 H4 e4 hv6 => ?_
  · have := gs.f0; have := gs.f1; have := gs.m0; have := gs.m1
    unfold endO
    omega
  · intro x hx N4 H4 v4 l4 n4 hv4
    obtain ⟨r, hr', rfl⟩ := mem_map' hx
    obtain rfl := hv4.int_inv
    refine ⟨fun N5 H5 l5 n5 Q' q' => ?_, fun _ => ed_var (i := 5) rfl (.int r)⟩
    have hD5 := (l4.trans l5).keep D _ nD hD
    refine ⟨.int r, rfl, .ref D, rfl, D, _, rfl, DGet.k (k := Sum.inl r) hD5, _, rfl, ?_⟩
    rw [valV_entI]
    exact q' H5 Ex.rfl'
  · rw [em, kept_ints _ (fun r => !((parts l s).any fun p => decide (p.first ≤ r) && decide (r < endO p))) (fun x => congrArg not (mem_rest (l := l) (s := s) (x := x)))]
    rfl
  have n4 := n3.ex e4
  have cmp : ∀ (g : Span → Int) (te : TE) (x y : Option V) (H' : Hp), Ex H4 H' → (∀ (N5 : Addr → Prop) (H5 : Hp) (v5 : V) (p : Span), Le N H' N5 H5 → DN N5 H5 v5 (spD p) → EvD N5 te (blkSt [some v, some v1, some v2, some (.ref D), none, none, some v6, x, y] [4] 4 v5) H5 (.bool (!decide (g p = g s)))) →
      EvD N (tCB (rAll K) (tCons (tLc (iSeq K (tVar 2)) (gName 4) tYes te [4]) tNil)) [some v, some v1, some v2, some (.ref D), none, none, some v6, x, y] H' (.bool ((parts l s).all fun p => decide (g p ≠ g s))) := by
    intro g te x y H' e' ht
    refine (ed_cb (ea_cons ((ed_lsL (fun _ => true) (fun d => .bool (decide (g (ofD d) ≠ g s))) (ed_var (i := 2) rfl ((hv2.ex e4).ex e')) lz (fun _ => rfl) ?_).is (congrArg PyData.list (kept_map PyData.bool (fun p => decide (g p ≠ g s)) _ (fun _ => rfl) (parts l s)))) ea_nil) rc_all).is ?_
    · intro x hx N5 H5 v5 l5 n5 hv5
      obtain ⟨p, hp, rfl⟩ := mem_map' hx
      refine ⟨eb_yes, fun _ => (ht N5 H5 v5 p l5 hv5).is ?_⟩
      show PyData.bool (!decide (g p = g s)) = PyData.bool (decide (g p ≠ g s))
      rw [decide_not]
    · rw [List.all_map]; rfl
  refine s_set n4 (d := .bool (needsLow l s)) (cmp (·.low) _ none none H4 Ex.rfl' fun N5 H5 v5 p l5 hv5 => ed_op (e_low (ed_var (i := 4) rfl hv5)) (e_low (ed_var (i := 1) rfl ((hv1.ex e4).le l5))) r_neI) fun v7 H5 e5 hv7 => ?_
  have n5 := n4.ex e5
  refine s_set n5 (d := .bool (needsHigh l s)) (cmp (·.high) _ (some v7) none H5 e5 fun N5 H5 v5 p l5 hv5 => ed_op (e_high (ed_var (i := 4) rfl hv5)) (e_high (ed_var (i := 1) rfl (((hv1.ex e4).ex e5).le l5))) r_neI) fun v8 H6 e6 hv8 => ?_
  have n6 := n5.ex e6
  have e46 := (e4.trans e5).trans e6
  refine s_ret n6 (d := restD l s) (ed_tup (ea_cons (ed_var (i := 6) rfl ((hv6.ex e5).ex e6)) (ea_cons (a := .int (restSum l s)) (ed_op (e_sum (ed_var (i := 1) rfl (hv1.ex e46))) (ed_cb (ea_cons ((ed_lsL (fun _ => true) (fun d => .int (ofD d).sum) (ed_var (i := 2) rfl (hv2.ex e46)) lz (fun _ => rfl) ?_).is (congrArg PyData.list (kept_map PyData.int (·.sum) _ (fun _ => rfl) (parts l s)))) ea_nil) rc_sumL) r_sub) (ea_cons (ed_var (i := 7) rfl (hv7.ex e6)) (ea_cons (ed_var (i := 8) rfl hv8) ea_nil)))) (by show 4 ≤ sizeLine; decide)) fun u H7 e7 hu => q u H7 ((((e1.trans e2).trans e3).trans e46).trans e7) hu
  intro x hx N7 H7 v9 l7 n7 hv9
  obtain ⟨p, hp, rfl⟩ := mem_map' hx
  exact ⟨eb_yes, fun _ => e_sum (ed_var (i := 4) rfl hv9)⟩
end
end K14
/-! K14Prog4 -/
set_option Elab.async false
set_option linter.all false
set_option maxRecDepth 100000
set_option maxHeartbeats 2000000
/-! The program's defs: fit, the quarrel. -/
namespace K14
open PySem PySem.Spec PyProof.Rows L2
theorem atI_nat {α : Type} {l : List α} {i : Nat} {x : α} (h : l[i]? = some x) : atI l (i : Int) = some x := by
  have hl := (List.getElem?_eq_some_iff.mp h).1
  unfold atI ixN
  rw [if_pos (by omega), if_pos (by omega)]
  show l[((i : Int)).toNat]? = _
  rw [Int.toNat_natCast]
  exact h
theorem upTo_toNat_len (lo : Int) (n : Nat) : (upTo lo n).length = n := upTo_len
theorem restRows_len (l : List Span) (s : Span) (h : s.many ≤ 1000) : (restRows l s).length ≤ 1000 := by
  refine Nat.le_trans (List.length_filter_le _ _) ?_
  rw [upTo_len]
  omega
section
variable {P : Program} {w : World} {K : PySem.W.Frag} {mg : Str → Option Value} {base : Heap} {f : Addr} {fd : FuncData}
theorem ok_is_fit (F : Fun K "is_fit" "is_fit" s_is_fit f fd) (T : Gl0 mg) (G_parts_of : Has P w K mg base CX0 3 "parts_of" ["spans", "span"] (PureSp Rparts)) (G_rest_of : Has P w K mg base CX0 5 "rest_of" ["spans", "span"] (PureSp Rrest))
    (G_can_sum : Has P w K mg base CX0 2 "can_sum" ["many", "total", "low", "high", "needs_low", "needs_high"] (PureSp Rcan)) :
    FnOk P w K mg base CX0 6 f fd ["spans", "span"] (PureSp Rfit) := by
  refine F.ok sc_is_fit (pure_len fun as d ⟨_, _, h, _⟩ => by rw [h]; rfl) (fun cdv A outer st H vs Q E hr h => ?_)
  obtain ⟨N, as, d, n, hv0, ⟨l, s, rfl, gl, ll, el, gs, rfl⟩, q⟩ := h
  obtain ⟨v, v', rfl, hv, hv'⟩ := two_args hv0
  refine ⟨_, (pss_cons (ps_if (pt_not (pt_chain3 op_leU op_leU op_leU (pe_un un_neg (pe_most T (by rfl))) (pe_ix ix_seq (pv 1) pe_int (fun _ _ => rfl)) (pe_ix ix_seq (pv 1) pe_int (fun _ _ => rfl)) (pe_most T (by rfl)))) (pss_one (ps_ret pe_bl)) pss_nil) (pss_cons (ps_if (pt_not (pt_val (pe_callB (cr_all rfl) (by rfl) T.all (by decide +kernel) (pa_cons (pe_lc (own := [("part", 2)]) (g := gName 2) (tt := tYes) rfl sc_is_fit.nd (pi_seq (pe_callH G_parts_of hr (by rfl) pass0 (pa_cons (pv 0) (pa_cons (pv 1) pa_nil)))) (blkOk_by (N := ["spans", "span", "part", "rows", "total", "needs_low", "needs_high"]) (sc := defScope s_is_fit) (by decide +kernel)) (fun _ _ _ _ _ => pg_name (i := 2) sc_is_fit.nd rfl (by first | exact Or.inl rfl | exact Or.inr rfl)) (fun _ _ _ _ _ => pts_nil) (fun _ _ _ _ _ => (pe_and (pe_cmpR op_leU (pe_ix (ix_seqK (K := K) rfl) (pv 1) pe_int (fun _ _ => rfl)) (pe_ix (ix_seqK (K := K) rfl) (pv 2) pe_int (fun _ _ => rfl)) (nomark _)) (pe_one (pe_cmpR op_leU (pe_ix (ix_seqK (K := K) rfl) (pv 2) pe_int (fun _ _ => rfl)) (pe_ix (ix_seqK (K := K) rfl) (pv 1) pe_int (fun _ _ => rfl)) (nomark _)))))) pa_nil)))) (pss_one (ps_ret pe_bl)) pss_nil) (pss_cons (ps_asg (pe_callH G_rest_of hr (by rfl) pass0 (pa_cons (pv 0) (pa_cons (pv 1) pa_nil))) (pg_tup rfl (pgs_cons (pg_name (i := 3) sc_is_fit.nd rfl (by first | exact Or.inl rfl | exact Or.inr rfl)) (pgs_cons (pg_name (i := 4) sc_is_fit.nd rfl (by first | exact Or.inl rfl | exact Or.inr rfl)) (pgs_cons (pg_name (i := 5) sc_is_fit.nd rfl (by first | exact Or.inl rfl | exact Or.inr rfl)) (pgs_cons (pg_name (i := 6) sc_is_fit.nd rfl (by first | exact Or.inl rfl | exact Or.inr rfl)) pgs_nil)))))) (pss_one (ps_ret (pe_callH G_can_sum hr (by rfl) pass0 (pa_cons (pe_callB cr_len1 (by rfl) T.len (by decide +kernel) (pa_cons (pv 3) pa_nil)) (pa_cons (pv 4) (pa_cons (pe_ix ix_seq (pv 1) pe_int (fun _ _ => rfl)) (pa_cons (pe_ix ix_seq (pv 1) pe_int (fun _ _ => rfl)) (pa_cons (pv 5) (pa_cons (pv 6) pa_nil)))))))))))), ?_⟩
  have lz : ((parts l s).map spD).length ≤ sizeLine := by have := parts_len l s; rw [List.length_map, sizeLine_eq]; omega
  have ev0 : EvD N (tVar 0) (start ["spans", "span", "part", "rows", "total", "needs_low", "needs_high"] [v, v']) H (.tuple (l.map spD)) := ed_var (i := 0) rfl hv
  have ev1 : EvD N (tVar 1) (start ["spans", "span", "part", "rows", "total", "needs_low", "needs_high"] [v, v']) H (spD s) := ed_var (i := 1) rfl hv'
  refine s_if (x := !inRange s) n (eb_not (eb_chain3 (ed_un ed_int r_neg) (e_low ev1) (e_high ev1) ed_int r_le r_le r_le)) (fun e H1 e1 => ?_) fun e H1 e1 => ?_
  · refine s_ret (n.ex e1) (ed_bl (i := false) |>.is ?_) fun u H2 e2 hu => q u H2 (e1.trans e2) hu
    unfold isFit
    rw [show inRange s = false by simpa using e]; rfl
  have er : inRange s = true := by simpa using e
  have n1 := n.ex e1
  have ev0 := ev0.le (Le.of e1)
  have ev1 := ev1.le (Le.of e1)
  refine s_if (x := !partsIn l s) n1 (eb_not (eb_B (ed_cb (ea_cons ((ed_lsL (fun _ => true) (fun d => .bool (decide (s.low ≤ (ofD d).low) && decide ((ofD d).high ≤ s.high))) (ed_call (ea_cons ev0 (ea_cons ev1 ea_nil)) ⟨l, s, _, rfl, .inr rfl, ll, rfl⟩) lz (fun _ => rfl) ?_).is (congrArg PyData.list (kept_map PyData.bool (fun p => decide (s.low ≤ p.low) && decide (p.high ≤ s.high)) _ (fun _ => rfl) (parts l s)))) ea_nil) (by
      have z := rc_all (K := K) (N := N) (H := H1) (bs := (parts l s).map fun p => decide (s.low ≤ p.low) && decide (p.high ≤ s.high))
      have ez : ((parts l s).map fun p => decide (s.low ≤ p.low) && decide (p.high ≤ s.high)).all id = partsIn l s := by rw [List.all_map]; rfl
      rw [ez] at z
      exact z)))) (fun e' H2 e2 => ?_) fun e' H2 e2 => ?_
  · intro x hx N5 H5 v5 l5 n5 hv5
    obtain ⟨p, hp, rfl⟩ := mem_map' hx
    have ep : EvD N5 (tVar 2) (blkSt (start ["spans", "span", "part", "rows", "total", "needs_low", "needs_high"] [v, v']) [2] 2 v5) H5 (spD p) := ed_var (i := 2) rfl hv5
    have es : EvD N5 (tVar 1) (blkSt (start ["spans", "span", "part", "rows", "total", "needs_low", "needs_high"] [v, v']) [2] 2 v5) H5 (spD s) := ed_var (i := 1) rfl ((hv'.ex e1).le l5)
    exact ⟨eb_yes, fun _ => ed_andB (ed_op (e_low es) (e_low ep) r_le) fun _ => ed_op (e_high ep) (e_high es) r_le⟩
  · refine s_ret (n1.ex e2) (ed_bl (i := false) |>.is ?_) fun u H3 e3 hu => q u H3 ((e1.trans e2).trans e3) hu
    unfold isFit
    rw [er, show partsIn l s = false by simpa using e']; rfl
  have ep : partsIn l s = true := by simpa using e'
  have n2 := n1.ex e2
  refine s_unp4 n2 (a := .tuple ((restRows l s).map .int)) (b := .int (restSum l s)) (c := .bool (needsLow l s)) (d := .bool (needsHigh l s)) (ed_call (ea_cons (ev0.le (Le.of e2)) (ea_cons (ev1.le (Le.of e2)) ea_nil)) ⟨_, l, s, rfl, Told.of gl ll (.inr rfl), gs, by rw [el]; rfl⟩) fun v3 v4 v5 v6 H3 e3 h3 h4 h5 h6 => ?_
  have hs := ((hv'.ex e1).ex e2).ex e3
  refine s_ret (n2.ex e3) (d := .bool (isFit l s)) ?_ fun u H4 e4 hu => q u H4 (((e1.trans e2).trans e3).trans e4) hu
  have lr := restRows_len l s gs.m1
  have es : EvD N (tVar 1) [some v, some v', none, some v3, some v4, some v5, some v6] H3 (spD s) := ed_var (i := 1) rfl hs
  refine ed_call (ea_cons (ed_cb (ea_cons (ed_var (i := 3) rfl h3) ea_nil) rc_lenT) (ea_cons (ed_var (i := 4) rfl h4) (ea_cons (e_low es) (ea_cons (e_high es) (ea_cons (ed_var (i := 5) rfl h5) (ea_cons (ed_var (i := 6) rfl h6) ea_nil)))))) ⟨_, _, _, _, _, _, rfl, by omega, by rw [List.length_map]; omega, ?_⟩
  rw [List.length_map]
  unfold isFit
  rw [er, ep]; rfl
theorem ok_span_quarrel (F : Fun K "span_quarrel" "span_quarrel" s_span_quarrel f fd) (T : Gl0 mg) (G_check_told_spans : Has P w K mg base CX0 4 "check_told_spans" ["value"] (PureSp Rcheck)) (G_first_crossed : Has P w K mg base CX0 3 "first_crossed" ["spans"] (PureSp Rfirst))
    (G_is_fit : Has P w K mg base CX0 6 "is_fit" ["spans", "span"] (PureSp Rfit)) : FnOk P w K mg base CX0 7 f fd ["spans"] (PureSp Rquarrel) := by
  refine F.ok sc_span_quarrel (pure_len fun as d ⟨_, _, h, _⟩ => by rw [h]; rfl) (fun cdv A outer st H vs Q E hr h => ?_)
  obtain ⟨N, as, d, n, hv0, ⟨d0, ss, rfl, TL, rfl⟩, q⟩ := h
  obtain ⟨v, rfl, hv⟩ := one_arg hv0
  refine ⟨_, (pss_cons (ps_set (i := 1) sc_span_quarrel.nd rfl (Or.inr rfl) (pe_callH G_check_told_spans hr (by rfl) pass0 (pa_cons (pv 0) pa_nil))) (pss_cons (ps_set (i := 2) sc_span_quarrel.nd rfl (Or.inl rfl) (pe_callH G_first_crossed hr (by rfl) pass0 (pa_cons (pv 1) pa_nil))) (pss_cons (ps_if (pt_cmpR op_notNU (pv 2) pe_non (nomark _)) (pss_one (ps_ret (pe_op op_addU (pe_tup (pa_cons (pe_crossed T (by rfl)) pa_nil)) (pv 2)))) pss_nil) (pss_cons (ps_setLc (i := 3) (own := [("span", 4)]) (g := gName 4) rfl sc_span_quarrel.nd rfl rfl (sw_true rfl rfl rfl (by decide +kernel)) (pi_seq (pv 1)) (blkOk_by (N := ["spans", "told", "crossed", "unfit", "span"]) (sc := defScope s_span_quarrel) (by decide +kernel)) (fun _ _ _ _ _ => pg_name (i := 4) sc_span_quarrel.nd rfl (by first | exact Or.inl rfl | exact Or.inr rfl)) (fun _ _ _ _ _ => pts_one (pt_not (pt_val (pe_callH G_is_fit hr (by rfl) pass0 (pa_cons (pv 1) (pa_cons (pv 4) pa_nil)))))) (fun _ _ _ _ _ => (pv 4))) (pss_one (ps_ret (pe_ifExp (pt_cmpR op_gtU (pe_callB cr_len1 (by rfl) T.len (by decide +kernel) (pa_cons (pv 3) pa_nil)) pe_int (nomark _)) (pe_tup (pa_cons (pe_unfit T (by rfl)) (pa_cons (pe_ix ix_seq (pv 3) pe_int (fun _ _ => rfl)) pa_nil))) pe_non))))))), ?_⟩
  have gl : ∀ t ∈ lineOf ss, Good t := fun t ht => TL.good t (mem_lineOf.mp ht)
  have ll : (lineOf ss).length ≤ 1000 := Nat.le_trans (length_lineOf ss) TL.len
  have le : lineOf (lineOf ss) = lineOf ss := lineOf_idem ss
  obtain ⟨l, el⟩ : ∃ l, l = lineOf ss := ⟨_, rfl⟩
  rw [← el] at gl ll q le
  refine s_set n (d := .tuple (l.map spD)) (ed_call (ea_cons (ed_var (i := 0) rfl hv) ea_nil) ⟨d0, ss, rfl, TL, by rw [el]⟩) fun v1 H1 e1 hv1 => ?_
  have n1 := n.ex e1
  refine s_set n1 (d := firstD (firstX l)) (ed_call (ea_cons (ed_var (i := 1) rfl hv1) ea_nil) ⟨l, rfl, ll, rfl⟩) fun v2 H2 e2 hv2 => ?_
  have n2 := n1.ex e2
  refine s_if (x := !isNone (firstD (firstX l))) n2 (eb_test (ed_op (ed_var (i := 2) rfl hv2) ed_non r_notN)) (fun e H3 e3 => ?_) fun e H3 e3 => ?_
  · cases ef : firstX l with
    | none => rw [ef] at e; cases e
    | some p =>
      rw [ef] at hv2
      refine s_ret (n2.ex e3) (d := .tuple [.str "crossed", spD p.1, spD p.2]) (ed_op (ed_tup (ea_cons ed_str ea_nil) (by show 1 ≤ sizeLine; decide)) (ed_var (i := 2) rfl (hv2.ex e3)) (r_addT (by show 3 ≤ sizeLine; decide))) fun u H4 e4 hu => ?_
      unfold quarrelD at q
      rw [ef] at q
      exact q u H4 (((e1.trans e2).trans e3).trans e4) hu
  · cases ef : firstX l with
    | some p => rw [ef] at e; cases e
    | none =>
      have n3 := n2.ex e3
      have hv1 := (hv1.ex e2).ex e3
      have lz : (l.map spD).length ≤ sizeLine := by rw [List.length_map, sizeLine_eq]; omega
      refine s_set n3 (d := .list ((l.filter fun s => !isFit l s).map spD)) ((ed_lsT (fun d => !isFit l (ofD d)) id (ed_var (i := 1) rfl hv1) lz (fun _ => rfl) ?_).is (congrArg PyData.list (kept_spans _ _ (fun s => rfl) l))) fun v3 H4 e4 hv3 => ?_
      · intro x hx N5 H5 v5 l5 n5 hv5
        obtain ⟨p, hp, rfl⟩ := mem_map' hx
        exact ⟨eb_not (eb_B (ed_call (ea_cons (ed_var (i := 1) rfl (hv1.le l5)) (ea_cons (ed_var (i := 4) rfl hv5) ea_nil)) ⟨l, p, rfl, gl, ll, le, gl p hp, rfl⟩)), fun _ => ed_var (i := 4) rfl hv5⟩
      · have n4 := n3.ex e4
        have eq0 : quarrelD l = match l.filter fun s => !isFit l s with
          | s :: _ => .tuple [.str "unfit", spD s]
          | [] => .none := by
            unfold quarrelD
            rw [ef] <;> (generalize (l.filter fun s => !isFit l s) = z; cases z <;> rfl)
        rw [eq0] at q
        have e14 := ((e1.trans e2).trans e3).trans e4
        have elen : EvD N (tCB (rLen K) (tCons (tVar 3) tNil)) [some v, some v1, some v2, some v3, none] H4 (.int ((l.filter fun s => !isFit l s).map spD).length) := ed_cb (ea_cons (ed_var (i := 3) rfl hv3) ea_nil) rc_lenL
        revert q hv3 elen
        generalize (l.filter fun s => !isFit l s) = un
        intro q hv3 elen
        refine s_ret n4 (ed_if (eb_test (ed_op elen ed_int r_gt)) (fun e => ?_) fun e => ?_) fun u H5 e5 hu => q u H5 (e14.trans e5) hu
        · cases un with
          | nil =>
            have := of_decide_eq_true e
            simp at this
          | cons s r => exact ed_tup (ea_cons ed_str (ea_cons (ed_op (ed_var (i := 3) rfl hv3) ed_int (r_ixL (atI_nat rfl))) ea_nil)) (by show 2 ≤ sizeLine; decide)
        · cases un with
          | nil => exact ed_non
          | cons s r =>
            have := of_decide_eq_false e
            rw [List.map_cons, List.length_cons] at this
            omega
end
end K14
/-! K14Mul -/
set_option Elab.async false
set_option linter.all false
set_option maxRecDepth 100000
set_option maxHeartbeats 4000000
/-! tuple * 1, and tuple * n. -/
namespace K14
open PySem PySem.Spec PyProof.Rows L2
theorem tuple_mul1 (l : Addr) (items : Array Value) (n : Nat) (dd : Option Addr) (sl : Array (Option Value)) (u : Tok) :
    Meets (Builtin.«tuple.__mul__» ⟨[.ref l, .int 1 u], []⟩) (fun _ R s => s.heap.get? l = some { cls := .type "tuple", dict := dd, data := .seq items n, slots := sl } ∧
      R (.ok (.ret (Value.ref l))) s) :=
  .of_wp fun prog w A R s h => by
    obtain ⟨hp, g, d, tk, os⟩ := s
    obtain ⟨hl, h⟩ := h
    have f1 := AutoSeq1.idx_int
    have c1 : (items.isEmpty || (1 : Int) == 1) = true := by simp
    wp_walk using wpAny_loadPart' hl
    repeat (first
      | (refine wpAny_ite_true (decide_eq_true c1) ?_; wp_walk using wpAny_loadPart' hl))
    all_goals exact ⟨_, rfl, h⟩
def rRep1 (K : PySem.W.Frag) : R2 := fun x y H Q => ∃ l xs, x = .ref l ∧ y = .int 1 ∧ SqT K H l xs ∧ Q (.ref l) H
theorem op_rep1 {X : Cx} : OpR X (binaryOp .Mult) (rRep1 X.K) := by
  intro pins s σ H x y v u Q I rx ry h
  obtain ⟨l, xs, rfl, rfl, hT, q⟩ := h
  cases rx
  obtain ⟨t, rfl⟩ := ry
  obtain ⟨its, r, ⟨⟨cls, dd, data, sl⟩, ho, hc, n, hd⟩, hs⟩ := I.tuple hT
  simp only at hc hd
  subst hc hd
  refine wpAny_binaryOp_repeat_ref (T := "tuple") (U := "int") (by decide) ⟨_, ho, rfl⟩ (fun s' => typeIs_int s' 1 t) noFill_tuple_mul F.fills_int_mul F.slot_int_rmul repeat_tuple F.slot_int_index.lookup
    (call_meets F.slot_int_rmul (typeIs_int s 1 t) F.entry_int_rmul (F.args_int_rmul_2 _ _) (int_rmul_tuple 1 t l its.toArray n dd sl)
      ⟨ho, rfl, ⟨_, ho, rfl⟩, call_meets F.slot_tuple_mul ⟨_, ho, rfl⟩ F.entry_tuple_mul (F.args_tuple_mul_2 _ _) (tuple_mul1 l its.toArray n dd sl t) ⟨ho, ?_⟩⟩)
  exact ⟨.ref l, H, I, rfl, q⟩
def rMulT (K : PySem.W.Frag) : R2 := fun x y H Q => rRepT K x y H Q ∨ rRep1 K x y H Q
theorem op_mulT {X : Cx} : OpR X (binaryOp .Mult) (rMulT X.K) := op_repT.or op_rep1
theorem r_repT {K : PySem.W.Frag} {N : Addr → Prop} {H : Hp} {as : List PyData} {k : Int} (h0 : as ≠ []) (h1 : 1 ≤ k ∧ k ≤ 1000) (h2 : as.length ≤ 1000) : R2D N H (rMulT K) (.tuple as) (.int k) (.tuple (List.replicate k.toNat as).flatten) := fun N1 H1 l n x y hx hy Q q => by
  obtain ⟨p, xs, rfl, na, ea, ha⟩ := hx.tup_inv
  obtain rfl := hy.int_inv
  by_cases hk : k = 1
  · subst hk
    refine .inr ⟨p, xs, rfl, rfl, SqT.of ea, q _ H1 Ex.rfl' ?_⟩
    have e : (List.replicate (1 : Int).toNat as).flatten = as := by
      show (List.replicate 1 as).flatten = as
      simp
    rw [e]
    exact .tup na ea ha
  · refine .inl ⟨p, k, xs, rfl, rfl, SqT.of ea, fun z => ?_, by omega, by omega, by rw [ha.length]; exact h2, fun p' hp => q _ _ (ex_new hp) (.tup (n.fresh hp) upd_same ((rep_DNs ha _).ex (ex_new hp)))⟩
    rw [z] at ha
    cases ha
    exact h0 rfl
end K14
/-! K14Law1 -/
set_option Elab.async false
set_option linter.all false
set_option maxRecDepth 100000
set_option maxHeartbeats 2000000
/-! The law's own defs: nesting, crossing, parts, rest, all choices. -/
namespace K14
open PySem PySem.Spec PyProof.Rows L2
theorem cut_mid (as : List PyData) (a b : Nat) (h : a ≤ b) : cutD as (some (a : Int)) (some (b : Int)) = (as.drop a).take (b - a) := by
  unfold cutD
  rw [HT.sIx_nat, HT.sIx_nat]
  by_cases ha : a ≤ as.length
  · rw [Nat.min_eq_left ha]
    by_cases hb : b ≤ as.length
    · rw [Nat.min_eq_left hb]
    · rw [Nat.min_eq_right (by omega), List.take_of_length_le (by rw [List.length_drop]; exact Nat.le_refl _), List.take_of_length_le (by rw [List.length_drop]; omega)]
  · rw [Nat.min_eq_right (show as.length ≤ a by omega), List.drop_length, List.drop_eq_nil_of_le (show as.length ≤ a by omega), List.take_nil, List.take_nil]
/-- one[:2] == other[:2], or neither lies in the other -/
def crossL (a b : Span) : Bool := !isApart a b && (decide ([a.first, a.many] = [b.first, b.many]) || (!ins a b && !ins b a))
theorem crossL_eq (a b : Span) : crossL a b = crossB a b := by
  unfold crossL crossB
  cases isApart a b with
  | true => rfl
  | false =>
    show (decide ([a.first, a.many] = [b.first, b.many]) || (!ins a b && !ins b a)) = !(ins a b != ins b a)
    by_cases h : a.first = b.first ∧ a.many = b.many
    · have h1 : ins a b = true := by unfold ins endO; rw [h.1, h.2]; simp
      have h2 : ins b a = true := by unfold ins endO; rw [h.1, h.2]; simp
      rw [h1, h2, h.1, h.2]
      simp
    · have hn : ¬ (ins a b = true ∧ ins b a = true) := by
        intro z
        unfold ins endO at z
        simp only [Bool.and_eq_true, decide_eq_true_eq] at z
        exact h ⟨by omega, by omega⟩
      rw [decide_eq_false (by simpa using h)]
      cases h1 : ins a b <;> cases h2 : ins b a <;> simp_all
def allT : Nat → Int → Nat → List (List Int)
  | 0, _, _ => [[]]
  | n + 1, lo, k => (allT n lo k).flatMap fun v => (upTo lo k).map fun x => v ++ [x]
theorem allT_len : ∀ (n : Nat) (lo : Int) (k : Nat), (allT n lo k).length = k ^ n
  | 0, _, _ => rfl
  | n + 1, lo, k => by
    have e : ∀ l : List (List Int), (l.flatMap fun v => (upTo lo k).map fun x => v ++ [x]).length = l.length * k := by
      intro l
      induction l with
      | nil => simp
      | cons v r ih =>
        rw [List.flatMap_cons, List.length_append, ih, List.length_map, upTo_len, List.length_cons, Nat.succ_mul]
        omega
    show ((allT n lo k).flatMap _).length = _
    rw [e, allT_len n lo k, Nat.pow_succ]
theorem pow_small {n k : Nat} (hn : n ≤ 6) (hk : k ≤ 8) : k ^ n ≤ 262144 := by
  have h1 : k ^ n ≤ 8 ^ n := Nat.pow_le_pow_left hk n
  have h2 : 8 ^ n ≤ 8 ^ 6 := Nat.pow_le_pow_right (by decide) hn
  have h3 : 8 ^ 6 = 262144 := by decide
  omega
theorem mem_rest2 {l : List Span} {s : Span} {x : Int} : decide (x ∈ rowsOf ((parts l s).map fun p => (p.first, endO p))) = ((parts l s).any fun p => decide (p.first ≤ x) && decide (x < endO p)) := by
  rw [← mem_rest, decide_eq_decide, mem_dedupI]
section
variable {K : PySem.W.Frag} {N : Addr → Prop} {σ : L2.St} {H : Hp} {te ta tb : TE} {d : PyData}
/-- list(range(a, b)) -/
theorem ed_listRg {a b : Int} (ha : EvD N ta σ H (.int a)) (hb : EvD N tb σ H (.int b)) (h : RgOk a b) : EvD N (tLstRg (tRg2 ta tb)) σ H (.list ((upTo a (b - a).toNat).map .int)) := fun N1 H1 l n Q q =>
  ha N1 H1 l n _ fun v1 H2 e2 d1 => hb N1 H2 (l.ex e2) (n.ex e2) _ fun v2 H3 e3 d2 => ⟨a, b, d1.int_inv, d2.int_inv, h, fun p hp => q _ _ ((e2.trans e3).trans (ex_new hp)) (.lst (((n.ex e2).ex e3).fresh hp) upd_same (by
    have e : rgV a b = (upTo a (b - a).toNat).map V.int := by
      unfold rgV upTo
      rw [List.map_map]
      rfl
    rw [e]
    exact DNs.of_ints _))⟩
theorem rc_sumS {ns : List Int} (h : isSeqD d (ns.map .int)) : RCD N H (rSum2 K) [d] (.int ns.sum) := by
  rcases h with rfl | rfl
  · exact rc_sumL
  · exact rc_sumT
theorem rc_minS {ns : List Int} (h : isSeqD d (ns.map .int)) (hn : ns ≠ []) : RCD N H (rMin2 K) [d] (.int (minI ns)) := by
  rcases h with rfl | rfl
  · exact rc_minL hn
  · exact rc_minT hn
theorem rc_maxS {ns : List Int} (h : isSeqD d (ns.map .int)) (hn : ns ≠ []) : RCD N H (rMax2 K) [d] (.int (maxI ns)) := by
  rcases h with rfl | rfl
  · exact rc_maxL hn
  · exact rc_maxT hn
theorem canLay_spans : ∀ l : List Span, PyData.canLayAll0 (l.map spD) = true
  | [] => rfl
  | s :: r => by
    rw [List.map_cons, PyData.canLayAll0, canLay_spans r, PyData.canLay0, canLay_ints]
    rfl
theorem depth_spans : ∀ l : List Span, PyData.depthAll (l.map spD) ≤ 1
  | [] => by rw [List.map_nil, PyData.depthAll]; omega
  | s :: r => by
    have h := depth_spans r
    rw [List.map_cons, PyData.depthAll, PyData.depth, depth_intsL]
    omega
theorem sh_spans (l : List Span) : SeqAt.shaped (.list (l.map spD)) = true := by
  unfold SeqAt.shaped
  have h := depth_spans l
  rw [PyData.canLay0, canLay_spans, PyData.depth]
  exact decide_eq_true (by omega)
theorem eqv_nil (l : List Span) : PyData.eqv (.list (l.map spD)) (.list []) = l.isEmpty := by
  cases l <;> simp [PyData.eqv, PyData.eqvAll]
theorem r_eqNil {l : List Span} : R2D N H (rEqD K) (.list (l.map spD)) (.list []) (.bool l.isEmpty) := by
  rw [← eqv_nil]
  exact r_eq (sh_spans l) rfl
theorem r_neNil {l : List Span} : R2D N H (rNeD K) (.list (l.map spD)) (.list []) (.bool (!l.isEmpty)) := by
  rw [← eqv_nil]
  exact r_ne (sh_spans l) rfl
end
section
variable {P : Program} {w : World} {K : PySem.W.Frag} {mg : Str → Option Value} {base : Heap} {f : Addr} {fd : FuncData}
def RfirstL : List PyData → PyData → Prop := fun as d => ∃ l : List Span, as = [.list (l.map spD)] ∧ l.length ≤ 1000 ∧ d = firstD (firstX l)
def RrestL : List PyData → PyData → Prop := fun as d => ∃ (l : List Span) (s : Span), as = [.list (l.map spD), spD s] ∧ (∀ t ∈ l, Good t) ∧ l.length ≤ 1000 ∧ Good s ∧ d = .list ((restRows l s).map .int)
def RallL : List PyData → PyData → Prop := fun as d => ∃ (n : Nat) (lo hi : Int), as = [.int n, .int lo, .int hi] ∧ n ≤ 6 ∧ -1000 ≤ lo ∧ lo ≤ 1000 ∧ -1000 ≤ hi ∧ hi ≤ 1000 ∧ hi + 1 - lo ≤ 8 ∧ d = .list ((allT n lo (hi + 1 - lo).toNat).map tupD)
theorem ok_l_in (F : Fun K "_law_in" "_law_in" s_l_in f fd) : FnOk P w K mg base CX0 1 f fd ["_law_one", "_law_other"] (PureSp Rinside) := by
  refine F.ok sc_l_in (pure_len fun as d ⟨s, t, h, _⟩ => by rw [h]; rfl) (fun cdv A outer st H vs Q E hr h => ?_)
  obtain ⟨N, as, d, n, hv0, ⟨s, t, rfl, rfl⟩, q⟩ := h
  obtain ⟨v, v', rfl, hv, hv'⟩ := two_args hv0
  refine ⟨_, (pss_one (ps_ret (pe_and (pe_cmpR op_leU (pe_ix ix_seq (pv 1) pe_int (fun _ _ => rfl)) (pe_ix ix_seq (pv 0) pe_int (fun _ _ => rfl)) (nomark _)) (pe_one (pe_cmpR op_leU (pe_op op_addU (pe_ix ix_seq (pv 0) pe_int (fun _ _ => rfl)) (pe_ix ix_seq (pv 0) pe_int (fun _ _ => rfl))) (pe_op op_addU (pe_ix ix_seq (pv 1) pe_int (fun _ _ => rfl)) (pe_ix ix_seq (pv 1) pe_int (fun _ _ => rfl))) (nomark _)))))), ?_⟩
  have ev : EvD N (tVar 0) (start ["_law_one", "_law_other"] [v, v']) H (spD s) := ed_var (i := 0) rfl hv
  have ev' : EvD N (tVar 1) (start ["_law_one", "_law_other"] [v, v']) H (spD t) := ed_var (i := 1) rfl hv'
  exact s_ret n (ed_andB (ed_op (e_first ev') (e_first ev) r_le) fun _ => ed_op (ed_op (e_first ev) (e_many ev) r_add) (ed_op (e_first ev') (e_many ev') r_add) r_le) q
theorem ok_l_crossed (F : Fun K "_law_crossed" "_law_crossed" s_l_crossed f fd) (T : Gl0 mg) (G_l_in : Has P w K mg base CX0 1 "_law_in" ["_law_one", "_law_other"] (PureSp Rinside)) : FnOk P w K mg base CX0 2 f fd ["_law_spans_here"] (PureSp RfirstL) := by
  refine F.ok sc_l_crossed (pure_len fun as d ⟨s, h, _⟩ => by rw [h]; rfl) (fun cdv A outer st H vs Q E hr h => ?_)
  obtain ⟨N, as, d, n, hv0, ⟨l, rfl, hl, rfl⟩, q⟩ := h
  obtain ⟨v, rfl, hv⟩ := one_arg hv0
  refine ⟨_, (pss_cons (ps_for PassesOwn.never rfl (pi_range1 (by rfl) T.range (pa_cons (pe_callB cr_len1 (by rfl) T.len (by decide +kernel) (pa_cons (pv 0) pa_nil)) pa_nil)) (pg_name (i := 1) sc_l_crossed.nd rfl (by first | exact Or.inl rfl | exact Or.inr rfl)) (pss_one (ps_for PassesOwn.never rfl (pi_seq (pe_slice sl_U (pv 0) (po_some (pe_op op_addU (pv 1) pe_int)) po_none)) (pg_name (i := 2) sc_l_crossed.nd rfl (by first | exact Or.inl rfl | exact Or.inr rfl)) (pss_cons (ps_set (i := 3) sc_l_crossed.nd rfl (Or.inl rfl) (pe_ix ix_seq (pv 0) (pv 1) (fun _ _ => rfl))) (pss_cons (ps_set (i := 4) sc_l_crossed.nd rfl (Or.inl rfl) (pe_or (pe_cmpR op_leU (pe_op op_addU (pe_ix ix_seq (pv 3) pe_int (fun _ _ => rfl)) (pe_ix ix_seq (pv 3) pe_int (fun _ _ => rfl))) (pe_ix ix_seq (pv 2) pe_int (fun _ _ => rfl)) (nomark _)) (pe_one (pe_cmpR op_leU (pe_op op_addU (pe_ix ix_seq (pv 2) pe_int (fun _ _ => rfl)) (pe_ix ix_seq (pv 2) pe_int (fun _ _ => rfl))) (pe_ix ix_seq (pv 3) pe_int (fun _ _ => rfl)) (nomark _))))) (pss_one (ps_if (PW.pt (pw_and (pt_not (pt_val (pv 4))) (pw_and1 (PW.pt (pw_or (pt_cmpR (op_eqD hr.units) (pe_slice sl_U (pv 3) po_none (po_some pe_int)) (pe_slice sl_U (pv 2) po_none (po_some pe_int)) (nomark _)) (pw_or1 (PW.pt (pw_and (pt_not (pt_val (pe_callH G_l_in hr (by rfl) pass0 (pa_cons (pv 3) (pa_cons (pv 2) pa_nil))))) (pw_and1 (pt_not (pt_val (pe_callH G_l_in hr (by rfl) pass0 (pa_cons (pv 2) (pa_cons (pv 3) pa_nil)))))))))))))) (pss_one (ps_ret (pe_tup (pa_cons (pv 3) (pa_cons (pv 2) pa_nil))))) pss_nil))))))) (pss_one (ps_ret pe_non))), ?_⟩
  refine s_forR (m := ((l.map spD).length : Int)) (fun H0 i σ1 H1 => Ex H0 H1 ∧ ∃ x1 x2 x3 x4, σ1 = [some v, x1, x2, x3, x4] ∧ firstX l = firstX (l.drop i)) (ea_cons (ed_cb (ea_cons (ed_var (i := 0) rfl hv) ea_nil) rc_lenL) ea_nil) (by rw [List.length_map]; omega) n (fun H1 e => ⟨Ex.rfl', _, _, _, _, rfl, rfl⟩) (fun H0 e0 i σ1 H1 hi hP => ?_) fun H0 e0 σ1 H1 hP => ?_
  · obtain ⟨e1, x1, x2, x3, x4, rfl, hf⟩ := hP
    have hi' : i < l.length := by rw [List.length_map] at hi; omega
    obtain ⟨a, ha⟩ : ∃ a, l[i]? = some a := ⟨_, List.getElem?_eq_getElem hi'⟩
    rw [drop_get ha] at hf
    have n1 := (n.ex e0).ex e1
    have hv1 := (hv.ex e0).ex e1
    refine s_forS (d := .list ((l.drop (i + 1)).map spD)) (fun H0' j σ2 H2 => Ex H0' H2 ∧ ∃ x2 x3 x4, σ2 = [some v, some (.int i), x2, x3, x4] ∧ (l.drop (i + 1)).find? (crossB a) = ((l.drop (i + 1)).drop j).find? (crossB a))
      ?_ (.inl rfl) n1 (fun H2 e2 => ⟨Ex.rfl', _, _, _, rfl, rfl⟩) (fun H0' e0' j σ2 H2 h => .of h.1) (fun H0' e0' j y vy σ2 H2 hy hP hvy => ?_) fun H0' e0' σ2 H2 hP => ?_
    · refine (ed_slL (ed_var (i := 0) rfl hv1) (eo_some (i := ((i + 1 : Nat) : Int)) (ed_op (ed_var (i := 1) rfl (.int _)) ed_int r_add)) eo_none).is ?_
      rw [cut_from, List.map_drop]
    · obtain ⟨e2, y2, y3, y4, rfl, hfi⟩ := hP
      obtain ⟨b, hb, rfl⟩ := map_get hy
      rw [drop_get hb, List.find?_cons] at hfi
      have n2 := (n1.ex e0').ex e2
      have hv2 := (hv1.ex e0').ex e2
      refine s_set n2 (d := spD a) (ed_op (ed_var (i := 0) rfl hv2) (ed_var (i := 1) rfl (.int _)) (r_ixL (atI_nat (by rw [List.getElem?_map, ha]; rfl)))) fun w3 H3 e3 hw3 => ?_
      have o1 : ∀ {y4 : Option V} {H' : Hp}, Ex H3 H' → EvD N (tVar 3) [some v, some (.int i), some vy, some w3, y4] H' (spD a) := fun e => ed_var (i := 3) rfl (hw3.ex e)
      have o2 : ∀ {y4 : Option V} {H' : Hp}, Ex H3 H' → EvD N (tVar 2) [some v, some (.int i), some vy, some w3, y4] H' (spD b) := fun e => ed_var (i := 2) rfl ((hvy.ex e3).ex e)
      have n3 := n2.ex e3
      refine s_set n3 (d := .bool (isApart a b)) (ed_orB (ed_op (ed_op (e_first (o1 Ex.rfl')) (e_many (o1 Ex.rfl')) r_add) (e_first (o2 Ex.rfl')) r_le) fun _ => ed_op (ed_op (e_first (o2 Ex.rfl')) (e_many (o2 Ex.rfl')) r_add) (e_first (o1 Ex.rfl')) r_le) fun w4 H4 e4 hw4 => ?_
      have sl : ∀ {te : TE} {s : Span} {σ' : L2.St} {H' : Hp}, EvD N te σ' H' (spD s) → EvD N (tSl (rSlU K) te tNoPart (tPart (tC (.int 2)))) σ' H' (tupD [s.first, s.many]) := fun h => (ed_slT h eo_none (eo_some ed_int)).is (congrArg PyData.tuple (cut_to _ 2))
      refine s_ifL (x := crossB a b) (n3.ex e4) ((eb_and (eb_not (eb_B (ed_var (i := 4) rfl hw4))) fun _ => eb_or (eb_test (ed_op (sl (o1 e4)) (sl (o2 e4)) r_eqT)) fun _ => eb_and (eb_not (eb_B (ed_call (ea_cons (o1 e4) (ea_cons (o2 e4) ea_nil)) ⟨a, b, rfl, rfl⟩))) fun _ => eb_not (eb_B (ed_call (ea_cons (o2 e4) (ea_cons (o1 e4) ea_nil)) ⟨b, a, rfl, rfl⟩))).is (crossL_eq a b)) (fun ex H5 e5 => ?_) fun ex H5 e5 => ?_
      · have e45 := e4.trans e5
        refine s_ret ((n3.ex e4).ex e5) (ed_tup (ea_cons (o1 e45) (ea_cons (o2 e45) ea_nil)) (by show 2 ≤ sizeLine; decide)) fun u H6 e6 hu => ?_
        have ef : firstX l = some (a, b) := by
          rw [hf]
          show (match (l.drop (i + 1)).find? (crossB a) with
            | some b => some (a, b)
            | none => firstX (l.drop (i + 1))) = _
          rw [hfi, ex]
        rw [ef] at q
        exact q u H6 ((((((e0.trans e1).trans e0').trans e2).trans e3).trans e45).trans e6) hu
      · refine ⟨((e2.trans e3).trans e4).trans e5, _, _, _, rfl, ?_⟩
        rw [hfi, ex]
    · obtain ⟨e2, y2, y3, y4, rfl, hfi⟩ := hP
      rw [List.length_map, List.drop_length] at hfi
      refine ⟨(e1.trans e0').trans e2, _, _, _, _, rfl, ?_⟩
      rw [hf]
      show (match (l.drop (i + 1)).find? (crossB a) with
        | some b => some (a, b)
        | none => firstX (l.drop (i + 1))) = _
      rw [hfi]; rfl
  · obtain ⟨e1, x1, x2, x3, x4, rfl, hf⟩ := hP
    rw [Int.toNat_natCast, List.length_map, List.drop_length] at hf
    dsimp only
    refine s_ret ((n.ex e0).ex e1) ed_non fun u H2 e2 hu => ?_
    rw [hf] at q
    exact q u H2 ((e0.trans e1).trans e2) hu
theorem ok_l_parts (F : Fun K "_law_parts" "_law_parts" s_l_parts f fd) (T : Gl0 mg) (G_l_in : Has P w K mg base CX0 1 "_law_in" ["_law_one", "_law_other"] (PureSp Rinside)) : FnOk P w K mg base CX0 2 f fd ["_law_spans_here", "_law_span"] (PureSp Rparts) := by
  refine F.ok sc_l_parts (pure_len fun as d ⟨l, s, d0, h, _⟩ => by rw [h]; rfl) (fun cdv A outer st H vs Q E hr h => ?_)
  obtain ⟨N, as, d, n, hv0, ⟨l, s, d0, rfl, hd0, hl, rfl⟩, q⟩ := h
  obtain ⟨v, v', rfl, hv, hv'⟩ := two_args hv0
  refine ⟨_, (pss_cons (ps_set (i := 2) sc_l_parts.nd rfl (Or.inr rfl) (pe_lc (own := [("_law_one", 3)]) (g := gName 3) rfl sc_l_parts.nd (pi_seq (pv 0)) (blkOk_by (N := ["_law_spans_here", "_law_span", "_law_inside", "_law_one", "_law_other"]) (sc := defScope s_l_parts) (by decide +kernel)) (fun _ _ _ _ _ => pg_name (i := 3) sc_l_parts.nd rfl (by first | exact Or.inl rfl | exact Or.inr rfl)) (fun _ _ _ _ _ => pts_one (PW.pt (pw_and (pt_cmpR (op_neDK (K := K) rfl hr.units) (pv 3) (pv 1) (nomark _)) (pw_and1 (pt_val (pe_callH G_l_in hr (by rfl) pass0 (pa_cons (pv 3) (pa_cons (pv 1) pa_nil)))))))) (fun _ _ _ _ _ => (pv 3)))) (pss_one (ps_ret (pe_lc (own := [("_law_one", 3)]) (g := gName 3) rfl sc_l_parts.nd (pi_seq (pv 2)) (blkOk_by (N := ["_law_spans_here", "_law_span", "_law_inside", "_law_one", "_law_other"]) (sc := defScope s_l_parts) (by decide +kernel)) (fun _ _ _ _ _ => pg_name (i := 3) sc_l_parts.nd rfl (by first | exact Or.inl rfl | exact Or.inr rfl)) (fun _ _ _ _ _ => pts_one (pt_cmpR (op_eqDK (K := K) rfl hr.units) (pe_lc (own := [("_law_other", 4)]) (g := gName 4) rfl sc_l_parts.nd (pi_seqK (K := K) rfl (pv 2)) (blkOk_by (N := ["_law_spans_here", "_law_span", "_law_inside", "_law_one", "_law_other"]) (sc := relS _ (defScope s_l_parts)) (by decide +kernel)) (fun _ _ _ _ _ => pg_name (i := 4) sc_l_parts.nd rfl (by first | exact Or.inl rfl | exact Or.inr rfl)) (fun _ _ _ _ _ => pts_one (PW.pt (pw_and (pt_cmpR (op_neDK (K := K) rfl hr.units) (pv 4) (pv 3) (nomark _)) (pw_and1 (pt_val (pe_callH G_l_in hr (by rfl) pass0 (pa_cons (pv 3) (pa_cons (pv 4) pa_nil)))))))) (fun _ _ _ _ _ => (pv 4))) (pe_lst pa_nil) (nomark _))) (fun _ _ _ _ _ => (pv 3)))))), ?_⟩
  have hz : l.length ≤ sizeLine := by rw [sizeLine_eq]; omega
  refine s_set n (d := .list ((inside l s).map spD)) ((ed_lsS (fun d => decide (ofD d ≠ s) && ins (ofD d) s) id hd0 (ed_var (i := 0) rfl hv) (by rw [List.length_map]; exact hz) (fun _ => rfl) ?_).is (congrArg PyData.list (kept_spans _ _ (fun s => rfl) l))) fun v2 H1 e1 hv2 => ?_
  · intro x hx N1 H1 v1 l1 n1 hv1
    obtain ⟨a, ha, rfl⟩ := mem_map' hx
    have o1 : EvD N1 (tVar 3) (blkSt (start ["_law_spans_here", "_law_span", "_law_inside", "_law_one", "_law_other"] [v, v']) [3] 3 v1) H1 (spD a) := ed_var (i := 3) rfl hv1
    have o2 : EvD N1 (tVar 1) (blkSt (start ["_law_spans_here", "_law_span", "_law_inside", "_law_one", "_law_other"] [v, v']) [3] 3 v1) H1 (spD s) := ed_var (i := 1) rfl (hv'.le l1)
    refine ⟨?_, fun _ => o1⟩
    refine (eb_and (eb_test (ed_op o1 o2 r_neS)) fun _ => eb_B (ed_call (ea_cons o1 (ea_cons o2 ea_nil)) ⟨a, s, rfl, rfl⟩)).is ?_
    show (!decide (a = s) && ins a s) = (decide (a ≠ s) && ins a s)
    rw [decide_not]
  · have hz2 : (inside l s).length ≤ sizeLine := Nat.le_trans (List.length_filter_le _ _) hz
    refine s_ret (n.ex e1) ((ed_lsL (fun d => !((inside l s).any fun t => decide (t ≠ ofD d) && ins (ofD d) t)) id (ed_var (i := 2) rfl hv2) (by rw [List.length_map]; exact hz2) (fun _ => rfl) ?_).is (congrArg PyData.list (kept_spans _ _ (fun s => rfl) _))) fun v3 H2 e2 hv3 => q v3 H2 (e1.trans e2) hv3
    intro x hx N1 H2 v1 l1 n1 hv1
    obtain ⟨a, ha, rfl⟩ := mem_map' hx
    refine ⟨?_, fun _ => ed_var (i := 3) rfl hv1⟩
    refine (eb_test (ed_op ((ed_lsL (fun d => decide (ofD d ≠ a) && ins a (ofD d)) id (ed_var (i := 2) rfl (hv2.le l1)) (by rw [List.length_map]; exact hz2) (fun _ => rfl) ?_).is (congrArg PyData.list (kept_spans (fun t : Span => decide (t ≠ a) && ins a t) _ (fun s => rfl) (inside l s)))) (ed_lst ea_nil (Nat.zero_le _)) r_eqNil)).is ?_
    · intro y hy N3 H3 v4 l3 n3 hv4
      obtain ⟨b, hb, rfl⟩ := mem_map' hy
      have o1 : EvD N3 (tVar 3) (blkSt (blkSt [some v, some v', some v2, none, none] [3] 3 v1) [4] 4 v4) H3 (spD a) := ed_var (i := 3) rfl (hv1.le l3)
      have o2 : EvD N3 (tVar 4) (blkSt (blkSt [some v, some v', some v2, none, none] [3] 3 v1) [4] 4 v4) H3 (spD b) := ed_var (i := 4) rfl hv4
      refine ⟨?_, fun _ => o2⟩
      refine (eb_and (eb_test (ed_op o2 o1 r_neS)) fun _ => eb_B (ed_call (ea_cons o1 (ea_cons o2 ea_nil)) ⟨a, b, rfl, rfl⟩)).is ?_
      show (!decide (b = a) && ins a b) = (decide (b ≠ a) && ins a b)
      rw [decide_not]
    · show ((inside l s).filter fun t => decide (t ≠ a) && ins a t).isEmpty = !(inside l s).any fun t => decide (t ≠ a) && ins a t
      generalize (inside l s) = m
      rw [Bool.eq_iff_iff, List.isEmpty_iff, List.filter_eq_nil_iff, Bool.not_eq_true', List.any_eq_false]
theorem ok_l_rest (F : Fun K "_law_rest" "_law_rest" s_l_rest f fd) (T : Gl0 mg) (G_l_parts : Has P w K mg base CX0 2 "_law_parts" ["_law_spans_here", "_law_span"] (PureSp Rparts)) : FnOk P w K mg base CX0 3 f fd ["_law_spans_here", "_law_span"] (PureSp RrestL) := by
  refine F.ok sc_l_rest (pure_len fun as d ⟨l, s, h, _⟩ => by rw [h]; rfl) (fun cdv A outer st H vs Q E hr h => ?_)
  obtain ⟨N, as, d, n, hv0, ⟨l, s, rfl, gl, ll, gs, rfl⟩, q⟩ := h
  obtain ⟨v, v', rfl, hv, hv'⟩ := two_args hv0
  refine ⟨_, (pss_cons (ps_set (i := 2) sc_l_rest.nd rfl (Or.inl rfl) (pe_callH G_l_parts hr (by rfl) pass0 (pa_cons (pv 0) (pa_cons (pv 1) pa_nil)))) (pss_cons (ps_set (i := 3) sc_l_rest.nd rfl (Or.inr rfl) (pe_lst pa_nil)) (pss_cons (ps_for PassesOwn.never rfl (pi_seq (pv 2)) (pg_name (i := 4) sc_l_rest.nd rfl (by first | exact Or.inl rfl | exact Or.inr rfl)) (pss_one (ps_set (i := 3) sc_l_rest.nd rfl (Or.inr rfl) (pe_op op_addU (pv 3) (pe_listRg rfl (by rfl) T.list (prg_2 (by rfl) T.range (pe_ix ix_seq (pv 4) pe_int (fun _ _ => rfl)) (pe_op op_addU (pe_ix ix_seq (pv 4) pe_int (fun _ _ => rfl)) (pe_ix ix_seq (pv 4) pe_int (fun _ _ => rfl))))))))) (pss_one (ps_ret (pe_lc (own := [("_law_row", 5)]) (g := gName 5) rfl sc_l_rest.nd (pi_range2 (by rfl) T.range (pa_cons (pe_ix ix_seq (pv 1) pe_int (fun _ _ => rfl)) (pa_cons (pe_op op_addU (pe_ix ix_seq (pv 1) pe_int (fun _ _ => rfl)) (pe_ix ix_seq (pv 1) pe_int (fun _ _ => rfl))) pa_nil))) (blkOk_by (N := ["_law_spans_here", "_law_span", "_law_parts_here", "_law_told", "_law_part", "_law_row"]) (sc := defScope s_l_rest) (by decide +kernel)) (fun _ _ _ _ _ => pg_name (i := 5) sc_l_rest.nd rfl (by first | exact Or.inl rfl | exact Or.inr rfl)) (fun _ _ _ _ _ => pts_one (pt_cmpR (op_notInK (K := K) rfl) (pv 5) (pv 3) (by rfl))) (fun _ _ _ _ _ => (pv 5)))))))), ?_⟩
  have gp : ∀ t ∈ parts l s, Good t := fun t ht => gl t (parts_mem ht)
  have lp : (parts l s).length ≤ 1000 := Nat.le_trans (parts_len l s) ll
  have bl : ((parts l s).map fun p => (p.first, endO p)).length ≤ 1000 := by rw [List.length_map]; exact lp
  have hb : ∀ b ∈ (parts l s).map (fun p => (p.first, endO p)), 0 ≤ b.1 ∧ b.1 ≤ 1000 ∧ 0 ≤ b.2 ∧ b.2 ≤ 2000 ∧ b.2 - b.1 ≤ 1000 := by
    intro b hb
    obtain ⟨p, hp, rfl⟩ := List.mem_map.mp hb
    have g := gp p hp
    have := g.f0; have := g.f1; have := g.m0; have := g.m1
    unfold endO
    dsimp only
    omega
  refine s_set n (d := .list ((parts l s).map spD)) (ed_call (ea_cons (ed_var (i := 0) rfl hv) (ea_cons (ed_var (i := 1) rfl hv') ea_nil)) ⟨l, s, _, rfl, .inl rfl, ll, rfl⟩) fun v2 H1 e1 hv2 => ?_
  have n1 := n.ex e1
  refine s_set n1 (d := .list []) (ed_lst ea_nil (Nat.zero_le _)) fun v3 H2 e2 hv3 => ?_
  have n2 := n1.ex e2
  show tSeq _ _ _ [some v, some v', some v2, some v3, none, none] H2
  refine s_forS (d := .list ((parts l s).map spD)) (fun H0 i σ1 H3 => Ex H0 H3 ∧ ∃ v3 x4 x5, σ1 = [some v, some v', some v2, some v3, x4, x5] ∧ DN N H3 v3 (.list ((rowsOf (((parts l s).map fun p => (p.first, endO p)).take i)).map .int)))
    (ed_var (i := 2) rfl (hv2.ex e2)) (.inl rfl) n2 (fun H3 e3 => ⟨Ex.rfl', _, _, _, rfl, hv3.ex e3⟩) (fun H0 e0 i σ1 H3 h => .of h.1) (fun H0 e0 i x vx σ1 H3 hx hP hvx => ?_) fun H0 e0 σ1 H3 hP => ?_
  · obtain ⟨e3, w3, x4, x5, rfl, hw3⟩ := hP
    obtain ⟨p, hp, rfl⟩ := map_get hx
    have n3 := (n2.ex e0).ex e3
    have ep : EvD N (tVar 4) [some v, some v', some v2, some w3, some vx, x5] H3 (spD p) := ed_var (i := 4) rfl hvx
    have hbi : ((parts l s).map fun p => (p.first, endO p))[i]? = some (p.first, endO p) := by rw [List.getElem?_map, hp]; rfl
    have bp := hb _ (List.mem_of_getElem? hbi)
    dsimp only at bp
    have hsz := rowsOf_take_len hbi (Nat.le_refl _)
    have hsz2 := rows_small bl fun b h => (hb b h).2.2.2.2
    refine s_set1 n3 (ed_op (ed_var (i := 3) rfl hw3) (ed_listRg (e_first ep) (ed_op (e_first ep) (e_many ep) r_add) ?_) (r_addL ?_)) fun w H4 e4 hw => ⟨e3.trans e4, _, _, _, rfl, ?_⟩
    · unfold endO at bp
      unfold RgOk
      omega
    · rw [List.length_map, List.length_map, ← List.length_append, sizeLine_eq]
      unfold endO at hsz hsz2 ⊢
      dsimp only at hsz
      omega
    · rw [take_get hbi, rowsOf_snoc, List.map_append]
      exact hw
  · obtain ⟨e3, w3, x4, x5, rfl, hw3⟩ := hP
    rw [List.length_map, List.take_of_length_le (by rw [List.length_map]; exact Nat.le_refl _)] at hw3
    have n3 := (n2.ex e0).ex e3
    have e13 := ((e1.trans e2).trans e0).trans e3
    have es : EvD N (tVar 1) [some v, some v', some v2, some w3, x4, x5] H3 (spD s) := ed_var (i := 1) rfl (hv'.ex e13)
    have em : (s.first + s.many - s.first).toNat = s.many.toNat := by congr 1; omega
    dsimp only
    refine s_ret n3 (d := .list ((restRows l s).map .int)) ((ed_lcR2 (fun d => !decide (intOf d ∈ rowsOf ((parts l s).map fun p => (p.first, endO p)))) id (ea_cons (e_first es) (ea_cons (ed_op (e_first es) (e_many es) r_add) ea_nil)) ?_ (fun _ => rfl) ?_).is ?_) fun u H4 e4 hu => q u H4 (e13.trans e4) hu
    · have := gs.f0; have := gs.f1; have := gs.m0; have := gs.m1
      omega
    · intro x hx N4 H4 v4 l4 n4 hv4
      obtain ⟨r, hr', rfl⟩ := mem_map' hx
      exact ⟨eb_test (ed_op (ed_var (i := 5) rfl hv4) (ed_var (i := 3) rfl (hw3.le l4)) r_notin), fun _ => ed_var (i := 5) rfl hv4⟩
    · rw [em, kept_ints _ (fun r => !((parts l s).any fun p => decide (p.first ≤ r) && decide (r < endO p))) (fun x => congrArg not (mem_rest2 (l := l) (s := s) (x := x)))]
      rfl
theorem ok_l_all (F : Fun K "_law_all" "_law_all" s_l_all f fd) (T : Gl0 mg) : FnOk P w K mg base CX0 1 f fd ["_law_rows", "_law_least", "_law_most"] (PureSp RallL) := by
  refine F.ok sc_l_all (pure_len fun as d ⟨_, _, _, h, _⟩ => by rw [h]; rfl) (fun cdv A outer st H vs Q E hr h => ?_)
  obtain ⟨N, as, d, n, hv0, ⟨m, lo, hi, rfl, hm, b1, b2, b3, b4, b5, rfl⟩, q⟩ := h
  obtain ⟨v1, vs', rfl, h1, hv0⟩ := cons_args hv0
  obtain ⟨v2, v3, rfl, h2, h3⟩ := two_args hv0
  obtain rfl := h1.int_inv
  obtain rfl := h2.int_inv
  obtain rfl := h3.int_inv
  refine ⟨_, (pss_cons (ps_set (i := 3) sc_l_all.nd rfl (Or.inl rfl) (pe_lst (pa_cons (pe_tup pa_nil) pa_nil))) (pss_cons (ps_for PassesOwn.never rfl (pi_range1 (by rfl) T.range (pa_cons (pv 0) pa_nil)) (pg_name (i := 4) sc_l_all.nd rfl (by first | exact Or.inl rfl | exact Or.inr rfl)) (pss_cons (ps_set (i := 5) sc_l_all.nd rfl (Or.inl rfl) (pe_lst pa_nil)) (pss_cons (ps_for PassesOwn.never rfl (pi_seq (pv 3)) (pg_name (i := 6) sc_l_all.nd rfl (by first | exact Or.inl rfl | exact Or.inr rfl)) (pss_one (ps_set (i := 5) sc_l_all.nd rfl (Or.inl rfl) (pe_op op_addU (pv 5) (pe_lc (own := [("_law_value", 7)]) (g := gName 7) (tt := tYes) rfl sc_l_all.nd (pi_range2 (by rfl) T.range (pa_cons (pv 1) (pa_cons (pe_op op_addU (pv 2) pe_int) pa_nil))) (blkOk_by (N := ["_law_rows", "_law_least", "_law_most", "_law_found", "_law_row", "_law_longer", "_law_some", "_law_value"]) (sc := defScope s_l_all) (by decide +kernel)) (fun _ _ _ _ _ => pg_name (i := 7) sc_l_all.nd rfl (by first | exact Or.inl rfl | exact Or.inr rfl)) (fun _ _ _ _ _ => pts_nil) (fun _ _ _ _ _ => (pe_op (op_addUK (K := K) rfl) (pv 6) (pe_tup (pa_cons (pv 7) pa_nil))))))))) (pss_one (ps_set (i := 3) sc_l_all.nd rfl (Or.inl rfl) (pv 5)))))) (pss_one (ps_ret (pv 3))))), ?_⟩
  obtain ⟨k, ek⟩ : ∃ k, k = (hi + 1 - lo).toNat := ⟨_, rfl⟩
  have hk : k ≤ 8 := by omega
  rw [← ek] at q
  refine s_set n (d := .list ((allT 0 lo k).map tupD)) (ed_lst (ea_cons (ed_tup ea_nil (Nat.zero_le _)) ea_nil) (by show 1 ≤ sizeLine; decide)) fun w3 H1 e1 hw3 => ?_
  have n1 := n.ex e1
  refine s_forR (m := (m : Int)) (fun H0 i σ1 H2 => Ex H0 H2 ∧ ∃ w3 x4 x5 x6 x7, σ1 = [some (.int m), some (.int lo), some (.int hi), some w3, x4, x5, x6, x7] ∧ DN N H2 w3 (.list ((allT i lo k).map tupD))) (ea_cons (ed_var (i := 0) rfl (.int _)) ea_nil) (by omega) n1 (fun H2 e2 => ⟨Ex.rfl', _, _, _, _, _, rfl, hw3.ex e2⟩) (fun H0 e0 i σ1 H2 hi' hP => ?_) fun H0 e0 σ1 H2 hP => ?_
  · obtain ⟨e2, w3, x4, x5, x6, x7, rfl, hw3⟩ := hP
    have n2 := (n1.ex e0).ex e2
    have hall : k ^ (i + 1) ≤ 262144 := pow_small (by omega) hk
    refine s_set n2 (d := .list []) (ed_lst ea_nil (Nat.zero_le _)) fun w5 H3 e3 hw5 => ?_
    have n3 := n2.ex e3
    refine s_forS (d := .list ((allT i lo k).map tupD)) (fun H0' j σ2 H4 => Ex H0' H4 ∧ ∃ w5 x6 x7, σ2 = [some (.int m), some (.int lo), some (.int hi), some w3, some (.int i), some w5, x6, x7] ∧ DN N H4 w5 (.list ((((allT i lo k).take j).flatMap fun v => (upTo lo k).map fun x => v ++ [x]).map tupD)))
      (ed_var (i := 3) rfl (hw3.ex e3)) (.inl rfl) n3 (fun H4 e4 => ⟨Ex.rfl', _, _, _, rfl, hw5.ex e4⟩) (fun H0' e0' j σ2 H4 h => .of h.1) (fun H0' e0' j y vy σ2 H4 hy hP hvy => ?_) fun H0' e0' σ2 H4 hP => ?_
    · obtain ⟨e4, w5, x6, x7, rfl, hw5⟩ := hP
      obtain ⟨ns, hns, rfl⟩ := map_get hy
      have n4 := (n3.ex e0').ex e4
      have len : (((allT i lo k).take j).flatMap fun v => (upTo lo k).map fun x => v ++ [x]).length ≤ 262144 := by
        have e : ∀ l : List (List Int), (l.flatMap fun v => (upTo lo k).map fun x => v ++ [x]).length = l.length * k := by
          intro l
          induction l with
          | nil => simp
          | cons v r ih =>
            rw [List.flatMap_cons, List.length_append, ih, List.length_map, upTo_len, List.length_cons, Nat.succ_mul]
            omega
        rw [e]
        have z : ((allT i lo k).take j).length ≤ k ^ i := by rw [← allT_len i lo k, List.length_take]; omega
        have z2 := Nat.mul_le_mul_right k z
        rw [Nat.pow_succ] at hall
        omega
      refine s_set1 n4 (ed_op (ed_var (i := 5) rfl hw5) (a := .list ((((allT i lo k).take j).flatMap fun v => (upTo lo k).map fun x => v ++ [x]).map tupD)) (b := .list (((upTo lo k).map fun x => ns ++ [x]).map tupD)) ((ed_lcR2 (fun _ => true) (fun d => tupD (ns ++ [intOf d])) (ea_cons (ed_var (i := 1) rfl (.int _)) (ea_cons (ed_op (ed_var (i := 2) rfl (.int _)) ed_int r_add) ea_nil)) ?_ (fun _ => rfl) ?_).is ?_) (r_addL ?_)) fun w H5 e5 hw => ⟨e4.trans e5, _, _, _, rfl, ?_⟩
      · omega
      · intro x hx N4 H5 v4 l4 n4' hv4
        obtain ⟨r, hr', rfl⟩ := mem_map' hx
        refine ⟨eb_yes, fun _ => (ed_op (ed_var (i := 6) rfl (hvy.le l4)) (ed_tup (ea_cons (ed_var (i := 7) rfl hv4) ea_nil) (by show 1 ≤ sizeLine; decide)) (r_addT ?_)).is ?_⟩
        · have z : ns.length ≤ 6 := by
            have zz : ∀ (i : Nat) (ns : List Int), ns ∈ allT i lo k → ns.length = i := by
              intro i
              induction i with
              | zero => intro ns h; have : ns = [] := by simpa [allT] using h
                        rw [this]; rfl
              | succ i ih =>
                intro ns h
                obtain ⟨v, hv, h⟩ := List.mem_flatMap.mp h
                obtain ⟨x, _, rfl⟩ := List.mem_map.mp h
                rw [List.length_append, ih v hv]; rfl
            have := zz i ns (List.mem_of_getElem? hns)
            omega
          rw [List.length_map, sizeLine_eq]
          show ns.length + 1 ≤ _
          omega
        · show PyData.tuple (ns.map .int ++ [.int r]) = PyData.tuple ((ns ++ [r]).map .int)
          rw [List.map_append]; rfl
      · rw [← ek]
        unfold keptD
        rw [List.filter_eq_self.mpr (fun _ _ => rfl), List.map_map, List.map_map]
        rfl
      · rw [List.length_map, List.length_map, List.length_map, upTo_len, sizeLine_eq]
        omega
      · rw [take_get hns, List.flatMap_append, List.map_append]
        have z : (List.flatMap (fun v => (upTo lo k).map fun x => v ++ [x]) [ns]) = (upTo lo k).map fun x => ns ++ [x] := by simp
        rw [z]
        exact hw
    · obtain ⟨e4, w5, x6, x7, rfl, hw5⟩ := hP
      rw [List.length_map, List.take_length] at hw5
      have n4 := (n3.ex e0').ex e4
      dsimp only
      refine s_set1 n4 (ed_var (i := 5) rfl hw5) fun w H5 e5 hw => ⟨(((e2.trans e3).trans e0').trans e4).trans e5, _, _, _, _, _, rfl, hw⟩
  · obtain ⟨e2, w3, x4, x5, x6, x7, rfl, hw3⟩ := hP
    rw [Int.toNat_natCast] at hw3
    dsimp only
    exact s_ret ((n1.ex e0).ex e2) (ed_var (i := 3) rfl hw3) fun u H3 e3 hu => q u H3 (((e1.trans e0).trans e2).trans e3) hu
end
end K14
/-! K14Law2 -/
set_option Elab.async false
set_option linter.all false
set_option maxRecDepth 100000
set_option maxHeartbeats 2000000
/-! The law's own defs: fits, choices, unfit. -/
namespace K14
open PySem PySem.Spec PyProof.Rows L2
structure Small (s : Span) : Prop where
  f0 : 0 ≤ s.first
  f1 : s.first ≤ 6
  m0 : 1 ≤ s.many
  m1 : s.many ≤ 6
  l0 : -2 ≤ s.low
  l1 : s.low ≤ 5
  h0 : -2 ≤ s.high
  h1 : s.high ≤ 5
  s0 : -100 ≤ s.sum
  s1 : s.sum ≤ 100
theorem Small.good {s : Span} (h : Small s) : Good s := ⟨h.f0, by have := h.f1; omega, h.m0, by have := h.m1; omega⟩
def cutI (vals : List Int) (s : Span) : List Int := (vals.drop s.first.toNat).take s.many.toNat
def fitsB (vals : List Int) (s : Span) : Bool := decide (((cutI vals s).length : Int) = s.many) && decide ([(cutI vals s).sum, minI (cutI vals s), maxI (cutI vals s)] = [s.sum, s.low, s.high])
def leastOf (l : List Span) : Int := minI (l.map (·.low))
def mostOf (l : List Span) : Int := maxI (l.map (·.high))
def choices (l : List Span) (rows : Nat) : List (List Int) :=
  if l.isEmpty then [List.replicate rows 0] else (allT rows (leastOf l) (mostOf l + 1 - leastOf l).toNat).filter fun v => l.all (fitsB v)
def goodRest (l : List Span) (s : Span) (v : List Int) : Bool :=
  decide (((parts l s).map (·.sum)).sum + v.sum = s.sum) && (decide (minI ((parts l s).map (·.low) ++ v) = s.low) && decide (maxI ((parts l s).map (·.high) ++ v) = s.high))
def unfitL (l : List Span) (s : Span) : Bool := !inRange s || (!partsIn l s || !((allT (restRows l s).length s.low (s.high + 1 - s.low).toNat).any (goodRest l s)))
def intsOf (d : PyData) : List Int := (itemsD d).map intOf
theorem intsOf_tupD (v : List Int) : intsOf (tupD v) = v := by
  show (v.map PyData.int).map intOf = v
  rw [List.map_map]
  exact List.map_id' v
theorem kept_tups (f : PyData → Bool) (p : List Int → Bool) (h : ∀ v, f (tupD v) = p v) (l : List (List Int)) : keptD f id (l.map tupD) = (l.filter p).map tupD := by
  unfold keptD
  rw [List.map_id, List.filter_map]
  congr 1
  exact List.filter_congr fun x _ => h x
theorem allT_mem_len : ∀ {n : Nat} {lo : Int} {k : Nat} {v : List Int}, v ∈ allT n lo k → v.length = n
  | 0, lo, k, v, h => by
    have : v = [] := by simpa [allT] using h
    rw [this]; rfl
  | n + 1, lo, k, v, h => by
    obtain ⟨u, hu, h⟩ := List.mem_flatMap.mp h
    obtain ⟨x, _, rfl⟩ := List.mem_map.mp h
    rw [List.length_append, allT_mem_len hu]; rfl
theorem rest_nil {l : List Span} {s : Span} (h : parts l s = []) : (restRows l s).length = s.many.toNat := by
  unfold restRows
  rw [h]
  have e : ((upTo s.first s.many.toNat).filter fun r => !(([] : List Span).any fun p => decide (p.first ≤ r) && decide (r < endO p))) = upTo s.first s.many.toNat := List.filter_eq_self.mpr fun _ _ => rfl
  rw [e, upTo_len]
theorem restRows_le (l : List Span) (s : Span) : (restRows l s).length ≤ s.many.toNat := by
  refine Nat.le_trans (List.length_filter_le _ _) ?_
  rw [upTo_len]; exact Nat.le_refl _
theorem cut_span (vals : List Int) {s : Span} (g : Good s) : cutD (vals.map .int) (some s.first) (some (s.first + s.many)) = (cutI vals s).map .int := by
  have e1 : s.first = (s.first.toNat : Int) := by have := g.f0; omega
  have e2 : s.first + s.many = ((s.first.toNat + s.many.toNat : Nat) : Int) := by have := g.f0; have := g.m0; omega
  have h := cut_mid (vals.map .int) s.first.toNat (s.first.toNat + s.many.toNat) (Nat.le_add_right _ _)
  rw [← e1, ← e2, Nat.add_sub_cancel_left, ← List.map_drop, ← List.map_take] at h
  exact h
section
variable {K : PySem.W.Frag} {N : Addr → Prop} {σ : L2.St} {H : Hp} {te ta tb : TE} {d : PyData}
theorem r_neT {a b : List Int} : R2D N H (rNeD K) (tupD a) (tupD b) (.bool (!decide (a = b))) := by
  rw [← eqv_tupD]; exact r_ne (sh_tupD a) (sh_tupD b)
/-- five names from a span -/
theorem g_unp5 {i1 i2 i3 i4 i5 : Nat} {s : Span} {v : V} {Q : L2.St → Hp → Prop} (h : DN N H v (spD s)) (q : Q (((((σ.set i1 (some (.int s.first))).set i2 (some (.int s.many))).set i3 (some (.int s.sum))).set i4 (some (.int s.low))).set i5 (some (.int s.high))) H) :
    gTup K 5 (gCons (gName i1) (gCons (gName i2) (gCons (gName i3) (gCons (gName i4) (gCons (gName i5) gNil))))) v σ H Q := by
  obtain ⟨p, xs, rfl, na, ea, hx⟩ := h.tup_inv
  have e := hx.ints
  subst e
  exact ⟨p, _, rfl, SqT.of ea, rfl, _, _, rfl, _, _, rfl, _, _, rfl, _, _, rfl, _, _, rfl, rfl, q⟩
theorem isEmpty_parts (l : List Span) (s : Span) : ((parts l s).filter fun p => decide (p.low < s.low) || decide (s.high < p.high)).isEmpty = partsIn l s := by
  unfold partsIn
  generalize parts l s = m
  rw [Bool.eq_iff_iff, List.isEmpty_iff, List.filter_eq_nil_iff, List.all_eq_true]
  refine forall_congr' fun p => imp_congr Iff.rfl ?_
  simp only [Bool.or_eq_true, Bool.and_eq_true, decide_eq_true_eq]
  omega
end
section
variable {P : Program} {w : World} {K : PySem.W.Frag} {mg : Str → Option Value} {base : Heap} {f : Addr} {fd : FuncData}
def RfitsL : List PyData → PyData → Prop := fun as d => ∃ (l : List Span) (vals : List Int) (dv : PyData), as = [.list (l.map spD), dv] ∧ isSeqD dv (vals.map .int) ∧ (∀ s ∈ l, Good s) ∧ d = .bool (l.all (fitsB vals))
def RchoicesL : List PyData → PyData → Prop := fun as d => ∃ (l : List Span) (rows : Nat), as = [.list (l.map spD), .int rows] ∧ (∀ s ∈ l, Small s) ∧ l.length ≤ 1000 ∧ 1 ≤ rows ∧ rows ≤ 5 ∧ d = .list ((choices l rows).map tupD)
def RunfitL : List PyData → PyData → Prop := fun as d => ∃ (l : List Span) (s : Span), as = [.list (l.map spD), spD s] ∧ (∀ s ∈ l, Small s) ∧ l.length ≤ 1000 ∧ Small s ∧ d = .bool (unfitL l s)
theorem ok_l_fits (F : Fun K "_law_fits" "_law_fits" s_l_fits f fd) (T : Gl0 mg) : FnOk P w K mg base CX0 1 f fd ["_law_spans_here", "_law_values"] (PureSp RfitsL) := by
  refine F.ok sc_l_fits (pure_len fun as d ⟨_, _, _, h, _⟩ => by rw [h]; rfl) (fun cdv A outer st H vs Q E hr h => ?_)
  obtain ⟨N, as, d, n, hv0, ⟨l, vals, dv, rfl, hs, gl, rfl⟩, q⟩ := h
  obtain ⟨v, v', rfl, hv, hv'⟩ := two_args hv0
  refine ⟨_, (pss_cons (ps_for PassesOwn.never rfl (pi_seq (pv 0)) (pg_tup rfl (pgs_cons (pg_name (i := 2) sc_l_fits.nd rfl (by first | exact Or.inl rfl | exact Or.inr rfl)) (pgs_cons (pg_name (i := 3) sc_l_fits.nd rfl (by first | exact Or.inl rfl | exact Or.inr rfl)) (pgs_cons (pg_name (i := 4) sc_l_fits.nd rfl (by first | exact Or.inl rfl | exact Or.inr rfl)) (pgs_cons (pg_name (i := 5) sc_l_fits.nd rfl (by first | exact Or.inl rfl | exact Or.inr rfl)) (pgs_cons (pg_name (i := 6) sc_l_fits.nd rfl (by first | exact Or.inl rfl | exact Or.inr rfl)) pgs_nil)))))) (pss_cons (ps_set (i := 7) sc_l_fits.nd rfl (Or.inl rfl) (pe_slice sl_U (pv 1) (po_some (pv 2)) (po_some (pe_op op_addU (pv 2) (pv 3))))) (pss_one (ps_if (PW.pt (pw_or (pt_cmpR (op_neD hr.units) (pe_callB cr_len1 (by rfl) T.len (by decide +kernel) (pa_cons (pv 7) pa_nil)) (pv 3) (nomark _)) (pw_or1 (pt_cmpR (op_neD hr.units) (pe_tup (pa_cons (pe_callB (cr_sum2 rfl) (by rfl) T.sum (by decide +kernel) (pa_cons (pv 7) pa_nil)) (pa_cons (pe_callB (cr_min2 rfl hr.units) (by rfl) T.min (by decide +kernel) (pa_cons (pv 7) pa_nil)) (pa_cons (pe_callB (cr_max2 rfl hr.units) (by rfl) T.max (by decide +kernel) (pa_cons (pv 7) pa_nil)) pa_nil)))) (pe_tup (pa_cons (pv 4) (pa_cons (pv 5) (pa_cons (pv 6) pa_nil)))) (nomark _))))) (pss_one (ps_ret pe_bl)) pss_nil)))) (pss_one (ps_ret pe_bl))), ?_⟩
  refine s_forS (d := .list (l.map spD)) (fun H0 i σ1 H1 => Ex H0 H1 ∧ (∃ x2 x3 x4 x5 x6 x7, σ1 = [some v, some v', x2, x3, x4, x5, x6, x7]) ∧ (l.take i).all (fitsB vals) = true) (ed_var (i := 0) rfl hv) (.inl rfl) n (fun H1 e1 => ⟨Ex.rfl', ⟨_, _, _, _, _, _, rfl⟩, rfl⟩) (fun H0 e0 i σ1 H1 h => .of h.1) (fun H0 e0 i x vx σ1 H1 hx hP hvx => ?_) fun H0 e0 σ1 H1 hP => ?_
  · obtain ⟨e1, ⟨x2, x3, x4, x5, x6, x7, rfl⟩, hall⟩ := hP
    obtain ⟨s, hs', rfl⟩ := map_get hx
    have gs := gl s (List.mem_of_getElem? hs')
    have n1 := (n.ex e0).ex e1
    refine g_unp5 hvx ?_
    obtain ⟨d', hd', ed'⟩ := ed_slS (K := K) (N := N) (H := H1) (σ := [some v, some v', some (.int s.first), some (.int s.many), some (.int s.sum), some (.int s.low), some (.int s.high), x7]) hs (ed_var (i := 1) rfl ((hv'.ex e0).ex e1)) (eo_some (ed_var (i := 2) rfl (.int _))) (eo_some (ed_op (ed_var (i := 2) rfl (.int _)) (ed_var (i := 3) rfl (.int _)) r_add))
    rw [cut_span vals gs] at hd'
    refine s_set n1 ed' fun w7 H2 e2 hw7 => ?_
    have n2 := n1.ex e2
    have o7 : EvD N (tVar 7) [some v, some v', some (.int s.first), some (.int s.many), some (.int s.sum), some (.int s.low), some (.int s.high), some w7] H2 d' := ed_var (i := 7) rfl hw7
    refine s_ifL (x := !fitsB vals s) n2 ?_ (fun ex H3 e3 => ?_) fun ex H3 e3 => ?_
    · refine (eb_or (eb_test (ed_op (ed_cb (ea_cons o7 ea_nil) (rc_lenS hd')) (ed_var (i := 3) rfl (.int _)) r_neI)) fun el => eb_test (ed_op (a := tupD [(cutI vals s).sum, minI (cutI vals s), maxI (cutI vals s)]) (b := tupD [s.sum, s.low, s.high]) ?_ ?_ r_neT)).is ?_
      · have hn : cutI vals s ≠ [] := by
          intro z
          rw [z] at el
          have := gs.m0
          simp at el
          omega
        exact ed_tup (ea_cons (ed_cb (ea_cons o7 ea_nil) (rc_sumS hd')) (ea_cons (ed_cb (ea_cons o7 ea_nil) (rc_minS hd' hn)) (ea_cons (ed_cb (ea_cons o7 ea_nil) (rc_maxS hd' hn)) ea_nil))) (by show 3 ≤ sizeLine; decide)
      · exact ed_tup (ea_cons (ed_var (i := 4) rfl (.int _)) (ea_cons (ed_var (i := 5) rfl (.int _)) (ea_cons (ed_var (i := 6) rfl (.int _)) ea_nil))) (by show 3 ≤ sizeLine; decide)
      · unfold fitsB
        rw [List.length_map, Bool.not_and]
    · refine s_ret (n2.ex e3) (d := .bool (l.all (fitsB vals))) (ed_bl (i := false) |>.is (congrArg PyData.bool ?_)) fun u H4 e4 hu => q u H4 ((((e0.trans e1).trans e2).trans e3).trans e4) hu
      symm
      rw [List.all_eq_false]
      exact ⟨s, List.mem_of_getElem? hs', by simpa using ex⟩
    · refine ⟨(e1.trans e2).trans e3, ⟨_, _, _, _, _, _, rfl⟩, ?_⟩
      rw [take_get hs', List.all_append, hall]
      simpa using ex
  · obtain ⟨e1, ⟨x2, x3, x4, x5, x6, x7, rfl⟩, hall⟩ := hP
    rw [List.length_map, List.take_length] at hall
    dsimp only
    exact s_ret ((n.ex e0).ex e1) (ed_bl (i := true) |>.is (by rw [hall])) fun u H4 e4 hu => q u H4 ((e0.trans e1).trans e4) hu
theorem flat_zero (k : Nat) : (List.replicate k [PyData.int 0]).flatten = (List.replicate k (0 : Int)).map .int := by
  induction k with
  | zero => rfl
  | succ k ih => rw [List.replicate_succ, List.replicate_succ, List.flatten_cons, ih, List.map_cons]; rfl
theorem ok_l_choices (F : Fun K "_law_choices" "_law_choices" s_l_choices f fd) (T : Gl0 mg) (G_l_all : Has P w K mg base CX0 1 "_law_all" ["_law_rows", "_law_least", "_law_most"] (PureSp RallL)) (G_l_fits : Has P w K mg base CX0 1 "_law_fits" ["_law_spans_here", "_law_values"] (PureSp RfitsL)) :
    FnOk P w K mg base CX0 2 f fd ["_law_spans_here", "_law_rows"] (PureSp RchoicesL) := by
  refine F.ok sc_l_choices (pure_len fun as d ⟨_, _, h, _⟩ => by rw [h]; rfl) (fun cdv A outer st H vs Q E hr h => ?_)
  obtain ⟨N, as, d, n, hv0, ⟨l, rows, rfl, sl, ll, r1, r2, rfl⟩, q⟩ := h
  obtain ⟨v, v', rfl, hv, hv'⟩ := two_args hv0
  obtain rfl := hv'.int_inv
  refine ⟨_, (pss_cons (ps_if (pt_cmpR (op_eqD hr.units) (pv 0) (pe_lst pa_nil) (nomark _)) (pss_one (ps_ret (pe_lst (pa_cons (pe_op op_mulT (pe_tup (pa_cons pe_int pa_nil)) (pv 1)) pa_nil)))) pss_nil) (pss_cons (ps_par (i := 2) (j := 3) rfl sc_l_choices.nd rfl rfl (by decide) rfl rfl (pa_cons (pe_callB (cr_min2 rfl hr.units) (by rfl) T.min (by decide +kernel) (pa_cons (pe_lc (own := [("_law_span", 4)]) (g := gName 4) (tt := tYes) rfl sc_l_choices.nd (pi_seq (pv 0)) (blkOk_by (N := ["_law_spans_here", "_law_rows", "_law_least", "_law_most", "_law_span", "_law_some"]) (sc := defScope s_l_choices) (by decide +kernel)) (fun _ _ _ _ _ => pg_name (i := 4) sc_l_choices.nd rfl (by first | exact Or.inl rfl | exact Or.inr rfl)) (fun _ _ _ _ _ => pts_nil) (fun _ _ _ _ _ => (pe_ix (ix_seqK (K := K) rfl) (pv 4) pe_int (fun _ _ => rfl)))) pa_nil)) (pa_cons (pe_callB (cr_max2 rfl hr.units) (by rfl) T.max (by decide +kernel) (pa_cons (pe_lc (own := [("_law_span", 4)]) (g := gName 4) (tt := tYes) rfl sc_l_choices.nd (pi_seq (pv 0)) (blkOk_by (N := ["_law_spans_here", "_law_rows", "_law_least", "_law_most", "_law_span", "_law_some"]) (sc := defScope s_l_choices) (by decide +kernel)) (fun _ _ _ _ _ => pg_name (i := 4) sc_l_choices.nd rfl (by first | exact Or.inl rfl | exact Or.inr rfl)) (fun _ _ _ _ _ => pts_nil) (fun _ _ _ _ _ => (pe_ix (ix_seqK (K := K) rfl) (pv 4) pe_int (fun _ _ => rfl)))) pa_nil)) pa_nil)) (by rfl)) (pss_one (ps_ret (pe_lc (own := [("_law_some", 5)]) (g := gName 5) rfl sc_l_choices.nd (pi_seq (pe_callH G_l_all hr (by rfl) pass0 (pa_cons (pv 1) (pa_cons (pv 2) (pa_cons (pv 3) pa_nil))))) (blkOk_by (N := ["_law_spans_here", "_law_rows", "_law_least", "_law_most", "_law_span", "_law_some"]) (sc := defScope s_l_choices) (by decide +kernel)) (fun _ _ _ _ _ => pg_name (i := 5) sc_l_choices.nd rfl (by first | exact Or.inl rfl | exact Or.inr rfl)) (fun _ _ _ _ _ => pts_one (pt_val (pe_callH G_l_fits hr (by rfl) pass0 (pa_cons (pv 0) (pa_cons (pv 5) pa_nil))))) (fun _ _ _ _ _ => (pv 5))))))), ?_⟩
  refine s_if (x := l.isEmpty) n (eb_test (ed_op (ed_var (i := 0) rfl hv) (ed_lst ea_nil (Nat.zero_le _)) r_eqNil)) (fun ex H1 e1 => ?_) fun ex H1 e1 => ?_
  · refine s_ret (n.ex e1) (d := .list ((choices l rows).map tupD)) ((ed_lst (ea_cons (ed_op (ed_tup (ea_cons ed_int ea_nil) (by show 1 ≤ sizeLine; decide)) (ed_var (i := 1) rfl (.int _)) (r_repT (by simp) (by omega) (by show 1 ≤ 1000; decide))) ea_nil) (by show 1 ≤ sizeLine; decide)).is ?_) fun u H2 e2 hu => q u H2 (e1.trans e2) hu
    unfold choices
    rw [ex, if_pos rfl, Int.toNat_natCast, flat_zero]
    rfl
  have n1 := n.ex e1
  have hv1 := hv.ex e1
  have lz : (l.map spD).length ≤ sizeLine := by rw [List.length_map, sizeLine_eq]; omega
  have ln : l ≠ [] := fun z => by rw [z] at ex; cases ex
  have lows : ∀ (g : Span → Int) (te : TE), (∀ (N5 : Addr → Prop) (H5 : Hp) (v5 : V) (p : Span), DN N5 H5 v5 (spD p) → EvD N5 te (blkSt [some v, some (.int rows), none, none, none, none] [4] 4 v5) H5 (.int (g p))) → EvD N (tLc (iSeq K (tVar 0)) (gName 4) tYes te [4]) [some v, some (.int rows), none, none, none, none] H1 (.list ((l.map g).map .int)) := by
    intro g te ht
    refine (ed_lsL (fun _ => true) (fun d => .int (g (ofD d))) (ed_var (i := 0) rfl hv1) lz (fun _ => rfl) ?_).is (congrArg PyData.list (kept_map PyData.int g _ (fun _ => rfl) l))
    intro x hx N5 H5 v5 l5 n5 hv5
    obtain ⟨p, hp, rfl⟩ := mem_map' hx
    exact ⟨eb_yes, fun _ => ht N5 H5 v5 p hv5⟩
  refine s_par n1 (a := .int (leastOf l)) (b := .int (mostOf l)) (ea_cons (ed_cb (ea_cons (lows (·.low) _ fun N5 H5 v5 p hv5 => e_low (ed_var (i := 4) rfl hv5)) ea_nil) (rc_minL (by simpa using ln))) (ea_cons (ed_cb (ea_cons (lows (·.high) _ fun N5 H5 v5 p hv5 => e_high (ed_var (i := 4) rfl hv5)) ea_nil) (rc_maxL (by simpa using ln))) ea_nil)) fun w2 w3 H2 e2 hw2 hw3 => ?_
  obtain rfl := hw2.int_inv
  obtain rfl := hw3.int_inv
  have n2 := n1.ex e2
  have b1 : -2 ≤ leastOf l ∧ leastOf l ≤ 5 := by
    have hm : leastOf l ∈ l.map (·.low) := minI_mem (by simpa using ln)
    obtain ⟨s, hs, e⟩ := List.mem_map.mp hm
    rw [← e]
    exact ⟨(sl s hs).l0, (sl s hs).l1⟩
  have b2 : -2 ≤ mostOf l ∧ mostOf l ≤ 5 := by
    have hm : mostOf l ∈ l.map (·.high) := maxI_mem (by simpa using ln)
    obtain ⟨s, hs, e⟩ := List.mem_map.mp hm
    rw [← e]
    exact ⟨(sl s hs).h0, (sl s hs).h1⟩
  refine s_ret n2 (d := .list ((choices l rows).map tupD)) ((ed_lsL (fun d => l.all (fitsB (intsOf d))) id (xs := (allT rows (leastOf l) (mostOf l + 1 - leastOf l).toNat).map tupD) (ed_call (ea_cons (ed_var (i := 1) rfl (.int _)) (ea_cons (ed_var (i := 2) rfl (.int _)) (ea_cons (ed_var (i := 3) rfl (.int _)) ea_nil))) ⟨rows, _, _, rfl, by omega, by omega, by omega, by omega, by omega, by omega, rfl⟩) ?_ (fun _ => rfl) ?_).is ?_) fun u H3 e3 hu => q u H3 ((e1.trans e2).trans e3) hu
  · rw [List.length_map, allT_len, sizeLine_eq]
    have := pow_small (n := rows) (k := (mostOf l + 1 - leastOf l).toNat) (by omega) (by omega)
    omega
  · intro x hx N5 H5 v5 l5 n5 hv5
    obtain ⟨vv, hvv, rfl⟩ := mem_map' hx
    refine ⟨eb_B (ed_call (ea_cons (ed_var (i := 0) rfl ((hv1.ex e2).le l5)) (ea_cons (ed_var (i := 5) rfl hv5) ea_nil)) ⟨l, vv, tupD vv, rfl, .inr rfl, fun s hs => (sl s hs).good, by show PyData.bool (l.all (fitsB (intsOf (tupD vv)))) = _; rw [intsOf_tupD]⟩), fun _ => ed_var (i := 5) rfl hv5⟩
  · unfold choices
    rw [ex, if_neg Bool.false_ne_true, kept_tups _ (fun v => l.all (fitsB v)) (fun v => by rw [intsOf_tupD])]
theorem ok_l_unfit (F : Fun K "_law_unfit" "_law_unfit" s_l_unfit f fd) (T : Gl0 mg) (G_l_all : Has P w K mg base CX0 1 "_law_all" ["_law_rows", "_law_least", "_law_most"] (PureSp RallL)) (G_l_parts : Has P w K mg base CX0 2 "_law_parts" ["_law_spans_here", "_law_span"] (PureSp Rparts)) (G_l_rest : Has P w K mg base CX0 3 "_law_rest" ["_law_spans_here", "_law_span"] (PureSp RrestL)) :
    FnOk P w K mg base CX0 4 f fd ["_law_spans_here", "_law_span"] (PureSp RunfitL) := by
  refine F.ok sc_l_unfit (pure_len fun as d ⟨_, _, h, _⟩ => by rw [h]; rfl) (fun cdv A outer st H vs Q E hr h => ?_)
  obtain ⟨N, as, d, n, hv0, ⟨l, s, rfl, sl, ll, ss, rfl⟩, q⟩ := h
  obtain ⟨v, v', rfl, hv, hv'⟩ := two_args hv0
  refine ⟨_, (pss_cons (ps_par (i := 2) (j := 3) rfl sc_l_unfit.nd rfl rfl (by decide) rfl rfl (pa_cons (pe_callH G_l_parts hr (by rfl) pass0 (pa_cons (pv 0) (pa_cons (pv 1) pa_nil))) (pa_cons (pe_callH G_l_rest hr (by rfl) pass0 (pa_cons (pv 0) (pa_cons (pv 1) pa_nil))) pa_nil)) (by rfl)) (pss_cons (ps_if (pt_not (pt_chain3 op_leU op_leU op_leU (pe_op op_subU pe_int (pe_op op_powU pe_int pe_int)) (pe_ix ix_seq (pv 1) pe_int (fun _ _ => rfl)) (pe_ix ix_seq (pv 1) pe_int (fun _ _ => rfl)) (pe_op op_powU pe_int pe_int))) (pss_one (ps_ret pe_bl)) pss_nil) (pss_cons (ps_if (pt_cmpR (op_neD hr.units) (pe_lc (own := [("_law_part", 4)]) (g := gName 4) rfl sc_l_unfit.nd (pi_seq (pv 2)) (blkOk_by (N := ["_law_spans_here", "_law_span", "_law_parts_here", "_law_rest_here", "_law_part", "_law_lows", "_law_highs", "_law_total", "_law_some"]) (sc := defScope s_l_unfit) (by decide +kernel)) (fun _ _ _ _ _ => pg_name (i := 4) sc_l_unfit.nd rfl (by first | exact Or.inl rfl | exact Or.inr rfl)) (fun _ _ _ _ _ => pts_one (PW.pt (pw_or (pt_cmpR op_ltU (pe_ix (ix_seqK (K := K) rfl) (pv 4) pe_int (fun _ _ => rfl)) (pe_ix (ix_seqK (K := K) rfl) (pv 1) pe_int (fun _ _ => rfl)) (nomark _)) (pw_or1 (pt_cmpR op_gtU (pe_ix (ix_seqK (K := K) rfl) (pv 4) pe_int (fun _ _ => rfl)) (pe_ix (ix_seqK (K := K) rfl) (pv 1) pe_int (fun _ _ => rfl)) (nomark _)))))) (fun _ _ _ _ _ => (pv 4))) (pe_lst pa_nil) (nomark _)) (pss_one (ps_ret pe_bl)) pss_nil) (pss_cons (ps_par3 (i := 5) (j := 6) (l := 7) rfl sc_l_unfit.nd rfl rfl rfl (by decide) (by decide) (by decide) rfl rfl rfl (pa_cons (pe_lc (own := [("_law_part", 4)]) (g := gName 4) (tt := tYes) rfl sc_l_unfit.nd (pi_seq (pv 2)) (blkOk_by (N := ["_law_spans_here", "_law_span", "_law_parts_here", "_law_rest_here", "_law_part", "_law_lows", "_law_highs", "_law_total", "_law_some"]) (sc := defScope s_l_unfit) (by decide +kernel)) (fun _ _ _ _ _ => pg_name (i := 4) sc_l_unfit.nd rfl (by first | exact Or.inl rfl | exact Or.inr rfl)) (fun _ _ _ _ _ => pts_nil) (fun _ _ _ _ _ => (pe_ix (ix_seqK (K := K) rfl) (pv 4) pe_int (fun _ _ => rfl)))) (pa_cons (pe_lc (own := [("_law_part", 4)]) (g := gName 4) (tt := tYes) rfl sc_l_unfit.nd (pi_seq (pv 2)) (blkOk_by (N := ["_law_spans_here", "_law_span", "_law_parts_here", "_law_rest_here", "_law_part", "_law_lows", "_law_highs", "_law_total", "_law_some"]) (sc := defScope s_l_unfit) (by decide +kernel)) (fun _ _ _ _ _ => pg_name (i := 4) sc_l_unfit.nd rfl (by first | exact Or.inl rfl | exact Or.inr rfl)) (fun _ _ _ _ _ => pts_nil) (fun _ _ _ _ _ => (pe_ix (ix_seqK (K := K) rfl) (pv 4) pe_int (fun _ _ => rfl)))) (pa_cons (pe_callB (cr_sum2 rfl) (by rfl) T.sum (by decide +kernel) (pa_cons (pe_lc (own := [("_law_part", 4)]) (g := gName 4) (tt := tYes) rfl sc_l_unfit.nd (pi_seq (pv 2)) (blkOk_by (N := ["_law_spans_here", "_law_span", "_law_parts_here", "_law_rest_here", "_law_part", "_law_lows", "_law_highs", "_law_total", "_law_some"]) (sc := defScope s_l_unfit) (by decide +kernel)) (fun _ _ _ _ _ => pg_name (i := 4) sc_l_unfit.nd rfl (by first | exact Or.inl rfl | exact Or.inr rfl)) (fun _ _ _ _ _ => pts_nil) (fun _ _ _ _ _ => (pe_ix (ix_seqK (K := K) rfl) (pv 4) pe_int (fun _ _ => rfl)))) pa_nil)) pa_nil))) (by rfl)) (pss_cons (ps_for PassesOwn.never rfl (pi_seq (pe_callH G_l_all hr (by rfl) pass0 (pa_cons (pe_callB cr_len1 (by rfl) T.len (by decide +kernel) (pa_cons (pv 3) pa_nil)) (pa_cons (pe_ix ix_seq (pv 1) pe_int (fun _ _ => rfl)) (pa_cons (pe_ix ix_seq (pv 1) pe_int (fun _ _ => rfl)) pa_nil))))) (pg_name (i := 8) sc_l_unfit.nd rfl (by first | exact Or.inl rfl | exact Or.inr rfl)) (pss_one (ps_if (PW.pt (pw_and (pt_cmpR (op_eqD hr.units) (pe_op op_addU (pv 7) (pe_callB (cr_sum2 rfl) (by rfl) T.sum (by decide +kernel) (pa_cons (pv 8) pa_nil))) (pe_ix ix_seq (pv 1) pe_int (fun _ _ => rfl)) (nomark _)) (pw_and (pt_cmpR (op_eqD hr.units) (pe_callB (cr_min2 rfl hr.units) (by rfl) T.min (by decide +kernel) (pa_cons (pe_op op_addU (pv 5) (pe_callTy cr_listOf (by rfl) T.list (by decide +kernel) (pa_cons (pv 8) pa_nil))) pa_nil)) (pe_ix ix_seq (pv 1) pe_int (fun _ _ => rfl)) (nomark _)) (pw_and1 (pt_cmpR (op_eqD hr.units) (pe_callB (cr_max2 rfl hr.units) (by rfl) T.max (by decide +kernel) (pa_cons (pe_op op_addU (pv 6) (pe_callTy cr_listOf (by rfl) T.list (by decide +kernel) (pa_cons (pv 8) pa_nil))) pa_nil)) (pe_ix ix_seq (pv 1) pe_int (fun _ _ => rfl)) (nomark _)))))) (pss_one (ps_ret pe_bl)) pss_nil))) (pss_one (ps_ret pe_bl))))))), ?_⟩
  have gl : ∀ t ∈ l, Good t := fun t ht => (sl t ht).good
  have gs := ss.good
  have lp : (parts l s).length ≤ 1000 := Nat.le_trans (parts_len l s) ll
  have lz : ((parts l s).map spD).length ≤ sizeLine := by rw [List.length_map, sizeLine_eq]; omega
  have lr : (restRows l s).length ≤ 6 := by have := restRows_le l s; have := ss.m1; omega
  have a0 : EvA N (tCons (tVar 0) (tCons (tVar 1) tNil)) (start ["_law_spans_here", "_law_span", "_law_parts_here", "_law_rest_here", "_law_part", "_law_lows", "_law_highs", "_law_total", "_law_some"] [v, v']) H [.list (l.map spD), spD s] := ea_cons (ed_var (i := 0) rfl hv) (ea_cons (ed_var (i := 1) rfl hv') ea_nil)
  refine s_par n (a := .list ((parts l s).map spD)) (b := .list ((restRows l s).map .int)) (ea_cons (ed_call a0 ⟨l, s, _, rfl, .inl rfl, ll, rfl⟩) (ea_cons (ed_call a0 ⟨l, s, rfl, gl, ll, gs, rfl⟩) ea_nil)) fun w2 w3 H1 e1 hw2 hw3 => ?_
  have n1 := n.ex e1
  have hv1 := hv'.ex e1
  have es : ∀ {x4 x5 x6 x7 x8 : Option V} {H' : Hp}, Ex H1 H' → EvD N (tVar 1) [some v, some v', some w2, some w3, x4, x5, x6, x7, x8] H' (spD s) := fun e => ed_var (i := 1) rfl (hv1.ex e)
  refine s_if (x := !inRange s) n1 (eb_not (eb_chain3 (ed_op ed_int (ed_op ed_int ed_int (r_pow (by unfold CPow; decide))) r_sub) (e_low (es Ex.rfl')) (e_high (es Ex.rfl')) (ed_op ed_int ed_int (r_pow (by unfold CPow; decide))) r_le r_le r_le)) (fun ex H2 e2 => ?_) fun ex H2 e2 => ?_
  · refine s_ret (n1.ex e2) (ed_bl (i := true) |>.is (congrArg PyData.bool ?_)) fun u H3 e3 hu => q u H3 ((e1.trans e2).trans e3) hu
    unfold unfitL
    rw [ex]; rfl
  have n2 := n1.ex e2
  refine s_if (x := !partsIn l s) n2 (eb_test (ed_op ((ed_lsL (fun d => decide ((ofD d).low < s.low) || decide (s.high < (ofD d).high)) id (ed_var (i := 2) rfl (hw2.ex e2)) lz (fun _ => rfl) ?_).is (congrArg PyData.list (kept_spans (fun p => decide (p.low < s.low) || decide (s.high < p.high)) _ (fun _ => rfl) (parts l s)))) (ed_lst ea_nil (Nat.zero_le _)) (by
      have z := r_neNil (K := K) (N := N) (H := H2) (l := (parts l s).filter fun p => decide (p.low < s.low) || decide (s.high < p.high))
      rw [isEmpty_parts] at z
      exact z))) (fun ex' H3 e3 => ?_) fun ex' H3 e3 => ?_
  · intro x hx N5 H5 v5 l5 n5 hv5
    obtain ⟨p, hp, rfl⟩ := mem_map' hx
    have ep : EvD N5 (tVar 4) (blkSt [some v, some v', some w2, some w3, none, none, none, none, none] [4] 4 v5) H5 (spD p) := ed_var (i := 4) rfl hv5
    have es' : EvD N5 (tVar 1) (blkSt [some v, some v', some w2, some w3, none, none, none, none, none] [4] 4 v5) H5 (spD s) := ed_var (i := 1) rfl ((hv1.ex e2).le l5)
    exact ⟨eb_or (eb_test (ed_op (e_low ep) (e_low es') r_lt)) fun _ => eb_test (ed_op (e_high ep) (e_high es') r_gt), fun _ => ep⟩
  · refine s_ret (n2.ex e3) (ed_bl (i := true) |>.is (congrArg PyData.bool ?_)) fun u H4 e4 hu => q u H4 (((e1.trans e2).trans e3).trans e4) hu
    unfold unfitL
    rw [ex, ex']; rfl
  have n3 := n2.ex e3
  have e23 := e2.trans e3
  have col : ∀ (g : Span → Int) (te : TE), (∀ (N5 : Addr → Prop) (H5 : Hp) (v5 : V) (p : Span), DN N5 H5 v5 (spD p) → EvD N5 te (blkSt [some v, some v', some w2, some w3, none, none, none, none, none] [4] 4 v5) H5 (.int (g p))) → EvD N (tLc (iSeq K (tVar 2)) (gName 4) tYes te [4]) [some v, some v', some w2, some w3, none, none, none, none, none] H3 (.list (((parts l s).map g).map .int)) := by
    intro g te ht
    refine (ed_lsL (fun _ => true) (fun d => .int (g (ofD d))) (ed_var (i := 2) rfl (hw2.ex e23)) lz (fun _ => rfl) ?_).is (congrArg PyData.list (kept_map PyData.int g _ (fun _ => rfl) (parts l s)))
    intro x hx N5 H5 v5 l5 n5 hv5
    obtain ⟨p, hp, rfl⟩ := mem_map' hx
    exact ⟨eb_yes, fun _ => ht N5 H5 v5 p hv5⟩
  refine s_par3 n3 (a := .list (((parts l s).map (·.low)).map .int)) (b := .list (((parts l s).map (·.high)).map .int)) (c := .int ((parts l s).map (·.sum)).sum) (ea_cons (col (·.low) _ fun N5 H5 v5 p hv5 => e_low (ed_var (i := 4) rfl hv5)) (ea_cons (col (·.high) _ fun N5 H5 v5 p hv5 => e_high (ed_var (i := 4) rfl hv5)) (ea_cons (ed_cb (ea_cons (col (·.sum) _ fun N5 H5 v5 p hv5 => e_sum (ed_var (i := 4) rfl hv5)) ea_nil) rc_sumL) ea_nil))) fun w5 w6 w7 H4 e4 hw5 hw6 hw7 => ?_
  obtain rfl := hw7.int_inv
  have n4 := n3.ex e4
  have e24 := e23.trans e4
  have hin : inRange s = true := by simpa using ex
  have hpi : partsIn l s = true := by simpa using ex'
  have bs : -2 ≤ s.low ∧ s.high ≤ 5 := ⟨ss.l0, ss.h1⟩
  have bs2 : s.low ≤ 5 ∧ -2 ≤ s.high := ⟨ss.l1, ss.h0⟩
  refine s_forS (d := .list ((allT (restRows l s).length s.low (s.high + 1 - s.low).toNat).map tupD)) (fun H0 i σ1 H5 => Ex H0 H5 ∧ (∃ x8, σ1 = [some v, some v', some w2, some w3, none, some w5, some w6, some (.int ((parts l s).map (·.sum)).sum), x8]) ∧ ((allT (restRows l s).length s.low (s.high + 1 - s.low).toNat).take i).any (goodRest l s) = false)
    (ed_call (ea_cons (ed_cb (ea_cons (ed_var (i := 3) rfl (hw3.ex e24)) ea_nil) rc_lenL) (ea_cons (e_low (es e24)) (ea_cons (e_high (es e24)) ea_nil))) ⟨(restRows l s).length, s.low, s.high, by rw [List.length_map], lr, by omega, by omega, by omega, by omega, by omega, rfl⟩) (.inl rfl) n4 (fun H5 e5 => ⟨Ex.rfl', ⟨_, rfl⟩, rfl⟩) (fun H0 e0 i σ1 H5 h => .of h.1) (fun H0 e0 i x vx σ1 H5 hx hP hvx => ?_) fun H0 e0 σ1 H5 hP => ?_
  · obtain ⟨e5, ⟨x8, rfl⟩, hall⟩ := hP
    obtain ⟨vv, hvv, rfl⟩ := map_get hx
    have n5 := (n4.ex e0).ex e5
    have e05 := e0.trans e5
    have lenv := allT_mem_len (List.mem_of_getElem? hvv)
    have some0 : EvD N (tVar 8) [some v, some v', some w2, some w3, none, some w5, some w6, some (.int ((parts l s).map (·.sum)).sum), some vx] H5 (tupD vv) := ed_var (i := 8) rfl hvx
    have cat : ∀ {i : Nat} {w : V} {ns : List Int}, ([some v, some v', some w2, some w3, none, some w5, some w6, some (V.int ((parts l s).map (·.sum)).sum), some vx] : L2.St)[i]? = some (some w) → DN N H4 w (.list (ns.map .int)) → ns.length ≤ 1000 →
        EvD N (tOp (rAddU K) (tVar i) (tCB (rListOf K) (tCons (tVar 8) tNil))) [some v, some v', some w2, some w3, none, some w5, some w6, some (.int ((parts l s).map (·.sum)).sum), some vx] H5 (.list ((ns ++ vv).map .int)) := by
      intro i w ns hi hw hn
      refine (ed_op (ed_var (i := i) hi (hw.ex e05)) (ed_cb (ea_cons some0 ea_nil) rc_listT) (r_addL ?_)).is (by rw [List.map_append])
      rw [List.length_map, List.length_map, lenv, sizeLine_eq]
      omega
    have ne : ∀ g : Span → Int, (parts l s).map g ++ vv ≠ [] := by
      intro g z
      rw [List.append_eq_nil_iff, List.map_eq_nil_iff] at z
      have z1 := rest_nil z.1
      rw [z.2] at lenv
      have := ss.m0
      rw [z1] at lenv
      simp at lenv
      omega
    refine s_ifL (x := goodRest l s vv) n5 (eb_and (eb_test (ed_op (ed_op (ed_var (i := 7) rfl (.int _)) (ed_cb (ea_cons some0 ea_nil) rc_sumT) r_add) (e_sum (es (e24.trans e05))) r_eqI)) fun _ => eb_and (eb_test (ed_op (ed_cb (ea_cons (cat (i := 5) rfl hw5 (by rw [List.length_map]; exact lp)) ea_nil) (rc_minL (ne _))) (e_low (es (e24.trans e05))) r_eqI)) fun _ => eb_test (ed_op (ed_cb (ea_cons (cat (i := 6) rfl hw6 (by rw [List.length_map]; exact lp)) ea_nil) (rc_maxL (ne _))) (e_high (es (e24.trans e05))) r_eqI)) (fun eg H6 e6 => ?_) fun eg H6 e6 => ?_
    · refine s_ret (n5.ex e6) (ed_bl (i := false) |>.is (congrArg PyData.bool ?_)) fun u H7 e7 hu => q u H7 ((((e1.trans e24).trans e05).trans e6).trans e7) hu
      unfold unfitL
      rw [hin, hpi, List.any_eq_true.mpr ⟨vv, List.mem_of_getElem? hvv, eg⟩]
      rfl
    · refine ⟨e5.trans e6, ⟨_, rfl⟩, ?_⟩
      rw [take_get hvv, List.any_append, hall]
      simpa using eg
  · obtain ⟨e5, ⟨x8, rfl⟩, hall⟩ := hP
    rw [List.length_map, List.take_length] at hall
    dsimp only
    refine s_ret ((n4.ex e0).ex e5) (ed_bl (i := true) |>.is (congrArg PyData.bool ?_)) fun u H7 e7 hu => q u H7 ((((e1.trans e24).trans e0).trans e5).trans e7) hu
    unfold unfitL
    rw [hin, hpi, hall]
    rfl
end
end K14
/-! K14Law3 -/
set_option Elab.async false
set_option linter.all false
set_option maxRecDepth 100000
set_option maxHeartbeats 2000000
/-! The law's own defs: the box. -/
namespace K14
open PySem PySem.Spec PyProof.Rows L2
abbrev N0 : Addr → Prop := fun _ => False
theorem nok0 {H : Hp} : NOk N0 H := fun _ h => h.elim
theorem Le.same {H H1 : Hp} {N1 : Addr → Prop} (l : Le N0 H N1 H1) : Ex H H1 := fun a o e => l.keep a o (fun z => z) e
/-- a good box: what is left of the great number, the seed -/
structure Bx (g s : Int) : Prop where
  g0 : 0 ≤ g
  s0 : 1 ≤ s
  s1 : s ≤ 2147483587
def BoxAt (H : Hp) (b : Addr) : Prop := ∃ g s, H b = some (.lst [.int g, .int s]) ∧ Bx g s
/-- only the box may have changed -/
structure Sb (b : Addr) (H H' : Hp) : Prop where
  keep : ∀ a o, a ≠ b → H a = some o → H' a = some o
  box : BoxAt H' b
section
variable {K : PySem.W.Frag} {N : Addr → Prop} {σ : L2.St} {H : Hp} {ta tb te : TE} {tt : TT} {a b d : PyData} {tz tu tw : TS} {D : Ends}
theorem s_ifJ {x : Bool} (P : L2.St → Hp → Prop) (n : NOk N H) (h : EvB N tt σ H x) (j : ∀ σ' H', P σ' H' → tz D σ' H') (h1 : x = true → ∀ H1, Ex H H1 → (∀ σ' H', P σ' H' → tz D σ' H') → tu { D with nx := tz D } σ H1) (h2 : x = false → ∀ H1, Ex H H1 → (∀ σ' H', P σ' H' → tz D σ' H') → tw { D with nx := tz D } σ H1) : tSeq (tIfS tt tu tw) tz D σ H :=
  s_if n h (fun e H1 e1 => h1 e H1 e1 j) fun e H1 e1 => h2 e H1 e1 j
theorem ex_none {H H1 : Hp} (e : Ex H H1) {p : Addr} (h : H1 p = none) : H p = none := by
  cases q : H p with
  | none => rfl
  | some o => rw [e _ _ q] at h; cases h
/-- return [..] -/
theorem s_retL {tas : TA} {ds : List PyData} (n : NOk N H) (h : EvA N tas σ H ds) (hz : ds.length ≤ sizeLine) (k : ∀ p vs H1, Ex H H1 → H1 p = none → DNs N H1 vs ds → D.rt (.ref p) (upd H1 p (.lst vs))) : tRet (tLst tas) D σ H := h N H Le.refl n _ fun vs H1 e hv => ⟨by rw [hv.length]; exact hz, fun p hp => k p vs H1 e hp hv⟩
/-- len of what is handed in -/
theorem e_slen {i : Nat} {p : Addr} {ns : List Int} (hi : σ[i]? = some (some (.ref p))) (h : SqL K H p (ns.map V.int)) : EvD N0 (tCB (rLen K) (tCons (tVar i) tNil)) σ H (.int ns.length) := fun N1 H1 l n Q q =>
  ⟨.ref p, hi, p, ns.map V.int, rfl, .inl (l.same.seq h), by rw [List.length_map]; exact q _ H1 Ex.rfl' (.int _)⟩
theorem e_six {i : Nat} {p : Addr} {ns : List Int} {k x : Int} (hi : σ[i]? = some (some (.ref p))) (h : SqL K H p (ns.map V.int)) (hk : EvD N0 te σ H (.int k)) (hx : atI ns k = some x) : EvD N0 (tOp (rIx K) (tVar i) te) σ H (.int x) := fun N1 H1 l n Q q =>
  ⟨.ref p, hi, hk N1 H1 l n _ fun v H2 e2 hv => .inl ⟨p, ns.map V.int, k, .int x, rfl, hv.int_inv, (l.same.trans e2).seq h, by
    unfold atI at hx ⊢
    rw [List.length_map]
    cases e : ixN ns.length k with
    | none => rw [e] at hx; cases hx
    | some j =>
      rw [e] at hx
      show (ns.map V.int)[j]? = _
      rw [List.getElem?_map, show ns[j]? = some x from hx]; rfl, q _ H2 e2 (.int x)⟩⟩
/-- xs[i] = e, no address of N0's world but p changes -/
theorem s_setIx {i j : Nat} {k : Int} {p : Addr} {xs : List V} {ti : TE} (n : NOk N H) (h : EvD N te σ H d) (hi : σ[i]? = some (some (.ref p))) (hp : ∀ H1, Ex H H1 → H1 p = some (.lst xs)) (hk : EvD N ti σ H (.int k)) (hj : ixN xs.length k = some j)
    (q : ∀ v H1, Ex H H1 → DN N H1 v d → D.nx σ (upd H1 p (.lst (xs.set j v)))) : tAsg te (gSub (tVar i) ti rSetL) D σ H := h N H Le.refl n _ fun v H1 e1 hv => ⟨.ref p, hi, hk N H1 (Le.of e1) (n.ex e1) _ fun w H2 e2 hw => ⟨p, xs, k, j, rfl, hw.int_inv, hp H2 (e1.trans e2), hj, q v H2 (e1.trans e2) (hv.ex e2)⟩⟩
end
theorem seqIx {i : Nat} {n : Nat} (h : i < n) : seqIndex? (i : Int) n = some i := by
  have e : ixN n (i : Int) = some i := by
    unfold ixN
    rw [if_pos (by omega), if_pos (by omega), Int.toNat_natCast]
  exact (ixN_seq e).1
theorem ixN_nat {i n : Nat} (h : i < n) : ixN n (i : Int) = some i := by
  unfold ixN
  rw [if_pos (by omega), if_pos (by omega), Int.toNat_natCast]
theorem Sb.kp {b : Addr} {N : Addr → Prop} {H H' : Hp} (h : Sb b H H') (nb : N b) : Kp N H H' := fun a o n e => h.keep a o (fun z => n (z ▸ nb)) e
theorem Sb.nok {b : Addr} {N : Addr → Prop} {H H' : Hp} (h : Sb b H H') (n : NOk N H) : NOk N H' := fun a ha => by
  by_cases z : a = b
  · obtain ⟨g, s, e, _⟩ := h.box
    exact ⟨_, z ▸ e⟩
  · obtain ⟨xs, e⟩ := n a ha
    exact ⟨xs, h.keep a _ z e⟩
theorem BoxAt.ex {b : Addr} {H H' : Hp} (h : BoxAt H b) (e : Ex H H') : BoxAt H' b := by
  obtain ⟨g, s, h1, h2⟩ := h
  exact ⟨g, s, e _ _ h1, h2⟩
theorem Sb.of {b : Addr} {H H' : Hp} (h : BoxAt H b) (e : Ex H H') : Sb b H H' := ⟨fun a o _ x => e a o x, h.ex e⟩
theorem Sb.trans {b : Addr} {H H1 H2 : Hp} (h : Sb b H H1) (g : Sb b H1 H2) : Sb b H H2 := ⟨fun a o n e => g.keep a o n (h.keep a o n e), g.box⟩
theorem Sb.ex {b : Addr} {H H1 H2 : Hp} (h : Sb b H H1) (e : Ex H1 H2) : Sb b H H2 := h.trans (.of h.box e)
theorem Ex.sb {b : Addr} {H H1 H2 : Hp} (e : Ex H H1) (h : Sb b H1 H2) : Sb b H H2 := ⟨fun a o n x => h.keep a o n (e a o x), h.box⟩
section
variable {P : Program} {w : World} {K : PySem.W.Frag} {mg : Str → Option Value} {base : Heap} {f : Addr} {fd : FuncData}
def boxSp (K : PySem.W.Frag) : Sp := fun vs H Q _ => ∃ (p : Addr) (ns : List Int) (k : Nat), vs = [.ref p, .int k] ∧ SqL K H p (ns.map V.int) ∧ ns.length ≤ 63 ∧ k ≤ 10 ∧ ∀ b H' g s, Bx g s → H b = none → H' b = some (.lst [.int g, .int s]) → Ex H H' → Q (.ref b) H'
def takeSp : Sp := fun vs H Q _ => ∃ (b : Addr) (m : Int), vs = [.ref b, .int m] ∧ BoxAt H b ∧ 1 ≤ m ∧ m ≤ 1000000 ∧ ∀ d H', 0 ≤ d → d < m → Sb b H H' → Q (.int d) H'
def pickSp : Sp := fun vs H Q _ => ∃ (N : Addr → Prop) (b : Addr) (v : V) (ds : List PyData), vs = [.ref b, v] ∧ N b ∧ NOk N H ∧ BoxAt H b ∧ DN N H v (.list ds) ∧ ds ≠ [] ∧ ds.length ≤ 1000 ∧ ∀ u H' d, d ∈ ds → Sb b H H' → DN N H' u d → Q u H'
theorem ok_l_box (F : Fun K "_law_box" "_law_box" s_l_box f fd) (T : Gl0 mg) : FnOk P w K mg base CX0 1 f fd ["_law_script", "_law_k"] (boxSp K) := by
  refine F.ok sc_l_box (fun vs H Q E ⟨_, _, _, h, _⟩ => by rw [h]; rfl) (fun cdv A outer st H vs Q E hr h => ?_)
  obtain ⟨p, ns, k, rfl, hS, hn, hk, q⟩ := h
  refine ⟨_, (pss_cons (ps_set (i := 2) sc_l_box.nd rfl (Or.inl rfl) (pe_op op_addU (pe_op op_mulU pe_int (pv 1)) pe_int)) (pss_cons (ps_if (pt_cmpR op_ltU (pv 1) (pe_callB cr_len1 (by rfl) T.len (by decide +kernel) (pa_cons (pv 0) pa_nil)) (nomark _)) (pss_one (ps_set (i := 2) sc_l_box.nd rfl (Or.inl rfl) (pe_callB cr_abs1 (by rfl) T.abs (by decide +kernel) (pa_cons (pe_callTy cr_int1 (by rfl) T.int (by decide +kernel) (pa_cons (pe_ix ix_seq (pv 0) (pv 1) (fun _ _ => rfl)) pa_nil)) pa_nil)))) (pss_one (ps_if (pt_cmpR op_gtU (pe_callB cr_len1 (by rfl) T.len (by decide +kernel) (pa_cons (pv 0) pa_nil)) pe_int (nomark _)) (pss_one (ps_set (i := 2) sc_l_box.nd rfl (Or.inl rfl) (pe_op op_addU (pv 2) (pe_op op_mulU (pe_op op_modU (pe_callTy cr_int1 (by rfl) T.int (by decide +kernel) (pa_cons (pe_callB cr_abs1 (by rfl) T.abs (by decide +kernel) (pa_cons (pe_callTy cr_int1 (by rfl) T.int (by decide +kernel) (pa_cons (pe_ix ix_seq (pv 0) (pe_op op_modU (pe_callTy cr_int1 (by rfl) T.int (by decide +kernel) (pa_cons (pv 1) pa_nil)) (pe_callB cr_len1 (by rfl) T.len (by decide +kernel) (pa_cons (pv 0) pa_nil))) (fun _ _ => rfl)) pa_nil)) pa_nil)) pa_nil)) pe_int) pe_int)))) pss_nil))) (pss_cons (ps_set (i := 3) sc_l_box.nd rfl (Or.inl rfl) (pe_ifExp (pt_cmpR op_geU (pv 2) (pe_op op_powU pe_int pe_int) (nomark _)) (pv 2) pe_int)) (pss_one (ps_ret (pe_lst (pa_cons (pv 3) (pa_cons (pe_op op_addU (pe_op op_modU (pe_callTy cr_int1 (by rfl) T.int (by decide +kernel) (pa_cons (pe_op op_addU (pe_op op_mulU (pe_op op_modU (pe_callTy cr_int1 (by rfl) T.int (by decide +kernel) (pa_cons (pv 2) pa_nil)) pe_int) pe_int) (pe_op op_mulU pe_int (pv 1))) pa_nil)) pe_int) pe_int) pa_nil)))))))), ?_⟩
  have ek : ∀ {x y : Option V} {H' : Hp}, EvD N0 (tVar 1) [some (.ref p), some (.int k), x, y] H' (.int k) := ed_var (i := 1) rfl (.int _)
  refine s_set nok0 (ed_op (ed_op ed_int ek (r_mul (.inl ⟨by decide, by decide⟩))) ed_int r_add) fun v2 H1 e1 hv2 => ?_
  obtain rfl := hv2.int_inv
  have hS1 := e1.seq hS
  have eS : ∀ {x y : Option V}, EvD N0 (tCB (rLen K) (tCons (tVar 0) tNil)) [some (.ref p), some (.int k), x, y] H1 (.int ns.length) := e_slen (i := 0) rfl hS1
  refine s_ifJ (fun σ' H' => Ex H1 H' ∧ ∃ c : Int, σ' = [some (.ref p), some (.int k), some (.int c), none]) (x := decide ((k : Int) < ns.length)) nok0 (eb_test (ed_op ek eS r_lt)) (fun σ' H2 hP => ?_) (fun ex H2 e2 J => ?_) fun ex H2 e2 J => ?_
  · obtain ⟨e2, c, rfl⟩ := hP
    have ec : ∀ {y : Option V} {H' : Hp}, EvD N0 (tVar 2) [some (.ref p), some (.int k), some (.int c), y] H' (.int c) := ed_var (i := 2) rfl (.int _)
    refine s_set nok0 (d := .int (if (10 : Int) ^ (18 : Int).toNat ≤ c then c else 0)) (ed_if (x := decide ((10 : Int) ^ (18 : Int).toNat ≤ c)) (eb_test (ed_op ec (ed_op ed_int ed_int (r_pow (by unfold CPow; decide))) r_ge)) (fun e => ?_) fun e => ?_) fun v3 H3 e3 hv3 => ?_
    · rw [if_pos (of_decide_eq_true e)]; exact ec
    · rw [if_neg (of_decide_eq_false e)]; exact ed_int
    · obtain rfl := hv3.int_inv
      have hsm : ∀ x : Int, 0 ≤ x % 2147483587 ∧ x % 2147483587 < 2147483587 := fun x => ⟨Int.emod_nonneg _ (by decide), Int.emod_lt_of_pos _ (by decide)⟩
      refine s_retL nok0 (ea_cons (ed_var (i := 3) rfl (.int _)) (ea_cons (ed_op (ed_op (ed_cb (ea_cons (ed_op (ed_op (ed_op (ed_cb (ea_cons ec ea_nil) rc_intI) ed_int (r_mod (by decide))) ed_int (r_mul (.inr ⟨by decide, by decide⟩))) (ed_op ed_int ek (r_mul (.inl ⟨by decide, by decide⟩))) r_add) ea_nil) rc_intI) ed_int (r_mod (by decide))) ed_int r_add) ea_nil)) (by show 2 ≤ sizeLine; decide) fun b xs H4 e4 nb hx => ?_
      obtain ⟨u1, u2, rfl, h1, h2⟩ := two_args hx
      obtain rfl := h1.int_inv
      obtain rfl := h2.int_inv
      have e14 := ((e1.trans e2).trans e3).trans e4
      have z := hsm (c % 2147483587 * 69069 + 1307 * (k : Int))
      refine q b _ _ _ ⟨?_, ?_, ?_⟩ (ex_none e14 nb) upd_same (e14.trans (ex_new nb))
      · split
        · rename_i hc
          exact Int.le_trans (by decide) hc
        · exact Int.le_refl _
      · omega
      · omega
  · have hlt : k < ns.length := by have := of_decide_eq_true ex; omega
    exact s_set1 nok0 (ed_cb (ea_cons (ed_cb (ea_cons (e_six (i := 0) rfl (e2.seq hS1) ek (atI_nat (List.getElem?_eq_getElem hlt))) ea_nil) rc_intI) ea_nil) rc_abs) fun v H3 e3 hv => by
      obtain rfl := hv.int_inv
      exact J _ _ ⟨e2.trans e3, _, rfl⟩
  · refine s_ifL (x := decide ((0 : Int) < ns.length)) nok0 (eb_test (ed_op (eS.le (Le.of e2)) ed_int r_gt)) (fun ex' H3 e3 => ?_) fun ex' H3 e3 => ?_
    · have hpos : (0 : Int) < ns.length := of_decide_eq_true ex'
      have e23 := e2.trans e3
      have hm : ((k : Int) % ns.length) = ((k % ns.length : Nat) : Int) := by omega
      have hlt : k % ns.length < ns.length := Nat.mod_lt _ (by omega)
      refine s_set1 nok0 (ed_op (ed_var (i := 2) rfl (.int _)) (ed_op (ed_op (ed_cb (ea_cons (ed_cb (ea_cons (ed_cb (ea_cons (e_six (i := 0) (k := (k : Int) % ns.length) rfl (e23.seq hS1) (ed_op (ed_cb (ea_cons ek ea_nil) rc_intI) (eS.le (Le.of e23)) (r_mod hpos)) (by rw [hm]; exact atI_nat (List.getElem?_eq_getElem hlt))) ea_nil) rc_intI) ea_nil) rc_abs) ea_nil) rc_intI) ed_int (r_mod (by decide))) ed_int (r_mul (.inr ⟨by decide, by decide⟩))) r_add) fun v H4 e4 hv => ?_
      obtain rfl := hv.int_inv
      exact J _ _ ⟨e23.trans e4, _, rfl⟩
    · exact J _ _ ⟨e2.trans e3, _, rfl⟩
theorem ok_l_take (F : Fun K "_law_take" "_law_take" s_l_take f fd) (T : Gl0 mg) : FnOk P w K mg base CX0 1 f fd ["_law_box_here", "_law_many"] takeSp := by
  refine F.ok sc_l_take (fun vs H Q E ⟨_, _, h, _⟩ => by rw [h]; rfl) (fun cdv A outer st H vs Q E hr h => ?_)
  obtain ⟨b, m, rfl, ⟨g, s, hb, bx⟩, m1, m2, q⟩ := h
  refine ⟨_, (pss_cons (ps_if (pt_cmpR op_gtU (pe_ix ix_seq (pv 0) pe_int (fun _ _ => rfl)) pe_int (nomark _)) (pss_cons (ps_set (i := 2) sc_l_take.nd rfl (Or.inl rfl) (pe_op op_modU (pe_callTy cr_int1 (by rfl) T.int (by decide +kernel) (pa_cons (pe_ix ix_seq (pv 0) pe_int (fun _ _ => rfl)) pa_nil)) (pv 1))) (pss_cons (ps_asg (pe_op op_divU (pe_ix ix_seq (pv 0) pe_int (fun _ _ => rfl)) (pv 1)) (pg_sub (pv 0) pe_int set_list)) (pss_one (ps_ret (pv 2))))) pss_nil) (pss_cons (ps_set (i := 3) sc_l_take.nd rfl (Or.inl rfl) (pe_op op_modU (pe_callTy cr_int1 (by rfl) T.int (by decide +kernel) (pa_cons (pe_op op_addU (pe_op op_mulU (pe_ix ix_seq (pv 0) pe_int (fun _ _ => rfl)) pe_int) pe_int) pa_nil)) pe_int)) (pss_cons (ps_asg (pe_op op_addU (pe_op op_modU (pe_callTy cr_int1 (by rfl) T.int (by decide +kernel) (pa_cons (pe_op op_addU (pe_op op_mulU (pv 3) pe_int) pe_int) pa_nil)) pe_int) pe_int) (pg_sub (pv 0) pe_int set_list)) (pss_one (ps_ret (pe_op op_modU (pe_callTy cr_int1 (by rfl) T.int (by decide +kernel) (pa_cons (pe_op op_divU (pe_op op_addU (pe_op op_mulU (pv 3) pe_int) (pe_ix ix_seq (pv 0) pe_int (fun _ _ => rfl))) pe_int) pa_nil)) (pv 1))))))), ?_⟩
  have hd : ∀ {H' : Hp} {g s : Int}, H' b = some (.lst [.int g, .int s]) → DN N0 H' (.ref b) (.list [.int g, .int s]) := fun e => .lst (fun z => z) e (.cons (.int _) (.cons (.int _) .nil))
  have i0 : ∀ {H' : Hp} {g s : Int} {x y : Option V}, H' b = some (.lst [.int g, .int s]) → EvD N0 (tOp (rIx K) (tVar 0) (tC (.int 0))) [some (.ref b), some (.int m), x, y] H' (.int g) := fun e => ed_op (ed_var (i := 0) rfl (hd e)) ed_int (r_ixL rfl)
  have i1 : ∀ {H' : Hp} {g s : Int} {x y : Option V}, H' b = some (.lst [.int g, .int s]) → EvD N0 (tOp (rIx K) (tVar 0) (tC (.int 1))) [some (.ref b), some (.int m), x, y] H' (.int s) := fun e => ed_op (ed_var (i := 0) rfl (hd e)) ed_int (r_ixL rfl)
  have em : ∀ {H' : Hp} {x y : Option V}, EvD N0 (tVar 1) [some (.ref b), some (.int m), x, y] H' (.int m) := ed_var (i := 1) rfl (.int _)
  have hsb : ∀ {H1 H2 : Hp} {g s : Int}, Ex H H1 → Bx g s → Ex (upd H1 b (.lst [.int g, .int s])) H2 → Sb b H H2 := fun e1 bx' e2 => ⟨fun a o na ea => e2 _ _ (by rw [upd_ne na]; exact e1 _ _ ea), _, _, e2 _ _ upd_same, bx'⟩
  have hmod : ∀ x : Int, 0 ≤ x % m ∧ x % m < m := fun x => ⟨Int.emod_nonneg _ (by omega), Int.emod_lt_of_pos _ (by omega)⟩
  refine s_if (x := decide (0 < g)) nok0 (eb_test (ed_op (i0 hb) ed_int r_gt)) (fun ex H1 e1 => ?_) fun ex H1 e1 => ?_
  · have hb1 := e1 _ _ hb
    refine s_set nok0 (ed_op (ed_cb (ea_cons (i0 hb1) ea_nil) rc_intI) em (r_mod (by omega))) fun v2 H2 e2 hv2 => ?_
    obtain rfl := hv2.int_inv
    have hb2 := e2 _ _ hb1
    refine s_setIx (i := 0) (k := 0) (j := 0) (xs := [.int g, .int s]) nok0 (ed_op (i0 hb2) em (r_div (by omega))) rfl (fun H3 e3 => e3 _ _ hb2) ed_int rfl fun v H3 e3 hv => ?_
    obtain rfl := hv.int_inv
    refine s_ret nok0 (ed_var (i := 2) rfl (.int _)) fun u H4 e4 hu => ?_
    obtain rfl := hu.int_inv
    exact q _ H4 (hmod g).1 (hmod g).2 (hsb (g := g / m) (s := s) ((e1.trans e2).trans e3) ⟨Int.ediv_nonneg bx.g0 (by omega), bx.s0, bx.s1⟩ e4)
  · have hb1 := e1 _ _ hb
    have hsm : ∀ x : Int, 0 ≤ x % 2147483399 ∧ x % 2147483399 < 2147483399 := fun x => ⟨Int.emod_nonneg _ (by decide), Int.emod_lt_of_pos _ (by decide)⟩
    have hsm2 : ∀ x : Int, 0 ≤ x % 2147483587 ∧ x % 2147483587 < 2147483587 := fun x => ⟨Int.emod_nonneg _ (by decide), Int.emod_lt_of_pos _ (by decide)⟩
    refine s_set nok0 (d := .int ((s * 40692 + 97) % 2147483399)) (ed_op (ed_cb (ea_cons (ed_op (ed_op (i1 hb1) ed_int (r_mul (.inr ⟨by decide, by decide⟩))) ed_int r_add) ea_nil) rc_intI) ed_int (r_mod (by decide))) fun v2 H2 e2 hv2 => ?_
    obtain rfl := hv2.int_inv
    have hb2 := e2 _ _ hb1
    have z := hsm (s * 40692 + 97)
    generalize (s * 40692 + 97) % 2147483399 = r at z
    refine s_setIx (i := 0) (k := 1) (j := 1) (xs := [.int g, .int s]) nok0 (ed_op (ed_op (ed_cb (ea_cons (ed_op (ed_op (ed_var (i := 3) rfl (.int _)) ed_int (r_mul (.inr ⟨by decide, by decide⟩))) ed_int r_add) ea_nil) rc_intI) ed_int (r_mod (by decide))) ed_int r_add) rfl (fun H3 e3 => e3 _ _ hb2) ed_int rfl fun v H3 e3 hv => ?_
    obtain rfl := hv.int_inv
    have z2 := hsm2 (r * 40014 + 11)
    obtain ⟨s', es'⟩ : ∃ s', s' = (r * 40014 + 11) % 2147483587 + 1 := ⟨_, rfl⟩
    rw [← es']
    refine s_ret nok0 (ed_op (ed_cb (ea_cons (ed_op (ed_op (ed_op (ed_var (i := 3) rfl (.int _)) ed_int (r_mul (.inr ⟨by decide, by decide⟩))) (i1 (g := g) (s := s') upd_same) r_add) ed_int (r_div (by decide))) ea_nil) rc_intI) em (r_mod (by omega))) fun u H4 e4 hu => ?_
    obtain rfl := hu.int_inv
    exact q _ H4 (hmod _).1 (hmod _).2 (hsb (g := g) (s := s') ((e1.trans e2).trans e3) ⟨bx.g0, by omega, by omega⟩ e4)
theorem ok_l_pick (F : Fun K "_law_pick" "_law_pick" s_l_pick f fd) (T : Gl0 mg) (G_l_take : Has P w K mg base CX0 1 "_law_take" ["_law_box_here", "_law_many"] takeSp) : FnOk P w K mg base CX0 2 f fd ["_law_box_here", "_law_some"] pickSp := by
  refine F.ok sc_l_pick (fun vs H Q E ⟨_, _, _, _, h, _⟩ => by rw [h]; rfl) (fun cdv A outer st H vs Q E hr h => ?_)
  obtain ⟨N, b, v, ds, rfl, nb, n, hb, hv, hne, hz, q⟩ := h
  refine ⟨_, (pss_one (ps_ret (pe_ix ix_seq (pv 1) (pe_callH G_l_take hr (by rfl) pass0 (pa_cons (pv 0) (pa_cons (pe_callB cr_len1 (by rfl) T.len (by decide +kernel) (pa_cons (pv 1) pa_nil)) pa_nil))) (fun _ _ => rfl)))), ?_⟩
  refine ⟨v, rfl, .ref b, rfl, ?_⟩
  refine (ed_cb (ea_cons (ed_var (i := 1) rfl hv) ea_nil) rc_lenL : EvD N (tCB (rLen K) (tCons (tVar 1) tNil)) (start ["_law_box_here", "_law_some"] [.ref b, v]) H (.int ds.length)) N H Le.refl n _ fun w H1 e1 hw => ?_
  obtain rfl := hw.int_inv
  refine ⟨b, (ds.length : Int), rfl, hb.ex e1, ?_, by omega, fun d H2 d0 d1 sb => ?_⟩
  · cases ds with
    | nil => exact absurd rfl hne
    | cons x r => rw [List.length_cons]; omega
  · have sb0 : Sb b H H2 := e1.sb sb
    have hv2 : DN N H2 v (.list ds) := hv.kp (sb0.kp nb)
    have hlt : d.toNat < ds.length := by omega
    have ed : d = (d.toNat : Int) := by omega
    obtain ⟨x, hx⟩ : ∃ x, ds[d.toNat]? = some x := ⟨_, List.getElem?_eq_getElem hlt⟩
    have ha := atI_nat hx
    rw [← ed] at ha
    refine r_ixL (as := ds) (i := d) (d := x) ha N H2 Le.refl (sb0.nok n) v (.int d) hv2 (.int d) _ fun u H3 e3 hu => ?_
    exact q u H3 _ (List.mem_of_getElem? hx) (sb0.ex e3) hu
end
end K14
/-! K14Law4 -/
set_option Elab.async false
set_option linter.all false
set_option maxRecDepth 100000
set_option maxHeartbeats 2000000
/-! The law's own defs: spans mixed. -/
namespace K14
open PySem PySem.Spec PyProof.Rows L2
/-- the reading gives a new object that stands for d -/
def EvF (N : Addr → Prop) (te : TE) (σ : L2.St) (H : Hp) (d : PyData) : Prop :=
  ∀ N1 H1, Le N H N1 H1 → NOk N1 H1 → ∀ Q : VK, (∀ p H2, Ex H1 H2 → H1 p = none → DN N1 H2 (.ref p) d → Q (.ref p) H2) → te σ H1 Q
section
variable {K : PySem.W.Frag} {N : Addr → Prop} {σ : L2.St} {H : Hp} {ta tb te : TE} {tt : TT} {tas : TA} {a b d : PyData} {as bs ds : List PyData} {tz tu tw : TS} {D : Ends} {Q : VK} {E : XK} {bx p : Addr}
theorem EvF.ev (h : EvF N te σ H d) : EvD N te σ H d := fun N1 H1 l n Q q => h N1 H1 l n Q fun p H2 e _ hp => q _ H2 e hp
theorem EvF.is (h : EvF N te σ H d) (e : d = a) : EvF N te σ H a := e ▸ h
theorem ef_lst (h : EvA N tas σ H as) (hz : as.length ≤ sizeLine) : EvF N (tLst tas) σ H (.list as) := fun N1 H1 l n Q q =>
  h N1 H1 l n _ fun xs H2 e2 hxs => ⟨by rw [hxs.length]; exact hz, fun p hp => q p _ (e2.trans (ex_new hp)) (ex_none e2 hp) (.lst ((n.ex e2).fresh hp) upd_same (hxs.ex (ex_new hp)))⟩
theorem ef_listOf (hs : isSeqD d ds) (h : EvD N ta σ H d) : EvF N (tCB (rListOf K) (tCons ta tNil)) σ H (.list ds) := fun N1 H1 l n Q q =>
  h N1 H1 l n _ fun v H2 e2 hv => by
    rcases hs with rfl | rfl
    · obtain ⟨p, xs, rfl, na, ea, ha⟩ := hv.lst_inv
      exact ⟨p, xs, rfl, .inl (SqL.of ea), fun l hl => q l _ (e2.trans (ex_new hl)) (ex_none e2 hl) (.lst ((n.ex e2).fresh hl) upd_same (ha.ex (ex_new hl)))⟩
    · obtain ⟨p, xs, rfl, na, ea, ha⟩ := hv.tup_inv
      exact ⟨p, xs, rfl, .inr (SqT.of ea), fun l hl => q l _ (e2.trans (ex_new hl)) (ex_none e2 hl) (.lst ((n.ex e2).fresh hl) upd_same (ha.ex (ex_new hl)))⟩
/-- two names set to two new objects -/
theorem s_parF {i j : Nat} (n : NOk N H) (ha : EvF N ta σ H a) (hb : EvF N tb σ H b) (k : ∀ p q H1, Ex H H1 → H p = none → H q = none → p ≠ q → DN N H1 (.ref p) a → DN N H1 (.ref q) b → tz D ((σ.set i (some (.ref p))).set j (some (.ref q))) H1) :
    tSeq (tPar i j (tCons ta (tCons tb tNil))) tz D σ H := ha N H Le.refl n _ fun p H1 e1 hp d1 => hb N H1 (Le.of e1) (n.ex e1) _ fun q H2 e2 hq d2 => ⟨_, _, rfl, k p q H2 (e1.trans e2) hp (ex_none e1 hq) (fun z => by
      subst z
      have : ∃ o, H1 p = some o := by
        cases d1 with
        | lst n e r => exact ⟨_, e⟩
        | tup n e r => exact ⟨_, e⟩
      obtain ⟨o, e⟩ := this
      rw [hq] at e
      cases e) (d1.ex e2) d2⟩
/-- a digit is taken -/
theorem x_take {m : Int} (hσ : σ[0]? = some (some (.ref bx))) (nb : N bx) (n : NOk N H) (B : BoxAt H bx) (em : EvD N te σ H (.int m)) (m1 : 1 ≤ m) (m2 : m ≤ 1000000) (k : ∀ d H', 0 ≤ d → d < m → Sb bx H H' → Q (.int d) H') :
    tCall takeSp [] E (tCons (tVar 0) (tCons te tNil)) σ H Q := ⟨.ref bx, hσ, em N H Le.refl n _ fun v H1 e1 hv => ⟨bx, m, by rw [hv.int_inv]; rfl, B.ex e1, m1, m2, fun d H' d0 d1 sb => k d H' d0 d1 (e1.sb sb)⟩⟩
/-- .. by the length of a list that may change -/
theorem x_takeL {i : Nat} {xs : List V} (hσ : σ[0]? = some (some (.ref bx))) (B : BoxAt H bx) (hi : σ[i]? = some (some (.ref p))) (hp : H p = some (.lst xs)) (m1 : xs ≠ []) (m2 : xs.length ≤ 1000000) (k : ∀ (d : Nat) H', d < xs.length → Sb bx H H' → Q (.int d) H') :
    tCall takeSp [] E (tCons (tVar 0) (tCons (tCB (rLen K) (tCons (tVar i) tNil)) tNil)) σ H Q := ⟨.ref bx, hσ, .ref p, hi, p, xs, rfl, .inl (SqL.of hp), bx, (xs.length : Int), rfl, B, by have := List.length_pos_iff.mpr m1; omega, by omega, fun d H' d0 d1 sb => by
      have e : d = (d.toNat : Int) := by omega
      rw [e]
      exact k d.toNat H' (by omega) sb⟩
/-- an item is picked -/
theorem x_pick (hσ : σ[0]? = some (some (.ref bx))) (nb : N bx) (n : NOk N H) (B : BoxAt H bx) (em : EvD N te σ H (.list ds)) (m1 : ds ≠ []) (m2 : ds.length ≤ 1000) (k : ∀ u d H', d ∈ ds → Sb bx H H' → DN N H' u d → Q u H') :
    tCall pickSp [] E (tCons (tVar 0) (tCons te tNil)) σ H Q := ⟨.ref bx, hσ, em N H Le.refl n _ fun v H1 e1 hv => ⟨N, bx, v, ds, rfl, nb, n.ex e1, B.ex e1, hv, m1, m2, fun u H' d hd sb hu => k u d H' hd (e1.sb sb) hu⟩⟩
/-- an item is popped from a list that may change -/
theorem x_pop {i : Nat} {xs : List V} {ta : TA} (hi : σ[i]? = some (some (.ref p))) (hp : H p = some (.lst xs)) (ht : ∀ Q' : List V → Hp → Prop, (∀ (d : Nat) H', d < xs.length → Sb bx H H' → Q' [.int d] H') → ta σ H Q') (npb : p ≠ bx) (hz : xs.length ≤ 1000000)
    (k : ∀ (d : Nat) y H', xs[d]? = some y → Sb bx H H' → Q y (upd H' p (.lst (xs.eraseIdx d)))) : tBM K "list" rPopAt (tVar i) ta σ H Q := ⟨.ref p, hi, .inl ⟨rfl, xs, SqL.of hp⟩, ht _ fun d H' hd sb => by
      have e := sb.keep p _ npb hp
      exact ⟨p, xs, (d : Int), d, xs[d], rfl, rfl, e, by omega, by omega, seqIx hd, List.getElem?_eq_getElem hd, k d _ H' (List.getElem?_eq_getElem hd) sb⟩⟩
end
theorem c_r2 {σ : L2.St} {H : Hp} {Q : VK} {r : R2} {x y : V} (h : r x y H Q) : tC y σ H fun y' H2 => r x y' H2 Q := h
/-- p's list is changed: all of p ∈ N stays list -/
theorem kp_upd {N : Addr → Prop} {H : Hp} {p : Addr} {o : HO} (h : N p) : Kp N H (upd H p o) := fun a u n e => by
  rw [upd_ne (show a ≠ p from fun z => n (z ▸ h))]
  exact e
theorem nok_upd {N : Addr → Prop} {H : Hp} {p : Addr} {xs : List V} (n : NOk N H) : NOk N (upd H p (.lst xs)) := fun a ha => by
  by_cases z : a = p
  · subst z; exact ⟨xs, upd_same⟩
  · obtain ⟨ys, e⟩ := n a ha
    exact ⟨ys, by rw [upd_ne z]; exact e⟩
theorem box_upd {H : Hp} {b p : Addr} {o : HO} (h : BoxAt H b) (z : b ≠ p) : BoxAt (upd H p o) b := by
  obtain ⟨g, s, e, h⟩ := h
  exact ⟨g, s, by rw [upd_ne z]; exact e, h⟩
theorem NOk.add {N : Addr → Prop} {H : Hp} {p : Addr} {xs : List V} (n : NOk N H) (h : H p = some (.lst xs)) : NOk (fun a => N a ∨ a = p) H := fun a ha => by
  rcases ha with ha | rfl
  · exact n a ha
  · exact ⟨xs, h⟩
/-- data does not lie at a list that is at the top, and is not inside -/
theorem DNs.addN {N : Addr → Prop} {H H0 : Hp} {p : Addr} {vs : List V} {ds : List PyData} (h : DNs N H0 vs ds) (e : Ex H0 H) (n : H0 p = none) : DNs (fun a => N a ∨ a = p) H vs ds := h.le ((Le.add n).trans ⟨fun _ h => h, fun _ h => .inl h, fun a o _ x => e a o x⟩)
/-- tuples of whole numbers lie at no list -/
theorem tups_N {N N' : Addr → Prop} {H : Hp} (n' : NOk N' H) : ∀ {nss : List (List Int)} {xs : List V}, DNs N H xs (nss.map tupD) → DNs N' H xs (nss.map tupD)
  | [], _, h => by cases h; exact .nil
  | ns :: r, _, h => by
    cases h with
    | cons h1 h2 =>
      obtain ⟨p, ys, rfl, np, ep, hy⟩ := h1.tup_inv
      have e := hy.ints
      subst e
      exact .cons (.tup (n'.tup ep) ep (DNs.of_ints ns)) (tups_N n' h2)
theorem spans_N {N N' : Addr → Prop} {H : Hp} (n' : NOk N' H) {l : List Span} {xs : List V} (h : DNs N H xs (l.map spD)) : DNs N' H xs (l.map spD) := by
  have e : l.map spD = (l.map spL).map tupD := by rw [List.map_map]; rfl
  rw [e] at h ⊢
  exact tups_N n' h
theorem eraseIdx_map' {α β : Type} (g : α → β) : ∀ (l : List α) (d : Nat), (l.map g).eraseIdx d = (l.eraseIdx d).map g
  | [], _ => rfl
  | _ :: _, 0 => rfl
  | a :: r, d + 1 => by
    show g a :: (r.map g).eraseIdx d = g a :: (r.eraseIdx d).map g
    rw [eraseIdx_map' g r d]
theorem mem_erase' {α : Type} : ∀ {l : List α} {d : Nat} {s : α}, l[d]? = some s → ∀ x, x ∈ l ↔ x ∈ l.eraseIdx d ∨ x = s
  | [], _, _, h, _ => by simp at h
  | a :: r, 0, s, h, x => by
    have : a = s := by simpa using h
    subst this
    show x ∈ a :: r ↔ x ∈ r ∨ x = a
    rw [List.mem_cons]
    exact Or.comm
  | a :: r, d + 1, s, h, x => by
    show x ∈ a :: r ↔ x ∈ a :: r.eraseIdx d ∨ x = s
    rw [List.mem_cons, List.mem_cons, mem_erase' (l := r) (by simpa using h) x]
    exact or_assoc.symm
section
variable {P : Program} {w : World} {K : PySem.W.Frag} {mg : Str → Option Value} {base : Heap} {f : Addr} {fd : FuncData}
def mixedSp : Sp := fun vs H Q _ => ∃ (N : Addr → Prop) (b : Addr) (v : V) (l : List Span), vs = [.ref b, v] ∧ N b ∧ NOk N H ∧ BoxAt H b ∧ DN N H v (.list (l.map spD)) ∧ l.length ≤ 400 ∧ ∀ u H' (m : List Span), (∀ x, x ∈ m ↔ x ∈ l) → m.length ≤ 2 * l.length → Sb b H H' → DN N H' u (.list (m.map spD)) → Q u H'
theorem ok_l_mixed (F : Fun K "_law_mixed" "_law_mixed" s_l_mixed f fd) (T : Gl0 mg) (G_l_take : Has P w K mg base CX0 1 "_law_take" ["_law_box_here", "_law_many"] takeSp) : FnOk P w K mg base CX0 2 f fd ["_law_box_here", "_law_spans_here"] mixedSp := by
  refine F.ok sc_l_mixed (fun vs H Q E ⟨_, _, _, _, h, _⟩ => by rw [h]; rfl) (fun cdv A outer st H vs Q E hr h => ?_)
  obtain ⟨N, b, v, l, rfl, nb, n, B, hv, hl, q⟩ := h
  refine ⟨_, (pss_cons (ps_par (i := 2) (j := 3) rfl sc_l_mixed.nd rfl rfl (by decide) rfl rfl (pa_cons (pe_callTy cr_listOf (by rfl) T.list (by decide +kernel) (pa_cons (pv 1) pa_nil)) (pa_cons (pe_lst pa_nil) pa_nil)) (by rfl)) (pss_cons (ps_for PassesOwn.never rfl (pi_range1 (by rfl) T.range (pa_cons (pe_callB cr_len1 (by rfl) T.len (by decide +kernel) (pa_cons (pv 1) pa_nil)) pa_nil)) (pg_name (i := 4) sc_l_mixed.nd rfl (by first | exact Or.inl rfl | exact Or.inr rfl)) (pss_one (ps_expr (pe_bm PySem.F.plainAttrs_list PySem.F.slot_list_append PySem.F.type_list_append mt_append (pv 3) (pa_cons (pe_bm PySem.F.plainAttrs_list PySem.F.slot_list_pop PySem.F.type_list_pop mt_popAt (pv 2) (pa_cons (pe_callH G_l_take hr (by rfl) pass0 (pa_cons (pv 0) (pa_cons (pe_callB cr_len1 (by rfl) T.len (by decide +kernel) (pa_cons (pv 2) pa_nil)) pa_nil))) pa_nil)) pa_nil))))) (pss_one (ps_ret (pe_op op_addU (pv 3) (pe_ifExp (pt_cmpR (op_eqD hr.units) (pe_callH G_l_take hr (by rfl) pass0 (pa_cons (pv 0) (pa_cons pe_int pa_nil))) pe_int (nomark _)) (pe_slice sl_U (pv 3) po_none (po_some pe_int)) (pe_lst pa_nil))))))), ?_⟩
  refine s_parF n (ef_listOf (.inl rfl) (ed_var (i := 1) rfl hv)) (ef_lst ea_nil (Nat.zero_le _)) fun lf fo H1 e1 nl nf hne dl df => ?_
  obtain ⟨_, xs, ex, nlN, hl1, hxs⟩ := dl.lst_inv
  cases ex
  obtain ⟨_, ys, ey, nfN, hf1, hys⟩ := df.lst_inv
  cases ey
  cases hys
  have bl : b ≠ lf := fun z => nlN (z ▸ nb)
  have bf : b ≠ fo := fun z => nfN (z ▸ nb)
  obtain ⟨N', eN⟩ : ∃ N' : Addr → Prop, N' = fun a => (a = b ∨ a = lf) ∨ a = fo := ⟨_, rfl⟩
  have nb' : N' b := by rw [eN]; exact .inl (.inl rfl)
  have nlf : N' lf := by rw [eN]; exact .inl (.inr rfl)
  have nfo : N' fo := by rw [eN]; exact .inr rfl
  have n1 := n.ex e1
  have n' : NOk N' H1 := by
    rw [eN]
    rintro a ((rfl | rfl) | rfl)
    · exact n1 a nb
    · exact ⟨_, hl1⟩
    · exact ⟨_, hf1⟩
  refine s_forR (m := ((l.map spD).length : Int)) (fun H0 i σ1 H2 => Ex H1 H0 ∧ (∃ x4 xs ys ls fs, σ1 = [some (.ref b), some v, some (.ref lf), some (.ref fo), x4] ∧ Kp N' H0 H2 ∧ BoxAt H2 b ∧ NOk N' H2 ∧ H2 lf = some (.lst xs) ∧ H2 fo = some (.lst ys) ∧ DNs N' H2 xs (ls.map spD) ∧ DNs N' H2 ys (fs.map spD) ∧ fs.length = i ∧ ls.length + i = l.length ∧ ∀ x, (x ∈ ls ∨ x ∈ fs) ↔ x ∈ l))
    (ea_cons (ed_cb (ea_cons (ed_var (i := 1) rfl (hv.ex e1)) ea_nil) rc_lenL) ea_nil) (by rw [List.length_map]; omega) n1 (fun H2 e2 => ⟨e2, _, xs, [], l, [], rfl, Kp.refl, (B.ex e1).ex e2, n'.ex e2, e2 _ _ hl1, e2 _ _ hf1, ?_, .nil, rfl, rfl, fun x => by simp⟩) (fun H0 e0 i σ1 H2 hi hP => ?_) fun H0 e0 σ1 H2 hP => ?_
  · exact spans_N (n'.ex e2) (hxs.ex e2)
  · obtain ⟨e2, x4, xs, ys, ls, fs, rfl, kp, B2, n2, hl2, hf2, dxs, dys, hfl, hll, hmem⟩ := hP
    rw [List.length_map] at hi
    have hls : xs ≠ [] := by
      intro z
      have := dxs.length
      rw [z, List.length_map] at this
      simp at this
      omega
    have lxs : xs.length = ls.length := by rw [dxs.length, List.length_map]
    have lys : ys.length = fs.length := by rw [dys.length, List.length_map]
    refine ⟨.ref fo, rfl, .inl ⟨rfl, ys, SqL.of hf2⟩, ?_⟩
    refine x_pop (bx := b) (i := 2) rfl hl2 (fun Q' k => x_takeL rfl B2 (i := 2) rfl hl2 hls (by omega) fun d H' hd sb => k d H' hd sb) bl.symm (by omega) fun d y H3 hy sb => ?_
    obtain ⟨dd, hdd, hdy⟩ := dxs.getV hy
    obtain ⟨s, hs, rfl⟩ := map_get hdd
    have hd : d < ls.length := (List.getElem?_eq_some_iff.mp hs).1
    have hf3 : H3 fo = some (.lst ys) := sb.keep fo _ bf.symm hf2
    have hf4 : (upd H3 lf (.lst (xs.eraseIdx d))) fo = some (.lst ys) := by rw [upd_ne hne.symm]; exact hf3
    refine ⟨fo, ys, y, rfl, rfl, hf4, by rw [lys, sizeLine_eq]; omega, ?_⟩
    have k3 : Kp N' H2 (upd (upd H3 lf (.lst (xs.eraseIdx d))) fo (.lst (ys ++ [y]))) := ((sb.kp nb').trans (kp_upd nlf)).trans (kp_upd nfo)
    refine ⟨e2, _, xs.eraseIdx d, ys ++ [y], ls.eraseIdx d, fs ++ [s], rfl, kp.trans k3, box_upd (box_upd sb.box bl) bf, nok_upd (nok_upd (sb.nok n2)), by rw [upd_ne hne]; exact upd_same, upd_same, ?_, ?_, ?_, ?_, ?_⟩
    · rw [← eraseIdx_map']
      exact (dxs.kp k3).eraseIdx d
    · rw [List.map_append]
      exact (dys.kp k3).snoc (hdy.kp k3)
    · rw [List.length_append, hfl]; rfl
    · rw [List.length_eraseIdx, if_pos hd]; omega
    · intro x
      rw [← hmem x, List.mem_append, List.mem_singleton]
      have := mem_erase' hs x
      constructor
      · rintro (z | z | z)
        · exact .inl (this.mpr (.inl z))
        · exact .inr z
        · exact .inl (this.mpr (.inr z))
      · rintro (z | z)
        · exact (this.mp z).elim .inl fun z => .inr (.inr z)
        · exact .inr (.inl z)
  · obtain ⟨e2, x4, xs, ys, ls, fs, rfl, kp, B2, n2, hl2, hf2, dxs, dys, hfl, hll, hmem⟩ := hP
    rw [Int.toNat_natCast, List.length_map] at hfl hll
    have hls : ls = [] := List.eq_nil_of_length_eq_zero (by omega)
    subst hls
    have sb02 : Sb b H H2 := ⟨fun a o na ea => kp a o (fun z => by
      rw [eN] at z
      rcases z with (z | z) | z
      · exact na z
      · rw [z, nl] at ea; cases ea
      · rw [z, nf] at ea; cases ea) (e2 a o (e1 a o ea)), B2⟩
    have nN2 : NOk N H2 := sb02.nok n
    have lys : ys.length = fs.length := by rw [dys.length, List.length_map]
    dsimp only
    refine ⟨.ref fo, rfl, ?_⟩
    refine x_take (bx := b) rfl nb nN2 B2 ed_int (m := 2) (by decide) (by decide) fun d H3 d0 d1 sb => c_r2 (r_eqI (i := d) (j := 0) N H3 Le.refl (sb.nok nN2) (.int d) (.int 0) (.int d) (.int 0) _ fun z H4 e4 hz => ?_)
    have nN3 : NOk N H4 := (sb.nok nN2).ex e4
    have hf3 : H4 fo = some (.lst ys) := e4 _ _ (sb.keep fo _ bf.symm hf2)
    have sb04 : Sb b H H4 := (sb02.trans sb).ex e4
    have dfo : DN N H4 (.ref fo) (.list (fs.map spD)) := .lst nfN hf3 (spans_N nN3 ((dys.kp (sb.kp nb')).ex e4))
    have fin : ∀ (w : V) (H5 : Hp) (t : Nat), Ex H4 H5 → DN N H5 w (.list ((fs.take t).map spD)) → rAddU K (.ref fo) w H5 Q := fun w H5 t e5 hw => by
      refine r_addL (as := fs.map spD) (bs := (fs.take t).map spD) ?_ N H5 Le.refl (nN3.ex e5) _ w (dfo.ex e5) hw _ fun u H6 e6 hu => ?_
      · have : (fs.take t).length ≤ fs.length := by rw [List.length_take]; omega
        rw [List.length_map, List.length_map, sizeLine_eq]
        omega
      · rw [← List.map_append] at hu
        refine q u H6 (fs ++ fs.take t) (fun x => ?_) ?_ ((sb04.ex e5).ex e6) hu
        · rw [List.mem_append, ← hmem x]
          constructor
          · rintro (z | z)
            · exact .inr z
            · exact .inr (List.mem_of_mem_take z)
          · rintro (z | z)
            · simp at z
            · exact .inl z
        · have : (fs.take t).length ≤ fs.length := by rw [List.length_take]; omega
          rw [List.length_append]
          omega
    refine ⟨_, hz.bl_inv, ?_⟩
    generalize decide (d = 0) = c
    cases c with
    | true =>
      refine iteT (ed_slL (as := fs.map spD) (ed_var (i := 3) rfl dfo) eo_none (eo_some (i := ((1 : Nat) : Int)) ed_int) N H4 Le.refl nN3 _ fun w H5 e5 hw => ?_)
      rw [cut_to, ← List.map_take] at hw
      exact fin w H5 1 e5 hw
    | false =>
      refine iteF ((ed_lst ea_nil (Nat.zero_le _)) N H4 Le.refl nN3 _ fun w H5 e5 hw => ?_)
      exact fin w H5 0 e5 hw
end
end K14
/-! K14Lam -/
set_option Elab.async false
set_option linter.all false
set_option maxRecDepth 100000
set_option maxHeartbeats 2000000
/-! Halves of halves: what is found never crosses. -/
namespace K14
open PySem PySem.Spec PyProof.Rows L2
def cutN (vals : List Int) (a b : Nat) : List Int := (vals.drop a).take (b - a)
def statS (vals : List Int) (a b : Nat) : Span := ⟨a, (b : Int) - a, (cutN vals a b).sum, minI (cutN vals a b), maxI (cutN vals a b)⟩
theorem statS_end (vals : List Int) (a b : Nat) : endO (statS vals a b) = b := by
  show (a : Int) + ((b : Int) - a) = b
  omega
/-- the found span f is apart from the stretch, or holds it -/
def Over (f : Span) (a b : Nat) : Prop := endO f ≤ a ∨ (b : Int) ≤ f.first ∨ (f.first ≤ a ∧ (b : Int) ≤ endO f)
def Strict (f : Span) (a b : Nat) : Prop := endO f ≤ a ∨ (b : Int) ≤ f.first ∨ (f.first ≤ a ∧ (b : Int) ≤ endO f ∧ ¬ (f.first = a ∧ endO f = b))
theorem Strict.over {f : Span} {a b : Nat} (h : Strict f a b) : Over f a b := h.elim .inl fun h => h.elim (fun h => .inr (.inl h)) fun h => .inr (.inr ⟨h.1, h.2.1⟩)
structure SInv (rows : Nat) (vals : List Int) (F : List Span) (S : List (Nat × Nat)) : Prop where
  sb : ∀ p ∈ S, p.1 < p.2 ∧ p.2 ≤ rows
  sd : S.Pairwise fun p q => p.2 ≤ q.1 ∨ q.2 ≤ p.1
  fs : ∀ f ∈ F, ∃ a b, a < b ∧ b ≤ rows ∧ f = statS vals a b
  ff : F.Pairwise fun f g => crossB f g = false
  fS : ∀ f ∈ F, ∀ p ∈ S, Strict f p.1 p.2
theorem SInv.start (rows : Nat) (vals : List Int) (h : 1 ≤ rows) : SInv rows vals [] [(0, rows)] where
  sb := fun p hp => by rw [List.mem_singleton.mp hp]; exact ⟨h, Nat.le_refl _⟩
  sd := List.pairwise_singleton _ _
  fs := fun f hf => by simp at hf
  ff := List.Pairwise.nil
  fS := fun f hf => by simp at hf
/-- a stretch is taken -/
structure SOne (rows : Nat) (vals : List Int) (F : List Span) (S : List (Nat × Nat)) (a b : Nat) : Prop where
  inv : SInv rows vals F S
  lt : a < b
  le : b ≤ rows
  sep : ∀ p ∈ S, p.2 ≤ a ∨ b ≤ p.1
  over : ∀ f ∈ F, Over f a b
theorem pairwise_erase {α : Type} {R : α → α → Prop} (hR : ∀ a b, R a b → R b a) : ∀ {l : List α} {d : Nat} {s : α}, l[d]? = some s → l.Pairwise R → (l.eraseIdx d).Pairwise R ∧ ∀ x ∈ l.eraseIdx d, R x s
  | [], _, _, h, _ => by simp at h
  | a :: r, 0, s, h, p => by
    have : a = s := by simpa using h
    subst this
    rw [List.pairwise_cons] at p
    exact ⟨p.2, fun x hx => hR _ _ (p.1 x hx)⟩
  | a :: r, d + 1, s, h, p => by
    rw [List.pairwise_cons] at p
    have h' : r[d]? = some s := by simpa using h
    obtain ⟨h1, h2⟩ := pairwise_erase hR h' p.2
    show (a :: r.eraseIdx d).Pairwise R ∧ ∀ x ∈ a :: r.eraseIdx d, R x s
    refine ⟨List.pairwise_cons.mpr ⟨fun x hx => p.1 x ((mem_erase' h' x).mpr (.inl hx)), h1⟩, fun x hx => ?_⟩
    rcases List.mem_cons.mp hx with rfl | hx
    · exact p.1 s (List.mem_of_getElem? h')
    · exact h2 x hx
theorem SInv.pop {rows : Nat} {vals : List Int} {F : List Span} {S : List (Nat × Nat)} {d : Nat} {p : Nat × Nat} (I : SInv rows vals F S) (h : S[d]? = some p) : SOne rows vals F (S.eraseIdx d) p.1 p.2 ∧ ∀ f ∈ F, Strict f p.1 p.2 := by
  have hm := List.mem_of_getElem? h
  obtain ⟨h1, h2⟩ := pairwise_erase (fun a b h => h.elim .inr .inl) h I.sd
  have sub : ∀ x ∈ S.eraseIdx d, x ∈ S := fun x hx => (mem_erase' h x).mpr (.inl hx)
  exact ⟨⟨⟨fun x hx => I.sb x (sub x hx), h1, I.fs, I.ff, fun f hf x hx => I.fS f hf x (sub x hx)⟩, (I.sb p hm).1, (I.sb p hm).2, h2, fun f hf => (I.fS f hf p hm).over⟩, fun f hf => I.fS f hf p hm⟩
theorem cross_strict {f : Span} {vals : List Int} {a b : Nat} (h : Strict f a b) (lt : a < b) : crossB f (statS vals a b) = false := by
  unfold crossB isApart ins
  rw [statS_end]
  show (!(decide (endO f ≤ (a : Int)) || decide ((b : Int) ≤ f.first)) && !((decide ((a : Int) ≤ f.first) && decide (endO f ≤ (b : Int))) != (decide (f.first ≤ (a : Int)) && decide ((b : Int) ≤ endO f)))) = false
  rcases h with h | h | ⟨h1, h2, h3⟩
  · rw [decide_eq_true h]; rfl
  · rw [decide_eq_true h, Bool.or_true]; rfl
  · rw [decide_eq_true h1, decide_eq_true h2]
    by_cases q : (a : Int) ≤ f.first ∧ endO f ≤ b
    · exact absurd ⟨by omega, by omega⟩ h3
    · have e : (decide ((a : Int) ≤ f.first) && decide (endO f ≤ (b : Int))) = false := by
        rw [Bool.and_eq_false_iff]
        by_cases q1 : (a : Int) ≤ f.first
        · exact .inr (decide_eq_false fun z => q ⟨q1, z⟩)
        · exact .inl (decide_eq_false q1)
      rw [e]
      simp
theorem SOne.add {rows : Nat} {vals : List Int} {F : List Span} {S : List (Nat × Nat)} {a b : Nat} (I : SOne rows vals F S a b) (st : ∀ f ∈ F, Strict f a b) : SOne rows vals (F ++ [statS vals a b]) S a b := by
  refine ⟨⟨I.inv.sb, I.inv.sd, fun f hf => ?_, ?_, fun f hf p hp => ?_⟩, I.lt, I.le, I.sep, fun f hf => ?_⟩
  · rcases List.mem_append.mp hf with hf | hf
    · exact I.inv.fs f hf
    · rw [List.mem_singleton.mp hf]; exact ⟨a, b, I.lt, I.le, rfl⟩
  · rw [List.pairwise_append]
    exact ⟨I.inv.ff, List.pairwise_singleton _ _, fun f hf g hg => by rw [List.mem_singleton.mp hg]; exact cross_strict (st f hf) I.lt⟩
  · rcases List.mem_append.mp hf with hf | hf
    · exact I.inv.fS f hf p hp
    · rw [List.mem_singleton.mp hf]
      unfold Strict
      rw [statS_end]
      rcases I.sep p hp with z | z
      · exact .inr (.inl (by show ((p.2 : Nat) : Int) ≤ a; omega))
      · exact .inl (by omega)
  · rcases List.mem_append.mp hf with hf | hf
    · exact I.over f hf
    · rw [List.mem_singleton.mp hf]
      unfold Over
      rw [statS_end]
      exact .inr (.inr ⟨by show (a : Int) ≤ a; omega, by omega⟩)
theorem SOne.cut {rows : Nat} {vals : List Int} {F : List Span} {S : List (Nat × Nat)} {a b c : Nat} (I : SOne rows vals F S a b) (h1 : a < c) (h2 : c < b) : SInv rows vals F (S ++ [(a, c), (c, b)]) := by
  have le := I.le
  refine ⟨fun p hp => ?_, ?_, I.inv.fs, I.inv.ff, fun f hf p hp => ?_⟩
  · rcases List.mem_append.mp hp with hp | hp
    · exact I.inv.sb p hp
    · rcases List.mem_cons.mp hp with rfl | hp
      · exact ⟨h1, by show c ≤ rows; omega⟩
      · rw [List.mem_singleton.mp hp]; exact ⟨h2, le⟩
  · rw [List.pairwise_append]
    refine ⟨I.inv.sd, ?_, fun p hp q hq => ?_⟩
    · rw [List.pairwise_cons]
      exact ⟨fun q hq => by rw [List.mem_singleton.mp hq]; exact .inl (Nat.le_refl _), List.pairwise_singleton _ _⟩
    · rcases I.sep p hp with z | z
      · rcases List.mem_cons.mp hq with rfl | hq
        · exact .inl z
        · rw [List.mem_singleton.mp hq]; exact .inl (by show p.2 ≤ c; omega)
      · rcases List.mem_cons.mp hq with rfl | hq
        · exact .inr (by show c ≤ p.1; omega)
        · rw [List.mem_singleton.mp hq]; exact .inr z
  · rcases List.mem_append.mp hp with hp | hp
    · exact I.inv.fS f hf p hp
    · have o := I.over f hf
      rcases List.mem_cons.mp hp with rfl | hp
      · show Strict f a c
        unfold Strict
        rcases o with o | o | o
        · exact .inl o
        · exact .inr (.inl (by omega))
        · exact .inr (.inr ⟨o.1, by omega, fun z => by omega⟩)
      · rw [List.mem_singleton.mp hp]
        show Strict f c b
        unfold Strict
        rcases o with o | o | o
        · exact .inl (by omega)
        · exact .inr (.inl o)
        · exact .inr (.inr ⟨by omega, o.2, fun z => by omega⟩)
structure SpansOf (rows : Nat) (vals : List Int) (F : List Span) : Prop where
  vlen : vals.length = rows
  vb : ∀ x ∈ vals, -1 ≤ x ∧ x ≤ 3
  flen : F.length ≤ 9
  inv : ∃ S, SInv rows vals F S
end K14
/-! K14Law5 -/
set_option Elab.async false
set_option linter.all false
set_option maxRecDepth 100000
set_option maxHeartbeats 4000000
/-! The law's own defs: spans drawn. -/
namespace K14
open PySem PySem.Spec PyProof.Rows L2
def pairL (p : Nat × Nat) : List Int := [p.1, p.2]
theorem canLay_tups : ∀ l : List (List Int), PyData.canLayAll0 (l.map tupD) = true
  | [] => rfl
  | s :: r => by
    rw [List.map_cons, PyData.canLayAll0, canLay_tups r, PyData.canLay0, canLay_ints]
    rfl
theorem depth_tups : ∀ l : List (List Int), PyData.depthAll (l.map tupD) ≤ 1
  | [] => by rw [List.map_nil, PyData.depthAll]; omega
  | s :: r => by
    have h := depth_tups r
    rw [List.map_cons, PyData.depthAll, PyData.depth, depth_intsL]
    omega
section
variable {K : PySem.W.Frag} {N : Addr → Prop} {σ : L2.St} {H : Hp} {ta tb te : TE} {tt : TT} {tas : TA} {a b d : PyData} {as bs ds : List PyData} {t tz tu tw : TS} {D : Ends} {Q : VK} {E : XK} {bx p : Addr}
theorem r_neNilT {l : List (List Int)} : R2D N H (rNeD K) (.list (l.map tupD)) (.list []) (.bool (!l.isEmpty)) := by
  have e : PyData.eqv (.list (l.map tupD)) (.list []) = l.isEmpty := by cases l <;> simp [PyData.eqv, PyData.eqvAll]
  rw [← e]
  refine r_ne ?_ rfl
  unfold SeqAt.shaped
  have h := depth_tups l
  rw [PyData.canLay0, canLay_tups, PyData.depth]
  exact decide_eq_true (by omega)
theorem s_join (P : L2.St → Hp → Prop) (j : ∀ σ' H', P σ' H' → tz D σ' H') (h : (∀ σ' H', P σ' H' → tz D σ' H') → tSeq t tz D σ H) : tSeq t tz D σ H := h j
theorem ef_addL (ha : EvD N ta σ H (.list as)) (hb : EvD N tb σ H (.list bs)) (h : as.length + bs.length ≤ sizeLine) : EvF N (tOp (rAddU K) ta tb) σ H (.list (as ++ bs)) := fun N1 H1 l n Q q =>
  ha N1 H1 l n _ fun x H2 e2 hx => hb N1 H2 (l.ex e2) (n.ex e2) _ fun y H3 e3 hy => by
    obtain ⟨p, xs, rfl, na, ea, ha⟩ := (hx.ex e3).lst_inv
    obtain ⟨p', ys, rfl, nb, eb, hb⟩ := hy.lst_inv
    exact .inr (.inl ⟨p, p', xs, ys, rfl, rfl, ea, eb, by rw [ha.length, hb.length]; exact h, fun p hp => q p _ ((e2.trans e3).trans (ex_new hp)) (ex_none (e2.trans e3) hp) (.lst (((n.ex e2).ex e3).fresh hp) upd_same ((ha.append hb).ex (ex_new hp)))⟩)
/-- xs.append(e) -/
theorem x_append {i : Nat} {xs : List V} (n : NOk N H) (hi : σ[i]? = some (some (.ref p))) (hp : H p = some (.lst xs)) (h : EvD N ta σ H d) (hz : xs.length < sizeLine) (k : ∀ v H1, Ex H H1 → DN N H1 v d → Q .non (upd H1 p (.lst (xs ++ [v])))) :
    tBM K "list" rAppend (tVar i) (tCons ta tNil) σ H Q := ⟨.ref p, hi, .inl ⟨rfl, xs, SqL.of hp⟩, h N H Le.refl n _ fun v H1 e1 hv => ⟨p, xs, v, rfl, rfl, e1 _ _ hp, hz, k v H1 e1 hv⟩⟩
end
section
variable {P : Program} {w : World} {K : PySem.W.Frag} {mg : Str → Option Value} {base : Heap} {f : Addr} {fd : FuncData}
def spansSp : Sp := fun vs H Q _ => ∃ (N : Addr → Prop) (b : Addr) (rows : Nat), vs = [.ref b, .int rows] ∧ N b ∧ NOk N H ∧ BoxAt H b ∧ 1 ≤ rows ∧ rows ≤ 5 ∧ ∀ u H' (vals : List Int) (F : List Span), SpansOf rows vals F → Sb b H H' → DN N H' u (.tuple [.list (vals.map .int), .list (F.map spD)]) → Q u H'
/-- the loop's heap -/
structure SpH (b va fo st : Addr) (vals : List Int) (F : List Span) (S : List (Nat × Nat)) (H H' : Hp) : Prop where
  keep : ∀ a o, a ≠ b → H a = some o → H' a = some o
  box : BoxAt H' b
  nva : H va = none
  nfo : H fo = none
  nst : H st = none
  vf : va ≠ fo
  vs : va ≠ st
  fs : fo ≠ st
  hb : H b ≠ none
  hva : H' va = some (.lst (vals.map V.int))
  hfo : ∃ ys, H' fo = some (.lst ys) ∧ DNs (fun a => a = b ∨ a = fo ∨ a = st) H' ys (F.map spD)
  hst : ∃ xs, H' st = some (.lst xs) ∧ DNs (fun a => a = b ∨ a = fo ∨ a = st) H' xs ((S.map pairL).map tupD)
abbrev S3 (b fo st : Addr) : Addr → Prop := fun a => a = b ∨ a = fo ∨ a = st
section
variable {b va fo st : Addr} {vals : List Int} {F : List Span} {S : List (Nat × Nat)} {H H' H2 : Hp}
theorem SpH.nok (h : SpH b va fo st vals F S H H') : NOk (S3 b fo st) H' := by
  obtain ⟨g, s, e, _⟩ := h.box
  obtain ⟨ys, ef, _⟩ := h.hfo
  obtain ⟨xs, es, _⟩ := h.hst
  rintro a (rfl | rfl | rfl)
  · exact ⟨_, e⟩
  · exact ⟨_, ef⟩
  · exact ⟨_, es⟩
theorem SpH.bv (h : SpH b va fo st vals F S H H') : b ≠ va := fun z => h.hb (z ▸ h.nva)
theorem SpH.bf (h : SpH b va fo st vals F S H H') : b ≠ fo := fun z => h.hb (z ▸ h.nfo)
theorem SpH.bs (h : SpH b va fo st vals F S H H') : b ≠ st := fun z => h.hb (z ▸ h.nst)
theorem SpH.dva (h : SpH b va fo st vals F S H H') : DN (S3 b fo st) H' (.ref va) (.list (vals.map .int)) :=
  .lst (fun z => z.elim (fun z => h.bv z.symm) fun z => z.elim h.vf h.vs) h.hva (DNs.of_ints vals)
theorem SpH.ex (h : SpH b va fo st vals F S H H') (e : Ex H' H2) : SpH b va fo st vals F S H H2 := by
  obtain ⟨ys, ef, df⟩ := h.hfo
  obtain ⟨xs, es, ds⟩ := h.hst
  exact ⟨fun a o na ea => e _ _ (h.keep a o na ea), h.box.ex e, h.nva, h.nfo, h.nst, h.vf, h.vs, h.fs, h.hb, e _ _ h.hva, ⟨ys, e _ _ ef, df.ex e⟩, ⟨xs, e _ _ es, ds.ex e⟩⟩
theorem SpH.sb (h : SpH b va fo st vals F S H H') (s : Sb b H' H2) : SpH b va fo st vals F S H H2 := by
  obtain ⟨ys, ef, df⟩ := h.hfo
  obtain ⟨xs, es, ds⟩ := h.hst
  have k := s.kp (N := S3 b fo st) (.inl rfl)
  exact ⟨fun a o na ea => s.keep _ _ na (h.keep a o na ea), s.box, h.nva, h.nfo, h.nst, h.vf, h.vs, h.fs, h.hb, s.keep _ _ h.bv.symm h.hva, ⟨ys, s.keep _ _ h.bf.symm ef, df.kp k⟩, ⟨xs, s.keep _ _ h.bs.symm es, ds.kp k⟩⟩
/-- a stretch is popped -/
theorem SpH.pop {d : Nat} {xs : List V} (h : SpH b va fo st vals F S H H') (es : H' st = some (.lst xs)) (ds : DNs (S3 b fo st) H' xs ((S.map pairL).map tupD)) : SpH b va fo st vals F (S.eraseIdx d) H (upd H' st (.lst (xs.eraseIdx d))) := by
  obtain ⟨ys, ef, df⟩ := h.hfo
  have k : Kp (S3 b fo st) H' (upd H' st (.lst (xs.eraseIdx d))) := kp_upd (.inr (.inr rfl))
  refine ⟨fun a o na ea => ?_, box_upd h.box h.bs, h.nva, h.nfo, h.nst, h.vf, h.vs, h.fs, h.hb, ?_, ⟨ys, ?_, df.kp k⟩, ⟨xs.eraseIdx d, upd_same, ?_⟩⟩
  · rw [upd_ne (ne_of_none ea h.nst)]; exact h.keep a o na ea
  · rw [upd_ne h.vs]; exact h.hva
  · rw [upd_ne h.fs]; exact ef
  · rw [← eraseIdx_map', ← eraseIdx_map']
    exact (ds.kp k).eraseIdx d
/-- a span is found -/
theorem SpH.found {f : Span} {v : V} {ys : List V} (h : SpH b va fo st vals F S H H') (ef : H' fo = some (.lst ys)) (df : DNs (S3 b fo st) H' ys (F.map spD)) (hv : DN (S3 b fo st) H' v (spD f)) : SpH b va fo st vals (F ++ [f]) S H (upd H' fo (.lst (ys ++ [v]))) := by
  obtain ⟨xs, es, ds⟩ := h.hst
  have k : Kp (S3 b fo st) H' (upd H' fo (.lst (ys ++ [v]))) := kp_upd (.inr (.inl rfl))
  refine ⟨fun a o na ea => ?_, box_upd h.box h.bf, h.nva, h.nfo, h.nst, h.vf, h.vs, h.fs, h.hb, ?_, ⟨_, upd_same, ?_⟩, ⟨xs, ?_, ds.kp k⟩⟩
  · rw [upd_ne (ne_of_none ea h.nfo)]; exact h.keep a o na ea
  · rw [upd_ne h.vf]; exact h.hva
  · rw [List.map_append]
    exact (df.kp k).snoc (hv.kp k)
  · rw [upd_ne h.fs.symm]; exact es
/-- new stretches -/
theorem SpH.turn {st' : Addr} {xs : List V} {S' : List (Nat × Nat)} (h : SpH b va fo st vals F S H H') (e : Ex H' H2) (n : H' st' = none) (es : H2 st' = some (.lst xs)) (dx : DNs N0 H2 xs ((S'.map pairL).map tupD)) : SpH b va fo st' vals F S' H H2 := by
  obtain ⟨ys, ef, df⟩ := h.hfo
  have h2 := h.ex e
  have nst : H st' = none := by
    cases q : H st' with
    | none => rfl
    | some o =>
      by_cases z : st' = b
      · obtain ⟨g, s, eb, _⟩ := h.box
        rw [z, eb] at n
        cases n
      · rw [h.keep _ _ z q] at n; cases n
  have ok : NOk (S3 b fo st') H2 := by
    obtain ⟨g, s, eb, _⟩ := h2.box
    rintro a (rfl | rfl | rfl)
    · exact ⟨_, eb⟩
    · exact ⟨_, e _ _ ef⟩
    · exact ⟨_, es⟩
  refine ⟨h2.keep, h2.box, h.nva, h.nfo, nst, h.vf, fun z => ?_, fun z => ?_, h.hb, h2.hva, ⟨ys, e _ _ ef, spans_N ok (df.ex e)⟩, ⟨xs, es, tups_N ok dx⟩⟩
  · rw [← z, h.hva] at n; cases n
  · rw [← z, ef] at n; cases n
end
theorem ok_l_spans (F : Fun K "_law_spans" "_law_spans" s_l_spans f fd) (T : Gl0 mg) (G_l_take : Has P w K mg base CX0 1 "_law_take" ["_law_box_here", "_law_many"] takeSp) (G_l_pick : Has P w K mg base CX0 2 "_law_pick" ["_law_box_here", "_law_some"] pickSp) : FnOk P w K mg base CX0 3 f fd ["_law_box_here", "_law_many"] spansSp := by
  refine F.ok sc_l_spans (fun vs H Q E ⟨_, _, _, h, _⟩ => by rw [h]; rfl) (fun cdv A outer st0 H vs Q E hr h => ?_)
  obtain ⟨N, b, rows, rfl, nb, n, B, r1, r2, q⟩ := h
  refine ⟨_, (pss_cons (ps_setLc (i := 2) (own := [("_law_row", 3)]) (g := gName 3) (tt := tYes) rfl sc_l_spans.nd rfl rfl (sw_true rfl rfl rfl (by decide +kernel)) (pi_range1 (by rfl) T.range (pa_cons (pv 1) pa_nil)) (blkOk_by (N := ["_law_box_here", "_law_many", "_law_values", "_law_row", "_law_found", "_law_stretches", "_law_turn", "_law_first", "_law_last", "_law_some", "_law_cut"]) (sc := defScope s_l_spans) (by decide +kernel)) (fun _ _ _ _ _ => pg_name (i := 3) sc_l_spans.nd rfl (by first | exact Or.inl rfl | exact Or.inr rfl)) (fun _ _ _ _ _ => pts_nil) (fun _ _ _ _ _ => (pe_callH G_l_pick hr (by rfl) pass0 (pa_cons (pv 0) (pa_cons (pe_lst (pa_cons pe_int (pa_cons pe_int (pa_cons pe_int (pa_cons pe_int (pa_cons (pe_op op_subU pe_int pe_int) pa_nil)))))) pa_nil))))) (pss_cons (ps_par (i := 4) (j := 5) rfl sc_l_spans.nd rfl rfl (by decide) rfl rfl (pa_cons (pe_lst pa_nil) (pa_cons (pe_lst (pa_cons (pe_tup (pa_cons pe_int (pa_cons (pv 1) pa_nil))) pa_nil)) pa_nil)) (by rfl)) (pss_cons (ps_for PassesOwn.never rfl (pi_range1 (by rfl) T.range (pa_cons pe_int pa_nil)) (pg_name (i := 6) sc_l_spans.nd rfl (by first | exact Or.inl rfl | exact Or.inr rfl)) (pss_one (ps_if (pt_cmpR (op_neD hr.units) (pv 5) (pe_lst pa_nil) (nomark _)) (pss_cons (ps_asg (pe_bm PySem.F.plainAttrs_list PySem.F.slot_list_pop PySem.F.type_list_pop mt_popAt (pv 5) (pa_cons (pe_callH G_l_take hr (by rfl) pass0 (pa_cons (pv 0) (pa_cons (pe_callB cr_len1 (by rfl) T.len (by decide +kernel) (pa_cons (pv 5) pa_nil)) pa_nil))) pa_nil)) (pg_tup rfl (pgs_cons (pg_name (i := 7) sc_l_spans.nd rfl (by first | exact Or.inl rfl | exact Or.inr rfl)) (pgs_cons (pg_name (i := 8) sc_l_spans.nd rfl (by first | exact Or.inl rfl | exact Or.inr rfl)) pgs_nil)))) (pss_cons (ps_if (PW.pt (pw_and (pt_cmpR op_gtU (pe_callH G_l_take hr (by rfl) pass0 (pa_cons (pv 0) (pa_cons pe_int pa_nil))) pe_int (nomark _)) (pw_and1 (pt_cmpR op_gtU (pv 8) (pv 7) (nomark _))))) (pss_cons (ps_set (i := 9) sc_l_spans.nd rfl (Or.inl rfl) (pe_slice sl_U (pv 2) (po_some (pv 7)) (po_some (pv 8)))) (pss_one (ps_expr (pe_bm PySem.F.plainAttrs_list PySem.F.slot_list_append PySem.F.type_list_append mt_append (pv 4) (pa_cons (pe_tup (pa_cons (pv 7) (pa_cons (pe_op op_subU (pv 8) (pv 7)) (pa_cons (pe_callB (cr_sum2 rfl) (by rfl) T.sum (by decide +kernel) (pa_cons (pv 9) pa_nil)) (pa_cons (pe_callB (cr_min2 rfl hr.units) (by rfl) T.min (by decide +kernel) (pa_cons (pv 9) pa_nil)) (pa_cons (pe_callB (cr_max2 rfl hr.units) (by rfl) T.max (by decide +kernel) (pa_cons (pv 9) pa_nil)) pa_nil)))))) pa_nil))))) pss_nil) (pss_one (ps_if (pt_cmpR op_gtU (pe_op op_subU (pv 8) (pv 7)) pe_int (nomark _)) (pss_cons (ps_set (i := 10) sc_l_spans.nd rfl (Or.inl rfl) (pe_op op_addU (pe_op op_addU (pv 7) pe_int) (pe_callH G_l_take hr (by rfl) pass0 (pa_cons (pv 0) (pa_cons (pe_op op_subU (pe_op op_subU (pv 8) (pv 7)) pe_int) pa_nil))))) (pss_one (ps_set (i := 5) sc_l_spans.nd rfl (Or.inl rfl) (pe_op op_addU (pv 5) (pe_lst (pa_cons (pe_tup (pa_cons (pv 7) (pa_cons (pv 10) pa_nil))) (pa_cons (pe_tup (pa_cons (pv 10) (pa_cons (pv 8) pa_nil))) pa_nil))))))) pss_nil)))) pss_nil))) (pss_one (ps_ret (pe_tup (pa_cons (pv 2) (pa_cons (pv 4) pa_nil)))))))), ?_⟩
  -- the values
  refine ⟨.int rows, rfl, (rows : Int), rfl, by omega, by omega, fun va hva => lc_range (fun i H' => Sb b H H' ∧ ∃ ns : List Int, H' va = some (.lst (ns.map V.int)) ∧ ns.length = i ∧ ∀ x ∈ ns, -1 ≤ x ∧ x ≤ 3) ⟨⟨fun a o na ea => by rw [upd_ne (ne_of_none ea hva)]; exact ea, box_upd B fun z => by
      obtain ⟨g, s, e, _⟩ := B
      rw [z, hva] at e; cases e⟩, [], upd_same, rfl, by simp⟩ (fun i H1 hi hP => ?_) fun H1 hP => ?_⟩
  · obtain ⟨sb, ns, ens, hlen, hns⟩ := hP
    refine ⟨rfl, ?_⟩
    refine x_pick (N := fun a => a = b) (bx := b) (ds := ([0, 1, 2, 3, -1] : List Int).map .int) rfl rfl (fun a ha => by obtain ⟨g, s, e, _⟩ := sb.box; exact ⟨_, by rw [ha]; exact e⟩) sb.box (ed_lst (ea_cons ed_int (ea_cons ed_int (ea_cons ed_int (ea_cons ed_int (ea_cons (ed_op ed_int ed_int r_sub) ea_nil))))) (by show 5 ≤ sizeLine; decide)) (by simp) (by decide) fun u d H2 hd sb2 hu => ?_
    obtain ⟨x, hx, rfl⟩ := mem_map' hd
    obtain rfl := hu.int_inv
    have vb : va ≠ b := fun z => by
      obtain ⟨g, s, e, _⟩ := B
      rw [← z, hva] at e; cases e
    have hx' : -1 ≤ x ∧ x ≤ 3 := by
      simp only [List.mem_cons, List.not_mem_nil, or_false] at hx
      omega
    refine ⟨ns.map V.int, sb2.keep _ _ vb ens, by rw [List.length_map, sizeLine_eq]; omega, ⟨fun a o na ea => ?_, box_upd (sb.trans sb2).box vb.symm⟩, ns ++ [x], by rw [List.map_append]; exact upd_same, by rw [List.length_append, hlen]; rfl, fun y hy => ?_⟩
    · rw [upd_ne (ne_of_none ea hva)]; exact (sb.trans sb2).keep a o na ea
    · rcases List.mem_append.mp hy with hy | hy
      · exact hns y hy
      · rw [List.mem_singleton.mp hy]; exact hx'
  · obtain ⟨sb, vals, ens, hlen, hns⟩ := hP
    rw [Int.toNat_natCast] at hlen
    have nva : H va = none := hva
    have vb : va ≠ b := fun z => by
      obtain ⟨g, s, e, _⟩ := B
      rw [← z, hva] at e; cases e
    have n1 := sb.nok n
    show tSeq _ _ _ [some (.ref b), some (.int rows), some (.ref va), none, none, none, none, none, none, none, none] H1
    refine s_parF n1 (ef_lst ea_nil (Nat.zero_le _)) (a := .list []) (b := .list (([(0, rows)] : List (Nat × Nat)).map fun p => tupD (pairL p))) (ef_lst (ea_cons (ed_tup (ea_cons ed_int (ea_cons (ed_var (i := 1) rfl (.int _)) ea_nil)) (by show 2 ≤ sizeLine; decide)) ea_nil) (by show 1 ≤ sizeLine; decide)) fun fo st H2 e2 nfo nst hne df ds => ?_
    obtain ⟨_, ys, ey, nfN, hf2, hys⟩ := df.lst_inv
    cases ey
    cases hys
    obtain ⟨_, xs, ex, nsN, hs2, hxs⟩ := ds.lst_inv
    cases ex
    have eb : ∀ {p : Addr}, H1 p = none → H p = none := fun {p} e => by
      cases q : H p with
      | none => rfl
      | some o =>
        by_cases z : p = b
        · obtain ⟨g, s, e2, _⟩ := sb.box
          rw [z, e2] at e; cases e
        · rw [sb.keep _ _ z q] at e; cases e
    have ok2 : NOk (S3 b fo st) H2 := by
      obtain ⟨g, s, e, _⟩ := sb.box
      rintro a (rfl | rfl | rfl)
      · exact ⟨_, e2 _ _ e⟩
      · exact ⟨_, hf2⟩
      · exact ⟨_, hs2⟩
    have start0 : SpH b va fo st vals [] [(0, rows)] H H2 := by
      refine ⟨fun a o na ea => e2 _ _ (sb.keep a o na ea), sb.box.ex e2, nva, eb nfo, eb nst, fun z => ?_, fun z => ?_, hne, fun z => ?_, e2 _ _ ens, ⟨[], hf2, .nil⟩, ⟨xs, hs2, tups_N (nss := ([(0, rows)] : List (Nat × Nat)).map pairL) ok2 hxs⟩⟩
      · rw [← z, ens] at nfo; cases nfo
      · rw [← z, ens] at nst; cases nst
      · obtain ⟨g, s, e, _⟩ := B
        rw [z] at e; cases e
    refine s_forR (N := N0) (m := 9) (fun H0 i σ1 H3 => ∃ x3 x6 x7 x8 x9 x10 st F S, σ1 = [some (.ref b), some (.int rows), some (.ref va), x3, some (.ref fo), some (.ref st), x6, x7, x8, x9, x10] ∧ SpH b va fo st vals F S H H3 ∧ SInv rows vals F S ∧ F.length ≤ i ∧ S.length ≤ i + 1)
      (ea_cons ed_int ea_nil) (by decide) nok0 (fun H3 e3 => ⟨_, _, _, _, _, _, st, [], [(0, rows)], rfl, start0.ex e3, SInv.start rows vals r1, Nat.le_refl _, Nat.le_refl _⟩) (fun H0 e0 i σ1 H3 hi hP => ?_) fun H0 e0 σ1 H3 hP => ?_
    · obtain ⟨x3, x6, x7, x8, x9, x10, st, F, S, rfl, sp, inv, fl, sl⟩ := hP
      obtain ⟨xs, es, dx⟩ := sp.hst
      have dst : DN N0 H3 (.ref st) (.list ((S.map pairL).map tupD)) := .lst (fun z => z) es (tups_N nok0 dx)
      have hi9 : i < 9 := by omega
      refine s_ifL (N := N0) (x := !(S.map pairL).isEmpty) nok0 (eb_test (ed_op (ed_var (i := 5) rfl dst) (ed_lst ea_nil (Nat.zero_le _)) r_neNilT)) (fun ex H4 e4 => ?_) fun ex H4 e4 => ?_
      · have hS : S ≠ [] := fun z => by rw [z] at ex; cases ex
        have sp4 := sp.ex e4
        obtain ⟨xs, es, dx⟩ := sp4.hst
        have lxs : xs.length = S.length := by rw [dx.length, List.length_map, List.length_map]
        have hxs : xs ≠ [] := fun z => by rw [z] at lxs; exact hS (List.eq_nil_of_length_eq_zero lxs.symm)
        refine x_pop (bx := b) (i := 5) rfl es (fun Q' k => x_takeL rfl sp4.box (i := 5) rfl es hxs (by omega) fun d H' hd sb => k d H' hd sb) sp4.bs.symm (by omega) fun d y H5 hy sb5 => ?_
        obtain ⟨dd, hdd, hdy⟩ := dx.getV hy
        obtain ⟨pl, hpl, rfl⟩ := map_get hdd
        obtain ⟨⟨a, c2⟩, hS', rfl⟩ := map_get hpl
        have sp5 := sp4.sb sb5
        have es5 : H5 st = some (.lst xs) := sb5.keep _ _ sp4.bs.symm es
        have k5 := sb5.kp (N := S3 b fo st) (.inl rfl)
        have sp6 := sp5.pop (d := d) es5 (dx.kp k5)
        obtain ⟨one, strict⟩ := inv.pop hS'
        dsimp only at one strict
        obtain ⟨py, ws, rfl, _, epy, hws⟩ := ((hdy.kp k5).kp (kp_upd (o := .lst (xs.eraseIdx d)) (.inr (.inr rfl)))).tup_inv
        have ews := hws.ints
        subst ews
        refine ⟨py, _, rfl, SqT.of epy, rfl, _, _, rfl, _, _, rfl, rfl, ?_⟩
        have hsl : (S.eraseIdx d).length ≤ i := by
          rw [List.length_eraseIdx, if_pos (List.getElem?_eq_some_iff.mp hS').1]; omega
        have lt := one.lt
        have le := one.le
        generalize upd H5 st (HO.lst (xs.eraseIdx d)) = H6 at sp6
        generalize S.eraseIdx d = S' at sp6 one hsl
        dsimp only
        refine s_join (fun σ' H' => ∃ x9 F', σ' = [some (.ref b), some (.int rows), some (.ref va), x3, some (.ref fo), some (.ref st), some (.int i), some (.int a), some (.int c2), x9, x10] ∧ SpH b va fo st vals F' S' H H' ∧ SOne rows vals F' S' a c2 ∧ F'.length ≤ i + 1) (fun σ' H7 hP => ?_) fun J => ?_
        · obtain ⟨x9, F', rfl, sp7, one7, fl7⟩ := hP
          refine s_ifL (N := N0) (x := decide ((1 : Int) < (c2 : Int) - a)) nok0 (eb_test (ed_op (ed_op (ed_var (i := 8) rfl (.int _)) (ed_var (i := 7) rfl (.int _)) r_sub) ed_int r_gt)) (fun ex H8 e8 => ?_) fun ex H8 e8 => ?_
          · have hgt : (1 : Int) < (c2 : Int) - a := of_decide_eq_true ex
            have sp8 := sp7.ex e8
            refine (ed_op (ed_var (i := 7) rfl (.int _)) ed_int r_add : EvD N0 (tOp (rAddU K) (tVar 7) (tC (.int 1))) _ H8 (.int ((a : Int) + 1))) N0 H8 Le.refl nok0 _ fun w H9 e9 hw => ?_
            obtain rfl := hw.int_inv
            have sp9 := sp8.ex e9
            refine x_take (N := S3 b fo st) (bx := b) rfl (.inl rfl) sp9.nok sp9.box (m := (c2 : Int) - a - 1) (ed_op (ed_op (ed_var (i := 8) rfl (.int _)) (ed_var (i := 7) rfl (.int _)) r_sub) ed_int r_sub) (by omega) (by omega) fun d' H10 d0 d1 sb10 => ?_
            refine r_add N0 H10 Le.refl nok0 (.int ((a : Int) + 1)) (.int d') (.int _) (.int _) _ fun u H11 e11 hu => ?_
            obtain rfl := hu.int_inv
            obtain ⟨c, ec⟩ : ∃ c : Nat, (c : Int) = a + 1 + d' := ⟨(a + 1 + d').toNat, by omega⟩
            have sp11 := (sp9.sb sb10).ex e11
            obtain ⟨xs, es, dx⟩ := sp11.hst
            have okN : NOk (fun q => q = b ∨ q = fo) H11 := fun q hq => sp11.nok q (hq.elim .inl fun z => .inr (.inl z))
            have dst : DN (fun q => q = b ∨ q = fo) H11 (.ref st) (.list ((S'.map pairL).map tupD)) := .lst (fun z => z.elim sp11.bs.symm sp11.fs.symm) es (tups_N okN dx)
            rw [← ec]
            refine (ef_addL (bs := ([(a, c), (c, c2)].map pairL).map tupD) (ed_var (i := 5) rfl dst) (ed_lst (ea_cons (ed_tup (ea_cons (ed_var (i := 7) rfl (.int _)) (ea_cons (ed_var (i := 10) rfl (.int _)) ea_nil)) (by show 2 ≤ sizeLine; decide)) (ea_cons (ed_tup (ea_cons (ed_var (i := 10) rfl (.int _)) (ea_cons (ed_var (i := 8) rfl (.int _)) ea_nil)) (by show 2 ≤ sizeLine; decide)) ea_nil)) (by show 2 ≤ sizeLine; decide)) (by rw [List.length_map, List.length_map, sizeLine_eq]; show S'.length + 2 ≤ _; omega)) _ H11 Le.refl okN _ fun p2 H12 e12 n12 dp => ?_
            obtain ⟨_, xs2, ex2, _, es2, dx2⟩ := dp.lst_inv
            cases ex2
            rw [← List.map_append, ← List.map_append] at dx2
            refine ⟨_, _, _, _, _, _, p2, F', S' ++ [(a, c), (c, c2)], rfl, sp11.turn e12 n12 es2 (tups_N nok0 dx2), one7.cut (by omega) (by omega), fl7, ?_⟩
            rw [List.length_append]
            show S'.length + 2 ≤ i + 1 + 1
            omega
          · exact ⟨_, _, _, _, _, _, st, F', S', rfl, sp7.ex e8, one7.inv, fl7, by omega⟩
        · refine x_take (N := S3 b fo st) (bx := b) rfl (.inl rfl) sp6.nok sp6.box (m := 3) ed_int (by decide) (by decide) fun d' H7 d0 d1 sb7 => c_r2 (r_gt N0 H7 Le.refl nok0 (.int d') (.int 0) (.int _) (.int _) _ fun z H8 e8 hz => ⟨_, hz.bl_inv, ?_⟩)
          have sp8 := (sp6.sb sb7).ex e8
          have hlt : ((a : Int) < c2) := by omega
          generalize decide ((0 : Int) < d') = cnd
          cases cnd with
          | false => exact iteF (iteF (J _ _ ⟨_, F, rfl, sp8, one, by omega⟩))
          | true =>
            refine iteT (((eb_test (ed_op (ed_var (i := 8) rfl (.int _)) (ed_var (i := 7) rfl (.int _)) r_gt)).is (decide_eq_true hlt)) N0 H8 Le.refl nok0 _ fun H9 e9 => iteT ?_)
            have sp9 := sp8.ex e9
            have ecut : cutD (vals.map .int) (some (a : Int)) (some (c2 : Int)) = (cutN vals a c2).map .int := by
              rw [cut_mid _ _ _ (by omega), ← List.map_drop, ← List.map_take]; rfl
            refine s_set sp9.nok ((ed_slL (ed_var (i := 2) rfl sp9.dva) (eo_some (ed_var (i := 7) rfl (.int _))) (eo_some (ed_var (i := 8) rfl (.int _)))).is (congrArg PyData.list ecut)) fun w9 H10 e10 hw9 => ?_
            have sp10 := sp9.ex e10
            obtain ⟨ys, ef, df⟩ := sp10.hfo
            have lys : ys.length = F.length := by rw [df.length, List.length_map]
            have hne : cutN vals a c2 ≠ [] := by
              intro z
              have : (cutN vals a c2).length = c2 - a := by
                unfold cutN
                rw [List.length_take, List.length_drop]
                omega
              rw [z] at this
              simp at this
              omega
            have e9v : EvD (S3 b fo st) (tVar 9) [some (.ref b), some (.int rows), some (.ref va), x3, some (.ref fo), some (.ref st), some (.int i), some (.int a), some (.int c2), some w9, x10] H10 (.list ((cutN vals a c2).map .int)) := ed_var (i := 9) rfl hw9
            refine x_append (i := 4) sp10.nok rfl ef (d := spD (statS vals a c2)) (ed_tup (ea_cons (ed_var (i := 7) rfl (.int _)) (ea_cons (ed_op (ed_var (i := 8) rfl (.int _)) (ed_var (i := 7) rfl (.int _)) r_sub) (ea_cons (ed_cb (ea_cons e9v ea_nil) rc_sumL) (ea_cons (ed_cb (ea_cons e9v ea_nil) (rc_minL hne)) (ea_cons (ed_cb (ea_cons e9v ea_nil) (rc_maxL hne)) ea_nil))))) (by show 5 ≤ sizeLine; decide)) (by rw [lys, sizeLine_eq]; omega) fun v H11 e11 hv => ?_
            refine J _ _ ⟨_, F ++ [statS vals a c2], rfl, (sp10.ex e11).found (e11 _ _ ef) (df.ex e11) hv, one.add strict, by rw [List.length_append]; show F.length + 1 ≤ _; omega⟩
      · exact ⟨_, _, _, _, _, _, st, F, S, rfl, sp.ex e4, inv, by omega, by omega⟩
    · obtain ⟨x3, x6, x7, x8, x9, x10, st, F, S, rfl, sp, inv, fl, sl⟩ := hP
      have sbE : Sb b H H3 := ⟨sp.keep, sp.box⟩
      have nE := sbE.nok n
      obtain ⟨ys, ef, dfs⟩ := sp.hfo
      dsimp only
      refine s_ret nE (ed_tup (ea_cons (ed_var (i := 2) rfl (.lst (n.fresh nva) sp.hva (DNs.of_ints vals))) (ea_cons (ed_var (i := 4) rfl (.lst (n.fresh sp.nfo) ef (spans_N nE dfs))) ea_nil)) (by show 2 ≤ sizeLine; decide)) fun u H4 e4 hu => ?_
      exact q u H4 vals F ⟨hlen, hns, by simpa using fl, S, inv⟩ (sbE.ex e4) hu
end
end K14
/-! K14Law6 -/
set_option Elab.async false
set_option linter.all false
set_option maxRecDepth 100000
set_option maxHeartbeats 4000000
/-! The law's own defs: spans bent. -/
namespace K14
open PySem PySem.Spec PyProof.Rows L2
structure Tiny (s : Span) : Prop where
  f0 : 0 ≤ s.first
  f1 : s.first ≤ 4
  m0 : 1 ≤ s.many
  m1 : s.many ≤ 5
  l0 : -1 ≤ s.low
  l1 : s.low ≤ 3
  h0 : -1 ≤ s.high
  h1 : s.high ≤ 3
  s0 : -50 ≤ s.sum
  s1 : s.sum ≤ 50
structure Mid (s : Span) : Prop where
  f0 : -1 ≤ s.first
  f1 : s.first ≤ 6
  m0 : 0 ≤ s.many
  m1 : s.many ≤ 6
  l0 : -2 ≤ s.low
  l1 : s.low ≤ 5
  h0 : -2 ≤ s.high
  h1 : s.high ≤ 5
  s0 : -100 ≤ s.sum
  s1 : s.sum ≤ 100
theorem Tiny.small {s : Span} (h : Tiny s) : Small s := by
  obtain ⟨h1, h2, h3, h4, h5, h6, h7, h8, h9, h10⟩ := h
  constructor <;> omega
abbrev spV (s : Span) : List V := (spL s).map V.int
abbrev spLD (s : Span) : PyData := .list ((spL s).map .int)
theorem bump (s : Span) (part δ : Int) (hp : part ∈ ([0, 1, 2, 2, 3, 4] : List Int)) (hδ : δ = 1 ∨ δ = -1 ∨ δ = if part = 1 then 1 else 2) (ht : Tiny s) :
    ∃ (pn : Nat) (x : Int) (s1 : Span), part = pn ∧ pn < 5 ∧ (spL s)[pn]? = some x ∧ (spV s).set pn (.int (x + δ)) = spV s1 ∧ Mid s1 := by
  obtain ⟨h1, h2, h3, h4, h5, h6, h7, h8, h9, h10⟩ := ht
  have h : part = 0 ∨ part = 1 ∨ part = 2 ∨ part = 3 ∨ part = 4 := by
    simp only [List.mem_cons, List.not_mem_nil, or_false] at hp
    omega
  rcases h with rfl | rfl | rfl | rfl | rfl
  · exact ⟨0, s.first, { s with first := s.first + δ }, rfl, by decide, rfl, rfl, by
      simp at hδ
      constructor <;> dsimp only <;> omega⟩
  · exact ⟨1, s.many, { s with many := s.many + δ }, rfl, by decide, rfl, rfl, by
      simp at hδ
      constructor <;> dsimp only <;> omega⟩
  · exact ⟨2, s.sum, { s with sum := s.sum + δ }, rfl, by decide, rfl, rfl, by
      simp at hδ
      constructor <;> dsimp only <;> omega⟩
  · exact ⟨3, s.low, { s with low := s.low + δ }, rfl, by decide, rfl, rfl, by
      simp at hδ
      constructor <;> dsimp only <;> omega⟩
  · exact ⟨4, s.high, { s with high := s.high + δ }, rfl, by decide, rfl, rfl, by
      simp at hδ
      constructor <;> dsimp only <;> omega⟩
/-- the lists at ps hold the spans -/
abbrev Holds (C : Addr → Prop) (H : Hp) (ps : List Addr) (l : List Span) : Prop := Paired (fun p s => C p ∧ H p = some (.lst (spV s))) ps l
theorem Holds.upd' {C : Addr → Prop} {H : Hp} {p0 : Addr} {s1 : Span} : ∀ {ps : List Addr} {l : List Span}, Holds C H ps l → ∃ l' : List Span, Holds C (upd H p0 (.lst (spV s1))) ps l' ∧ l'.length = l.length ∧ ∀ (i : Nat) (p : Addr), (ps : List Addr)[i]? = some p → (p = p0 → (l' : List Span)[i]? = some s1) ∧ (p ≠ p0 → (l' : List Span)[i]? = (l : List Span)[i]?)
  | _, _, .nil => ⟨[], .nil, rfl, by simp⟩
  | p :: ps, s :: l, .cons h t => by
    obtain ⟨l', h1, hl, h3⟩ := Holds.upd' (p0 := p0) (s1 := s1) t
    by_cases z : p = p0
    · refine ⟨s1 :: l', .cons ⟨h.1, by rw [z]; exact upd_same⟩ h1, by rw [List.length_cons, List.length_cons, hl], fun i q hi => ?_⟩
      cases i with
      | zero =>
        have : p = q := by simpa using hi
        exact ⟨fun _ => rfl, fun y => absurd (this ▸ z) y⟩
      | succ i => exact h3 i q (by simpa using hi)
    · refine ⟨s :: l', .cons ⟨h.1, by rw [upd_ne z]; exact h.2⟩ h1, by rw [List.length_cons, List.length_cons, hl], fun i q hi => ?_⟩
      cases i with
      | zero =>
        have : p = q := by simpa using hi
        exact ⟨fun y => absurd (this.trans y) z, fun _ => rfl⟩
      | succ i => exact h3 i q (by simpa using hi)
theorem Holds.to {C : Addr → Prop} {H H' : Hp} (k : ∀ p o, C p → H p = some o → H' p = some o) : ∀ {ps : List Addr} {l : List Span}, Holds C H ps l → Holds C H' ps l
  | _, _, .nil => .nil
  | _, _, .cons h t => .cons ⟨h.1, k _ _ h.1 h.2⟩ (Holds.to k t)
theorem Holds.dns {N C : Addr → Prop} {H : Hp} (n : ∀ a, C a → ¬ N a) : ∀ {ps : List Addr} {l : List Span}, Holds C H ps l → DNs N H (ps.map .ref) (l.map spLD)
  | _, _, .nil => .nil
  | _, _, .cons h t => .cons (.lst (n _ h.1) h.2 (DNs.of_ints _)) (Holds.dns n t)
theorem Holds.get {C : Addr → Prop} {H : Hp} : ∀ {ps : List Addr} {l : List Span} {i : Nat} {p : Addr}, Holds C H ps l → ps[i]? = some p → ∃ s, l[i]? = some s ∧ C p ∧ H p = some (.lst (spV s))
  | _, _, i, _, .nil, h => by simp at h
  | _, _, 0, p, .cons h t, e => by
    obtain rfl : _ = p := by simpa using e
    exact ⟨_, rfl, h⟩
  | _, _, i + 1, p, .cons h t, e => by
    obtain ⟨s, h1, h2⟩ := Holds.get t (i := i) (by simpa using e)
    exact ⟨s, by simpa using h1, h2⟩
theorem Holds.snoc {C : Addr → Prop} {H : Hp} {ps : List Addr} {l : List Span} {p : Addr} {s : Span} (h : Holds C H ps l) (g : C p ∧ H p = some (.lst (spV s))) : Holds C H (ps ++ [p]) (l ++ [s]) := by
  induction h with
  | nil => exact .cons g .nil
  | cons a t ih => exact .cons a ih
theorem canLay_sls : ∀ l : List Span, PyData.canLayAll0 (l.map spLD) = true
  | [] => rfl
  | s :: r => by
    rw [List.map_cons, PyData.canLayAll0, canLay_sls r, PyData.canLay0, canLay_ints]
    rfl
theorem depth_sls : ∀ l : List Span, PyData.depthAll (l.map spLD) ≤ 1
  | [] => by rw [List.map_nil, PyData.depthAll]; omega
  | s :: r => by
    have h := depth_sls r
    rw [List.map_cons, PyData.depthAll, PyData.depth, depth_intsL]
    omega
theorem r_neNilL {K : PySem.W.Frag} {N : Addr → Prop} {H : Hp} {l : List Span} : R2D N H (rNeD K) (.list (l.map spLD)) (.list []) (.bool (!l.isEmpty)) := by
  have e : PyData.eqv (.list (l.map spLD)) (.list []) = l.isEmpty := by cases l <;> simp [PyData.eqv, PyData.eqvAll]
  rw [← e]
  refine r_ne ?_ rfl
  unfold SeqAt.shaped
  have h := depth_sls l
  rw [PyData.canLay0, canLay_sls, PyData.depth]
  exact decide_eq_true (by omega)
theorem s_rawA {te : TE} {g : TG} {tz : TS} {D : Ends} {σ : L2.St} {H : Hp} (h : te σ H fun v H1 => g v σ H1 (tz D)) : tSeq (tAsg te g) tz D σ H := h
theorem x_at {K : PySem.W.Frag} {σ : L2.St} {H : Hp} {Q : VK} {fo p0 : Addr} {ps : List Addr} {n : Nat} {i j : Nat} (h2 : σ[i]? = some (some (.ref fo))) (h4 : σ[j]? = some (some (.int n))) (ef : H fo = some (.lst (ps.map .ref))) (hp : ps[n]? = some p0) (q : Q (.ref p0) H) : tOp (rIx K) (tVar i) (tVar j) σ H Q :=
  ⟨.ref fo, h2, .int n, h4, .inl ⟨fo, ps.map .ref, n, .ref p0, rfl, rfl, SqL.of ef, atI_nat (by rw [List.getElem?_map, hp]; rfl), q⟩⟩
theorem s_raw {te : TE} {tz : TS} {D : Ends} {σ : L2.St} {H : Hp} {i : Nat} (h : te σ H fun v H1 => tz D (σ.set i (some v)) H1) : tSeq (tAsg te (gName i)) tz D σ H := h
section
variable {P : Program} {w : World} {K : PySem.W.Frag} {mg : Str → Option Value} {base : Heap} {f : Addr} {fd : FuncData}
def bentSp : Sp := fun vs H Q _ => ∃ (N : Addr → Prop) (b : Addr) (v : V) (l : List Span), vs = [.ref b, v] ∧ N b ∧ NOk N H ∧ BoxAt H b ∧ DN N H v (.list (l.map spD)) ∧ (∀ s ∈ l, Tiny s) ∧ l.length ≤ 9 ∧ ∀ u H' (l' : List Span), (∀ s ∈ l', Small s) → l'.length ≤ 9 → Sb b H H' → DN N H' u (.list (l'.map spD)) → Q u H'
theorem ok_l_bent (F : Fun K "_law_bent" "_law_bent" s_l_bent f fd) (T : Gl0 mg) (G_l_take : Has P w K mg base CX0 1 "_law_take" ["_law_box_here", "_law_many"] takeSp) (G_l_pick : Has P w K mg base CX0 2 "_law_pick" ["_law_box_here", "_law_some"] pickSp) : FnOk P w K mg base CX0 3 f fd ["_law_box_here", "_law_spans_here"] bentSp := by
  refine F.ok sc_l_bent (fun vs H Q E ⟨_, _, _, _, h, _⟩ => by rw [h]; rfl) (fun cdv A outer st0 H vs Q E hr h => ?_)
  obtain ⟨N, b, v, l, rfl, nb, n, B, hv, tl, ll, q⟩ := h
  refine ⟨_, (pss_cons (ps_setLc (i := 2) (own := [("_law_span", 3)]) (g := gName 3) (tt := tYes) rfl sc_l_bent.nd rfl rfl (sw_true rfl rfl rfl (by decide +kernel)) (pi_seq (pv 1)) (blkOk_by (N := ["_law_box_here", "_law_spans_here", "_law_found", "_law_span", "_law_at", "_law_part"]) (sc := defScope s_l_bent) (by decide +kernel)) (fun _ _ _ _ _ => pg_name (i := 3) sc_l_bent.nd rfl (by first | exact Or.inl rfl | exact Or.inr rfl)) (fun _ _ _ _ _ => pts_nil) (fun _ _ _ _ _ => (pe_callTy (cr_listOfK (K := K) rfl) (by rfl) T.list (by decide +kernel) (pa_cons (pv 3) pa_nil)))) (pss_cons (ps_if (pt_cmpR (op_neD hr.units) (pv 2) (pe_lst pa_nil) (nomark _)) (pss_cons (ps_set (i := 4) sc_l_bent.nd rfl (Or.inl rfl) (pe_callH G_l_take hr (by rfl) pass0 (pa_cons (pv 0) (pa_cons (pe_callB cr_len1 (by rfl) T.len (by decide +kernel) (pa_cons (pv 2) pa_nil)) pa_nil)))) (pss_cons (ps_set (i := 5) sc_l_bent.nd rfl (Or.inl rfl) (pe_callH G_l_pick hr (by rfl) pass0 (pa_cons (pv 0) (pa_cons (pe_lst (pa_cons pe_int (pa_cons pe_int (pa_cons pe_int (pa_cons pe_int (pa_cons pe_int (pa_cons pe_int pa_nil))))))) pa_nil)))) (pss_cons (ps_asg (pe_op op_addU (pe_ix ix_seq (pe_ix ix_seq (pv 2) (pv 4) (fun _ _ => rfl)) (pv 5) (fun _ _ => rfl)) (pe_callH G_l_pick hr (by rfl) pass0 (pa_cons (pv 0) (pa_cons (pe_lst (pa_cons pe_int (pa_cons (pe_op op_subU pe_int pe_int) (pa_cons (pe_ifExp (pt_cmpR (op_eqD hr.units) (pv 5) pe_int (nomark _)) pe_int pe_int) pa_nil)))) pa_nil)))) (pg_sub (pe_ix ix_seq (pv 2) (pv 4) (fun _ _ => rfl)) (pv 5) set_list)) (pss_one (ps_asg (pe_tup (pa_cons (pe_callB (cr_maxP rfl) (by rfl) T.max (by decide +kernel) (pa_cons pe_int (pa_cons (pe_ix ix_seq (pe_ix ix_seq (pv 2) (pv 4) (fun _ _ => rfl)) pe_int (fun _ _ => rfl)) pa_nil))) (pa_cons (pe_callB (cr_maxP rfl) (by rfl) T.max (by decide +kernel) (pa_cons pe_int (pa_cons (pe_ix ix_seq (pe_ix ix_seq (pv 2) (pv 4) (fun _ _ => rfl)) pe_int (fun _ _ => rfl)) pa_nil))) pa_nil))) (pg_tup rfl (pgs_cons (pg_sub (pe_ix ix_seq (pv 2) (pv 4) (fun _ _ => rfl)) pe_int set_list) (pgs_cons (pg_sub (pe_ix ix_seq (pv 2) (pv 4) (fun _ _ => rfl)) pe_int set_list) pgs_nil)))))))) pss_nil) (pss_one (ps_ret (pe_lc (own := [("_law_span", 3)]) (g := gName 3) (tt := tYes) rfl sc_l_bent.nd (pi_seq (pv 2)) (blkOk_by (N := ["_law_box_here", "_law_spans_here", "_law_found", "_law_span", "_law_at", "_law_part"]) (sc := defScope s_l_bent) (by decide +kernel)) (fun _ _ _ _ _ => pg_name (i := 3) sc_l_bent.nd rfl (by first | exact Or.inl rfl | exact Or.inr rfl)) (fun _ _ _ _ _ => pts_nil) (fun _ _ _ _ _ => (pe_callTy (cr_tupleOfK (K := K) rfl) (by rfl) T.tuple (by decide +kernel) (pa_cons (pv 3) pa_nil)))))))), ?_⟩
  obtain ⟨va, ws, rfl, na, ea, hws⟩ := hv.lst_inv
  have lws : ws.length = l.length := by rw [hws.length, List.length_map]
  refine s_raw ?_
  refine ⟨.ref va, rfl, va, rfl, .inl ⟨⟨ws, SqL.of ea⟩, fun fo nfo => lc_list (xs := ws) (fun i H' => Ex H H' ∧ ∃ ps : List Addr, H' fo = some (.lst (ps.map .ref)) ∧ ps.length = i ∧ Holds (fun p => H p = none ∧ p ≠ fo) H' ps (l.take i)) ⟨ex_new nfo, [], upd_same, rfl, by rw [List.take_zero]; exact .nil⟩ (fun i H' hi m => SqL.of (m.1 _ _ ea)) (fun i x H1 hx hP => ?_) fun H1 hP => ?_⟩⟩
  · obtain ⟨e1, ps, eps, hlen, hh⟩ := hP
    obtain ⟨dd, hdd, hdx⟩ := hws.getV hx
    obtain ⟨s, hs, rfl⟩ := map_get hdd
    obtain ⟨p, ys, rfl, np, ep, hys⟩ := (hdx.ex e1).tup_inv
    have eys := hys.ints
    subst eys
    have hi : i < l.length := (List.getElem?_eq_some_iff.mp hs).1
    refine ⟨rfl, .ref p, rfl, p, _, rfl, .inr (SqT.of ep), fun p2 np2 => ⟨ps.map .ref, by rw [upd_ne (ne_of_none eps np2)]; exact eps, by rw [List.length_map, hlen, sizeLine_eq]; omega, fun a o ha => ?_, ps ++ [p2], by rw [List.map_append]; exact upd_same, by rw [List.length_append, hlen]; rfl, ?_⟩⟩
    · rw [upd_ne (ne_of_none ha nfo), upd_ne (ne_of_none (e1 _ _ ha) np2)]; exact e1 _ _ ha
    · have nf : p2 ≠ fo := (ne_of_none eps np2).symm
      rw [take_get hs]
      refine Holds.snoc (Holds.to (fun a o ca ha => ?_) hh) ⟨⟨ex_none e1 np2, nf⟩, ?_⟩
      · rw [upd_ne ca.2, upd_ne (ne_of_none ha np2)]; exact ha
      · rw [upd_ne nf]; exact upd_same
  · obtain ⟨e1, ps, eps, hlen, hh⟩ := hP
    rw [lws, List.take_length] at hh
    rw [lws] at hlen
    have nfb : fo ≠ b := fun z => by
      obtain ⟨g, s, e, _⟩ := B
      rw [← z, nfo] at e; cases e
    have nC : ∀ a, (H a = none ∧ a ≠ fo) → ¬ N a := fun a ca => n.fresh ca.1
    have cb : ∀ a, (H a = none ∧ a ≠ fo) → a ≠ b := fun a ca z => by
      obtain ⟨g, s, e, _⟩ := B
      rw [← z, ca.1] at e; cases e
    dsimp only
    -- what is left to be shown behind the if
    refine s_join (fun σ' H' => (∃ x4 x5, σ' = [some (.ref b), some (.ref va), some (.ref fo), none, x4, x5]) ∧ Sb b H H' ∧ ∃ l' : List Span, H' fo = some (.lst (ps.map .ref)) ∧ Holds (fun p => H p = none ∧ p ≠ fo) H' ps l' ∧ (∀ s ∈ l', Small s) ∧ l'.length = l.length) (fun σ' H2 hP => ?_) fun J => ?_
    · obtain ⟨⟨x4, x5, rfl⟩, sb, l', ef, hh', sl, ll'⟩ := hP
      have nE := sb.nok n
      have dfo : DN N H2 (.ref fo) (.list (l'.map spLD)) := .lst (n.fresh nfo) ef (hh'.dns nC)
      refine s_ret nE (d := .list (l'.map spD)) ((ed_lsL (fun _ => true) (fun d => tupD (intsOf d)) (ed_var (i := 2) rfl dfo) (by rw [List.length_map, sizeLine_eq]; omega) (fun _ => rfl) ?_).is ?_) fun u H3 e3 hu => q u H3 l' sl (by omega) (sb.ex e3) hu
      · intro x hx N5 H5 v5 l5 n5 hv5
        obtain ⟨s, hs, rfl⟩ := mem_map' hx
        exact ⟨eb_yes, fun _ => (ed_cb (ea_cons (ed_var (i := 3) rfl hv5) ea_nil) rc_tupleL).is (congrArg PyData.tuple (congrArg (List.map PyData.int) (intsOf_tupD (spL s)).symm))⟩
      · unfold keptD
        rw [List.filter_eq_self.mpr (fun _ _ => rfl), List.map_map]
        exact congrArg PyData.list (List.map_congr_left fun s _ => congrArg tupD (intsOf_tupD (spL s)))
    · have B1 := B.ex e1
      have sbE : Sb b H H1 := .of B e1
      have dfo : DN N H1 (.ref fo) (.list (l.map spLD)) := .lst (n.fresh nfo) eps (hh.dns nC)
      refine s_if (N := N) (x := !l.isEmpty) (n.ex e1) (eb_test (ed_op (ed_var (i := 2) rfl dfo) (ed_lst ea_nil (Nat.zero_le _)) r_neNilL)) (fun ex H2 e2 => ?_) fun ex H2 e2 => ?_
      · have hl0 : l ≠ [] := fun z => by rw [z] at ex; cases ex
        have hpos := List.length_pos_iff.mpr hl0
        have okb : ∀ {H' : Hp}, BoxAt H' b → NOk (fun a => a = b) H' := fun {H'} h a ha => by
          obtain ⟨g, s, e, _⟩ := h
          have ha : a = b := ha
          rw [ha]
          exact ⟨_, e⟩
        have sb2 := sbE.ex e2
        have ef2 := e2 _ _ eps
        have hh2 := hh.to (fun p o _ h => e2 p o h)
        have dfo2 : DN (fun a => a = b) H2 (.ref fo) (.list (l.map spLD)) := .lst nfb ef2 (hh2.dns cb)
        have elen : EvD (fun a => a = b) (tCB (rLen K) (tCons (tVar 2) tNil)) [some (.ref b), some (.ref va), some (.ref fo), none, none, none] H2 (.int l.length) := (ed_cb (ea_cons (ed_var (i := 2) rfl dfo2) ea_nil) rc_lenL).is (by rw [List.length_map])
        refine s_raw (x_take (N := fun a => a = b) (m := l.length) rfl rfl (okb sb2.box) sb2.box elen (by omega) (by omega) fun d H3 d0 d1 sb3 => ?_)
        obtain ⟨at_, rfl⟩ : ∃ n : Nat, d = (n : Int) := ⟨d.toNat, by omega⟩
        have ef3 := sb3.keep _ _ nfb ef2
        have hh3 := hh2.to (fun p o c h => sb3.keep p o (cb p c) h)
        obtain ⟨p0, hp0⟩ : ∃ p0, ps[at_]? = some p0 := ⟨_, List.getElem?_eq_getElem (by omega)⟩
        refine s_raw (x_pick (N := fun a => a = b) (ds := ([0, 1, 2, 2, 3, 4] : List Int).map .int) rfl rfl (okb sb3.box) sb3.box (ed_lst (ea_cons ed_int (ea_cons ed_int (ea_cons ed_int (ea_cons ed_int (ea_cons ed_int (ea_cons ed_int ea_nil)))))) (by show 6 ≤ sizeLine; decide)) (by simp) (by decide) fun u d' H4 hd' sb4 hu => ?_)
        obtain ⟨part, hpart, rfl⟩ := mem_map' hd'
        obtain rfl := hu.int_inv
        have ef4 := sb4.keep _ _ nfb ef3
        have hh4 := hh3.to (fun p o c h => sb4.keep p o (cb p c) h)
        obtain ⟨s0, hs0, cp0, ep0⟩ := hh4.get hp0
        have ts0 := tl s0 (List.mem_of_getElem? hs0)
        obtain ⟨pn, x, _, epn, hpn, hx, _, _⟩ := bump s0 part 1 hpart (.inl rfl) ts0
        refine s_rawA (x_at (i := 2) (j := 4) rfl rfl ef4 hp0 ⟨.int part, rfl, .inl ⟨p0, spV s0, part, .int x, rfl, rfl, SqL.of ep0, by rw [epn]; exact atI_nat (by rw [List.getElem?_map, hx]; rfl), ?_⟩⟩)
        refine x_pick (N := fun a => a = b) (ds := [.int 1, .int (0 - 1), .int (if part = 1 then 1 else 2)]) rfl rfl (okb sb4.box) sb4.box (ed_lst (ea_cons ed_int (ea_cons (ed_op ed_int ed_int r_sub) (ea_cons (ed_if (x := decide (part = 1)) (eb_test (ed_op (ed_var (i := 5) rfl (.int _)) ed_int r_eqI)) (fun e => ed_int.is (by rw [if_pos (of_decide_eq_true e)])) fun e => ed_int.is (by rw [if_neg (of_decide_eq_false e)])) ea_nil))) (by show 3 ≤ sizeLine; decide)) (by simp) (by show 3 ≤ 1000; decide) fun u d' H5 hd' sb5 hu => ?_
        obtain ⟨δ, rfl, hδ⟩ : ∃ δ : Int, d' = .int δ ∧ (δ = 1 ∨ δ = -1 ∨ δ = if part = 1 then 1 else 2) := by
          rcases List.mem_cons.mp hd' with rfl | hd'
          · exact ⟨_, rfl, .inl rfl⟩
          · rcases List.mem_cons.mp hd' with rfl | hd'
            · exact ⟨_, rfl, .inr (.inl rfl)⟩
            · rw [List.mem_singleton.mp hd']
              exact ⟨_, rfl, .inr (.inr rfl)⟩
        obtain rfl := hu.int_inv
        have ef5 := sb5.keep _ _ nfb ef4
        have hh5 := hh4.to (fun p o c h => sb5.keep p o (cb p c) h)
        refine r_add N0 H5 Le.refl nok0 (.int x) (.int δ) (.int _) (.int _) _ fun w H6 e6 hw => ?_
        obtain rfl := hw.int_inv
        have ef6 := e6 _ _ ef5
        have hh6 := hh5.to (fun p o _ h => e6 p o h)
        obtain ⟨_, hs0', _, ep6⟩ := hh6.get hp0
        rw [hs0] at hs0'
        cases hs0'
        obtain ⟨pn', x', s1, epn', _, hx', eset, mid⟩ := bump s0 part δ hpart hδ ts0
        have epp : pn' = pn := by omega
        subst epp
        rw [hx] at hx'
        cases hx'
        refine x_at (i := 2) (j := 4) rfl rfl ef6 hp0 ⟨.int part, rfl, p0, spV s0, part, pn', rfl, rfl, ep6, by rw [epn]; exact ixN_nat hpn, ?_⟩
        rw [eset]
        obtain ⟨l7, hh7, hl7, hi7⟩ := hh6.upd' (p0 := p0) (s1 := s1)
        have hs7 := (hi7 at_ p0 hp0).1 rfl
        have ef7 : (upd H6 p0 (.lst (spV s1))) fo = some (.lst (ps.map .ref)) := by rw [upd_ne cp0.2.symm]; exact ef6
        have sb7 : Sb b H (upd H6 p0 (.lst (spV s1))) := ⟨fun a o na ea => by
          rw [upd_ne (ne_of_none ea cp0.1)]
          exact ((((sb2.trans sb3).trans sb4).trans sb5).ex e6).keep a o na ea, box_upd ((((sb2.trans sb3).trans sb4).trans sb5).ex e6).box (cb _ cp0).symm⟩
        generalize upd H6 p0 (HO.lst (spV s1)) = H7 at hh7 ef7 sb7
        have dfo7 : DN (fun a => a = b) H7 (.ref fo) (.list (l7.map spLD)) := .lst nfb ef7 (hh7.dns cb)
        have eat : EvD (fun a => a = b) (tOp (rIx K) (tVar 2) (tVar 4)) [some (.ref b), some (.ref va), some (.ref fo), none, some (.int at_), some (.int part)] H7 (spLD s1) := ed_op (ed_var (i := 2) rfl dfo7) (ed_var (i := 4) rfl (.int _)) (r_ixL (atI_nat (by rw [List.getElem?_map, hs7]; rfl)))
        refine (ed_tup (ea_cons (ed_cb (ea_cons ed_int (ea_cons (ed_op eat ed_int (r_ixL rfl)) ea_nil)) rc_max2) (ea_cons (ed_cb (ea_cons ed_int (ea_cons (ed_op eat ed_int (r_ixL rfl)) ea_nil)) rc_max2) ea_nil)) (by show 2 ≤ sizeLine; decide) : EvD (fun a => a = b) _ _ H7 (.tuple [.int (max 0 s1.first), .int (max 1 s1.many)])) _ H7 Le.refl (okb sb7.box) _ fun v8 H8 e8 hv8 => ?_
        obtain ⟨pt, ws8, rfl, _, ept, hw8⟩ := hv8.tup_inv
        obtain ⟨u1, u2, rfl, hu1, hu2⟩ := two_args hw8
        obtain rfl := hu1.int_inv
        obtain rfl := hu2.int_inv
        have ef8 := e8 _ _ ef7
        have hh8 := hh7.to (fun p o _ h => e8 p o h)
        obtain ⟨_, hs8, _, ep8⟩ := hh8.get hp0
        rw [hs7] at hs8
        cases hs8
        refine ⟨pt, _, rfl, SqT.of ept, rfl, _, _, rfl, ?_⟩
        refine x_at (i := 2) (j := 4) rfl rfl ef8 hp0 ⟨p0, spV s1, 0, 0, rfl, rfl, ep8, rfl, _, _, rfl, ?_⟩
        have ef9 : (upd H8 p0 (.lst ((spV s1).set 0 (.int (max 0 s1.first))))) fo = some (.lst (ps.map .ref)) := by rw [upd_ne cp0.2.symm]; exact ef8
        refine x_at (i := 2) (j := 4) rfl rfl ef9 hp0 ⟨p0, (spV s1).set 0 (.int (max 0 s1.first)), 1, 1, rfl, rfl, upd_same, rfl, rfl, ?_⟩
        obtain ⟨l9, hh9, hl9, hi9⟩ := hh8.upd' (p0 := p0) (s1 := { s1 with first := max 0 s1.first })
        obtain ⟨l10, hh10, hl10, hi10⟩ := hh9.upd' (p0 := p0) (s1 := { s1 with first := max 0 s1.first, many := max 1 s1.many })
        refine J _ _ ⟨⟨_, _, rfl⟩, ⟨fun a o na ea => ?_, ?_⟩, l10, ?_, hh10, fun s hs => ?_, by omega⟩
        · rw [upd_ne (ne_of_none ea cp0.1), upd_ne (ne_of_none ea cp0.1)]
          exact (sb7.ex e8).keep a o na ea
        · exact box_upd (box_upd (sb7.ex e8).box (cb _ cp0).symm) (cb _ cp0).symm
        · rw [upd_ne cp0.2.symm]; exact ef9
        · obtain ⟨i, hi⟩ := List.getElem?_of_mem hs
          have hlt : i < ps.length := by
            have := (List.getElem?_eq_some_iff.mp hi).1
            omega
          obtain ⟨p, hp⟩ : ∃ p, ps[i]? = some p := ⟨_, List.getElem?_eq_getElem hlt⟩
          by_cases z : p = p0
          · have := (hi10 i p hp).1 z
            rw [hi] at this
            cases this
            obtain ⟨m1, m2, m3, m4, m5, m6, m7, m8, m9, m10⟩ := mid
            constructor <;> dsimp only <;> omega
          · have h10 := (hi10 i p hp).2 z
            have h9 := (hi9 i p hp).2 z
            have h7 := (hi7 i p hp).2 z
            rw [hi, h9, h7] at h10
            exact (tl s (List.mem_of_getElem? h10.symm)).small
      · have hl0 : l = [] := by
          cases l with
          | nil => rfl
          | cons a r => cases ex
        exact J _ _ ⟨⟨_, _, rfl⟩, sbE.ex e2, l, e2 _ _ eps, hh.to (fun p o _ h => e2 _ _ h), fun s hs => (tl s hs).small, rfl⟩
end
end K14
/-! K14Exc -/
set_option Elab.async false
set_option linter.all false
set_option maxRecDepth 100000
set_option maxHeartbeats 4000000
/-! The program's own error: its __init__ says super().__init__ with a text, then sets a field. -/
namespace PySem
namespace RefX
open PySem.W PySem.Calls PyProof.Rows PySem.HandSPX
def clBody : Stmt → List Stmt
  | .ClassDef (body := b) .. => b
  | _ => []
def sInit : Stmt := (clBody (K14.topS 2)).getD 0 (.Pass ⟨0, 0, 0, 0⟩)
/-- what the written part says of the class at C, its __init__ at fI, the cell of its name at cc -/
structure RefTxt (prog : Program) (K : Frag) (mg : Str → Option Value) (C fI cc : Addr) : Prop where
  gC : mg "Refused" = some (.ref C)
  cls : ∃ nm q N bs bm sn sub ab col dd k0 k1 k2 k3 k5, K.lookup C = some (excClassObj nm q C N bs bm true sn sub ab col dd k0 k1 k2 k3 k5 "ValueError.__new__") ∧ refsVE bm = true
  sa : findIn K (.ref C) "__setattr__" = some (some (.builtin "object.__setattr__"))
  ga : findIn K (.ref C) "__getattribute__" = some (some (.builtin "BaseException.__getattribute__"))
  gg : findIn K (.ref C) "__getattr__" = some none
  noN : findIn K (.ref C) "at" = some none
  iC : findIn K (.ref C) "__init__" = some (some (.ref fI))
  tC : typeIn K (.ref fI) = some (.type "function")
  kC : keepIn K (.ref C) = true
  exC : subIn K (.ref C) (.type "BaseException") = some true
  tyC : typeIn K (.ref C) = some (.type "type")
  hdC : hasDictIn K C = true
  te : exmOne K (.ref C) (.ref C) = some true
  su : ks_superIn K C C "__init__" = some (some (.builtin "ValueError.__init__"))
  sv : subIn K (.ref C) (.type "ValueError") = some true
  sc : mroIn K C (.ref C) = some true
  op : nsIn K cStatics "thirdparty.any" = some none
  gs : nsIn K mainGlobals "super" = some none
  cell : ∃ cl cld csl, K.lookup cc = some ⟨cl, cld, .cell (some (.ref C)), csl⟩
  fn : ∃ (oc : Value) (od : Option Addr) (doc pm : Value) (an : Option Addr) (cda : Addr) (ct : Value) (osl : Array (Option Value)) (ccl : Value) (cdd : Option Addr) (vs : Array Value) (ccs : Array (Option Value)) (file : Str) (tf : Tok),
    K.lookup fI = some ⟨oc, od, .func (fnX "__init__" "Refused.__init__" (L2.defArgs sInit) (L2.defBody sInit) (L2.defScope sInit) [("__class__", cc)] .none .none doc pm an (.ref cda) ct), osl⟩ ∧ codeIn K (.ref cda) "Refused.__init__" = true ∧
    K.lookup cda = some ⟨ccl, cdd, .fields vs, ccs⟩ ∧ vs[2]? = some (.str file tf) ∧ ((prog.main.file : Str) == file) = true
  top : (prog.main.scope.names.lookup ("super" : Str)).isSome = false
/-- what __init__ leaves of a fresh exception at x -/
structure InitEnd (h h' : Heap) (x C dx t1 : Addr) (v : Value) : Prop where
  keep : ∀ b o, b ≠ x → h.get? b = some o → h'.get? b = some o
  obj : h'.get? x = some { cls := .ref C, dict := some dx, data := .fields #[.ref t1, .none, .none, .none, .bool false, .none] }
  dbig : h.objs.size ≤ dx
  dne : dx ≠ x
  ns : h'.Ns1 dx (fun y => if y = "at" then some v else none)
/-- a made one -/
structure OwnMade (h h' : Heap) (e C d : Addr) (v : Value) : Prop where
  keep : ∀ b o, h.get? b = some o → h'.get? b = some o
  new : h.objs.size ≤ e
  obj : ∃ oe vs, h'.get? e = some oe ∧ oe.cls = .ref C ∧ oe.dict = some d ∧ oe.data = .fields vs ∧ vs[1]? = some .none
  dbig : h.objs.size ≤ d
  dne : d ≠ e
  ns : h'.Ns1 d (fun y => if y = "at" then some v else none)
section
variable {prog : Program} {w : World} {A : Around} {E : Value → Shared → Prop} {R : Result → Shared → Prop} {s : Shared} {K : Frag} {mg : Str → Option Value} {C fI cc : Addr}
/-- the bound ValueError.__init__ called -/
theorem call_mw {h : Heap} {g : Array GenState} {d : Drawn} {t : Nat} {os : OsState} {nm q : Str} {N : Addr} {bs bm : List Value} {hdct : Bool} {sn : List Str} {sub : List Value} {ab : Bool} {col : Option Bool} {dd : Option Addr} {k0 k1 k2 k3 k5 : Option Value}
    {u e t0 : Addr} {rest : List Value} {Q : Value → Shared → Prop}
    (hC : h.get? C = some (excClassObj nm q C N bs bm hdct sn sub ab col dd k0 k1 k2 k3 k5 "ValueError.__new__")) (he : h.get? e = some (excO C t0)) (hu : h.get? u = some (kxs_mw "ValueError.__init__" e)) (hrest : rest.length ≤ sizeLine)
    (hq : ∀ h' t1, (∀ b o, b ≠ e → h.get? b = some o → h'.get? b = some o) → h'.get? e = some (excO C t1) → Q .none ⟨h', g, d, t, os⟩) :
    wpAny (model prog w) A (call (.ref u) rest) Q E ⟨h, g, d, t, os⟩ := by
  refine wpAny_call (codeAny_of_tree ?_)
  show wpAny _ A.in1 (callAny (.ref u) ⟨rest, []⟩) _ _ _
  simp only [callAny]
  refine wpAny_bind (wpAny_load hu ?_)
  simp only [kxs_mw, show (Value.type "method-wrapper" == Value.type "method" || Value.type "method-wrapper" == Value.type "builtin_function_or_method" || Value.type "method-wrapper" == Value.type "method-wrapper") = true by decide, if_true]
  refine KFB.if_so (by decide) ?_
  refine wpAny_bind (check_bound_init F.excBase_ValueError.toExcCallFacts hC he rfl ?_)
  refine wpAny_bind (wpAny_pure (wpAny_pure ?_))
  refine ⟨plainId_quiet F.excBase_ValueError.init.plain _, codeAny_builtin F.excBase_ValueError.initEntry ?_⟩
  exact exc_init_tree (cls := .ref C) (t0 := t0) (dv := none) (c2 := .none) (c3 := .none) (b4 := .bool false) he hrest fun h' k e' _ => hq h' _ k e'
theorem ref_init (T : RefTxt prog K mg C fI cc) {x t0 : Addr} {v : Value} (X : K.In s.heap) (hG : s.heap.Ns mainGlobals mg) (hB : ∃ mb, s.heap.Ns builtinsNs mb ∧ ∀ y : Str, y ≠ "__name__" → mb y = bootBuiltins y) (hlim : s.heap.NoLimit) (hx : s.heap.get? x = some (excO C t0)) (hnx : K.lookup x = none) (hroom : A.depth < recursionLimit)
    (hq : ∀ h' tk dx t1, InitEnd s.heap h' x C dx t1 v → R (.ok (.ret .none)) { s with heap := h', toks := tk }) :
    codeAny (model prog w) A (.call (.ref fI) ⟨[.ref x, v], []⟩) R s := by
  obtain ⟨oc, od, doc, pm, an, cda, ct, osl, ccl, cdd, vs, ccs, file, tf, ho, hcd, hcda, hvs, hfile⟩ := T.fn
  obtain ⟨nm, q, N, bs, bm, sn, sub, ab, col, dd, k0, k1, k2, k3, k5, hC, hbm⟩ := T.cls
  obtain ⟨cl, cld, csl, hcell⟩ := T.cell
  have hcl : clsIn K C = some { name := nm, bases := bs, mro := .ref C :: bm, ns := N, qualname := q, hasDict := true, slotNames := sn, subclasses := sub, abstract := ab, collection := col, hasDel := false } := by unfold clsIn; rw [hC] <;> rfl
  refine ks_codeAny_call_defAt (binds := [("self", .ref x), ("at", v)]) hroom (X _ _ ho) rfl hlim (codeRec_of X hcd) rfl (BindsTo.of_eq (by first | rfl | with_unfolding_all rfl)) (by show ∀ x ∈ (L2.defScope sInit).names, x.2 ≠ .cell; decide +kernel) (fun y hy => ?_) (fun h₁ hns k => ?_)
  · rcases List.mem_cons.mp hy with rfl | hy
    · show (L2.defScope sInit).names.lookup ("self" : Str) = some .local
      decide +kernel
    · rw [List.mem_singleton.mp hy]
      show (L2.defScope sInit).names.lookup ("at" : Str) = some .local
      decide +kernel
  have hx₁ := k _ _ hx
  have X₁ : K.In h₁ := X.keeps k
  obtain ⟨mb, hmb, hbb⟩ := hB
  have hxC : x ≠ C := fun z => by
    rw [z] at hnx
    rw [hC] at hnx
    cases hnx
  have eSelf : (fun y => List.lookup y [(("self" : Str), Value.ref x), ("at", v)].reverse) ("self" : Str) = some (.ref x) := by with_unfolding_all rfl
  have eAt : (fun y => List.lookup y [(("self" : Str), Value.ref x), ("at", v)].reverse) ("at" : Str) = some v := by with_unfolding_all rfl
  show wpAt _ _ _ (execs [.Expr (.Call (.Attribute (.Call (.Name "super" _) [] [] _) "__init__" _) [.Constant (.str _) _ _] [] _) _, .Assign [.Attribute (.Name "self" _) "at" _] (.Name "at" _) _] _) _ _ _
  -- super().__init__(..)
  refine ks_wpAt_execs_cons (ks_wpAt_Expr_any (ks_wpAt_MethodCall (pl := _) ?_ (by rfl)) (by rfl) (by rfl))
  refine ks_wpAt_super_base (by show (L2.defScope sInit).names.lookup ("super" : Str) = _; decide +kernel) (by show (L2.defScope sInit).names.lookup ("__class__" : Str) = _; decide +kernel) (by decide) rfl (X₁ _ _ ho) rfl (by rfl) rfl (X₁ _ _ hcda) rfl hvs hfile T.top ?_
  refine ks_loadName_global (by rfl) (by show (L2.defScope sInit).names.lookup ("super" : Str) = _; decide +kernel) (loadGlobal_builtin (hG.keeps k) (mg_none_of X hG T.gs) (hmb.keeps k) ((hbb _ (by decide +kernel)).trans (by decide +kernel)) ⟨rfl, ?_⟩)
  refine wpAny_loadName_free (by rfl) (by show (L2.defScope sInit).names.lookup ("__class__" : Str) = _; decide +kernel) rfl ⟨_, X₁ _ _ hcell, rfl⟩ ?_
  refine wpAny_loadName_local (by rfl) (by show (L2.defScope sInit).names.lookup _ = _; decide +kernel) hns eSelf ?_
  refine ks_wpAny_isType_cls (X₁ _ _ hC) rfl ⟨rfl, ?_⟩
  refine ks_wpAny_call_super (X₁ _ _ hC) rfl hx₁ rfl (fun c z => by cases z) (looks_mroIn X₁ T.sc) (fun h₂ e₂ k₂ => ?_)
  have X₂ : K.In h₂ := X₁.keeps k₂
  have hx₂ := k₂ _ _ hx₁
  have su := T.su
  unfold ks_superIn at su
  rw [hcl] at su
  have I₂ : InstAt h₂ x (excO C t0) C none := ⟨hx₂, rfl, rfl, trivial⟩
  refine kxs_getMethod kxs_ValueError e₂ (looks_opaque X₂ T.op) (l₀ := .ref C :: bm) (fun A Q E s k q => wpAny_bind ((looks_clsIn X₂ hcl) A _ E s k (wpAny_pure q))) rfl X₂ su (I₂.type.andThen (looks_subIn X₂ T.sv)) hxC (by decide) ?_
  have k₃ : ∀ b o, h₂.get? b = some o → (h₂.push (kxs_mw "ValueError.__init__" x)).get? b = some o := fun b o e => Heap.get?_push_of_some _ e
  refine kxs_callWith (i := "ValueError.__init__") (x := x) (by rfl) (evalArgs_plain ?_)
  show wpAny _ _ (spliced [(false, eval _ _)]) _ _ _
  refine Calls.spliced_cons (Constant_str (Calls.spliced_nil ⟨Heap.get?_push_size _ rfl, ?_⟩))
  refine call_mw (k₃ _ _ (X₂ _ _ hC)) (k₃ _ _ hx₂) (Heap.get?_push_size _ rfl) (by show 1 ≤ sizeLine; rw [sizeLine_eq]; omega) (fun h₄ t1 k₄ hx₄ => ?_)
  have xL : s.heap.objs.size ≠ x := Nat.ne_of_gt (Heap.lt_size hx)
  have kk : ∀ b o, b ≠ x → h₁.get? b = some o → h₄.get? b = some o := fun b o hb e => k₄ b o hb (k₃ b o (k₂ b o e))
  have X₄ : K.In h₄ := fun b o e => kk b o (fun z => by rw [z, hnx] at e; cases e) (X₁ b o e)
  have hns₄ : h₄.Ns s.heap.objs.size (fun y => List.lookup y [(("self" : Str), Value.ref x), ("at", v)].reverse) := by
    obtain ⟨o, es, ep, e, r⟩ := hns
    exact ⟨o, es, ep, kk _ _ xL e, r⟩
  -- self.at = at
  show wpAt _ _ _ (execs [.Assign [.Attribute (.Name "self" _) "at" _] (.Name "at" _) _] _) _ _ _
  refine wpAt_of_wpAny (wpAny_execs_cons (plainObj_wpAny_Assign_Attribute ?_))
  refine wpAny_Name (wpAny_loadName_local (by rfl) (by show (L2.defScope sInit).names.lookup _ = _; decide +kernel) hns₄ eAt ?_) (by decide)
  refine wpAny_Name (wpAny_loadName_local (by rfl) (by show (L2.defScope sInit).names.lookup _ = _; decide +kernel) hns₄ eSelf ?_) (by decide)
  refine set_plain X₄ (ox := excO C t1) (od := none) ⟨hx₄, rfl, rfl, trivial⟩ T.sa ?_
  refine exc_osa X₄ hx₄ hcl (show refsVE (.ref C :: bm) = true from hbm) rfl T.noN (fun h₅ tk₅ dx k₅ dn dne hx₅ hn₅ => ?_)
  refine wpAny_execs_nil (hq h₅ tk₅ dx t1 ⟨fun b o hb e => k₅ b o hb (kk b o hb (k b o e)), hx₅, ?_, dne, hn₅⟩)
  have z1 : s.heap.objs.size < h₁.objs.size := hns.lt
  have z2 : h₁.objs.size ≤ h₄.objs.size := by
    have e4 : h₄.get? h₁.objs.size = some { cls := .type "super", dict := none, data := .fields #[.ref C, .ref x, .ref C], slots := #[] } := k₄ _ _ (Nat.ne_of_gt (Heap.lt_size hx₁)) (k₃ _ _ e₂)
    exact Nat.le_of_lt (Heap.lt_size e4)
  exact Nat.le_trans (Nat.le_of_lt z1) (Nat.le_trans z2 dn)
theorem ref_made (T : RefTxt prog K mg C fI cc) {v : Value} (X : K.In s.heap) (hG : s.heap.Ns mainGlobals mg) (hB : ∃ mb, s.heap.Ns builtinsNs mb ∧ ∀ y : Str, y ≠ "__name__" → mb y = bootBuiltins y) (hlim : s.heap.NoLimit) (hroom : A.depth + 1 < recursionLimit)
    (hq : ∀ h' tk e d, OwnMade s.heap h' e C d v → R (.ok (.ret (.ref e))) { s with heap := h', toks := tk }) :
    codeAny (model prog w) A (.call (.ref C) ⟨[v], []⟩) R s := by
  obtain ⟨nm, q, N, bs, bm, sn, sub, ab, col, dd, k0, k1, k2, k3, k5, hC, hbm⟩ := T.cls
  obtain ⟨hp, g, dr, tk, os⟩ := s
  have k : ∀ b o, hp.get? b = some o → ((hp.push (kdv_tup [v])).push (excO C hp.objs.size)).get? b = some o := fun b o e => Heap.get?_push_of_some _ (Heap.get?_push_of_some _ e)
  have hget : ((hp.push (kdv_tup [v])).push (excO C hp.objs.size)).get? (hp.objs.size + 1) = some (excO C hp.objs.size) := by heap_get
  have hnx : K.lookup (hp.objs.size + 1) = none := by
    cases e : K.lookup (hp.objs.size + 1) with
    | none => rfl
    | some o =>
      have z : hp.get? (hp.objs.size + 1) = some o := X _ _ e
      exact absurd (Nat.lt_of_succ_lt (Heap.lt_size z)) (Nat.lt_irrefl _)
  obtain ⟨mb, hmb, hbb⟩ := hB
  refine call_own F.excBase_ValueError (fun X => refsVE_contains X bm hbm) (X _ _ hC) (looks_findIn X T.iC) (fun self => bind_fn X self T.tC) (by show 1 ≤ sizeLine; rw [sizeLine_eq]; omega) ?_
  refine ref_init (s := ⟨(hp.push (kdv_tup [v])).push (excO C hp.objs.size), g, dr, tk, os⟩) T (X.keeps k) (hG.keeps k) ⟨mb, hmb.keeps k, hbb⟩ (hlim.keeps k) hget hnx ?_ fun h' tk' dx t1 ⟨k', hx, dn, dne, hns⟩ => ?_
  · show A.depth + 1 < recursionLimit
    exact hroom
  · have old : ∀ b o, hp.get? b = some o → h'.get? b = some o := fun b o e => k' b o (Nat.ne_of_lt (Nat.lt_succ_of_lt (Heap.lt_size e))) (k b o e)
    have z : hp.objs.size + 1 + 1 ≤ dx := by
      first
        | (simpa only [Heap.size_push] using dn)
        | exact dn
        | (have q := dn; rw [Heap.size_push, Heap.size_push] at q; exact q)
    exact ⟨rfl, hq h' tk' (hp.objs.size + 1) dx ⟨old, Nat.le_succ _, ⟨_, _, hx, rfl, rfl, rfl, rfl⟩, Nat.le_trans (Nat.le_trans (Nat.le_succ _) (Nat.le_succ _)) z, dne, hns⟩⟩
end
end RefX
end PySem
namespace K14
open PySem PySem.Spec PyProof.Rows L2
theorem relO_at {v : V} {v' : Value} (r : RelV v v') (f : Str) : RelO (List.lookup f [(("at" : Str), v)]) (if f = "at" then some v' else none) := by
  by_cases hw : f = "at"
  · subst hw
    rw [if_pos rfl]
    have q : List.lookup ("at" : Str) [(("at" : Str), v)] = some v := by simp [List.lookup]
    rw [q]
    exact r
  · rw [if_neg hw]
    have qw : (f == ("at" : Str)) = false := by simpa using hw
    have q2 : List.lookup f [(("at" : Str), v)] = none := by simp [List.lookup, qw]
    rw [q2]
    trivial
section
variable {X : Cx} {C fI cc : Addr}
/-- Refused(e) -/
def tMkRef (C : Addr) (ta : TA) : L2.St → Hp → XK → Prop := fun σ H Q => ta σ H fun vs H1 => ∃ v, vs = [v] ∧ ∀ d, H1 d = none → Q (.ref C) (some d) (upd H1 d (.xd [(("at" : Str), v)]))
theorem pmk_ref {a : Expr} {ta : TA} {p pos : Pos} {k : Nat} (T : PySem.RefX.RefTxt X.prog X.K X.mg C fI cc) (hr : Room k X.A) (ha : PA X [a] ta) (hg : Gl X "Refused" := by rfl)
    (he : starEach (a :: []) X.env = (false, eval a X.env) :: starEach [] X.env := by rfl) (hpl : (backTo pos (starEach [] X.env)).any (·.1) = false := by rfl) :
    PMk X (.Call (.Name "Refused" p) [a] [] pos) (tMkRef C ta) := by
  intro pins s σ H Q I h
  refine wpAny_Call_Name_kw (ld_glob I hg T.gC ?_)
  refine PySem.W.callWith_K (h₀ := X.base) I.ok.mod.kin T.kC (thn (ha.run pos pins s σ H _ I h) fun us s1 hh => ?_) he hpl
  obtain ⟨vs, H1, I1, r1, v, ev, q1⟩ := hh
  subst ev
  refine ⟨I1.kIn, ?_⟩
  cases r1 with
  | cons rv rn =>
    rename_i v' us'
    cases rn
    show wpAny _ _ (call (.ref C) [v']) _ _ _
    have hlim := I1.nolimit
    obtain ⟨mb, b1, b2⟩ := I1.mod.blt
    have hG : s1.heap.Ns mainGlobals X.mg := I1.mod.glob.keeps I1.bk
    have hB : ∃ mb, s1.heap.Ns builtinsNs mb ∧ ∀ y : Str, y ≠ "__name__" → mb y = bootBuiltins y := ⟨mb, b1.keeps I1.bk, b2⟩
    obtain ⟨hp, g, dr, tk, os⟩ := s1
    refine wpAny_call (PySem.RefX.ref_made T I1.kIn hG hB hlim (by have := hr.dp; omega) fun h' tk' e d M => ?_)
    show MkP X pins σ Q (.ref e) ⟨h', g, dr, tk', os⟩
    obtain ⟨oe, fv, hoe, hc, hd, hdat, h1⟩ := M.obj
    have hns := M.ns
    obtain ⟨G', g1, g2⟩ := restrict h' fun b => decide (b ≠ e)
    have gk : ∀ b, b ≠ e → G'.get? b = h'.get? b := fun b hb => g1 b (decide_eq_true hb)
    have ge : G'.get? e = none := g2 e (by simp)
    have old : ∀ b o, hp.get? b = some o → G'.get? b = some o := fun b o q => (gk b (Nat.ne_of_lt (Nat.lt_of_lt_of_le (Heap.lt_size q) M.new))).trans (M.keep b o q)
    have ob : ObjOk X.prog X.w (upd H1 d (.xd [(("at" : Str), v)])) G' d (.xd [(("at" : Str), v)]) :=
      ⟨_, hns.at (fun o q => (gk d M.dne).trans q), fun f => relO_at rv f⟩
    have J : Inv X pins σ (upd H1 d (.xd [(("at" : Str), v)])) ⟨G', g, dr, tk', os⟩ := I1.laid (t' := tk') old M.dbig ob
    refine ⟨e, oe, fv, ⟨G', g, dr, tk', os⟩, _, .ref C, some d, rfl, J, fun b o q => ?_, ge, hoe, ⟨hc, hd⟩, hdat, h1, ?_, rfl, I1.bare, raises_own T.exC T.tyC, q1 d (I1.hok.fresh M.dbig)⟩
    · by_cases hb : b = e
      · have q' : G'.get? b = some o := q
        rw [hb, ge] at q'; cases q'
      · exact (gk b hb).symm.trans q
    · rw [upd_ne (Ne.symm M.dne)]
      exact I1.hok.fresh M.new
/-- raise Refused(e) -/
def tRaiseRef (C : Addr) (W : WX) (ta : TA) : TS := fun _ σ H => tMkRef C ta σ H fun cls d H' => W cls d σ H'
theorem ps_raiseRef {a : Expr} {ta : TA} {W : WX} {p pos pos2 : Pos} {k : Nat} (hc : X.calm = true) (T : PySem.RefX.RefTxt X.prog X.K X.mg C fI cc) (hr : Room k X.A) (tk : Takes X W) (ha : PA X [a] ta) (hg : Gl X "Refused" := by rfl)
    (he : starEach (a :: []) X.env = (false, eval a X.env) :: starEach [] X.env := by rfl) (hpl : (backTo pos (starEach [] X.env)).any (·.1) = false := by rfl) :
    PS X (.Raise (some (.Call (.Name "Refused" p) [a] [] pos)) none pos2) (tRaiseRef C W ta) := ps_raise hc tk (pmk_ref T hr ha hg he hpl)
/-- e.at, e the exception that the suite holds (at a; its class cls, its dict d) -/
def tAtRef (C : Addr) (a : Addr) (cls : Value) (d : Option Addr) (te : TE) : TE := fun σ H Q => te σ H fun x H1 => x = .ref a ∧ cls = .ref C ∧ ∃ (dd : Addr) (v : V), d = some dd ∧ H1 dd = some (.xd [(("at" : Str), v)]) ∧ Q v H1
theorem pe_atRef {a : Addr} {oe : Obj} {cls : Value} {d : Option Addr} {pn : List (Addr × Obj)} {e : Expr} {te : TE} {pos : Pos} (T : PySem.RefX.RefTxt X.prog X.K X.mg C fI cc) (hz : Zc cls d oe) (hf : ∃ vs, oe.data = .fields vs) (he : PE (X.suite a ((a, oe) :: pn)) e te)
    (hb : attributeBase e "at" X.env (eval e X.env) = eval e X.env := by rfl) :
    PE (X.suite a ((a, oe) :: pn)) (.Attribute e "at" pos) (tAtRef C a cls d te) := by
  refine ⟨fun pins s σ H Q I h => ?_⟩
  refine attr_of hb (thn (he.run pins s σ H _ I h) fun u s1 hh => ?_)
  obtain ⟨x, H1, I1, rx, ex, ec, dd, v, ed, ea, q⟩ := hh
  subst ex
  obtain rfl : u = Value.ref a := rx
  subst ec
  subst ed
  obtain ⟨ha, _⟩ := I1.pin (a, oe) (List.mem_append_left _ List.mem_cons_self)
  obtain ⟨vs, hd⟩ := hf
  have hx : ObjOk X.prog X.w H1 s1.heap dd (.xd [(("at" : Str), v)]) := I1.hok dd _ ea
  obtain ⟨mA, hns, hr⟩ := hx
  obtain ⟨od, ho, hl⟩ := lookIn_ns hns
  have l : List.lookup ("at" : Str) [(("at" : Str), v)] = some v := by simp [List.lookup]
  obtain ⟨u, hu, ru⟩ := RelO.some_of (v := v) (o := mA "at") (by rw [← l]; exact hr "at")
  have J : PySem.W.InstAt s1.heap a oe C (some od) := ⟨ha, hz.1, by unfold PySem.W.notCls; rw [hd] <;> rfl, by rw [hz.2]; exact ho⟩
  exact HandSPX.exc_get I1.kIn J T.ga T.gg T.exC (PySem.W.findObj_own T.hdC T.noN rfl (by rw [hl, hu])) (handed_of ru) ⟨v, H1, I1.tok _, ru, q⟩
end
end K14
/-! K14Ref -/
set_option Elab.async false
set_option linter.all false
set_option maxRecDepth 100000
set_option maxHeartbeats 4000000
/-! The error caught: its field shown, its class asked. -/
namespace K14
open PySem PySem.Spec PyProof.Rows L2
section
open PySem.W PySem.Calls
theorem isi_yes {x t c : Value} {K : Frag} {H : Heap → Prop} (ty : ∀ (M : Model) (h : Heap), K.In h → H h → Looks M h (typeOf x) t) (e : kitCls K t c = some true) (ne : (t == c) = false) : Answers (fun s => K.In s.heap ∧ H s.heap) x c true := fun dep tk prog w A R s hs => by
  obtain ⟨hp, g, d, tt, os⟩ := s
  obtain ⟨⟨kin, hyp⟩, fin⟩ := hs
  have look := ty (model prog w) hp kin hyp
  obtain ⟨c1, c2, c3⟩ := kit_cls (M := model prog w) kin e
  have both : Looks (model prog w) hp (isInstance x c) true := look.andThen c3
  unfold Builtin.«isinstance.nested»
  refine wpAny_bind (look.at ?_)
  rw [if_neg (show ¬ (t == c) = true by rw [ne]; exact Bool.false_ne_true)]
  refine wpAny_bind (c1.at ?_)
  rw [if_pos (by decide)]
  k_delta "plainIsInstance"
  refine wpAny_bind (wpAny_bind (c2.at ?_))
  simp only [Bool.not_true, Bool.false_eq_true, if_false]
  refine wpAny_bind (both.at ?_)
  first
    | exact wpAny_pure (wpAny_pure (fin tt))
    | (simp only [if_true]; first | exact wpAny_pure (wpAny_pure (fin tt)) | exact wpAny_pure (fin tt) | exact wpAny_bind (wpAny_pure (wpAny_pure (fin tt))))
end
section
variable {X : Cx}
def rReprU (K : PySem.W.Frag) : List V → Hp → VK → Prop := fun vs H Q => rRepr K vs H Q ∨ rReprS vs H Q
theorem cr_reprU (hg : X.A.guards = some []) (hu : X.A.units + 64 < cLine) : CallR X (.builtin "repr") (rReprU X.K) := by
  intro pins s σ H vs us Q I r h
  rcases h with h | h
  · exact cr_repr hg hu pins s σ H vs us Q I r h
  · exact cr_reprS pins s σ H vs us Q I r h
/-- isinstance(e, F), e the caught error of the class at C (its dict d), F above it -/
def rIsR (K : PySem.W.Frag) (C : Addr) (cls : Value) (a : Addr) (d : Option Addr) : List V → Hp → VK → Prop := fun xs H Q => cls = .ref C ∧ ∃ (Fa dd : Addr) (fs : List (Str × V)), xs = [.ref a, .ref Fa] ∧ d = some dd ∧ H dd = some (.xd fs) ∧ PySem.W.kitCls K (.ref C) (.ref Fa) = some true ∧ C ≠ Fa ∧ Q (.bl true) H
theorem call_isR {a C : Addr} {cls : Value} {d : Option Addr} {oe : Obj} {pn : List (Addr × Obj)} (hz : Zc cls d oe) (hf : ∃ vs, oe.data = .fields vs) : CallR (X.suite a ((a, oe) :: pn)) (.builtin "isinstance") (rIsR X.K C cls a d) := by
  intro pins s σ H xs us Q I r h
  obtain ⟨rfl, Fa, dd, fs, rfl, ed, hd, e, ne, q⟩ := h
  obtain ⟨u1, u2, rfl, r1, r2⟩ := vals2 r
  cases (show u1 = Value.ref a from r1)
  cases (show u2 = Value.ref Fa from r2)
  obtain ⟨hget, _⟩ := I.pin (a, oe) (List.mem_append.mpr (.inl List.mem_cons_self))
  have hx : ObjOk X.prog X.w H s.heap dd (.xd fs) := I.hok dd _ hd
  obtain ⟨od, ho⟩ := objOk_get hx
  obtain ⟨vs, hv⟩ := hf
  have J : PySem.W.InstAt s.heap a oe C (some od) := ⟨hget, hz.1, by unfold PySem.W.notCls; rw [hv] <;> rfl, by rw [hz.2, ed]; exact ho⟩
  exact call_isinstance (S := fun _ R s => (X.K.In s.heap ∧ PySem.W.InstAt s.heap a oe C (some od)) ∧ ∀ tk, R (.ok (.ret (.bool true))) { s with toks := tk })
    (fun prog w A R s hs => isinstance_outer (isi_yes (H := fun h => PySem.W.InstAt h a oe C (some od)) (fun _ _ _ I => I.type) e (by simpa using ne) 0 _ prog w A R s hs) (fun z => nomatch z)) ⟨⟨I.kIn, J⟩, fun tk => ⟨.bl true, H, I.kept (t' := tk) fun _ _ z => z, rfl, q⟩⟩
end
/-! ### _law_refused -/
section
variable {K : PySem.W.Frag} {C Fa : Addr}
/-- what a value shows as -/
def Shows (K : PySem.W.Frag) (H : Hp) (v : V) (txt : Str) : Prop := ∀ Q : VK, Q (.str txt) H → rReprU K [v] H Q
/-- what _law_refused makes of the asking -/
def TRef (K : PySem.W.Frag) (C : Addr) : (XK → Hp → VK → Prop) → Hp → VK → Prop := fun tl H Q =>
  tl (fun cls d H' => cls = .ref C ∧ ∃ dd v txt, d = some dd ∧ H' dd = some (.xd [(("at" : Str), v)]) ∧ Shows K H' v txt ∧ ∀ p, H' p = none → Q (.ref p) (upd H' p (.tup [.str "refused", .str txt, .bl true]))) H (fun _ H' => Q .non H')
theorem ps_len {X : Cx} {st : Stmt} {t : TS} (h : PS X st t) : PS X st (fun D σ H => σ.length = X.N.length → t D σ H) := ⟨fun pins s σ H D I q => h.run pins s σ H D I (q I.len)⟩
def tsRef (K : PySem.W.Frag) (C Fa : Addr) : Addr → Value → Option Addr → TS := fun a cls d D σ H => σ.length = 2 →
  (tRet (tTup (tCons (tC (.str "refused")) (tCons (tCB (rReprU K) (tCons (tAtRef C a cls d (tVar 1)) tNil)) (tCons (tCB (rIsR K C cls a d) (tCons (tVar 1) (tCons (tC (.ref Fa)) tNil))) tNil))))) D σ H
theorem refused_gives {X : Cx} {g fI cc : Addr} {cdg : Value} {q : Str} (T : PySem.RefX.RefTxt X.prog X.K X.mg C fI cc) (hF : X.mg "FarError" = some (.ref Fa)) (kF : PySem.W.kitCls X.K (.ref C) (.ref Fa) = some true) (nF : C ≠ Fa) (hgu : X.A.guards = some []) (hu : X.A.units + 80 < cLine) (G : Gl0 X.mg) :
    LamX.GivesTo X ["_law_ask", "fault"] "_law_refused" (defScope s_l_refused) g cdg (defBody s_l_refused) "_law_ask" q (TRef X.K C) := by
  intro f c' s H Q tl act hc h
  refine ⟨tSeq (fun D σ H => ∃ Ech : XK, (∀ cls d σ' H', Ech cls d H' → (wAs X.K (.ref C) 1 (tsRef X.K C Fa) (fun _ _ _ _ => False) D) cls d σ' H') ∧ σ[0]? = some (some (.ref f)) ∧ H c' = some (LamX.CodeO c' q) ∧ tl Ech H (fun _ H' => D.nx σ H')) (tRet (tC .non)), ?_, ?_⟩
  · refine pss_cons (ps_try_as (X := (cxOf C8.CX0 X.prog X.w X.K X.mg X.base ["_law_ask", "fault"] "_law_refused" (defScope s_l_refused) g cdg X.A X.stack s H C8.E0).nox) (i := 1) (c := .ref C) (x := "Refused") (n := "fault")
      (tb := fun W D σ H => ∃ Ech : XK, (∀ cls d σ' H', Ech cls d H' → W cls d σ' H') ∧ σ[0]? = some (some (.ref f)) ∧ H c' = some (LamX.CodeO c' q) ∧ tl Ech H (fun _ H' => D.nx σ H')) (ts := tsRef X.K C Fa) (Wout := fun _ _ _ _ => False)
      rfl rfl sc_l_refused.nd rfl rfl ⟨rfl, by decide, .inl T.gC⟩ LamX.takes0 (fun W pn xe tk _ => ?_) (fun a oe cls d pn hz hf => ?_)) (pss_one (ps_ret pe_non))
    · refine pss_one ⟨fun pins s' σ H' D I h' => ?_⟩
      obtain ⟨Ech, hW, h1, h2, h3⟩ := h'
      exact (ps_expr (act W pn xe Ech _ _ tk hW) (by rfl)).run pins s' σ H' D I ⟨h1, h2, h3⟩
    · have hr : (cxOf C8.CX0 X.prog X.w X.K X.mg X.base ["_law_ask", "fault"] "_law_refused" (defScope s_l_refused) g cdg X.A X.stack s H C8.E0).nox.A.units + 64 < cLine := by
        show X.A.units + 3 + 64 < cLine
        omega
      have hg : (cxOf C8.CX0 X.prog X.w X.K X.mg X.base ["_law_ask", "fault"] "_law_refused" (defScope s_l_refused) g cdg X.A X.stack s H C8.E0).nox.A.guards = some [] := hgu
      exact pss_one (ps_len (ps_ret (pe_tup (pa_cons pe_str (pa_cons (pe_callB (cr_reprU hg hr) (by rfl) G.repr (by decide +kernel) (pa_cons (pe_atRef T hz hf (pv 1)) pa_nil)) (pa_cons (pe_callB (call_isR hz hf) (by rfl) G.isinstance (by decide +kernel) (pa_cons (pv 1) (pa_cons (pe_glob (by rfl) hF rfl) pa_nil))) pa_nil))))))
  · refine ⟨fun cls d H' => cls = .ref C ∧ ∃ dd v txt, d = some dd ∧ H' dd = some (.xd [(("at" : Str), v)]) ∧ Shows X.K H' v txt ∧ ∀ p, H' p = none → Q (.ref p) (upd H' p (.tup [.str "refused", .str txt, .bl true])), fun cls d σ' H' hE => ?_, rfl, hc, h⟩
    obtain ⟨rfl, dd, v, txt, rfl, hdd, sh, fin⟩ := hE
    refine ⟨true, T.te, fun _ a ha hl => ?_, fun z => nomatch z⟩
    obtain ⟨y0, y1, rfl⟩ : ∃ y0 y1, σ' = [y0, y1] := by
      rw [List.length_set] at hl
      match σ', hl with
      | [y0, y1], _ => exact ⟨y0, y1, rfl⟩
    refine ⟨.ref a, rfl, rfl, rfl, dd, v, rfl, hdd, sh _ ⟨.ref a, rfl, rfl, Fa, dd, _, rfl, rfl, hdd, kF, nF, ?_⟩⟩
    exact ⟨by show 3 ≤ sizeLine; decide, fun p hp => fin p hp⟩
end
end K14
/-! K14Raise -/
set_option Elab.async false
set_option linter.all false
set_option maxRecDepth 100000
set_option maxHeartbeats 4000000
/-! The program's defs at odd values: they refuse. -/
namespace K14
open PySem PySem.Spec PyProof.Rows L2
theorem pe_callSH {X : Cx} {CX : CXT} {k j : Nat} {x : Str} {ps : List Str} {sp : Sp} {E : L2.St → XK} {p pos : Pos} {e : Expr} {es : List Expr} {t : TA} (G : Has X.prog X.w X.K X.mg X.base CX j x ps sp) (hr : Room k X.A) (hg : Gl X x) (hx : ∀ σ, PassesAt CX X σ (E σ)) (ha : PA X (e :: es) t) (hj : j ≤ k := by decide)
    (hdb : (x == ("__debug__" : Str)) = false := by decide) (he : starEach (e :: es) X.env = (false, eval e X.env) :: starEach es X.env := by rfl) (hpl : (backTo pos (starEach es X.env)).any (·.1) = false := by rfl) :
    PE X (.Call (.Name x p) (e :: es) [] pos) (tCallS sp E t) := by
  obtain ⟨f, fd, F, hm, hk, hb⟩ := G.ex
  exact pe_callS F (hr.mono hj) hg hm hk hb hx ha hdb he hpl
section
variable {P : Program} {w : World} {K : PySem.W.Frag} {mg : Str → Option Value} {base : Heap} {f : Addr} {fd : FuncData} {C fI cc : Addr}
/-- what is asked for is no told spans -/
def Odd (d : PyData) : Prop := (isSeqB d = false ∨ (itemsD d).all toldB = false) ∧ (itemsD d).length ≤ 1000
def spRefuse (C : Addr) : Sp := fun vs H _ E => ∃ (N : Addr → Prop) (v : V) (d : PyData), vs = [v] ∧ NOk N H ∧ DN N H v d ∧ Odd d ∧ ∀ H' dd, Ex H H' → H' dd = none → E (.ref C) (some dd) (upd H' dd (.xd [(("at" : Str), v)]))
theorem ok_check_refuse (F : Fun K "check_told_spans" "check_told_spans" s_check_told_spans f fd) (T : Gl0 mg) (TR : PySem.RefX.RefTxt P K mg C fI cc) (G_is_sequence : Has P w K mg base CX0 1 "is_sequence" ["value"] (PureSp RisSeq)) (G_is_told_span : Has P w K mg base CX0 3 "is_told_span" ["value"] (PureSp Rtold)) :
    FnOk P w K mg base (L2.CX P w) 5 f fd ["value"] (spRefuse C) := by
  refine F.okX sc_check_told_spans (fun vs H Q E ⟨_, _, _, h, _⟩ => by rw [h]; rfl) (fun cdv A outer st H vs Q E hr h => ?_)
  obtain ⟨N, v, d0, rfl, n, hv, ⟨odd, hlen⟩, q⟩ := h
  refine ⟨_, pss_cons (ps_if (PW.pt (pw_or (pt_not (pt_val (pe_callH G_is_sequence hr (by rfl) pass0 (pa_cons (pv 0) pa_nil)))) (pw_or1 (pt_not (pt_val (pe_callB (cr_all rfl) (by rfl) T.all (by decide +kernel) (pa_cons (pe_lc (own := [("one", 1)]) (g := gName 1) (tt := tYes) rfl sc_check_told_spans.nd (pi_seq (pv 0)) (blkOk_by (N := ["value", "one"]) (sc := defScope s_check_told_spans) (by decide +kernel)) (fun _ _ _ _ _ => pg_name (i := 1) sc_check_told_spans.nd rfl (by first | exact Or.inl rfl | exact Or.inr rfl)) (fun _ _ _ _ _ => pts_nil) (fun _ _ _ _ _ => (pe_callH G_is_told_span hr (by rfl) pass0 (pa_cons (pv 1) pa_nil)))) pa_nil))))))) (pss_one (ps_raiseRef rfl TR hr (takes_of rfl rfl rfl rfl) (by exact (pa_cons (pv 0) pa_nil)))) pss_nil) pss_never, ?_⟩
  have ev : EvD N (tVar 0) (start ["value", "one"] [v]) H d0 := ed_var (i := 0) rfl hv
  have hz : (itemsD d0).length ≤ sizeLine := by rw [sizeLine_eq]; omega
  refine s_if (x := !isSeqB d0 || !(itemsD d0).all toldB) n ?_ (fun _ H1 e1 => ?_) (fun e => ?_)
  · refine eb_or (eb_not (eb_B (ed_call (ea_cons ev ea_nil) ⟨d0, rfl, rfl⟩))) fun es => ?_
    have hs := isSeqD_of (by simpa using es)
    refine (eb_not (eb_B (ed_cb (ea_cons ((ed_lsS (fun _ => true) (fun d => .bool (toldB d)) hs ev hz (fun _ => rfl) ?_).is (congrArg PyData.list (kept_bools toldB (itemsD d0)))) ea_nil) rc_all))).is ?_
    · intro x hx N1 H2 v1 l1 n1 hv1
      exact ⟨eb_yes, fun _ => ed_call (ea_cons (ed_var (i := 1) rfl hv1) ea_nil) ⟨x, rfl, rfl⟩⟩
    · rw [List.all_map]; rfl
  · exact ⟨v, rfl, v, rfl, fun dd hd => q H1 dd e1 hd⟩
  · exfalso
    rcases odd with z | z
    · rw [z] at e; cases e
    · rw [z] at e; simp at e
theorem ok_quarrel_refuse (F : Fun K "span_quarrel" "span_quarrel" s_span_quarrel f fd) (T : Gl0 mg) (G_check : Has P w K mg base (L2.CX P w) 5 "check_told_spans" ["value"] (spRefuse C)) :
    FnOk P w K mg base (L2.CX P w) 6 f fd ["spans"] (spRefuse C) := by
  refine F.okX sc_span_quarrel (fun vs H Q E ⟨_, _, _, h, _⟩ => by rw [h]; rfl) (fun cdv A outer st H vs Q E hr h => ?_)
  obtain ⟨N, v, d0, rfl, n, hv, odd, q⟩ := h
  refine ⟨_, pss_cons (ps_set (i := 1) sc_span_quarrel.nd rfl (Or.inr rfl) (by exact (pe_callSH G_check hr (by rfl) (fun σ => passAt (takes_of rfl rfl rfl rfl) σ) (by exact (pa_cons (pv 0) pa_nil))))) pss_never, ?_⟩
  exact ⟨v, rfl, N, v, d0, rfl, n, hv, odd, q⟩
end
end K14
/-! K14LawA -/
set_option Elab.async false
set_option linter.all false
set_option maxRecDepth 100000
set_option maxHeartbeats 4000000
/-! What is shown; calls by keywords; the line. -/
namespace K14
open PySem PySem.Spec PyProof.Rows L2
structure Nice (w k : Nat) (d : PyData) : Prop where
  lay : d.canLay0 = true
  short : d.intsShort 13 = true
  show_ : d.showable = true
  dep : d.depth ≤ k
  wt : d.weight ≤ w
theorem nice_none {w k : Nat} : Nice w k .none := ⟨rfl, rfl, rfl, Nat.zero_le _, Nat.zero_le _⟩
theorem nice_bool {w k : Nat} (b : Bool) : Nice w k (.bool b) := ⟨rfl, rfl, rfl, Nat.zero_le _, Nat.zero_le _⟩
theorem nice_int {k : Nat} {i : Int} (h : -100000000 ≤ i ∧ i ≤ 100000000) : Nice 40 k (.int i) := by
  have hn : i.natAbs < 10 ^ 10 := by omega
  have hl : i.natAbs.log2 < 39 := by
    by_cases z : i.natAbs = 0
    · rw [z]; decide
    · exact (Nat.log2_lt z).mpr (by omega)
  refine ⟨rfl, ?_, decide_eq_true (by omega), Nat.zero_le _, ?_⟩
  · rw [PyData.intsShort]
    refine decide_eq_true ?_
    have z := int_text_length_le10 (a := i) (k := 10) (by decide) hn
    show (PySem.Str.ofString (toString i)).length ≤ 13
    rw [PySem.ofString_length]
    omega
  · rw [PyData.weight]
    split <;> omega
theorem nice_crossed {w k : Nat} (h : 10 ≤ w) : Nice w k (.str "crossed") := ⟨by decide +kernel, rfl, rfl, Nat.zero_le _, Nat.le_trans (by decide +kernel) h⟩
theorem nice_unfit {w k : Nat} (h : 10 ≤ w) : Nice w k (.str "unfit") := ⟨by decide +kernel, rfl, rfl, Nat.zero_le _, Nat.le_trans (by decide +kernel) h⟩
theorem Nice.mono {w k w' k' : Nat} {d : PyData} (h : Nice w k d) (h1 : w ≤ w') (h2 : k ≤ k') : Nice w' k' d := ⟨h.lay, h.short, h.show_, Nat.le_trans h.dep h2, Nat.le_trans h.wt h1⟩
theorem nice_all {w k : Nat} : ∀ {ds : List PyData}, (∀ d ∈ ds, Nice w k d) → PyData.canLayAll0 ds = true ∧ PyData.intsShortAll 13 ds = true ∧ PyData.showableAll ds = true ∧ PyData.depthAll ds ≤ k ∧ PyData.weightAll ds ≤ ds.length * (w + 1)
  | [], _ => ⟨rfl, rfl, rfl, Nat.zero_le _, Nat.zero_le _⟩
  | d :: r, h => by
    obtain ⟨h1, h2, h3, h4, h5⟩ := nice_all (ds := r) fun x hx => h x (List.mem_cons_of_mem _ hx)
    obtain ⟨g1, g2, g3, g4, g5⟩ := h d List.mem_cons_self
    refine ⟨?_, ?_, ?_, ?_, ?_⟩
    · rw [PyData.canLayAll0, g1, h1]; rfl
    · rw [PyData.intsShortAll, g2, h2]; rfl
    · rw [PyData.showableAll, g3, h3]; rfl
    · rw [PyData.depthAll]; omega
    · rw [PyData.weightAll, List.length_cons, Nat.succ_mul]; omega
theorem nice_list {w k n : Nat} {ds : List PyData} (h : ∀ d ∈ ds, Nice w k d) (hn : ds.length ≤ n) : Nice (n * (w + 1)) (k + 1) (.list ds) := by
  obtain ⟨h1, h2, h3, h4, h5⟩ := nice_all h
  refine ⟨by rw [PyData.canLay0]; exact h1, by rw [PyData.intsShort]; exact h2, by rw [PyData.showable]; exact h3, by rw [PyData.depth]; omega, ?_⟩
  rw [PyData.weight]
  exact Nat.le_trans h5 (Nat.mul_le_mul_right _ hn)
theorem nice_tuple {w k n : Nat} {ds : List PyData} (h : ∀ d ∈ ds, Nice w k d) (hn : ds.length ≤ n) : Nice (n * (w + 1)) (k + 1) (.tuple ds) := by
  obtain ⟨h1, h2, h3, h4, h5⟩ := nice_all h
  refine ⟨by rw [PyData.canLay0]; exact h1, by rw [PyData.intsShort]; exact h2, by rw [PyData.showable]; exact h3, by rw [PyData.depth]; omega, ?_⟩
  rw [PyData.weight]
  exact Nat.le_trans h5 (Nat.mul_le_mul_right _ hn)
theorem nice_ints {ns : List Int} (h : ∀ i ∈ ns, -100000000 ≤ i ∧ i ≤ 100000000) : ∀ d ∈ ns.map PyData.int, Nice 40 0 d := fun d hd => by
  obtain ⟨i, hi, rfl⟩ := List.mem_map.mp hd
  exact nice_int (h i hi)
theorem nice_span {s : Span} (h : Small s) : Nice 205 1 (spD s) := by
  refine nice_tuple (n := 5) (nice_ints fun i hi => ?_) (Nat.le_refl _)
  obtain ⟨h1, h2, h3, h4, h5, h6, h7, h8, h9, h10⟩ := h
  simp only [spL, List.mem_cons, List.not_mem_nil, or_false] at hi
  omega
theorem nice_spans {l : List Span} (h : ∀ s ∈ l, Small s) : ∀ d ∈ l.map spD, Nice 205 1 d := fun d hd => by
  obtain ⟨s, hs, rfl⟩ := List.mem_map.mp hd
  exact nice_span (h s hs)
section
variable {K : PySem.W.Frag} {N : Addr → Prop} {σ : L2.St} {H : Hp} {te ta tb : TE} {d : PyData} {as as' : List PyData} {tk : TA}
theorem e_repr {w k : Nat} (hd : Nice w k d) (hw : w ≤ 1048576) (hk : k ≤ 16) (h : EvD N te σ H d) (h5 : (∃ ds, d = .list ds) ∨ ∃ ds, d = .tuple ds) : EvD N (tCB (rReprU K) (tCons te tNil)) σ H (.str d.shown) := fun N1 H1 l n Q q => by
  have ls : d.layable0 = true := by
    unfold PyData.layable0
    rw [hd.lay, decide_eq_true (show d.depth ≤ 64 by have := hd.dep; omega), decide_eq_true (show d.weight ≤ 2 ^ 20 by have := hd.wt; omega)]
    rfl
  have hs := shown_le13 ls hd.short
  refine h N1 H1 l n _ fun v H2 e2 hv => .inl ?_
  have hr : ∃ p, v = .ref p := by
    rcases h5 with ⟨ds, rfl⟩ | ⟨ds, rfl⟩
    · obtain ⟨p, xs, e, _⟩ := hv.lst_inv; exact ⟨p, e⟩
    · obtain ⟨p, xs, e, _⟩ := hv.tup_inv; exact ⟨p, e⟩
  obtain ⟨p, rfl⟩ := hr
  exact ⟨p, d, rfl, DN.dp d _ hv, hd.show_, PyData.hasDict_of_canLay d hd.lay, by have := hd.dep; omega, by rw [sizeLine_eq]; omega, q _ H2 e2 (.str _)⟩
theorem r_neStr {x y : Str} : R2D N H rNe (.str x) (.str y) (.bool (!decide (x = y))) := fun N1 H1 l n a b ha hb Q q => by
  obtain rfl := ha.str_inv
  obtain rfl := hb.str_inv
  refine ⟨rfl, ?_⟩
  have e : decide (V.str x = V.str y) = decide (x = y) := by
    rw [decide_eq_decide]
    exact ⟨fun z => V.str.inj z, fun z => by rw [z]⟩
  rw [e]
  exact q _ H1 Ex.rfl' (.bl _)
/-- two texts that are alike: != is False -/
theorem eb_sameText {x : Str} (ha : EvD N ta σ H (.str x)) (hb : EvD N tb σ H (.str x)) : EvB N (tTest (tOp rNe ta tb)) σ H false := (eb_test (ed_op ha hb r_neStr)).is (by rw [decide_eq_true rfl]; rfl)
theorem ed_callK {R : List PyData → PyData → Prop} {E : XK} {gV : List V → List V → List V} (h : EvA N tk σ H as) (hg : ∀ (N1 : Addr → Prop) (H1 : Hp) vs, DNs N1 H1 vs as → DNs N1 H1 (gV [] vs) as') (hR : R as' d) : EvD N (tCallK (PureSp R) gV E tNil tk) σ H d := fun N1 H1 l n Q q =>
  h N1 H1 l n _ fun xs H2 e2 hxs => ⟨N1, as', d, n.ex e2, hg _ _ _ hxs, hR, fun v H' e hv => q v H' (e2.trans e) hv⟩
/-- the told spans in order, by dict and sorted -/
theorem e_line {l : List Span} {j : Nat} (h : EvD N te σ H (.list (l.map spD))) (hl : l.length ≤ 1000) (hj : j < σ.length) (hw : ∀ v, wipe (blkSt σ [j] j v) [j] = wipe σ [j]) :
    EvD N (tCB (rSortD K) (tCons (tCB rListDT (tCons (tCB (rDictT K) (tCons (tLc (iSeq K te) (gName j) tYes (tTup (tCons (tVar j) (tCons (tC (.bl true)) tNil))) [j]) tNil)) tNil)) tNil)) σ H (.list ((lineOf l).map spD)) := by
  have lz : (l.map spD).length ≤ sizeLine := by rw [List.length_map, sizeLine_eq]; omega
  have h1 : EvD N (tLc (iSeq K te) (gName j) tYes (tTup (tCons (tVar j) (tCons (tC (.bl true)) tNil))) [j]) σ H (.list ((l.map spL).map fun ns => .tuple [tupD ns, .bool true])) := by
    refine (ed_lsL (fun _ => true) (fun d => .tuple [d, .bool true]) h lz hw ?_).is ?_
    · intro x hx N1 H1 v1 l1 n1 hv1
      exact ⟨eb_yes, fun _ => ed_tup (ea_cons (ed_var (i := j) (blk_get hj) hv1) (ea_cons ed_bl ea_nil)) (by show 2 ≤ sizeLine; decide)⟩
    · unfold keptD
      rw [List.filter_eq_self.mpr (fun _ _ => rfl), List.map_map, List.map_map]
      rfl
  refine (ed_cb (ea_cons (list_of_dT (kss := dedupK (l.map spL)) (dictT_gives h1)) ea_nil) (rc_sort (spans_alike _ (dedup_spL l)) (spans_sortable _ (dedup_spL l)) (tup_depth _))).is ?_
  rw [sorted_data]
end
structure HasK (P : Program) (w : World) (K : PySem.W.Frag) (mg : Str → Option Value) (base : Heap) (CX : CXT) (k : Nat) (x : Str) (ps : List Str) (sp : Sp) (ks : List Str) (gV : List V → List V → List V) : Prop where
  ex : ∃ (f : Addr) (fd : FuncData) (g : List Value → List Value → List Value), FnOk P w K mg base CX k f fd ps sp ∧ mg x = some (.ref f) ∧ PySem.W.keepIn K (.ref f) = true ∧ KBinds K fd ps ks g gV
theorem pe_callHK {X : Cx} {CX : CXT} {k j : Nat} {x : Str} {ps ks : List Str} {sp : Sp} {gV : List V → List V → List V} {E : XK} {p pos : Pos} {kws : List Keyword} {tk : TA} (G : HasK X.prog X.w X.K X.mg X.base CX j x ps sp ks gV) (hr : Room k X.A) (hg : Gl X x) (hx : Passes CX X E)
    (hkw : PK X kws tk) (hj : j ≤ k := by decide) (hall : (backToKw pos (keywordEach kws X.env)).all (·.1.isSome) = true := by rfl) (hks : (backToKw pos (keywordEach kws X.env)).filterMap (·.1) = ks := by rfl)
    (hdb : (x == ("__debug__" : Str)) = false := by decide)
    (hpl : ((backTo pos (starEach [] X.env)).any (·.1) || (backToKw pos (keywordEach kws X.env)).any (·.1.isNone)) = false := by rfl) :
    PE X (.Call (.Name x p) [] kws pos) (tCallK sp gV E tNil tk) := by
  obtain ⟨f, fd, g, F, hm, hk, hb⟩ := G.ex
  exact pe_callK0 F (hr.mono hj) hg hm hk hb hx hkw hall hks hdb hpl
def gV1 : List V → List V → List V := fun vs zs => match vs with
  | [] => zs
  | _ :: _ => []
def gV2 : List V → List V → List V := fun vs zs => match vs, zs with
  | [], [a, b] => [b, a]
  | _, _ => []
end K14
/-! K14LawB -/
set_option Elab.async false
set_option linter.all false
set_option maxRecDepth 100000
set_option maxHeartbeats 8000000
/-! The law's world; what the law's def is given. -/
namespace K14
open PySem PySem.Spec PyProof.Rows L2
/-- what plain thought says of it -/
structure LawMath : Prop where
  unfit : ∀ (l : List Span) (s : Span), (∀ t ∈ l, Small t) → Small s → unfitL l s = !isFit l s
  start : ∀ (rows : Nat) (vals : List Int) (F : List Span), 1 ≤ rows → rows ≤ 5 → SpansOf rows vals F → quarrelD (lineOf F) = .none ∧ F.all (fitsB vals) = true ∧ ∀ s ∈ F, Tiny s
  choice : ∀ (l : List Span) (wide : Nat), (∀ s ∈ l, Small s) → l.Nodup → firstX l = none → (∀ s ∈ l, endO s ≤ wide) → 1 ≤ wide → wide ≤ 5 → isNone (quarrelD l) = !(choices l wide).isEmpty
section
variable {T : List (Addr × Str)} {b : Addr} {Hs H H2 : Hp}
structure LW (T : List (Addr × Str)) (b : Addr) (Hs H : Hp) : Prop where
  kt : ∀ p o, p ≠ b → (∀ ps, o ≠ .tbl ps) → Hs p = some o → H p = some o
  box : BoxAt H b
  tabs : LamX.Tabs T H
theorem LW.ex (h : LW T b Hs H) (e : Ex H H2) : LW T b Hs H2 := ⟨fun p o n t x => e _ _ (h.kt p o n t x), h.box.ex e, h.tabs.ext e⟩
theorem tabs_sb (h : LamX.Tabs T H) (B : BoxAt H b) (s : Sb b H H2) : LamX.Tabs T H2 := fun p hp => by
  obtain ⟨ps, h1, h2, h3⟩ := h p hp
  obtain ⟨g, s0, eb, _⟩ := B
  have n1 : p.1 ≠ b := fun z => by rw [z, eb] at h1; cases h1
  refine ⟨ps, s.keep _ _ n1 h1, h2, fun pos cv hc => ?_⟩
  obtain ⟨c, e1, e2⟩ := h3 pos cv hc
  exact ⟨c, e1, s.keep _ _ (fun z => by rw [z, eb] at e2; unfold LamX.CodeO at e2; cases e2) e2⟩
theorem LW.sb (h : LW T b Hs H) (s : Sb b H H2) : LW T b Hs H2 := ⟨fun p o n t x => s.keep _ _ n (h.kt p o n t x), s.box, tabs_sb h.tabs h.box s⟩
theorem LW.ext (h : LW T b Hs H) (e : LamX.ExtN H H2) (t : LamX.Tabs T H2) : LW T b Hs H2 := ⟨fun p o n tt x => e _ _ (h.kt p o n tt x) tt, by
  obtain ⟨g, s, eb, hb⟩ := h.box
  exact ⟨g, s, e _ _ eb (fun ps z => nomatch z), hb⟩, t⟩
theorem LW.nok (h : LW T b Hs H) : NOk (fun a => a = b) H := fun a ha => by
  obtain ⟨g, s, eb, hb⟩ := h.box
  have ha : a = b := ha
  rw [ha]
  exact ⟨_, eb⟩
mutual
theorem DN.extN {N : Addr → Prop} {H H' : Hp} (k : LamX.ExtN H H') : ∀ (d : PyData) (v : V), DN N H v d → DN N H' v d
  | .none, _, h => by cases h; exact .non
  | .bool _, _, h => by cases h; exact .bl _
  | .int _, _, h => by cases h; exact .int _
  | .str _, _, h => by cases h; exact .str _
  | .list ds, _, h => by
    cases h with
    | lst n e r => exact .lst n (k _ _ e fun ps z => nomatch z) (DNs.extN k ds _ r)
  | .tuple ds, _, h => by
    cases h with
    | tup n e r => exact .tup n (k _ _ e fun ps z => nomatch z) (DNs.extN k ds _ r)
  | .dict _, _, h => by cases h
theorem DNs.extN {N : Addr → Prop} {H H' : Hp} (k : LamX.ExtN H H') : ∀ (ds : List PyData) (vs : List V), DNs N H vs ds → DNs N H' vs ds
  | [], _, h => by cases h; exact .nil
  | d :: ds, _, h => by
    cases h with
    | cons h1 h2 => exact .cons (DN.extN k d _ h1) (DNs.extN k ds _ h2)
end
end
theorem sqL_to {K : PySem.W.Frag} {H H' : Hp} {a b : Addr} {xs : List V} (h : SqL K H a xs) (hb : H b = none) (k : ∀ p o, p ≠ b → (∀ ps, o ≠ .tbl ps) → H p = some o → H' p = some o) : SqL K H' a xs := by
  rcases h with (h | ⟨o, h⟩) | h
  · exact .inl (.inl (k _ _ (ne_of_none h hb) (fun ps z => nomatch z) h))
  · exact .inl (.inr ⟨o, k _ _ (ne_of_none h hb) (fun ps z => nomatch z) h⟩)
  · exact .inr h
/-- all that the law's def calls -/
structure LawCtx (P : Program) (w : World) (K : PySem.W.Frag) (mg : Str → Option Value) (base : Heap) (C fI cc Fa gR : Addr) : Prop where
  T : Gl0 mg
  box : Has P w K mg base CX0 1 "_law_box" ["_law_script", "_law_k"] (boxSp K)
  take : Has P w K mg base CX0 1 "_law_take" ["_law_box_here", "_law_many"] takeSp
  pick : Has P w K mg base CX0 2 "_law_pick" ["_law_box_here", "_law_some"] pickSp
  spans : Has P w K mg base CX0 3 "_law_spans" ["_law_box_here", "_law_many"] spansSp
  mixed : Has P w K mg base CX0 2 "_law_mixed" ["_law_box_here", "_law_spans_here"] mixedSp
  bent : Has P w K mg base CX0 3 "_law_bent" ["_law_box_here", "_law_spans_here"] bentSp
  fits : Has P w K mg base CX0 1 "_law_fits" ["_law_spans_here", "_law_values"] (PureSp RfitsL)
  choices : Has P w K mg base CX0 2 "_law_choices" ["_law_spans_here", "_law_rows"] (PureSp RchoicesL)
  crossed : Has P w K mg base CX0 2 "_law_crossed" ["_law_spans_here"] (PureSp RfirstL)
  parts : Has P w K mg base CX0 2 "_law_parts" ["_law_spans_here", "_law_span"] (PureSp Rparts)
  rest : Has P w K mg base CX0 3 "_law_rest" ["_law_spans_here", "_law_span"] (PureSp RrestL)
  unfit : Has P w K mg base CX0 4 "_law_unfit" ["_law_spans_here", "_law_span"] (PureSp RunfitL)
  quarrel : Has P w K mg base CX0 7 "span_quarrel" ["spans"] (PureSp Rquarrel)
  check : Has P w K mg base CX0 4 "check_told_spans" ["value"] (PureSp Rcheck)
  restOf : Has P w K mg base CX0 5 "rest_of" ["spans", "span"] (PureSp Rrest)
  quarrelK : HasK P w K mg base CX0 7 "span_quarrel" ["spans"] (PureSp Rquarrel) ["spans"] gV1
  checkK : HasK P w K mg base CX0 4 "check_told_spans" ["value"] (PureSp Rcheck) ["value"] gV1
  restK : HasK P w K mg base CX0 5 "rest_of" ["spans", "span"] (PureSp Rrest) ["span", "spans"] gV2
  checkX : Has P w K mg base (L2.CX P w) 5 "check_told_spans" ["value"] (spRefuse C)
  quarrelX : Has P w K mg base (L2.CX P w) 6 "span_quarrel" ["spans"] (spRefuse C)
  ref : PySem.RefX.RefTxt P K mg C fI cc
  far : mg "FarError" = some (.ref Fa)
  farK : PySem.W.kitCls K (.ref C) (.ref Fa) = some true
  farN : C ≠ Fa
  refM : mg "_law_refused" = some (.ref gR)
  refF : ∃ fd, Fun K "_law_refused" "_law_refused" s_l_refused gR fd ∧ Binds K fd ["_law_ask"] []
section
variable {K : PySem.W.Frag} {N : Addr → Prop} {σ : L2.St} {H : Hp} {te tf : TE} {Q : VK} {E : XK} {bx : Addr} {i : Nat}
theorem x_spans {rows : Nat} (hσ : σ[i]? = some (some (.ref bx))) (nb : N bx) (n : NOk N H) (B : BoxAt H bx) (em : EvD N te σ H (.int rows)) (m1 : 1 ≤ rows) (m2 : rows ≤ 5) (k : ∀ u (vals : List Int) (F : List Span) H', SpansOf rows vals F → Sb bx H H' → DN N H' u (.tuple [.list (vals.map .int), .list (F.map spD)]) → Q u H') :
    tCall spansSp [] E (tCons (tVar i) (tCons te tNil)) σ H Q := ⟨.ref bx, hσ, em N H Le.refl n _ fun v H1 e1 hv => ⟨N, bx, rows, by rw [hv.int_inv]; rfl, nb, n.ex e1, B.ex e1, m1, m2, fun u H' vals F h sb hu => k u vals F H' h (e1.sb sb) hu⟩⟩
theorem x_mixed {l : List Span} (hσ : σ[i]? = some (some (.ref bx))) (nb : N bx) (n : NOk N H) (B : BoxAt H bx) (em : EvD N te σ H (.list (l.map spD))) (m2 : l.length ≤ 400) (k : ∀ u (m : List Span) H', (∀ x, x ∈ m ↔ x ∈ l) → m.length ≤ 2 * l.length → Sb bx H H' → DN N H' u (.list (m.map spD)) → Q u H') :
    tCall mixedSp [] E (tCons (tVar i) (tCons te tNil)) σ H Q := ⟨.ref bx, hσ, em N H Le.refl n _ fun v H1 e1 hv => ⟨N, bx, v, l, rfl, nb, n.ex e1, B.ex e1, hv, m2, fun u H' m h1 h2 sb hu => k u m H' h1 h2 (e1.sb sb) hu⟩⟩
theorem x_bent {l : List Span} (hσ : σ[i]? = some (some (.ref bx))) (nb : N bx) (n : NOk N H) (B : BoxAt H bx) (em : EvD N te σ H (.list (l.map spD))) (ht : ∀ s ∈ l, Tiny s) (m2 : l.length ≤ 9) (k : ∀ u (m : List Span) H', (∀ s ∈ m, Small s) → m.length ≤ 9 → Sb bx H H' → DN N H' u (.list (m.map spD)) → Q u H') :
    tCall bentSp [] E (tCons (tVar i) (tCons te tNil)) σ H Q := ⟨.ref bx, hσ, em N H Le.refl n _ fun v H1 e1 hv => ⟨N, bx, v, l, rfl, nb, n.ex e1, B.ex e1, hv, ht, m2, fun u H' m h1 h2 sb hu => k u m H' h1 h2 (e1.sb sb) hu⟩⟩
theorem x_take2 {m : Int} (hσ : σ[i]? = some (some (.ref bx))) (nb : N bx) (n : NOk N H) (B : BoxAt H bx) (em : EvD N te σ H (.int m)) (m1 : 1 ≤ m) (m2 : m ≤ 1000000) (k : ∀ d H', 0 ≤ d → d < m → Sb bx H H' → Q (.int d) H') :
    tCall takeSp [] E (tCons (tVar i) (tCons te tNil)) σ H Q := ⟨.ref bx, hσ, em N H Le.refl n _ fun v H1 e1 hv => ⟨bx, m, by rw [hv.int_inv]; rfl, B.ex e1, m1, m2, fun d H' d0 d1 sb => k d H' d0 d1 (e1.sb sb)⟩⟩
theorem x_pick2 {ds : List PyData} (hσ : σ[i]? = some (some (.ref bx))) (nb : N bx) (n : NOk N H) (B : BoxAt H bx) (em : EvD N te σ H (.list ds)) (m1 : ds ≠ []) (m2 : ds.length ≤ 1000) (k : ∀ u d H', d ∈ ds → Sb bx H H' → DN N H' u d → Q u H') :
    tCall pickSp [] E (tCons (tVar i) (tCons te tNil)) σ H Q := ⟨.ref bx, hσ, em N H Le.refl n _ fun v H1 e1 hv => ⟨N, bx, v, ds, rfl, nb, n.ex e1, B.ex e1, hv, m1, m2, fun u H' d hd sb hu => k u d H' hd (e1.sb sb) hu⟩⟩
/-- two names from a tuple -/
theorem g_unp2 {i1 i2 : Nat} {a b : PyData} {v : V} {Q : L2.St → Hp → Prop} (h : DN N H v (.tuple [a, b])) (q : ∀ u1 u2, DN N H u1 a → DN N H u2 b → Q ((σ.set i1 (some u1)).set i2 (some u2)) H) : gTup K 2 (gCons (gName i1) (gCons (gName i2) gNil)) v σ H Q := by
  obtain ⟨p, xs, rfl, na, ea, hx⟩ := h.tup_inv
  obtain ⟨u1, u2, rfl, h1, h2⟩ := two_args hx
  exact ⟨p, _, rfl, SqT.of ea, rfl, _, _, rfl, _, _, rfl, rfl, q u1 u2 h1 h2⟩
/-- [list(span) for span in u] -/
theorem x_lists {l : List Span} {j : Nat} {u : V} (n : NOk N H) (hu : DN N H u (.list (l.map spD))) (hl : l.length ≤ 1000) (hj : j < σ.length) (hw : ∀ v, wipe (blkSt σ [j] j v) [j] = wipe σ [j]) (k : ∀ v H', Ex H H' → DN N H' v (.list (l.map spLD)) → Q v H') :
    tLc (iSeq K (tC u)) (gName j) tYes (tCB (rListOf K) (tCons (tVar j) tNil)) [j] σ H Q := by
  have h1 : EvD N (tLc (iSeq K (tC u)) (gName j) tYes (tCB (rListOf K) (tCons (tVar j) tNil)) [j]) σ H (.list (l.map spLD)) := by
    refine (ed_lsL (fun _ => true) (fun d => .list ((spL (ofD d)).map .int)) (xs := l.map spD) (fun N1 H1 l1 n1 Q q => q u H1 Ex.rfl' (hu.le l1)) (by rw [List.length_map, sizeLine_eq]; omega) hw ?_).is ?_
    · intro x hx N1 H1 v1 l1 n1 hv1
      obtain ⟨s, hs, rfl⟩ := mem_map' hx
      exact ⟨eb_yes, fun _ => ed_cb (ea_cons (ed_var (i := j) (blk_get hj) hv1) ea_nil) rc_listT⟩
    · unfold keptD
      rw [List.filter_eq_self.mpr (fun _ _ => rfl), List.map_map]
      rfl
  exact h1 N H Le.refl n Q k
end
theorem x_handed {K : PySem.W.Frag} {N : Addr → Prop} {σ : L2.St} {H : Hp} {te : TE} {Q : VK} {E : XK} {bx : Addr} {i j : Nat} {l : List Span} (hσ : σ[i]? = some (some (.ref bx))) (nb : N bx) (n : NOk N H) (B : BoxAt H bx) (em : EvD N te σ H (.list (l.map spD))) (m2 : l.length ≤ 400) (hj : j < σ.length) (hw : ∀ v, wipe (blkSt σ [j] j v) [j] = wipe σ [j])
    (k : ∀ v (m : List Span) H9 H10, (∀ x, x ∈ m ↔ x ∈ l) → m.length ≤ 2 * l.length → Sb bx H H9 → Ex H9 H10 → DN N H10 v (.list (m.map spLD)) → Q v H10) :
    tLc (iSeq K (tCall mixedSp [] E (tCons (tVar i) (tCons te tNil)))) (gName j) tYes (tCB (rListOf K) (tCons (tVar j) tNil)) [j] σ H Q := by
  have h := x_mixed (E := E) (Q := fun u H9 => tLc (iSeq K (tC u)) (gName j) tYes (tCB (rListOf K) (tCons (tVar j) tNil)) [j] σ H9 Q) hσ nb n B em m2 fun u m H9 hm hml sb hu => x_lists (K := K) (σ := σ) (Q := Q) (j := j) (sb.nok n) hu (by omega) hj hw fun v H10 e10 hv => k v m H9 H10 hm hml sb e10 hv
  exact h
theorem needs_low (l : List Span) (s : Span) : (!decide (s.low ∈ (parts l s).map (·.low))) = needsLow l s := by
  unfold needsLow
  generalize parts l s = m
  rw [Bool.eq_iff_iff, Bool.not_eq_true', decide_eq_false_iff_not, List.all_eq_true]
  constructor
  · intro h p hp
    exact decide_eq_true fun z => h (List.mem_map.mpr ⟨p, hp, z⟩)
  · intro h z
    obtain ⟨p, hp, e⟩ := List.mem_map.mp z
    exact of_decide_eq_true (h p hp) e
theorem needs_high (l : List Span) (s : Span) : (!decide (s.high ∈ (parts l s).map (·.high))) = needsHigh l s := by
  unfold needsHigh
  generalize parts l s = m
  rw [Bool.eq_iff_iff, Bool.not_eq_true', decide_eq_false_iff_not, List.all_eq_true]
  constructor
  · intro h p hp
    exact decide_eq_true fun z => h (List.mem_map.mpr ⟨p, hp, z⟩)
  · intro h z
    obtain ⟨p, hp, e⟩ := List.mem_map.mp z
    exact of_decide_eq_true (h p hp) e
theorem x_join {tt : TT} {ta tb : TE} {σ : L2.St} {H : Hp} {Q : VK} (R : V → Hp → Prop) (key : ∀ u H', R u H' → Q u H') (h : (∀ u H', R u H' → Q u H') → tIf tt ta tb σ H Q) : tIf tt ta tb σ H Q := h key
def oddA : List PyData := [.list [.tuple [.int 0, .int 0, .int 0, .int 0, .int 0]], .list [.tuple [.int (0 - 1), .int 1, .int 0, .int 0, .int 0]], .list [.tuple [.int 0, .int 1, .none, .int 0, .int 0]], .list [.tuple [.bool true, .int 1, .int 0, .int 0, .int 0]]]
def oddL : List PyData := oddA ++ [.none, .int 5, .str "spans", .list [.none], .list [.tuple [.int 0, .int 1, .int 0, .int 0]]]
theorem odd_ok : ∀ d ∈ oddL, Odd d ∧ SeqAt.shaped (.tuple [.str "refused", .str d.shown, .bool true]) = true := by
  intro d hd
  have h : d ∈ [PyData.list [.tuple [.int 0, .int 0, .int 0, .int 0, .int 0]], .list [.tuple [.int (0 - 1), .int 1, .int 0, .int 0, .int 0]], .list [.tuple [.int 0, .int 1, .none, .int 0, .int 0]], .list [.tuple [.bool true, .int 1, .int 0, .int 0, .int 0]], .none, .int 5, .str "spans", .list [.none], .list [.tuple [.int 0, .int 1, .int 0, .int 0]]] := hd
  simp only [List.mem_cons, List.not_mem_nil, or_false] at h
  rcases h with rfl | rfl | rfl | rfl | rfl | rfl | rfl | rfl | rfl
  · exact ⟨⟨.inr (by decide +kernel), by decide⟩, by decide +kernel⟩
  · exact ⟨⟨.inr (by decide +kernel), by decide⟩, by decide +kernel⟩
  · exact ⟨⟨.inr (by decide +kernel), by decide⟩, by decide +kernel⟩
  · exact ⟨⟨.inr (by decide +kernel), by decide⟩, by decide +kernel⟩
  · exact ⟨⟨.inl rfl, by decide⟩, by decide +kernel⟩
  · exact ⟨⟨.inl rfl, by decide⟩, by decide +kernel⟩
  · exact ⟨⟨.inl rfl, by decide⟩, by decide +kernel⟩
  · exact ⟨⟨.inr (by decide +kernel), by decide⟩, by decide +kernel⟩
  · exact ⟨⟨.inr (by decide +kernel), by decide⟩, by decide +kernel⟩
/-- such a value shows as it should, wherever it is asked -/
theorem odd_shows {K : PySem.W.Frag} {N : Addr → Prop} {H : Hp} {v : V} {d : PyData} (hd : d ∈ oddL) (hv : DN N H v d) : Shows K H v d.shown := by
  have h : d ∈ [PyData.list [.tuple [.int 0, .int 0, .int 0, .int 0, .int 0]], .list [.tuple [.int (0 - 1), .int 1, .int 0, .int 0, .int 0]], .list [.tuple [.int 0, .int 1, .none, .int 0, .int 0]], .list [.tuple [.bool true, .int 1, .int 0, .int 0, .int 0]], .none, .int 5, .str "spans", .list [.none], .list [.tuple [.int 0, .int 1, .int 0, .int 0]]] := hd
  have lists : ∀ ds : List PyData, DN N H v (.list ds) → (PyData.list ds).showable = true → (PyData.list ds).hasDict = false → (PyData.list ds).depth ≤ 16 → (PyData.list ds).shown.length ≤ sizeLine → Shows K H v (PyData.list ds).shown := fun ds hv h1 h2 h3 h4 Q q => by
    obtain ⟨p, xs, rfl, _⟩ := hv.lst_inv
    exact .inl ⟨p, _, rfl, DN.dp _ _ hv, h1, h2, h3, h4, q⟩
  simp only [List.mem_cons, List.not_mem_nil, or_false] at h
  rcases h with rfl | rfl | rfl | rfl | rfl | rfl | rfl | rfl | rfl
  · exact lists _ hv (by decide +kernel) (by decide +kernel) (by decide +kernel) (by decide +kernel)
  · exact lists _ hv (by decide +kernel) (by decide +kernel) (by decide +kernel) (by decide +kernel)
  · exact lists _ hv (by decide +kernel) (by decide +kernel) (by decide +kernel) (by decide +kernel)
  · exact lists _ hv (by decide +kernel) (by decide +kernel) (by decide +kernel) (by decide +kernel)
  · obtain rfl := hv.non_inv
    exact fun Q q => .inr (.inl ⟨rfl, q⟩)
  · obtain rfl := hv.int_inv
    exact fun Q q => .inr (.inr (.inl ⟨5, rfl, by decide +kernel, q⟩))
  · obtain rfl := hv.str_inv
    exact fun Q q => .inr (.inr (.inr ⟨_, rfl, by decide +kernel, q⟩))
  · exact lists _ hv (by decide +kernel) (by decide +kernel) (by decide +kernel) (by decide +kernel)
  · exact lists _ hv (by decide +kernel) (by decide +kernel) (by decide +kernel) (by decide +kernel)
theorem x_refuse {K : PySem.W.Frag} {T : List (Addr × Str)} {b C : Addr} {Hs H : Hp} {σ : L2.St} {u : V} {d : PyData} {Q : Bool → Hp → Prop} (h21 : σ[21]? = some (some u)) (lw : LW T b Hs H) (hd : d ∈ oddL) (hu : DN (fun a => a = b) H u d) (k : ∀ H', LW T b Hs H' → DN (fun a => a = b) H' u d → Q false H') :
    tTest (tOp (rNeD K) (LamX.tLam T (TRef K C) (fun E => tCallS (spRefuse C) (WE fun cls d _ H => E cls d H) (tCons (tVar 21) tNil))) (tTup (tCons (tC (.str "refused")) (tCons (tCB (rReprU K) (tCons (tVar 21) tNil)) (tCons (tC (.bl true)) tNil))))) σ H Q := by
  refine ⟨lw.tabs, fun H1 eN t1 => ⟨u, h21, ?_⟩⟩
  have lw1 := lw.ext eN t1
  have hu1 := DN.extN eN d u hu
  refine ⟨fun a => a = b, u, d, rfl, lw1.nok, hu1, (odd_ok d hd).1, fun H' dd e hdd => ⟨rfl, dd, u, d.shown, rfl, upd_same, odd_shows hd ((hu1.ex e).ex (ex_new hdd)), fun p hp => ?_⟩⟩
  have lw2 := (lw1.ex e).ex (ex_new (o := .xd [(("at" : Str), u)]) hdd)
  have hu2 := (hu1.ex e).ex (ex_new (o := .xd [(("at" : Str), u)]) hdd)
  have lw3 := lw2.ex (ex_new (o := .tup [.str "refused", .str d.shown, .bl true]) hp)
  have hu3 := hu2.ex (ex_new (o := .tup [.str "refused", .str d.shown, .bl true]) hp)
  have hp3 : DN (fun a => a = b) (upd (upd H' dd (.xd [(("at" : Str), u)])) p (.tup [.str "refused", .str d.shown, .bl true])) (.ref p) (.tuple [.str "refused", .str d.shown, .bool true]) := .tup (lw2.nok.fresh hp) upd_same (.cons (.str _) (.cons (.str _) (.cons (.bl _) .nil)))
  generalize upd (upd H' dd (.xd [(("at" : Str), u)])) p (.tup [.str "refused", .str d.shown, .bl true]) = H3 at lw3 hu3 hp3
  have er : EvD (fun a => a = b) (tCB (rReprU K) (tCons (tVar 21) tNil)) σ H3 (.str d.shown) := fun N1 H4 l4 n4 Q q => by
    have hl := hu3.le l4
    exact ⟨u, h21, odd_shows hd hl _ (q _ H4 Ex.rfl' (.str _))⟩
  refine (ed_tup (ea_cons ed_str (ea_cons er (ea_cons ed_bl ea_nil))) (by show 3 ≤ sizeLine; decide) : EvD (fun a => a = b) _ σ H3 (.tuple [.str "refused", .str d.shown, .bool true])) _ H3 Le.refl lw3.nok _ fun v H4 e4 hv => ?_
  have sh := (odd_ok d hd).2
  refine r_ne sh sh (fun a => a = b) H4 Le.refl (lw3.nok.ex e4) _ _ (hp3.ex e4) hv _ fun z H5 e5 hz => ⟨_, hz.bl_inv, ?_⟩
  rw [PySem.SeqAt.eqv_refl _ (SeqAt.canLay_of_shaped sh)]
  exact k H5 ((lw3.ex e4).ex e5) ((hu3.ex e4).ex e5)
theorem nice_two {w k : Nat} {d : PyData} (h : Nice w k d) : Nice (2 * (w + 1)) (k + 1) (.list [d, d]) := nice_list (n := 2) (ds := [d, d]) (fun x hx => by
  rcases List.mem_cons.mp hx with rfl | hx
  · exact h
  · rw [List.mem_singleton.mp hx]; exact h) (by show 2 ≤ 2; decide)
theorem gv2 {N1 : Addr → Prop} {H1 : Hp} {a b : PyData} (vs : List V) (h : DNs N1 H1 vs [a, b]) : DNs N1 H1 (gV2 [] vs) [b, a] := by
  obtain ⟨v, w, rfl, h1, h2⟩ := two_args h
  exact .cons h2 (.cons h1 .nil)
def dueD (L : List Span) : PyData := match firstX L with
  | some p => .tuple [.str "crossed", spD p.1, spD p.2]
  | none => .none
theorem firstX_mem : ∀ {l : List Span} {p : Span × Span}, firstX l = some p → p.1 ∈ l ∧ p.2 ∈ l
  | a :: r, p, h => by
    unfold firstX at h
    cases e : r.find? (crossB a) with
    | some b =>
      rw [e] at h
      cases h
      exact ⟨List.mem_cons_self, List.mem_cons_of_mem _ (List.mem_of_find?_eq_some e)⟩
    | none =>
      rw [e] at h
      obtain ⟨h1, h2⟩ := firstX_mem h
      exact ⟨List.mem_cons_of_mem _ h1, List.mem_cons_of_mem _ h2⟩
theorem nice_quarrel {L : List Span} (h : ∀ s ∈ L, Small s) : Nice 618 2 (quarrelD L) := by
  unfold quarrelD
  cases e : firstX L with
  | some p =>
    obtain ⟨h1, h2⟩ := firstX_mem e
    refine nice_tuple (n := 3) (w := 205) (k := 1) (ds := [.str "crossed", spD p.1, spD p.2]) (fun d hd => ?_) (by show 3 ≤ 3; decide)
    simp only [List.mem_cons, List.not_mem_nil, or_false] at hd
    rcases hd with rfl | rfl | rfl
    · exact nice_crossed (by decide)
    · exact nice_span (h _ h1)
    · exact nice_span (h _ h2)
  | none =>
    dsimp only
    cases e2 : L.filter fun s => !isFit L s with
    | nil => exact nice_none
    | cons s r =>
      refine (nice_tuple (n := 2) (w := 205) (k := 1) (ds := [.str "unfit", spD s]) (fun d hd => ?_) (by show 2 ≤ 2; decide)).mono (by decide) (Nat.le_refl _)
      simp only [List.mem_cons, List.not_mem_nil, or_false] at hd
      rcases hd with rfl | rfl
      · exact nice_unfit (by decide)
      · exact nice_span (h _ (List.mem_filter.mp (e2 ▸ List.mem_cons_self)).1)
theorem nice_rest {L : List Span} {s : Span} (h : ∀ t ∈ L, Small t) (hl : L.length ≤ 9) (hs : Small s) : Nice 1600 2 (restD L s) := by
  have h1 : Nice (6 * 41) 1 (.tuple ((restRows L s).map .int)) := by
    refine nice_tuple (n := 6) (nice_ints fun i hi => ?_) ?_
    · have hm := (List.mem_filter.mp hi).1
      have := mem_upTo.mp hm
      have := hs.f0; have := hs.f1; have := hs.m1; have := hs.m0
      omega
    · have := restRows_le L s
      have := hs.m1
      rw [List.length_map]
      omega
  have h2 : -100000000 ≤ restSum L s ∧ restSum L s ≤ 100000000 := by
    have hp : ∀ m : List Span, (∀ t ∈ m, Small t) → -(100 * (m.length : Int)) ≤ (m.map (·.sum)).sum ∧ (m.map (·.sum)).sum ≤ 100 * (m.length : Int) := by
      intro m
      induction m with
      | nil => intro _; simp
      | cons t r ih =>
        intro hm
        have z := ih fun x hx => hm x (List.mem_cons_of_mem _ hx)
        have z1 := (hm t List.mem_cons_self).s0
        have z2 := (hm t List.mem_cons_self).s1
        rw [List.map_cons, List.sum_cons, List.length_cons]
        omega
    have z := hp (parts L s) fun t ht => h t (parts_mem ht)
    have z2 := parts_len L s
    have := hs.s0; have := hs.s1
    unfold restSum
    omega
  refine (nice_tuple (n := 4) (w := 246) (k := 1) (ds := [.tuple ((restRows L s).map .int), .int (restSum L s), .bool (needsLow L s), .bool (needsHigh L s)]) (fun d hd => ?_) (by show 4 ≤ 4; decide)).mono (by decide) (Nat.le_refl _)
  simp only [List.mem_cons, List.not_mem_nil, or_false] at hd
  rcases hd with rfl | rfl | rfl | rfl
  · exact h1
  · exact (nice_int h2).mono (by decide) (Nat.le_refl _)
  · exact nice_bool _
  · exact nice_bool _
theorem told_lists {l : List Span} (g : ∀ s ∈ l, Good s) (h : l.length ≤ 1000) {d : PyData} (hd : isSeqD d (l.map spLD)) : Told d l := by
  refine ⟨⟨_, hd, ?_⟩, g, h⟩
  have : ∀ m : List Span, Paired (fun d s => isSeqD d ((spL s).map .int)) (m.map spLD) m := by
    intro m
    induction m with
    | nil => exact .nil
    | cons s r ih => exact .cons (.inl rfl) ih
  exact this l
end K14
/-! K14LawC -/
set_option Elab.async false
set_option linter.all false
set_option maxRecDepth 100000
set_option maxHeartbeats 8000000
set_option pp.maxSteps 400
set_option pp.deepTerms false
/-! The law's def, walked. -/
namespace K14
open PySem PySem.Spec PyProof.Rows L2
abbrev lawN : List Str := ["_law_script", "_law_k", "_law_box_here", "_law_rows", "_law_values", "_law_spans_here", "_law_turn", "_law_some", "_law_line", "_law_span", "_law_handed", "_law_crossed_here", "_law_due", "_law_unfit_here", "_law_wide", "_law_parts_here", "_law_rest_here", "_law_left", "_law_part", "_law_low", "_law_high", "_law_odd"]
section
variable {P : Program} {w : World} {K : PySem.W.Frag} {mg : Str → Option Value} {base : Heap} {C fI cc Fa gR f c Pt : Addr} {outer : List Env} {s : Shared} {H : Hp} {E : XK}
abbrev lawX (P : Program) (w : World) (K : PySem.W.Frag) (mg : Str → Option Value) (base : Heap) (f c : Addr) (outer : List Env) (s : Shared) (H : Hp) (E : XK) : Cx :=
  (cxOf CX0 P w K mg base lawN "law" (defScope s_law) f (.ref c) callerA outer s H E).nox
abbrev lawT (Pt : Addr) : List (Addr × Str) := [(Pt, ("law" : Str) ++ ".<locals>." ++ "<lambda>")]
theorem run_law (M : LawMath) (L : LawCtx P w K mg base C fI cc Fa gR) (TB : LamX.TabB base mg c Pt) (hr : Room 10 (lawX P w K mg base f c outer s H E).A) {sa : Addr} {ns : List Int} (hS : SqL K H sa (ns.map V.int)) (hn : ns.length ≤ 63) (hT : LamX.Tabs (lawT Pt) H) :
    ∃ t, PSs (lawX P w K mg base f c outer s H E) (defBody s_law) t ∧ t { nx := fun _ H' => V.non = .bl true, rt := fun v _ => v = .bl true } (start lawN [.ref sa]) H := by
  obtain ⟨T, G_l_box, G_l_take, G_l_pick, G_l_spans, G_l_mixed, G_l_bent, G_l_fits, G_l_choices, G_l_crossed, G_l_parts, G_l_rest, G_l_unfit, G_span_quarrel, G_check_told_spans, G_rest_of, GK_span_quarrel, GK_check_told_spans, GK_rest_of, GX_check, GX_quarrel, TR, hFa, kFa, nFa, gRm, fdR, FR, bR⟩ := L
  obtain ⟨oc, od, kV, doc, pm, an, cdR, ct, osl, rfl, lkR, hcR⟩ := FR.ex
  have hgu : (lawX P w K mg base f c outer s H E).A.guards = some [] := rfl
  have hu80 : (lawX P w K mg base f c outer s H E).A.units + 80 < cLine := by have := hr.un; omega
  have hG : LamX.GivesTo (lawX P w K mg base f c outer s H E) ["_law_ask", "fault"] "_law_refused" (defScope s_l_refused) gR cdR (defBody s_l_refused) "_law_ask" (("law" : Str) ++ ".<locals>." ++ "<lambda>") (TRef K C) :=
    refused_gives (X := lawX P w K mg base f c outer s H E) TR hFa kFa nFa hgu hu80 T
  have hr9 : Room 9 (lawX P w K mg base f c outer s H E).A := hr.mono (by decide)
  refine ⟨_, (pss_cons (ps_for PassesOwn.never rfl (pi_range1 (by rfl) T.range (pa_cons (pe_callB (cr_maxP rfl) (by rfl) T.max (by decide +kernel) (pa_cons pe_int (pa_cons (pe_callB (cr_minP rfl) (by rfl) T.min (by decide +kernel) (pa_cons (pe_callB cr_len1 (by rfl) T.len (by decide +kernel) (pa_cons (pv 0) pa_nil)) (pa_cons pe_int pa_nil))) pa_nil))) pa_nil)) (pg_name (i := 1) sc_law.nd rfl (by first | exact Or.inl rfl | exact Or.inr rfl)) (pss_cons (ps_set (i := 2) sc_law.nd rfl (Or.inl rfl) (pe_callH G_l_box hr (by rfl) pass0 (pa_cons (pv 0) (pa_cons (pv 1) pa_nil)))) (pss_cons (ps_set (i := 3) sc_law.nd rfl (Or.inl rfl) (pe_op op_addU pe_int (pe_callH G_l_take hr (by rfl) pass0 (pa_cons (pv 2) (pa_cons pe_int pa_nil))))) (pss_cons (ps_asg (pe_callH G_l_spans hr (by rfl) pass0 (pa_cons (pv 2) (pa_cons (pv 3) pa_nil))) (pg_tup rfl (pgs_cons (pg_name (i := 4) sc_law.nd rfl (by first | exact Or.inl rfl | exact Or.inr rfl)) (pgs_cons (pg_name (i := 5) sc_law.nd rfl (by first | exact Or.inl rfl | exact Or.inr rfl)) pgs_nil)))) (pss_cons (ps_if (PW.pt (pw_or (pt_cmpR op_notNU (pe_callH G_span_quarrel hr (by rfl) pass0 (pa_cons (pv 5) pa_nil)) pe_non (nomark _)) (pw_or1 (pt_not (pt_val (pe_callH G_l_fits hr (by rfl) pass0 (pa_cons (pv 5) (pa_cons (pv 4) pa_nil)))))))) (pss_one (ps_ret pe_bl)) pss_nil) (pss_cons (ps_for PassesOwn.never rfl (pi_range1 (by rfl) T.range (pa_cons pe_int pa_nil)) (pg_name (i := 6) sc_law.nd rfl (by first | exact Or.inl rfl | exact Or.inr rfl)) (pss_cons (ps_set (i := 7) sc_law.nd rfl (Or.inl rfl) (pe_ifExp (pt_cmpR op_gtU (pv 6) pe_int (nomark _)) (pe_callH G_l_bent hr (by rfl) pass0 (pa_cons (pv 2) (pa_cons (pv 5) pa_nil))) (pv 5))) (pss_cons (ps_set (i := 8) sc_law.nd rfl (Or.inr rfl) (pe_callB (cr_sortD hr.units) (by rfl) T.sorted (by decide +kernel) (pa_cons (pe_callTy (cr_listDT rfl) (by rfl) T.list (by decide +kernel) (pa_cons (pe_callTy (cr_dictT rfl hr.units) (by rfl) T.dict (by decide +kernel) (pa_cons (pe_lc (own := [("_law_span", 9)]) (g := gName 9) (tt := tYes) rfl sc_law.nd (pi_seq (pv 7)) (blkOk_by (N := ["_law_script", "_law_k", "_law_box_here", "_law_rows", "_law_values", "_law_spans_here", "_law_turn", "_law_some", "_law_line", "_law_span", "_law_handed", "_law_crossed_here", "_law_due", "_law_unfit_here", "_law_wide", "_law_parts_here", "_law_rest_here", "_law_left", "_law_part", "_law_low", "_law_high", "_law_odd"]) (sc := defScope s_law) (by decide +kernel)) (fun _ _ _ _ _ => pg_name (i := 9) sc_law.nd rfl (by first | exact Or.inl rfl | exact Or.inr rfl)) (fun _ _ _ _ _ => pts_nil) (fun _ _ _ _ _ => (pe_tup (pa_cons (pv 9) (pa_cons pe_bl pa_nil))))) pa_nil)) pa_nil)) pa_nil))) (pss_cons (ps_setLc (i := 10) (own := [("_law_span", 9)]) (g := gName 9) (tt := tYes) rfl sc_law.nd rfl rfl (sw_true rfl rfl rfl (by decide +kernel)) (pi_seq (pe_callH G_l_mixed hr (by rfl) pass0 (pa_cons (pv 2) (pa_cons (pv 7) pa_nil)))) (blkOk_by (N := ["_law_script", "_law_k", "_law_box_here", "_law_rows", "_law_values", "_law_spans_here", "_law_turn", "_law_some", "_law_line", "_law_span", "_law_handed", "_law_crossed_here", "_law_due", "_law_unfit_here", "_law_wide", "_law_parts_here", "_law_rest_here", "_law_left", "_law_part", "_law_low", "_law_high", "_law_odd"]) (sc := defScope s_law) (by decide +kernel)) (fun _ _ _ _ _ => pg_name (i := 9) sc_law.nd rfl (by first | exact Or.inl rfl | exact Or.inr rfl)) (fun _ _ _ _ _ => pts_nil) (fun _ _ _ _ _ => (pe_callTy (cr_listOfK (K := K) rfl) (by rfl) T.list (by decide +kernel) (pa_cons (pv 9) pa_nil)))) (pss_cons (ps_if (pt_cmpR op_ne (pe_callB (cr_reprU hgu hr.units) (by rfl) T.repr (by decide +kernel) (pa_cons (pe_lst (pa_cons (pe_callH G_check_told_spans hr (by rfl) pass0 (pa_cons (pv 10) pa_nil)) (pa_cons (pe_callHK GK_check_told_spans hr (by rfl) pass0 (pk_cons (pe_callTy cr_tupleOf (by rfl) T.tuple (by decide +kernel) (pa_cons (pv 10) pa_nil)) pk_nil)) pa_nil))) pa_nil)) (pe_callB (cr_reprU hgu hr.units) (by rfl) T.repr (by decide +kernel) (pa_cons (pe_op op_mulU (pe_lst (pa_cons (pe_callTy cr_tupleOf (by rfl) T.tuple (by decide +kernel) (pa_cons (pv 8) pa_nil)) pa_nil)) pe_int) pa_nil)) (nomark _)) (pss_one (ps_ret pe_bl)) pss_nil) (pss_cons (ps_set (i := 11) sc_law.nd rfl (Or.inl rfl) (pe_callH G_l_crossed hr (by rfl) pass0 (pa_cons (pv 8) pa_nil))) (pss_cons (ps_set (i := 12) sc_law.nd rfl (Or.inl rfl) (pe_ifExp (pt_cmpR op_notNU (pv 11) pe_non (nomark _)) (pe_op op_addU (pe_tup (pa_cons pe_str pa_nil)) (pv 11)) pe_non)) (pss_cons (ps_if (pt_cmpR op_isNU (pv 12) pe_non (nomark _)) (pss_cons (ps_setLc (i := 13) (own := [("_law_span", 9)]) (g := gName 9) rfl sc_law.nd rfl rfl (sw_true rfl rfl rfl (by decide +kernel)) (pi_seq (pv 8)) (blkOk_by (N := ["_law_script", "_law_k", "_law_box_here", "_law_rows", "_law_values", "_law_spans_here", "_law_turn", "_law_some", "_law_line", "_law_span", "_law_handed", "_law_crossed_here", "_law_due", "_law_unfit_here", "_law_wide", "_law_parts_here", "_law_rest_here", "_law_left", "_law_part", "_law_low", "_law_high", "_law_odd"]) (sc := defScope s_law) (by decide +kernel)) (fun _ _ _ _ _ => pg_name (i := 9) sc_law.nd rfl (by first | exact Or.inl rfl | exact Or.inr rfl)) (fun _ _ _ _ _ => pts_one (pt_val (pe_callH G_l_unfit hr (by rfl) pass0 (pa_cons (pv 8) (pa_cons (pv 9) pa_nil))))) (fun _ _ _ _ _ => (pv 9))) (pss_one (ps_set (i := 12) sc_law.nd rfl (Or.inl rfl) (pe_ifExp (pt_cmpR (op_neD hr.units) (pv 13) (pe_lst pa_nil) (nomark _)) (pe_tup (pa_cons pe_str (pa_cons (pe_ix ix_seq (pv 13) pe_int (fun _ _ => rfl)) pa_nil))) pe_non)))) pss_nil) (pss_cons (ps_if (pt_cmpR op_ne (pe_callB (cr_reprU hgu hr.units) (by rfl) T.repr (by decide +kernel) (pa_cons (pe_lst (pa_cons (pe_callH G_span_quarrel hr (by rfl) pass0 (pa_cons (pv 7) pa_nil)) (pa_cons (pe_callHK GK_span_quarrel hr (by rfl) pass0 (pk_cons (pv 10) pk_nil)) pa_nil))) pa_nil)) (pe_callB (cr_reprU hgu hr.units) (by rfl) T.repr (by decide +kernel) (pa_cons (pe_lst (pa_cons (pv 12) (pa_cons (pv 12) pa_nil))) pa_nil)) (nomark _)) (pss_one (ps_ret pe_bl)) pss_nil) (pss_cons (ps_set (i := 14) sc_law.nd rfl (Or.inl rfl) (pe_callB (cr_max2 rfl hr.units) (by rfl) T.max (by decide +kernel) (pa_cons (pe_op op_addU (pe_lst (pa_cons (pv 3) pa_nil)) (pe_lc (own := [("_law_span", 9)]) (g := gName 9) (tt := tYes) rfl sc_law.nd (pi_seq (pv 8)) (blkOk_by (N := ["_law_script", "_law_k", "_law_box_here", "_law_rows", "_law_values", "_law_spans_here", "_law_turn", "_law_some", "_law_line", "_law_span", "_law_handed", "_law_crossed_here", "_law_due", "_law_unfit_here", "_law_wide", "_law_parts_here", "_law_rest_here", "_law_left", "_law_part", "_law_low", "_law_high", "_law_odd"]) (sc := defScope s_law) (by decide +kernel)) (fun _ _ _ _ _ => pg_name (i := 9) sc_law.nd rfl (by first | exact Or.inl rfl | exact Or.inr rfl)) (fun _ _ _ _ _ => pts_nil) (fun _ _ _ _ _ => (pe_op (op_addUK (K := K) rfl) (pe_ix (ix_seqK (K := K) rfl) (pv 9) pe_int (fun _ _ => rfl)) (pe_ix (ix_seqK (K := K) rfl) (pv 9) pe_int (fun _ _ => rfl)))))) pa_nil))) (pss_cons (ps_if (PW.pt (pw_and (pt_cmpR op_isNU (pv 11) pe_non (nomark _)) (pw_and (pt_cmpR op_ltU (pv 14) pe_int (nomark _)) (pw_and1 (pt_cmpR (op_neD hr.units) (pe_cmpR op_isNU (pv 12) pe_non (nomark _)) (pe_cmpR (op_neD hr.units) (pe_callH G_l_choices hr (by rfl) pass0 (pa_cons (pv 8) (pa_cons (pv 14) pa_nil))) (pe_lst pa_nil) (nomark _)) (nomark _)))))) (pss_one (ps_ret pe_bl)) pss_nil) (pss_one (ps_for PassesOwn.never rfl (pi_seq (pe_ifExp (pt_cmpR op_isNU (pv 12) pe_non (nomark _)) (pv 8) (pe_lst pa_nil))) (pg_name (i := 9) sc_law.nd rfl (by first | exact Or.inl rfl | exact Or.inr rfl)) (pss_cons (ps_par (i := 15) (j := 16) rfl sc_law.nd rfl rfl (by decide) rfl rfl (pa_cons (pe_callH G_l_parts hr (by rfl) pass0 (pa_cons (pv 8) (pa_cons (pv 9) pa_nil))) (pa_cons (pe_callTy cr_tupleOf (by rfl) T.tuple (by decide +kernel) (pa_cons (pe_callH G_l_rest hr (by rfl) pass0 (pa_cons (pv 8) (pa_cons (pv 9) pa_nil))) pa_nil)) pa_nil)) (by rfl)) (pss_cons (ps_set (i := 17) sc_law.nd rfl (Or.inl rfl) (pe_op op_subU (pe_ix ix_seq (pv 9) pe_int (fun _ _ => rfl)) (pe_callB (cr_sum2 rfl) (by rfl) T.sum (by decide +kernel) (pa_cons (pe_lc (own := [("_law_part", 18)]) (g := gName 18) (tt := tYes) rfl sc_law.nd (pi_seq (pv 15)) (blkOk_by (N := ["_law_script", "_law_k", "_law_box_here", "_law_rows", "_law_values", "_law_spans_here", "_law_turn", "_law_some", "_law_line", "_law_span", "_law_handed", "_law_crossed_here", "_law_due", "_law_unfit_here", "_law_wide", "_law_parts_here", "_law_rest_here", "_law_left", "_law_part", "_law_low", "_law_high", "_law_odd"]) (sc := defScope s_law) (by decide +kernel)) (fun _ _ _ _ _ => pg_name (i := 18) sc_law.nd rfl (by first | exact Or.inl rfl | exact Or.inr rfl)) (fun _ _ _ _ _ => pts_nil) (fun _ _ _ _ _ => (pe_ix (ix_seqK (K := K) rfl) (pv 18) pe_int (fun _ _ => rfl)))) pa_nil)))) (pss_cons (ps_par (i := 19) (j := 20) rfl sc_law.nd rfl rfl (by decide) rfl rfl (pa_cons (pe_cmpR op_notIn_seq (pe_ix ix_seq (pv 9) pe_int (fun _ _ => rfl)) (pe_lc (own := [("_law_part", 18)]) (g := gName 18) (tt := tYes) rfl sc_law.nd (pi_seq (pv 15)) (blkOk_by (N := ["_law_script", "_law_k", "_law_box_here", "_law_rows", "_law_values", "_law_spans_here", "_law_turn", "_law_some", "_law_line", "_law_span", "_law_handed", "_law_crossed_here", "_law_due", "_law_unfit_here", "_law_wide", "_law_parts_here", "_law_rest_here", "_law_left", "_law_part", "_law_low", "_law_high", "_law_odd"]) (sc := defScope s_law) (by decide +kernel)) (fun _ _ _ _ _ => pg_name (i := 18) sc_law.nd rfl (by first | exact Or.inl rfl | exact Or.inr rfl)) (fun _ _ _ _ _ => pts_nil) (fun _ _ _ _ _ => (pe_ix (ix_seqK (K := K) rfl) (pv 18) pe_int (fun _ _ => rfl)))) (by rfl)) (pa_cons (pe_cmpR op_notIn_seq (pe_ix ix_seq (pv 9) pe_int (fun _ _ => rfl)) (pe_lc (own := [("_law_part", 18)]) (g := gName 18) (tt := tYes) rfl sc_law.nd (pi_seq (pv 15)) (blkOk_by (N := ["_law_script", "_law_k", "_law_box_here", "_law_rows", "_law_values", "_law_spans_here", "_law_turn", "_law_some", "_law_line", "_law_span", "_law_handed", "_law_crossed_here", "_law_due", "_law_unfit_here", "_law_wide", "_law_parts_here", "_law_rest_here", "_law_left", "_law_part", "_law_low", "_law_high", "_law_odd"]) (sc := defScope s_law) (by decide +kernel)) (fun _ _ _ _ _ => pg_name (i := 18) sc_law.nd rfl (by first | exact Or.inl rfl | exact Or.inr rfl)) (fun _ _ _ _ _ => pts_nil) (fun _ _ _ _ _ => (pe_ix (ix_seqK (K := K) rfl) (pv 18) pe_int (fun _ _ => rfl)))) (by rfl)) pa_nil)) (by rfl)) (pss_one (ps_if (pt_cmpR op_ne (pe_callB (cr_reprU hgu hr.units) (by rfl) T.repr (by decide +kernel) (pa_cons (pe_lst (pa_cons (pe_callH G_rest_of hr (by rfl) pass0 (pa_cons (pv 8) (pa_cons (pv 9) pa_nil))) (pa_cons (pe_callHK GK_rest_of hr (by rfl) pass0 (pk_cons (pv 9) (pk_cons (pe_callTy cr_tupleOf (by rfl) T.tuple (by decide +kernel) (pa_cons (pv 8) pa_nil)) pk_nil))) pa_nil))) pa_nil)) (pe_callB (cr_reprU hgu hr.units) (by rfl) T.repr (by decide +kernel) (pa_cons (pe_op op_mulU (pe_lst (pa_cons (pe_tup (pa_cons (pv 16) (pa_cons (pv 17) (pa_cons (pv 19) (pa_cons (pv 20) pa_nil))))) pa_nil)) pe_int) pa_nil)) (nomark _)) (pss_one (ps_ret pe_bl)) pss_nil)))))))))))))))))) (pss_cons (ps_set (i := 7) sc_law.nd rfl (Or.inl rfl) (pe_lst (pa_cons (pe_lst (pa_cons (pe_tup (pa_cons pe_int (pa_cons pe_int (pa_cons pe_int (pa_cons pe_int (pa_cons pe_int pa_nil)))))) pa_nil)) (pa_cons (pe_lst (pa_cons (pe_tup (pa_cons (pe_op op_subU pe_int pe_int) (pa_cons pe_int (pa_cons pe_int (pa_cons pe_int (pa_cons pe_int pa_nil)))))) pa_nil)) (pa_cons (pe_lst (pa_cons (pe_tup (pa_cons pe_int (pa_cons pe_int (pa_cons pe_non (pa_cons pe_int (pa_cons pe_int pa_nil)))))) pa_nil)) (pa_cons (pe_lst (pa_cons (pe_tup (pa_cons pe_bl (pa_cons pe_int (pa_cons pe_int (pa_cons pe_int (pa_cons pe_int pa_nil)))))) pa_nil)) pa_nil)))))) (pss_cons (ps_set (i := 21) sc_law.nd rfl (Or.inr rfl) (pe_callH G_l_pick hr (by rfl) pass0 (pa_cons (pv 2) (pa_cons (pe_op op_addU (pv 7) (pe_lst (pa_cons pe_non (pa_cons pe_int (pa_cons pe_str (pa_cons (pe_lst (pa_cons pe_non pa_nil)) (pa_cons (pe_lst (pa_cons (pe_tup (pa_cons pe_int (pa_cons pe_int (pa_cons pe_int (pa_cons pe_int pa_nil))))) pa_nil)) pa_nil))))))) pa_nil)))) (pss_cons (ps_if (pt_cmpR (op_neD hr.units) (LamX.pe_lamcall (T := lawT Pt) (TT := TRef K C) (a := "_law_ask") (Ng := ["_law_ask", "fault"]) (k := 7) (c := c) (P := Pt) (t := fun E => tCallS (spRefuse C) (WE (fun cls d _ H => E cls d H)) (tCons (tVar 21) tNil)) (by rfl) gRm FR.kp lkR hcR bR sc_l_refused rfl (.inl rfl) hG TB rfl (List.mem_singleton.mpr rfl) (fun p hp _ => by rw [List.mem_singleton.mp hp]; rfl) hr9 (LamX.lamS_by (sc := defScope s_law) (by decide +kernel)) rfl (fun _ _ _ _ _ => by with_unfolding_all rfl) (fun A outer s H E f c' hr2 => pe_callSH GX_quarrel hr2 (by rfl) (fun σ => passAt (takes_of rfl rfl rfl rfl) σ) (by exact (pa_cons (pv 21) pa_nil)))) (pe_tup (pa_cons pe_str (pa_cons (pe_callB (cr_reprU hgu hr.units) (by rfl) T.repr (by decide +kernel) (pa_cons (pv 21) pa_nil)) (pa_cons pe_bl pa_nil)))) (nomark _)) (pss_one (ps_ret pe_bl)) pss_nil) (pss_one (ps_if (pt_cmpR (op_neD hr.units) (LamX.pe_lamcall (T := lawT Pt) (TT := TRef K C) (a := "_law_ask") (Ng := ["_law_ask", "fault"]) (k := 7) (c := c) (P := Pt) (t := fun E => tCallS (spRefuse C) (WE (fun cls d _ H => E cls d H)) (tCons (tVar 21) tNil)) (by rfl) gRm FR.kp lkR hcR bR sc_l_refused rfl (.inl rfl) hG TB rfl (List.mem_singleton.mpr rfl) (fun p hp _ => by rw [List.mem_singleton.mp hp]; rfl) hr9 (LamX.lamS_by (sc := defScope s_law) (by decide +kernel)) rfl (fun _ _ _ _ _ => by with_unfolding_all rfl) (fun A outer s H E f c' hr2 => pe_callSH GX_check hr2 (by rfl) (fun σ => passAt (takes_of rfl rfl rfl rfl) σ) (by exact (pa_cons (pv 21) pa_nil)))) (pe_tup (pa_cons pe_str (pa_cons (pe_callB (cr_reprU hgu hr.units) (by rfl) T.repr (by decide +kernel) (pa_cons (pv 21) pa_nil)) (pa_cons pe_bl pa_nil)))) (nomark _)) (pss_one (ps_ret pe_bl)) pss_nil))))))))))) (pss_one (ps_ret (pe_cmpR op_isNU (pe_callH G_span_quarrel hr (by rfl) pass0 (pa_cons (pe_tup pa_nil) pa_nil)) pe_non (nomark _))))), ?_⟩
  have hmx : ∀ {te : TE}, True := fun {_} => trivial
  refine s_forR (N := N0) (m := max 3 (min (ns.length : Int) 6)) (fun H0 i σ1 H1 => (∃ x1 x2 x3 x4 x5 x6 x7 x8 x9 x10 x11 x12 x13 x14 x15 x16 x17 x18 x19 x20 x21, σ1 = [some (.ref sa), x1, x2, x3, x4, x5, x6, x7, x8, x9, x10, x11, x12, x13, x14, x15, x16, x17, x18, x19, x20, x21]) ∧ SqL K H1 sa (ns.map V.int) ∧ LamX.Tabs (lawT Pt) H1)
    (ea_cons (ed_cb (ea_cons ed_int (ea_cons (ed_cb (ea_cons (e_slen (i := 0) rfl hS) (ea_cons ed_int ea_nil)) rc_min2) ea_nil)) rc_max2) ea_nil) (by omega) nok0 (fun H1 e1 => ⟨⟨_, _, _, _, _, _, _, _, _, _, _, _, _, _, _, _, _, _, _, _, _, rfl⟩, e1.seq hS, hT.ext e1⟩) (fun H0 e0 k σ1 Hs hk hP => ?_) fun H0 e0 σ1 H1 hP => ?_
  · obtain ⟨⟨x1, x2, x3, x4, x5, x6, x7, x8, x9, x10, x11, x12, x13, x14, x15, x16, x17, x18, x19, x20, x21, rfl⟩, hSs, hTs⟩ := hP
    -- the box
    refine s_raw ⟨.ref sa, rfl, .int k, rfl, sa, ns, k, rfl, hSs, hn, by omega, fun b H1 g s0 hbx nb eb e1 => ?_⟩
    have lw1 : LW (lawT Pt) b Hs H1 := ⟨fun p o _ _ x => e1 p o x, ⟨g, s0, eb, hbx⟩, hTs.ext e1⟩
    dsimp only
    -- rows
    refine s_raw ?_
    refine x_take2 (N := fun a => a = b) (i := 2) (m := 5) rfl rfl lw1.nok lw1.box ed_int (by decide) (by decide) fun d H2 d0 d1 sb2 => ?_
    refine r_add N0 H2 Le.refl nok0 (.int 1) (.int d) (.int _) (.int _) _ fun w3 H3 e3 hw3 => ?_
    obtain rfl := hw3.int_inv
    obtain ⟨rows, hrows⟩ : ∃ rows : Nat, (rows : Int) = 1 + d := ⟨(1 + d).toNat, by omega⟩
    rw [← hrows]
    have lw3 := (lw1.sb sb2).ex e3
    refine s_rawA (x_spans (N := fun a => a = b) (i := 2) (rows := rows) rfl rfl lw3.nok lw3.box (ed_var (i := 3) rfl (.int _)) (by omega) (by omega) fun u vals F H4 hSp sb4 hu => ?_)
    refine g_unp2 hu fun va vf hva hvf => ?_
    have lw4 := lw3.sb sb4
    obtain ⟨hq0, hfit, htiny⟩ := M.start rows vals F (by omega) (by omega) hSp
    have hsmall : ∀ s ∈ F, Small s := fun s hs => (htiny s hs).small
    have hgood : ∀ s ∈ F, Good s := fun s hs => (hsmall s hs).good
    have hFl := hSp.flen
    refine s_if (N := fun a => a = b) (x := false) lw4.nok ((eb_or (x := !isNone (quarrelD (lineOf F))) (y := !F.all (fitsB vals)) (eb_test (ed_op (ed_call (ea_cons (ed_var (i := 5) rfl hvf) ea_nil) ⟨_, F, rfl, Told.of hgood (by omega) (.inl rfl), rfl⟩) ed_non r_notN)) fun _ => eb_not (eb_B (ed_call (ea_cons (ed_var (i := 5) rfl hvf) (ea_cons (ed_var (i := 4) rfl hva) ea_nil)) ⟨F, vals, _, rfl, .inl rfl, hgood, rfl⟩))).is (by rw [hq0, hfit]; rfl)) (fun z => nomatch z) fun _ H5 e5 => ?_
    have lw5 := lw4.ex e5
    have hva5 := hva.ex e5
    have hvf5 := hvf.ex e5
    refine s_forR (N := fun a => a = b) (m := 4) (fun H0 i σ1 H6 => (∃ x6 x7 x8 x9 x10 x11 x12 x13 x14 x15 x16 x17 x18 x19 x20 x21, σ1 = [some (.ref sa), some (.int k), some (.ref b), some (.int rows), some va, some vf, x6, x7, x8, x9, x10, x11, x12, x13, x14, x15, x16, x17, x18, x19, x20, x21]) ∧ LW (lawT Pt) b Hs H6 ∧ DN (fun a => a = b) H6 va (.list (vals.map .int)) ∧ DN (fun a => a = b) H6 vf (.list (F.map spD)))
      (ea_cons ed_int ea_nil) (by decide) lw5.nok (fun H6 e6 => ⟨⟨_, _, _, _, _, _, _, _, _, _, _, _, _, _, _, _, rfl⟩, lw5.ex e6, hva5.ex e6, hvf5.ex e6⟩) (fun H0 e0 turn σ1 H6 ht hP => ?_) fun H0 e0 σ1 H6 hP => ?_
    · obtain ⟨⟨x6, x7, x8, x9, x10, x11, x12, x13, x14, x15, x16, x17, x18, x19, x20, x21, rfl⟩, lw6, hva6, hvf6⟩ := hP
      -- some
      refine s_raw ?_
      refine x_join (fun u H7 => ∃ l : List Span, (∀ s ∈ l, Small s) ∧ l.length ≤ 9 ∧ LW (lawT Pt) b Hs H7 ∧ DN (fun a => a = b) H7 va (.list (vals.map .int)) ∧ DN (fun a => a = b) H7 vf (.list (F.map spD)) ∧ DN (fun a => a = b) H7 u (.list (l.map spD))) (fun vs H7 hR => ?_) fun J => ?_
      · obtain ⟨l, hsl, hll, lw7, hva7, hvf7, hvs⟩ := hR
        have hgl : ∀ s ∈ l, Good s := fun s hs => (hsl s hs).good
        obtain ⟨L, hL⟩ : ∃ L, L = lineOf l := ⟨_, rfl⟩
        have hsL : ∀ s ∈ L, Small s := fun s hs => hsl s (mem_lineOf.mp (hL ▸ hs))
        have hgL : ∀ s ∈ L, Good s := fun s hs => (hsL s hs).good
        have hLl : L.length ≤ 9 := by have := length_lineOf l; rw [hL]; omega
        have hLd : L.Nodup := by rw [hL]; exact nodup_lineOf l
        have hLi : lineOf L = L := by rw [hL]; exact lineOf_idem l
        have lzL : (L.map spD).length ≤ sizeLine := by rw [List.length_map, sizeLine_eq]; omega
        -- line
        refine s_set (N := fun a => a = b) lw7.nok (e_line (l := l) (j := 9) (ed_var (i := 7) rfl hvs) (by omega) (by show 9 < 22; decide) (fun _ => rfl)) fun vl H8 e8 hvl => ?_
        rw [← hL] at hvl
        have lw8 := lw7.ex e8
        -- handed
        refine s_raw ?_
        refine x_handed (N := fun a => a = b) (i := 2) (j := 9) rfl rfl lw8.nok lw8.box (ed_var (i := 7) rfl (hvs.ex e8)) (by omega) (by show 9 < 22; decide) (fun _ => rfl) fun vh m H9 H10 hm hml sb9 e10 hvh => ?_
        have lw9 := lw8.sb sb9
        have lw10 := lw9.ex e10
        have kb := sb9.kp (N := fun a => a = b) rfl
        have hvs10 := ((hvs.ex e8).kp kb).ex e10
        have hvl10 := (hvl.kp kb).ex e10
        have hva10 := ((hva7.ex e8).kp kb).ex e10
        have hvf10 := ((hvf7.ex e8).kp kb).ex e10
        have hLm : lineOf m = L := by rw [hL]; exact lineOf_congr hm
        have hgm : ∀ s ∈ m, Good s := fun s hs => hgl s ((hm s).mp hs)
        have hml' : m.length ≤ 1000 := by omega
        have told1 : Told (.list (m.map spLD)) m := told_lists hgm hml' (.inl rfl)
        have told2 : Told (.tuple (m.map spLD)) m := told_lists hgm hml' (.inr rfl)
        have told0 : Told (.list (l.map spD)) l := Told.of hgl (by omega) (.inl rfl)
        dsimp only
        -- repr of the checked
        have nT : Nice 1854 2 (.tuple (L.map spD)) := nice_tuple (n := 9) (nice_spans hsL) (by rw [List.length_map]; exact hLl)
        have nTT := nice_two nT
        refine s_if (N := fun a => a = b) (x := false) lw10.nok (eb_sameText (e_repr nTT (by decide) (by decide) (ed_lst (ea_cons (ed_call (ea_cons (ed_var (i := 10) rfl hvh) ea_nil) ⟨_, m, rfl, told1, by rw [hLm]⟩) (ea_cons (ed_callK (as' := [.tuple (m.map spLD)]) (ea_cons (ed_cb (ea_cons (ed_var (i := 10) rfl hvh) ea_nil) rc_tupleL) ea_nil) (fun _ _ _ h => h) ⟨_, m, rfl, told2, by rw [hLm]⟩) ea_nil)) (by show 2 ≤ sizeLine; decide)) (.inl ⟨_, rfl⟩))
          (e_repr nTT (by decide) (by decide) (ed_op (ed_lst (ea_cons (ed_cb (ea_cons (ed_var (i := 8) rfl hvl10) ea_nil) rc_tupleL) ea_nil) (by show 1 ≤ sizeLine; decide)) ed_int (r_repL (k := 2) (by decide) (by show 1 ≤ 1000; decide))) (.inl ⟨_, rfl⟩))) (fun z => nomatch z) fun _ H11 e11 => ?_
        have lw11 := lw10.ex e11
        -- crossed
        refine s_set (N := fun a => a = b) lw11.nok (d := firstD (firstX L)) (ed_call (ea_cons (ed_var (i := 8) rfl (hvl10.ex e11)) ea_nil) ⟨L, rfl, by omega, rfl⟩) fun vc H12 e12 hvc => ?_
        have lw12 := lw11.ex e12
        refine s_set (N := fun a => a = b) lw12.nok (d := dueD L) (ed_if (x := !isNone (firstD (firstX L))) (eb_test (ed_op (ed_var (i := 11) rfl hvc) ed_non r_notN)) (fun ex => ?_) fun ex => ?_) fun vd H13 e13 hvd => ?_
        · unfold dueD
          cases ef : firstX L with
          | none => rw [ef] at ex; cases ex
          | some p =>
            rw [ef] at hvc
            exact ed_op (ed_tup (ea_cons ed_str ea_nil) (by show 1 ≤ sizeLine; decide)) (ed_var (i := 11) rfl hvc) (r_addT (by show 3 ≤ sizeLine; decide))
        · unfold dueD
          cases ef : firstX L with
          | none => exact ed_non
          | some p => rw [ef] at ex; cases ex
        have lw13 := lw12.ex e13
        have hvl13 := ((hvl10.ex e11).ex e12).ex e13
        have hvs13 := ((hvs10.ex e11).ex e12).ex e13
        have hvh13 := ((hvh.ex e11).ex e12).ex e13
        have hva13 := ((hva10.ex e11).ex e12).ex e13
        have hvf13 := ((hvf10.ex e11).ex e12).ex e13
        have hvc13 := hvc.ex e13
        refine s_join (fun σ' H14 => (∃ x13 vd, σ' = [some (.ref sa), some (.int k), some (.ref b), some (.int rows), some va, some vf, some (.int turn), some vs, some vl, x9, some vh, some vc, some vd, x13, x14, x15, x16, x17, x18, x19, x20, x21] ∧ DN (fun a => a = b) H14 vd (quarrelD L)) ∧ Ex H13 H14) (fun σ' H14 hP => ?_) fun J2 => ?_
        · obtain ⟨⟨x13, vd, rfl, hvd⟩, e14⟩ := hP
          have lw14 := lw13.ex e14
          have hvs14 := hvs13.ex e14
          have hvh14 := hvh13.ex e14
          have hvl14 := hvl13.ex e14
          have hvc14 := hvc13.ex e14
          have nQ2 := nice_two (nice_quarrel hsL)
          refine s_if (N := fun a => a = b) (x := false) lw14.nok (eb_sameText (e_repr nQ2 (by decide) (by decide) (ed_lst (ea_cons (ed_call (ea_cons (ed_var (i := 7) rfl hvs14) ea_nil) ⟨_, l, rfl, told0, by rw [← hL]⟩) (ea_cons (ed_callK (as' := [.list (m.map spLD)]) (ea_cons (ed_var (i := 10) rfl hvh14) ea_nil) (fun _ _ _ h => h) ⟨_, m, rfl, told1, by rw [hLm]⟩) ea_nil)) (by show 2 ≤ sizeLine; decide)) (.inl ⟨_, rfl⟩))
            (e_repr nQ2 (by decide) (by decide) (ed_lst (ea_cons (ed_var (i := 12) rfl hvd) (ea_cons (ed_var (i := 12) rfl hvd) ea_nil)) (by show 2 ≤ sizeLine; decide)) (.inl ⟨_, rfl⟩))) (fun z => nomatch z) fun _ H15 e15 => ?_
          have lw15 := lw14.ex e15
          have hvl15 := hvl14.ex e15
          have hvc15 := hvc14.ex e15
          have hvd15 := hvd.ex e15
          -- wide
          refine s_set (N := fun a => a = b) lw15.nok (d := .int (maxI ((rows : Int) :: L.map endO))) (ed_cb (ea_cons (ed_op (a := .list [.int rows]) (b := .list ((L.map endO).map .int)) (ed_lst (ea_cons (ed_var (i := 3) rfl (.int _)) ea_nil) (by show 1 ≤ sizeLine; decide)) ((ed_lsL (fun _ => true) (fun d => .int (endO (ofD d))) (ed_var (i := 8) rfl hvl15) lzL (fun _ => rfl) ?_).is (congrArg PyData.list (kept_map PyData.int endO _ (fun _ => rfl) L))) (r_addL ?_)) ea_nil) (rc_maxL (ns := (rows : Int) :: L.map endO) (by simp))) fun vw H16 e16 hvw => ?_
          · intro x hx N5 H5 v5 l5 n5 hv5
            obtain ⟨p, hp, rfl⟩ := mem_map' hx
            have ep : EvD N5 (tVar 9) (blkSt [some (.ref sa), some (.int k), some (.ref b), some (.int rows), some va, some vf, some (.int turn), some vs, some vl, x9, some vh, some vc, some vd, x13, x14, x15, x16, x17, x18, x19, x20, x21] [9] 9 v5) H5 (spD p) := ed_var (i := 9) rfl hv5
            exact ⟨eb_yes, fun _ => ed_op (e_first ep) (e_many ep) r_add⟩
          · rw [List.length_map, List.length_map, sizeLine_eq]
            show 1 + L.length ≤ _
            omega
          obtain rfl := hvw.int_inv
          obtain ⟨wI, hwI⟩ : ∃ wI, wI = maxI ((rows : Int) :: L.map endO) := ⟨_, rfl⟩
          rw [← hwI]
          have hw1 : (rows : Int) ≤ wI := by rw [hwI]; exact le_maxI List.mem_cons_self
          have hw2 : ∀ s ∈ L, endO s ≤ wI := fun s hs => by rw [hwI]; exact le_maxI (List.mem_cons_of_mem _ (List.mem_map.mpr ⟨s, hs, rfl⟩))
          obtain ⟨wn, hwn⟩ : ∃ wn : Nat, (wn : Int) = wI := ⟨wI.toNat, by omega⟩
          rw [← hwn] at hw1 hw2 ⊢
          have lw16 := lw15.ex e16
          have hvl16 := hvl15.ex e16
          have hvc16 := hvc15.ex e16
          have hvd16 := hvd15.ex e16
          refine s_if (N := fun a => a = b) (x := false) lw16.nok ((eb_and (x := isNone (firstD (firstX L))) (y := decide ((wn : Int) < 6) && (isNone (quarrelD L) != !(choices L wn).isEmpty)) (eb_test (ed_op (ed_var (i := 11) rfl hvc16) ed_non r_isN)) fun hc => eb_and (eb_test (ed_op (ed_var (i := 14) rfl (.int _)) ed_int r_lt)) fun hw => eb_test (ed_op (ed_op (ed_var (i := 12) rfl hvd16) ed_non r_isN) (ed_op (ed_call (ea_cons (ed_var (i := 8) rfl hvl16) (ea_cons (ed_var (i := 14) rfl (.int _)) ea_nil)) ⟨L, wn, rfl, hsL, by omega, by omega, by have := of_decide_eq_true hw; omega, rfl⟩) (ed_lst ea_nil (Nat.zero_le _)) r_neNilT) r_neB)).is ?_) (fun z => nomatch z) fun _ H17 e17 => ?_
          · cases ef : firstX L with
            | some p => rfl
            | none =>
              by_cases hw : (wn : Int) < 6
              · have hch := M.choice L wn hsL hLd ef hw2 (by omega) (by omega)
                rw [hch]
                simp
              · rw [decide_eq_false hw]; rfl
          have lw17 := lw16.ex e17
          have hvl17 := hvl16.ex e17
          have hvd17 := hvd16.ex e17
          refine s_forS (N := fun a => a = b) (d := .list ((if isNone (quarrelD L) = true then L else []).map spD)) (fun H0 i σ1 H18 => (∃ x9 x15 x16 x17 x18 x19 x20, σ1 = [some (.ref sa), some (.int k), some (.ref b), some (.int rows), some va, some vf, some (.int turn), some vs, some vl, x9, some vh, some vc, some vd, x13, some (.int wn), x15, x16, x17, x18, x19, x20, x21]) ∧ Ex H0 H18)
            (ed_if (x := isNone (quarrelD L)) (eb_test (ed_op (ed_var (i := 12) rfl hvd17) ed_non r_isN)) (fun ex => (ed_var (i := 8) rfl hvl17).is (by rw [if_pos ex])) fun ex => (ed_lst ea_nil (Nat.zero_le _)).is (by rw [ex]; rfl)) (.inl rfl) lw17.nok (fun H18 e18 => ⟨⟨_, _, _, _, _, _, _, rfl⟩, Ex.rfl'⟩) (fun H0 e0 i σ1 H18 h => .of h.2) (fun H0' e0' i x vx σ1 H18 hx hP hvx => ?_) fun H0' e0' σ1 H18 hP => ?_
          · obtain ⟨⟨x9, x15, x16, x17, x18, x19, x20, rfl⟩, e18⟩ := hP
            obtain ⟨s, hs, rfl⟩ := map_get hx
            have hsm : s ∈ L := by
              have := List.mem_of_getElem? hs
              split at this
              · exact this
              · simp at this
            have hss := hsL s hsm
            have lw18 := lw17.ex (e0'.trans e18)
            have hvl18 := (hvl17.ex e0').ex e18
            have lp : (parts L s).length ≤ 9 := by have := parts_len L s; omega
            have lzp : ((parts L s).map spD).length ≤ sizeLine := by rw [List.length_map, sizeLine_eq]; omega
            have a2 : EvA (fun a => a = b) (tCons (tVar 8) (tCons (tVar 9) tNil)) [some (.ref sa), some (.int k), some (.ref b), some (.int rows), some va, some vf, some (.int turn), some vs, some vl, some vx, some vh, some vc, some vd, x13, some (.int wn), x15, x16, x17, x18, x19, x20, x21] H18 [.list (L.map spD), spD s] := ea_cons (ed_var (i := 8) rfl hvl18) (ea_cons (ed_var (i := 9) rfl hvx) ea_nil)
            refine s_par (N := fun a => a = b) lw18.nok (a := .list ((parts L s).map spD)) (b := .tuple ((restRows L s).map .int)) (ea_cons (ed_call a2 ⟨L, s, _, rfl, .inl rfl, by omega, rfl⟩) (ea_cons (ed_cb (ea_cons (ed_call a2 ⟨L, s, rfl, hgL, by omega, hss.good, rfl⟩) ea_nil) rc_tupleL) ea_nil)) fun vp vr H19 e19 hvp hvr => ?_
            have lw19 := lw18.ex e19
            have hvx19 := hvx.ex e19
            have lst15 : ∀ (g : Span → Int) (te : TE) (y16 y17 y18 y19 y20 : Option V) (H' : Hp), Ex H19 H' → (∀ (N5 : Addr → Prop) (H5 : Hp) (v5 : V) (p : Span), DN N5 H5 v5 (spD p) → EvD N5 te (blkSt [some (.ref sa), some (.int k), some (.ref b), some (.int rows), some va, some vf, some (.int turn), some vs, some vl, some vx, some vh, some vc, some vd, x13, some (.int wn), some vp, y16, y17, y18, y19, y20, x21] [18] 18 v5) H5 (.int (g p))) →
                EvD (fun a => a = b) (tLc (iSeq K (tVar 15)) (gName 18) tYes te [18]) [some (.ref sa), some (.int k), some (.ref b), some (.int rows), some va, some vf, some (.int turn), some vs, some vl, some vx, some vh, some vc, some vd, x13, some (.int wn), some vp, y16, y17, y18, y19, y20, x21] H' (.list (((parts L s).map g).map .int)) := by
              intro g te y16 y17 y18 y19 y20 H' e' ht
              refine (ed_lsL (fun _ => true) (fun d => .int (g (ofD d))) (ed_var (i := 15) rfl (hvp.ex e')) lzp (fun _ => rfl) ?_).is (congrArg PyData.list (kept_map PyData.int g _ (fun _ => rfl) (parts L s)))
              intro x hx N5 H5 v5 l5 n5 hv5
              obtain ⟨p, hp, rfl⟩ := mem_map' hx
              exact ⟨eb_yes, fun _ => ht N5 H5 v5 p hv5⟩
            refine s_set (N := fun a => a = b) lw19.nok (d := .int (restSum L s)) (ed_op (e_sum (ed_var (i := 9) rfl hvx19)) (ed_cb (ea_cons (lst15 (·.sum) _ _ _ _ _ _ H19 Ex.rfl' fun N5 H5 v5 p hv5 => e_sum (ed_var (i := 18) rfl hv5)) ea_nil) rc_sumL) r_sub) fun vt H20 e20 hvt => ?_
            have lw20 := lw19.ex e20
            have hvx20 := hvx19.ex e20
            refine s_par (N := fun a => a = b) lw20.nok (a := .bool (needsLow L s)) (b := .bool (needsHigh L s)) (ea_cons ((ed_op (e_low (ed_var (i := 9) rfl hvx20)) (lst15 (·.low) _ _ _ _ _ _ H20 e20 fun N5 H5 v5 p hv5 => e_low (ed_var (i := 18) rfl hv5)) r_notin).is (congrArg PyData.bool (needs_low L s))) (ea_cons ((ed_op (e_high (ed_var (i := 9) rfl hvx20)) (lst15 (·.high) _ _ _ _ _ _ H20 e20 fun N5 H5 v5 p hv5 => e_high (ed_var (i := 18) rfl hv5)) r_notin).is (congrArg PyData.bool (needs_high L s))) ea_nil)) fun vlo vhi H21 e21 hvlo hvhi => ?_
            have lw21 := lw20.ex e21
            have hvx21 := hvx20.ex e21
            have hvl21 := ((hvl18.ex e19).ex e20).ex e21
            have nR2 := nice_two (nice_rest hsL hLl hss)
            have toldL : ∀ {d : PyData}, isSeqD d (L.map spD) → Told d L := fun hd => Told.of hgL (by omega) hd
            refine s_ifL (N := fun a => a = b) (x := false) lw21.nok (eb_sameText (x := (PyData.list [restD L s, restD L s]).shown) (e_repr nR2 (by decide) (by decide) (ed_lst (ea_cons (ed_call (ea_cons (ed_var (i := 8) rfl hvl21) (ea_cons (ed_var (i := 9) rfl hvx21) ea_nil)) ⟨_, L, s, rfl, toldL (.inl rfl), hss.good, by rw [hLi]⟩) (ea_cons (ed_callK (as' := [.tuple (L.map spD), spD s]) (ea_cons (ed_var (i := 9) rfl hvx21) (ea_cons (ed_cb (ea_cons (ed_var (i := 8) rfl hvl21) ea_nil) rc_tupleL) ea_nil)) (fun _ _ vs h => gv2 vs h) ⟨_, L, s, rfl, toldL (.inr rfl), hss.good, by rw [hLi]⟩) ea_nil)) (by show 2 ≤ sizeLine; decide)) (.inl ⟨_, rfl⟩))
              (e_repr nR2 (by decide) (by decide) (ed_op (ed_lst (ea_cons (ed_tup (ea_cons (ed_var (i := 16) rfl ((hvr.ex e20).ex e21)) (ea_cons (ed_var (i := 17) rfl (hvt.ex e21)) (ea_cons (ed_var (i := 19) rfl hvlo) (ea_cons (ed_var (i := 20) rfl hvhi) ea_nil)))) (by show 4 ≤ sizeLine; decide)) ea_nil) (by show 1 ≤ sizeLine; decide)) ed_int (r_repL (k := 2) (by decide) (by show 1 ≤ 1000; decide))) (.inl ⟨_, rfl⟩))) (fun z => nomatch z) fun _ H22 e22 => ?_
            exact ⟨⟨_, _, _, _, _, _, _, rfl⟩, (((e18.trans e19).trans e20).trans e21).trans e22⟩
          · obtain ⟨⟨x9, x15, x16, x17, x18, x19, x20, rfl⟩, e18⟩ := hP
            have e1318 := (((e14.trans e15).trans e16).trans e17).trans (e0'.trans e18)
            exact ⟨⟨_, _, _, _, _, _, _, _, _, _, _, _, _, _, _, _, rfl⟩, lw13.ex e1318, hva13.ex e1318, hvf13.ex e1318⟩
        · refine s_if (N := fun a => a = b) (x := isNone (dueD L)) lw13.nok (eb_test (ed_op (ed_var (i := 12) rfl hvd) ed_non r_isN)) (fun ex H14 e14 => ?_) fun ex H14 e14 => ?_
          · have ef : firstX L = none := by
              cases ef : firstX L with
              | none => rfl
              | some p => unfold dueD at ex; rw [ef] at ex; cases ex
            have eflt : L.filter (unfitL L) = L.filter fun s => !isFit L s := List.filter_congr fun s hs => M.unfit L s hsL (hsL s hs)
            refine s_set (N := fun a => a = b) (lw13.ex e14).nok (d := .list ((L.filter fun s => !isFit L s).map spD)) ((ed_lsL (fun d => unfitL L (ofD d)) id (ed_var (i := 8) rfl (hvl13.ex e14)) lzL (fun _ => rfl) ?_).is (congrArg PyData.list ((kept_spans (unfitL L) _ (fun s => rfl) L).trans (congrArg (List.map spD) eflt)))) fun vu H15 e15 hvu => ?_
            · intro x hx N5 H5 v5 l5 n5 hv5
              obtain ⟨p, hp, rfl⟩ := mem_map' hx
              exact ⟨eb_B (ed_call (ea_cons (ed_var (i := 8) rfl ((hvl13.ex e14).le l5)) (ea_cons (ed_var (i := 9) rfl hv5) ea_nil)) ⟨L, p, rfl, hsL, by omega, hsL p hp, rfl⟩), fun _ => ed_var (i := 9) rfl hv5⟩
            have eq0 : quarrelD L = match L.filter fun s => !isFit L s with
              | s :: _ => .tuple [.str "unfit", spD s]
              | [] => .none := by
              unfold quarrelD
              rw [ef] <;> (generalize (L.filter fun s => !isFit L s) = z; cases z <;> rfl)
            refine s_set1 (N := fun a => a = b) ((lw13.ex e14).ex e15).nok (d := quarrelD L) ?_ fun vd' H16 e16 hvd' => J2 _ _ ⟨⟨_, _, rfl, hvd'⟩, (e14.trans e15).trans e16⟩
            rw [eq0]
            revert hvu
            generalize (L.filter fun s => !isFit L s) = un
            intro hvu
            refine ed_if (x := !un.isEmpty) (eb_test (ed_op (ed_var (i := 13) rfl hvu) (ed_lst ea_nil (Nat.zero_le _)) r_neNil)) (fun e => ?_) fun e => ?_
            · cases un with
              | nil => cases e
              | cons s r => exact ed_tup (ea_cons ed_str (ea_cons (ed_op (ed_var (i := 13) rfl hvu) ed_int (r_ixL (atI_nat (i := 0) rfl))) ea_nil)) (by show 2 ≤ sizeLine; decide)
            · cases un with
              | nil => exact ed_non
              | cons s r => cases e
          · have eq0 : quarrelD L = dueD L := by
              unfold quarrelD dueD
              cases ef : firstX L with
              | some p => rfl
              | none => unfold dueD at ex; rw [ef] at ex; cases ex
            exact J2 _ _ ⟨⟨_, _, rfl, by rw [eq0]; exact hvd.ex e14⟩, e14⟩
      · refine eb_test (ed_op (ed_var (i := 6) rfl (.int _)) ed_int r_gt) (fun a => a = b) H6 Le.refl lw6.nok _ fun H7 e7 => ?_
        have lw7 := lw6.ex e7
        generalize decide ((0 : Int) < (turn : Int)) = cnd
        cases cnd with
        | true => exact iteT (x_bent (N := fun a => a = b) (i := 2) rfl rfl lw7.nok lw7.box (ed_var (i := 5) rfl (hvf6.ex e7)) htiny hFl fun u m H8 hsm hml sb8 hu => J u H8 ⟨m, hsm, hml, lw7.sb sb8, (hva6.ex e7).kp (sb8.kp rfl), (hvf6.ex e7).kp (sb8.kp rfl), hu⟩)
        | false => exact iteF ⟨vf, rfl, J vf H7 ⟨F, hsmall, hFl, lw7, hva6.ex e7, hvf6.ex e7, hvf6.ex e7⟩⟩
    · obtain ⟨⟨x6, x7, x8, x9, x10, x11, x12, x13, x14, x15, x16, x17, x18, x19, x20, x21, rfl⟩, lw6, hva6, hvf6⟩ := hP
      -- an odd value is refused
      refine s_set (N := fun a => a = b) lw6.nok (d := .list oddA) (ed_lst (ea_cons (ed_lst (ea_cons (ed_tup (ea_cons ed_int (ea_cons ed_int (ea_cons ed_int (ea_cons ed_int (ea_cons ed_int ea_nil))))) (by show 5 ≤ sizeLine; decide)) ea_nil) (by show 1 ≤ sizeLine; decide)) (ea_cons (ed_lst (ea_cons (ed_tup (ea_cons (ed_op ed_int ed_int r_sub) (ea_cons ed_int (ea_cons ed_int (ea_cons ed_int (ea_cons ed_int ea_nil))))) (by show 5 ≤ sizeLine; decide)) ea_nil) (by show 1 ≤ sizeLine; decide)) (ea_cons (ed_lst (ea_cons (ed_tup (ea_cons ed_int (ea_cons ed_int (ea_cons ed_non (ea_cons ed_int (ea_cons ed_int ea_nil))))) (by show 5 ≤ sizeLine; decide)) ea_nil) (by show 1 ≤ sizeLine; decide)) (ea_cons (ed_lst (ea_cons (ed_tup (ea_cons ed_bl (ea_cons ed_int (ea_cons ed_int (ea_cons ed_int (ea_cons ed_int ea_nil))))) (by show 5 ≤ sizeLine; decide)) ea_nil) (by show 1 ≤ sizeLine; decide)) ea_nil)))) (by show 4 ≤ sizeLine; decide)) fun vo H7 e7 hvo => ?_
      have lw7 := lw6.ex e7
      refine s_raw (x_pick2 (N := fun a => a = b) (i := 2) (ds := oddL) rfl rfl lw7.nok lw7.box (ed_op (ed_var (i := 7) rfl hvo) (ed_lst (ea_cons ed_non (ea_cons ed_int (ea_cons ed_str (ea_cons (ed_lst (ea_cons ed_non ea_nil) (by show 1 ≤ sizeLine; decide)) (ea_cons (ed_lst (ea_cons (ed_tup (ea_cons ed_int (ea_cons ed_int (ea_cons ed_int (ea_cons ed_int ea_nil)))) (by show 4 ≤ sizeLine; decide)) ea_nil) (by show 1 ≤ sizeLine; decide)) ea_nil))))) (by show 5 ≤ sizeLine; decide)) (r_addL (by show 9 ≤ sizeLine; decide))) (by decide) (by decide) fun u d H8 hd sb8 hu => ?_)
      have lw8 := lw7.sb sb8
      have fin : ∀ (σ' : L2.St) (H' : Hp), (∃ x1 x2 x3 x4 x5 x6 x7 x8 x9 x10 x11 x12 x13 x14 x15 x16 x17 x18 x19 x20 x21, σ' = [some (.ref sa), x1, x2, x3, x4, x5, x6, x7, x8, x9, x10, x11, x12, x13, x14, x15, x16, x17, x18, x19, x20, x21]) → LW (lawT Pt) b Hs H' → (∃ x1 x2 x3 x4 x5 x6 x7 x8 x9 x10 x11 x12 x13 x14 x15 x16 x17 x18 x19 x20 x21, σ' = [some (.ref sa), x1, x2, x3, x4, x5, x6, x7, x8, x9, x10, x11, x12, x13, x14, x15, x16, x17, x18, x19, x20, x21]) ∧ SqL K H' sa (ns.map V.int) ∧ LamX.Tabs (lawT Pt) H' := fun σ' H' h lw => ⟨h, sqL_to hSs nb lw.kt, lw.tabs⟩
      refine x_refuse (d := d) rfl lw8 hd hu fun H9 lw9 hu9 => iteF ?_
      refine x_refuse (d := d) rfl lw9 hd hu9 fun H10 lw10 hu10 => iteF ?_
      exact fin _ H10 ⟨_, _, _, _, _, _, _, _, _, _, _, _, _, _, _, _, _, _, _, _, _, rfl⟩ lw10
  · obtain ⟨⟨x1, x2, x3, x4, x5, x6, x7, x8, x9, x10, x11, x12, x13, x14, x15, x16, x17, x18, x19, x20, x21, rfl⟩, hS1, hT1⟩ := hP
    dsimp only
    refine s_ret (N := N0) nok0 (d := .bool true) ((ed_op (ed_call (ea_cons (ed_tup ea_nil (Nat.zero_le _)) ea_nil) ⟨.tuple [], [], rfl, Told.of (by simp) (by simp) (.inr rfl), rfl⟩) ed_non r_isN).is (congrArg PyData.bool (by decide +kernel))) fun u H2 e2 hu => hu.bl_inv
end
end K14
/-! K14Math1 -/
set_option Elab.async false
set_option linter.all false
set_option maxRecDepth 100000
set_option maxHeartbeats 4000000
/-! Plain: sums of so many values; fit by sums is fit by trying all. -/
namespace K14
open PySem PySem.Spec PyProof.Rows L2
theorem mem_allT : ∀ {n : Nat} {lo : Int} {k : Nat} {v : List Int}, v ∈ allT n lo k ↔ v.length = n ∧ ∀ x ∈ v, lo ≤ x ∧ x < lo + k
  | 0, lo, k, v => by
    show v ∈ [[]] ↔ _
    rw [List.mem_singleton]
    constructor
    · rintro rfl; exact ⟨rfl, by simp⟩
    · rintro ⟨h, _⟩; exact List.eq_nil_of_length_eq_zero h
  | n + 1, lo, k, v => by
    show v ∈ (allT n lo k).flatMap _ ↔ _
    rw [List.mem_flatMap]
    constructor
    · rintro ⟨u, hu, h⟩
      obtain ⟨x, hx, rfl⟩ := List.mem_map.mp h
      obtain ⟨h1, h2⟩ := mem_allT.mp hu
      have := mem_upTo.mp hx
      refine ⟨by rw [List.length_append, h1]; rfl, fun y hy => ?_⟩
      rcases List.mem_append.mp hy with hy | hy
      · exact h2 y hy
      · rw [List.mem_singleton.mp hy]; exact this
    · rintro ⟨h1, h2⟩
      have hne : v ≠ [] := fun z => by rw [z] at h1; simp at h1
      have e := List.dropLast_concat_getLast hne
      refine ⟨v.dropLast, mem_allT.mpr ⟨by rw [List.length_dropLast, h1]; rfl, fun x hx => h2 x (by rw [← e]; exact List.mem_append_left _ hx)⟩, ?_⟩
      exact List.mem_map.mpr ⟨v.getLast hne, mem_upTo.mpr (h2 _ (List.getLast_mem hne)), e⟩
theorem sum_app (a b : List Int) : (a ++ b).sum = a.sum + b.sum := List.sum_append
theorem sum_bounds {lo hi : Int} : ∀ {v : List Int}, (∀ x ∈ v, lo ≤ x ∧ x ≤ hi) → (v.length : Int) * lo ≤ v.sum ∧ v.sum ≤ (v.length : Int) * hi
  | [], _ => by simp
  | x :: r, h => by
    have h1 := h x List.mem_cons_self
    have h2 := sum_bounds (v := r) fun y hy => h y (List.mem_cons_of_mem _ hy)
    rw [List.sum_cons, List.length_cons]
    have e1 : ((r.length + 1 : Nat) : Int) * lo = (r.length : Int) * lo + lo := by rw [Int.natCast_add, Int.add_mul]; simp
    have e2 : ((r.length + 1 : Nat) : Int) * hi = (r.length : Int) * hi + hi := by rw [Int.natCast_add, Int.add_mul]; simp
    omega
theorem sums_all {lo hi : Int} (hlh : lo ≤ hi) : ∀ (m : Nat) (t : Int), (m : Int) * lo ≤ t → t ≤ (m : Int) * hi → ∃ v : List Int, v.length = m ∧ (∀ x ∈ v, lo ≤ x ∧ x ≤ hi) ∧ v.sum = t
  | 0, t, h1, h2 => ⟨[], rfl, by simp, by simp at h1 h2; simp; omega⟩
  | m + 1, t, h1, h2 => by
    have e1 : ((m + 1 : Nat) : Int) * lo = (m : Int) * lo + lo := by rw [Int.natCast_add, Int.add_mul]; simp
    have e2 : ((m + 1 : Nat) : Int) * hi = (m : Int) * hi + hi := by rw [Int.natCast_add, Int.add_mul]; simp
    rw [e1] at h1
    rw [e2] at h2
    have hm : (m : Int) * lo ≤ (m : Int) * hi := Int.mul_le_mul_of_nonneg_left hlh (by omega)
    by_cases hc : t - lo ≤ (m : Int) * hi
    · obtain ⟨v, a, b, c⟩ := sums_all hlh m (t - lo) (by omega) hc
      refine ⟨lo :: v, by rw [List.length_cons, a], fun x hx => ?_, by rw [List.sum_cons, c]; omega⟩
      rcases List.mem_cons.mp hx with rfl | hx
      · exact ⟨Int.le_refl _, hlh⟩
      · exact b x hx
    · obtain ⟨v, a, b, c⟩ := sums_all hlh m ((m : Int) * hi) hm (Int.le_refl _)
      refine ⟨(t - (m : Int) * hi) :: v, by rw [List.length_cons, a], fun x hx => ?_, by rw [List.sum_cons, c]; omega⟩
      rcases List.mem_cons.mp hx with rfl | hx
      · omega
      · exact b x hx
/-- one known item taken out -/
theorem sum_one {lo hi y : Int} {v : List Int} (h : ∀ x ∈ v, lo ≤ x ∧ x ≤ hi) (hy : y ∈ v) : ∃ u : List Int, u.length + 1 = v.length ∧ (∀ x ∈ u, lo ≤ x ∧ x ≤ hi) ∧ v.sum = y + u.sum ∧ ∀ z ∈ v, z ≠ y → z ∈ u := by
  obtain ⟨a, b, rfl⟩ := List.append_of_mem hy
  refine ⟨a ++ b, by simp; omega, fun x hx => h x ?_, by rw [sum_app, sum_app, List.sum_cons]; omega, fun z hz hn => ?_⟩
  · rcases List.mem_append.mp hx with hx | hx
    · exact List.mem_append_left _ hx
    · exact List.mem_append_right _ (List.mem_cons_of_mem _ hx)
  · rcases List.mem_append.mp hz with hz | hz
    · exact List.mem_append_left _ hz
    · rcases List.mem_cons.mp hz with rfl | hz
      · exact absurd rfl hn
      · exact List.mem_append_right _ hz
def low_base (lo hi : Int) (nl nh : Bool) : Int := lo * b2i nl + hi * b2i nh
/-- so many values between lo and hi, lo and hi among them where they must, with the given sum -/
def CanBe (n : Nat) (total lo hi : Int) (nl nh : Bool) : Prop := ∃ v : List Int, v.length = n ∧ (∀ x ∈ v, lo ≤ x ∧ x ≤ hi) ∧ v.sum = total ∧ (nl = true → lo ∈ v) ∧ (nh = true → hi ∈ v)
theorem canSum_iff {n : Nat} {total lo hi : Int} {nl nh : Bool} (hlh : lo ≤ hi) : canSum n total lo hi nl nh = true ↔ CanBe n total lo hi nl nh := by
  unfold canSum sumSpan
  by_cases e : lo = hi
  · subst e
    rw [if_pos rfl]
    by_cases c : (0 : Int) < n ∨ (nl = false ∧ nh = false)
    · rw [if_pos c]
      show (decide ((n : Int) * lo ≤ total) && decide (total ≤ (n : Int) * lo)) = true ↔ _
      rw [Bool.and_eq_true, decide_eq_true_eq, decide_eq_true_eq]
      constructor
      · rintro ⟨h1, h2⟩
        obtain ⟨v, a, b, d⟩ := sums_all hlh n total h1 h2
        refine ⟨v, a, b, d, fun hl => ?_, fun hl => ?_⟩
        · have hp : 0 < n := by rcases c with c | c; omega; rw [c.1] at hl; cases hl
          cases v with
          | nil => simp at a; omega
          | cons x r =>
            have := b x List.mem_cons_self
            have : x = lo := by omega
            rw [this]; exact List.mem_cons_self
        · have hp : 0 < n := by rcases c with c | c; omega; rw [c.2] at hl; cases hl
          cases v with
          | nil => simp at a; omega
          | cons x r =>
            have := b x List.mem_cons_self
            have : x = lo := by omega
            rw [this]; exact List.mem_cons_self
      · rintro ⟨v, a, b, d, _, _⟩
        have := sum_bounds b
        rw [a, d] at this
        exact this
    · rw [if_neg c]
      show false = true ↔ _
      constructor
      · intro z; cases z
      · rintro ⟨v, a, b, d, hl, hh⟩
        have hn : n = 0 := by
          by_cases z : n = 0
          · exact z
          · exact absurd (.inl (by omega)) c
        rw [hn] at a
        have hv := List.eq_nil_of_length_eq_zero a
        subst hv
        cases nl with
        | true => exact absurd (hl rfl) (by simp)
        | false =>
          cases nh with
          | true => exact absurd (hh rfl) (by simp)
          | false => exact absurd (.inr ⟨rfl, rfl⟩) c
  · rw [if_neg e]
    have hlt : lo < hi := by omega
    -- what the forced ones leave
    have key : ∀ (m : Nat) (base : Int), (decide (base + (m : Int) * lo ≤ total) && decide (total ≤ base + (m : Int) * hi)) = true ↔ ∃ u : List Int, u.length = m ∧ (∀ x ∈ u, lo ≤ x ∧ x ≤ hi) ∧ base + u.sum = total := by
      intro m base
      rw [Bool.and_eq_true, decide_eq_true_eq, decide_eq_true_eq]
      constructor
      · rintro ⟨h1, h2⟩
        obtain ⟨v, a, b, d⟩ := sums_all hlh m (total - base) (by omega) (by omega)
        exact ⟨v, a, b, by omega⟩
      · rintro ⟨u, a, b, d⟩
        have := sum_bounds b
        rw [a] at this
        omega
    have red : ∀ (k : Nat) (base : Int), b2i nl + b2i nh = (k : Int) → low_base lo hi nl nh = base → ((match (if (n : Int) < b2i nl + b2i nh then none else some (lo * b2i nl + hi * b2i nh + ((n : Int) - (b2i nl + b2i nh)) * lo, lo * b2i nl + hi * b2i nh + ((n : Int) - (b2i nl + b2i nh)) * hi)) with
        | none => false
        | some p => decide (p.1 ≤ total) && decide (total ≤ p.2)) = true ↔ k ≤ n ∧ ∃ u : List Int, u.length = n - k ∧ (∀ x ∈ u, lo ≤ x ∧ x ≤ hi) ∧ base + u.sum = total) := by
      intro k base hk hb
      rw [hk]
      by_cases c : (n : Int) < k
      · rw [if_pos c]
        constructor
        · intro z; cases z
        · rintro ⟨z, _⟩; omega
      · rw [if_neg c]
        have e1 : (n : Int) - k = ((n - k : Nat) : Int) := by omega
        dsimp only
        rw [e1, show lo * b2i nl + hi * b2i nh = base from hb, key]
        exact ⟨fun h => ⟨by omega, h⟩, fun h => h.2⟩
    cases nl with
    | false =>
      cases nh with
      | false =>
        refine (red 0 0 rfl (by simp [low_base, b2i])).trans ?_
        constructor
        · rintro ⟨_, u, a, b, d⟩
          exact ⟨u, a, b, by omega, (fun z => nomatch z), (fun z => nomatch z)⟩
        · rintro ⟨v, a, b, d, _, _⟩
          exact ⟨Nat.zero_le _, v, a, b, by omega⟩
      | true =>
        refine (red 1 hi rfl (by simp [low_base, b2i])).trans ?_
        constructor
        · rintro ⟨h1, u, a, b, d⟩
          refine ⟨hi :: u, by rw [List.length_cons, a]; omega, fun x hx => ?_, by rw [List.sum_cons]; exact d, (fun z => nomatch z), fun _ => List.mem_cons_self⟩
          rcases List.mem_cons.mp hx with rfl | hx
          · exact ⟨hlh, Int.le_refl _⟩
          · exact b x hx
        · rintro ⟨v, a, b, d, _, hh⟩
          obtain ⟨u, u1, u2, u3, _⟩ := sum_one b (hh rfl)
          exact ⟨by omega, u, by omega, u2, by omega⟩
    | true =>
      cases nh with
      | false =>
        refine (red 1 lo rfl (by simp [low_base, b2i])).trans ?_
        constructor
        · rintro ⟨h1, u, a, b, d⟩
          refine ⟨lo :: u, by rw [List.length_cons, a]; omega, fun x hx => ?_, by rw [List.sum_cons]; exact d, (fun _ => List.mem_cons_self), fun z => nomatch z⟩
          rcases List.mem_cons.mp hx with rfl | hx
          · exact ⟨Int.le_refl _, hlh⟩
          · exact b x hx
        · rintro ⟨v, a, b, d, hl, _⟩
          obtain ⟨u, u1, u2, u3, _⟩ := sum_one b (hl rfl)
          exact ⟨by omega, u, by omega, u2, by omega⟩
      | true =>
        refine (red 2 (lo + hi) rfl (by simp [low_base, b2i])).trans ?_
        constructor
        · rintro ⟨h1, u, a, b, d⟩
          refine ⟨lo :: hi :: u, by rw [List.length_cons, List.length_cons, a]; omega, fun x hx => ?_, by rw [List.sum_cons, List.sum_cons]; omega, (fun _ => List.mem_cons_self), fun _ => List.mem_cons_of_mem _ List.mem_cons_self⟩
          rcases List.mem_cons.mp hx with rfl | hx
          · exact ⟨Int.le_refl _, hlh⟩
          · rcases List.mem_cons.mp hx with rfl | hx
            · exact ⟨hlh, Int.le_refl _⟩
            · exact b x hx
        · rintro ⟨v, a, b, d, hl, hh⟩
          obtain ⟨u, u1, u2, u3, u4⟩ := sum_one b (hl rfl)
          obtain ⟨t, t1, t2, t3, _⟩ := sum_one u2 (u4 hi (hh rfl) (by omega))
          exact ⟨by omega, t, by omega, t2, by omega⟩
end K14
/-! K14Math2 -/
set_option Elab.async false
set_option linter.all false
set_option maxRecDepth 100000
set_option maxHeartbeats 4000000
/-! Plain: fit by sums is fit by trying all; rows split over parts and rest. -/
namespace K14
open PySem PySem.Spec PyProof.Rows L2
theorem min_is {l : List Int} {m : Int} (h : l ≠ []) (hl : ∀ x ∈ l, m ≤ x) : minI l = m ↔ m ∈ l :=
  ⟨fun e => e ▸ minI_mem h, fun hm => minI_eq hm hl⟩
theorem max_is {l : List Int} {m : Int} (h : l ≠ []) (hl : ∀ x ∈ l, x ≤ m) : maxI l = m ↔ m ∈ l :=
  ⟨fun e => e ▸ maxI_mem h, fun hm => maxI_eq hm hl⟩
theorem needsLow_iff (l : List Span) (s : Span) : needsLow l s = true ↔ s.low ∉ (parts l s).map (·.low) := by
  rw [← needs_low, Bool.not_eq_true', decide_eq_false_iff_not]
theorem needsHigh_iff (l : List Span) (s : Span) : needsHigh l s = true ↔ s.high ∉ (parts l s).map (·.high) := by
  rw [← needs_high, Bool.not_eq_true', decide_eq_false_iff_not]
theorem goodRest_iff {l : List Span} {s : Span} (hp : partsIn l s = true) {v : List Int} (hv : ∀ x ∈ v, s.low ≤ x ∧ x ≤ s.high) (hne : ∀ g : Span → Int, (parts l s).map g ++ v ≠ []) :
    goodRest l s v = true ↔ v.sum = restSum l s ∧ (needsLow l s = true → s.low ∈ v) ∧ (needsHigh l s = true → s.high ∈ v) := by
  have hpp : ∀ p ∈ parts l s, s.low ≤ p.low ∧ p.high ≤ s.high := by
    intro p h
    unfold partsIn at hp
    have := List.all_eq_true.mp hp p h
    simpa using this
  have m1 := min_is (m := s.low) (hne (·.low)) (fun x hx => by
    rcases List.mem_append.mp hx with hx | hx
    · obtain ⟨p, h, rfl⟩ := List.mem_map.mp hx
      exact (hpp p h).1
    · exact (hv x hx).1)
  have m2 := max_is (m := s.high) (hne (·.high)) (fun x hx => by
    rcases List.mem_append.mp hx with hx | hx
    · obtain ⟨p, h, rfl⟩ := List.mem_map.mp hx
      exact (hpp p h).2
    · exact (hv x hx).2)
  unfold goodRest restSum
  rw [Bool.and_eq_true, Bool.and_eq_true, decide_eq_true_eq, decide_eq_true_eq, decide_eq_true_eq, m1, m2, List.mem_append, List.mem_append, needsLow_iff, needsHigh_iff]
  constructor
  · rintro ⟨h1, h2, h3⟩
    exact ⟨by omega, fun n => h2.resolve_left n, fun n => h3.resolve_left n⟩
  · rintro ⟨h1, h2, h3⟩
    exact ⟨by omega, Classical.or_iff_not_imp_left.mpr h2, Classical.or_iff_not_imp_left.mpr h3⟩
theorem inRange_lh {s : Span} (h : inRange s = true) : s.low ≤ s.high := by
  unfold inRange at h
  simp only [Bool.and_eq_true, decide_eq_true_eq] at h
  exact h.2.1
/-- fit: in range, the parts in it, the rest can be -/
theorem isFit_iff {l : List Span} {s : Span} : isFit l s = true ↔ inRange s = true ∧ partsIn l s = true ∧ CanBe (restRows l s).length (restSum l s) s.low s.high (needsLow l s) (needsHigh l s) := by
  unfold isFit
  rw [Bool.and_eq_true, Bool.and_eq_true]
  constructor
  · rintro ⟨h1, h2, h3⟩
    exact ⟨h1, h2, (canSum_iff (inRange_lh h1)).mp h3⟩
  · rintro ⟨h1, h2, h3⟩
    exact ⟨h1, h2, (canSum_iff (inRange_lh h1)).mpr h3⟩
theorem unfit_law (l : List Span) (s : Span) (hs : Small s) : unfitL l s = !isFit l s := by
  unfold unfitL
  cases h1 : inRange s with
  | false => unfold isFit; rw [h1]; rfl
  | true =>
    cases h2 : partsIn l s with
    | false => unfold isFit; rw [h1, h2]; rfl
    | true =>
      have hlh := inRange_lh h1
      have hk : ((s.high + 1 - s.low).toNat : Int) = s.high + 1 - s.low := by omega
      have key : ((allT (restRows l s).length s.low (s.high + 1 - s.low).toNat).any (goodRest l s)) = isFit l s := by
        rw [Bool.eq_iff_iff, isFit_iff, List.any_eq_true]
        have hne : ∀ (v : List Int), v.length = (restRows l s).length → ∀ g : Span → Int, (parts l s).map g ++ v ≠ [] := by
          intro v hv g z
          rw [List.append_eq_nil_iff, List.map_eq_nil_iff] at z
          have z1 := rest_nil z.1
          rw [z.2] at hv
          have := hs.m0
          rw [z1] at hv
          simp at hv
          omega
        constructor
        · rintro ⟨v, hv, hg⟩
          obtain ⟨a, b⟩ := mem_allT.mp hv
          have hb : ∀ x ∈ v, s.low ≤ x ∧ x ≤ s.high := fun x hx => by have := b x hx; omega
          obtain ⟨g1, g2, g3⟩ := (goodRest_iff h2 hb (hne v a)).mp hg
          exact ⟨h1, h2, v, a, hb, g1, g2, g3⟩
        · rintro ⟨_, _, v, a, hb, g1, g2, g3⟩
          exact ⟨v, mem_allT.mpr ⟨a, fun x hx => by have := hb x hx; omega⟩, (goodRest_iff h2 hb (hne v a)).mpr ⟨g1, g2, g3⟩⟩
      rw [key]
      rfl
/-! rows -/
def Rows (s : Span) : List Int := upTo s.first s.many.toNat
theorem mem_Rows {s : Span} (h : 1 ≤ s.many) {r : Int} : r ∈ Rows s ↔ s.first ≤ r ∧ r < endO s := by
  unfold Rows endO
  rw [mem_upTo]
  omega
theorem upTo_app (lo : Int) (n m : Nat) : upTo lo (n + m) = upTo lo n ++ upTo (lo + n) m := by
  unfold upTo
  rw [List.range_add, List.map_append, List.map_map]
  congr 1
  refine List.map_congr_left fun i _ => ?_
  show lo + ((n + i : Nat) : Int) = lo + n + i
  omega
theorem filter_none {q : Int → Bool} {X : List Int} (h : ∀ x ∈ X, q x = false) : X.filter q = [] := List.filter_eq_nil_iff.mpr fun x hx => by rw [h x hx]; exact Bool.false_ne_true
theorem filter_mid (a c : Int) (n m : Nat) (h1 : a ≤ c) (h2 : c + m ≤ a + n) : (upTo a n).filter (fun r => decide (c ≤ r) && decide (r < c + m)) = upTo c m := by
  obtain ⟨p, hp⟩ : ∃ p : Nat, c = a + p := ⟨(c - a).toNat, by omega⟩
  obtain ⟨q, hq⟩ : ∃ q : Nat, n = p + (m + q) := ⟨n - p - m, by omega⟩
  subst hp hq
  rw [upTo_app, upTo_app, List.filter_append, List.filter_append]
  rw [filter_none (X := upTo a p) (fun x hx => by
    have := mem_upTo.mp hx
    rw [Bool.and_eq_false_iff]
    exact .inl (decide_eq_false (by omega)))]
  rw [filter_none (X := upTo (a + p + m) q) (fun x hx => by
    have := mem_upTo.mp hx
    rw [Bool.and_eq_false_iff]
    exact .inr (decide_eq_false (by omega)))]
  rw [List.nil_append, List.append_nil, List.filter_eq_self]
  intro x hx
  have := mem_upTo.mp hx
  rw [Bool.and_eq_true, decide_eq_true_eq, decide_eq_true_eq]
  omega
theorem sum_split (f : Int → Int) (q : Int → Bool) : ∀ X : List Int, (X.map f).sum = ((X.filter q).map f).sum + ((X.filter fun r => !q r).map f).sum
  | [] => rfl
  | x :: r => by
    have ih := sum_split f q r
    cases h : q x with
    | true =>
      rw [List.filter_cons_of_pos h, List.filter_cons_of_neg (by rw [h]; decide), List.map_cons, List.map_cons, List.sum_cons, List.sum_cons, ih]
      omega
    | false =>
      rw [List.filter_cons_of_neg (by rw [h]; decide), List.filter_cons_of_pos (by rw [h]; rfl), List.map_cons, List.map_cons, List.sum_cons, List.sum_cons, ih]
      omega
def inP (p : Span) (r : Int) : Bool := decide (p.first ≤ r) && decide (r < endO p)
theorem inP_iff {p : Span} {r : Int} : inP p r = true ↔ p.first ≤ r ∧ r < endO p := by
  unfold inP
  rw [Bool.and_eq_true, decide_eq_true_eq, decide_eq_true_eq]
theorem sum_parts (f : Int → Int) (a : Int) (n : Nat) : ∀ ps : List Span, (∀ p ∈ ps, a ≤ p.first ∧ 1 ≤ p.many ∧ endO p ≤ a + n) → ps.Pairwise (fun p q => isApart p q = true) →
    ((upTo a n).map f).sum = (ps.map fun p => ((Rows p).map f).sum).sum + (((upTo a n).filter fun r => !(ps.any fun p => inP p r)).map f).sum
  | [], _, _ => by
    rw [List.map_nil, List.sum_nil, Int.zero_add]
    congr 2
    exact (List.filter_eq_self.mpr fun _ _ => rfl).symm
  | p :: r, hin, hd => by
    rw [List.pairwise_cons] at hd
    have ih := sum_parts f a n r (fun x hx => hin x (List.mem_cons_of_mem _ hx)) hd.2
    have hp := hin p List.mem_cons_self
    rw [ih, List.map_cons, List.sum_cons]
    have sp := sum_split f (inP p) ((upTo a n).filter fun x => !(r.any fun p => inP p x))
    rw [List.filter_filter, List.filter_filter] at sp
    have e1 : (upTo a n).filter (fun x => inP p x && !(r.any fun p => inP p x)) = Rows p := by
      have e2 : (upTo a n).filter (fun x => inP p x && !(r.any fun p => inP p x)) = (upTo a n).filter (fun x => decide (p.first ≤ x) && decide (x < p.first + (p.many.toNat : Nat))) := by
        refine List.filter_congr fun x _ => ?_
        have e3 : inP p x = (decide (p.first ≤ x) && decide (x < p.first + (p.many.toNat : Nat))) := by
          unfold inP endO
          rw [show ((p.many.toNat : Nat) : Int) = p.many by omega]
        rw [← e3]
        cases h : inP p x with
        | false => rfl
        | true =>
          rw [Bool.true_and, Bool.not_eq_true', List.any_eq_false]
          intro t ht z
          have h1 := inP_iff.mp h
          have h2 := inP_iff.mp z
          have h3 := hd.1 t ht
          unfold isApart at h3
          rw [Bool.or_eq_true, decide_eq_true_eq, decide_eq_true_eq] at h3
          omega
      rw [e2, filter_mid a p.first n p.many.toNat hp.1 (by have := hp.2.2; unfold endO at this; omega)]
      rfl
    have e4 : (upTo a n).filter (fun x => (!inP p x) && !(r.any fun p => inP p x)) = (upTo a n).filter fun x => !((p :: r).any fun p => inP p x) := by
      refine List.filter_congr fun x _ => ?_
      rw [List.any_cons, Bool.not_or]
    rw [e1, e4] at sp
    omega
end K14
/-! K14Math3 -/
set_option Elab.async false
set_option linter.all false
set_option maxRecDepth 100000
set_option maxHeartbeats 4000000
/-! Plain: spans that do not cross; values that fit all; each is fit. -/
namespace K14
open PySem PySem.Spec PyProof.Rows L2
structure Lam (l : List Span) : Prop where
  nd : l.Nodup
  nc : ∀ a ∈ l, ∀ b ∈ l, a ≠ b → crossB a b = false
  pos : ∀ a ∈ l, 1 ≤ a.many
theorem crossB_comm (a b : Span) : crossB a b = crossB b a := by
  unfold crossB isApart
  rw [Bool.or_comm (decide (endO a ≤ b.first))]
  cases ins a b <;> cases ins b a <;> rfl
theorem firstX_none : ∀ {l : List Span}, firstX l = none ↔ l.Pairwise fun a b => crossB a b = false
  | [] => ⟨fun _ => .nil, fun _ => rfl⟩
  | a :: r => by
    rw [List.pairwise_cons, ← firstX_none (l := r)]
    cases e : r.find? (crossB a) with
    | some b =>
      have hx : firstX (a :: r) = some (a, b) := by
        show (match r.find? (crossB a) with
          | some b => some (a, b)
          | none => firstX r) = _
        rw [e]
      rw [hx]
      constructor
      · intro z; cases z
      · rintro ⟨h, _⟩
        have h1 := List.find?_some e
        rw [h b (List.mem_of_find?_eq_some e)] at h1
        cases h1
    | none =>
      have hx : firstX (a :: r) = firstX r := by
        show (match r.find? (crossB a) with
          | some b => some (a, b)
          | none => firstX r) = _
        rw [e]
      rw [hx]
      constructor
      · intro h
        refine ⟨fun b hb => ?_, h⟩
        have := List.find?_eq_none.mp e b hb
        simpa using this
      · exact fun h => h.2
theorem pair_all {R : Span → Span → Prop} (hs : ∀ a b, R a b → R b a) : ∀ {l : List Span}, l.Pairwise R → ∀ a ∈ l, ∀ b ∈ l, a ≠ b → R a b
  | [], _, a, ha, _, _, _ => by simp at ha
  | x :: r, h, a, ha, b, hb, n => by
    rw [List.pairwise_cons] at h
    rcases List.mem_cons.mp ha with ea | ha1
    · rcases List.mem_cons.mp hb with eb | hb1
      · exact absurd (ea.trans eb.symm) n
      · rw [ea]; exact h.1 b hb1
    · rcases List.mem_cons.mp hb with eb | hb1
      · rw [eb]; exact hs _ _ (h.1 a ha1)
      · exact pair_all hs h.2 a ha1 b hb1 n
theorem lam_of {l : List Span} (nd : l.Nodup) (h : firstX l = none) (pos : ∀ a ∈ l, 1 ≤ a.many) : Lam l :=
  ⟨nd, pair_all (fun a b h => by rw [crossB_comm]; exact h) (firstX_none.mp h), pos⟩
theorem ins_iff {a b : Span} : ins a b = true ↔ b.first ≤ a.first ∧ endO a ≤ endO b := by
  unfold ins
  rw [Bool.and_eq_true, decide_eq_true_eq, decide_eq_true_eq]
theorem ins_trans {a b c : Span} (h1 : ins a b = true) (h2 : ins b c = true) : ins a c = true := by
  rw [ins_iff] at *
  omega
section
variable {l : List Span} {s t p q : Span}
theorem Lam.tri (L : Lam l) (ha : s ∈ l) (hb : t ∈ l) (n : s ≠ t) : isApart s t = true ∨ (ins s t = true ∧ ins t s = false) ∨ (ins t s = true ∧ ins s t = false) := by
  have h := L.nc s ha t hb n
  unfold crossB at h
  cases h1 : isApart s t with
  | true => exact .inl rfl
  | false =>
    rw [h1] at h
    cases h2 : ins s t <;> cases h3 : ins t s <;> rw [h2, h3] at h <;> first | exact .inr (.inl ⟨rfl, rfl⟩) | exact .inr (.inr ⟨rfl, rfl⟩) | cases h
theorem mem_inside : t ∈ inside l s ↔ t ∈ l ∧ t ≠ s ∧ ins t s = true := by
  unfold inside
  rw [List.mem_filter, Bool.and_eq_true, decide_eq_true_eq]
theorem mem_parts : p ∈ parts l s ↔ p ∈ inside l s ∧ ∀ t ∈ inside l s, t ≠ p → ins p t = false := by
  unfold parts
  rw [List.mem_filter, Bool.not_eq_true', List.any_eq_false]
  refine and_congr_right fun _ => forall_congr' fun t => imp_congr_right fun _ => ?_
  rw [Bool.and_eq_true, decide_eq_true_eq, not_and, Bool.not_eq_true]
theorem apart_no {r : Int} (h : isApart s t = true) (h1 : s.first ≤ r ∧ r < endO s) (h2 : t.first ≤ r ∧ r < endO t) : False := by
  unfold isApart at h
  rw [Bool.or_eq_true, decide_eq_true_eq, decide_eq_true_eq] at h
  omega
theorem ins_smaller (L : Lam l) (hs : s ∈ l) (ht : t ∈ l) (n : t ≠ s) (h : ins t s = true) : t.many < s.many := by
  rcases L.tri ht hs n with z | z | z
  · have h1 := L.pos t ht
    rw [ins_iff] at h
    unfold endO at h
    exact (apart_no (r := t.first) z ⟨Int.le_refl _, by unfold endO; omega⟩ ⟨h.1, by unfold endO; omega⟩).elim
  · have z2 := z.2
    have : ¬ (t.first ≤ s.first ∧ endO s ≤ endO t) := fun y => by rw [ins_iff.mpr y] at z2; cases z2
    rw [ins_iff] at h
    unfold endO at h this
    omega
  · rw [z.2] at h; cases h
theorem under_part (L : Lam l) (hs : s ∈ l) : ∀ (k : Nat) (t : Span), t ∈ inside l s → (s.many - t.many).toNat ≤ k → ∃ p ∈ parts l s, ins t p = true
  | 0, t, ht, hk => by
    have h := mem_inside.mp ht
    have := ins_smaller L hs h.1 h.2.1 h.2.2
    omega
  | k + 1, t, ht, hk => by
    have h := mem_inside.mp ht
    by_cases c : ∀ u ∈ inside l s, u ≠ t → ins t u = false
    · exact ⟨t, mem_parts.mpr ⟨ht, c⟩, ins_iff.mpr ⟨Int.le_refl _, Int.le_refl _⟩⟩
    · obtain ⟨u, c⟩ := Classical.not_forall.mp c
      obtain ⟨hu, c⟩ := Classical.not_imp.mp c
      obtain ⟨hn, c⟩ := Classical.not_imp.mp c
      have c : ins t u = true := by simpa using c
      have hul := (mem_inside.mp hu).1
      have := ins_smaller L hul h.1 hn.symm c
      obtain ⟨p, hp, h2⟩ := under_part L hs k u hu (by omega)
      exact ⟨p, hp, ins_trans c h2⟩
theorem part_in (hp : p ∈ parts l s) : p ∈ l ∧ p ≠ s ∧ ins p s = true := mem_inside.mp (mem_parts.mp hp).1
theorem parts_apart (L : Lam l) (hp : p ∈ parts l s) (hq : q ∈ parts l s) (n : p ≠ q) : isApart p q = true := by
  have h1 := (mem_parts.mp hp).2 q (mem_parts.mp hq).1 n.symm
  have h2 := (mem_parts.mp hq).2 p (mem_parts.mp hp).1 n
  rcases L.tri (part_in hp).1 (part_in hq).1 n with z | z | z
  · exact z
  · rw [z.1] at h1; cases h1
  · rw [z.1] at h2; cases h2
theorem parts_nodup (L : Lam l) : (parts l s).Nodup := (L.nd.filter _).filter _
theorem parts_pair (L : Lam l) : (parts l s).Pairwise fun p q => isApart p q = true :=
  List.Pairwise.imp_of_mem (fun {a b} ha hb n => parts_apart L ha hb n) (parts_nodup L)
theorem restRows_eq : restRows l s = (upTo s.first s.many.toNat).filter fun r => !((parts l s).any fun p => inP p r) := rfl
theorem mem_rest' (hm : 1 ≤ s.many) {r : Int} : r ∈ restRows l s ↔ (s.first ≤ r ∧ r < endO s) ∧ ∀ p ∈ parts l s, ¬ (p.first ≤ r ∧ r < endO p) := by
  rw [restRows_eq, List.mem_filter, show upTo s.first s.many.toNat = Rows s from rfl, mem_Rows hm, Bool.not_eq_true', List.any_eq_false]
  refine and_congr_right fun _ => forall_congr' fun p => imp_congr_right fun _ => ?_
  rw [inP_iff]
/-- each row lies in the rest of one span at most -/
theorem rest_one (L : Lam l) (hs : s ∈ l) (ht : t ∈ l) {r : Int} (h1 : r ∈ restRows l s) (h2 : r ∈ restRows l t) : s = t := by
  by_cases n : s = t
  · exact n
  exfalso
  have a1 := (mem_rest' (L.pos s hs)).mp h1
  have a2 := (mem_rest' (L.pos t ht)).mp h2
  have go : ∀ {s t : Span}, s ∈ l → t ∈ l → s ≠ t → ins t s = true → (t.first ≤ r ∧ r < endO t) → (∀ p ∈ parts l s, ¬ (p.first ≤ r ∧ r < endO p)) → False := by
    intro s t hs ht n hi b1 b2
    obtain ⟨p, hp, h⟩ := under_part L hs _ t (mem_inside.mpr ⟨ht, n.symm, hi⟩) (Nat.le_refl _)
    rw [ins_iff] at h
    exact b2 p hp (by omega)
  rcases L.tri hs ht n with z | z | z
  · exact apart_no z a1.1 a2.1
  · exact go ht hs (fun e => n e.symm) z.1 a1.1 a2.2
  · exact go hs ht n z.1 a2.1 a1.2
end
/-- the values f fit the span -/
structure FitF (f : Int → Int) (s : Span) : Prop where
  sum : ((Rows s).map f).sum = s.sum
  bnd : ∀ r, s.first ≤ r → r < endO s → s.low ≤ f r ∧ f r ≤ s.high
  low : ∃ r, (s.first ≤ r ∧ r < endO s) ∧ f r = s.low
  high : ∃ r, (s.first ≤ r ∧ r < endO s) ∧ f r = s.high
theorem rows_sum {l : List Span} {s : Span} (L : Lam l) (hs : s ∈ l) (f : Int → Int) : ((Rows s).map f).sum = ((parts l s).map fun p => ((Rows p).map f).sum).sum + ((restRows l s).map f).sum := by
  have h := sum_parts f s.first s.many.toNat (parts l s) (fun p hp => by
    obtain ⟨h1, h2, h3⟩ := part_in hp
    rw [ins_iff] at h3
    have := L.pos s hs
    unfold endO at h3 ⊢
    exact ⟨h3.1, L.pos p h1, by omega⟩) (parts_pair L)
  exact h
theorem map_sum_congr {f g : Span → Int} : ∀ {m : List Span}, (∀ p ∈ m, f p = g p) → (m.map f).sum = (m.map g).sum
  | [], _ => rfl
  | p :: r, h => by rw [List.map_cons, List.map_cons, List.sum_cons, List.sum_cons, h p List.mem_cons_self, map_sum_congr fun q hq => h q (List.mem_cons_of_mem _ hq)]
/-- values that fit all: each is fit -/
theorem sound {l : List Span} (L : Lam l) (hsm : ∀ s ∈ l, Small s) {f : Int → Int} (hf : ∀ s ∈ l, FitF f s) {s : Span} (hs : s ∈ l) : isFit l s = true := by
  have F := hf s hs
  have ss := hsm s hs
  have inside_row : ∀ p ∈ parts l s, ∀ r, p.first ≤ r ∧ r < endO p → s.first ≤ r ∧ r < endO s := by
    intro p hp r hr
    have h := (part_in hp).2.2
    rw [ins_iff] at h
    omega
  rw [isFit_iff]
  refine ⟨?_, ?_, (restRows l s).map f, by rw [List.length_map], ?_, ?_, ?_, ?_⟩
  · obtain ⟨r, hr, e⟩ := F.low
    have := F.bnd r hr.1 hr.2
    have := ss.l0; have := ss.h1
    unfold inRange
    rw [Bool.and_eq_true, Bool.and_eq_true, decide_eq_true_eq, decide_eq_true_eq, decide_eq_true_eq]
    omega
  · unfold partsIn
    rw [List.all_eq_true]
    intro p hp
    have Fp := hf p (part_in hp).1
    obtain ⟨r1, hr1, e1⟩ := Fp.low
    obtain ⟨r2, hr2, e2⟩ := Fp.high
    have b1 := F.bnd r1 (inside_row p hp r1 hr1).1 (inside_row p hp r1 hr1).2
    have b2 := F.bnd r2 (inside_row p hp r2 hr2).1 (inside_row p hp r2 hr2).2
    rw [Bool.and_eq_true, decide_eq_true_eq, decide_eq_true_eq]
    omega
  · intro x hx
    obtain ⟨r, hr, rfl⟩ := List.mem_map.mp hx
    have h := ((mem_rest' (L.pos s hs)).mp hr).1
    exact F.bnd r h.1 h.2
  · have h := rows_sum L hs f
    rw [F.sum, map_sum_congr (g := fun p => p.sum) fun p hp => (hf p (part_in hp).1).sum] at h
    unfold restSum
    omega
  · intro hn
    obtain ⟨r, hr, e⟩ := F.low
    rw [List.mem_map]
    refine ⟨r, (mem_rest' (L.pos s hs)).mpr ⟨hr, fun p hp hrp => ?_⟩, e⟩
    have Fp := hf p (part_in hp).1
    have b := Fp.bnd r hrp.1 hrp.2
    obtain ⟨r1, hr1, e1⟩ := Fp.low
    have b1 := F.bnd r1 (inside_row p hp r1 hr1).1 (inside_row p hp r1 hr1).2
    exact (needsLow_iff l s).mp hn (List.mem_map.mpr ⟨p, hp, by omega⟩)
  · intro hn
    obtain ⟨r, hr, e⟩ := F.high
    rw [List.mem_map]
    refine ⟨r, (mem_rest' (L.pos s hs)).mpr ⟨hr, fun p hp hrp => ?_⟩, e⟩
    have Fp := hf p (part_in hp).1
    have b := Fp.bnd r hrp.1 hrp.2
    obtain ⟨r1, hr1, e1⟩ := Fp.high
    have b1 := F.bnd r1 (inside_row p hp r1 hr1).1 (inside_row p hp r1 hr1).2
    exact (needsHigh_iff l s).mp hn (List.mem_map.mpr ⟨p, hp, by omega⟩)
end K14
/-! K14Math4 -/
set_option Elab.async false
set_option linter.all false
set_option maxRecDepth 100000
set_option maxHeartbeats 4000000
/-! Plain: where each is fit, some values fit all; the law's plain facts. -/
namespace K14
open PySem PySem.Spec PyProof.Rows L2
theorem zip_back : ∀ {xs ys : List Int}, xs.Nodup → xs.length = ys.length → xs.map (fun x => ((xs.zip ys).lookup x).getD 0) = ys
  | [], [], _, _ => rfl
  | [], _ :: _, _, h => by simp at h
  | _ :: _, [], _, h => by simp at h
  | x :: xs, y :: ys, hn, hl => by
    rw [List.nodup_cons] at hn
    have ih := zip_back (xs := xs) (ys := ys) hn.2 (by simpa using hl)
    rw [List.map_cons]
    congr 1
    · simp [List.lookup]
    · rw [← ih]
      refine List.map_congr_left fun z hz => ?_
      have ne : (z == x) = false := by
        simp
        intro e
        exact hn.1 (e ▸ hz)
      simp only [List.zip_cons_cons, List.lookup, ne]
      rw [ih]
theorem nodup_upTo (lo : Int) (n : Nat) : (upTo lo n).Nodup := by
  unfold upTo
  refine List.Pairwise.map _ (fun a b h => ?_) (List.nodup_range (n := n))
  intro e
  exact h (by omega)
/-- where each is fit, some values fit all; where no span is, they are as one likes -/
theorem complete {l : List Span} (L : Lam l) (hfit : ∀ s ∈ l, isFit l s = true) (c : Int) : ∃ f : Int → Int, (∀ s ∈ l, FitF f s) ∧ ∀ r, (∀ s ∈ l, ¬ (s.first ≤ r ∧ r < endO s)) → f r = c := by
  have hv : ∀ s : Span, ∃ v : List Int, s ∈ l → inRange s = true ∧ partsIn l s = true ∧ v.length = (restRows l s).length ∧ (∀ x ∈ v, s.low ≤ x ∧ x ≤ s.high) ∧ v.sum = restSum l s ∧ (needsLow l s = true → s.low ∈ v) ∧ (needsHigh l s = true → s.high ∈ v) := by
    intro s
    by_cases hs : s ∈ l
    · obtain ⟨h1, h2, v, h3⟩ := isFit_iff.mp (hfit s hs)
      exact ⟨v, fun _ => ⟨h1, h2, h3⟩⟩
    · exact ⟨[], fun z => absurd z hs⟩
  let V : Span → List Int := fun s => (hv s).choose
  have hV : ∀ s ∈ l, inRange s = true ∧ partsIn l s = true ∧ (V s).length = (restRows l s).length ∧ (∀ x ∈ V s, s.low ≤ x ∧ x ≤ s.high) ∧ (V s).sum = restSum l s ∧ (needsLow l s = true → s.low ∈ V s) ∧ (needsHigh l s = true → s.high ∈ V s) := fun s hs => (hv s).choose_spec hs
  let f : Int → Int := fun r => match l.find? (fun s => decide (r ∈ restRows l s)) with
    | some s => (((restRows l s).zip (V s)).lookup r).getD 0
    | none => c
  have fr : ∀ s ∈ l, ∀ r ∈ restRows l s, f r = (((restRows l s).zip (V s)).lookup r).getD 0 := by
    intro s hs r hr
    show (match l.find? (fun s => decide (r ∈ restRows l s)) with
      | some s => (((restRows l s).zip (V s)).lookup r).getD 0
      | none => c) = _
    cases e : l.find? (fun s => decide (r ∈ restRows l s)) with
    | none =>
      have := List.find?_eq_none.mp e s hs
      rw [decide_eq_true hr] at this
      exact absurd rfl this
    | some t =>
      have h1 : r ∈ restRows l t := of_decide_eq_true (List.find?_some (p := fun s => decide (r ∈ restRows l s)) e)
      have h2 := List.mem_of_find?_eq_some e
      have h3 := rest_one L hs h2 hr h1
      rw [h3]
  have fV : ∀ s ∈ l, (restRows l s).map f = V s := by
    intro s hs
    have h1 : (restRows l s).map f = (restRows l s).map fun r => (((restRows l s).zip (V s)).lookup r).getD 0 := List.map_congr_left fun r hr => fr s hs r hr
    rw [h1]
    exact zip_back ((nodup_upTo _ _).filter _) (hV s hs).2.2.1.symm
  have main : ∀ (k : Nat) (s : Span), s ∈ l → s.many.toNat ≤ k → FitF f s := by
    intro k
    induction k with
    | zero =>
      intro s hs hk
      have := L.pos s hs
      omega
    | succ k ih =>
      intro s hs hk
      obtain ⟨v1, v2, v3, v4, v5, v6, v7⟩ := hV s hs
      have hp : ∀ p ∈ parts l s, FitF f p := by
        intro p hp
        obtain ⟨h1, h2, h3⟩ := part_in hp
        have := ins_smaller L hs h1 h2 h3
        have := L.pos p h1
        exact ih p h1 (by omega)
      have hpp : ∀ p ∈ parts l s, s.low ≤ p.low ∧ p.high ≤ s.high := by
        intro p h
        unfold partsIn at v2
        have := List.all_eq_true.mp v2 p h
        simpa using this
      have inside_row : ∀ p ∈ parts l s, ∀ r, p.first ≤ r ∧ r < endO p → s.first ≤ r ∧ r < endO s := by
        intro p hp r hr
        have h := (part_in hp).2.2
        rw [ins_iff] at h
        omega
      have hm := L.pos s hs
      refine ⟨?_, fun r h1 h2 => ?_, ?_, ?_⟩
      · rw [rows_sum L hs f, fV s hs, v5, map_sum_congr (g := fun p => p.sum) fun p h => (hp p h).sum]
        unfold restSum
        omega
      · by_cases c : r ∈ restRows l s
        · have : f r ∈ V s := by rw [← fV s hs]; exact List.mem_map.mpr ⟨r, c, rfl⟩
          exact v4 _ this
        · rw [mem_rest' hm] at c
          obtain ⟨p, c⟩ := Classical.not_forall.mp (fun z => c ⟨⟨h1, h2⟩, z⟩)
          obtain ⟨hpm, c⟩ := Classical.not_imp.mp c
          have c := Classical.not_not.mp c
          have b := (hp p hpm).bnd r c.1 c.2
          have b2 := hpp p hpm
          omega
      · by_cases hn : needsLow l s = true
        · have h := v6 hn
          rw [← fV s hs] at h
          obtain ⟨r, hr, e⟩ := List.mem_map.mp h
          exact ⟨r, ((mem_rest' hm).mp hr).1, e⟩
        · rw [needsLow_iff, Classical.not_not] at hn
          obtain ⟨p, hpm, e⟩ := List.mem_map.mp hn
          obtain ⟨r, hr, e2⟩ := (hp p hpm).low
          exact ⟨r, inside_row p hpm r hr, e2.trans e⟩
      · by_cases hn : needsHigh l s = true
        · have h := v7 hn
          rw [← fV s hs] at h
          obtain ⟨r, hr, e⟩ := List.mem_map.mp h
          exact ⟨r, ((mem_rest' hm).mp hr).1, e⟩
        · rw [needsHigh_iff, Classical.not_not] at hn
          obtain ⟨p, hpm, e⟩ := List.mem_map.mp hn
          obtain ⟨r, hr, e2⟩ := (hp p hpm).high
          exact ⟨r, inside_row p hpm r hr, e2.trans e⟩
  refine ⟨f, fun s hs => main _ s hs (Nat.le_refl _), fun r hr => ?_⟩
  show (match l.find? (fun s => decide (r ∈ restRows l s)) with
    | some s => (((restRows l s).zip (V s)).lookup r).getD 0
    | none => c) = _
  cases e : l.find? (fun s => decide (r ∈ restRows l s)) with
  | none => rfl
  | some t =>
    have h1 : r ∈ restRows l t := of_decide_eq_true (List.find?_some (p := fun s => decide (r ∈ restRows l s)) e)
    have h2 := List.mem_of_find?_eq_some e
    exact absurd ((mem_rest' (L.pos t h2)).mp h1).1 (hr t h2)

/-! values in a row -/
theorem cut_rows (f : Int → Int) (w : Nat) {s : Span} (h0 : 0 ≤ s.first) (hm : 1 ≤ s.many) (he : endO s ≤ w) : cutI ((upTo 0 w).map f) s = (Rows s).map f := by
  unfold endO at he
  obtain ⟨q, hq⟩ : ∃ q : Nat, w = s.first.toNat + (s.many.toNat + q) := ⟨w - s.first.toNat - s.many.toNat, by omega⟩
  have e : upTo 0 w = upTo 0 s.first.toNat ++ (Rows s ++ upTo (s.first + s.many) q) := by
    rw [hq, upTo_app, upTo_app]
    have e1 : (0 : Int) + (s.first.toNat : Nat) = s.first := by omega
    have e2 : s.first + (s.many.toNat : Nat) = s.first + s.many := by omega
    rw [e1, e2]
    rfl
  unfold cutI
  rw [e, List.map_append, List.map_append, List.drop_left' (by rw [List.length_map, upTo_len]), List.take_left' (by rw [List.length_map]; unfold Rows; rw [upTo_len])]
theorem as_rows (vals : List Int) : vals = (upTo 0 vals.length).map fun r => vals.getD r.toNat 0 := by
  refine List.ext_getElem (by rw [List.length_map, upTo_len]) fun i h1 h2 => ?_
  rw [List.getElem_map]
  have e : (upTo 0 vals.length)[i]'(by rw [upTo_len]; exact h1) = (i : Int) := by
    unfold upTo
    rw [List.getElem_map, List.getElem_range]
    omega
  rw [e, Int.toNat_natCast, List.getD_eq_getElem?_getD, List.getElem?_eq_getElem h1]
  rfl
theorem fitsB_iff (f : Int → Int) (w : Nat) {s : Span} (h0 : 0 ≤ s.first) (hm : 1 ≤ s.many) (he : endO s ≤ w) : fitsB ((upTo 0 w).map f) s = true ↔ FitF f s := by
  unfold fitsB
  rw [cut_rows f w h0 hm he, Bool.and_eq_true, decide_eq_true_eq, decide_eq_true_eq]
  have hl : (((Rows s).map f).length : Int) = s.many := by
    rw [List.length_map]
    unfold Rows
    rw [upTo_len]
    omega
  have hne : (Rows s).map f ≠ [] := fun z => by
    rw [z] at hl
    simp at hl
    omega
  simp only [List.cons.injEq, and_true]
  constructor
  · rintro ⟨_, h1, h2, h3⟩
    have hb : ∀ r, s.first ≤ r → r < endO s → f r ∈ (Rows s).map f := fun r a b => List.mem_map.mpr ⟨r, (mem_Rows hm).mpr ⟨a, b⟩, rfl⟩
    have lo := minI_mem hne
    have hi := maxI_mem hne
    rw [h2] at lo
    rw [h3] at hi
    obtain ⟨r1, hr1, e1⟩ := List.mem_map.mp lo
    obtain ⟨r2, hr2, e2⟩ := List.mem_map.mp hi
    exact ⟨h1, fun r a b => ⟨h2 ▸ minI_le (hb r a b), h3 ▸ le_maxI (hb r a b)⟩, ⟨r1, (mem_Rows hm).mp hr1, e1⟩, ⟨r2, (mem_Rows hm).mp hr2, e2⟩⟩
  · intro F
    refine ⟨hl, F.sum, ?_, ?_⟩
    · obtain ⟨r, hr, e⟩ := F.low
      refine minI_eq (List.mem_map.mpr ⟨r, (mem_Rows hm).mpr hr, e⟩) fun y hy => ?_
      obtain ⟨r', hr', rfl⟩ := List.mem_map.mp hy
      have := (mem_Rows hm).mp hr'
      exact (F.bnd r' this.1 this.2).1
    · obtain ⟨r, hr, e⟩ := F.high
      refine maxI_eq (List.mem_map.mpr ⟨r, (mem_Rows hm).mpr hr, e⟩) fun y hy => ?_
      obtain ⟨r', hr', rfl⟩ := List.mem_map.mp hy
      have := (mem_Rows hm).mp hr'
      exact (F.bnd r' this.1 this.2).2
theorem none_unfit {l : List Span} (hx : firstX l = none) : isNone (quarrelD l) = true ↔ ∀ s ∈ l, isFit l s = true := by
  have e : quarrelD l = match l.filter fun s => !isFit l s with
    | s :: _ => .tuple [.str "unfit", spD s]
    | [] => .none := by
    unfold quarrelD
    rw [hx] <;> (generalize (l.filter fun s => !isFit l s) = z; cases z <;> rfl)
  rw [e]
  constructor
  · intro h s hs
    cases hf : isFit l s with
    | true => rfl
    | false =>
      have hm : s ∈ l.filter fun s => !isFit l s := List.mem_filter.mpr ⟨hs, by rw [hf]; rfl⟩
      cases z : l.filter fun s => !isFit l s with
      | nil => rw [z] at hm; simp at hm
      | cons a r => rw [z] at h; cases h
  · intro h
    have z : l.filter (fun s => !isFit l s) = [] := List.filter_eq_nil_iff.mpr fun s hs => by rw [h s hs]; decide
    rw [z]
    rfl
theorem law_choice (l : List Span) (wide : Nat) (hsm : ∀ s ∈ l, Small s) (nd : l.Nodup) (hx : firstX l = none) (hw : ∀ s ∈ l, endO s ≤ wide) : isNone (quarrelD l) = !(choices l wide).isEmpty := by
  have L : Lam l := lam_of nd hx fun s hs => (hsm s hs).m0
  cases hl : l.isEmpty with
  | true =>
    have : l = [] := List.isEmpty_iff.mp hl
    subst this
    rfl
  | false =>
    have hne : l ≠ [] := fun z => by rw [z] at hl; cases hl
    have hc : choices l wide = (allT wide (leastOf l) (mostOf l + 1 - leastOf l).toNat).filter fun v => l.all (fitsB v) := by
      unfold choices
      rw [hl, if_neg Bool.false_ne_true]
    rw [Bool.eq_iff_iff, none_unfit hx, hc, Bool.not_eq_true', ← Bool.not_eq_true, List.isEmpty_iff]
    have least : ∀ s ∈ l, leastOf l ≤ s.low := fun s hs => minI_le (List.mem_map.mpr ⟨s, hs, rfl⟩)
    have most : ∀ s ∈ l, s.high ≤ mostOf l := fun s hs => le_maxI (List.mem_map.mpr ⟨s, hs, rfl⟩)
    constructor
    · intro hfit z
      obtain ⟨f, hf, hfree⟩ := complete L hfit (leastOf l)
      obtain ⟨s0, hs0⟩ := List.exists_mem_of_ne_nil l hne
      have h0 := inRange_lh (isFit_iff.mp (hfit s0 hs0)).1
      have hlm : leastOf l ≤ mostOf l := by have := least s0 hs0; have := most s0 hs0; omega
      have hm : (upTo 0 wide).map f ∈ (allT wide (leastOf l) (mostOf l + 1 - leastOf l).toNat).filter fun v => l.all (fitsB v) := by
        refine List.mem_filter.mpr ⟨mem_allT.mpr ⟨by rw [List.length_map, upTo_len], fun x hx => ?_⟩, List.all_eq_true.mpr fun s hs => (fitsB_iff f wide (hsm s hs).f0 (hsm s hs).m0 (hw s hs)).mpr (hf s hs)⟩
        obtain ⟨r, _, rfl⟩ := List.mem_map.mp hx
        by_cases c : ∀ s ∈ l, ¬ (s.first ≤ r ∧ r < endO s)
        · rw [hfree r c]; omega
        · obtain ⟨s, c⟩ := Classical.not_forall.mp c
          obtain ⟨hs, c⟩ := Classical.not_imp.mp c
          have c := Classical.not_not.mp c
          have b := (hf s hs).bnd r c.1 c.2
          have := least s hs; have := most s hs
          omega
      rw [z] at hm
      simp at hm
    · intro h s hs
      obtain ⟨v, hv⟩ := List.exists_mem_of_ne_nil _ h
      obtain ⟨hv1, hv2⟩ := List.mem_filter.mp hv
      obtain ⟨hlen, _⟩ := mem_allT.mp hv1
      have ev := as_rows v
      rw [hlen] at ev
      refine sound L hsm (f := fun r => v.getD r.toNat 0) (fun t ht => ?_) hs
      have h1 := List.all_eq_true.mp hv2 t ht
      rw [ev] at h1
      exact (fitsB_iff _ wide (hsm t ht).f0 (hsm t ht).m0 (hw t ht)).mp h1
theorem cut_sum_b {v : List Int} (h : ∀ x ∈ v, -1 ≤ x ∧ x ≤ 3) (hl : v.length ≤ 5) : -50 ≤ v.sum ∧ v.sum ≤ 50 := by
  have := sum_bounds h
  omega
theorem law_start (rows : Nat) (vals : List Int) (F : List Span) (r1 : 1 ≤ rows) (r2 : rows ≤ 5) (hs : SpansOf rows vals F) : quarrelD (lineOf F) = .none ∧ F.all (fitsB vals) = true ∧ ∀ s ∈ F, Tiny s := by
  obtain ⟨S, inv⟩ := hs.inv
  have st : ∀ f ∈ F, ∃ a b, a < b ∧ b ≤ rows ∧ f = statS vals a b := inv.fs
  have cutl : ∀ {a b : Nat}, a < b → b ≤ rows → (cutN vals a b).length = b - a := by
    intro a b h1 h2
    unfold cutN
    rw [List.length_take, List.length_drop, hs.vlen]
    omega
  have cutm : ∀ {a b : Nat}, ∀ x ∈ cutN vals a b, -1 ≤ x ∧ x ≤ 3 := fun x hx => hs.vb x (List.mem_of_mem_drop (List.mem_of_mem_take hx))
  have tiny : ∀ s ∈ F, Tiny s := by
    intro s hs'
    obtain ⟨a, b, h1, h2, rfl⟩ := st s hs'
    have hne : cutN vals a b ≠ [] := fun z => by
      have := cutl h1 h2
      rw [z] at this
      simp at this
      omega
    have m1 := cutm _ (minI_mem hne)
    have m2 := cutm _ (maxI_mem hne)
    have m3 := cut_sum_b (cutm (a := a) (b := b)) (by rw [cutl h1 h2]; omega)
    unfold statS
    exact ⟨by dsimp only; omega, by dsimp only; omega, by dsimp only; omega, by dsimp only; omega, m1.1, m1.2, m2.1, m2.2, m3.1, m3.2⟩
  have fits : ∀ s ∈ F, fitsB vals s = true := by
    intro s hs'
    obtain ⟨a, b, h1, h2, rfl⟩ := st s hs'
    have ec : cutI vals (statS vals a b) = cutN vals a b := by
      show (vals.drop ((a : Nat) : Int).toNat).take ((b : Int) - a).toNat = (vals.drop a).take (b - a)
      rw [Int.toNat_natCast, show ((b : Int) - a).toNat = b - a by omega]
    unfold fitsB
    rw [ec, cutl h1 h2, Bool.and_eq_true, decide_eq_true_eq, decide_eq_true_eq]
    exact ⟨by show ((b - a : Nat) : Int) = (b : Int) - a; omega, rfl⟩
  refine ⟨?_, List.all_eq_true.mpr fits, tiny⟩
  have nd := nodup_lineOf F
  have hsm : ∀ s ∈ lineOf F, Small s := fun s h => (tiny s (mem_lineOf.mp h)).small
  have hx : firstX (lineOf F) = none := by
    rw [firstX_none]
    have pa := pair_all (R := fun a b => crossB a b = false) (fun a b h => by rw [crossB_comm]; exact h) inv.ff
    exact List.Pairwise.imp_of_mem (fun {a b} ha hb n => pa a (mem_lineOf.mp ha) b (mem_lineOf.mp hb) n) nd
  have L : Lam (lineOf F) := lam_of nd hx fun s h => (hsm s h).m0
  have ev := as_rows vals
  rw [hs.vlen] at ev
  have hall : ∀ s ∈ lineOf F, isFit (lineOf F) s = true := by
    intro s h
    refine sound L hsm (f := fun r => vals.getD r.toNat 0) (fun t ht => ?_) h
    have htF := mem_lineOf.mp ht
    have h1 := fits t htF
    rw [ev] at h1
    refine (fitsB_iff _ rows (hsm t ht).f0 (hsm t ht).m0 ?_).mp h1
    obtain ⟨a, b, h1, h2, rfl⟩ := st t htF
    rw [statS_end]
    omega
  have hn := (none_unfit hx).mpr hall
  revert hn
  generalize quarrelD (lineOf F) = d
  intro hn
  cases d <;> first | rfl | cases hn
theorem law_math : LawMath := ⟨fun l s _ hs => unfit_law l s hs, law_start, fun l wide h1 h2 h3 h4 _ _ => law_choice l wide h1 h2 h3 h4⟩
end K14
/-! K14EndA -/
set_option Elab.async false
set_option linter.all false
set_option maxRecDepth 100000
set_option maxHeartbeats 8000000
set_option pp.maxSteps 400
set_option pp.deepTerms false
/-! The law's context from what the top wrote; the law called at the head's heap. -/
namespace K14
open PySem PySem.Spec PyProof.Rows L2
/-- the top binds x to the def st -/
structure DefAt (K : PySem.W.Frag) (mg : Str → Option Value) (x : Str) (st : Stmt) : Prop where
  ex : ∃ (f : Addr) (fd : FuncData), Fun K x x st f fd ∧ mg x = some (.ref f)
section
variable {P : Program} {w : World} {K : PySem.W.Frag} {mg : Str → Option Value} {C fI cc Fa : Addr}
theorem def_at {h : Heap} {x : Str} {st : Stmt} (X : K.In h) (G : h.Ns mainGlobals mg) {f : Addr} {oc : Value} {od an : Option Addr} {osl : Array (Option Value)} {kV doc pm cdv ct : Value} (a : PySem.W.nsIn K mainGlobals x = some (some (.ref f)))
    (l : K.lookup f = some ⟨oc, od, .func (PySem.W.fnOf x x (defArgs st) (defBody st) (defScope st) .none kV doc pm an cdv ct), osl⟩) (c : PySem.W.codeIn K cdv x = true) (k : PySem.W.keepIn K (.ref f) = true) : DefAt K mg x st :=
  ⟨f, _, fun_mk l c k, PySem.W.mg_of X G a⟩
def g1 : List Value → List Value → List Value := fun us ws => match us with
  | [] => ws
  | _ :: _ => []
def g2 : List Value → List Value → List Value := fun us ws => match us, ws with
  | [], [a, b] => [b, a]
  | _, _ => []
theorem kb1 {x p : Str} {st : Stmt} {f : Addr} {fd : FuncData} (F : Fun K x x st f fd) (h : ∀ (kV doc pm : Value) (an : Option Addr) (cdv ct u : Value), bindArgs (PySem.W.fnOf x x (defArgs st) (defBody st) (defScope st) .none kV doc pm an cdv ct) ⟨[], [(p, u)]⟩ = pure [(p, u)]) : KBinds K fd [p] [p] g1 gV1 := by
  obtain ⟨oc, od, kV, doc, pm, an, cdv, ct, osl, rfl, lk, hcd⟩ := F.ex
  refine ⟨fun s us ws _ hl => ?_, fun r rz => ?_⟩
  · match us, ws, hl with
    | [], [u], _ => exact .of_eq (h kV doc pm an cdv ct u)
  · cases r with
    | nil => exact rz
    | cons _ _ => exact .nil
theorem kb2 {x p q : Str} {st : Stmt} {f : Addr} {fd : FuncData} (F : Fun K x x st f fd) (h : ∀ (kV doc pm : Value) (an : Option Addr) (cdv ct u v : Value), bindArgs (PySem.W.fnOf x x (defArgs st) (defBody st) (defScope st) .none kV doc pm an cdv ct) ⟨[], [(q, u), (p, v)]⟩ = pure [(p, v), (q, u)]) : KBinds K fd [p, q] [q, p] g2 gV2 := by
  obtain ⟨oc, od, kV, doc, pm, an, cdv, ct, osl, rfl, lk, hcd⟩ := F.ex
  refine ⟨fun s us ws _ hl => ?_, fun r rz => ?_⟩
  · match us, ws, hl with
    | [], [u, v], _ => exact .of_eq (h kV doc pm an cdv ct u v)
  · cases r with
    | cons _ _ => exact .nil
    | nil =>
      cases rz with
      | nil => exact .nil
      | cons h1 t1 =>
        cases t1 with
        | nil => exact .nil
        | cons h2 t2 =>
          cases t2 with
          | nil => exact .cons h2 (.cons h1 .nil)
          | cons _ _ => exact .nil
theorem law_ctx (T : Gl0 mg) (TR : PySem.RefX.RefTxt P K mg C fI cc) (far : mg "FarError" = some (.ref Fa)) (farK : PySem.W.kitCls K (.ref C) (.ref Fa) = some true) (farN : C ≠ Fa) (d_is_integer : DefAt K mg "is_integer" s_is_integer) (d_is_number : DefAt K mg "is_number" s_is_number) (d_is_sequence : DefAt K mg "is_sequence" s_is_sequence) (d_is_told_span : DefAt K mg "is_told_span" s_is_told_span) (d_end_of : DefAt K mg "end_of" s_end_of) (d_is_inside : DefAt K mg "is_inside" s_is_inside) (d_first_crossed : DefAt K mg "first_crossed" s_first_crossed) (d_parts_of : DefAt K mg "parts_of" s_parts_of) (d_check_told_spans : DefAt K mg "check_told_spans" s_check_told_spans) (d_sum_span : DefAt K mg "sum_span" s_sum_span) (d_can_sum : DefAt K mg "can_sum" s_can_sum) (d_rest_of : DefAt K mg "rest_of" s_rest_of) (d_is_fit : DefAt K mg "is_fit" s_is_fit) (d_span_quarrel : DefAt K mg "span_quarrel" s_span_quarrel) (d_l_in : DefAt K mg "_law_in" s_l_in) (d_l_crossed : DefAt K mg "_law_crossed" s_l_crossed) (d_l_parts : DefAt K mg "_law_parts" s_l_parts) (d_l_rest : DefAt K mg "_law_rest" s_l_rest) (d_l_all : DefAt K mg "_law_all" s_l_all) (d_l_fits : DefAt K mg "_law_fits" s_l_fits) (d_l_choices : DefAt K mg "_law_choices" s_l_choices) (d_l_unfit : DefAt K mg "_law_unfit" s_l_unfit) (d_l_box : DefAt K mg "_law_box" s_l_box) (d_l_take : DefAt K mg "_law_take" s_l_take) (d_l_pick : DefAt K mg "_law_pick" s_l_pick) (d_l_mixed : DefAt K mg "_law_mixed" s_l_mixed) (d_l_spans : DefAt K mg "_law_spans" s_l_spans) (d_l_bent : DefAt K mg "_law_bent" s_l_bent) (d_l_refused : DefAt K mg "_law_refused" s_l_refused) :
    ∃ gR, ∀ base : Heap, LawCtx P w K mg base C fI cc Fa gR := by
  obtain ⟨f_is_integer, t_is_integer, F_is_integer, m_is_integer⟩ := d_is_integer.ex
  obtain ⟨f_is_number, t_is_number, F_is_number, m_is_number⟩ := d_is_number.ex
  obtain ⟨f_is_sequence, t_is_sequence, F_is_sequence, m_is_sequence⟩ := d_is_sequence.ex
  obtain ⟨f_is_told_span, t_is_told_span, F_is_told_span, m_is_told_span⟩ := d_is_told_span.ex
  obtain ⟨f_end_of, t_end_of, F_end_of, m_end_of⟩ := d_end_of.ex
  obtain ⟨f_is_inside, t_is_inside, F_is_inside, m_is_inside⟩ := d_is_inside.ex
  obtain ⟨f_first_crossed, t_first_crossed, F_first_crossed, m_first_crossed⟩ := d_first_crossed.ex
  obtain ⟨f_parts_of, t_parts_of, F_parts_of, m_parts_of⟩ := d_parts_of.ex
  obtain ⟨f_check_told_spans, t_check_told_spans, F_check_told_spans, m_check_told_spans⟩ := d_check_told_spans.ex
  obtain ⟨f_sum_span, t_sum_span, F_sum_span, m_sum_span⟩ := d_sum_span.ex
  obtain ⟨f_can_sum, t_can_sum, F_can_sum, m_can_sum⟩ := d_can_sum.ex
  obtain ⟨f_rest_of, t_rest_of, F_rest_of, m_rest_of⟩ := d_rest_of.ex
  obtain ⟨f_is_fit, t_is_fit, F_is_fit, m_is_fit⟩ := d_is_fit.ex
  obtain ⟨f_span_quarrel, t_span_quarrel, F_span_quarrel, m_span_quarrel⟩ := d_span_quarrel.ex
  obtain ⟨f_l_in, t_l_in, F_l_in, m_l_in⟩ := d_l_in.ex
  obtain ⟨f_l_crossed, t_l_crossed, F_l_crossed, m_l_crossed⟩ := d_l_crossed.ex
  obtain ⟨f_l_parts, t_l_parts, F_l_parts, m_l_parts⟩ := d_l_parts.ex
  obtain ⟨f_l_rest, t_l_rest, F_l_rest, m_l_rest⟩ := d_l_rest.ex
  obtain ⟨f_l_all, t_l_all, F_l_all, m_l_all⟩ := d_l_all.ex
  obtain ⟨f_l_fits, t_l_fits, F_l_fits, m_l_fits⟩ := d_l_fits.ex
  obtain ⟨f_l_choices, t_l_choices, F_l_choices, m_l_choices⟩ := d_l_choices.ex
  obtain ⟨f_l_unfit, t_l_unfit, F_l_unfit, m_l_unfit⟩ := d_l_unfit.ex
  obtain ⟨f_l_box, t_l_box, F_l_box, m_l_box⟩ := d_l_box.ex
  obtain ⟨f_l_take, t_l_take, F_l_take, m_l_take⟩ := d_l_take.ex
  obtain ⟨f_l_pick, t_l_pick, F_l_pick, m_l_pick⟩ := d_l_pick.ex
  obtain ⟨f_l_mixed, t_l_mixed, F_l_mixed, m_l_mixed⟩ := d_l_mixed.ex
  obtain ⟨f_l_spans, t_l_spans, F_l_spans, m_l_spans⟩ := d_l_spans.ex
  obtain ⟨f_l_bent, t_l_bent, F_l_bent, m_l_bent⟩ := d_l_bent.ex
  obtain ⟨f_l_refused, t_l_refused, F_l_refused, m_l_refused⟩ := d_l_refused.ex
  refine ⟨f_l_refused, fun base => ?_⟩
  have b_is_integer : Binds K t_is_integer ["value"] [] := F_is_integer.binds fun _ _ _ _ _ _ us hl => match us, hl with | [_], _ => rfl
  have k_is_integer := ok_is_integer (P := P) (w := w) (mg := mg) (base := base) F_is_integer T
  have G_is_integer := Has.of F_is_integer k_is_integer m_is_integer b_is_integer
  have b_is_number : Binds K t_is_number ["value"] [] := F_is_number.binds fun _ _ _ _ _ _ us hl => match us, hl with | [_], _ => rfl
  have k_is_number := ok_is_number (P := P) (w := w) (mg := mg) (base := base) F_is_number T G_is_integer
  have G_is_number := Has.of F_is_number k_is_number m_is_number b_is_number
  have b_is_sequence : Binds K t_is_sequence ["value"] [] := F_is_sequence.binds fun _ _ _ _ _ _ us hl => match us, hl with | [_], _ => rfl
  have k_is_sequence := ok_is_sequence (P := P) (w := w) (mg := mg) (base := base) F_is_sequence T
  have G_is_sequence := Has.of F_is_sequence k_is_sequence m_is_sequence b_is_sequence
  have b_is_told_span : Binds K t_is_told_span ["value"] [] := F_is_told_span.binds fun _ _ _ _ _ _ us hl => match us, hl with | [_], _ => rfl
  have k_is_told_span := ok_is_told_span (P := P) (w := w) (mg := mg) (base := base) F_is_told_span T G_is_integer G_is_number G_is_sequence
  have G_is_told_span := Has.of F_is_told_span k_is_told_span m_is_told_span b_is_told_span
  have b_end_of : Binds K t_end_of ["span"] [] := F_end_of.binds fun _ _ _ _ _ _ us hl => match us, hl with | [_], _ => rfl
  have k_end_of := ok_end_of (P := P) (w := w) (mg := mg) (base := base) F_end_of 
  have G_end_of := Has.of F_end_of k_end_of m_end_of b_end_of
  have b_is_inside : Binds K t_is_inside ["one", "other"] [] := F_is_inside.binds fun _ _ _ _ _ _ us hl => match us, hl with | [_, _], _ => rfl
  have k_is_inside := ok_is_inside (P := P) (w := w) (mg := mg) (base := base) F_is_inside G_end_of
  have G_is_inside := Has.of F_is_inside k_is_inside m_is_inside b_is_inside
  have b_first_crossed : Binds K t_first_crossed ["spans"] [] := F_first_crossed.binds fun _ _ _ _ _ _ us hl => match us, hl with | [_], _ => rfl
  have k_first_crossed := ok_first_crossed (P := P) (w := w) (mg := mg) (base := base) F_first_crossed T G_end_of G_is_inside
  have G_first_crossed := Has.of F_first_crossed k_first_crossed m_first_crossed b_first_crossed
  have b_parts_of : Binds K t_parts_of ["spans", "span"] [] := F_parts_of.binds fun _ _ _ _ _ _ us hl => match us, hl with | [_, _], _ => rfl
  have k_parts_of := ok_parts_of (P := P) (w := w) (mg := mg) (base := base) F_parts_of T G_is_inside
  have G_parts_of := Has.of F_parts_of k_parts_of m_parts_of b_parts_of
  have b_check_told_spans : Binds K t_check_told_spans ["value"] [] := F_check_told_spans.binds fun _ _ _ _ _ _ us hl => match us, hl with | [_], _ => rfl
  have k_check_told_spans := ok_check_told_spans (P := P) (w := w) (mg := mg) (base := base) F_check_told_spans T G_is_sequence G_is_told_span
  have G_check_told_spans := Has.of F_check_told_spans k_check_told_spans m_check_told_spans b_check_told_spans
  have b_sum_span : Binds K t_sum_span ["many", "low", "high", "needs_low", "needs_high"] [] := F_sum_span.binds fun _ _ _ _ _ _ us hl => match us, hl with | [_, _, _, _, _], _ => rfl
  have k_sum_span := ok_sum_span (P := P) (w := w) (mg := mg) (base := base) F_sum_span T
  have G_sum_span := Has.of F_sum_span k_sum_span m_sum_span b_sum_span
  have b_can_sum : Binds K t_can_sum ["many", "total", "low", "high", "needs_low", "needs_high"] [] := F_can_sum.binds fun _ _ _ _ _ _ us hl => match us, hl with | [_, _, _, _, _, _], _ => rfl
  have k_can_sum := ok_can_sum (P := P) (w := w) (mg := mg) (base := base) F_can_sum T G_sum_span
  have G_can_sum := Has.of F_can_sum k_can_sum m_can_sum b_can_sum
  have b_rest_of : Binds K t_rest_of ["spans", "span"] [] := F_rest_of.binds fun _ _ _ _ _ _ us hl => match us, hl with | [_, _], _ => rfl
  have k_rest_of := ok_rest_of (P := P) (w := w) (mg := mg) (base := base) F_rest_of T G_end_of G_parts_of G_check_told_spans
  have G_rest_of := Has.of F_rest_of k_rest_of m_rest_of b_rest_of
  have b_is_fit : Binds K t_is_fit ["spans", "span"] [] := F_is_fit.binds fun _ _ _ _ _ _ us hl => match us, hl with | [_, _], _ => rfl
  have k_is_fit := ok_is_fit (P := P) (w := w) (mg := mg) (base := base) F_is_fit T G_parts_of G_rest_of G_can_sum
  have G_is_fit := Has.of F_is_fit k_is_fit m_is_fit b_is_fit
  have b_span_quarrel : Binds K t_span_quarrel ["spans"] [] := F_span_quarrel.binds fun _ _ _ _ _ _ us hl => match us, hl with | [_], _ => rfl
  have k_span_quarrel := ok_span_quarrel (P := P) (w := w) (mg := mg) (base := base) F_span_quarrel T G_check_told_spans G_first_crossed G_is_fit
  have G_span_quarrel := Has.of F_span_quarrel k_span_quarrel m_span_quarrel b_span_quarrel
  have b_l_in : Binds K t_l_in ["_law_one", "_law_other"] [] := F_l_in.binds fun _ _ _ _ _ _ us hl => match us, hl with | [_, _], _ => rfl
  have k_l_in := ok_l_in (P := P) (w := w) (mg := mg) (base := base) F_l_in 
  have G_l_in := Has.of F_l_in k_l_in m_l_in b_l_in
  have b_l_crossed : Binds K t_l_crossed ["_law_spans_here"] [] := F_l_crossed.binds fun _ _ _ _ _ _ us hl => match us, hl with | [_], _ => rfl
  have k_l_crossed := ok_l_crossed (P := P) (w := w) (mg := mg) (base := base) F_l_crossed T G_l_in
  have G_l_crossed := Has.of F_l_crossed k_l_crossed m_l_crossed b_l_crossed
  have b_l_parts : Binds K t_l_parts ["_law_spans_here", "_law_span"] [] := F_l_parts.binds fun _ _ _ _ _ _ us hl => match us, hl with | [_, _], _ => rfl
  have k_l_parts := ok_l_parts (P := P) (w := w) (mg := mg) (base := base) F_l_parts T G_l_in
  have G_l_parts := Has.of F_l_parts k_l_parts m_l_parts b_l_parts
  have b_l_rest : Binds K t_l_rest ["_law_spans_here", "_law_span"] [] := F_l_rest.binds fun _ _ _ _ _ _ us hl => match us, hl with | [_, _], _ => rfl
  have k_l_rest := ok_l_rest (P := P) (w := w) (mg := mg) (base := base) F_l_rest T G_l_parts
  have G_l_rest := Has.of F_l_rest k_l_rest m_l_rest b_l_rest
  have b_l_all : Binds K t_l_all ["_law_rows", "_law_least", "_law_most"] [] := F_l_all.binds fun _ _ _ _ _ _ us hl => match us, hl with | [_, _, _], _ => rfl
  have k_l_all := ok_l_all (P := P) (w := w) (mg := mg) (base := base) F_l_all T
  have G_l_all := Has.of F_l_all k_l_all m_l_all b_l_all
  have b_l_fits : Binds K t_l_fits ["_law_spans_here", "_law_values"] [] := F_l_fits.binds fun _ _ _ _ _ _ us hl => match us, hl with | [_, _], _ => rfl
  have k_l_fits := ok_l_fits (P := P) (w := w) (mg := mg) (base := base) F_l_fits T
  have G_l_fits := Has.of F_l_fits k_l_fits m_l_fits b_l_fits
  have b_l_choices : Binds K t_l_choices ["_law_spans_here", "_law_rows"] [] := F_l_choices.binds fun _ _ _ _ _ _ us hl => match us, hl with | [_, _], _ => rfl
  have k_l_choices := ok_l_choices (P := P) (w := w) (mg := mg) (base := base) F_l_choices T G_l_all G_l_fits
  have G_l_choices := Has.of F_l_choices k_l_choices m_l_choices b_l_choices
  have b_l_unfit : Binds K t_l_unfit ["_law_spans_here", "_law_span"] [] := F_l_unfit.binds fun _ _ _ _ _ _ us hl => match us, hl with | [_, _], _ => rfl
  have k_l_unfit := ok_l_unfit (P := P) (w := w) (mg := mg) (base := base) F_l_unfit T G_l_all G_l_parts G_l_rest
  have G_l_unfit := Has.of F_l_unfit k_l_unfit m_l_unfit b_l_unfit
  have b_l_box : Binds K t_l_box ["_law_script", "_law_k"] [] := F_l_box.binds fun _ _ _ _ _ _ us hl => match us, hl with | [_, _], _ => rfl
  have k_l_box := ok_l_box (P := P) (w := w) (mg := mg) (base := base) F_l_box T
  have G_l_box := Has.of F_l_box k_l_box m_l_box b_l_box
  have b_l_take : Binds K t_l_take ["_law_box_here", "_law_many"] [] := F_l_take.binds fun _ _ _ _ _ _ us hl => match us, hl with | [_, _], _ => rfl
  have k_l_take := ok_l_take (P := P) (w := w) (mg := mg) (base := base) F_l_take T
  have G_l_take := Has.of F_l_take k_l_take m_l_take b_l_take
  have b_l_pick : Binds K t_l_pick ["_law_box_here", "_law_some"] [] := F_l_pick.binds fun _ _ _ _ _ _ us hl => match us, hl with | [_, _], _ => rfl
  have k_l_pick := ok_l_pick (P := P) (w := w) (mg := mg) (base := base) F_l_pick T G_l_take
  have G_l_pick := Has.of F_l_pick k_l_pick m_l_pick b_l_pick
  have b_l_mixed : Binds K t_l_mixed ["_law_box_here", "_law_spans_here"] [] := F_l_mixed.binds fun _ _ _ _ _ _ us hl => match us, hl with | [_, _], _ => rfl
  have k_l_mixed := ok_l_mixed (P := P) (w := w) (mg := mg) (base := base) F_l_mixed T G_l_take
  have G_l_mixed := Has.of F_l_mixed k_l_mixed m_l_mixed b_l_mixed
  have b_l_spans : Binds K t_l_spans ["_law_box_here", "_law_many"] [] := F_l_spans.binds fun _ _ _ _ _ _ us hl => match us, hl with | [_, _], _ => rfl
  have k_l_spans := ok_l_spans (P := P) (w := w) (mg := mg) (base := base) F_l_spans T G_l_take G_l_pick
  have G_l_spans := Has.of F_l_spans k_l_spans m_l_spans b_l_spans
  have b_l_bent : Binds K t_l_bent ["_law_box_here", "_law_spans_here"] [] := F_l_bent.binds fun _ _ _ _ _ _ us hl => match us, hl with | [_, _], _ => rfl
  have k_l_bent := ok_l_bent (P := P) (w := w) (mg := mg) (base := base) F_l_bent T G_l_take G_l_pick
  have G_l_bent := Has.of F_l_bent k_l_bent m_l_bent b_l_bent
  have b_l_refused : Binds K t_l_refused ["_law_ask"] [] := F_l_refused.binds fun _ _ _ _ _ _ us hl => match us, hl with | [_], _ => rfl
  have GX_check := Has.of F_check_told_spans (ok_check_refuse (P := P) (w := w) (mg := mg) (base := base) F_check_told_spans T TR G_is_sequence G_is_told_span) m_check_told_spans b_check_told_spans
  have GX_quarrel := Has.of F_span_quarrel (ok_quarrel_refuse (P := P) (w := w) (mg := mg) (base := base) F_span_quarrel T GX_check) m_span_quarrel b_span_quarrel
  exact { T := T, box := G_l_box, take := G_l_take, pick := G_l_pick, spans := G_l_spans, mixed := G_l_mixed, bent := G_l_bent, fits := G_l_fits, choices := G_l_choices, crossed := G_l_crossed, parts := G_l_parts, rest := G_l_rest, unfit := G_l_unfit,
          quarrel := G_span_quarrel, check := G_check_told_spans, restOf := G_rest_of,
          quarrelK := ⟨_, _, g1, k_span_quarrel, m_span_quarrel, F_span_quarrel.kp, kb1 F_span_quarrel fun _ _ _ _ _ _ _ => rfl⟩,
          checkK := ⟨_, _, g1, k_check_told_spans, m_check_told_spans, F_check_told_spans.kp, kb1 F_check_told_spans fun _ _ _ _ _ _ _ => rfl⟩,
          restK := ⟨_, _, g2, k_rest_of, m_rest_of, F_rest_of.kp, kb2 F_rest_of fun _ _ _ _ _ _ _ _ => rfl⟩,
          checkX := GX_check, quarrelX := GX_quarrel, ref := TR, far := far, farK := farK, farN := farN, refM := m_l_refused, refF := ⟨_, F_l_refused, b_l_refused⟩ }
end
/-- the law called with a script: the heap that is seen holds the table of its own code object, and the script when the top did not write it -/
theorem law_run {P q : Program} {loose : List Str} {mean : ExcName → Option Value} {w : World} {K : PySem.W.Frag} {mg mb : Str → Option Value} {d : DefRec} {C fI cc Fa gR fa a c Pt : Addr} {s₁ : Shared} {vs : List Value} {ns : List Int} {oc kV doc pm ct : Value} {od an : Option Addr} {osl : Array (Option Value)}
    (KX : K.In s₁.heap) (T : Top q loose mean mg mb s₁.heap) (hg : s₁.gens = #[]) (hr : (recsOf q).find? (fun e => e.name == ("law" : Str)) = some d) (ht : PySem.W.tabIn K "law" = some (c, Pt)) (nP : K.lookup Pt = none)
    (lk : K.lookup fa = some ⟨oc, od, .func (PySem.W.fnOf "law" "law" (defArgs s_law) (defBody s_law) (defScope s_law) .none kV doc pm an (.ref c) ct), osl⟩) (hcd : PySem.W.codeIn K (.ref c) "law" = true)
    (ha : s₁.heap.get? a = some { cls := .type "list", data := .seq vs.toArray }) (hi : IntsAre vs ns) (hl : ns.length ≤ 63) (L : ∀ base : Heap, LawCtx P w K mg base C fI cc Fa gR) :
    codeAny (model P w) callerA (.call (.ref fa) ⟨[.ref a], []⟩) (fun r s' => r = .ok (.ret (.bool true)) ∧ OldK s₁.heap s'.heap ∧ s'.os = s₁.os ∧ AllBare s'.gens) s₁ := by
  obtain ⟨CH, hT⟩ := PySem.W.tab_of T KX hr ht
  have rv := vals_ints hi
  have sz : vs.toArray.size ≤ sizeLine := by
    rw [List.size_toArray, hi.length]
    exact Nat.le_trans hl (by decide)
  have aP : a ≠ Pt := fun z => by
    rw [z, hT] at ha
    cases ha
  obtain ⟨H, hP, hS, only, hok⟩ : ∃ H : Hp, H Pt = some (.tbl #[]) ∧ SqL K H a (ns.map V.int) ∧ (∀ b u, H b = some u → b = Pt ∨ (b = a ∧ K.lookup a = none ∧ ∃ o xs, u = .frz o (.lst xs))) ∧ HOk P w H s₁.heap := by
    cases hk : K.lookup a with
    | some o =>
      have e := KX a o hk
      rw [ha] at e
      cases e
      refine ⟨upd (fun _ => none) Pt (.tbl #[]), upd_same, .inr ⟨_, vs.toArray, _, hk, rfl, rfl, rfl, sz, by simpa using rv⟩, fun b u z => ?_, fun b u z => ?_⟩
      · by_cases hb : b = Pt
        · exact .inl hb
        · rw [upd_ne hb] at z
          cases z
      · by_cases hb : b = Pt
        · subst hb
          rw [upd_same] at z
          cases z
          exact hT
        · rw [upd_ne hb] at z
          cases z
    | none =>
      refine ⟨upd (upd (fun _ => none) Pt (.tbl #[])) a (.frz { cls := .type "list", data := .seq vs.toArray } (.lst (ns.map V.int))), (upd_ne (Ne.symm aP)).trans upd_same, .inl (.inr ⟨_, upd_same⟩), fun b u z => ?_, fun b u z => ?_⟩
      · by_cases hb : b = a
        · subst hb
          rw [upd_same] at z
          cases z
          exact .inr ⟨rfl, rfl, _, _, rfl⟩
        · rw [upd_ne hb] at z
          by_cases hb2 : b = Pt
          · exact .inl hb2
          · rw [upd_ne hb2] at z
            cases z
      · by_cases hb : b = a
        · subst hb
          rw [upd_same] at z
          cases z
          exact ⟨ha, by rw [List.length_map, ← hi.length, ← List.size_toArray]; exact sz, vs, _, rv, ha⟩
        · rw [upd_ne hb] at z
          by_cases hb2 : b = Pt
          · subst hb2
            rw [upd_same] at z
            cases z
            exact hT
          · rw [upd_ne hb2] at z
            cases z
  -- what is neither a list nor an empty table is not in H
  have out : ∀ {b : Addr} {o : Obj}, s₁.heap.get? b = some o → (∀ xs n, o.data ≠ .seq xs n) → o.data ≠ .fields #[] → H b = none := fun {b o} e h1 h2 => by
    cases z : H b with
    | none => rfl
    | some u =>
      rcases only b u z with rfl | ⟨rfl, _⟩
      · rw [hT] at e
        cases e
        exact absurd rfl h2
      · rw [ha] at e
        cases e
        exact absurd rfl (h1 _ _)
  have isNs : ∀ {b : Addr} {m : Str → Option Value}, s₁.heap.Ns b m → (hidT s₁.heap H).Ns b m := fun {b m} ⟨o, es, ep, e, hd, r⟩ =>
    ⟨o, es, ep, hidT_get e (out e (fun _ _ z => by rw [hd] at z; cases z) (fun z => by rw [hd] at z; cases z)), hd, r⟩
  have KB : K.In (hidT s₁.heap H) := fun b o e => hidT_get (KX b o e) (by
    cases z : H b with
    | none => rfl
    | some u =>
      rcases only b u z with rfl | ⟨rfl, n, _⟩
      · rw [nP] at e
        cases e
      · rw [n] at e
        cases e)
  have hM : L2.Mod K mg (hidT s₁.heap H) := ⟨KB, isNs T.g, ⟨mb, isNs T.b, T.builtins⟩, let ⟨mc, h1, h2⟩ := T.nolimit; ⟨mc, isNs h1, h2⟩⟩
  have gP : mainGlobals ≠ Pt := fun z => by
    obtain ⟨o, es, ep, e, hd, _⟩ := T.g
    rw [z, hT] at e
    cases e
    cases hd
  have TB : LamX.TabB (hidT s₁.heap H) mg c Pt := by
    refine ⟨?_, ?_, gP⟩
    · obtain ⟨o, us, file, tf, fl, tg, inF, tx, tt, e, r1, r2, r3, r⟩ := CH
      exact ⟨o, us, file, tf, fl, tg, inF, tx, tt, hidT_get e (out e (fun _ _ z => by rw [r2] at z; cases z) (fun z => by rw [r2] at z; cases z; simp at r3)), r1, r2, r3, r⟩
    · obtain ⟨bm, ob, b1, b2, b3, b4, b5, b6⟩ := T.bmain
      refine ⟨bm, ob, b1, b2, fun z => ?_, fun z => ?_, hidT_get b3 (out b3 (fun _ _ z => by rw [b6] at z; cases z) (fun z => by rw [b6] at z; cases z)), b4, b5, b6⟩
      · obtain ⟨o, es, ep, e, hd, _⟩ := T.g
        rw [z, e] at b3
        cases b3
        rw [hd] at b6
        cases b6
      · rw [z, hT] at b3
        cases b3
        cases b6
  have e0 : Env0 P w K mg (hidT s₁.heap H) callerA [] s₁ H := ⟨rfl, hM, fun b o e => of_hidT e, Nat.le_of_eq (hidT_size _ _), trivial, fun b hb => absurd hb List.not_mem_nil, hok, .of_eq hg⟩
  refine codeAny_mono (LamX.run_ofS (CX := CX0) (k := 10) (us := [.ref a]) (vs := [.ref a]) (Q := fun v _ => v = .bl true) (E := fun _ _ _ => False) lk hcd sc_law ⟨rfl, by decide, by decide⟩ e0 (.of_eq rfl) (.cons rfl .nil) rfl fun hr' => ?_) fun r s' h => ?_
  · obtain ⟨t, h1, h2⟩ := run_law (P := P) (w := w) (f := fa) (outer := []) (s := s₁) (E := fun _ _ _ => False) law_math (L _) TB hr' hS hl fun p hp => by
      rw [List.mem_singleton.mp hp]
      exact LamX.TabS.nil hP
    exact ⟨t, h1.nox, h2⟩
  · cases r with
    | error e => exact False.elim h
    | ok fl =>
      cases fl with
      | next => exact False.elim h
      | brk => exact False.elim h
      | cont => exact False.elim h
      | ret u =>
        obtain ⟨v, H', os, bare, un, hok', r', qv⟩ := h
        have qv' : v = .bl true := qv
        subst qv'
        obtain rfl : u = Value.bool true := r'
        obtain ⟨more, hm⟩ := un.tbls Pt #[] hP
        have tb : s'.heap.get? Pt = some { cls := .none, data := .fields (#[] ++ more) } := hok' Pt _ hm
        have kept : ∀ b o, b ≠ Pt → s₁.heap.get? b = some o → s'.heap.get? b = some o := fun b o nb e => by
          cases z : H b with
          | none => exact un.keep b o e z (fun m => absurd (show b ∈ ([] : List Addr) from m) List.not_mem_nil) (by simp)
          | some u =>
            rcases only b u z with y | ⟨_, _, ob, xs, rfl⟩
            · exact absurd y nb
            · obtain ⟨e1, _⟩ := hok b _ z
              obtain ⟨e2, _⟩ := hok' b _ (un.frzs b ob _ z)
              rw [e] at e1
              cases e1
              exact e2
        refine ⟨rfl, ⟨fun b o e => ?_, fun b o e => ?_⟩, os, bare⟩
        · by_cases hb : b = Pt
          · subst hb
            rw [hT] at e
            cases e
            exact .inr (.inl ⟨(CH.tab hT).isCodeTable, rfl, #[], _, rfl, tb⟩)
          · exact .inl (kept b o hb e)
        · by_cases hb : b = Pt
          · subst hb
            exact ⟨_, tb⟩
          · exact ⟨o, kept b o hb e⟩
/-- what the walk wants of the top -/
def LawSees (P : Program) (w : World) (K : PySem.W.Frag) (mg : Str → Option Value) (fa : Addr) : Prop :=
  ∃ (C fI cc Fa gR c Pt : Addr) (oc kV doc pm ct : Value) (od an : Option Addr) (osl : Array (Option Value)), PySem.W.tabIn K "law" = some (c, Pt) ∧ K.lookup Pt = none ∧
    K.lookup fa = some ⟨oc, od, .func (PySem.W.fnOf "law" "law" (defArgs s_law) (defBody s_law) (defScope s_law) .none kV doc pm an (.ref c) ct), osl⟩ ∧ PySem.W.codeIn K (.ref c) "law" = true ∧ ∀ base : Heap, LawCtx P w K mg base C fI cc Fa gR
theorem walk_law {l : PySem.W.OpenLaw} {q : Program} {loose : List Str} {XP : (Str → Option Value) → Heap → Prop} {YP : World → Heap → Prop} {d d2 : DefRec} {K : Params → PySem.W.Frag}
    (hn : l.most = some 63) (hdf : d.params.defaults = []) (hr : (recsOf q).find? (fun e => e.name == ("law" : Str)) = some d2) (hY : ∀ (w : World) (h : Heap), YP w h → (K w.params).In h)
    (F : ∀ (w : World) (mg : Str → Option Value) (fa : Addr) (h : Heap), YP w h → (K w.params).In h → h.Ns mainGlobals mg → mg d.name = some (.ref fa) → LawSees l.prog w (K w.params) mg fa) :
    PySem.W.WalkO q loose XP YP l.row.toRowW d [] (fun f vs => PySem.call f vs) := by
  refine Att.attach_callB hn hdf fun w s₀ s₁ mg mb fa o pm cd doc a vs ns G Y ho hd hcd hmg hobj hints hlen hbits hg => ?_
  have KX := hY w _ Y
  obtain ⟨C, fI, cc, Fa, gR, c, Pt, oc, kV, dc, pm2, ct, od, an, osl, ht, nP, lk, hc, L⟩ := F w mg fa _ Y KX G.T.g hmg
  exact law_run KX G.T hg hr ht nP lk hc hobj hints hlen L
end K14
/-! K14EndB -/
set_option Elab.async false
set_option linter.all false
set_option maxRecDepth 100000
set_option maxHeartbeats 8000000
set_option pp.maxSteps 400
set_option pp.deepTerms false
/-! What the top has written; the law's own head. -/
namespace K14
open PySem PySem.Spec PyProof.Rows L2
/-- an error of the class at S is what «except S» names -/
theorem exm_one {K : PySem.W.Frag} {S : Addr} (h1 : PySem.W.subIn K (.ref S) (.type "BaseException") = some true) (h2 : PySem.W.isClsIn K S = true) (h3 : PySem.W.typeIn K (.ref S) = some (.type "type")) (h4 : PySem.W.subIn K (.ref S) (.ref S) = some true) :
    PySem.W.exmOne K (.ref S) (.ref S) = some true := by
  have e1 : (PySem.W.subIn K (.ref S) (.type "BaseException") == some true) = true := by rw [h1] <;> rfl
  have e2 : ((PySem.W.clsIn K S).isSome && PySem.W.typeIn K (.ref S) == some (.type "type")) = true := by
    have h2' : (PySem.W.clsIn K S).isSome = true := h2
    rw [h2', h3] <;> rfl
  show (if (PySem.W.subIn K (.ref S) (.type "BaseException") == some true) = true then (if ((PySem.W.clsIn K S).isSome && PySem.W.typeIn K (.ref S) == some (.type "type")) = true then PySem.W.subIn K (.ref S) (.ref S) else none) else none) = some true
  rw [if_pos e1, if_pos e2]
  exact h4
section
variable {P : Program} {w : World} {K : PySem.W.Frag} {mg : Str → Option Value} {h : Heap} {fa : Addr}
theorem gl0_mk (X : K.In h) (G : h.Ns mainGlobals mg) {t1 t2 t3 : Tok} (z_len : PySem.W.nsIn K mainGlobals "len" = some none) (z_all : PySem.W.nsIn K mainGlobals "all" = some none) (z_any : PySem.W.nsIn K mainGlobals "any" = some none) (z_sum : PySem.W.nsIn K mainGlobals "sum" = some none) (z_min : PySem.W.nsIn K mainGlobals "min" = some none) (z_max : PySem.W.nsIn K mainGlobals "max" = some none) (z_sorted : PySem.W.nsIn K mainGlobals "sorted" = some none) (z_repr : PySem.W.nsIn K mainGlobals "repr" = some none) (z_abs : PySem.W.nsIn K mainGlobals "abs" = some none) (z_isinstance : PySem.W.nsIn K mainGlobals "isinstance" = some none) (z_range : PySem.W.nsIn K mainGlobals "range" = some none) (z_enumerate : PySem.W.nsIn K mainGlobals "enumerate" = some none) (z_list : PySem.W.nsIn K mainGlobals "list" = some none) (z_tuple : PySem.W.nsIn K mainGlobals "tuple" = some none) (z_dict : PySem.W.nsIn K mainGlobals "dict" = some none) (z_int : PySem.W.nsIn K mainGlobals "int" = some none) (z_bool : PySem.W.nsIn K mainGlobals "bool" = some none) (z_super : PySem.W.nsIn K mainGlobals "super" = some none) (c1 : PySem.W.nsIn K mainGlobals "MOST_VALUE" = some (some (.int 1000000 t1))) (c2 : PySem.W.nsIn K mainGlobals "CROSSED" = some (some (.str "crossed" t2))) (c3 : PySem.W.nsIn K mainGlobals "UNFIT" = some (some (.str "unfit" t3))) : Gl0 mg :=
  { len := PySem.W.mg_none_of X G z_len, all := PySem.W.mg_none_of X G z_all, any := PySem.W.mg_none_of X G z_any, sum := PySem.W.mg_none_of X G z_sum, min := PySem.W.mg_none_of X G z_min, max := PySem.W.mg_none_of X G z_max, sorted := PySem.W.mg_none_of X G z_sorted, repr := PySem.W.mg_none_of X G z_repr, abs := PySem.W.mg_none_of X G z_abs, isinstance := PySem.W.mg_none_of X G z_isinstance, range := PySem.W.mg_none_of X G z_range, enumerate := PySem.W.mg_none_of X G z_enumerate, list := PySem.W.mg_none_of X G z_list, tuple := PySem.W.mg_none_of X G z_tuple, dict := PySem.W.mg_none_of X G z_dict, int := PySem.W.mg_none_of X G z_int, bool := PySem.W.mg_none_of X G z_bool, super := PySem.W.mg_none_of X G z_super, most := ⟨t1, PySem.W.mg_of X G c1⟩, crossed := ⟨t2, PySem.W.mg_of X G c2⟩, unfit := ⟨t3, PySem.W.mg_of X G c3⟩ }
theorem ref_mk (X : K.In h) (G : h.Ns mainGlobals mg) {C f1 cc cda : Addr} {nm q : Str} {N : Addr} {bs bm : List Value} {sn : List Str} {sub : List Value} {ab : Bool} {col : Option Bool} {dd : Option Addr} {k0 k1 k2 k3 k5 : Option Value}
    {oc dc pm ct cl ccl : Value} {od an cld cdd : Option Addr} {osl csl ccs : Array (Option Value)} {vs : Array Value} {file : Str} {tf : Tok}
    (aC : PySem.W.nsIn K mainGlobals "Refused" = some (some (.ref C))) (xL : K.lookup C = some (excClassObj nm q C N bs bm true sn sub ab col dd k0 k1 k2 k3 k5 "ValueError.__new__")) (xV : PySem.HandSPX.refsVE bm = true)
    (sa : PySem.W.findIn K (.ref C) "__setattr__" = some (some (.builtin "object.__setattr__"))) (ga : PySem.W.findIn K (.ref C) "__getattribute__" = some (some (.builtin "BaseException.__getattribute__"))) (gg : PySem.W.findIn K (.ref C) "__getattr__" = some none) (nb : PySem.W.findIn K (.ref C) "at" = some none)
    (a1 : PySem.W.findIn K (.ref C) "__init__" = some (some (.ref f1))) (t1 : PySem.W.typeIn K (.ref f1) = some (.type "function"))
    (l1 : K.lookup f1 = some ⟨oc, od, .func (PySem.W.fnX "__init__" "Refused.__init__" (defArgs PySem.RefX.sInit) (defBody PySem.RefX.sInit) (defScope PySem.RefX.sInit) [("__class__", cc)] .none .none dc pm an (.ref cda) ct), osl⟩) (c1 : PySem.W.codeIn K (.ref cda) "Refused.__init__" = true)
    (lc : K.lookup cda = some ⟨ccl, cdd, .fields vs, ccs⟩) (v2 : vs[2]? = some (.str file tf)) (hf : ((P.main.file : Str) == file) = true) (hc : K.lookup cc = some ⟨cl, cld, .cell (some (.ref C)), csl⟩)
    (kC : PySem.W.keepIn K (.ref C) = true) (eC : PySem.W.subIn K (.ref C) (.type "BaseException") = some true) (tC : PySem.W.typeIn K (.ref C) = some (.type "type")) (hC : PySem.W.hasDictIn K C = true) (iC : PySem.W.isClsIn K C = true) (sC : PySem.W.subIn K (.ref C) (.ref C) = some true)
    (su : PySem.W.ks_superIn K C C "__init__" = some (some (.builtin "ValueError.__init__"))) (sv : PySem.W.subIn K (.ref C) (.type "ValueError") = some true) (sc : PySem.W.mroIn K C (.ref C) = some true) (op : PySem.W.nsIn K cStatics "thirdparty.any" = some none) (gs : PySem.W.nsIn K mainGlobals "super" = some none)
    (top : (P.main.scope.names.lookup ("super" : Str)).isSome = false) : PySem.RefX.RefTxt P K mg C f1 cc :=
  { gC := PySem.W.mg_of X G aC, cls := ⟨nm, q, N, bs, bm, sn, sub, ab, col, dd, k0, k1, k2, k3, k5, xL, xV⟩, sa := sa, ga := ga, gg := gg, noN := nb, iC := a1, tC := t1, kC := kC, exC := eC, tyC := tC, hdC := hC, te := exm_one eC iC tC sC,
    su := su, sv := sv, sc := sc, op := op, gs := gs, cell := ⟨cl, cld, csl, hc⟩, fn := ⟨oc, od, dc, pm, an, cda, ct, osl, ccl, cdd, vs, ccs, file, tf, l1, c1, lc, v2, hf⟩, top := top }
theorem sees_mk (X : K.In h) (G : h.Ns mainGlobals mg) (hfa : mg "law" = some (.ref fa)) {C f1 cc Fa f2 c Pt : Addr} {oc kV dc pm ct cl : Value} {od an cdd : Option Addr} {osl ccs : Array (Option Value)} {vs : Array Value}
    (T : Gl0 mg) (TR : PySem.RefX.RefTxt P K mg C f1 cc) (aF : PySem.W.nsIn K mainGlobals "FarError" = some (some (.ref Fa))) (farK : PySem.W.kitCls K (.ref C) (.ref Fa) = some true) (farN : C ≠ Fa)
    (a2 : PySem.W.nsIn K mainGlobals "law" = some (some (.ref f2))) (l2 : K.lookup f2 = some ⟨oc, od, .func (PySem.W.fnOf "law" "law" (defArgs s_law) (defBody s_law) (defScope s_law) .none kV dc pm an (.ref c) ct), osl⟩) (c2 : PySem.W.codeIn K (.ref c) "law" = true)
    (lc : K.lookup c = some ⟨cl, cdd, .fields vs, ccs⟩) (v11 : vs[11]? = some (.ref Pt)) (nP : K.lookup Pt = none) (d_is_integer : DefAt K mg "is_integer" s_is_integer) (d_is_number : DefAt K mg "is_number" s_is_number) (d_is_sequence : DefAt K mg "is_sequence" s_is_sequence) (d_is_told_span : DefAt K mg "is_told_span" s_is_told_span) (d_end_of : DefAt K mg "end_of" s_end_of) (d_is_inside : DefAt K mg "is_inside" s_is_inside) (d_first_crossed : DefAt K mg "first_crossed" s_first_crossed) (d_parts_of : DefAt K mg "parts_of" s_parts_of) (d_check_told_spans : DefAt K mg "check_told_spans" s_check_told_spans) (d_sum_span : DefAt K mg "sum_span" s_sum_span) (d_can_sum : DefAt K mg "can_sum" s_can_sum) (d_rest_of : DefAt K mg "rest_of" s_rest_of) (d_is_fit : DefAt K mg "is_fit" s_is_fit) (d_span_quarrel : DefAt K mg "span_quarrel" s_span_quarrel) (d_l_in : DefAt K mg "_law_in" s_l_in) (d_l_crossed : DefAt K mg "_law_crossed" s_l_crossed) (d_l_parts : DefAt K mg "_law_parts" s_l_parts) (d_l_rest : DefAt K mg "_law_rest" s_l_rest) (d_l_all : DefAt K mg "_law_all" s_l_all) (d_l_fits : DefAt K mg "_law_fits" s_l_fits) (d_l_choices : DefAt K mg "_law_choices" s_l_choices) (d_l_unfit : DefAt K mg "_law_unfit" s_l_unfit) (d_l_box : DefAt K mg "_law_box" s_l_box) (d_l_take : DefAt K mg "_law_take" s_l_take) (d_l_pick : DefAt K mg "_law_pick" s_l_pick) (d_l_mixed : DefAt K mg "_law_mixed" s_l_mixed) (d_l_spans : DefAt K mg "_law_spans" s_l_spans) (d_l_bent : DefAt K mg "_law_bent" s_l_bent) (d_l_refused : DefAt K mg "_law_refused" s_l_refused) : LawSees P w K mg fa := by
  have e := hfa.symm.trans (PySem.W.mg_of X G a2)
  cases e
  have ht : PySem.W.tabIn K "law" = some (c, Pt) := by
    unfold PySem.W.tabIn
    rw [a2]
    dsimp only
    rw [l2]
    dsimp only [PySem.W.fnOf]
    rw [lc]
    dsimp only
    rw [v11]
  obtain ⟨gR, L⟩ := law_ctx (P := P) (w := w) T TR (PySem.W.mg_of X G aF) farK farN d_is_integer d_is_number d_is_sequence d_is_told_span d_end_of d_is_inside d_first_crossed d_parts_of d_check_told_spans d_sum_span d_can_sum d_rest_of d_is_fit d_span_quarrel d_l_in d_l_crossed d_l_parts d_l_rest d_l_all d_l_fits d_l_choices d_l_unfit d_l_box d_l_take d_l_pick d_l_mixed d_l_spans d_l_bent d_l_refused
  exact ⟨C, f1, cc, Fa, gR, c, Pt, oc, kV, dc, pm, ct, od, an, osl, ht, nP, l2, c2, L⟩
end
end K14
/-! K14End -/
open PySem PySem.W PyProof.Rows
set_option Elab.async false
set_option linter.all false
set_option maxRecDepth 100000
set_option pp.maxSteps 400
set_option pp.deepTerms false
set_option maxHeartbeats 0 in
theorem PySem.Challenge.cw_farstory_k14_whole_told_spans_that_fit_n_holds : PySem.Challenge.rw_farstory_k14_whole_told_spans_that_fit_n.Holds := by
  w_on; o_law; k_head; (case hw => w_witness2)
  k_fill
  refine K14.walk_law (l := PySem.Challenge.rw_farstory_k14_whole_told_spans_that_fit_n) rfl rfl rfl (fun w h Y => PySem.W.km_in_of Y) ?F
  intro w mg fa h Y KX G hmg
  have T : K14.Gl0 mg := by
    refine' K14.gl0_mk KX G ?z_len ?z_all ?z_any ?z_sum ?z_min ?z_max ?z_sorted ?z_repr ?z_abs ?z_isinstance ?z_range ?z_enumerate ?z_list ?z_tuple ?z_dict ?z_int ?z_bool ?z_super ?c1 ?c2 ?c3
    (case z_len => first | k_is | rfl | kernel_rfl | decide +kernel)
    (case z_all => first | k_is | rfl | kernel_rfl | decide +kernel)
    (case z_any => first | k_is | rfl | kernel_rfl | decide +kernel)
    (case z_sum => first | k_is | rfl | kernel_rfl | decide +kernel)
    (case z_min => first | k_is | rfl | kernel_rfl | decide +kernel)
    (case z_max => first | k_is | rfl | kernel_rfl | decide +kernel)
    (case z_sorted => first | k_is | rfl | kernel_rfl | decide +kernel)
    (case z_repr => first | k_is | rfl | kernel_rfl | decide +kernel)
    (case z_abs => first | k_is | rfl | kernel_rfl | decide +kernel)
    (case z_isinstance => first | k_is | rfl | kernel_rfl | decide +kernel)
    (case z_range => first | k_is | rfl | kernel_rfl | decide +kernel)
    (case z_enumerate => first | k_is | rfl | kernel_rfl | decide +kernel)
    (case z_list => first | k_is | rfl | kernel_rfl | decide +kernel)
    (case z_tuple => first | k_is | rfl | kernel_rfl | decide +kernel)
    (case z_dict => first | k_is | rfl | kernel_rfl | decide +kernel)
    (case z_int => first | k_is | rfl | kernel_rfl | decide +kernel)
    (case z_bool => first | k_is | rfl | kernel_rfl | decide +kernel)
    (case z_super => first | k_is | rfl | kernel_rfl | decide +kernel)
    (case c1 => first | k_is | rfl | kernel_rfl | decide +kernel); (case c2 => first | k_is | rfl | kernel_rfl | decide +kernel); (case c3 => first | k_is | rfl | kernel_rfl | decide +kernel)
  refine' K14.sees_mk KX G hmg T (K14.ref_mk KX G ?r_aC ?r_xL ?r_xV ?r_sa ?r_ga ?r_gg ?r_nb ?r_a1 ?r_t1 ?r_l1 ?r_c1 ?r_lc ?r_v2 ?r_hf ?r_hc ?r_kC ?r_eC ?r_tC ?r_hC ?r_iC ?r_sC ?r_su ?r_sv ?r_sc ?r_op ?r_gs ?r_top) ?s_aF ?s_farK ?s_farN ?s_a2 ?s_l2 ?s_c2 ?s_ln ?s_v11 ?s_nP (K14.def_at KX G ?a_is_integer ?l_is_integer ?c_is_integer ?k_is_integer) (K14.def_at KX G ?a_is_number ?l_is_number ?c_is_number ?k_is_number) (K14.def_at KX G ?a_is_sequence ?l_is_sequence ?c_is_sequence ?k_is_sequence) (K14.def_at KX G ?a_is_told_span ?l_is_told_span ?c_is_told_span ?k_is_told_span) (K14.def_at KX G ?a_end_of ?l_end_of ?c_end_of ?k_end_of) (K14.def_at KX G ?a_is_inside ?l_is_inside ?c_is_inside ?k_is_inside) (K14.def_at KX G ?a_first_crossed ?l_first_crossed ?c_first_crossed ?k_first_crossed) (K14.def_at KX G ?a_parts_of ?l_parts_of ?c_parts_of ?k_parts_of) (K14.def_at KX G ?a_check_told_spans ?l_check_told_spans ?c_check_told_spans ?k_check_told_spans) (K14.def_at KX G ?a_sum_span ?l_sum_span ?c_sum_span ?k_sum_span) (K14.def_at KX G ?a_can_sum ?l_can_sum ?c_can_sum ?k_can_sum) (K14.def_at KX G ?a_rest_of ?l_rest_of ?c_rest_of ?k_rest_of) (K14.def_at KX G ?a_is_fit ?l_is_fit ?c_is_fit ?k_is_fit) (K14.def_at KX G ?a_span_quarrel ?l_span_quarrel ?c_span_quarrel ?k_span_quarrel) (K14.def_at KX G ?a_l_in ?l_l_in ?c_l_in ?k_l_in) (K14.def_at KX G ?a_l_crossed ?l_l_crossed ?c_l_crossed ?k_l_crossed) (K14.def_at KX G ?a_l_parts ?l_l_parts ?c_l_parts ?k_l_parts) (K14.def_at KX G ?a_l_rest ?l_l_rest ?c_l_rest ?k_l_rest) (K14.def_at KX G ?a_l_all ?l_l_all ?c_l_all ?k_l_all) (K14.def_at KX G ?a_l_fits ?l_l_fits ?c_l_fits ?k_l_fits) (K14.def_at KX G ?a_l_choices ?l_l_choices ?c_l_choices ?k_l_choices) (K14.def_at KX G ?a_l_unfit ?l_l_unfit ?c_l_unfit ?k_l_unfit) (K14.def_at KX G ?a_l_box ?l_l_box ?c_l_box ?k_l_box) (K14.def_at KX G ?a_l_take ?l_l_take ?c_l_take ?k_l_take) (K14.def_at KX G ?a_l_pick ?l_l_pick ?c_l_pick ?k_l_pick) (K14.def_at KX G ?a_l_mixed ?l_l_mixed ?c_l_mixed ?k_l_mixed) (K14.def_at KX G ?a_l_spans ?l_l_spans ?c_l_spans ?k_l_spans) (K14.def_at KX G ?a_l_bent ?l_l_bent ?c_l_bent ?k_l_bent) (K14.def_at KX G ?a_l_refused ?l_l_refused ?c_l_refused ?k_l_refused)
  (case r_aC => first | k_is | rfl | kernel_rfl | decide +kernel)
  (case r_xL => first | k_is | rfl | kernel_rfl | decide +kernel)
  (case r_xV => first | k_is | rfl | kernel_rfl | decide +kernel)
  (case r_sa => first | k_is | rfl | kernel_rfl | decide +kernel)
  (case r_ga => first | k_is | rfl | kernel_rfl | decide +kernel)
  (case r_gg => first | k_is | rfl | kernel_rfl | decide +kernel)
  (case r_nb => first | k_is | rfl | kernel_rfl | decide +kernel)
  (case r_a1 => first | k_is | rfl | kernel_rfl | decide +kernel)
  (case r_t1 => first | k_is | rfl | kernel_rfl | decide +kernel)
  (case r_l1 => first | k_is | rfl | kernel_rfl | decide +kernel)
  (case r_c1 => first | k_is | rfl | kernel_rfl | decide +kernel)
  (case r_lc => first | k_is | rfl | kernel_rfl | decide +kernel)
  (case r_v2 => first | k_is | rfl | kernel_rfl | decide +kernel)
  (case r_hf => first | k_is | rfl | kernel_rfl | decide +kernel)
  (case r_hc => first | k_is | rfl | kernel_rfl | decide +kernel)
  (case r_kC => first | k_is | rfl | kernel_rfl | decide +kernel)
  (case r_eC => first | k_is | rfl | kernel_rfl | decide +kernel)
  (case r_tC => first | k_is | rfl | kernel_rfl | decide +kernel)
  (case r_hC => first | k_is | rfl | kernel_rfl | decide +kernel)
  (case r_iC => first | k_is | rfl | kernel_rfl | decide +kernel)
  (case r_sC => first | k_is | rfl | kernel_rfl | decide +kernel)
  (case r_su => first | k_is | rfl | kernel_rfl | decide +kernel)
  (case r_sv => first | k_is | rfl | kernel_rfl | decide +kernel)
  (case r_sc => first | k_is | rfl | kernel_rfl | decide +kernel)
  (case r_op => first | k_is | rfl | kernel_rfl | decide +kernel)
  (case r_gs => first | k_is | rfl | kernel_rfl | decide +kernel)
  (case r_top => first | k_is | rfl | kernel_rfl | decide +kernel)
  (case s_aF => first | k_is | rfl | kernel_rfl | decide +kernel)
  (case s_farK => first | k_is | rfl | kernel_rfl | decide +kernel)
  (case s_farN => decide)
  (case s_a2 => first | k_is | rfl | kernel_rfl | decide +kernel)
  (case s_l2 => first | k_is | rfl | kernel_rfl | decide +kernel)
  (case s_c2 => first | k_is | rfl | kernel_rfl | decide +kernel)
  (case s_ln => first | k_is | rfl | kernel_rfl | decide +kernel)
  (case s_v11 => first | k_is | rfl | kernel_rfl | decide +kernel)
  (case s_nP => first | k_is | rfl | kernel_rfl | decide +kernel)
  (case a_is_integer => first | k_is | rfl | kernel_rfl | decide +kernel); (case l_is_integer => first | k_is | rfl | kernel_rfl | decide +kernel); (case c_is_integer => first | k_is | rfl | kernel_rfl | decide +kernel); (case k_is_integer => first | k_is | rfl | kernel_rfl | decide +kernel)
  (case a_is_number => first | k_is | rfl | kernel_rfl | decide +kernel); (case l_is_number => first | k_is | rfl | kernel_rfl | decide +kernel); (case c_is_number => first | k_is | rfl | kernel_rfl | decide +kernel); (case k_is_number => first | k_is | rfl | kernel_rfl | decide +kernel)
  (case a_is_sequence => first | k_is | rfl | kernel_rfl | decide +kernel); (case l_is_sequence => first | k_is | rfl | kernel_rfl | decide +kernel); (case c_is_sequence => first | k_is | rfl | kernel_rfl | decide +kernel); (case k_is_sequence => first | k_is | rfl | kernel_rfl | decide +kernel)
  (case a_is_told_span => first | k_is | rfl | kernel_rfl | decide +kernel); (case l_is_told_span => first | k_is | rfl | kernel_rfl | decide +kernel); (case c_is_told_span => first | k_is | rfl | kernel_rfl | decide +kernel); (case k_is_told_span => first | k_is | rfl | kernel_rfl | decide +kernel)
  (case a_end_of => first | k_is | rfl | kernel_rfl | decide +kernel); (case l_end_of => first | k_is | rfl | kernel_rfl | decide +kernel); (case c_end_of => first | k_is | rfl | kernel_rfl | decide +kernel); (case k_end_of => first | k_is | rfl | kernel_rfl | decide +kernel)
  (case a_is_inside => first | k_is | rfl | kernel_rfl | decide +kernel); (case l_is_inside => first | k_is | rfl | kernel_rfl | decide +kernel); (case c_is_inside => first | k_is | rfl | kernel_rfl | decide +kernel); (case k_is_inside => first | k_is | rfl | kernel_rfl | decide +kernel)
  (case a_first_crossed => first | k_is | rfl | kernel_rfl | decide +kernel); (case l_first_crossed => first | k_is | rfl | kernel_rfl | decide +kernel); (case c_first_crossed => first | k_is | rfl | kernel_rfl | decide +kernel); (case k_first_crossed => first | k_is | rfl | kernel_rfl | decide +kernel)
  (case a_parts_of => first | k_is | rfl | kernel_rfl | decide +kernel); (case l_parts_of => first | k_is | rfl | kernel_rfl | decide +kernel); (case c_parts_of => first | k_is | rfl | kernel_rfl | decide +kernel); (case k_parts_of => first | k_is | rfl | kernel_rfl | decide +kernel)
  (case a_check_told_spans => first | k_is | rfl | kernel_rfl | decide +kernel); (case l_check_told_spans => first | k_is | rfl | kernel_rfl | decide +kernel); (case c_check_told_spans => first | k_is | rfl | kernel_rfl | decide +kernel); (case k_check_told_spans => first | k_is | rfl | kernel_rfl | decide +kernel)
  (case a_sum_span => first | k_is | rfl | kernel_rfl | decide +kernel); (case l_sum_span => first | k_is | rfl | kernel_rfl | decide +kernel); (case c_sum_span => first | k_is | rfl | kernel_rfl | decide +kernel); (case k_sum_span => first | k_is | rfl | kernel_rfl | decide +kernel)
  (case a_can_sum => first | k_is | rfl | kernel_rfl | decide +kernel); (case l_can_sum => first | k_is | rfl | kernel_rfl | decide +kernel); (case c_can_sum => first | k_is | rfl | kernel_rfl | decide +kernel); (case k_can_sum => first | k_is | rfl | kernel_rfl | decide +kernel)
  (case a_rest_of => first | k_is | rfl | kernel_rfl | decide +kernel); (case l_rest_of => first | k_is | rfl | kernel_rfl | decide +kernel); (case c_rest_of => first | k_is | rfl | kernel_rfl | decide +kernel); (case k_rest_of => first | k_is | rfl | kernel_rfl | decide +kernel)
  (case a_is_fit => first | k_is | rfl | kernel_rfl | decide +kernel); (case l_is_fit => first | k_is | rfl | kernel_rfl | decide +kernel); (case c_is_fit => first | k_is | rfl | kernel_rfl | decide +kernel); (case k_is_fit => first | k_is | rfl | kernel_rfl | decide +kernel)
  (case a_span_quarrel => first | k_is | rfl | kernel_rfl | decide +kernel); (case l_span_quarrel => first | k_is | rfl | kernel_rfl | decide +kernel); (case c_span_quarrel => first | k_is | rfl | kernel_rfl | decide +kernel); (case k_span_quarrel => first | k_is | rfl | kernel_rfl | decide +kernel)
  (case a_l_in => first | k_is | rfl | kernel_rfl | decide +kernel); (case l_l_in => first | k_is | rfl | kernel_rfl | decide +kernel); (case c_l_in => first | k_is | rfl | kernel_rfl | decide +kernel); (case k_l_in => first | k_is | rfl | kernel_rfl | decide +kernel)
  (case a_l_crossed => first | k_is | rfl | kernel_rfl | decide +kernel); (case l_l_crossed => first | k_is | rfl | kernel_rfl | decide +kernel); (case c_l_crossed => first | k_is | rfl | kernel_rfl | decide +kernel); (case k_l_crossed => first | k_is | rfl | kernel_rfl | decide +kernel)
  (case a_l_parts => first | k_is | rfl | kernel_rfl | decide +kernel); (case l_l_parts => first | k_is | rfl | kernel_rfl | decide +kernel); (case c_l_parts => first | k_is | rfl | kernel_rfl | decide +kernel); (case k_l_parts => first | k_is | rfl | kernel_rfl | decide +kernel)
  (case a_l_rest => first | k_is | rfl | kernel_rfl | decide +kernel); (case l_l_rest => first | k_is | rfl | kernel_rfl | decide +kernel); (case c_l_rest => first | k_is | rfl | kernel_rfl | decide +kernel); (case k_l_rest => first | k_is | rfl | kernel_rfl | decide +kernel)
  (case a_l_all => first | k_is | rfl | kernel_rfl | decide +kernel); (case l_l_all => first | k_is | rfl | kernel_rfl | decide +kernel); (case c_l_all => first | k_is | rfl | kernel_rfl | decide +kernel); (case k_l_all => first | k_is | rfl | kernel_rfl | decide +kernel)
  (case a_l_fits => first | k_is | rfl | kernel_rfl | decide +kernel); (case l_l_fits => first | k_is | rfl | kernel_rfl | decide +kernel); (case c_l_fits => first | k_is | rfl | kernel_rfl | decide +kernel); (case k_l_fits => first | k_is | rfl | kernel_rfl | decide +kernel)
  (case a_l_choices => first | k_is | rfl | kernel_rfl | decide +kernel); (case l_l_choices => first | k_is | rfl | kernel_rfl | decide +kernel); (case c_l_choices => first | k_is | rfl | kernel_rfl | decide +kernel); (case k_l_choices => first | k_is | rfl | kernel_rfl | decide +kernel)
  (case a_l_unfit => first | k_is | rfl | kernel_rfl | decide +kernel); (case l_l_unfit => first | k_is | rfl | kernel_rfl | decide +kernel); (case c_l_unfit => first | k_is | rfl | kernel_rfl | decide +kernel); (case k_l_unfit => first | k_is | rfl | kernel_rfl | decide +kernel)
  (case a_l_box => first | k_is | rfl | kernel_rfl | decide +kernel); (case l_l_box => first | k_is | rfl | kernel_rfl | decide +kernel); (case c_l_box => first | k_is | rfl | kernel_rfl | decide +kernel); (case k_l_box => first | k_is | rfl | kernel_rfl | decide +kernel)
  (case a_l_take => first | k_is | rfl | kernel_rfl | decide +kernel); (case l_l_take => first | k_is | rfl | kernel_rfl | decide +kernel); (case c_l_take => first | k_is | rfl | kernel_rfl | decide +kernel); (case k_l_take => first | k_is | rfl | kernel_rfl | decide +kernel)
  (case a_l_pick => first | k_is | rfl | kernel_rfl | decide +kernel); (case l_l_pick => first | k_is | rfl | kernel_rfl | decide +kernel); (case c_l_pick => first | k_is | rfl | kernel_rfl | decide +kernel); (case k_l_pick => first | k_is | rfl | kernel_rfl | decide +kernel)
  (case a_l_mixed => first | k_is | rfl | kernel_rfl | decide +kernel); (case l_l_mixed => first | k_is | rfl | kernel_rfl | decide +kernel); (case c_l_mixed => first | k_is | rfl | kernel_rfl | decide +kernel); (case k_l_mixed => first | k_is | rfl | kernel_rfl | decide +kernel)
  (case a_l_spans => first | k_is | rfl | kernel_rfl | decide +kernel); (case l_l_spans => first | k_is | rfl | kernel_rfl | decide +kernel); (case c_l_spans => first | k_is | rfl | kernel_rfl | decide +kernel); (case k_l_spans => first | k_is | rfl | kernel_rfl | decide +kernel)
  (case a_l_bent => first | k_is | rfl | kernel_rfl | decide +kernel); (case l_l_bent => first | k_is | rfl | kernel_rfl | decide +kernel); (case c_l_bent => first | k_is | rfl | kernel_rfl | decide +kernel); (case k_l_bent => first | k_is | rfl | kernel_rfl | decide +kernel)
  (case a_l_refused => first | k_is | rfl | kernel_rfl | decide +kernel); (case l_l_refused => first | k_is | rfl | kernel_rfl | decide +kernel); (case c_l_refused => first | k_is | rfl | kernel_rfl | decide +kernel); (case k_l_refused => first | k_is | rfl | kernel_rfl | decide +kernel)
