import PyProof.Rows.All
import Wide.All
import OpenK.AllK
import Wide.FinOn
import HandS.ForMost
import HandS.TupAny
import HandS.TupMul
import HandS.Deep
import HandS.Walk
import KE.DataEq
import KE.DataCmp
import KE.LtData
import KE.SortData
import HandS.Strs
import HandS.Style
import HandS.Defaults
import HandS.Zip
import KE.GoesMore
import KE.GoesEnum
import KE.DataMinMax
import HandS.TryOnly
import KE.SortCalls
import HandS.Exc
import HandS.Head0
import HandS.Head1
import HandS.Head2
import HandS.HeadEnd
import HandS.HeadHook1
import HandS.HeadHook2
import PySem.Challenge.RW_lanerows_k60_short
/-! TFo.lean -/
set_option Elab.async false
set_option linter.all false
set_option maxRecDepth 100000
/-! TF.o: tuples that are known to the last field (no dict of their own), so that their methods can be called -/
namespace TF
open PySem PySem.Spec PyProof.Rows L2
/-- a tuple of the items its -/
def tobj (its : List Value) : Obj := { cls := .type "tuple", data := .seq its.toArray }
def fz (its : List Value) (xs : List V) : HO := .frz (tobj its) (.tup xs)
theorem sqT_fz {K : PySem.W.Frag} {H : Hp} {a : Addr} {its : List Value} {xs : List V} (h : H a = some (fz its xs)) : SqT K H a xs := .inl (.inr ⟨_, h⟩)
theorem fz_ok {P : Program} {w : World} {H : Hp} {h : Heap} {a : Addr} {its : List Value} {xs : List V} (r : Vals xs its) (z : xs.length ≤ sizeLine) (e : h.get? a = some (tobj its)) : ObjOk P w H h a (fz its xs) :=
  ⟨e, z, its, r, ⟨_, e, rfl, _, rfl⟩⟩
section
variable {X : Cx} {es : List Expr} {t : TA} {pos : Pos}
def tTupF (t : TA) : TE := fun σ H Q => t σ H fun xs H1 => xs.length ≤ sizeLine ∧ ∀ p its, H1 p = none → Q (.ref p) (upd H1 p (fz its xs))
theorem pe_tupF {x1} (h : PA X es t) : PE X (.Tuple es x1 pos) (tTupF t) := by
  refine ⟨fun pins s σ H Q I hq => ?_⟩
  refine wpAny_Tuple_spliced (thn (h.run pos pins s σ H _ I hq) fun us s1 ⟨xs, H1, I1, r, z, q⟩ => ⟨by rw [← r.length]; exact z, ?_⟩)
  have hf : H1 s1.heap.objs.size = none := I1.hok.fresh (Nat.le_refl _)
  exact ⟨.ref s1.heap.objs.size, _, I1.laid (t' := s1.toks) (fun b u e => Heap.get?_push_of_some _ e) (Nat.le_refl _) (fz_ok r z (Heap.get?_push_size _ rfl)), rfl, q _ us hf⟩
def rCatF (K : PySem.W.Frag) : R2 := fun x y H Q => ∃ a b xs ys, x = .ref a ∧ y = .ref b ∧ SqT K H a xs ∧ SqT K H b ys ∧ xs.length + ys.length ≤ sizeLine ∧
  (xs = [] → Q (.ref b) H) ∧ (xs ≠ [] → ys = [] → Q (.ref a) H) ∧ (xs ≠ [] → ys ≠ [] → ∀ p its, H p = none → Q (.ref p) (upd H p (fz its (xs ++ ys))))
theorem op_catF : OpR X (binaryOp .Add) (rCatF X.K) := by
  intro pins s σ H x y v u Q I rx ry h
  obtain ⟨a, b, xs, ys, rfl, rfl, ha, hb, hz, q0, q1, q2⟩ := h
  by_cases hx : xs = []
  · exact op_catA pins s σ H _ _ v u Q I rx ry ⟨a, b, xs, ys, rfl, rfl, ha, hb, hz, q0, q1, fun z => absurd hx z⟩
  · cases rx
    cases ry
    obtain ⟨its, r1, p1, _⟩ := I.tuple ha
    obtain ⟨its2, r2, p2, _⟩ := I.tuple hb
    refine HT.cat_tup p1 p2 (fun z => hx (r1.nil_iff.mp z)) (fun z => ⟨.ref a, H, I, rfl, q1 hx (r2.nil_iff.mp z)⟩) (fun z => ?_) (by rw [← r1.length, ← r2.length]; exact hz)
    exact ⟨.ref s.heap.objs.size, _, I.laid (t' := s.toks) (fun b ob q => Heap.get?_push_of_some _ q) (Nat.le_refl _) (fz_ok (r1.append r2) (by rw [List.length_append]; exact hz) (Heap.get?_push_size _ rfl)), rfl, q2 hx (fun w => z (r2.nil_iff.mpr w)) _ _ (I.hok.fresh (Nat.le_refl _))⟩
def rSlF (K : PySem.W.Frag) : V → Option Int → Option Int → Hp → VK → Prop := fun x lo hi H Q => ∃ a xs, x = .ref a ∧ SqT K H a xs ∧
  (HT.sIx xs.length 0 lo = 0 ∧ HT.sIx xs.length xs.length hi = xs.length → Q (.ref a) H) ∧ (¬ (HT.sIx xs.length 0 lo = 0 ∧ HT.sIx xs.length xs.length hi = xs.length) → ∀ p its, H p = none → Q (.ref p) (upd H p (fz its (cutV xs lo hi))))
theorem sl_tupF : SlR X (rSlF X.K) := by
  intro pins s σ H x v vl vu lo hi sl Q I rx hs pl pu h
  obtain ⟨a, xs, rfl, hx, q1, q2⟩ := h
  by_cases hw : HT.sIx xs.length 0 lo = 0 ∧ HT.sIx xs.length xs.length hi = xs.length
  · exact sl_tupA pins s σ H _ v vl vu lo hi sl Q I rx hs pl pu ⟨a, xs, rfl, hx, q1, fun z => absurd hw z⟩
  · cases rx
    obtain ⟨its, r, ht, hz⟩ := I.tuple hx
    have hlen : its.toArray.size = xs.length := by rw [List.size_toArray]; exact r.length.symm
    refine ⟨"tuple", _, PyProof.Rows.slot_tuple_getitem.lookup, ht.typeIs, ?_⟩
    refine HT.getItem_tuple_cut ht hs pl pu (by rw [hlen]; exact hw) ?_ (by rw [hlen]; exact hz)
    rw [hlen]
    exact ⟨.ref s.heap.objs.size, _, I.laid (t' := s.toks) (fun b ob q => Heap.get?_push_of_some _ q) (Nat.le_refl _)
      (fz_ok ((r.drop (HT.sIx xs.length 0 lo)).take (HT.sIx xs.length xs.length hi - HT.sIx xs.length 0 lo)) (Nat.le_trans (cutV_length xs lo hi) hz) (Heap.get?_push_size _ rfl)), rfl, q2 hw _ _ (I.hok.fresh (Nat.le_refl _))⟩
theorem call_tupleF : CallR X (.type "tuple") (fun xs H Q => ∃ p ys, xs = [.ref p] ∧ ((SqL X.K H p ys ∧ ∀ l its, H l = none → Q (.ref l) (upd H l (fz its ys))) ∨ (SqT X.K H p ys ∧ Q (.ref p) H))) := by
  intro pins s σ H xs us Q I r h
  obtain ⟨p, ys, rfl, h⟩ := h
  obtain ⟨u, rfl, rx⟩ := vals1 r
  cases rx
  rcases h with ⟨hq, q⟩ | ⟨hq, q⟩
  · obtain ⟨its, r', pl, hz⟩ := I.list hq
    have hlen := r'.length
    have hn := line63
    refine call_tuple_list pl.isList (fun h' kp => ?_) (by simp only [List.size_toArray] <;> omega)
    have I1 : Inv X pins σ H { s with heap := h' } := I.kept (t' := s.toks) kp
    have I2 : Inv X pins σ (upd H h'.objs.size (fz its ys)) { s with heap := h'.push { cls := .type "tuple", data := .seq its.toArray } } :=
      I1.laid (t' := s.toks) (fun b o e => Heap.get?_push_of_some _ e) (Nat.le_refl _) (fz_ok r' hz (Heap.get?_push_size _ rfl))
    exact ⟨.ref h'.objs.size, _, I2, rfl, q _ _ (I1.hok.fresh (Nat.le_refl _))⟩
  · obtain ⟨its, r', pl, hz⟩ := I.tuple hq
    exact call_tuple_same pl ⟨.ref p, H, I, rfl, q⟩
/-- t.m(..) of a tuple known to the last field -/
def tBMT (K : PySem.W.Frag) (r : V → List V → Hp → VK → Prop) (to : TE) (t : TA) : TE := fun σ H Q => to σ H fun x H1 => (∃ a its xs, x = .ref a ∧ H1 a = some (fz its xs)) ∧ t σ H1 fun xs H2 => r x xs H2 Q
variable {o e : Expr} {to : TE} {name : Str} {apos cpos : Pos} {id : String} {r : V → List V → Hp → VK → Prop}
theorem pe_bmT (pa : PlainAttrs "tuple") (slot : Slot "tuple" name id) (hty : typeOf (.builtin id) = pure (.type "method_descriptor")) (hm : MtR X id r) (ho : PE X o to) (ha : PA X (e :: es) t)
    (hbase : attributeBase o name X.env (eval o X.env) = eval o X.env := by rfl)
    (hfew : ((backTo cpos (starEach (e :: es) X.env)).all (fun x => !x.1) && (backToKw cpos (keywordEach [] X.env)).all (fun x => x.1.isSome)
      && decide ((e :: es).length + ([] : List Keyword).length + (if ([] : List Keyword).isEmpty then 0 else 1) < 30)) = true := by rfl)
    (hline : (apos.endLine == cpos.line) = true := by rfl) (hs : starEach (e :: es) X.env = (false, eval e X.env) :: starEach es X.env := by rfl) (hplain : (backTo cpos (starEach es X.env)).any (·.1) = false := by rfl) :
    PE X (.Call (.Attribute o name apos) (e :: es) [] cpos) (tBMT X.K r to t) := by
  refine ⟨fun pins s σ H Q I h => ?_⟩
  refine wpAny_Call_method_late hbase hfew hline rfl (thn (ho.run pins s σ H _ I h) fun v s1 ⟨x, H1, I1, r1, ⟨a, its, xs, ex, hx⟩, q1⟩ => ?_)
  subst ex
  cases r1
  have ok : s1.heap.get? a = some (tobj its) := (I1.hok a _ hx).1
  refine ⟨"tuple", id, pa, slot, hty, ⟨_, ok, rfl⟩, (fun b e => by cases e; exact ⟨_, ok, rfl⟩), ?_⟩
  have hA := ha.run cpos pins s1 σ H1 _ I1 q1
  rw [hs] at hA ⊢
  refine Calls.callWith_builtin (by show (false || (backTo cpos (starEach es X.env)).any (·.1)) = false; rw [hplain] <;> rfl) (Calls.evalArgs_plain ?_)
  exact thn hA fun us s2 ⟨vs, H2, I2, r2, q2⟩ => hm pins s2 σ H2 (.ref a) vs (.ref a) us Q I2 rfl r2 q2
end
end TF

/-! TFa.lean -/
set_option Elab.async false
set_option linter.all false
set_option maxRecDepth 100000
/-! TF.a: data of the heap, told as PyData; what is private -/
namespace TF
open PySem PySem.Spec PyProof.Rows L2

abbrev D := PyData
abbrev St := L2.St
abbrev Rho := List (Option PyData)
abbrev HpN : Hp := fun _ => none
/-- the script, as data -/
def scr (ns : List Int) : PyData := .dict (ns.map fun n => (.int n, .none))

mutual
inductive Dq (K : PySem.W.Frag) (H : Hp) (P : Addr → Prop) : V → PyData → Prop
  | non : Dq K H P .non .none
  | bl (b : Bool) : Dq K H P (.bl b) (.bool b)
  | int (i : Int) : Dq K H P (.int i) (.int i)
  | str (x : Str) : Dq K H P (.str x) (.str x)
  | lst {a : Addr} {xs : List V} {ds : List PyData} : H a = some (.lst xs) → ¬ P a → DqA K H P xs ds → Dq K H P (.ref a) (.list ds)
  | tup {a : Addr} {its : List Value} {xs : List V} {ds : List PyData} : H a = some (fz its xs) → ¬ P a → DqA K H P xs ds → Dq K H P (.ref a) (.tuple ds)
  | sck {a : Addr} {ns : List Int} : SqL K HpN a (ns.map V.int) → Dq K H P (.ref a) (scr ns)
  | scf {a : Addr} {ns : List Int} {o : Obj} : H a = some (.frz o (.lst (ns.map V.int))) → ¬ P a → Dq K H P (.ref a) (scr ns)
inductive DqA (K : PySem.W.Frag) (H : Hp) (P : Addr → Prop) : List V → List PyData → Prop
  | nil : DqA K H P [] []
  | cons {v : V} {vs : List V} {d : PyData} {ds : List PyData} : Dq K H P v d → DqA K H P vs ds → DqA K H P (v :: vs) (d :: ds)
end

section
variable {K : PySem.W.Frag} {H H' : Hp} {P P' : Addr → Prop}
mutual
theorem Dq.mono (k : ∀ a u, H a = some u → ¬ P a → H' a = some u ∧ ¬ P' a) : ∀ {v : V} {d : PyData}, Dq K H P v d → Dq K H' P' v d
  | _, _, .non => .non
  | _, _, .bl b => .bl b
  | _, _, .int i => .int i
  | _, _, .str x => .str x
  | _, _, .lst h n t => .lst (k _ _ h n).1 (k _ _ h n).2 (DqA.mono k t)
  | _, _, .tup h n t => .tup (k _ _ h n).1 (k _ _ h n).2 (DqA.mono k t)
  | _, _, .sck h => .sck h
  | _, _, .scf h n => .scf (k _ _ h n).1 (k _ _ h n).2
theorem DqA.mono (k : ∀ a u, H a = some u → ¬ P a → H' a = some u ∧ ¬ P' a) : ∀ {vs : List V} {ds : List PyData}, DqA K H P vs ds → DqA K H' P' vs ds
  | _, _, .nil => .nil
  | _, _, .cons h t => .cons (Dq.mono k h) (DqA.mono k t)
end
theorem HpN_lst {a : Addr} {xs : List V} (h : SqL K HpN a xs) : SqL K H a xs := by
  rcases h with (h | ⟨o, h⟩) | h
  · cases h
  · cases h
  · exact .inr h
theorem HpN_tup {a : Addr} {xs : List V} (h : SqT K HpN a xs) : SqT K H a xs := by
  rcases h with (h | ⟨o, h⟩) | h
  · cases h
  · cases h
  · exact .inr h
/-- read: the root may be private -/
def Dr (K : PySem.W.Frag) (H : Hp) (P : Addr → Prop) (v : V) (d : PyData) : Prop :=
  Dq K H P v d ∨ ∃ a xs ds, v = .ref a ∧ d = .list ds ∧ H a = some (.lst xs) ∧ DqA K H P xs ds
theorem Dq.r {v : V} {d : PyData} (h : Dq K H P v d) : Dr K H P v d := .inl h
theorem Dr.mono (k : ∀ a u, H a = some u → ¬ P a → H' a = some u ∧ ¬ P' a) (kl : ∀ a u, H a = some u → H' a = some u) {v : V} {d : PyData} (h : Dr K H P v d) : Dr K H' P' v d := by
  rcases h with h | ⟨a, xs, ds, e1, e2, h, t⟩
  · exact .inl (h.mono k)
  · exact .inr ⟨a, xs, ds, e1, e2, kl _ _ h, t.mono k⟩
theorem same_k (e : Same H H') : ∀ a u, H a = some u → ¬ P a → H' a = some u ∧ ¬ P a := fun a u h n => ⟨e a u h, n⟩
theorem Dq.same (e : Same H H') {v : V} {d : PyData} (h : Dq K H P v d) : Dq K H' P v d := h.mono (same_k e)
theorem DqA.same (e : Same H H') {v : List V} {d : List PyData} (h : DqA K H P v d) : DqA K H' P v d := h.mono (same_k e)
theorem Dr.same (e : Same H H') {v : V} {d : PyData} (h : Dr K H P v d) : Dr K H' P v d := h.mono (same_k e) e
/-- fewer private ones -/
theorem Dq.anti (s : ∀ a, P' a → P a) {v : V} {d : PyData} (h : Dq K H P v d) : Dq K H P' v d := h.mono fun a u q n => ⟨q, fun z => n (s a z)⟩
theorem DqA.anti (s : ∀ a, P' a → P a) {v : List V} {d : List PyData} (h : DqA K H P v d) : DqA K H P' v d := h.mono fun a u q n => ⟨q, fun z => n (s a z)⟩

theorem DqA.length : ∀ {vs : List V} {ds : List PyData}, DqA K H P vs ds → vs.length = ds.length
  | _, _, .nil => rfl
  | _, _, .cons _ t => congrArg (· + 1) (DqA.length t)
theorem DqA.append : ∀ {vs ws : List V} {ds es : List PyData}, DqA K H P vs ds → DqA K H P ws es → DqA K H P (vs ++ ws) (ds ++ es)
  | _, _, _, _, .nil, u => u
  | _, _, _, _, .cons h t, u => .cons h (DqA.append t u)
theorem DqA.get : ∀ {vs : List V} {ds : List PyData} {i : Nat} {d : PyData}, DqA K H P vs ds → ds[i]? = some d → ∃ v, vs[i]? = some v ∧ Dq K H P v d
  | _, _, _, _, .nil, e => by simp at e
  | _, _, 0, _, .cons h _, e => by simp at e; subst e; exact ⟨_, rfl, h⟩
  | _, _, i + 1, d, .cons _ t, e => by
    obtain ⟨v, h1, h2⟩ := DqA.get (i := i) (d := d) t (by simpa using e)
    exact ⟨v, by simpa using h1, h2⟩
theorem DqA.getV : ∀ {vs : List V} {ds : List PyData} {i : Nat} {v : V}, DqA K H P vs ds → vs[i]? = some v → ∃ d, ds[i]? = some d ∧ Dq K H P v d
  | _, _, _, _, .nil, e => by simp at e
  | _, _, 0, _, .cons h _, e => by simp at e; subst e; exact ⟨_, rfl, h⟩
  | _, _, i + 1, d, .cons _ t, e => by
    obtain ⟨v, h1, h2⟩ := DqA.getV (i := i) (v := d) t (by simpa using e)
    exact ⟨v, by simpa using h1, h2⟩
theorem DqA.take : ∀ {vs : List V} {ds : List PyData} (n : Nat), DqA K H P vs ds → DqA K H P (vs.take n) (ds.take n)
  | _, _, 0, _ => .nil
  | _, _, _ + 1, .nil => .nil
  | _, _, n + 1, .cons h t => .cons h (DqA.take n t)
theorem DqA.drop : ∀ {vs : List V} {ds : List PyData} (n : Nat), DqA K H P vs ds → DqA K H P (vs.drop n) (ds.drop n)
  | _, _, 0, t => t
  | _, _, _ + 1, .nil => .nil
  | _, _, n + 1, .cons _ t => DqA.drop n t
theorem DqA.reverse : ∀ {vs : List V} {ds : List PyData}, DqA K H P vs ds → DqA K H P vs.reverse ds.reverse
  | _, _, .nil => .nil
  | _, _, .cons h t => by rw [List.reverse_cons, List.reverse_cons]; exact DqA.append (DqA.reverse t) (.cons h .nil)
theorem DqA.rep {vs : List V} {ds : List PyData} (h : DqA K H P vs ds) : ∀ k : Nat, DqA K H P (List.replicate k vs).flatten (List.replicate k ds).flatten
  | 0 => .nil
  | k + 1 => by
    rw [List.replicate_succ, List.replicate_succ, List.flatten_cons, List.flatten_cons]
    exact DqA.append h (DqA.rep h k)
theorem DqA.dropLast {vs : List V} {ds : List PyData} (h : DqA K H P vs ds) : DqA K H P vs.dropLast ds.dropLast := by
  rw [List.dropLast_eq_take, List.dropLast_eq_take, h.length]
  exact h.take _
theorem DqA.nil_iff {vs : List V} {ds : List PyData} (h : DqA K H P vs ds) : vs = [] ↔ ds = [] := by
  cases h <;> simp

theorem Dr.non {v : V} (h : Dr K H P v .none) : v = .non := by
  rcases h with h | ⟨_, _, _, _, e, _⟩
  · cases h; rfl
  · cases e
theorem Dr.bl {v : V} {b : Bool} (h : Dr K H P v (.bool b)) : v = .bl b := by
  rcases h with h | ⟨_, _, _, _, e, _⟩
  · cases h; rfl
  · cases e
theorem Dr.int {v : V} {i : Int} (h : Dr K H P v (.int i)) : v = .int i := by
  rcases h with h | ⟨_, _, _, _, e, _⟩
  · cases h; rfl
  · cases e
theorem Dr.str {v : V} {x : Str} (h : Dr K H P v (.str x)) : v = .str x := by
  rcases h with h | ⟨_, _, _, _, e, _⟩
  · cases h; rfl
  · cases e
theorem Dr.lst {v : V} {ds : List PyData} (h : Dr K H P v (.list ds)) : ∃ a xs, v = .ref a ∧ H a = some (.lst xs) ∧ DqA K H P xs ds := by
  rcases h with h | ⟨a, xs, es, e1, e2, h, t⟩
  · cases h with
    | lst h n t => exact ⟨_, _, rfl, h, t⟩
  · cases e2
    exact ⟨a, xs, e1, h, t⟩
theorem Dq.tupI {v : V} {ds : List PyData} (h : Dq K H P v (.tuple ds)) : ∃ a xs, v = .ref a ∧ SqT K H a xs ∧ DqA K H P xs ds := by
  cases h with
  | tup h n t => exact ⟨_, _, rfl, sqT_fz h, t⟩
theorem Dr.tup {v : V} {ds : List PyData} (h : Dr K H P v (.tuple ds)) : ∃ a xs, v = .ref a ∧ SqT K H a xs ∧ DqA K H P xs ds := by
  rcases h with h | ⟨a, xs, es, e1, e2, h, t⟩
  · exact h.tupI
  · cases e2
theorem Dr.tupQ {v : V} {ds : List PyData} (h : Dr K H P v (.tuple ds)) : Dq K H P v (.tuple ds) := by
  rcases h with h | ⟨a, xs, es, e1, e2, h, t⟩
  · exact h
  · cases e2
theorem scr_inj : ∀ {ns ms : List Int}, scr ns = scr ms → ns = ms := by
  intro ns
  induction ns with
  | nil => intro ms h; cases ms with
    | nil => rfl
    | cons m ms => simp [scr] at h
  | cons n ns ih => intro ms h; cases ms with
    | nil => simp [scr] at h
    | cons m ms =>
      simp only [scr, List.map_cons, PyData.dict.injEq, List.cons.injEq, Prod.mk.injEq, PyData.int.injEq, and_true] at h
      have e : ns = ms := ih (by unfold scr; rw [h.2])
      rw [h.1, e]
theorem Dr.scr {v : V} {ns : List Int} (h : Dr K H P v (scr ns)) : ∃ a, v = .ref a ∧ SqL K H a (ns.map V.int) := by
  generalize e : TF.scr ns = d at h
  rcases h with h | ⟨a, xs, es, e1, e2, h, t⟩
  · cases h with
    | sck h => cases scr_inj e; exact ⟨_, rfl, HpN_lst h⟩
    | scf h n => cases scr_inj e; exact ⟨_, rfl, .inl (.inr ⟨_, h⟩)⟩
    | _ => cases e
  · subst e2; cases e

mutual
theorem Dq.dp : ∀ {v : V} {d : PyData}, Dq K H P v d → d.plain = true → Dp K H v d
  | _, _, .non, _ => .non
  | _, _, .bl b, _ => .bl b
  | _, _, .int i, _ => .int i
  | _, _, .str x, _ => .str x
  | _, _, .lst h n t, c => .lst (SqL.of h) (DqA.dp t (by simpa only [PyData.plain] using c))
  | _, _, .tup h n t, c => .tup (sqT_fz h) (DqA.dp t (by simpa only [PyData.plain] using c))
  | _, _, .sck h, c => by simp [TF.scr, PyData.plain] at c
  | _, _, .scf h n, c => by simp [TF.scr, PyData.plain] at c
theorem DqA.dp : ∀ {v : List V} {d : List PyData}, DqA K H P v d → PyData.plainAll d = true → DpAll K H v d
  | _, _, .nil, _ => .nil
  | _, _, .cons h t, c => by
    simp only [PyData.plainAll, Bool.and_eq_true] at c
    exact .cons (Dq.dp h c.1) (DqA.dp t c.2)
end
theorem Dr.dp {v : V} {d : PyData} (h : Dr K H P v d) (c : d.plain = true) : Dp K H v d := by
  rcases h with h | ⟨a, xs, ds, e1, e2, h, t⟩
  · exact h.dp c
  · subst e1 e2
    exact .lst (SqL.of h) (t.dp (by simpa only [PyData.plain] using c))
end
end TF

/-! TFb.lean -/
set_option Elab.async false
set_option linter.all false
set_option maxRecDepth 100000
/-! TF.b: the state told by an environment; expressions as functions of it -/
namespace TF
open PySem PySem.Spec PyProof.Rows L2

/-- the slots σ at the heap H are told by ρ; H0 the heap at the entry, P0 what was private there, P what is private now, o the slots that hold a list of one's own -/
structure Rel (K : PySem.W.Frag) (H0 : Hp) (P0 : Addr → Prop) (H : Hp) (P : Addr → Prop) (o : List Nat) (σ : St) (ρ : Rho) : Prop where
  sub : ∀ a, P0 a → P a
  tr0 : ∀ a, P0 a → ∃ u, H0 a = some u
  tr : ∀ a, P a → ∃ u, H a = some u
  same : Same H0 H
  own : ∀ i, i ∈ o → ∃ a xs ds, σ[i]? = some (some (.ref a)) ∧ ρ[i]? = some (some (.list ds)) ∧ P a ∧ H0 a = none ∧ H a = some (.lst xs) ∧ DqA K H P xs ds
  dis : ∀ i j a b, i ∈ o → j ∈ o → i ≠ j → σ[i]? = some (some (.ref a)) → σ[j]? = some (some (.ref b)) → a ≠ b
  dat : ∀ i d, i ∉ o → ρ[i]? = some (some d) → ∃ v, σ[i]? = some (some v) ∧ Dq K H P v d
  len : ρ.length = σ.length

section
variable {K : PySem.W.Frag} {H0 H H' : Hp} {P0 P : Addr → Prop} {o : List Nat} {σ : St} {ρ : Rho}
theorem Rel.go (R : Rel K H0 P0 H P o σ ρ) (e : Same H H') : Rel K H0 P0 H' P o σ ρ where
  sub := R.sub
  tr0 := R.tr0
  tr := fun a h => let ⟨u, q⟩ := R.tr a h; ⟨u, e a u q⟩
  same := R.same.trans e
  own := fun i hi => by
    obtain ⟨a, xs, ds, h1, h2, h3, h4, h5, h6⟩ := R.own i hi
    exact ⟨a, xs, ds, h1, h2, h3, h4, e _ _ h5, h6.same e⟩
  dis := R.dis
  dat := fun i d hi h => let ⟨v, h1, h2⟩ := R.dat i d hi h; ⟨v, h1, h2.same e⟩
  len := R.len
theorem Rel.read (R : Rel K H0 P0 H P o σ ρ) {i : Nat} {d : PyData} (h : ρ[i]? = some (some d)) : ∃ v, σ[i]? = some (some v) ∧ Dr K H P v d := by
  by_cases hi : i ∈ o
  · obtain ⟨a, xs, ds, h1, h2, h3, h4, h5, h6⟩ := R.own i hi
    rw [h] at h2; cases h2
    exact ⟨_, h1, .inr ⟨a, xs, ds, rfl, rfl, h5, h6⟩⟩
  · obtain ⟨v, h1, h2⟩ := R.dat i d hi h
    exact ⟨v, h1, .inl h2⟩
/-- a new object is not private -/
theorem Rel.newP (R : Rel K H0 P0 H P o σ ρ) {p : Addr} (h : H p = none) : ¬ P p := fun z => by
  obtain ⟨u, q⟩ := R.tr p z
  rw [h] at q; cases q
end
theorem same_upd {H : Hp} {p : Addr} (h : H p = none) (u : HO) : Same H (upd H p u) := fun b w q => by rw [upd_ne (ne_of_none q h)]; exact q

/-! ### judgements -/
/-- a value that nothing private is in -/
def tV (K : PySem.W.Frag) (o : List Nat) (f : Rho → Option PyData) : TE := fun σ H Q => ∃ H0 P0 P ρ d, Rel K H0 P0 H P o σ ρ ∧ f ρ = some d ∧ ∀ v H', Same H H' → Dq K H' P v d → Q v H'
/-- a value that is read at once -/
def tR (K : PySem.W.Frag) (o : List Nat) (f : Rho → Option PyData) : TE := fun σ H Q => ∃ H0 P0 P ρ d, Rel K H0 P0 H P o σ ρ ∧ f ρ = some d ∧ ∀ v H', Same H H' → Dr K H' P v d → Q v H'
/-- a list that stands at a new place -/
def tN (K : PySem.W.Frag) (o : List Nat) (f : Rho → Option (List PyData)) : TE := fun σ H Q => ∃ H0 P0 P ρ ds, Rel K H0 P0 H P o σ ρ ∧ f ρ = some ds ∧
  ∀ p xs H', Same H H' → H p = none → H' p = some (.lst xs) → DqA K H' (fun a => a = p ∨ P a) xs ds → Q (.ref p) H'
def tT (K : PySem.W.Frag) (o : List Nat) (f : Rho → Option Bool) : TT := fun σ H Q => ∃ H0 P0 P ρ b, Rel K H0 P0 H P o σ ρ ∧ f ρ = some b ∧ ∀ H', Same H H' → Q b H'
def tAs (K : PySem.W.Frag) (o : List Nat) (f : Rho → Option (List PyData)) : TA := fun σ H Q => ∃ H0 P0 P ρ ds, Rel K H0 P0 H P o σ ρ ∧ f ρ = some ds ∧ ∀ vs H', Same H H' → DqA K H' P vs ds → Q vs H'
abbrev EV (X : Cx) (o : List Nat) (e : Expr) (f : Rho → Option PyData) : Prop := PE X e (tV X.K o f)
abbrev ER (X : Cx) (o : List Nat) (e : Expr) (f : Rho → Option PyData) : Prop := PE X e (tR X.K o f)
abbrev EN (X : Cx) (o : List Nat) (e : Expr) (f : Rho → Option (List PyData)) : Prop := PE X e (tN X.K o f)
abbrev ET (X : Cx) (o : List Nat) (e : Expr) (f : Rho → Option Bool) : Prop := PT X e (tT X.K o f)
abbrev EW (X : Cx) (o : List Nat) (e : Expr) (f : Rho → Option Bool) : Prop := PW X e (tT X.K o f)
abbrev EA (X : Cx) (o : List Nat) (es : List Expr) (f : Rho → Option (List PyData)) : Prop := PA X es (tAs X.K o f)

section
variable {X : Cx} {e : Expr} {es : List Expr} {st : Stmt} {sts : List Stmt}
theorem PE.imp {t t' : TE} (h : PE X e t) (i : ∀ σ H Q, t' σ H Q → t σ H Q) : PE X e t' := ⟨fun pins s σ H Q I q => h.run pins s σ H Q I (i σ H Q q)⟩
theorem PT.imp {t t' : TT} (h : PT X e t) (i : ∀ σ H Q, t' σ H Q → t σ H Q) : PT X e t' := ⟨fun pins s σ H Q I q => h.run pins s σ H Q I (i σ H Q q)⟩
theorem PW.imp {t t' : TT} (h : PW X e t) (i : ∀ σ H Q, t' σ H Q → t σ H Q) : PW X e t' := ⟨fun wh pins s σ H Q I q => h.run wh pins s σ H Q I (i σ H Q q)⟩
theorem PA.imp {t t' : TA} (h : PA X es t) (i : ∀ σ H Q, t' σ H Q → t σ H Q) : PA X es t' := ⟨fun pos pins s σ H Q I q => h.run pos pins s σ H Q I (i σ H Q q)⟩
theorem PS.imp {t t' : TS} (h : PS X st t) (i : ∀ D σ H, t' D σ H → t D σ H) : PS X st t' := ⟨fun pins s σ H D I q => h.run pins s σ H D I (i D σ H q)⟩
theorem PSs.imp {t t' : TS} (h : PSs X sts t) (i : ∀ D σ H, t' D σ H → t D σ H) : PSs X sts t' := ⟨fun pins s σ H D I q => h.run pins s σ H D I (i D σ H q)⟩
variable {o : List Nat} {f : Rho → Option PyData}
theorem EV.r (h : EV X o e f) : ER X o e f := PE.imp h fun σ H Q ⟨H0, P0, P, ρ, d, R, e, q⟩ => ⟨H0, P0, P, ρ, d, R, e, fun v H' s z => q v H' s (.inl z)⟩
def eL (g : Rho → Option (List PyData)) : Rho → Option PyData := fun ρ => (g ρ).map PyData.list
theorem EN.v {g : Rho → Option (List PyData)} (h : EN X o e g) : EV X o e (eL g) := PE.imp h fun σ H Q ⟨H0, P0, P, ρ, d, R, e, q⟩ => by
  unfold eL at e
  cases eg : g ρ with
  | none => rw [eg] at e; cases e
  | some ds =>
    rw [eg] at e; cases e
    refine ⟨H0, P0, P, ρ, ds, R, eg, fun p xs H' s n hp t => q _ H' s ?_⟩
    exact .lst hp (R.newP n) (t.anti fun a z => .inr z)

/-! ### names, constants -/
def eVar (i : Nat) : Rho → Option PyData := fun ρ => ρ.getD i none
theorem eVar_some {i : Nat} {ρ : Rho} {d : PyData} (e : eVar i ρ = some d) : ρ[i]? = some (some d) := by
  unfold eVar at e
  rw [List.getD_eq_getElem?_getD] at e
  cases z : ρ[i]? with
  | none => rw [z] at e; cases e
  | some u => rw [z] at e; simpa using e
def eC (d : PyData) : Rho → Option PyData := fun _ => some d
/-- x, read -/
theorem er_var (i : Nat) {x : Str} {pos : Pos} (h : PE X (.Name x pos) (tVar i)) : ER X o (.Name x pos) (eVar i) := PE.imp h fun σ H Q ⟨H0, P0, P, ρ, d, R, e, q⟩ => by
  have e' := eVar_some e
  obtain ⟨v, h1, h2⟩ := R.read e'
  exact ⟨v, h1, q v H (Same.refl H) h2⟩
/-- x, no list of one's own -/
theorem ev_var (i : Nat) {x : Str} {pos : Pos} (h : PE X (.Name x pos) (tVar i)) (hi : i ∉ o := by decide) : EV X o (.Name x pos) (eVar i) := PE.imp h fun σ H Q ⟨H0, P0, P, ρ, d, R, e, q⟩ => by
  have e' := eVar_some e
  obtain ⟨v, h1, h2⟩ := R.dat i d hi e'
  exact ⟨v, h1, q v H (Same.refl H) h2⟩
theorem ev_int {i : Int} {j pos} : EV X o (.Constant (.int i) j pos) (eC (.int i)) := PE.imp pe_int fun σ H Q ⟨H0, P0, P, ρ, d, R, e, q⟩ => by cases e; exact q _ H (Same.refl H) (.int i)
theorem ev_bl {i : Bool} {j pos} : EV X o (.Constant (.bool i) j pos) (eC (.bool i)) := PE.imp pe_bl fun σ H Q ⟨H0, P0, P, ρ, d, R, e, q⟩ => by cases e; exact q _ H (Same.refl H) (.bl i)
theorem ev_str {i : Str} {j pos} : EV X o (.Constant (.str i) j pos) (eC (.str i)) := PE.imp pe_str fun σ H Q ⟨H0, P0, P, ρ, d, R, e, q⟩ => by cases e; exact q _ H (Same.refl H) (.str i)
theorem ev_non {j pos} : EV X o (.Constant .none j pos) (eC .none) := PE.imp pe_non fun σ H Q ⟨H0, P0, P, ρ, d, R, e, q⟩ => by cases e; exact q _ H (Same.refl H) .non
/-- a module's constant: an int, a text -/
theorem ev_globI {x : Str} {i : Int} {t : Tok} {pos : Pos} (hg : Gl X x) (hm : X.mg x = some (.int i t)) (hd : (x == ("__debug__" : Str)) = false := by decide) : EV X o (.Name x pos) (eC (.int i)) :=
  PE.imp (pe_glob hg hm (v := .int i) ⟨t, rfl⟩ hd) fun σ H Q ⟨H0, P0, P, ρ, d, R, e, q⟩ => by cases e; exact q _ H (Same.refl H) (.int i)
theorem ev_globS {x : Str} {i : Str} {t : Tok} {pos : Pos} (hg : Gl X x) (hm : X.mg x = some (.str i t)) (hd : (x == ("__debug__" : Str)) = false := by decide) : EV X o (.Name x pos) (eC (.str i)) :=
  PE.imp (pe_glob hg hm (v := .str i) ⟨t, rfl⟩ hd) fun σ H Q ⟨H0, P0, P, ρ, d, R, e, q⟩ => by cases e; exact q _ H (Same.refl H) (.str i)

/-! ### two expressions, a rule by values -/
/-- by values: g of the data -/
def rF (K : PySem.W.Frag) (g : PyData → PyData → Option PyData) : R2 := fun x y H Q => ∃ P dx dy d, (∀ a, P a → ∃ u, H a = some u) ∧ Dr K H P x dx ∧ Dr K H P y dy ∧ g dx dy = some d ∧ ∀ v H', Same H H' → Dq K H' P v d → Q v H'
/-- .. a new list -/
def rFN (K : PySem.W.Frag) (g : PyData → PyData → Option (List PyData)) : R2 := fun x y H Q => ∃ P dx dy ds, (∀ a, P a → ∃ u, H a = some u) ∧ Dr K H P x dx ∧ Dr K H P y dy ∧ g dx dy = some ds ∧
  ∀ p xs H', Same H H' → H p = none → H' p = some (.lst xs) → DqA K H' (fun a => a = p ∨ P a) xs ds → Q (.ref p) H'
theorem OpR.imp {f : Value → Value → Sem Value} {r r' : R2} (h : OpR X f r) (i : ∀ x y H Q, r' x y H Q → r x y H Q) : OpR X f r' := fun pins s σ H x y v u Q I rx ry q => h pins s σ H x y v u Q I rx ry (i x y H Q q)
theorem IxR.imp {r r' : R2} (h : IxR X r) (i : ∀ x y H Q, r' x y H Q → r x y H Q) : IxR X r' := fun va sl pins s σ H x y v u Q I rx ry q hs => h va sl pins s σ H x y v u Q I rx ry (i x y H Q q) hs
theorem CallR.imp {f : Value} {r r' : List V → Hp → VK → Prop} (h : CallR X f r) (i : ∀ x H Q, r' x H Q → r x H Q) : CallR X f r' := fun pins s σ H vs us Q I r q => h pins s σ H vs us Q I r (i vs H Q q)

variable {a b : Expr} {fa fb : Rho → Option PyData} {pos : Pos}
def e2 {α : Type} (fa fb : Rho → Option PyData) (g : PyData → PyData → Option α) : Rho → Option α := fun ρ => (fa ρ).bind fun x => (fb ρ).bind fun y => g x y
theorem e2_some {α : Type} {g : PyData → PyData → Option α} {ρ : Rho} {d : α} (h : e2 fa fb g ρ = some d) : ∃ x y, fa ρ = some x ∧ fb ρ = some y ∧ g x y = some d := by
  unfold e2 at h
  cases ea : fa ρ with
  | none => rw [ea] at h; cases h
  | some x =>
    cases eb : fb ρ with
    | none => rw [ea, eb] at h; cases h
    | some y => rw [ea, eb] at h; exact ⟨x, y, rfl, rfl, h⟩
theorem t2_of {K : PySem.W.Frag} {g : PyData → PyData → Option PyData} {σ : St} {H : Hp} {Q : VK} (h : tV K o (e2 fa fb g) σ H Q) : tOp (rF K g) (tR K o fa) (tR K o fb) σ H Q := by
  obtain ⟨H0, P0, P, ρ, d, R, e, q⟩ := h
  obtain ⟨x, y, ha, hb, hg⟩ := e2_some e
  refine ⟨H0, P0, P, ρ, x, R, ha, fun v H1 s1 r1 => ?_⟩
  refine ⟨H0, P0, P, ρ, y, R.go s1, hb, fun u H2 s2 r2 => ?_⟩
  exact ⟨P, x, y, d, (R.go (s1.trans s2)).tr, r1.same s2, r2, hg, fun z H' s3 r3 => q z H' (s1.trans (s2.trans s3)) r3⟩
theorem t2N_of {K : PySem.W.Frag} {g : PyData → PyData → Option (List PyData)} {σ : St} {H : Hp} {Q : VK} (h : tN K o (e2 fa fb g) σ H Q) : tOp (rFN K g) (tR K o fa) (tR K o fb) σ H Q := by
  obtain ⟨H0, P0, P, ρ, d, R, e, q⟩ := h
  obtain ⟨x, y, ha, hb, hg⟩ := e2_some e
  refine ⟨H0, P0, P, ρ, x, R, ha, fun v H1 s1 r1 => ?_⟩
  refine ⟨H0, P0, P, ρ, y, R.go s1, hb, fun u H2 s2 r2 => ?_⟩
  exact ⟨P, x, y, d, (R.go (s1.trans s2)).tr, r1.same s2, r2, hg, fun p xs H' s3 n hp t => q p xs H' (s1.trans (s2.trans s3)) ((s1.trans s2).free n) hp t⟩
theorem ev_bin {op : Operator} {g : PyData → PyData → Option PyData} (ho : OpR X (binaryOp op) (rF X.K g)) (ha : ER X o a fa) (hb : ER X o b fb) : EV X o (.BinOp a op b pos) (e2 fa fb g) :=
  PE.imp (pe_op ho ha hb) fun σ H Q h => t2_of h
theorem en_bin {op : Operator} {g : PyData → PyData → Option (List PyData)} (ho : OpR X (binaryOp op) (rFN X.K g)) (ha : ER X o a fa) (hb : ER X o b fb) : EN X o (.BinOp a op b pos) (e2 fa fb g) :=
  PE.imp (pe_op ho ha hb) fun σ H Q h => t2N_of h
/-- a comparison gives a truth -/
def rFB (K : PySem.W.Frag) (g : PyData → PyData → Option Bool) : R2 := fun x y H Q => ∃ P dx dy d, (∀ a, P a → ∃ u, H a = some u) ∧ Dr K H P x dx ∧ Dr K H P y dy ∧ g dx dy = some d ∧ Q (.bl d) H
def eB (f : Rho → Option Bool) : Rho → Option PyData := fun ρ => (f ρ).map PyData.bool
theorem eB_some {f : Rho → Option Bool} {ρ : Rho} {d : PyData} (h : eB f ρ = some d) : ∃ b, f ρ = some b ∧ d = .bool b := by
  unfold eB at h
  cases e : f ρ with
  | none => rw [e] at h; cases h
  | some b => rw [e] at h; cases h; exact ⟨b, rfl, rfl⟩
theorem cmpB_of {K : PySem.W.Frag} {g : PyData → PyData → Option Bool} {σ : St} {H : Hp} {Q : VK} (h : tV K o (eB (e2 fa fb g)) σ H Q) : tOp (rFB K g) (tR K o fa) (tR K o fb) σ H Q := by
  obtain ⟨H0, P0, P, ρ, d, R, e, q⟩ := h
  obtain ⟨c, e', rfl⟩ := eB_some e
  clear e
  have e := e'
  clear e'
  obtain ⟨x, y, ha, hb, hg⟩ := e2_some e
  refine ⟨H0, P0, P, ρ, x, R, ha, fun v H1 s1 r1 => ?_⟩
  refine ⟨H0, P0, P, ρ, y, R.go s1, hb, fun u H2 s2 r2 => ?_⟩
  exact ⟨P, x, y, c, (R.go (s1.trans s2)).tr, r1.same s2, r2, hg, q _ _ (s1.trans s2) (.bl c)⟩
theorem cmpT_of {K : PySem.W.Frag} {g : PyData → PyData → Option Bool} {σ : St} {H : Hp} {Q : Bool → Hp → Prop} (h : tT K o (e2 fa fb g) σ H Q) : tTest (tOp (rFB K g) (tR K o fa) (tR K o fb)) σ H Q := by
  obtain ⟨H0, P0, P, ρ, c, R, e, q⟩ := h
  obtain ⟨x, y, ha, hb, hg⟩ := e2_some e
  refine ⟨H0, P0, P, ρ, x, R, ha, fun v H1 s1 r1 => ?_⟩
  refine ⟨H0, P0, P, ρ, y, R.go s1, hb, fun u H2 s2 r2 => ?_⟩
  exact ⟨P, x, y, c, (R.go (s1.trans s2)).tr, r1.same s2, r2, hg, c, rfl, q _ (s1.trans s2)⟩
theorem ev_cmp {op : CmpOp} {g : PyData → PyData → Option Bool} (ho : OpR X (compareOp op) (rFB X.K g)) (ha : ER X o a fa) (hb : ER X o b fb) (hm : behindInMarks op b = false) : EV X o (.Compare a [op] [b] pos) (eB (e2 fa fb g)) :=
  PE.imp (pe_cmpR ho ha hb hm) fun σ H Q h => cmpB_of h
theorem et_cmp {op : CmpOp} {g : PyData → PyData → Option Bool} (ho : OpR X (compareOp op) (rFB X.K g)) (ha : ER X o a fa) (hb : ER X o b fb) (hm : behindInMarks op b = false) : ET X o (.Compare a [op] [b] pos) (e2 fa fb g) :=
  PT.imp (pt_cmpR ho ha hb hm) fun σ H Q h => cmpT_of h
/-- a < b < c -/
def eChain (fa fb fc : Rho → Option PyData) (g g' : PyData → PyData → Option Bool) : Rho → Option Bool := fun ρ => (fa ρ).bind fun x => (fb ρ).bind fun y => (g x y).bind fun k => if k = true then (fc ρ).bind fun z => g' y z else some false
theorem chain_of {K : PySem.W.Frag} {fc : Rho → Option PyData} {g g' : PyData → PyData → Option Bool} {σ : St} {H : Hp} {Q : VK} (h : tV K o (eB (eChain fa fb fc g g')) σ H Q) : tChain (rFB K g) (rFB K g') (tR K o fa) (tR K o fb) (tR K o fc) σ H Q := by
  obtain ⟨H0, P0, P, ρ, d, R, e, q⟩ := h
  obtain ⟨c, e', rfl⟩ := eB_some e
  clear e
  have e := e'
  clear e'
  unfold eChain at e
  cases ea : fa ρ with
  | none => rw [ea] at e; cases e
  | some x =>
  cases eb : fb ρ with
  | none => rw [ea, eb] at e; cases e
  | some y =>
  cases eg : g x y with
  | none => simp [ea, eb, eg] at e
  | some k =>
  rw [ea, eb] at e
  simp only [Option.bind_some, eg] at e
  refine ⟨H0, P0, P, ρ, x, R, ea, fun v H1 s1 r1 => ?_⟩
  refine ⟨H0, P0, P, ρ, y, R.go s1, eb, fun u H2 s2 r2 => ?_⟩
  refine ⟨P, x, y, k, (R.go (s1.trans s2)).tr, r1.same s2, r2, eg, k, rfl, ?_⟩
  cases k with
  | false => rw [if_neg (by decide)] at e ⊢; cases e; exact q _ _ (s1.trans s2) (.bl false)
  | true =>
    rw [if_pos rfl] at e ⊢
    cases ec : fc ρ with
    | none => rw [ec] at e; cases e
    | some z =>
      rw [ec] at e
      refine ⟨H0, P0, P, ρ, z, R.go (s1.trans s2), ec, fun w H3 s3 r3 => ?_⟩
      exact ⟨P, y, z, c, (R.go (s1.trans (s2.trans s3))).tr, r2.same s3, r3, e, q _ _ (s1.trans (s2.trans s3)) (.bl c)⟩
end
end TF

/-! TFc.lean -/
set_option Elab.async false
set_option linter.all false
set_option maxRecDepth 100000
/-! TF.c: further expressions: subscripts, displays, and or not, calls -/
namespace TF
open PySem PySem.Spec PyProof.Rows L2

section
variable {X : Cx} {o : List Nat} {e a b c : Expr} {es : List Expr} {f fa fb fc : Rho → Option PyData} {pos : Pos}
/-! ### a chain -/
theorem ev_chain {op op' : CmpOp} {g g' : PyData → PyData → Option Bool} (ho : OpR X (compareOp op) (rFB X.K g)) (ho' : OpR X (compareOp op') (rFB X.K g')) (ha : ER X o a fa) (hb : ER X o b fb) (hc : ER X o c fc)
    (hm : lastMarks [op, op'] [b, c] = false := by with_unfolding_all rfl) : EV X o (.Compare a [op, op'] [b, c] pos) (eB (eChain fa fb fc g g')) :=
  PE.imp (pe_chain ho ho' ha hb hc hm) fun σ H Q h => chain_of h
theorem et_chain {op op' : CmpOp} {g g' : PyData → PyData → Option Bool} (ho : OpR X (compareOp op) (rFB X.K g)) (ho' : OpR X (compareOp op') (rFB X.K g')) (ha : ER X o a fa) (hb : ER X o b fb) (hc : ER X o c fc)
    (hm : lastMarks [op, op'] [b, c] = false := by with_unfolding_all rfl) : ET X o (.Compare a [op, op'] [b, c] pos) (eChain fa fb fc g g') :=
  PT.imp (pt_chain ho ho' ha hb hc hm) fun σ H Q ⟨H0, P0, P, ρ, d, R, e, q⟩ => chain_of ⟨H0, P0, P, ρ, .bool d, R, by unfold eB; rw [e]; rfl, fun v H' s t => ⟨d, by cases t; rfl, q H' s⟩⟩

/-! ### subscripts -/
theorem ev_ix {g : PyData → PyData → Option PyData} (hr : IxR X (rF X.K g)) (ha : ER X o a fa) (hb : ER X o b fb) (hs : PlainIx b) : EV X o (.Subscript a b pos) (e2 fa fb g) :=
  PE.imp (pe_ix hr ha hb hs) fun σ H Q h => t2_of h
/-- a slice's part -/
def tPt (K : PySem.W.Frag) (o : List Nat) (f : Rho → Option (Option Int)) : TO := fun σ H Q => ∃ H0 P0 P ρ d, Rel K H0 P0 H P o σ ρ ∧ f ρ = some d ∧ ∀ H', Same H H' → Q d H'
abbrev EO (X : Cx) (o : List Nat) (e : Option Expr) (f : Rho → Option (Option Int)) : Prop := PO X e (tPt X.K o f)
theorem PO.imp {e : Option Expr} {t t' : TO} (h : PO X e t) (i : ∀ σ H Q, t' σ H Q → t σ H Q) : PO X e t' := ⟨fun pins s σ H Q I q => h.run pins s σ H Q I (i σ H Q q)⟩
def eNoPart : Rho → Option (Option Int) := fun _ => some none
def ePart (f : Rho → Option PyData) : Rho → Option (Option Int) := fun ρ => (f ρ).bind fun d => match d with
  | .int i => some (some i)
  | _ => none
theorem eo_none : EO X o none eNoPart := PO.imp po_none fun σ H Q ⟨H0, P0, P, ρ, d, R, e, q⟩ => by cases e; exact q H (Same.refl H)
theorem eo_some (h : ER X o e f) : EO X o (some e) (ePart f) := PO.imp (po_some h) fun σ H Q ⟨H0, P0, P, ρ, d, R, e, q⟩ => by
  unfold ePart at e
  cases ef : f ρ with
  | none => rw [ef] at e; cases e
  | some x =>
    rw [ef] at e
    cases x with
    | int i => cases e; exact ⟨H0, P0, P, ρ, _, R, ef, fun v H' s r => ⟨i, r.int, q H' s⟩⟩
    | _ => cases e
/-- by values: a slice -/
def rFS (K : PySem.W.Frag) (g : PyData → Option Int → Option Int → Option PyData) : V → Option Int → Option Int → Hp → VK → Prop := fun x lo hi H Q => ∃ P dx d, (∀ a, P a → ∃ u, H a = some u) ∧ Dr K H P x dx ∧ g dx lo hi = some d ∧ ∀ v H', Same H H' → Dq K H' P v d → Q v H'
theorem SlR.imp {r r' : V → Option Int → Option Int → Hp → VK → Prop} (h : SlR X r) (i : ∀ x l u H Q, r' x l u H Q → r x l u H Q) : SlR X r' := fun pins s σ H x v vl vu lo hi sl Q I rx hs pl pu q => h pins s σ H x v vl vu lo hi sl Q I rx hs pl pu (i x lo hi H Q q)
def eSl (f : Rho → Option PyData) (l u : Rho → Option (Option Int)) (g : PyData → Option Int → Option Int → Option PyData) : Rho → Option PyData := fun ρ => (f ρ).bind fun x => (l ρ).bind fun i => (u ρ).bind fun j => g x i j
theorem ev_slice {lo hi : Option Expr} {p2 : Pos} {fl fu : Rho → Option (Option Int)} {g : PyData → Option Int → Option Int → Option PyData} (hr : SlR X (rFS X.K g)) (he : ER X o e f) (hl : EO X o lo fl) (hu : EO X o hi fu) : EV X o (.Subscript e (.Slice lo hi none p2) pos) (eSl f fl fu g) :=
  PE.imp (pe_slice hr he hl hu) fun σ H Q ⟨H0, P0, P, ρ, d, R, e, q⟩ => by
    unfold eSl at e
    cases ef : f ρ with
    | none => rw [ef] at e; cases e
    | some x =>
    cases el : fl ρ with
    | none => rw [ef, el] at e; cases e
    | some i =>
    cases eu : fu ρ with
    | none => rw [ef, el, eu] at e; cases e
    | some j =>
    rw [ef, el, eu] at e
    refine ⟨H0, P0, P, ρ, x, R, ef, fun v H1 s1 r1 => ⟨H0, P0, P, ρ, i, R.go s1, el, fun H2 s2 => ⟨H0, P0, P, ρ, j, R.go (s1.trans s2), eu, fun H3 s3 => ?_⟩⟩⟩
    exact ⟨P, x, d, (R.go (s1.trans (s2.trans s3))).tr, r1.same (s2.trans s3), e, fun w H' s4 t => q w H' (s1.trans (s2.trans (s3.trans s4))) t⟩

/-! ### argument lists, displays -/
def aNil : Rho → Option (List PyData) := fun _ => some []
def aCons (f : Rho → Option PyData) (g : Rho → Option (List PyData)) : Rho → Option (List PyData) := fun ρ => (f ρ).bind fun x => (g ρ).bind fun xs => some (x :: xs)
theorem aCons_some {g : Rho → Option (List PyData)} {ρ : Rho} {ds : List PyData} (h : aCons f g ρ = some ds) : ∃ x xs, f ρ = some x ∧ g ρ = some xs ∧ ds = x :: xs := by
  unfold aCons at h
  cases ef : f ρ with
  | none => rw [ef] at h; cases h
  | some x =>
    cases eg : g ρ with
    | none => rw [ef, eg] at h; cases h
    | some xs => rw [ef, eg] at h; cases h; exact ⟨x, xs, rfl, rfl, rfl⟩
theorem ea_nil : EA X o [] aNil := PA.imp pa_nil fun σ H Q ⟨H0, P0, P, ρ, d, R, e, q⟩ => by cases e; exact q [] H (Same.refl H) .nil
theorem ea_cons {g : Rho → Option (List PyData)} (he : EV X o e f) (h : EA X o es g) (hs : starEach (e :: es) X.env = (false, eval e X.env) :: starEach es X.env := by rfl) : EA X o (e :: es) (aCons f g) :=
  PA.imp (pa_cons he h hs) fun σ H Q ⟨H0, P0, P, ρ, d, R, e, q⟩ => by
    obtain ⟨x, xs, ef, eg, rfl⟩ := aCons_some e
    refine ⟨H0, P0, P, ρ, x, R, ef, fun v H1 s1 r1 => ⟨H0, P0, P, ρ, xs, R.go s1, eg, fun vs H2 s2 r2 => ?_⟩⟩
    exact q _ H2 (s1.trans s2) (.cons (r1.same s2) r2)
def eTup (g : Rho → Option (List PyData)) : Rho → Option PyData := fun ρ => (g ρ).bind fun ds => if ds.length ≤ 1000 then some (.tuple ds) else none
def eLst (g : Rho → Option (List PyData)) : Rho → Option (List PyData) := fun ρ => (g ρ).bind fun ds => if ds.length ≤ 1000 then some ds else none
theorem ev_tup {g : Rho → Option (List PyData)} (h : EA X o es g) {x1} : EV X o (.Tuple es x1 pos) (eTup g) := PE.imp (pe_tupF h) fun σ H Q ⟨H0, P0, P, ρ, d, R, e, q⟩ => by
  unfold eTup at e
  cases eg : g ρ with
  | none => rw [eg] at e; cases e
  | some ds =>
    rw [eg] at e
    have e : (if ds.length ≤ 1000 then some (PyData.tuple ds) else none) = some d := e
    by_cases hz : ds.length ≤ 1000
    · rw [if_pos hz] at e
      cases e
      refine ⟨H0, P0, P, ρ, ds, R, eg, fun vs H1 s1 r1 => ⟨Nat.le_of_lt (small1000 (by rw [r1.length]; exact hz)), fun p its hp => ?_⟩⟩
      exact q _ _ (s1.trans (same_upd hp _)) (.tup upd_same ((R.go s1).newP hp) (r1.same (same_upd hp _)))
    · rw [if_neg hz] at e; cases e
theorem en_lst {g : Rho → Option (List PyData)} (h : EA X o es g) : EN X o (.List es pos) (eLst g) := PE.imp (pe_lst h) fun σ H Q ⟨H0, P0, P, ρ, d, R, e, q⟩ => by
  unfold eLst at e
  cases eg : g ρ with
  | none => rw [eg] at e; cases e
  | some ds =>
    rw [eg] at e
    have e : (if ds.length ≤ 1000 then some ds else none) = some d := e
    by_cases hz : ds.length ≤ 1000
    · rw [if_pos hz] at e
      cases e
      refine ⟨H0, P0, P, ρ, d, R, eg, fun vs H1 s1 r1 => ⟨Nat.le_of_lt (small1000 (by rw [r1.length]; exact hz)), fun p hp => ?_⟩⟩
      refine q _ _ _ (s1.trans (same_upd hp _)) (s1.free hp) upd_same (r1.mono fun a u z n => ⟨same_upd hp _ a u z, ?_⟩)
      rintro (rfl | z')
      · rw [hp] at z; cases z
      · exact n z'
    · rw [if_neg hz] at e; cases e

/-! ### and, or, not, if -/
def tAnd (fa fb : Rho → Option Bool) : Rho → Option Bool := fun ρ => (fa ρ).bind fun c => if c = true then fb ρ else some false
def tOr (fa fb : Rho → Option Bool) : Rho → Option Bool := fun ρ => (fa ρ).bind fun c => if c = true then some true else fb ρ
def tNot (fa : Rho → Option Bool) : Rho → Option Bool := fun ρ => (fa ρ).bind fun c => some (!c)
variable {ga gb : Rho → Option Bool} {rest : List Expr}
theorem ew_and1 (ha : ET X o a ga) : EW X o (.BoolOp .And [a] pos) ga := pw_and1 ha
theorem ew_or1 (ha : ET X o a ga) : EW X o (.BoolOp .Or [a] pos) ga := pw_or1 ha
theorem ew_and (ha : ET X o a ga) (hb : EW X o (.BoolOp .And (b :: rest) pos) gb) : EW X o (.BoolOp .And (a :: b :: rest) pos) (tAnd ga gb) := PW.imp (pw_and ha hb) fun σ H Q ⟨H0, P0, P, ρ, d, R, e, q⟩ => by
  unfold tAnd at e
  cases ea : ga ρ with
  | none => rw [ea] at e; cases e
  | some c =>
    rw [ea] at e
    refine ⟨H0, P0, P, ρ, c, R, ea, fun H1 s1 => ?_⟩
    cases c with
    | true => exact iteT ⟨H0, P0, P, ρ, d, R.go s1, e, fun H2 s2 => q H2 (s1.trans s2)⟩
    | false => cases e; exact iteF (q H1 s1)
theorem ew_or (ha : ET X o a ga) (hb : EW X o (.BoolOp .Or (b :: rest) pos) gb) : EW X o (.BoolOp .Or (a :: b :: rest) pos) (tOr ga gb) := PW.imp (pw_or ha hb) fun σ H Q ⟨H0, P0, P, ρ, d, R, e, q⟩ => by
  unfold tOr at e
  cases ea : ga ρ with
  | none => rw [ea] at e; cases e
  | some c =>
    rw [ea] at e
    refine ⟨H0, P0, P, ρ, c, R, ea, fun H1 s1 => ?_⟩
    cases c with
    | false => exact iteF ⟨H0, P0, P, ρ, d, R.go s1, e, fun H2 s2 => q H2 (s1.trans s2)⟩
    | true => cases e; exact iteT (q H1 s1)
theorem et_not (ha : ET X o a ga) : ET X o (.UnaryOp .Not a pos) (tNot ga) := PT.imp (pt_not ha) fun σ H Q ⟨H0, P0, P, ρ, d, R, e, q⟩ => by
  unfold tNot at e
  cases ea : ga ρ with
  | none => rw [ea] at e; cases e
  | some c => rw [ea] at e; cases e; exact ⟨H0, P0, P, ρ, c, R, ea, fun H1 s1 => q H1 s1⟩
/-- .. as values -/
def dB : PyData → Option Bool
  | .bool b => some b
  | _ => none
def vAnd (fa fb : Rho → Option PyData) : Rho → Option PyData := fun ρ => ((fa ρ).bind dB).bind fun c => if c = true then fb ρ else some (.bool false)
def vOr (fa fb : Rho → Option PyData) : Rho → Option PyData := fun ρ => ((fa ρ).bind dB).bind fun c => if c = true then some (.bool true) else fb ρ
def vNot (fa : Rho → Option PyData) : Rho → Option PyData := fun ρ => ((fa ρ).bind dB).bind fun c => some (.bool (!c))
theorem dB_some {ρ : Rho} {c : Bool} (h : (f ρ).bind dB = some c) : f ρ = some (.bool c) := by
  cases ef : f ρ with
  | none => rw [ef] at h; cases h
  | some x =>
    rw [ef] at h
    cases x with
    | bool b => cases h; rfl
    | _ => cases h
theorem ev_one {op} (h : EV X o a f) : EV X o (.BoolOp op [a] pos) f := pe_one h
theorem ev_and (ha : ER X o a fa) (hb : EV X o (.BoolOp .And (b :: rest) pos) fb) : EV X o (.BoolOp .And (a :: b :: rest) pos) (vAnd fa fb) := PE.imp (pe_and ha hb) fun σ H Q ⟨H0, P0, P, ρ, d, R, e, q⟩ => by
  unfold vAnd at e
  cases ea : (fa ρ).bind dB with
  | none => rw [ea] at e; cases e
  | some c =>
    rw [ea] at e
    refine ⟨H0, P0, P, ρ, _, R, dB_some ea, fun v H1 s1 r1 => ⟨c, r1.bl, ?_⟩⟩
    cases c with
    | true => exact iteT ⟨H0, P0, P, ρ, d, R.go s1, e, fun v H2 s2 t => q v H2 (s1.trans s2) t⟩
    | false => cases e; exact iteF (q _ H1 s1 (.bl false))
theorem ev_or (ha : ER X o a fa) (hb : EV X o (.BoolOp .Or (b :: rest) pos) fb) : EV X o (.BoolOp .Or (a :: b :: rest) pos) (vOr fa fb) := PE.imp (pe_or ha hb) fun σ H Q ⟨H0, P0, P, ρ, d, R, e, q⟩ => by
  unfold vOr at e
  cases ea : (fa ρ).bind dB with
  | none => rw [ea] at e; cases e
  | some c =>
    rw [ea] at e
    refine ⟨H0, P0, P, ρ, _, R, dB_some ea, fun v H1 s1 r1 => ⟨c, r1.bl, ?_⟩⟩
    cases c with
    | false => exact iteF ⟨H0, P0, P, ρ, d, R.go s1, e, fun v H2 s2 t => q v H2 (s1.trans s2) t⟩
    | true => cases e; exact iteT (q _ H1 s1 (.bl true))
theorem ev_not (ha : ER X o a fa) : EV X o (.UnaryOp .Not a pos) (vNot fa) := PE.imp (pe_not ha) fun σ H Q ⟨H0, P0, P, ρ, d, R, e, q⟩ => by
  unfold vNot at e
  cases ea : (fa ρ).bind dB with
  | none => rw [ea] at e; cases e
  | some c => rw [ea] at e; cases e; exact ⟨H0, P0, P, ρ, _, R, dB_some ea, fun v H1 s1 r1 => ⟨c, r1.bl, q _ H1 s1 (.bl _)⟩⟩
def eIf (t : Rho → Option Bool) (fa fb : Rho → Option PyData) : Rho → Option PyData := fun ρ => (t ρ).bind fun c => if c = true then fa ρ else fb ρ
theorem ev_if (hc : ET X o c ga) (ha : EV X o a fa) (hb : EV X o b fb) : EV X o (.IfExp c a b pos) (eIf ga fa fb) := PE.imp (pe_ifExp hc ha hb) fun σ H Q ⟨H0, P0, P, ρ, d, R, e, q⟩ => by
  unfold eIf at e
  cases ea : ga ρ with
  | none => rw [ea] at e; cases e
  | some c =>
    rw [ea] at e
    refine ⟨H0, P0, P, ρ, c, R, ea, fun H1 s1 => ?_⟩
    cases c with
    | true => exact iteT ⟨H0, P0, P, ρ, d, R.go s1, e, fun v H2 s2 t => q v H2 (s1.trans s2) t⟩
    | false => exact iteF ⟨H0, P0, P, ρ, d, R.go s1, e, fun v H2 s2 t => q v H2 (s1.trans s2) t⟩
/-- a value that is a truth, as a test -/
def eT (f : Rho → Option PyData) : Rho → Option Bool := fun ρ => (f ρ).bind dB
theorem et_val (h : ER X o e f) (he : ∀ whole, isTrue e X.env whole = (do let v ← whole; standAt e.pos; holding [v] (truthy v)) := by intro _; rfl) : ET X o e (eT f) := PT.imp (pt_val h he) fun σ H Q ⟨H0, P0, P, ρ, d, R, e, q⟩ =>
  ⟨H0, P0, P, ρ, _, R, dB_some e, fun v H1 s1 r1 => ⟨d, r1.bl, q H1 s1⟩⟩

/-! ### calls -/
/-- what a def of the text promises: the function m of its n arguments -/
def spF (K : PySem.W.Frag) (n : Nat) (m : List PyData → Option PyData) : Sp := fun vs H Q _ => vs.length = n ∧ ∃ (P : Addr → Prop) (ds : List PyData) (d : PyData), (∀ a, P a → ∃ u, H a = some u) ∧ DqA K H P vs ds ∧ m ds = some d ∧ ∀ v H', Same H H' → Dq K H' P v d → Q v H'
def eCall (n : Nat) (m : List PyData → Option PyData) (g : Rho → Option (List PyData)) : Rho → Option PyData := fun ρ => (g ρ).bind fun ds => if ds.length = n then m ds else none
theorem ev_call {k n : Nat} {f : Addr} {fd : FuncData} {ps : List Str} {m : List PyData → Option PyData} {x : Str} {p : Pos} {g : Rho → Option (List PyData)} (F : FnOk X.prog X.w X.K X.mg X.base CX0 k f fd ps (spF X.K n m)) (hr : Room k X.A) (hm : X.mg x = some (.ref f)) (hk : PySem.W.keepIn X.K (.ref f) = true) (hb : Binds X.K fd ps [])
    (ha : EA X o (e :: es) g) (hg : Gl X x := by rfl) (hdb : (x == ("__debug__" : Str)) = false := by decide) (he : starEach (e :: es) X.env = (false, eval e X.env) :: starEach es X.env := by rfl) (hpl : (backTo pos (starEach es X.env)).any (·.1) = false := by rfl) :
    EV X o (.Call (.Name x p) (e :: es) [] pos) (eCall n m g) :=
  PE.imp (pe_call F hr hg hm hk hb .nil pass0 ha hdb he hpl) fun σ H Q ⟨H0, P0, P, ρ, d, R, e, q⟩ => by
    unfold eCall at e
    cases eg : g ρ with
    | none => rw [eg] at e; cases e
    | some ds =>
      rw [eg] at e
      have e : (if ds.length = n then m ds else none) = some d := e
      by_cases hn : ds.length = n
      · rw [if_pos hn] at e
        refine ⟨H0, P0, P, ρ, ds, R, eg, fun vs H1 s1 r1 => ?_⟩
        show spF X.K n m (vs ++ []) H1 Q E0
        rw [List.append_nil]
        exact ⟨r1.length.trans hn, P, ds, d, (R.go s1).tr, r1, e, fun v H2 s2 t => q v H2 (s1.trans s2) t⟩
      · rw [if_neg hn] at e; cases e
/-- built-ins of one, two arguments -/
def rC1 (K : PySem.W.Frag) (g : PyData → Option PyData) : List V → Hp → VK → Prop := fun vs H Q => ∃ P x dx d, vs = [x] ∧ (∀ a, P a → ∃ u, H a = some u) ∧ Dr K H P x dx ∧ g dx = some d ∧ ∀ v H', Same H H' → Dq K H' P v d → Q v H'
def rC1N (K : PySem.W.Frag) (g : PyData → Option (List PyData)) : List V → Hp → VK → Prop := fun vs H Q => ∃ P x dx d, vs = [x] ∧ (∀ a, P a → ∃ u, H a = some u) ∧ Dr K H P x dx ∧ g dx = some d ∧
  ∀ p xs H', Same H H' → H p = none → H' p = some (.lst xs) → DqA K H' (fun a => a = p ∨ P a) xs d → Q (.ref p) H'
def rC2 (K : PySem.W.Frag) (g : PyData → PyData → Option PyData) : List V → Hp → VK → Prop := fun vs H Q => ∃ P x y dx dy d, vs = [x, y] ∧ (∀ a, P a → ∃ u, H a = some u) ∧ Dr K H P x dx ∧ Dr K H P y dy ∧ g dx dy = some d ∧ ∀ v H', Same H H' → Dq K H' P v d → Q v H'
def e1 {α : Type} (f : Rho → Option PyData) (g : PyData → Option α) : Rho → Option α := fun ρ => (f ρ).bind g
theorem e1_some {α : Type} {g : PyData → Option α} {ρ : Rho} {d : α} (h : e1 f g ρ = some d) : ∃ x, f ρ = some x ∧ g x = some d := by
  unfold e1 at h
  cases ef : f ρ with
  | none => rw [ef] at h; cases h
  | some x => rw [ef] at h; exact ⟨x, rfl, h⟩
theorem c1_of {K : PySem.W.Frag} {g : PyData → Option PyData} {σ : St} {H : Hp} {Q : VK} (h : tV K o (e1 f g) σ H Q) : tCB (rC1 K g) (tCons (tR K o f) tNil) σ H Q := by
  obtain ⟨H0, P0, P, ρ, d, R, e, q⟩ := h
  obtain ⟨x, ef, eg⟩ := e1_some e
  exact ⟨H0, P0, P, ρ, x, R, ef, fun v H1 s1 r1 => ⟨P, v, x, d, rfl, (R.go s1).tr, r1, eg, fun w H' s2 t => q w H' (s1.trans s2) t⟩⟩
theorem c1N_of {K : PySem.W.Frag} {g : PyData → Option (List PyData)} {σ : St} {H : Hp} {Q : VK} (h : tN K o (e1 f g) σ H Q) : tCB (rC1N K g) (tCons (tR K o f) tNil) σ H Q := by
  obtain ⟨H0, P0, P, ρ, d, R, e, q⟩ := h
  obtain ⟨x, ef, eg⟩ := e1_some e
  exact ⟨H0, P0, P, ρ, x, R, ef, fun v H1 s1 r1 => ⟨P, v, x, d, rfl, (R.go s1).tr, r1, eg, fun p xs H' s2 n hp t => q p xs H' (s1.trans s2) (s1.free n) hp t⟩⟩
theorem c2_of {K : PySem.W.Frag} {g : PyData → PyData → Option PyData} {σ : St} {H : Hp} {Q : VK} (h : tV K o (e2 fa fb g) σ H Q) : tCB (rC2 K g) (tCons (tR K o fa) (tCons (tR K o fb) tNil)) σ H Q := by
  obtain ⟨H0, P0, P, ρ, d, R, e, q⟩ := h
  obtain ⟨x, y, ea, eb, eg⟩ := e2_some e
  exact ⟨H0, P0, P, ρ, x, R, ea, fun v H1 s1 r1 => ⟨H0, P0, P, ρ, y, R.go s1, eb, fun u H2 s2 r2 => ⟨P, v, u, x, y, d, rfl, (R.go (s1.trans s2)).tr, r1.same s2, r2, eg, fun w H' s3 t => q w H' (s1.trans (s2.trans s3)) t⟩⟩⟩
variable {x : Str} {p : Pos} {id T : String}
theorem ev_cb1 {g : PyData → Option PyData} (hc : CallR X (.builtin id) (rC1 X.K g)) (hm : X.mg x = none) (hv : bootBuiltins x = some (.builtin id)) (ha : ER X o e f) (hg : Gl X x := by rfl) (hn : x ≠ "__name__" := by decide) (hdb : (x == ("__debug__" : Str)) = false := by decide)
    (he : starEach [e] X.env = (false, eval e X.env) :: starEach [] X.env := by rfl) (hpl : (backTo pos (starEach [] X.env)).any (·.1) = false := by rfl) : EV X o (.Call (.Name x p) [e] [] pos) (e1 f g) :=
  PE.imp (pe_callB hc hg hm hv (pa_cons ha pa_nil he) hn hdb he hpl) fun σ H Q h => c1_of h
theorem en_cb1 {g : PyData → Option (List PyData)} (hc : CallR X (.builtin id) (rC1N X.K g)) (hm : X.mg x = none) (hv : bootBuiltins x = some (.builtin id)) (ha : ER X o e f) (hg : Gl X x := by rfl) (hn : x ≠ "__name__" := by decide) (hdb : (x == ("__debug__" : Str)) = false := by decide)
    (he : starEach [e] X.env = (false, eval e X.env) :: starEach [] X.env := by rfl) (hpl : (backTo pos (starEach [] X.env)).any (·.1) = false := by rfl) : EN X o (.Call (.Name x p) [e] [] pos) (e1 f g) :=
  PE.imp (pe_callB hc hg hm hv (pa_cons ha pa_nil he) hn hdb he hpl) fun σ H Q h => c1N_of h
theorem ev_ct1 {g : PyData → Option PyData} (hc : CallR X (.type T) (rC1 X.K g)) (hm : X.mg x = none) (hv : bootBuiltins x = some (.type T)) (ha : ER X o e f) (hg : Gl X x := by rfl) (hn : x ≠ "__name__" := by decide) (hdb : (x == ("__debug__" : Str)) = false := by decide)
    (he : starEach [e] X.env = (false, eval e X.env) :: starEach [] X.env := by rfl) (hpl : (backTo pos (starEach [] X.env)).any (·.1) = false := by rfl) : EV X o (.Call (.Name x p) [e] [] pos) (e1 f g) :=
  PE.imp (pe_callTy hc hg hm hv (pa_cons ha pa_nil he) hn hdb he hpl) fun σ H Q h => c1_of h
theorem en_ct1 {g : PyData → Option (List PyData)} (hc : CallR X (.type T) (rC1N X.K g)) (hm : X.mg x = none) (hv : bootBuiltins x = some (.type T)) (ha : ER X o e f) (hg : Gl X x := by rfl) (hn : x ≠ "__name__" := by decide) (hdb : (x == ("__debug__" : Str)) = false := by decide)
    (he : starEach [e] X.env = (false, eval e X.env) :: starEach [] X.env := by rfl) (hpl : (backTo pos (starEach [] X.env)).any (·.1) = false := by rfl) : EN X o (.Call (.Name x p) [e] [] pos) (e1 f g) :=
  PE.imp (pe_callTy hc hg hm hv (pa_cons ha pa_nil he) hn hdb he hpl) fun σ H Q h => c1N_of h
theorem ev_cb2 {g : PyData → PyData → Option PyData} (hc : CallR X (.builtin id) (rC2 X.K g)) (hm : X.mg x = none) (hv : bootBuiltins x = some (.builtin id)) (ha : ER X o a fa) (hb : ER X o b fb) (hg : Gl X x := by rfl) (hn : x ≠ "__name__" := by decide) (hdb : (x == ("__debug__" : Str)) = false := by decide)
    (he : starEach [a, b] X.env = (false, eval a X.env) :: starEach [b] X.env := by rfl) (hs : starEach [b] X.env = (false, eval b X.env) :: starEach [] X.env := by rfl) (hpl : (backTo pos (starEach [b] X.env)).any (·.1) = false := by rfl) : EV X o (.Call (.Name x p) [a, b] [] pos) (e2 fa fb g) :=
  PE.imp (pe_callB hc hg hm hv (pa_cons ha (pa_cons hb pa_nil hs) he) hn hdb he hpl) fun σ H Q h => c2_of h
end
end TF

/-! TFd.lean -/
set_option Elab.async false
set_option linter.all false
set_option maxRecDepth 100000
/-! TF.d: statements, loops, comprehensions, defs -/
namespace TF
open PySem PySem.Spec PyProof.Rows L2

/-- later: what was there, not private, is as it was, and not private -/
def Lt (H : Hp) (P : Addr → Prop) (H' : Hp) (P' : Addr → Prop) : Prop := ∀ a u, H a = some u → ¬ P a → H' a = some u ∧ ¬ P' a
theorem Lt.refl (H : Hp) (P : Addr → Prop) : Lt H P H P := fun _ _ h n => ⟨h, n⟩
theorem Lt.trans {H H1 H2 : Hp} {P P1 P2 : Addr → Prop} (a : Lt H P H1 P1) (b : Lt H1 P1 H2 P2) : Lt H P H2 P2 := fun x u h n => b x u (a x u h n).1 (a x u h n).2
theorem Lt.same {H H' : Hp} (P : Addr → Prop) (e : Same H H') : Lt H P H' P := fun a u h n => ⟨e a u h, n⟩

section
variable {K : PySem.W.Frag} {H0 H H' : Hp} {P0 P : Addr → Prop} {o : List Nat} {σ : St} {ρ : Rho}
theorem set_get {α : Type} {l : List α} {i j : Nat} {x : α} (h : j ≠ i) : (l.set i x)[j]? = l[j]? := List.getElem?_set_ne (Ne.symm h)
theorem Rel.set (R : Rel K H0 P0 H P o σ ρ) {i : Nat} (hi : i ∉ o) {v : V} {d : PyData} (h : Dq K H P v d) : Rel K H0 P0 H P o (σ.set i (some v)) (ρ.set i (some d)) where
  sub := R.sub
  tr0 := R.tr0
  tr := R.tr
  same := R.same
  own := fun j hj => by
    have ne : j ≠ i := fun e => hi (e ▸ hj)
    obtain ⟨a, xs, ds, h1, h2, r⟩ := R.own j hj
    exact ⟨a, xs, ds, (set_get ne).trans h1, (set_get ne).trans h2, r⟩
  dis := fun j k a b hj hk ne e1 e2 => by
    have n1 : j ≠ i := fun e => hi (e ▸ hj)
    have n2 : k ≠ i := fun e => hi (e ▸ hk)
    rw [set_get n1] at e1
    rw [set_get n2] at e2
    exact R.dis j k a b hj hk ne e1 e2
  dat := fun j e hj he => by
    by_cases hji : j = i
    · subst hji
      have hl : j < ρ.length := by
        have := (List.getElem?_eq_some_iff.mp he).1
        rw [List.length_set] at this
        exact this
      rw [List.getElem?_set_self hl] at he
      cases he
      exact ⟨v, List.getElem?_set_self (by rw [← R.len]; exact hl), h⟩
    · rw [set_get hji] at he
      obtain ⟨w, h1, h2⟩ := R.dat j e hj he
      exact ⟨w, (set_get hji).trans h1, h2⟩
  len := by rw [List.length_set, List.length_set, R.len]
theorem Rel.forget (R : Rel K H0 P0 H P o σ ρ) {i : Nat} (hi : i ∉ o) : Rel K H0 P0 H P o σ (ρ.set i none) where
  sub := R.sub
  tr0 := R.tr0
  tr := R.tr
  same := R.same
  own := fun j hj => by
    have ne : j ≠ i := fun e => hi (e ▸ hj)
    obtain ⟨a, xs, ds, h1, h2, r⟩ := R.own j hj
    exact ⟨a, xs, ds, h1, (set_get ne).trans h2, r⟩
  dis := R.dis
  dat := fun j e hj he => by
    by_cases hji : j = i
    · subst hji
      have hl : j < ρ.length := by
        have := (List.getElem?_eq_some_iff.mp he).1
        rw [List.length_set] at this
        exact this
      rw [List.getElem?_set_self hl] at he
      cases he
    · rw [set_get hji] at he
      exact R.dat j e hj he
  len := by rw [List.length_set, R.len]
/-- forgetting several -/
def clr (ks : List Nat) (ρ : Rho) : Rho := ks.foldl (fun r k => r.set k none) ρ
theorem Rel.clr (R : Rel K H0 P0 H P o σ ρ) {ks : List Nat} (h : ∀ k ∈ ks, k ∉ o) : Rel K H0 P0 H P o σ (clr ks ρ) := by
  induction ks generalizing ρ with
  | nil => exact R
  | cons k ks ih => exact ih (R.forget (h k (by simp))) fun j hj => h j (by simp [hj])
/-- a list of one's own is given away -/
theorem Rel.drop (R : Rel K H0 P0 H P o σ ρ) {o' : List Nat} (s : ∀ i ∈ o', i ∈ o) : ∃ P', Rel K H0 P0 H P' o' σ ρ ∧ Lt H P H P' := by
  have an : ∀ a, (P a ∧ ∀ i, i ∈ o → i ∉ o' → σ[i]? ≠ some (some (.ref a))) → P a := fun a h => h.1
  refine ⟨fun a => P a ∧ ∀ i, i ∈ o → i ∉ o' → σ[i]? ≠ some (some (.ref a)), ⟨fun a h => ⟨R.sub a h, fun i hi hn e => ?_⟩, R.tr0, fun a h => R.tr a h.1, R.same, fun i hi => ?_, fun i j a b hi hj ne e1 e2 => R.dis i j a b (s i hi) (s j hj) ne e1 e2, fun i d hi h => ?_, R.len⟩, fun a u h n => ⟨h, fun z => n z.1⟩⟩
  · obtain ⟨b, xs, ds, h1, h2, h3, h4, h5, h6⟩ := R.own i hi
    rw [e] at h1
    cases h1
    obtain ⟨u, hu⟩ := R.tr0 a h
    rw [h4] at hu; cases hu
  · obtain ⟨b, xs, ds, h1, h2, h3, h4, h5, h6⟩ := R.own i (s i hi)
    exact ⟨b, xs, ds, h1, h2, ⟨h3, fun j hj hn e => R.dis i j b b (s i hi) hj (fun z => hn (z ▸ hi)) h1 e rfl⟩, h4, h5, h6.anti an⟩
  · by_cases hio : i ∈ o
    · obtain ⟨b, xs, ds, h1, h2, h3, h4, h5, h6⟩ := R.own i hio
      rw [h] at h2
      cases h2
      exact ⟨_, h1, .lst h5 (fun z => z.2 i hio hi h1) (h6.anti an)⟩
    · obtain ⟨v, h1, h2⟩ := R.dat i d hio h
      exact ⟨v, h1, h2.anti an⟩
/-- a new list becomes one's own -/
theorem Rel.take (R : Rel K H0 P0 H P o σ ρ) {i : Nat} (hi : i ∉ o) (hl : i < ρ.length) {p : Addr} {xs : List V} {ds : List PyData} (e : Same H H') (n : H p = none) (hp : H' p = some (.lst xs)) (t : DqA K H' (fun a => a = p ∨ P a) xs ds) :
    Rel K H0 P0 H' (fun a => a = p ∨ P a) (i :: o) (σ.set i (some (.ref p))) (ρ.set i (some (.list ds))) ∧ Lt H P H' (fun a => a = p ∨ P a) := by
  have lt : Lt H P H' (fun a => a = p ∨ P a) := fun a u h hn => ⟨e a u h, by
    rintro (rfl | z)
    · rw [n] at h; cases h
    · exact hn z⟩
  have ne : ∀ j, j ∈ o → j ≠ i := fun j hj z => hi (z ▸ hj)
  refine ⟨⟨fun a h => .inr (R.sub a h), R.tr0, ?_, R.same.trans e, fun j hj => ?_, fun j k a b hj hk njk e1 e2 => ?_, fun j d hj h => ?_, by rw [List.length_set, List.length_set, R.len]⟩, lt⟩
  · rintro a (rfl | h)
    · exact ⟨_, hp⟩
    · obtain ⟨u, hu⟩ := R.tr a h
      exact ⟨u, e a u hu⟩
  · rcases List.mem_cons.mp hj with rfl | hj
    · exact ⟨p, xs, ds, List.getElem?_set_self (by rw [← R.len]; exact hl), List.getElem?_set_self hl, .inl rfl, R.same.free n, hp, t⟩
    · obtain ⟨b, ys, es, h1, h2, h3, h4, h5, h6⟩ := R.own j hj
      exact ⟨b, ys, es, (set_get (ne j hj)).trans h1, (set_get (ne j hj)).trans h2, .inr h3, h4, e _ _ h5, h6.mono lt⟩
  · have pp : ∀ m c, m ∈ o → (σ.set i (some (V.ref p)))[m]? = some (some (.ref c)) → c ≠ p := fun m c hm z => by
      rw [set_get (ne m hm)] at z
      obtain ⟨b, ys, es, h1, h2, h3, h4, h5, h6⟩ := R.own m hm
      rw [z] at h1
      cases h1
      exact ne_of_none h5 n
    rcases List.mem_cons.mp hj with rfl | hj'
    · rcases List.mem_cons.mp hk with rfl | hk'
      · exact absurd rfl njk
      · rw [List.getElem?_set_self (by rw [← R.len]; exact hl)] at e1
        cases e1
        exact fun z => pp k b hk' e2 z.symm
    · rcases List.mem_cons.mp hk with rfl | hk'
      · rw [List.getElem?_set_self (by rw [← R.len]; exact hl)] at e2
        cases e2
        exact pp j a hj' e1
      · rw [set_get (ne j hj')] at e1
        rw [set_get (ne k hk')] at e2
        exact R.dis j k a b hj' hk' njk e1 e2
  · have hji : j ≠ i := fun z => hj (by simp [z])
    rw [set_get hji] at h
    obtain ⟨v, h1, h2⟩ := R.dat j d (fun z => hj (List.mem_cons_of_mem _ z)) h
    exact ⟨v, (set_get hji).trans h1, h2.mono lt⟩
/-- one's own list is written -/
theorem Rel.put (R : Rel K H0 P0 H P o σ ρ) {i : Nat} (hi : i ∈ o) {a : Addr} {ys : List V} {es : List PyData} (ha : σ[i]? = some (some (.ref a))) (t : DqA K H P ys es) :
    Rel K H0 P0 (upd H a (.lst ys)) P o σ (ρ.set i (some (.list es))) ∧ Lt H P (upd H a (.lst ys)) P := by
  obtain ⟨b, xs, ds, h1, h2, h3, h4, h5, h6⟩ := R.own i hi
  rw [ha] at h1
  cases h1
  have lt : Lt H P (upd H a (.lst ys)) P := fun c u h n => ⟨by rw [upd_ne (fun z => n (by rw [z]; exact h3))]; exact h, n⟩
  have hl : i < ρ.length := (List.getElem?_eq_some_iff.mp h2).1
  refine ⟨⟨R.sub, R.tr0, fun c h => ?_, fun c u h => ?_, fun j hj => ?_, R.dis, fun j d hj h => ?_, by rw [List.length_set, R.len]⟩, lt⟩
  · by_cases hc : c = a
    · subst hc; exact ⟨_, upd_same⟩
    · rw [upd_ne hc]; exact R.tr c h
  · rw [upd_ne (ne_of_none h h4)]; exact R.same c u h
  · by_cases hji : j = i
    · subst hji
      exact ⟨a, ys, es, ha, List.getElem?_set_self hl, h3, h4, upd_same, t.mono lt⟩
    · obtain ⟨c, zs, fs, g1, g2, g3, g4, g5, g6⟩ := R.own j hj
      exact ⟨c, zs, fs, g1, (set_get hji).trans g2, g3, g4, by rw [upd_ne (R.dis j i c a hj hi hji g1 ha)]; exact g5, g6.mono lt⟩
  · have hji : j ≠ i := fun z => hj (z ▸ hi)
    rw [set_get hji] at h
    obtain ⟨v, g1, g2⟩ := R.dat j d hj h
    exact ⟨v, g1, g2.mono lt⟩
end

/-! ### flow -/
inductive Fl where
  | nx (ρ : Rho) | rt (d : PyData) | bk (ρ : Rho) | ct (ρ : Rho)
/-- what is wanted of a flow -/
def Fl.ok (K : PySem.W.Frag) (H0 : Hp) (P0 : Addr → Prop) (H : Hp) (P : Addr → Prop) (o' ob : List Nat) (D : Ends) : Fl → Prop
  | .nx ρ' => ∀ σ' H' P', Rel K H0 P0 H' P' o' σ' ρ' → Lt H P H' P' → D.nx σ' H'
  | .rt d => ∀ v H', Same H0 H' → Dq K H' P0 v d → D.rt v H'
  | .bk ρ' => ∀ σ' H' P', Rel K H0 P0 H' P' ob σ' ρ' → Lt H P H' P' → D.bk σ' H'
  | .ct ρ' => ∀ σ' H' P', Rel K H0 P0 H' P' ob σ' ρ' → Lt H P H' P' → D.ct σ' H'
theorem Fl.ok.go {K : PySem.W.Frag} {H0 : Hp} {P0 : Addr → Prop} {H H1 : Hp} {P P1 : Addr → Prop} {o' ob : List Nat} {D : Ends} {fl : Fl} (q : fl.ok K H0 P0 H P o' ob D) (l : Lt H P H1 P1) : fl.ok K H0 P0 H1 P1 o' ob D := by
  cases fl with
  | nx ρ' => exact fun σ' H' P' R l' => q σ' H' P' R (l.trans l')
  | rt d => exact q
  | bk ρ' => exact fun σ' H' P' R l' => q σ' H' P' R (l.trans l')
  | ct ρ' => exact fun σ' H' P' R l' => q σ' H' P' R (l.trans l')
def tS (K : PySem.W.Frag) (o o' ob : List Nat) (f : Rho → Option Fl) : TS := fun D σ H => ∃ H0 P0 P ρ fl, Rel K H0 P0 H P o σ ρ ∧ f ρ = some fl ∧ fl.ok K H0 P0 H P o' ob D
abbrev SV (X : Cx) (o o' ob : List Nat) (st : Stmt) (f : Rho → Option Fl) : Prop := PS X st (tS X.K o o' ob f)
abbrev SVs (X : Cx) (o o' ob : List Nat) (st : List Stmt) (f : Rho → Option Fl) : Prop := PSs X st (tS X.K o o' ob f)
def fNil : Rho → Option Fl := fun ρ => some (.nx ρ)
def fThen (fl : Fl) (g : Rho → Option Fl) : Option Fl := match fl with
  | .nx ρ => g ρ
  | .rt d => some (.rt d)
  | .bk ρ => some (.bk ρ)
  | .ct ρ => some (.ct ρ)
def fSeq (f g : Rho → Option Fl) : Rho → Option Fl := fun ρ => (f ρ).bind fun fl => fThen fl g
section
variable {X : Cx} {o o1 o' ob : List Nat} {st : Stmt} {sts : List Stmt} {e : Expr} {f g : Rho → Option Fl} {fe : Rho → Option PyData} {pos pos' : Pos}
theorem svs_nil : SVs X o o ob [] fNil := PSs.imp pss_nil fun D σ H ⟨H0, P0, P, ρ, fl, R, e, q⟩ => by cases e; exact q σ H P R (Lt.refl H P)
theorem seq_of {K : PySem.W.Frag} {D : Ends} {σ : St} {H : Hp} (h : tS K o o' ob (fSeq f g) D σ H) : tSeq (tS K o o1 ob f) (tS K o1 o' ob g) D σ H := by
  obtain ⟨H0, P0, P, ρ, fl, R, e, q⟩ := h
  unfold fSeq at e
  cases ef : f ρ with
  | none => rw [ef] at e; cases e
  | some fl1 =>
    rw [ef] at e
    have e : fThen fl1 g = some fl := e
    refine ⟨H0, P0, P, ρ, fl1, R, ef, ?_⟩
    cases fl1 with
    | nx ρ1 => exact fun σ1 H1 P1 R1 l1 => ⟨H0, P0, P1, ρ1, fl, R1, e, q.go l1⟩
    | rt d => cases e; exact q
    | bk ρ1 => cases e; exact q
    | ct ρ1 => cases e; exact q
theorem svs_cons (h1 : SV X o o1 ob st f) (h2 : SVs X o1 o' ob sts g) : SVs X o o' ob (st :: sts) (fSeq f g) := PSs.imp (pss_cons h1 h2) fun D σ H h => seq_of h
theorem svs_one (h : SV X o o' ob st f) : SVs X o o' ob [st] f := pss_one h
/-- lists are given away ahead of it -/
theorem sv_drop (o1 : List Nat) (h : SV X o1 o' ob st f) (s : ∀ i ∈ o1, i ∈ o := by decide) : SV X o o' ob st f := PS.imp h fun D σ H ⟨H0, P0, P, ρ, fl, R, e, q⟩ => by
  obtain ⟨P', R', l⟩ := R.drop s
  exact ⟨H0, P0, P', ρ, fl, R', e, q.go l⟩
theorem svs_drop (o1 : List Nat) (h : SVs X o1 o' ob sts f) (s : ∀ i ∈ o1, i ∈ o := by decide) : SVs X o o' ob sts f := PSs.imp h fun D σ H ⟨H0, P0, P, ρ, fl, R, e, q⟩ => by
  obtain ⟨P', R', l⟩ := R.drop s
  exact ⟨H0, P0, P', ρ, fl, R', e, q.go l⟩
/-- .. behind it -/
theorem ok_less {K : PySem.W.Frag} {H0 : Hp} {P0 : Addr → Prop} {H : Hp} {P : Addr → Prop} {D : Ends} {fl : Fl} (s : ∀ i ∈ o', i ∈ o1) (q : fl.ok K H0 P0 H P o' ob D) : fl.ok K H0 P0 H P o1 ob D := by
  cases fl with
  | nx ρ' => exact fun σ' H' P' R l' => let ⟨P2, R2, l2⟩ := R.drop s; q σ' H' P2 R2 (l'.trans l2)
  | rt d => exact q
  | bk ρ' => exact q
  | ct ρ' => exact q
theorem svs_less (o1 : List Nat) (h : SVs X o o1 ob sts f) (s : ∀ i ∈ o', i ∈ o1 := by decide) : SVs X o o' ob sts f := PSs.imp h fun D σ H ⟨H0, P0, P, ρ, fl, R, e, q⟩ => ⟨H0, P0, P, ρ, fl, R, e, ok_less s q⟩
theorem sv_less (o1 : List Nat) (h : SV X o o1 ob st f) (s : ∀ i ∈ o', i ∈ o1 := by decide) : SV X o o' ob st f := PS.imp h fun D σ H ⟨H0, P0, P, ρ, fl, R, e, q⟩ => ⟨H0, P0, P, ρ, fl, R, e, ok_less s q⟩

/-! ### small statements -/
def fRet (f : Rho → Option PyData) : Rho → Option Fl := fun ρ => (f ρ).bind fun d => some (.rt d)
theorem sv_ret (h : EV X o e fe) : SV X o o' ob (.Return (some e) pos) (fRet fe) := PS.imp (ps_ret h) fun D σ H ⟨H0, P0, P, ρ, fl, R, e, q⟩ => by
  unfold fRet at e
  cases ef : fe ρ with
  | none => rw [ef] at e; cases e
  | some d => rw [ef] at e; cases e; exact ⟨H0, P0, P, ρ, d, R, ef, fun v H' s t => q v H' (R.same.trans s) (t.anti R.sub)⟩
def fBk : Rho → Option Fl := fun ρ => some (.bk ρ)
def fCt : Rho → Option Fl := fun ρ => some (.ct ρ)
theorem sv_break (s : ∀ i ∈ ob, i ∈ o := by decide) : SV X o o' ob (.Break pos) fBk := PS.imp ps_break fun D σ H ⟨H0, P0, P, ρ, fl, R, e, q⟩ => by
  cases e
  obtain ⟨P', R', l⟩ := R.drop s
  exact q σ H P' R' l
theorem sv_cont (s : ∀ i ∈ ob, i ∈ o := by decide) : SV X o o' ob (.Continue pos) fCt := PS.imp ps_continue fun D σ H ⟨H0, P0, P, ρ, fl, R, e, q⟩ => by
  cases e
  obtain ⟨P', R', l⟩ := R.drop s
  exact q σ H P' R' l
theorem sv_pass : SV X o o ob (.Pass pos) fNil := PS.imp ps_pass fun D σ H ⟨H0, P0, P, ρ, fl, R, e, q⟩ => by cases e; exact q σ H P R (Lt.refl H P)
def fIf (t : Rho → Option Bool) (f g : Rho → Option Fl) : Rho → Option Fl := fun ρ => (t ρ).bind fun c => if c = true then f ρ else g ρ
theorem sv_if {c : Expr} {a b : List Stmt} {t : Rho → Option Bool} (hc : ET X o c t) (ha : SVs X o o' ob a f) (hb : SVs X o o' ob b g) : SV X o o' ob (.If c a b pos) (fIf t f g) := PS.imp (ps_if hc ha hb) fun D σ H ⟨H0, P0, P, ρ, fl, R, e, q⟩ => by
  unfold fIf at e
  cases et : t ρ with
  | none => rw [et] at e; cases e
  | some k =>
    rw [et] at e
    refine ⟨H0, P0, P, ρ, k, R, et, fun H1 s1 => ?_⟩
    cases k with
    | true => exact iteT ⟨H0, P0, P, ρ, fl, R.go s1, e, q.go (Lt.same P s1)⟩
    | false => exact iteF ⟨H0, P0, P, ρ, fl, R.go s1, e, q.go (Lt.same P s1)⟩
def fSet (i : Nat) (f : Rho → Option PyData) : Rho → Option Fl := fun ρ => (f ρ).bind fun d => some (.nx (ρ.set i (some d)))
theorem set_of {K : PySem.W.Frag} {D : Ends} {σ : St} {H : Hp} {i : Nat} (hi : i ∉ o) (h : tS K o o ob (fSet i fe) D σ H) : tAsg (tV K o fe) (gName i) D σ H := by
  obtain ⟨H0, P0, P, ρ, fl, R, e, q⟩ := h
  unfold fSet at e
  cases ef : fe ρ with
  | none => rw [ef] at e; cases e
  | some d =>
    rw [ef] at e
    cases e
    exact ⟨H0, P0, P, ρ, d, R, ef, fun v H' s t => q _ H' P ((R.go s).set hi t) (Lt.same P s)⟩
theorem sv_set (i : Nat) {x : Str} (hN : X.N.Nodup) (he : EV X o e fe) (hi : i ∉ o := by decide) (hx : X.N[i]? = some x := by rfl) (hl : Loc X.env.scope x := by first | exact Or.inl rfl | exact Or.inr rfl) (hs : swapsWith e (some (.Name x pos')) pos.line X.env = pure false := by rfl)
    (hf : X.fn x = true ∨ X.env.scope.names.lookup x = some .local := by first | exact .inl rfl | exact .inr rfl) : SV X o o ob (.Assign [.Name x pos'] e pos) (fSet i fe) := PS.imp (ps_set hN hx hl he hs hf) fun D σ H h => set_of hi h
/-- x = a new list, that is one's own then -/
def fOwn (i : Nat) (f : Rho → Option (List PyData)) : Rho → Option Fl := fun ρ => (f ρ).bind fun d => if i < ρ.length then some (.nx (ρ.set i (some (.list d)))) else none
theorem own_of {K : PySem.W.Frag} {D : Ends} {σ : St} {H : Hp} {i : Nat} {fl' : Rho → Option (List PyData)} (hi : i ∉ o) (h : tS K o (i :: o) ob (fOwn i fl') D σ H) : tAsg (tN K o fl') (gName i) D σ H := by
  obtain ⟨H0, P0, P, ρ, fl, R, e, q⟩ := h
  unfold fOwn at e
  cases ef : fl' ρ with
  | none => rw [ef] at e; cases e
  | some ds =>
    rw [ef] at e
    have e : (if i < ρ.length then some (Fl.nx (ρ.set i (some (.list ds)))) else none) = some fl := e
    by_cases hl : i < ρ.length
    · rw [if_pos hl] at e
      cases e
      refine ⟨H0, P0, P, ρ, ds, R, ef, fun p xs H' s n hp t => ?_⟩
      obtain ⟨R', l⟩ := R.take hi hl s n hp t
      exact q _ H' _ R' l
    · rw [if_neg hl] at e; cases e
theorem sv_own (i : Nat) {x : Str} {fl : Rho → Option (List PyData)} (hN : X.N.Nodup) (he : EN X o e fl) (hi : i ∉ o := by decide) (hx : X.N[i]? = some x := by rfl) (hl : Loc X.env.scope x := by first | exact Or.inl rfl | exact Or.inr rfl) (hs : swapsWith e (some (.Name x pos')) pos.line X.env = pure false := by rfl)
    (hf : X.fn x = true ∨ X.env.scope.names.lookup x = some .local := by first | exact .inl rfl | exact .inr rfl) : SV X o (i :: o) ob (.Assign [.Name x pos'] e pos) (fOwn i fl) := PS.imp (ps_set hN hx hl he hs hf) fun D σ H h => own_of hi h

/-! ### targets -/
def tG (K : PySem.W.Frag) (o : List Nat) (f : PyData → Rho → Option Rho) : TG := fun v σ H Q => ∃ H0 P0 P ρ d ρ', Rel K H0 P0 H P o σ ρ ∧ Dq K H P v d ∧ f d ρ = some ρ' ∧ ∀ σ', Rel K H0 P0 H P o σ' ρ' → Q σ' H
abbrev TGt (X : Cx) (o : List Nat) (tg : Expr) (f : PyData → Rho → Option Rho) : Prop := PG X tg (tG X.K o f)
theorem PG.imp {tg : Expr} {t t' : TG} (h : PG X tg t) (i : ∀ v σ H Q, t' v σ H Q → t v σ H Q) : PG X tg t' := ⟨fun pins s σ H v u Q I r q => h.run pins s σ H v u Q I r (i v σ H Q q)⟩
def g1 (i : Nat) : PyData → Rho → Option Rho := fun d ρ => some (ρ.set i (some d))
def g2 (i j : Nat) : PyData → Rho → Option Rho := fun d ρ => match d with
  | .tuple [x, y] => some ((ρ.set i (some x)).set j (some y))
  | _ => none
def g3 (i j k : Nat) : PyData → Rho → Option Rho := fun d ρ => match d with
  | .tuple [x, y, z] => some (((ρ.set i (some x)).set j (some y)).set k (some z))
  | _ => none
theorem g2_some {i j : Nat} {d : PyData} {ρ ρ' : Rho} (h : g2 i j d ρ = some ρ') : ∃ x y, d = .tuple [x, y] ∧ ρ' = (ρ.set i (some x)).set j (some y) := by
  unfold g2 at h
  split at h
  · cases h; exact ⟨_, _, rfl, rfl⟩
  · cases h
theorem g3_some {i j k : Nat} {d : PyData} {ρ ρ' : Rho} (h : g3 i j k d ρ = some ρ') : ∃ x y z, d = .tuple [x, y, z] ∧ ρ' = ((ρ.set i (some x)).set j (some y)).set k (some z) := by
  unfold g3 at h
  split at h
  · cases h; exact ⟨_, _, _, rfl, rfl⟩
  · cases h
theorem tup2 {K : PySem.W.Frag} {H : Hp} {P : Addr → Prop} {v : V} {x y : PyData} (h : Dq K H P v (.tuple [x, y])) : ∃ a u w, v = .ref a ∧ SqT K H a [u, w] ∧ Dq K H P u x ∧ Dq K H P w y := by
  obtain ⟨a, xs, rfl, hs, t⟩ := h.tupI
  cases t with
  | cons h1 t => cases t with
    | cons h2 t => cases t; exact ⟨a, _, _, rfl, hs, h1, h2⟩
theorem tup3 {K : PySem.W.Frag} {H : Hp} {P : Addr → Prop} {v : V} {x y z : PyData} (h : Dq K H P v (.tuple [x, y, z])) : ∃ a u w r, v = .ref a ∧ SqT K H a [u, w, r] ∧ Dq K H P u x ∧ Dq K H P w y ∧ Dq K H P r z := by
  obtain ⟨a, xs, rfl, hs, t⟩ := h.tupI
  cases t with
  | cons h1 t => cases t with
    | cons h2 t => cases t with
      | cons h3 t => cases t; exact ⟨a, _, _, _, rfl, hs, h1, h2, h3⟩
theorem tg_1 (i : Nat) {tg : Expr} (h : PG X tg (gName i)) (hi : i ∉ o := by decide) : TGt X o tg (g1 i) := PG.imp h fun v σ H Q ⟨H0, P0, P, ρ, d, ρ', R, t, e, q⟩ => by
  cases e
  exact q _ (R.set hi t)
theorem tg_2 (i j : Nat) {tg : Expr} (h : PG X tg (gTup X.K 2 (gCons (gName i) (gCons (gName j) gNil)))) (hi : i ∉ o := by decide) (hj : j ∉ o := by decide) : TGt X o tg (g2 i j) := PG.imp h fun v σ H Q ⟨H0, P0, P, ρ, d, ρ', R, t, e, q⟩ => by
  obtain ⟨x, y, rfl, rfl⟩ := g2_some e
  obtain ⟨a, u, w, rfl, hs, h1, h2⟩ := tup2 t
  exact ⟨a, [u, w], rfl, hs, rfl, u, [w], rfl, w, [], rfl, rfl, q _ ((R.set hi h1).set hj h2)⟩
theorem tg_3 (i j k : Nat) {tg : Expr} (h : PG X tg (gTup X.K 3 (gCons (gName i) (gCons (gName j) (gCons (gName k) gNil))))) (hi : i ∉ o := by decide) (hj : j ∉ o := by decide) (hk : k ∉ o := by decide) : TGt X o tg (g3 i j k) := PG.imp h fun v σ H Q ⟨H0, P0, P, ρ, d, ρ', R, t, e, q⟩ => by
  obtain ⟨x, y, z, rfl, rfl⟩ := g3_some e
  obtain ⟨a, u, w, r, rfl, hs, h1, h2, h3⟩ := tup3 t
  exact ⟨a, [u, w, r], rfl, hs, rfl, u, [w, r], rfl, w, [r], rfl, r, [], rfl, rfl, q _ (((R.set hi h1).set hj h2).set hk h3)⟩
/-- target = e, the target a tuple of names -/
def fAsg (g : PyData → Rho → Option Rho) (f : Rho → Option PyData) : Rho → Option Fl := fun ρ => (f ρ).bind fun d => (g d ρ).bind fun r => some (.nx r)
theorem sv_asg {tg : Expr} {gt : PyData → Rho → Option Rho} (he : EV X o e fe) (hg : TGt X o tg gt) (hs : swapsWithSole [tg] e pos.line X.env = pure false := by rfl) (hw : swappedStores [tg] e X.env = pure none := by rfl)
    (h1 : (assignEach [tg] X.env).map (·.2) = [assign tg X.env] := by rfl) : SV X o o ob (.Assign [tg] e pos) (fAsg gt fe) := PS.imp (ps_asg he hg hs hw h1) fun D σ H ⟨H0, P0, P, ρ, fl, R, e, q⟩ => by
  unfold fAsg at e
  cases ef : fe ρ with
  | none => rw [ef] at e; cases e
  | some d =>
    rw [ef] at e
    cases eg : gt d ρ with
    | none => simp [eg] at e
    | some r =>
      simp only [Option.bind_some, eg] at e
      cases e
      exact ⟨H0, P0, P, ρ, d, R, ef, fun v H' s t => ⟨H0, P0, P, ρ, d, r, R.go s, t, eg, fun σ' R' => q σ' H' P R' (Lt.same P s)⟩⟩
/-- a, b = x, y -/
def fPar (i j : Nat) (fa : Rho → Option (List PyData)) : Rho → Option Fl := fun ρ => (fa ρ).bind fun ds => match ds with
  | [x, y] => some (.nx ((ρ.set i (some x)).set j (some y)))
  | _ => none
theorem sv_par (i j : Nat) {x y : Str} {a b : Expr} {fa : Rho → Option (List PyData)} {px py pt : Pos} {kt k2 pt2} (hc : X.calm = true) (hN : X.N.Nodup) (ha : EA X o [a, b] fa) (hij : i ≠ j := by decide) (hio : i ∉ o := by decide) (hjo : j ∉ o := by decide)
    (hi : X.N[i]? = some x := by rfl) (hj : X.N[j]? = some y := by rfl)
    (hx : X.env.scope.names.lookup x = some .local := by rfl) (hy : X.env.scope.names.lookup y = some .local := by rfl)
    (hw : swappedStores [.Tuple [.Name x px, .Name y py] kt pt] (.Tuple [a, b] k2 pt2) X.env = pure (some [x, y]) := by rfl)
    (hs : swapsWithSole [.Tuple [.Name x px, .Name y py] kt pt] (.Tuple [a, b] k2 pt2) pos.line X.env = pure false := by rfl) :
    SV X o o ob (.Assign [.Tuple [.Name x px, .Name y py] kt pt] (.Tuple [a, b] k2 pt2) pos) (fPar i j fa) := PS.imp (ps_par hc hN hi hj hij hx hy ha hw hs) fun D σ H ⟨H0, P0, P, ρ, fl, R, e, q⟩ => by
  unfold fPar at e
  cases ef : fa ρ with
  | none => rw [ef] at e; cases e
  | some ds =>
    rw [ef] at e
    match ds, ef, e with
    | [u, w], ef, e =>
      cases e
      refine ⟨H0, P0, P, ρ, _, R, ef, fun vs H1 s1 r1 => ?_⟩
      cases r1 with
      | cons h1 t => cases t with
        | cons h2 t =>
          cases t
          exact ⟨_, _, rfl, q _ H1 P (((R.go s1).set hio h1).set hjo h2) (Lt.same P s1)⟩
    | [], _, e => cases e
    | [_], _, e => cases e
    | _ :: _ :: _ :: _, _, e => cases e
end
end TF

/-! TFe.lean -/
set_option Elab.async false
set_option linter.all false
set_option maxRecDepth 100000
/-! TF.e: what is walked; for, while; list comprehensions; defs -/
namespace TF
open PySem PySem.Spec PyProof.Rows L2

/-- J walks the data ds, from H1 on -/
structure Wk (K : PySem.W.Frag) (ds : List PyData) (J : It) (H1 : Hp) (P1 : Addr → Prop) : Prop where
  go : ∀ (H : Hp) (P : Addr → Prop) (i : Nat), Lt H1 P1 H P → i < ds.length → J.go i H
  stop : ∀ (H : Hp) (P : Addr → Prop), Lt H1 P1 H P → J.stop ds.length H
  yld : ∀ (H : Hp) (P : Addr → Prop) (i : Nat) (x : V) (H' : Hp), Lt H1 P1 H P → (∀ a, P a → ∃ u, H a = some u) → i < ds.length → J.yld i H x H' → Same H H' ∧ ∃ d, ds[i]? = some d ∧ Dq K H' P x d
def tI (K : PySem.W.Frag) (o : List Nat) (f : Rho → Option (List PyData)) : TI := fun σ H R => ∃ H0 P0 P ρ ds, Rel K H0 P0 H P o σ ρ ∧ f ρ = some ds ∧ ∀ J H', Same H H' → Wk K ds J H' P → ds.length ≤ sizeLine → R J H'
abbrev WI (X : Cx) (o : List Nat) (tg iter : Expr) (f : Rho → Option (List PyData)) : Prop := PI X tg iter (tI X.K o f)
section
variable {X : Cx} {o o1 o' ob : List Nat} {tg e a b : Expr} {f fa fb : Rho → Option PyData} {pos : Pos}
theorem PI.imp {t t' : TI} (h : PI X tg e t) (i : ∀ σ H R, t' σ H R → t σ H R) : PI X tg e t' := ⟨fun pins s σ H R I q => h.run pins s σ H R I (i σ H R q)⟩
/-- what is held of all lists and tuples: their lengths -/
def Szd (K : PySem.W.Frag) (H : Hp) : Prop := (∀ a xs, SqL K H a xs → xs.length ≤ sizeLine) ∧ ∀ a xs, SqT K H a xs → xs.length ≤ sizeLine
theorem PI.szd {t : TI} (h : PI X tg e t) : PI X tg e (fun σ H R => t σ H fun J H' => Szd X.K H' → R J H') := ⟨fun pins s σ H R I q => by
  refine thn (h.run pins s σ H _ I q) fun v s1 h1 => thn h1 fun itv s2 ⟨it, fp, tn, J, H', e1, I2, T, st, fpo, q2⟩ => ?_
  exact ⟨it, fp, tn, J, H', e1, I2, T, st, fpo, q2 ⟨fun a xs h => let ⟨_, _, _, z⟩ := I2.list h; z, fun a xs h => let ⟨_, _, _, z⟩ := I2.tuple h; z⟩⟩⟩
def dSeqL : PyData → Option (List PyData)
  | .list xs => some xs
  | _ => none
def dSeqT : PyData → Option (List PyData)
  | .tuple xs => some xs
  | _ => none
/-- over a list that nobody changes -/
theorem wi_list (h : EV X o e f) : WI X o tg e (e1 f dSeqL) := PI.imp (PI.szd (pi_list h)) fun σ H R ⟨H0, P0, P, ρ, ds, Re, e', q⟩ => by
  obtain ⟨d, ef, eg⟩ := e1_some e'
  cases d with
  | list xs =>
    cases eg
    refine ⟨H0, P0, P, ρ, _, Re, ef, fun v H1 s1 t => ?_⟩
    cases t with
    | @lst a vs _ ha hn ts =>
      refine ⟨a, rfl, ⟨_, SqL.of ha⟩, fun hz => q _ _ s1 ⟨fun H P i l hi => ?_, fun H P l => ?_, fun H P i x H' l tr hi y => ?_⟩ (by rw [← ts.length]; exact hz.1 _ _ (SqL.of ha))⟩
      · have hi' : i < vs.length := by rw [ts.length]; exact hi
        exact ⟨vs, vs[i], SqL.of (l _ _ ha hn).1, by simp [hi']⟩
      · exact ⟨vs, SqL.of (l _ _ ha hn).1, by rw [ts.length]; exact Nat.le_refl _⟩
      · obtain ⟨rfl, y⟩ := y
        obtain ⟨d, h1, h2⟩ := (ts.mono l).getV (y vs (SqL.of (l _ _ ha hn).1))
        exact ⟨Same.refl _, d, h1, h2⟩
  | _ => cases eg
theorem wi_tup (h : EV X o e f) : WI X o tg e (e1 f dSeqT) := PI.imp (PI.szd (pi_tup h)) fun σ H R ⟨H0, P0, P, ρ, ds, Re, e', q⟩ => by
  obtain ⟨d, ef, eg⟩ := e1_some e'
  cases d with
  | tuple xs =>
    cases eg
    refine ⟨H0, P0, P, ρ, _, Re, ef, fun v H1 s1 t => ?_⟩
    cases t with
    | @tup a its vs _ ha hn ts =>
      refine ⟨a, rfl, ⟨_, sqT_fz ha⟩, fun hz => q _ _ s1 ⟨fun H P i l hi => ?_, fun H P l => ?_, fun H P i x H' l tr hi y => ?_⟩ (by rw [← ts.length]; exact hz.2 _ _ (sqT_fz ha))⟩
      · have hi' : i < vs.length := by rw [ts.length]; exact hi
        exact ⟨vs, vs[i], sqT_fz (l _ _ ha hn).1, by simp [hi']⟩
      · exact ⟨vs, sqT_fz (l _ _ ha hn).1, by rw [ts.length]; exact Nat.le_refl _⟩
      · obtain ⟨rfl, y⟩ := y
        obtain ⟨d, h1, h2⟩ := (ts.mono l).getV (y vs (sqT_fz (l _ _ ha hn).1))
        exact ⟨Same.refl _, d, h1, h2⟩
  | _ => cases eg
/-- whole numbers from lo on -/
def rints (lo : Int) (n : Nat) : List PyData := (List.range n).map fun (i : Nat) => .int (lo + i)
theorem rints_length (lo : Int) (n : Nat) : (rints lo n).length = n := by unfold rints; rw [List.length_map, List.length_range]
def dRng1 : PyData → Option (List PyData)
  | .int n => if -1000000 ≤ n ∧ n ≤ 1000000 then some (rints 0 n.toNat) else none
  | _ => none
def dRng2 : PyData → PyData → Option (List PyData)
  | .int i, .int j => if -1000000 ≤ i ∧ i ≤ 1000000 ∧ j ≤ 1000000 ∧ -1000000 ≤ j then some (rints i (j - i).toNat) else none
  | _, _ => none
theorem wk_range {K : PySem.W.Frag} {lo : Int} {n : Nat} {H1 : Hp} {P1 : Addr → Prop} : Wk K (rints lo n) (Itr lo n) H1 P1 where
  go := fun H P i l hi => by rw [rints_length] at hi; exact hi
  stop := fun H P l => by rw [rints_length]; exact Nat.le_refl _
  yld := fun H P i x H' l tr hi y => by
    obtain ⟨rfl, rfl⟩ := y
    rw [rints_length] at hi
    exact ⟨Same.refl _, .int (lo + i), by unfold rints; rw [List.getElem?_map, List.getElem?_range hi] <;> rfl, .int _⟩
theorem big1 {n : Nat} (h : n ≤ 2000000) : n ≤ sizeLine := by rw [sizeLine_eq]; omega
theorem wi_range1 {p : Pos} (hm : X.mg "range" = none) (h : ER X o a f) (hg : Gl X "range" := by rfl) (hs : starEach [a] X.env = [(false, eval a X.env)] := by rfl) : WI X o tg (.Call (.Name "range" p) [a] [] pos) (e1 f dRng1) :=
  PI.imp (pi_range1 hg hm (pa_cons h pa_nil hs) hs) fun σ H R ⟨H0, P0, P, ρ, ds, Re, e', q⟩ => by
    obtain ⟨d, ef, eg⟩ := e1_some e'
    refine ⟨H0, P0, P, ρ, _, Re, ef, fun v H1 s1 r1 => ?_⟩
    cases d with
    | int n =>
      have eg : (if -1000000 ≤ n ∧ n ≤ 1000000 then some (rints 0 n.toNat) else none) = some ds := eg
      by_cases hn : -1000000 ≤ n ∧ n ≤ 1000000
      · rw [if_pos hn] at eg
        cases eg
        have e1 := r1.int
        subst e1
        exact ⟨n, rfl, by omega, by omega, q _ _ s1 wk_range (by rw [rints_length]; exact big1 (by omega))⟩
      · rw [if_neg hn] at eg; cases eg
    | _ => cases eg
theorem wi_range2 {p : Pos} (hm : X.mg "range" = none) (ha : ER X o a fa) (hb : ER X o b fb) (hg : Gl X "range" := by rfl) (hs : starEach [a, b] X.env = [(false, eval a X.env), (false, eval b X.env)] := by rfl) (hs2 : starEach [b] X.env = [(false, eval b X.env)] := by rfl) : WI X o tg (.Call (.Name "range" p) [a, b] [] pos) (e2 fa fb dRng2) :=
  PI.imp (pi_range2 hg hm (pa_cons ha (pa_cons hb pa_nil hs2) (by rw [hs, hs2])) hs hs2) fun σ H R ⟨H0, P0, P, ρ, ds, Re, e', q⟩ => by
    obtain ⟨x, y, ea, eb, eg⟩ := e2_some e'
    refine ⟨H0, P0, P, ρ, _, Re, ea, fun v H1 s1 r1 => ⟨H0, P0, P, ρ, _, Re.go s1, eb, fun u H2 s2 r2 => ?_⟩⟩
    cases x with
    | int i =>
      cases y with
      | int j =>
        have eg : (if -1000000 ≤ i ∧ i ≤ 1000000 ∧ j ≤ 1000000 ∧ -1000000 ≤ j then some (rints i (j - i).toNat) else none) = some ds := eg
        by_cases hn : -1000000 ≤ i ∧ i ≤ 1000000 ∧ j ≤ 1000000 ∧ -1000000 ≤ j
        · rw [if_pos hn] at eg
          cases eg
          have e1 := r1.int
          have e2 := r2.int
          subst e1
          subst e2
          exact ⟨i, j, rfl, ⟨by omega, by omega, by omega, by omega⟩, q _ _ (s1.trans s2) wk_range (by rw [rints_length]; exact big1 (by omega))⟩
        · rw [if_neg hn] at eg; cases eg
      | _ => cases eg
    | _ => cases eg

/-! ### for -/
def forGo (tg : PyData → Rho → Option Rho) (body : Rho → Option Fl) (ks : List Nat) : List PyData → Rho → Option Fl
  | [], ρ => some (.nx ρ)
  | d :: ds, ρ => (tg d ρ).bind fun r => (body r).bind fun fl => match fl with
    | .nx r' => forGo tg body ks ds (clr ks r')
    | .ct r' => forGo tg body ks ds (clr ks r')
    | .bk r' => some (.nx (clr ks r'))
    | .rt d => some (.rt d)
def fFor (it : Rho → Option (List PyData)) (tg : PyData → Rho → Option Rho) (ks : List Nat) (body : Rho → Option Fl) : Rho → Option Fl := fun ρ => (it ρ).bind fun ds => forGo tg body ks ds (clr ks ρ)
theorem sv_for {iter : Expr} {body : List Stmt} {it : Rho → Option (List PyData)} {gt : PyData → Rho → Option Rho} {fb : Rho → Option Fl} (ks : List Nat) (hc : X.calm = true) (hi : WI X o tg iter it) (hg : TGt X o tg gt) (hb : SVs X o o o body fb) (hp : PassesOwn (model X.prog X.w) X.A X.env X.xe)
    (hk : ∀ k ∈ ks, k ∉ o := by decide) (hs : ∀ x, foldedSetIterable iter X.env x = pure x := by intro _; rfl) : SV X o o ob (.For tg iter body [] pos) (fFor it gt ks fb) := PS.imp (ps_for hp hc hi hg hb hs) fun D σ H ⟨H0, P0, P, ρ, fl, R, e, q⟩ => by
  unfold fFor at e
  cases ei : it ρ with
  | none => rw [ei] at e; cases e
  | some ds =>
  rw [ei] at e
  have e : forGo gt fb ks ds (clr ks ρ) = some fl := e
  refine ⟨H0, P0, P, ρ, ds, R, ei, fun J H1 s1 wk hz => ?_⟩
  refine ⟨fun i m σ H => m = ds.length - i ∧ i ≤ ds.length ∧ ∃ P' ρ', Rel X.K H0 P0 H P' o σ ρ' ∧ Lt H1 P H P' ∧ forGo gt fb ks (ds.drop i) ρ' = some fl, ⟨_, rfl, Nat.zero_le _, P, _, (R.go s1).clr hk, Lt.refl _ _, e⟩, ?_⟩
  rintro i m σ2 H2 ⟨rfl, hi2, P2, ρ2, R2, l2, e2⟩
  have lt2 : Lt H P H2 P2 := (Lt.same P s1).trans l2
  by_cases hlt : i < ds.length
  · refine .inr ⟨wk.go H2 P2 i l2 hlt, ?_⟩
    rw [List.drop_eq_getElem_cons hlt] at e2
    refine ⟨fun σ' H' => ∃ P' ρ', Rel X.K H0 P0 H' P' o σ' ρ' ∧ Lt H1 P H' P' ∧ forGo gt fb ks (ds.drop (i + 1)) ρ' = some fl, fun σ' H' ⟨P', ρ', r⟩ => ⟨_, (by omega : ds.length - (i + 1) < ds.length - i), rfl, hlt, P', ρ', r⟩, fun x H' y => ?_⟩
    obtain ⟨s3, d, ed, dq⟩ := wk.yld H2 P2 i x H' l2 R2.tr hlt y
    rw [List.getElem?_eq_getElem hlt] at ed
    cases ed
    unfold forGo at e2
    cases et : gt ds[i] ρ2 with
    | none => rw [et] at e2; cases e2
    | some r =>
    rw [et] at e2
    cases eb : fb r with
    | none => simp [eb] at e2
    | some fl1 =>
    simp only [Option.bind_some, eb] at e2
    refine ⟨H0, P0, P2, ρ2, ds[i], r, R2.go s3, dq, et, fun σ3 R3 => ⟨H0, P0, P2, r, fl1, R3, eb, ?_⟩⟩
    have l3 := l2.trans (Lt.same P2 s3)
    cases fl1 with
    | nx r' => exact fun σ' H4 P4 R4 l4 => ⟨P4, _, R4.clr hk, l3.trans l4, e2⟩
    | ct r' => exact fun σ' H4 P4 R4 l4 => ⟨P4, _, R4.clr hk, l3.trans l4, e2⟩
    | bk r' => cases e2; exact fun σ' H4 P4 R4 l4 => q σ' H4 P4 (R4.clr hk) ((lt2.trans (Lt.same P2 s3)).trans l4)
    | rt d => cases e2; exact q
  · have ei2 : i = ds.length := by omega
    subst ei2
    refine .inl ⟨wk.stop H2 P2 l2, ?_⟩
    rw [List.drop_length] at e2
    cases e2
    exact q σ2 H2 P2 R2 lt2

/-! ### while -/
def whGo (t : Rho → Option Bool) (body : Rho → Option Fl) (ks : List Nat) : Nat → Rho → Option Fl
  | 0, _ => none
  | n + 1, ρ => (t ρ).bind fun c => if c = true then (body ρ).bind fun fl => (match fl with
      | .nx r' => whGo t body ks n (clr ks r')
      | .ct r' => whGo t body ks n (clr ks r')
      | .bk r' => some (.nx (clr ks r'))
      | .rt d => some (.rt d)) else some (.nx ρ)
def fWhile (n : Nat) (t : Rho → Option Bool) (ks : List Nat) (body : Rho → Option Fl) : Rho → Option Fl := fun ρ => whGo t body ks n (clr ks ρ)
theorem sv_while (n : Nat) {c : Expr} {body : List Stmt} {t : Rho → Option Bool} {fb : Rho → Option Fl} (ks : List Nat) (hc : ET X o c t) (hb : SVs X o o o body fb) (hp : PassesOwn (model X.prog X.w) X.A X.env X.xe)
    (hk : ∀ k ∈ ks, k ∉ o := by decide) : SV X o o ob (.While c body [] pos) (fWhile n t ks fb) := PS.imp (ps_while hp hc hb) fun D σ H ⟨H0, P0, P, ρ, fl, R, e, q⟩ => by
  refine ⟨fun m σ H1 => ∃ P' ρ', Rel X.K H0 P0 H1 P' o σ ρ' ∧ Lt H P H1 P' ∧ whGo t fb ks m ρ' = some fl, ⟨n, P, _, R.clr hk, Lt.refl _ _, e⟩, ?_⟩
  rintro m σ2 H2 ⟨P2, ρ2, R2, l2, e2⟩
  cases m with
  | zero => cases e2
  | succ m =>
  unfold whGo at e2
  cases et : t ρ2 with
  | none => rw [et] at e2; cases e2
  | some k =>
  rw [et] at e2
  simp only [Option.bind_some] at e2
  refine ⟨H0, P0, P2, ρ2, k, R2, et, fun H3 s3 => ?_⟩
  cases k with
  | false =>
    rw [if_neg (by decide)] at e2
    cases e2
    exact iteF (q σ2 H3 P2 (R2.go s3) (l2.trans (Lt.same P2 s3)))
  | true =>
    rw [if_pos rfl] at e2
    refine iteT ⟨fun σ' H' => ∃ P' ρ', Rel X.K H0 P0 H' P' o σ' ρ' ∧ Lt H P H' P' ∧ whGo t fb ks m ρ' = some fl, fun σ' H' r => ⟨m, Nat.lt_succ_self m, r⟩, ?_⟩
    cases eb : fb ρ2 with
    | none => rw [eb] at e2; cases e2
    | some fl1 =>
    rw [eb] at e2
    simp only [Option.bind_some] at e2
    refine ⟨H0, P0, P2, ρ2, fl1, R2.go s3, eb, ?_⟩
    have l3 := l2.trans (Lt.same P2 s3)
    cases fl1 with
    | nx r' => exact fun σ' H4 P4 R4 l4 => ⟨P4, _, R4.clr hk, l3.trans l4, e2⟩
    | ct r' => exact fun σ' H4 P4 R4 l4 => ⟨P4, _, R4.clr hk, l3.trans l4, e2⟩
    | bk r' => cases e2; exact fun σ' H4 P4 R4 l4 => q σ' H4 P4 (R4.clr hk) (l3.trans l4)
    | rt d => cases e2; exact q

/-! ### a def -/
def runF (n : Nat) (f : Rho → Option Fl) (ds : List PyData) : Option PyData := (f (ds.map some ++ List.replicate (n - ds.length) none)).bind fun fl => match fl with
  | .rt d => some d
  | .nx _ => some .none
  | _ => none
theorem start_get {vs : List V} {N : List Str} {i : Nat} {v : V} (h : vs[i]? = some v) : (L2.start N vs)[i]? = some (some v) := by
  unfold L2.start
  have hl := (List.getElem?_eq_some_iff.mp h).1
  rw [List.getElem?_append_left (by simpa using hl), List.getElem?_map, h] <;> rfl
theorem fn_F {P : Program} {w : World} {K : PySem.W.Frag} {mg : Str → Option Value} {base : Heap} {k : Nat} {x qual : Str} {st : Stmt} {f : Addr} {fd : FuncData} {N ps : List Str} {o' : List Nat} {fb : Rho → Option Fl} (F : Fun K x qual st f fd) (S : FnScope N ps (defScope st))
    (hbody : ∀ (cdv : Value) (A : Around) (outer : List Env) (s : Shared) (H : Hp) (E : XK), Room k (A.deeper (envOfC qual (defScope st) s.heap.objs.size f cdv)) → SVs (cxOf CX0 P w K mg base N qual (defScope st) f cdv A outer s H E).nox [] o' [] (defBody st) fb) :
    FnOk P w K mg base CX0 (k + 1) f fd ps (spF K ps.length (runF N.length fb)) := by
  refine F.ok S (fun vs H Q E h => h.1) (fun cdv A outer s H vs Q E hr h => ?_)
  obtain ⟨hl, Pr, ds, d, tr, t, e, q⟩ := h
  refine ⟨_, hbody cdv A outer s H E hr, ?_⟩
  unfold runF at e
  cases ef : fb (ds.map some ++ List.replicate (N.length - ds.length) none) with
  | none => rw [ef] at e; cases e
  | some fl =>
  rw [ef] at e
  simp only [Option.bind_some] at e
  have tl := t.length
  refine ⟨H, Pr, Pr, _, fl, ⟨fun a z => z, tr, tr, Same.refl H, fun i hi => absurd hi (by simp), fun i j a b hi => absurd hi (by simp), fun i d' _ h => ?_, ?_⟩, ef, ?_⟩
  · have hi : i < ds.length := by
      by_cases hi : i < ds.length
      · exact hi
      · rw [List.getElem?_append_right (by simpa using hi), List.getElem?_replicate] at h
        split at h <;> cases h
    rw [List.getElem?_append_left (by simpa using hi), List.getElem?_map] at h
    cases z : ds[i]? with
    | none => rw [z] at h; cases h
    | some d2 =>
      rw [z] at h
      cases h
      obtain ⟨v, h1, h2⟩ := t.get z
      exact ⟨v, start_get h1, h2⟩
  · unfold L2.start
    rw [List.length_append, List.length_append, List.length_map, List.length_map, List.length_replicate, List.length_replicate, tl]
  · cases fl with
    | rt d' => cases e; exact fun v H' s t => q v H' s t
    | nx r => cases e; exact fun σ' H' P' R l => q .non H' R.same .non
    | bk r => cases e
    | ct r => cases e
end
end TF

/-! TFf.lean -/
set_option Elab.async false
set_option linter.all false
set_option maxRecDepth 100000
/-! TF.f: list comprehensions -/
namespace TF
open PySem PySem.Spec PyProof.Rows L2

def lcGo (tg : PyData → Rho → Option Rho) (tt : Rho → Option Bool) (el : Rho → Option PyData) (ρ : Rho) : List PyData → Option (List PyData)
  | [] => some []
  | d :: ds => (tg d ρ).bind fun r => (tt r).bind fun c => if c = true then (el r).bind fun y => (lcGo tg tt el ρ ds).bind fun ys => some (y :: ys) else lcGo tg tt el ρ ds
def eLc (it : Rho → Option (List PyData)) (tg : PyData → Rho → Option Rho) (tt : Rho → Option Bool) (el : Rho → Option PyData) : Rho → Option (List PyData) := fun ρ => (it ρ).bind fun ds => lcGo tg tt el ρ ds
def tYs : Rho → Option Bool := fun _ => some true

section
variable {K : PySem.W.Frag} {H0 H H' : Hp} {P0 P : Addr → Prop} {o : List Nat} {σ : St} {ρ : Rho}
/-- one more is private -/
theorem Rel.priv (R : Rel K H0 P0 H P o σ ρ) (e : Same H H') {p : Addr} {u : HO} (n : H p = none) (hp : H' p = some u) : Rel K H0 P0 H' (fun a => a = p ∨ P a) o σ ρ := by
  have lt : Lt H P H' (fun a => a = p ∨ P a) := fun a u h hn => ⟨e a u h, by
    rintro (rfl | z)
    · rw [n] at h; cases h
    · exact hn z⟩
  refine ⟨fun a h => .inr (R.sub a h), R.tr0, ?_, R.same.trans e, fun j hj => ?_, R.dis, fun j d hj h => ?_, R.len⟩
  · rintro a (rfl | h)
    · exact ⟨_, hp⟩
    · obtain ⟨u, hu⟩ := R.tr a h
      exact ⟨u, e a u hu⟩
  · obtain ⟨b, ys, es, h1, h2, h3, h4, h5, h6⟩ := R.own j hj
    exact ⟨b, ys, es, h1, h2, .inr h3, h4, e _ _ h5, h6.mono lt⟩
  · obtain ⟨v, h1, h2⟩ := R.dat j d hj h
    exact ⟨v, h1, h2.mono lt⟩
/-- a comprehension's target -/
def CT (K : PySem.W.Frag) (o : List Nat) (vs : List Nat) (g : TG) (gt : PyData → Rho → Option Rho) : Prop :=
  ∀ {H0 H : Hp} {P0 P : Addr → Prop} {σ : St} {ρ ρ' : Rho} {v : V} {d : PyData} (Q : St → Hp → Prop), Rel K H0 P0 H P o σ ρ → Dq K H P v d → gt d ρ = some ρ' →
    (∀ σ2, Rel K H0 P0 H P o σ2 ρ' → wipe σ2 vs = wipe σ vs → Q σ2 H) → g v (wipe σ vs) H Q
theorem ct_1 (i : Nat) (hi : i ∉ o := by decide) : CT K o [i] (gName i) (g1 i) := by
  intro H0 H P0 P σ ρ ρ' v d Q R t e q
  cases e
  refine q _ ?_ ?_
  · have e : (wipe σ [i]).set i (some v) = σ.set i (some v) := by simp [wipe]
    rw [e]
    exact R.set hi t
  · simp [wipe]
theorem ct_2 (i j : Nat) (hij : i ≠ j := by decide) (hi : i ∉ o := by decide) (hj : j ∉ o := by decide) : CT K o [i, j] (gTup K 2 (gCons (gName i) (gCons (gName j) gNil))) (g2 i j) := by
  intro H0 H P0 P σ ρ ρ' v d Q R t e q
  obtain ⟨x, y, rfl, rfl⟩ := g2_some e
  obtain ⟨a, u, w, rfl, hs, h1, h2⟩ := tup2 t
  refine ⟨a, [u, w], rfl, hs, rfl, u, [w], rfl, w, [], rfl, rfl, q _ ?_ ?_⟩
  · have e : ((wipe σ [i, j]).set i (some u)).set j (some w) = (σ.set i (some u)).set j (some w) := by
      apply List.ext_getElem?
      intro n
      simp only [wipe, List.getElem?_set, List.length_set]
      by_cases a1 : j = n <;> by_cases a2 : i = n <;> simp [a1, a2]
    rw [e]
    exact (R.set hi h1).set hj h2
  · apply List.ext_getElem?
    intro n
    simp only [wipe, List.getElem?_set, List.length_set]
    by_cases a1 : j = n <;> by_cases a2 : i = n <;> simp [a1, a2]
theorem ct_3 (i j k : Nat) (hij : i ≠ j := by decide) (hik : i ≠ k := by decide) (hjk : j ≠ k := by decide) (hi : i ∉ o := by decide) (hj : j ∉ o := by decide) (hk : k ∉ o := by decide) : CT K o [i, j, k] (gTup K 3 (gCons (gName i) (gCons (gName j) (gCons (gName k) gNil)))) (g3 i j k) := by
  intro H0 H P0 P σ ρ ρ' v d Q R t e q
  obtain ⟨x, y, z, rfl, rfl⟩ := g3_some e
  obtain ⟨a, u, w, r, rfl, hs, h1, h2, h3⟩ := tup3 t
  refine ⟨a, [u, w, r], rfl, hs, rfl, u, [w, r], rfl, w, [r], rfl, r, [], rfl, rfl, q _ ?_ ?_⟩
  · have e : (((wipe σ [i, j, k]).set i (some u)).set j (some w)).set k (some r) = ((σ.set i (some u)).set j (some w)).set k (some r) := by
      apply List.ext_getElem?
      intro n
      simp only [wipe, List.getElem?_set, List.length_set]
      by_cases a1 : j = n <;> by_cases a2 : i = n <;> by_cases a3 : k = n <;> simp [a1, a2, a3]
    rw [e]
    exact ((R.set hi h1).set hj h2).set hk h3
  · apply List.ext_getElem?
    intro n
    simp only [wipe, List.getElem?_set, List.length_set]
    by_cases a1 : j = n <;> by_cases a2 : i = n <;> by_cases a3 : k = n <;> simp [a1, a2, a3]
theorem lc_of {vs : List Nat} {g : TG} {gt : PyData → Rho → Option Rho} {it : Rho → Option (List PyData)} {tt : Rho → Option Bool} {el : Rho → Option PyData} {Q : VK} (ct : CT K o vs g gt) (h : tN K o (eLc it gt tt el) σ H Q) :
    tLc (tI K o it) g (tT K o tt) (tV K o el) vs σ H Q := by
  obtain ⟨H0, P0, P, ρ, res, R, e, q⟩ := h
  unfold eLc at e
  cases ei : it ρ with
  | none => rw [ei] at e; cases e
  | some ds =>
  rw [ei] at e
  have e : lcGo gt tt el ρ ds = some res := e
  refine ⟨H0, P0, P, ρ, ds, R, ei, fun J H1 s1 wk hz D hD => ?_⟩
  have hD0 : H D = none := s1.free hD
  refine ⟨fun i m Hc => m = ds.length - i ∧ i ≤ ds.length ∧ ∃ acc accd rest, Hc D = some (.lst acc) ∧ DqA K Hc (fun a => a = D ∨ P a) acc accd ∧ lcGo gt tt el ρ (ds.drop i) = some rest ∧ accd ++ rest = res ∧ acc.length ≤ i ∧ Same H1 Hc,
    ⟨_, rfl, Nat.zero_le _, [], [], res, upd_same, .nil, e, rfl, Nat.le_refl _, same_upd hD _⟩, ?_⟩
  rintro i m Hc ⟨rfl, hi, acc, accd, rest, hDc, hacc, er, hres, hlen, sc⟩
  have lt : Lt H1 P Hc (fun a => a = D ∨ P a) := fun a u h hn => ⟨sc a u h, by
    rintro (rfl | z)
    · rw [hD] at h; cases h
    · exact hn z⟩
  have Rc : Rel K H0 P0 Hc (fun a => a = D ∨ P a) o σ ρ := R.priv (s1.trans sc) hD0 hDc
  by_cases hlt : i < ds.length
  · refine .inr ⟨wk.go Hc _ i lt hlt, ?_⟩
    rw [List.drop_eq_getElem_cons hlt] at er
    unfold lcGo at er
    refine ⟨fun H' => ∃ acc accd rest, H' D = some (.lst acc) ∧ DqA K H' (fun a => a = D ∨ P a) acc accd ∧ lcGo gt tt el ρ (ds.drop (i + 1)) = some rest ∧ accd ++ rest = res ∧ acc.length ≤ i + 1 ∧ Same H1 H',
      fun H' r => ⟨_, (by omega : ds.length - (i + 1) < ds.length - i), rfl, hlt, r⟩, fun x H' y => ?_⟩
    obtain ⟨s3, d, ed, dq⟩ := wk.yld Hc _ i x H' lt Rc.tr hlt y
    rw [List.getElem?_eq_getElem hlt] at ed
    cases ed
    cases et : gt ds[i] ρ with
    | none => rw [et] at er; cases er
    | some r =>
    rw [et] at er
    cases ett : tt r with
    | none => simp [ett] at er
    | some c =>
    simp only [Option.bind_some, ett] at er
    refine ct _ (Rc.go s3) dq et fun σ2 R2 hw => ⟨hw, H0, P0, _, r, c, R2, ett, fun H4 s4 => ?_⟩
    cases c with
    | false =>
      rw [if_neg (by decide)] at er
      exact iteF ⟨acc, accd, rest, s4 _ _ (s3 _ _ hDc), hacc.same (s3.trans s4), er, hres, by omega, sc.trans (s3.trans s4)⟩
    | true =>
      rw [if_pos rfl] at er
      cases eel : el r with
      | none => rw [eel] at er; cases er
      | some yd =>
      rw [eel] at er
      simp only [Option.bind_some] at er
      cases ego : lcGo gt tt el ρ (ds.drop (i + 1)) with
      | none => rw [ego] at er; cases er
      | some ys =>
      rw [ego] at er
      cases er
      refine iteT ⟨H0, P0, _, r, yd, R2.go s4, eel, fun v H5 s5 t => ?_⟩
      have s35 := s3.trans (s4.trans s5)
      have ltu : Lt H5 (fun a => a = D ∨ P a) (upd H5 D (.lst (acc ++ [v]))) (fun a => a = D ∨ P a) := fun c u h n => ⟨by rw [upd_ne (fun z => n (.inl z))]; exact h, n⟩
      refine ⟨acc, s35 _ _ hDc, by omega, acc ++ [v], accd ++ [yd], ys, upd_same, ((hacc.same s35).append (.cons t .nil)).mono ltu, rfl, by rw [List.append_assoc]; exact hres, by rw [List.length_append, List.length_singleton]; omega, fun c u h => ?_⟩
      rw [upd_ne (ne_of_none h hD)]
      exact (sc.trans s35) c u h
  · have ei2 : i = ds.length := by omega
    subst ei2
    refine .inl ⟨wk.stop Hc _ lt, ?_⟩
    rw [List.drop_length] at er
    cases er
    rw [List.append_nil] at hres
    subst hres
    exact q D acc Hc (s1.trans sc) hD0 hDc hacc
end
section
variable {X : Cx} {o ob : List Nat} {elt tg iter : Expr} {ifs : List Expr} {scope : Scope} {pos : Pos} {it : Rho → Option (List PyData)} {gt : PyData → Rho → Option Rho} {tt : Rho → Option Bool} {el : Rho → Option PyData} {g : TG}
theorem PTs.imp {X : Cx} {ifs : List Expr} {t t' : TT} (h : PTs X ifs t) (i : ∀ σ H Q, t' σ H Q → t σ H Q) : PTs X ifs t' := ⟨fun pins s σ H Q I q => h.run pins s σ H Q I (i σ H Q q)⟩
theorem ets_nil {X : Cx} : PTs X [] (tT X.K o tYs) := PTs.imp pts_nil fun σ H Q ⟨H0, P0, P, ρ, d, R, e, q⟩ => by cases e; exact q H (Same.refl H)
theorem ets_one {X : Cx} {c : Expr} (h : ET X o c tt) : PTs X [c] (tT X.K o tt) := pts_one h
theorem en_lc (own : List (Str × Nat)) (hc : X.calm = true) (hN : X.N.Nodup) (hi : WI X o tg iter it) (ct : CT X.K o (own.map (·.2)) g gt)
    (ok : BlkOk X.N X.env.scope scope own)
    (hg : ∀ (s : Shared) (H : Hp) (C : Addr) (cl : List (Str × Addr)) (fp : List Addr), PG (X.blk s H scope (compEnvC scope cl C X.env) fp) tg g) (ht : ∀ (s : Shared) (H : Hp) (C : Addr) (cl : List (Str × Addr)) (fp : List Addr), PTs (X.blk s H scope (compEnvC scope cl C X.env) fp) ifs (tT X.K o tt))
    (he : ∀ (s : Shared) (H : Hp) (C : Addr) (cl : List (Str × Addr)) (fp : List Addr), EV (X.blk s H scope (compEnvC scope cl C X.env) fp) o elt el) (hs : ∀ x, foldedSetIterable iter X.env x = pure x := by intro _; rfl) :
    EN X o (.ListComp elt [⟨tg, iter, ifs, 0⟩] scope pos) (eLc it gt tt el) := PE.imp (pe_lc hc hN hi ok hg ht he hs) fun σ H Q h => lc_of ct h
/-- y = [..], y one's own then -/
theorem sv_ownLc (i : Nat) (own : List (Str × Nat)) {y : Str} {py : Pos} {spos : Pos} (hc : X.calm = true) (hN : X.N.Nodup) (hi : WI X o tg iter it) (ct : CT X.K o (own.map (·.2)) g gt)
    (ok : BlkOk X.N X.env.scope scope own)
    (hg : ∀ (s : Shared) (H : Hp) (C : Addr) (cl : List (Str × Addr)) (fp : List Addr), PG (X.blk s H scope (compEnvC scope cl C X.env) fp) tg g) (ht : ∀ (s : Shared) (H : Hp) (C : Addr) (cl : List (Str × Addr)) (fp : List Addr), PTs (X.blk s H scope (compEnvC scope cl C X.env) fp) ifs (tT X.K o tt))
    (he : ∀ (s : Shared) (H : Hp) (C : Addr) (cl : List (Str × Addr)) (fp : List Addr), EV (X.blk s H scope (compEnvC scope cl C X.env) fp) o elt el)
    (hsw : swapsWith (.ListComp elt [⟨tg, iter, ifs, 0⟩] scope pos) (some (.Name y py)) spos.line X.env = pure true) (hio : i ∉ o := by decide) (hy : X.N[i]? = some y := by rfl) (hyl : X.env.scope.names.lookup y = some .local := by rfl) (hs : ∀ x, foldedSetIterable iter X.env x = pure x := by intro _; rfl) :
    SV X o (i :: o) ob (.Assign [.Name y py] (.ListComp elt [⟨tg, iter, ifs, 0⟩] scope pos) spos) (fOwn i (eLc it gt tt el)) := PS.imp (ps_setLc hc hN hy hyl hsw hi ok hg ht he hs) fun D σ H h => by
  have h' := own_of hio h
  exact lc_of ct h'
end
end TF

/-! TFg.lean -/
set_option Elab.async false
set_option linter.all false
set_option maxRecDepth 100000
/-! TF.g: operators and built-ins on data -/
namespace TF
open PySem PySem.Spec PyProof.Rows L2

section
variable {X : Cx}
/-! ### + -/
def dAdd : PyData → PyData → Option PyData
  | .int i, .int j => some (.int (i + j))
  | .str a, .str b => if a.length + b.length ≤ sizeLine then some (.str (a ++ b)) else none
  | .tuple xs, .tuple ys => if xs.length + ys.length ≤ sizeLine then some (.tuple (xs ++ ys)) else none
  | _, _ => none
theorem opF_add : OpR X (binaryOp .Add) (rF X.K dAdd) := OpR.imp (op_add.or (op_add_str.or op_catF)) fun x y H Q ⟨P, dx, dy, d, tr, rx, ry, e, q⟩ => by
  have np : ∀ {p : Addr}, H p = none → ¬ P p := fun h z => by obtain ⟨u, hu⟩ := tr _ z; rw [h] at hu; cases hu
  unfold dAdd at e
  split at e
  · cases e
    exact .inl ⟨_, _, rx.int, ry.int, q _ H (Same.refl H) (.int _)⟩
  · rename_i a b
    by_cases hz : a.length + b.length ≤ sizeLine
    · rw [if_pos hz] at e; cases e
      exact .inr (.inl ⟨_, _, rx.str, ry.str, hz, q _ H (Same.refl H) (.str _)⟩)
    · rw [if_neg hz] at e; cases e
  · rename_i xs ys
    by_cases hz : xs.length + ys.length ≤ sizeLine
    · rw [if_pos hz] at e; cases e
      have qx := rx.tupQ
      have qy := ry.tupQ
      obtain ⟨a, us, rfl, hs, t⟩ := rx.tup
      obtain ⟨b, ws, rfl, hs2, t2⟩ := ry.tup
      refine .inr (.inr ⟨a, b, us, ws, rfl, rfl, hs, hs2, by rw [t.length, t2.length]; exact hz, fun h => ?_, fun _ h => ?_, fun _ _ p its hp => ?_⟩)
      · have : xs = [] := t.nil_iff.mp h
        subst this
        exact q _ H (Same.refl H) qy
      · have : ys = [] := t2.nil_iff.mp h
        subst this
        rw [List.append_nil] at q
        exact q _ H (Same.refl H) qx
      · exact q _ _ (same_upd hp _) (.tup upd_same (np hp) ((t.append t2).same (same_upd hp _)))
    · rw [if_neg hz] at e; cases e
  · cases e
theorem newDq {K : PySem.W.Frag} {H : Hp} {P : Addr → Prop} {p : Addr} {u : HO} {vs : List V} {ds : List PyData} (hp : H p = none) (t : DqA K H P vs ds) : DqA K (upd H p u) (fun a => a = p ∨ P a) vs ds := t.mono fun a w h n => ⟨same_upd hp u a w h, by
  rintro (rfl | z)
  · rw [hp] at h; cases h
  · exact n z⟩
def dAddL : PyData → PyData → Option (List PyData)
  | .list xs, .list ys => if xs.length + ys.length ≤ sizeLine then some (xs ++ ys) else none
  | _, _ => none
theorem opF_addL : OpR X (binaryOp .Add) (rFN X.K dAddL) := OpR.imp op_cat fun x y H Q ⟨P, dx, dy, d, tr, rx, ry, e, q⟩ => by
  unfold dAddL at e
  split at e
  · rename_i xs ys
    by_cases hz : xs.length + ys.length ≤ sizeLine
    · rw [if_pos hz] at e; cases e
      obtain ⟨a, us, rfl, hs, t⟩ := rx.lst
      obtain ⟨b, ws, rfl, hs2, t2⟩ := ry.lst
      exact ⟨a, b, us, ws, rfl, rfl, hs, hs2, by rw [t.length, t2.length]; exact hz, fun p hp => q p _ _ (same_upd hp _) hp upd_same (newDq hp (t.append t2))⟩
    · rw [if_neg hz] at e; cases e
  · cases e
/-! ### - * // % of ints -/
def dSub : PyData → PyData → Option PyData
  | .int i, .int j => some (.int (i - j))
  | _, _ => none
theorem opF_sub : OpR X (binaryOp .Sub) (rF X.K dSub) := OpR.imp op_sub fun x y H Q ⟨P, dx, dy, d, tr, rx, ry, e, q⟩ => by
  unfold dSub at e
  split at e
  · cases e; exact ⟨_, _, rx.int, ry.int, q _ H (Same.refl H) (.int _)⟩
  · cases e
def dMul : PyData → PyData → Option PyData
  | .int i, .int j => if (-(2 ^ 64) < i ∧ i < 2 ^ 64) ∨ (-(2 ^ 64) < j ∧ j < 2 ^ 64) then some (.int (i * j)) else none
  | _, _ => none
theorem opF_mul : OpR X (binaryOp .Mult) (rF X.K dMul) := OpR.imp op_mul fun x y H Q ⟨P, dx, dy, d, tr, rx, ry, e, q⟩ => by
  unfold dMul at e
  split at e
  · rename_i i j
    by_cases hz : (-(2 ^ 64) < i ∧ i < 2 ^ 64) ∨ (-(2 ^ 64) < j ∧ j < 2 ^ 64)
    · rw [if_pos hz] at e; cases e
      exact ⟨_, _, rx.int, ry.int, hz, q _ H (Same.refl H) (.int _)⟩
    · rw [if_neg hz] at e; cases e
  · cases e
def dDiv : PyData → PyData → Option PyData
  | .int i, .int j => if 0 < j ∧ j < 1073741824 then some (.int (i / j)) else none
  | _, _ => none
theorem opF_div : OpR X (binaryOp .FloorDiv) (rF X.K dDiv) := OpR.imp op_fdiv fun x y H Q ⟨P, dx, dy, d, tr, rx, ry, e, q⟩ => by
  unfold dDiv at e
  split at e
  · rename_i i j
    by_cases hz : 0 < j ∧ j < 1073741824
    · rw [if_pos hz] at e; cases e
      exact ⟨_, _, rx.int, ry.int, hz, q _ H (Same.refl H) (.int _)⟩
    · rw [if_neg hz] at e; cases e
  · cases e
def dMod : PyData → PyData → Option PyData
  | .int i, .int j => if 0 < j then some (.int (i % j)) else none
  | _, _ => none
theorem opF_mod : OpR X (binaryOp .Mod) (rF X.K dMod) := OpR.imp op_mod fun x y H Q ⟨P, dx, dy, d, tr, rx, ry, e, q⟩ => by
  unfold dMod at e
  split at e
  · rename_i i j
    by_cases hz : 0 < j
    · rw [if_pos hz] at e; cases e
      exact ⟨_, _, rx.int, ry.int, hz, q _ H (Same.refl H) (.int _)⟩
    · rw [if_neg hz] at e; cases e
  · cases e
/-! ### comparisons -/
/-- no dict within, not too deep -/
def pl (d : PyData) : Bool := d.plain && decide (d.depth ≤ 64)
theorem pl_plain {d : PyData} (h : pl d = true) : d.plain = true := (Bool.and_eq_true_iff.mp h).1
theorem pl_depth {d : PyData} (h : pl d = true) : d.depth ≤ 64 := of_decide_eq_true (Bool.and_eq_true_iff.mp h).2
def dEq : PyData → PyData → Option Bool := fun d e => if pl d = true ∧ pl e = true then some (PyData.eqv d e) else none
def dNe : PyData → PyData → Option Bool := fun d e => if pl d = true ∧ pl e = true then some (!PyData.eqv d e) else none
def rCmpD (K : PySem.W.Frag) (g : PyData → PyData → Bool) (C : PyData → PyData → Prop) : R2 := fun x y H Q => ∃ d e, Dp K H x d ∧ Dp K H y e ∧ pl d = true ∧ pl e = true ∧ C d e ∧ Q (.bl (g d e)) H
theorem room_min {A : Around} {d e : PyData} (hu : A.units + 64 < cLine) (h : pl d = true) : A.units + min d.depth e.depth < cLine := by
  have := pl_depth h
  omega
theorem op_eqP (hu : X.A.units + 64 < cLine) : OpR X (compareOp .Eq) (rCmpD X.K PyData.eqv fun _ _ => True) := by
  intro pins s σ H x y v u Q I rx ry ⟨d, e, hd, he, sd, se, _, q⟩
  obtain ⟨as, r1⟩ := Dp.reads I d x v hd rx
  obtain ⟨bs, r2⟩ := Dp.reads I e y u he ry
  exact SeqAt.eq_plain r1 r2 (pl_plain sd) (pl_plain se) (room_min hu sd) ⟨.bl _, H, I, rfl, q⟩
theorem op_neP (hu : X.A.units + 64 < cLine) : OpR X (compareOp .NotEq) (rCmpD X.K (fun d e => !PyData.eqv d e) fun _ _ => True) := by
  intro pins s σ H x y v u Q I rx ry ⟨d, e, hd, he, sd, se, _, q⟩
  obtain ⟨as, r1⟩ := Dp.reads I d x v hd rx
  obtain ⟨bs, r2⟩ := Dp.reads I e y u he ry
  exact SeqAt.ne_plain r1 r2 (pl_plain sd) (pl_plain se) (room_min hu sd) ⟨.bl _, H, I, rfl, q⟩
theorem op_ltP (hu : X.A.units + 64 < cLine) : OpR X (compareOp .Lt) (rCmpD X.K PySem.W.dataLt fun d e => PySem.W.alike d e = true ∧ d ≠ .none) := by
  intro pins s σ H x y v u Q I rx ry ⟨d, e, hd, he, sd, se, c, q⟩
  obtain ⟨as, r1⟩ := Dp.reads I d x v hd rx
  obtain ⟨bs, r2⟩ := Dp.reads I e y u he ry
  exact PySem.W.lt_data r1 r2 c.1 c.2 (room_min hu sd) ⟨.bl _, H, I, rfl, q⟩
theorem opF_eq (hu : X.A.units + 64 < cLine) : OpR X (compareOp .Eq) (rFB X.K dEq) := OpR.imp (op_eqP hu) fun x y H Q ⟨P, dx, dy, d, tr, rx, ry, e, q⟩ => by
  unfold dEq at e
  by_cases hz : pl dx = true ∧ pl dy = true
  · rw [if_pos hz] at e; cases e
    exact ⟨dx, dy, rx.dp (pl_plain hz.1), ry.dp (pl_plain hz.2), hz.1, hz.2, trivial, q⟩
  · rw [if_neg hz] at e; cases e
theorem opF_ne (hu : X.A.units + 64 < cLine) : OpR X (compareOp .NotEq) (rFB X.K dNe) := OpR.imp (op_neP hu) fun x y H Q ⟨P, dx, dy, d, tr, rx, ry, e, q⟩ => by
  unfold dNe at e
  by_cases hz : pl dx = true ∧ pl dy = true
  · rw [if_pos hz] at e; cases e
    exact ⟨dx, dy, rx.dp (pl_plain hz.1), ry.dp (pl_plain hz.2), hz.1, hz.2, trivial, q⟩
  · rw [if_neg hz] at e; cases e
def ltS (a b : Str) : Bool := decide (a.cps.toList < b.cps.toList)
def dLt : PyData → PyData → Option Bool
  | .int i, .int j => some (decide (i < j))
  | .str a, .str b => some (ltS a b)
  | _, _ => none
def dLe : PyData → PyData → Option Bool
  | .int i, .int j => some (decide (i ≤ j))
  | .str a, .str b => some (!ltS b a)
  | _, _ => none
def dGt : PyData → PyData → Option Bool
  | .int i, .int j => some (decide (j < i))
  | .str a, .str b => some (ltS b a)
  | _, _ => none
def dGe : PyData → PyData → Option Bool
  | .int i, .int j => some (decide (j ≤ i))
  | .str a, .str b => some (!ltS a b)
  | _, _ => none
theorem opF_lt : OpR X (compareOp .Lt) (rFB X.K dLt) := OpR.imp (op_lt.or op_lt_str) fun x y H Q ⟨P, dx, dy, d, tr, rx, ry, e, q⟩ => by
  unfold dLt at e
  split at e
  · cases e; exact .inl ⟨_, _, rx.int, ry.int, q⟩
  · cases e; exact .inr ⟨_, _, rx.str, ry.str, q⟩
  · cases e
theorem opF_le : OpR X (compareOp .LtE) (rFB X.K dLe) := OpR.imp (op_le.or op_le_str) fun x y H Q ⟨P, dx, dy, d, tr, rx, ry, e, q⟩ => by
  unfold dLe at e
  split at e
  · cases e; exact .inl ⟨_, _, rx.int, ry.int, q⟩
  · cases e; exact .inr ⟨_, _, rx.str, ry.str, q⟩
  · cases e
theorem opF_gt : OpR X (compareOp .Gt) (rFB X.K dGt) := OpR.imp (op_gt.or op_gt_str) fun x y H Q ⟨P, dx, dy, d, tr, rx, ry, e, q⟩ => by
  unfold dGt at e
  split at e
  · cases e; exact .inl ⟨_, _, rx.int, ry.int, q⟩
  · cases e; exact .inr ⟨_, _, rx.str, ry.str, q⟩
  · cases e
theorem opF_ge : OpR X (compareOp .GtE) (rFB X.K dGe) := OpR.imp (op_ge.or op_ge_str) fun x y H Q ⟨P, dx, dy, d, tr, rx, ry, e, q⟩ => by
  unfold dGe at e
  split at e
  · cases e; exact .inl ⟨_, _, rx.int, ry.int, q⟩
  · cases e; exact .inr ⟨_, _, rx.str, ry.str, q⟩
  · cases e
/-! ### in -/
theorem op_inLT (hu : X.A.units + 65 < cLine) : OpR X (compareOp .In) (fun x y H Q => ∃ d e ds, Dp X.K H x d ∧ Dp X.K H y e ∧ (e = .list ds ∨ e = .tuple ds) ∧ pl d = true ∧ pl e = true ∧ Q (.bl (ds.any fun z => PyData.eqv z d)) H) := by
  intro pins s σ H x y v u Q I rx ry ⟨d, e, ds, hd, he, ee, sd, se, q⟩
  obtain ⟨as, r1⟩ := Dp.reads I d x v hd rx
  obtain ⟨bs, r2⟩ := Dp.reads I e y u he ry
  have hd64 := pl_depth sd
  rcases ee with rfl | rfl
  · exact SeqAt.in_list_data r2 r1 (by simpa only [PyData.plain] using pl_plain se) (pl_plain sd) (by omega) ⟨.bl _, H, I, rfl, q⟩
  · exact SeqAt.in_tuple_data r2 r1 (by simpa only [PyData.plain] using pl_plain se) (pl_plain sd) (by omega) ⟨.bl _, H, I, rfl, q⟩
theorem op_notInLT (hu : X.A.units + 65 < cLine) : OpR X (compareOp .NotIn) (fun x y H Q => ∃ d e ds, Dp X.K H x d ∧ Dp X.K H y e ∧ (e = .list ds ∨ e = .tuple ds) ∧ pl d = true ∧ pl e = true ∧ Q (.bl (!ds.any fun z => PyData.eqv z d)) H) := by
  intro pins s σ H x y v u Q I rx ry ⟨d, e, ds, hd, he, ee, sd, se, q⟩
  obtain ⟨as, r1⟩ := Dp.reads I d x v hd rx
  obtain ⟨bs, r2⟩ := Dp.reads I e y u he ry
  have hd64 := pl_depth sd
  rcases ee with rfl | rfl
  · exact SeqAt.notIn_list_data r2 r1 (by simpa only [PyData.plain] using pl_plain se) (pl_plain sd) (by omega) ⟨.bl _, H, I, rfl, q⟩
  · exact SeqAt.notIn_tuple_data r2 r1 (by simpa only [PyData.plain] using pl_plain se) (pl_plain sd) (by omega) ⟨.bl _, H, I, rfl, q⟩
def dIn : PyData → PyData → Option Bool
  | d, .list ds => if pl d = true ∧ pl (.list ds) = true then some (ds.any fun z => PyData.eqv z d) else none
  | d, .tuple ds => if pl d = true ∧ pl (.tuple ds) = true then some (ds.any fun z => PyData.eqv z d) else none
  | .str a, .str b => if a.cps.size = 1 then some (decide (a.cps.getD 0 0 ∈ b.cps.toList)) else none
  | _, _ => none
def dNotIn : PyData → PyData → Option Bool := fun x y => (dIn x y).map (!·)
theorem sign1 {a : Str} (h : a.cps.size = 1) : a = ⟨#[a.cps.getD 0 0]⟩ := by
  obtain ⟨⟨l⟩⟩ := a
  match l, h with
  | [c], _ => rfl
theorem opF_in (hu : X.A.units + 65 < cLine) : OpR X (compareOp .In) (rFB X.K dIn) := OpR.imp ((op_inLT hu).or op_in_sign) fun x y H Q ⟨P, dx, dy, d, tr, rx, ry, e, q⟩ => by
  unfold dIn at e
  split at e
  · rename_i dx2 ds
    by_cases hz : pl dx = true ∧ pl (.list ds) = true
    · rw [if_pos hz] at e; cases e
      exact .inl ⟨dx, _, ds, rx.dp (pl_plain hz.1), ry.dp (pl_plain hz.2), .inl rfl, hz.1, hz.2, q⟩
    · rw [if_neg hz] at e; cases e
  · rename_i dx2 ds
    by_cases hz : pl dx = true ∧ pl (.tuple ds) = true
    · rw [if_pos hz] at e; cases e
      exact .inl ⟨dx, _, ds, rx.dp (pl_plain hz.1), ry.dp (pl_plain hz.2), .inr rfl, hz.1, hz.2, q⟩
    · rw [if_neg hz] at e; cases e
  · rename_i a b
    by_cases hz : a.cps.size = 1
    · rw [if_pos hz] at e; cases e
      exact .inr ⟨_, b, by rw [rx.str]; exact congrArg V.str (sign1 hz), ry.str, q⟩
    · rw [if_neg hz] at e; cases e
  · cases e
theorem opF_notIn (hu : X.A.units + 65 < cLine) : OpR X (compareOp .NotIn) (rFB X.K dNotIn) := OpR.imp ((op_notInLT hu).or op_notIn_sign) fun x y H Q ⟨P, dx, dy, d, tr, rx, ry, e, q⟩ => by
  unfold dNotIn dIn at e
  split at e
  · rename_i dx2 ds
    by_cases hz : pl dx = true ∧ pl (.list ds) = true
    · rw [if_pos hz] at e; cases e
      exact .inl ⟨dx, _, ds, rx.dp (pl_plain hz.1), ry.dp (pl_plain hz.2), .inl rfl, hz.1, hz.2, q⟩
    · rw [if_neg hz] at e; cases e
  · rename_i dx2 ds
    by_cases hz : pl dx = true ∧ pl (.tuple ds) = true
    · rw [if_pos hz] at e; cases e
      exact .inl ⟨dx, _, ds, rx.dp (pl_plain hz.1), ry.dp (pl_plain hz.2), .inr rfl, hz.1, hz.2, q⟩
    · rw [if_neg hz] at e; cases e
  · rename_i a b
    by_cases hz : a.cps.size = 1
    · rw [if_pos hz] at e; cases e
      exact .inr ⟨_, b, by rw [rx.str]; exact congrArg V.str (sign1 hz), ry.str, q⟩
    · rw [if_neg hz] at e; cases e
  · cases e
/-! ### is None -/
def dIsN : PyData → PyData → Option Bool
  | .none, .none => some true
  | _, .none => some false
  | _, _ => none
theorem opF_is : OpR X (compareOp .Is) (rFB X.K dIsN) := OpR.imp op_isN fun x y H Q ⟨P, dx, dy, d, tr, rx, ry, e, q⟩ => by
  unfold dIsN at e
  split at e
  · cases e
    have := rx.non
    subst this
    exact ⟨ry.non, q⟩
  · rename_i h
    cases e
    refine ⟨ry.non, ?_⟩
    have : ¬ x = V.non := fun z => by
      subst z
      rcases rx with rx | ⟨_, _, _, z, _⟩
      · cases rx; exact h rfl
      · cases z
    rw [decide_eq_false this]
    exact q
  · cases e
def dIsNotN : PyData → PyData → Option Bool := fun x y => (dIsN x y).map (!·)
theorem opF_isNot : OpR X (compareOp .IsNot) (rFB X.K dIsNotN) := OpR.imp op_notN fun x y H Q ⟨P, dx, dy, d, tr, rx, ry, e, q⟩ => by
  unfold dIsNotN dIsN at e
  split at e
  · cases e
    have := rx.non
    subst this
    exact ⟨ry.non, q⟩
  · rename_i h
    cases e
    refine ⟨ry.non, ?_⟩
    have : ¬ x = V.non := fun z => by
      subst z
      rcases rx with rx | ⟨_, _, _, z, _⟩
      · cases rx; exact h rfl
      · cases z
    rw [decide_eq_false this]
    exact q
  · cases e
/-! ### subscripts -/
def dIx : PyData → PyData → Option PyData
  | .list ds, .int i => atI ds i
  | .tuple ds, .int i => atI ds i
  | .str z, .int i => if z.length ≤ sizeLine then (atI z.cps.toList i).map fun c => .str ⟨#[c]⟩ else none
  | .dict kvs, .int i => atI (kvs.map (·.1)) i
  | _, _ => none
theorem DqA.atI {K : PySem.W.Frag} {H : Hp} {P : Addr → Prop} {vs : List V} {ds : List PyData} {i : Int} {d : PyData} (t : DqA K H P vs ds) (h : L2.atI ds i = some d) : ∃ v, L2.atI vs i = some v ∧ Dq K H P v d := by
  unfold L2.atI at h ⊢
  rw [t.length]
  cases e : ixN ds.length i with
  | none => rw [e] at h; cases h
  | some j =>
    rw [e] at h
    exact t.get (show ds[j]? = some d from h)
theorem scr_atI {ns : List Int} {i : Int} {d : PyData} {kvs : List (PyData × PyData)} (e : kvs = ns.map fun n => (.int n, .none)) (h : L2.atI (kvs.map (·.1)) i = some d) : ∃ n, d = .int n ∧ L2.atI (ns.map V.int) i = some (.int n) := by
  subst e
  unfold L2.atI at h ⊢
  rw [List.map_map] at h
  rw [List.length_map] at h ⊢
  cases e : ixN ns.length i with
  | none => rw [e] at h; cases h
  | some j =>
    rw [e] at h
    have h' : (ns.map ((fun x => x.1) ∘ fun n => (PyData.int n, PyData.none)))[j]? = some d := h
    rw [List.getElem?_map] at h'
    cases z : ns[j]? with
    | none => rw [z] at h'; cases h'
    | some n =>
      rw [z] at h'
      cases h'
      exact ⟨n, rfl, by show (ns.map V.int)[j]? = _; rw [List.getElem?_map, z] <;> rfl⟩
theorem opF_ix : IxR X (rF X.K dIx) := IxR.imp ix_seq fun x y H Q ⟨P, dx, dy, d, tr, rx, ry, e, q⟩ => by
  unfold dIx at e
  split at e
  · obtain ⟨a, xs, rfl, h, t⟩ := rx.lst
    obtain ⟨v, h1, h2⟩ := t.atI e
    exact .inl ⟨a, xs, _, v, rfl, ry.int, SqL.of h, h1, q _ H (Same.refl H) h2⟩
  · obtain ⟨a, xs, rfl, h, t⟩ := rx.tup
    obtain ⟨v, h1, h2⟩ := t.atI e
    exact .inr (.inl ⟨a, xs, _, v, rfl, ry.int, h, h1, q _ H (Same.refl H) h2⟩)
  · rename_i z i
    by_cases hz : z.length ≤ sizeLine
    · rw [if_pos hz] at e
      cases ea : L2.atI z.cps.toList i with
      | none => rw [ea] at e; cases e
      | some c =>
        rw [ea] at e
        cases e
        exact .inr (.inr ⟨z, i, c, rx.str, ry.int, hz, ea, q _ H (Same.refl H) (.str _)⟩)
    · rw [if_neg hz] at e; cases e
  · rename_i kvs i
    rcases rx with rx | ⟨_, _, _, _, z, _⟩
    · generalize ed : PyData.dict kvs = dd at rx
      cases rx with
      | @sck a ns h =>
        have ek : kvs = ns.map fun n => (.int n, .none) := PyData.dict.inj ed
        obtain ⟨n, rfl, h1⟩ := scr_atI ek e
        exact .inl ⟨a, _, _, _, rfl, ry.int, HpN_lst h, h1, q _ H (Same.refl H) (.int n)⟩
      | @scf a ns o h hn =>
        have ek : kvs = ns.map fun n => (.int n, .none) := PyData.dict.inj ed
        obtain ⟨n, rfl, h1⟩ := scr_atI ek e
        exact .inl ⟨a, _, _, _, rfl, ry.int, .inl (.inr ⟨_, h⟩), h1, q _ H (Same.refl H) (.int n)⟩
      | _ => cases ed
    · cases z
  · cases e
/-! ### slices -/
def cutD (ds : List PyData) (lo hi : Option Int) : List PyData := (ds.drop (HT.sIx ds.length 0 lo)).take (HT.sIx ds.length ds.length hi - HT.sIx ds.length 0 lo)
theorem DqA.cut {K : PySem.W.Frag} {H : Hp} {P : Addr → Prop} {vs : List V} {ds : List PyData} (t : DqA K H P vs ds) (lo hi : Option Int) : DqA K H P (cutV vs lo hi) (cutD ds lo hi) := by
  unfold cutV cutD
  rw [t.length]
  exact (t.drop _).take _
def dSl : PyData → Option Int → Option Int → Option PyData
  | .list ds, lo, hi => some (.list (cutD ds lo hi))
  | .tuple ds, lo, hi => some (.tuple (cutD ds lo hi))
  | .str z, lo, hi => if z.length ≤ sizeLine then some (.str (cutS z lo hi)) else none
  | _, _, _ => none
theorem opF_sl : SlR X (rFS X.K dSl) := SlR.imp (sl_list.or (sl_tupF.or sl_str)) fun x lo hi H Q ⟨P, dx, d, tr, rx, e, q⟩ => by
  have np : ∀ {p : Addr}, H p = none → ¬ P p := fun h z => by obtain ⟨u, hu⟩ := tr _ z; rw [h] at hu; cases hu
  unfold dSl at e
  split at e
  · cases e
    obtain ⟨a, xs, rfl, h, t⟩ := rx.lst
    exact .inl ⟨a, xs, rfl, SqL.of h, fun p hp => q _ _ (same_upd hp _) (.lst upd_same (np hp) ((t.cut lo hi).same (same_upd hp _)))⟩
  · rename_i ds
    cases e
    have qx := rx.tupQ
    obtain ⟨a, xs, rfl, h, t⟩ := rx.tup
    refine .inr (.inl ⟨a, xs, rfl, h, fun hw => ?_, fun _ p its hp => q _ _ (same_upd hp _) (.tup upd_same (np hp) ((t.cut lo hi).same (same_upd hp _)))⟩)
    have : cutD ds lo hi = ds := by
      unfold cutD
      rw [t.length] at hw
      rw [hw.1, hw.2, List.drop_zero, Nat.sub_zero, List.take_length]
    rw [this] at q
    exact q _ H (Same.refl H) qx
  · rename_i z
    by_cases hz : z.length ≤ sizeLine
    · rw [if_pos hz] at e
      cases e
      exact .inr (.inr ⟨z, rx.str, hz, q _ H (Same.refl H) (.str _)⟩)
    · rw [if_neg hz] at e; cases e
  · cases e
/-! ### len, list, tuple -/
def dLen : PyData → Option PyData
  | .str z => if z.length ≤ sizeLine then some (.int z.length) else none
  | .list ds => some (.int ds.length)
  | .tuple ds => some (.int ds.length)
  | .dict kvs => some (.int kvs.length)
  | _ => none
theorem opF_len : CallR X (.builtin "len") (rC1 X.K dLen) := CallR.imp call_len fun vs H Q ⟨P, x, dx, d, ev, tr, rx, e, q⟩ => by
  subst ev
  unfold dLen at e
  split at e
  · rename_i z
    by_cases hz : z.length ≤ sizeLine
    · rw [if_pos hz] at e
      cases e
      have := rx.str
      subst this
      exact ⟨_, z.length, rfl, ⟨hz, rfl⟩, q _ H (Same.refl H) (.int _)⟩
    · rw [if_neg hz] at e; cases e
  · cases e
    obtain ⟨a, xs, rfl, h, t⟩ := rx.lst
    exact ⟨_, _, rfl, .inl ⟨xs, SqL.of h, t.length.symm⟩, q _ H (Same.refl H) (.int _)⟩
  · cases e
    obtain ⟨a, xs, rfl, h, t⟩ := rx.tup
    exact ⟨_, _, rfl, .inr ⟨xs, h, t.length.symm⟩, q _ H (Same.refl H) (.int _)⟩
  · rename_i kvs
    cases e
    rcases rx with rx | ⟨_, _, _, _, z, _⟩
    · generalize ed : PyData.dict kvs = dd at rx
      cases rx with
      | @sck a ns h =>
        have ek : kvs = ns.map fun n => (.int n, .none) := PyData.dict.inj ed
        subst ek
        exact ⟨_, _, rfl, .inl ⟨_, HpN_lst h, by rw [List.length_map, List.length_map]⟩, q _ H (Same.refl H) (.int _)⟩
      | @scf a ns o h hn =>
        have ek : kvs = ns.map fun n => (.int n, .none) := PyData.dict.inj ed
        subst ek
        exact ⟨_, _, rfl, .inl ⟨_, .inl (.inr ⟨_, h⟩), by rw [List.length_map, List.length_map]⟩, q _ H (Same.refl H) (.int _)⟩
      | _ => cases ed
    · cases z
  · cases e
def dSeqs : PyData → Option (List PyData)
  | .list ds => some ds
  | .tuple ds => some ds
  | _ => none
theorem opF_list : CallR X (.type "list") (rC1N X.K dSeqs) := CallR.imp call_list_of fun vs H Q ⟨P, x, dx, d, ev, tr, rx, e, q⟩ => by
  subst ev
  unfold dSeqs at e
  split at e
  · cases e
    obtain ⟨a, xs, rfl, h, t⟩ := rx.lst
    exact ⟨a, xs, rfl, .inl (SqL.of h), fun p hp => q p _ _ (same_upd hp _) hp upd_same (newDq hp t)⟩
  · cases e
    obtain ⟨a, xs, rfl, h, t⟩ := rx.tup
    exact ⟨a, xs, rfl, .inr h, fun p hp => q p _ _ (same_upd hp _) hp upd_same (newDq hp t)⟩
  · cases e
def dTuple : PyData → Option PyData
  | .list ds => some (.tuple ds)
  | .tuple ds => some (.tuple ds)
  | _ => none
theorem opF_tuple : CallR X (.type "tuple") (rC1 X.K dTuple) := CallR.imp call_tupleF fun vs H Q ⟨P, x, dx, d, ev, tr, rx, e, q⟩ => by
  have np : ∀ {p : Addr}, H p = none → ¬ P p := fun h z => by obtain ⟨u, hu⟩ := tr _ z; rw [h] at hu; cases hu
  subst ev
  unfold dTuple at e
  split at e
  · cases e
    obtain ⟨a, xs, rfl, h, t⟩ := rx.lst
    exact ⟨a, xs, rfl, .inl ⟨SqL.of h, fun p its hp => q _ _ (same_upd hp _) (.tup upd_same (np hp) (t.same (same_upd hp _)))⟩⟩
  · cases e
    have qx := rx.tupQ
    obtain ⟨a, xs, rfl, h, t⟩ := rx.tup
    exact ⟨a, xs, rfl, .inr ⟨h, q _ H (Same.refl H) qx⟩⟩
  · cases e
/-! ### methods of one's own list -/
def fApp (i : Nat) (f : Rho → Option PyData) : Rho → Option Fl := fun ρ => (f ρ).bind fun d => match ρ.getD i none with
  | some (.list ds) => if ds.length < sizeLine then some (.nx (ρ.set i (some (.list (ds ++ [d]))))) else none
  | _ => none
theorem getD_some {ρ : Rho} {i : Nat} {d : PyData} (e : ρ.getD i none = some d) : ρ[i]? = some (some d) := eVar_some (i := i) e
variable {o ob : List Nat} {e : Expr} {f : Rho → Option PyData}
theorem sv_append (i : Nat) {x : Str} {px apos cpos pos : Pos} (hv : PE X (.Name x px) (tVar i)) (he : EV X o e f) (hi : i ∈ o := by decide)
    (hbase : attributeBase (.Name x px) "append" X.env (eval (.Name x px) X.env) = eval (.Name x px) X.env := by rfl)
    (hfew : ((backTo cpos (starEach [e] X.env)).all (fun x => !x.1) && (backToKw cpos (keywordEach [] X.env)).all (fun x => x.1.isSome)
      && decide (([e] : List Expr).length + ([] : List Keyword).length + (if ([] : List Keyword).isEmpty then 0 else 1) < 30)) = true := by rfl)
    (hline : (apos.endLine == cpos.line) = true := by rfl) (hs : starEach [e] X.env = (false, eval e X.env) :: starEach [] X.env := by rfl) (hplain : (backTo cpos (starEach [] X.env)).any (·.1) = false := by rfl)
    (hsw : swapsWith (.Call (.Attribute (.Name x px) "append" apos) [e] [] cpos) none pos.line X.env = pure false := by rfl) :
    SV X o o ob (.Expr (.Call (.Attribute (.Name x px) "append" apos) [e] [] cpos) pos) (fApp i f) :=
  PS.imp (ps_expr (pe_bm PySem.F.plainAttrs_list PySem.F.slot_list_append PySem.F.type_list_append mt_append hv (pa_cons he pa_nil hs) hbase hfew hline hs hplain) hsw) fun D σ H ⟨H0, P0, P, ρ, fl, R, e', q⟩ => by
    unfold fApp at e'
    cases ef : f ρ with
    | none => rw [ef] at e'; cases e'
    | some d =>
    rw [ef] at e'
    simp only [Option.bind_some] at e'
    obtain ⟨a, xs, ds, h1, h2, h3, h4, h5, h6⟩ := R.own i hi
    have eg : ρ.getD i none = some (.list ds) := by rw [List.getD_eq_getElem?_getD, h2] <;> rfl
    rw [eg] at e'
    have e' : (if ds.length < sizeLine then some (Fl.nx (ρ.set i (some (.list (ds ++ [d]))))) else none) = some fl := e'
    by_cases hz : ds.length < sizeLine
    · rw [if_pos hz] at e'
      cases e'
      refine ⟨.ref a, h1, .inl ⟨rfl, _, .inl (.inl h5)⟩, H0, P0, P, ρ, d, R, ef, fun v H1 s1 t => ?_⟩
      refine ⟨a, xs, v, rfl, rfl, s1 _ _ h5, by rw [h6.length]; exact hz, ?_⟩
      obtain ⟨R', l⟩ := (R.go s1).put hi h1 ((h6.same s1).append (.cons t .nil))
      exact q σ _ P R' ((Lt.same P s1).trans l)
    · rw [if_neg hz] at e'; cases e'
def fExt (i : Nat) (f : Rho → Option PyData) : Rho → Option Fl := fun ρ => (f ρ).bind fun d => match ρ.getD i none, d with
  | some (.list ds), .list es => if ds.length + es.length ≤ sizeLine then some (.nx (ρ.set i (some (.list (ds ++ es))))) else none
  | _, _ => none
theorem sv_extend (i : Nat) {x : Str} {px apos cpos pos : Pos} (hv : PE X (.Name x px) (tVar i)) (he : EV X o e f) (hi : i ∈ o := by decide)
    (hbase : attributeBase (.Name x px) "extend" X.env (eval (.Name x px) X.env) = eval (.Name x px) X.env := by rfl)
    (hfew : ((backTo cpos (starEach [e] X.env)).all (fun x => !x.1) && (backToKw cpos (keywordEach [] X.env)).all (fun x => x.1.isSome)
      && decide (([e] : List Expr).length + ([] : List Keyword).length + (if ([] : List Keyword).isEmpty then 0 else 1) < 30)) = true := by rfl)
    (hline : (apos.endLine == cpos.line) = true := by rfl) (hs : starEach [e] X.env = (false, eval e X.env) :: starEach [] X.env := by rfl) (hplain : (backTo cpos (starEach [] X.env)).any (·.1) = false := by rfl)
    (hsw : swapsWith (.Call (.Attribute (.Name x px) "extend" apos) [e] [] cpos) none pos.line X.env = pure false := by rfl) :
    SV X o o ob (.Expr (.Call (.Attribute (.Name x px) "extend" apos) [e] [] cpos) pos) (fExt i f) :=
  PS.imp (ps_expr (pe_bm PySem.F.plainAttrs_list PySem.F.slot_list_extend PySem.F.type_list_extend mt_extend hv (pa_cons he pa_nil hs) hbase hfew hline hs hplain) hsw) fun D σ H ⟨H0, P0, P, ρ, fl, R, e', q⟩ => by
    unfold fExt at e'
    cases ef : f ρ with
    | none => rw [ef] at e'; cases e'
    | some d =>
    rw [ef] at e'
    simp only [Option.bind_some] at e'
    obtain ⟨a, xs, ds, h1, h2, h3, h4, h5, h6⟩ := R.own i hi
    have eg : ρ.getD i none = some (.list ds) := by rw [List.getD_eq_getElem?_getD, h2] <;> rfl
    rw [eg] at e'
    cases d with
    | list es =>
      have e' : (if ds.length + es.length ≤ sizeLine then some (Fl.nx (ρ.set i (some (.list (ds ++ es))))) else none) = some fl := e'
      by_cases hz : ds.length + es.length ≤ sizeLine
      · rw [if_pos hz] at e'
        cases e'
        refine ⟨.ref a, h1, .inl ⟨rfl, _, .inl (.inl h5)⟩, H0, P0, P, ρ, _, R, ef, fun v H1 s1 t => ?_⟩
        cases t with
        | @lst b ys _ hb hn ts =>
          refine ⟨a, b, xs, ys, rfl, rfl, s1 _ _ h5, hb, by rw [h6.length, ts.length]; exact hz, ?_⟩
          obtain ⟨R', l⟩ := (R.go s1).put hi h1 ((h6.same s1).append ts)
          exact q σ _ P R' ((Lt.same P s1).trans l)
      · rw [if_neg hz] at e'; cases e'
    | _ => cases e'
end
end TF

/-! TFh.lean -/
set_option Elab.async false
set_option linter.all false
set_option maxRecDepth 100000
/-! TF.h: + of anything, what may be walked, texts, callees -/
namespace TF
open PySem PySem.Spec PyProof.Rows L2

section
variable {X : Cx} {o ob : List Nat} {tg e a b : Expr} {f fa fb : Rho → Option PyData} {pos : Pos}
theorem hu64 {k : Nat} {A : Around} (hr : Room k A) : A.units + 64 < cLine := hr.units
theorem hu65 {k : Nat} {A : Around} (hr : Room k A) : A.units + 65 < cLine := by have := hr.un; omega
/-- + of ints, texts, tuples, lists -/
def dAddA : PyData → PyData → Option PyData
  | .list xs, .list ys => if xs.length + ys.length ≤ sizeLine then some (.list (xs ++ ys)) else none
  | x, y => dAdd x y
theorem opF_addA : OpR X (binaryOp .Add) (rF X.K dAddA) := OpR.imp (OpR.or (opF_add (X := X)) (opF_addL (X := X))) fun x y H Q ⟨P, dx, dy, d, tr, rx, ry, e, q⟩ => by
  have np : ∀ {p : Addr}, H p = none → ¬ P p := fun h z => by obtain ⟨u, hu⟩ := tr _ z; rw [h] at hu; cases hu
  unfold dAddA at e
  split at e
  · rename_i xs ys
    by_cases hz : xs.length + ys.length ≤ sizeLine
    · rw [if_pos hz] at e; cases e
      refine .inr ⟨P, _, _, xs ++ ys, tr, rx, ry, by show (if xs.length + ys.length ≤ sizeLine then some (xs ++ ys) else none) = _; rw [if_pos hz], fun p us H' s n hp t => q _ H' s (.lst hp (np n) (t.anti fun a z => .inr z))⟩
    · rw [if_neg hz] at e; cases e
  · exact .inl ⟨P, _, _, d, tr, rx, ry, e, q⟩
/-- is, is not: None or truths -/
def dIs : PyData → PyData → Option Bool
  | .bool a, .bool b => some (decide (a = b))
  | x, y => dIsN x y
theorem opF_isA : OpR X (compareOp .Is) (rFB X.K dIs) := OpR.imp (OpR.or (opF_is (X := X)) op_isBl) fun x y H Q ⟨P, dx, dy, d, tr, rx, ry, e, q⟩ => by
  unfold dIs at e
  split at e
  · cases e; exact .inr ⟨_, _, rx.bl, ry.bl, q⟩
  · exact .inl ⟨P, _, _, d, tr, rx, ry, e, q⟩
def dIsNot : PyData → PyData → Option Bool := fun x y => (dIs x y).map (!·)
theorem opF_isNotA : OpR X (compareOp .IsNot) (rFB X.K dIsNot) := OpR.imp (OpR.or (opF_isNot (X := X)) op_notBl) fun x y H Q ⟨P, dx, dy, d, tr, rx, ry, e, q⟩ => by
  unfold dIsNot dIs at e
  split at e
  · cases e; exact .inr ⟨_, _, rx.bl, ry.bl, q⟩
  · exact .inl ⟨P, _, _, d, tr, rx, ry, e, q⟩
/-! ### - of an int -/
def dNeg : PyData → Option PyData
  | .int i => some (.int (-i))
  | _ => none
theorem ev_neg (h : ER X o e f) : EV X o (.UnaryOp .USub e pos) (e1 f dNeg) := PE.imp (pe_un un_neg h) fun σ H Q ⟨H0, P0, P, ρ, d, R, e', q⟩ => by
  obtain ⟨x, ef, eg⟩ := e1_some e'
  cases x with
  | int i => cases eg; exact ⟨H0, P0, P, ρ, _, R, ef, fun v H1 s1 r1 => ⟨i, r1.int, q _ H1 s1 (.int _)⟩⟩
  | _ => cases eg
/-! ### a list, a tuple, a text, walked -/
def iAny (K : PySem.W.Frag) (te : TE) : TI := fun σ H R => te σ H fun x H1 => (∃ a, x = .ref a ∧ (∃ xs, SqL K H1 a xs) ∧ R (Itl K a) H1) ∨ (∃ a, x = .ref a ∧ (∃ xs, SqT K H1 a xs) ∧ R (Itt K a) H1) ∨ ∃ z, x = .str z ∧ R (Its z) H1
theorem pi_any {te : TE} (he : PE X e te) : PI X tg e (iAny X.K te) := by
  refine ⟨fun pins s σ H R I h => ?_⟩
  refine thn (he.run pins s σ H _ I h) fun v s1 ⟨x, H1, I1, r1, q1⟩ => ?_
  rcases q1 with ⟨a, ex, ⟨xs, hq⟩, q⟩ | ⟨a, ex, ⟨xs, hq⟩, q⟩ | ⟨z, ex, q⟩
  · subst ex
    cases r1
    obtain ⟨its, rv, p, hz⟩ := I1.list hq
    refine wpAny_pyIter_list p.isList ?_
    refine ⟨s1.heap.objs.size, [s1.heap.objs.size], _, _, H1, rfl, I1.kept (t' := s1.toks) fun b o e => Heap.get?_push_of_some _ e, turn_list a _, ⟨_, Heap.get?_push_size _ rfl, rfl, rfl⟩, fun b hb => ?_, q⟩
    have e : b = s1.heap.objs.size := by simpa using hb
    subst e
    exact I1.fpOk (Nat.le_refl _) (I1.hok.fresh (Nat.le_refl _))
  · subst ex
    cases r1
    obtain ⟨its, rv, p, hz⟩ := I1.tuple hq
    refine wpAny_pyIter_tuple (show s1.heap.IsTuple a its.toArray from p) ?_
    refine ⟨s1.heap.objs.size, [s1.heap.objs.size], _, _, H1, rfl, I1.kept (t' := s1.toks) fun b o e => Heap.get?_push_of_some _ e, turn_tuple a _, ⟨_, Heap.get?_push_size _ rfl, rfl, rfl⟩, fun b hb => ?_, q⟩
    have e : b = s1.heap.objs.size := by simpa using hb
    subst e
    exact I1.fpOk (Nat.le_refl _) (I1.hok.fresh (Nat.le_refl _))
  · subst ex
    obtain ⟨t, rfl⟩ := r1
    cases ha : z.cps.all (· < 128)
    · exact wpAny_pyIter_wide ha (pi_one (tk := s1.toks) I1 _ (turn_str _ z t "str_iterator" (.inr rfl)) ⟨_, Heap.get?_push_size _ rfl, rfl, rfl⟩ q)
    · exact wpAny_pyIter_ascii ha (pi_one (tk := s1.toks) I1 _ (turn_str _ z t "str_ascii_iterator" (.inl rfl)) ⟨_, Heap.get?_push_size _ rfl, rfl, rfl⟩ q)
def signs (z : Str) : List PyData := z.cps.toList.map fun c => .str ⟨#[c]⟩
def dWalk : PyData → Option (List PyData)
  | .list xs => some xs
  | .tuple xs => some xs
  | .str z => if z.length ≤ sizeLine then some (signs z) else none
  | .dict kvs => some (kvs.map (·.1))
  | _ => none
theorem wk_list {K : PySem.W.Frag} {ds : List PyData} {a : Addr} {vs : List V} {H1 : Hp} {P : Addr → Prop} (ha : H1 a = some (.lst vs)) (hn : ¬ P a) (ts : DqA K H1 P vs ds) : Wk K ds (Itl K a) H1 P := by
  refine ⟨fun H P i l hi => ?_, fun H P l => ?_, fun H P i x H' l tr hi y => ?_⟩
  · have hi' : i < vs.length := by rw [ts.length]; exact hi
    exact ⟨vs, vs[i], SqL.of (l _ _ ha hn).1, by simp [hi']⟩
  · exact ⟨vs, SqL.of (l _ _ ha hn).1, by rw [ts.length]; exact Nat.le_refl _⟩
  · obtain ⟨rfl, y⟩ := y
    obtain ⟨d, h1, h2⟩ := (ts.mono l).getV (y vs (SqL.of (l _ _ ha hn).1))
    exact ⟨Same.refl _, d, h1, h2⟩
theorem wk_tup {K : PySem.W.Frag} {ds : List PyData} {a : Addr} {vs : List V} {H1 : Hp} {P : Addr → Prop} (ha : ∀ H P', Lt H1 P H P' → SqT K H a vs) (ts : DqA K H1 P vs ds) : Wk K ds (Itt K a) H1 P := by
  refine ⟨fun H P i l hi => ?_, fun H P l => ?_, fun H P i x H' l tr hi y => ?_⟩
  · have hi' : i < vs.length := by rw [ts.length]; exact hi
    exact ⟨vs, vs[i], ha _ _ l, by simp [hi']⟩
  · exact ⟨vs, ha _ _ l, by rw [ts.length]; exact Nat.le_refl _⟩
  · obtain ⟨rfl, y⟩ := y
    obtain ⟨d, h1, h2⟩ := (ts.mono l).getV (y vs (ha _ _ l))
    exact ⟨Same.refl _, d, h1, h2⟩
theorem wk_scr {K : PySem.W.Frag} {ns : List Int} {a : Addr} {H1 : Hp} {P : Addr → Prop} (ha : ∀ H P', Lt H1 P H P' → SqL K H a (ns.map V.int)) : Wk K (ns.map PyData.int) (Itl K a) H1 P := by
  refine ⟨fun H P i l hi => ?_, fun H P l => ?_, fun H P i x H' l tr hi y => ?_⟩
  · rw [List.length_map] at hi
    exact ⟨ns.map V.int, .int ns[i], ha _ _ l, by simp [hi]⟩
  · exact ⟨ns.map V.int, ha _ _ l, by rw [List.length_map, List.length_map]; exact Nat.le_refl _⟩
  · obtain ⟨rfl, y⟩ := y
    have z := y _ (ha _ _ l)
    rw [List.length_map] at hi
    rw [List.getElem?_map, List.getElem?_eq_getElem hi] at z
    cases z
    exact ⟨Same.refl _, .int ns[i], by rw [List.getElem?_map, List.getElem?_eq_getElem hi] <;> rfl, .int _⟩
theorem scr_fst (ns : List Int) : (ns.map fun n => (PyData.int n, PyData.none)).map (·.1) = ns.map PyData.int := by rw [List.map_map]; rfl
theorem wi_any (h : EV X o e f) : WI X o tg e (e1 f dWalk) := PI.imp (PI.szd (pi_any h)) fun σ H R ⟨H0, P0, P, ρ, ds, Re, e', q⟩ => by
  obtain ⟨d, ef, eg⟩ := e1_some e'
  refine ⟨H0, P0, P, ρ, _, Re, ef, fun v H1 s1 t => ?_⟩
  cases t with
  | @lst a vs _ ha hn ts =>
    cases eg
    exact .inl ⟨a, rfl, ⟨_, SqL.of ha⟩, fun hz => q _ _ s1 (wk_list ha hn ts) (by rw [← ts.length]; exact hz.1 _ _ (SqL.of ha))⟩
  | @tup a its vs _ ha hn ts =>
    cases eg
    exact .inr (.inl ⟨a, rfl, ⟨_, sqT_fz ha⟩, fun hz => q _ _ s1 (wk_tup (fun H P' l => sqT_fz (l _ _ ha hn).1) ts) (by rw [← ts.length]; exact hz.2 _ _ (sqT_fz ha))⟩)
  | str z =>
    have eg : (if z.length ≤ sizeLine then some (signs z) else none) = some ds := eg
    by_cases hz : z.length ≤ sizeLine
    · rw [if_pos hz] at eg
      cases eg
      have hl : (signs z).length = z.cps.size := by unfold signs; rw [List.length_map, Array.length_toList]
      refine .inr (.inr ⟨z, rfl, fun _ => q _ _ s1 ⟨fun H P i l hi => by rw [hl] at hi; exact hi, fun H P l => by rw [hl]; exact Nat.le_refl _, fun H P i x H' l tr hi y => ?_⟩ (by rw [hl]; exact hz)⟩)
      obtain ⟨rfl, c, hc, rfl⟩ := y
      exact ⟨Same.refl _, .str ⟨#[c]⟩, by unfold signs; rw [List.getElem?_map, Array.getElem?_toList, hc] <;> rfl, .str _⟩
    · rw [if_neg hz] at eg; cases eg
  | @sck a ns h =>
    have eg : some ((ns.map fun n => (PyData.int n, PyData.none)).map (·.1)) = some ds := eg
    rw [scr_fst] at eg
    cases eg
    exact .inl ⟨a, rfl, ⟨_, HpN_lst h⟩, fun hz => q _ _ s1 (wk_scr fun H P' l => HpN_lst h) (by have := hz.1 _ _ (HpN_lst h); rw [List.length_map] at this ⊢; exact this)⟩
  | @scf a ns ob h hn =>
    have eg : some ((ns.map fun n => (PyData.int n, PyData.none)).map (·.1)) = some ds := eg
    rw [scr_fst] at eg
    cases eg
    have hs : SqL X.K H1 a (ns.map V.int) := .inl (.inr ⟨_, h⟩)
    exact .inl ⟨a, rfl, ⟨_, hs⟩, fun hz => q _ _ s1 (wk_scr fun H P' l => .inl (.inr ⟨_, (l _ _ h hn).1⟩)) (by have := hz.1 _ _ hs; rw [List.length_map] at this ⊢; exact this)⟩
  | _ => cases eg
/-! ### texts -/
def strsD : List PyData → Option (List Str)
  | [] => some []
  | .str x :: r => (strsD r).map (x :: ·)
  | _ :: _ => none
theorem strsD_rel {K : PySem.W.Frag} {H : Hp} {P : Addr → Prop} : ∀ {vs : List V} {ds : List PyData} {ys : List Str}, DqA K H P vs ds → strsD ds = some ys → vs = ys.map V.str
  | _, _, ys, .nil, e => by cases e; rfl
  | _, _, ys, .cons (d := d) h t, e => by
    cases d with
    | str x =>
      unfold strsD at e
      cases er : strsD _ with
      | none => rw [er] at e; cases e
      | some r =>
        rw [er] at e
        cases e
        cases h
        rw [strsD_rel t er, List.map_cons]
    | _ => cases e
def dJoin : PyData → PyData → Option PyData
  | .str a, d => (dSeqs d).bind fun ds => (strsD ds).bind fun ys => if (ys.map (·.length)).sum + ys.length * a.length ≤ 16777216 then some (.str (Txt.join a ys)) else none
  | _, _ => none
theorem ev_join {apos : Pos} (ha : ER X o a fa) (hb : ER X o b fb) (hs : starEach [b] X.env = [(false, eval b X.env)] := by rfl) (hbase : attributeBase a "join" X.env (eval a X.env) = eval a X.env := by rfl) (hline : (apos.endLine == pos.line) = true := by rfl) :
    EV X o (.Call (.Attribute a "join" apos) [b] [] pos) (e2 fa fb dJoin) := PE.imp (pe_join ha hb hs hbase hline) fun σ H Q ⟨H0, P0, P, ρ, d, R, e', q⟩ => by
  obtain ⟨x, y, ea, eb, eg⟩ := e2_some e'
  cases x with
  | str z =>
    have eg : ((dSeqs y).bind fun ds => (strsD ds).bind fun ys => if (ys.map (·.length)).sum + ys.length * z.length ≤ 16777216 then some (PyData.str (Txt.join z ys)) else none) = some d := eg
    refine ⟨H0, P0, P, ρ, _, R, ea, fun v H1 s1 r1 => ⟨⟨z, r1.str⟩, H0, P0, P, ρ, y, R.go s1, eb, fun u H2 s2 r2 => ?_⟩⟩
    cases e3 : dSeqs y with
    | none => rw [e3] at eg; cases eg
    | some ds =>
    rw [e3] at eg
    simp only [Option.bind_some] at eg
    cases e4 : strsD ds with
    | none => rw [e4] at eg; cases eg
    | some ys =>
    rw [e4] at eg
    simp only [Option.bind_some] at eg
    by_cases hz : (ys.map (·.length)).sum + ys.length * z.length ≤ 16777216
    · rw [if_pos hz] at eg
      cases eg
      have hv := (r1.same s2).str
      unfold dSeqs at e3
      split at e3
      · cases e3
        obtain ⟨p, xs, rfl, h, t⟩ := r2.lst
        rw [strsD_rel t e4] at h
        exact ⟨z, p, ys, hv, rfl, .inl (SqL.of h), hz, q _ H2 (s1.trans s2) (.str _)⟩
      · cases e3
        obtain ⟨p, xs, rfl, h, t⟩ := r2.tup
        rw [strsD_rel t e4] at h
        exact ⟨z, p, ys, hv, rfl, .inr h, hz, q _ H2 (s1.trans s2) (.str _)⟩
      · cases e3
    · rw [if_neg hz] at eg; cases eg
  | _ => cases eg
end
/-! ### what may be called -/
structure Callee (P : Program) (w : World) (K : PySem.W.Frag) (mg : Str → Option Value) (base : Heap) (k : Nat) (x : Str) (n : Nat) (m : List PyData → Option PyData) : Prop where
  ex : ∃ (f : Addr) (fd : FuncData) (ps : List Str), FnOk P w K mg base CX0 k f fd ps (spF K n m) ∧ mg x = some (.ref f) ∧ PySem.W.keepIn K (.ref f) = true ∧ Binds K fd ps []
theorem Callee.mono {P : Program} {w : World} {K : PySem.W.Frag} {mg : Str → Option Value} {base : Heap} {k k' : Nat} {x : Str} {n : Nat} {m : List PyData → Option PyData} (c : Callee P w K mg base k x n m) (h : k ≤ k') : Callee P w K mg base k' x n m := by
  obtain ⟨f, fd, ps, F, r⟩ := c.ex
  exact ⟨f, fd, ps, F.mono h, r⟩
theorem ev_fn {X : Cx} {o : List Nat} {e : Expr} {es : List Expr} {x : Str} {p pos : Pos} {k n : Nat} {m : List PyData → Option PyData} {g : Rho → Option (List PyData)} (c : Callee X.prog X.w X.K X.mg X.base k x n m) (hr : Room k X.A)
    (ha : EA X o (e :: es) g) (hg : Gl X x := by rfl) (hdb : (x == ("__debug__" : Str)) = false := by decide) (he : starEach (e :: es) X.env = (false, eval e X.env) :: starEach es X.env := by rfl) (hpl : (backTo pos (starEach es X.env)).any (·.1) = false := by rfl) :
    EV X o (.Call (.Name x p) (e :: es) [] pos) (eCall n m g) := by
  obtain ⟨f, fd, ps, F, hm, hk, hb⟩ := c.ex
  exact ev_call F hr hm hk hb ha hg hdb he hpl
/-- a def of the text, by its body -/
theorem fn_K {P : Program} {w : World} {K : PySem.W.Frag} {mg : Str → Option Value} {base : Heap} {k : Nat} {x qual : Str} {params : Arguments} {body : List Stmt} {scope : Scope} {f : Addr} {fd : FuncData} {N ps : List Str} {o' : List Nat} {fb : Rho → Option Fl} (F : FunD K x qual params body scope [] [] f fd) (S : FnScope N ps scope)
    (hbody : ∀ (cdv : Value) (A : Around) (outer : List Env) (s : Shared) (H : Hp) (E : XK), Room k (A.deeper (envOfC qual scope s.heap.objs.size f cdv)) → SVs (cxOf CX0 P w K mg base N qual scope f cdv A outer s H E).nox [] o' [] body fb) :
    FnOk P w K mg base CX0 (k + 1) f fd ps (spF K ps.length (runF N.length fb)) := by
  refine F.ok S (fun vs H Q E h => h.1) (fun cdv A outer s H vs Q E hr h => ?_)
  obtain ⟨hl, Pr, ds, d, tr, t, e, q⟩ := h
  refine ⟨_, (hbody cdv A outer s H E hr).nox, ?_⟩
  unfold runF at e
  cases ef : fb (ds.map some ++ List.replicate (N.length - ds.length) none) with
  | none => rw [ef] at e; cases e
  | some fl =>
  rw [ef] at e
  simp only [Option.bind_some] at e
  have tl := t.length
  refine ⟨H, Pr, Pr, _, fl, ⟨fun a z => z, tr, tr, Same.refl H, fun i hi => absurd hi (by simp), fun i j a b hi => absurd hi (by simp), fun i d' _ h => ?_, ?_⟩, ef, ?_⟩
  · have hi : i < ds.length := by
      by_cases hi : i < ds.length
      · exact hi
      · rw [List.getElem?_append_right (by simpa using hi), List.getElem?_replicate] at h
        split at h <;> cases h
    rw [List.getElem?_append_left (by simpa using hi), List.getElem?_map] at h
    cases z : ds[i]? with
    | none => rw [z] at h; cases h
    | some d2 =>
      rw [z] at h
      cases h
      obtain ⟨v, h1, h2⟩ := t.get z
      exact ⟨v, start_get h1, h2⟩
  · unfold L2.start
    rw [List.length_append, List.length_append, List.length_map, List.length_map, List.length_replicate, List.length_replicate, tl]
  · cases fl with
    | rt d' => cases e; exact fun v H' s t => q v H' s t
    | nx r => cases e; exact fun σ' H' P' R l => q .non H' R.same .non
    | bk r => cases e
    | ct r => cases e
theorem fn_C {P : Program} {w : World} {K : PySem.W.Frag} {mg : Str → Option Value} {base : Heap} {k : Nat} {x qual : Str} {params : Arguments} {body : List Stmt} {scope : Scope} {f : Addr} {fd : FuncData} {N ps : List Str} {o' : List Nat} {fb : Rho → Option Fl} (F : FunD K x qual params body scope [] [] f fd) (S : FnScope N ps scope)
    (hm : mg x = some (.ref f)) (hb : Binds K fd ps [])
    (hbody : ∀ (cdv : Value) (A : Around) (outer : List Env) (s : Shared) (H : Hp) (E : XK), Room k (A.deeper (envOfC qual scope s.heap.objs.size f cdv)) → SVs (cxOf CX0 P w K mg base N qual scope f cdv A outer s H E).nox [] o' [] body fb) :
    Callee P w K mg base (k + 1) x ps.length (runF N.length fb) := ⟨f, fd, ps, fn_K F S hbody, hm, F.kp, hb⟩
/-- nothing is promised without fuel -/
theorem Callee.none {P : Program} {w : World} {K : PySem.W.Frag} {mg : Str → Option Value} {base : Heap} {k n : Nat} {x : Str} {ps : List Str} {f : Addr} {fd : FuncData} {m : List PyData → Option PyData} (hm : mg x = some (.ref f)) (hk : PySem.W.keepIn K (.ref f) = true) (hb : Binds K fd ps []) (hn : ∀ ds, m ds = Option.none) :
    Callee P w K mg base k x n m := by
  have no : ∀ vs H Q E, ¬ spF K n m vs H Q E := fun vs H Q E h => by
    obtain ⟨_, _, ds, d, _, _, e, _⟩ := h
    rw [hn] at e; cases e
  exact ⟨f, fd, ps, ⟨fun vs H Q E h => absurd h (no vs H Q E), fun A outer s H args us vs Q E _ _ _ _ h => absurd h (no vs H Q E)⟩, hm, hk, hb⟩
/-- a law: what it answers on every script -/
theorem law_sp {K : PySem.W.Frag} {m : List PyData → Option PyData} (h : ∀ ns : List Int, ns.length ≤ 63 → m [scr ns] = some (.bool true)) (H : Hp) (a : Addr) (ns : List Int) (hl : ns.length ≤ 63) (hO : Only H) (hS : SqL K H a (ns.map V.int)) :
    spF K 1 m [.ref a] H (fun v _ => v = .bl true) fun _ _ _ => False := by
  refine ⟨rfl, fun _ => False, [scr ns], .bool true, fun a z => z.elim, .cons ?_ .nil, h ns hl, fun v H' s t => by cases t; rfl⟩
  rcases hS with (hS | ⟨o, hS⟩) | hS
  · rcases hO a with z | ⟨o, xs, z⟩
    · rw [hS] at z; cases z
    · rw [hS] at z; cases z
  · exact .scf hS (fun z => z)
  · exact .sck (.inr hS)
end TF

/-! TFi.lean -/
set_option Elab.async false
set_option linter.all false
set_option maxRecDepth 100000
namespace TF
open PySem PySem.Spec PyProof.Rows L2
section
variable {X : Cx}
def dMulA : PyData → PyData → Option PyData := dMul
theorem opF_mulA : OpR X (binaryOp .Mult) (rF X.K dMulA) := opF_mul
/-- < of ints, texts, alike tuples -/
def dLtA : PyData → PyData → Option Bool
  | .tuple xs, .tuple ys => if pl (.tuple xs) = true ∧ pl (.tuple ys) = true ∧ PySem.W.alikeAll xs ys = true then some (PySem.W.dataLt (.tuple xs) (.tuple ys)) else none
  | x, y => dLt x y
theorem opF_ltA (hu : X.A.units + 64 < cLine) : OpR X (compareOp .Lt) (rFB X.K dLtA) := OpR.imp (OpR.or (opF_lt (X := X)) (op_ltP hu)) fun x y H Q ⟨P, dx, dy, d, tr, rx, ry, e, q⟩ => by
  unfold dLtA at e
  split at e
  · rename_i xs ys
    by_cases hz : pl (.tuple xs) = true ∧ pl (.tuple ys) = true ∧ PySem.W.alikeAll xs ys = true
    · rw [if_pos hz] at e; cases e
      exact .inr ⟨_, _, rx.dp (pl_plain hz.1), ry.dp (pl_plain hz.2.1), hz.1, hz.2.1, ⟨by simpa only [PySem.W.alike] using hz.2.2, fun z => nomatch z⟩, q⟩
    · rw [if_neg hz] at e; cases e
  · exact .inl ⟨P, _, _, d, tr, rx, ry, e, q⟩
end
end TF

/-! TFj.lean -/
set_option Elab.async false
set_option linter.all false
set_option maxRecDepth 100000
/-! TF.j: enumerate, zip, index, abs, sum, min, max -/
namespace TF
open PySem PySem.Spec PyProof.Rows L2
open Sem (wp)
/-! ### enumerate -/
set_option maxHeartbeats 1000000 in
theorem meets_enum1 {v : Value} {o : Obj} {H : Heap → Prop} (B : Begins v o H) :
    Meets (Builtin.«enumerate.__new__» ⟨[.type "enumerate", v], []⟩) (fun _ R s => H s.heap ∧
      R (.ok (.ret (.ref (s.heap.push o).objs.size))) { s with heap := (s.heap.push o).push { cls := .type "enumerate", data := .fields #[.none, .bool false, .ref s.heap.objs.size, rawInt 0, .none, .none] } }) :=
  .of_wp fun prog w A R s h => by
    obtain ⟨hp, g, d, tk, os⟩ := s; obtain ⟨h1, h⟩ := h
    have hsub := sub_enumerate
    have q1 : ∀ {A' : Around} {E : Value → Shared → Prop} {Q : Value → Shared → Prop}, Q (.ref hp.objs.size) ⟨hp.push o, g, d, tk, os⟩ → wpAny (model prog w) A' (pyIter v) Q E ⟨hp, g, d, tk, os⟩ :=
      fun q => B.iter prog w _ _ ⟨hp, g, d, tk, os⟩ _ h1 q
    wp_walk using q1
    refine wpAny_stack_any fun st => wpAny_pure ?_
    split
    · rename_i c _ _ _ _ _
      cases (c == Value.type "enumerate")
      · wp_walk using q1
        exact ⟨_, rfl, h⟩
      · wp_walk using q1
        exact ⟨_, rfl, h⟩
    · wp_walk using q1
      exact ⟨_, rfl, h⟩
section
variable {prog : Program} {w : World} {A : Around} {E : Value → Shared → Prop} {s : Shared}
theorem enum_begin1 {v : Value} {o : Obj} {H : Heap → Prop} {Q : Value → Shared → Prop} (B : Begins v o H) (h1 : H s.heap)
    (h : ∀ h', IsEnum h' (s.heap.objs.size + 1) s.heap.objs.size 0 .none → h'.get? s.heap.objs.size = some o → h'.objs.size = s.heap.objs.size + 2 →
      (∀ b o, s.heap.get? b = some o → h'.get? b = some o) → Q (.ref (s.heap.objs.size + 1)) { s with heap := h' }) :
    wpAny (model prog w) A (call (.type "enumerate") [v]) Q E s := by
  refine callType_new F.called_enumerate (by decide) (F.typeCall_enumerate_1 _) (F.newCall_enumerate_1 _) (fun obj => F.args_object_init_2 obj _) F.entry_enumerate_new
    (meets_enum1 B) ⟨h1, ?_⟩
  have hz : (s.heap.push o).objs.size = s.heap.objs.size + 1 := Heap.size_push ..
  show _ ∧ _
  rw [hz]
  have he : IsEnum ((s.heap.push o).push { cls := .type "enumerate", data := .fields #[.none, .bool false, .ref s.heap.objs.size, rawInt 0, .none, .none] }) (s.heap.objs.size + 1) s.heap.objs.size 0 .none := by
    have := Heap.get?_push_size (s.heap.push o) (o := { cls := .type "enumerate", data := .fields #[.none, .bool false, .ref s.heap.objs.size, rawInt 0, .none, .none] }) rfl
    rw [hz] at this; exact this
  refine ⟨⟨_, he, rfl⟩, h _ he (Heap.get?_push_of_some _ (Heap.get?_push_size _ B.free)) (by rw [Heap.size_push, hz]) fun b o x => Heap.get?_push_of_some _ (Heap.get?_push_of_some _ x)⟩
end
/-- the tuple at a, each item in a new pair -/
def IteT (K : PySem.W.Frag) (a : Addr) : It :=
  ⟨fun i H => ∃ (xs : List V) (x : V), SqT K H a xs ∧ xs[i]? = some x, fun i H v H' => ∃ T x, v = .ref T ∧ H T = none ∧ (∃ its, H' = upd H T (fz its [.int (i : Nat), x])) ∧ ∀ xs, SqT K H a xs → xs[i]? = some x, fun i H => ∃ xs : List V, SqT K H a xs ∧ xs.length = i⟩
theorem turn_enumT {P : Program} {w : World} {K : PySem.W.Frag} {elts : List Expr} {kk : Nat} {tpos : Pos} (a e it : Addr) (nea : it ≠ a) (eea : e ≠ a) :
    Turn P w K (.Tuple elts kk tpos) (IteT K a) [e, it] e (fun i h => (∃ old, IsEnum h e it ((i : Nat) : Int) old) ∧ h.IsTupleIter it a i ∧ e ≠ it) where
  mem := by simp
  obj := fun i h st b hb => by
    obtain ⟨⟨old, he⟩, ⟨o, ho, hc, hd⟩, _⟩ := st
    have e' : b = e ∨ b = it := by simpa using hb
    rcases e' with z | z
    · rw [z]; exact ⟨_, he, fun v q => nomatch q⟩
    · rw [z]; exact ⟨o, ho, fun v q => by rw [hd] at q; cases q⟩
  keep := fun i h h' st k => let ⟨⟨old, he⟩, hi, hne⟩ := st; ⟨⟨old, k e (by simp) _ he⟩, hi.at fun o q => k it (by simp) o q, hne⟩
  item := by
    intro X hP hw hK hc i pins s σ H E I hf st hg
    subst hP hw hK
    obtain ⟨⟨old, he⟩, hit, hne⟩ := st
    obtain ⟨xs, x, hq, hx⟩ := hg
    obtain ⟨its, rv, p, hz⟩ := I.tuple hq
    obtain ⟨u, hu, ru⟩ := rv.get hx
    have hel : e < s.heap.objs.size := Heap.lt_size he
    have hil : it < s.heap.objs.size := by obtain ⟨_, q, _⟩ := hit; exact Heap.lt_size q
    have D := Draws.tuple (prog := X.prog) (w := X.w) (A := X.A.in1) (I.ok.hd hc) it a (Ne.symm nea) its.toArray
    have hlt : i < its.toArray.size := by
      have := List.getElem?_eq_some_iff.mp hu
      rw [List.size_toArray]; exact this.1
    refine wpAny_pyNext_enum_itemD D he ⟨hit, (show s.heap.IsTuple a its.toArray from p)⟩ hlt hne (by simp [hne, eea]) fun x' h' tk hx' ho hs' hT hsz hk => ?_
    have ex : x' = u := by
      rw [List.getElem?_toArray] at hx'
      rw [hu] at hx'; cases hx'; rfl
    subst ex
    refine ⟨_, rfl, wpAny_letOwnedTupleGo_enum (s := { s with heap := h', toks := tk + 1 }) ho fun h'' he' sb => ?_⟩
    have hT2 : h''.get? s.heap.objs.size = some { cls := .type "tuple", data := .seq #[.int i tk, x'] } := (sb.2 _ (Nat.ne_of_gt hel)).trans hT
    have new : ObjOk X.prog X.w (upd H s.heap.objs.size (fz [.int i tk, x'] [.int (i : Nat), x])) h'' s.heap.objs.size (fz [.int i tk, x'] [.int (i : Nat), x]) :=
      fz_ok (.cons ⟨_, rfl⟩ (.cons ru .nil)) (by show 2 ≤ sizeLine; decide) hT2
    have I1 : Inv X pins σ (upd H s.heap.objs.size (fz [.int i tk, x'] [.int (i : Nat), x])) { s with heap := h'', toks := tk + 1 } :=
      I.turnedNew (ch := [e, it]) (fun b ob hb q => (sb.2 b (fun z => hb (by simp [z]))).trans (hk b ob (fun z => hb (by simp [z])) (fun z => hb (by simp [z])) q)) hf (Nat.le_refl _) new
    refine ⟨.ref s.heap.objs.size, _, I1, rfl, ⟨_, x, rfl, I.hok.fresh (Nat.le_refl _), ⟨_, rfl⟩, fun ys hy => by rw [I.tuple_inj hy hq]; exact hx⟩, ⟨⟨x', ?_⟩, hs'.1.at fun o q => (sb.2 it (Ne.symm hne)).trans q, hne⟩, fun b hb => ?_⟩
    · have e1 : ((i + 1 : Nat) : Int) = (i : Int) + 1 := by omega
      rw [e1]; exact he'
    · have hb' : b < s.heap.objs.size := by
        have e' : b = e ∨ b = it := by simpa using hb
        rcases e' with z | z
        · rw [z]; exact hel
        · rw [z]; exact hil
      rw [upd_ne (Nat.ne_of_lt hb')]
      exact (hf b hb).1
  done := by
    intro X hP hw hK hc i pins s σ H E I hf st hg
    subst hP hw hK
    obtain ⟨⟨old, he⟩, hit, hne⟩ := st
    obtain ⟨xs, hq, hx⟩ := hg
    obtain ⟨its, rv, p, hz⟩ := I.tuple hq
    obtain ⟨f0, f1, f2, f3, f4, f5⟩ := hf it (by simp)
    have hl := rv.length
    have D := Draws.tuple (prog := X.prog) (w := X.w) (A := X.A.in1) (I.ok.hd hc) it a (Ne.symm nea) its.toArray
    have ez : i = its.toArray.size := by rw [List.size_toArray]; omega
    subst ez
    exact wpAny_pyNext_enum_endD D he ⟨hit, (show s.heap.IsTuple a its.toArray from p)⟩ fun h' eb => ⟨rfl, I.turned (t' := s.toks) (fun b o hb q => eb b o hb q) f0 f1 f3 f4 f5⟩
  self := fun A i s Q E st h => let ⟨⟨_, he⟩, _⟩ := st; wpAny_pyIter_enum he h
/-- the list at a, each item in a new pair -/
def IteL (K : PySem.W.Frag) (a : Addr) : It :=
  ⟨fun i H => ∃ (xs : List V) (x : V), SqL K H a xs ∧ xs[i]? = some x, fun i H v H' => ∃ T x, v = .ref T ∧ H T = none ∧ (∃ its, H' = upd H T (fz its [.int (i : Nat), x])) ∧ ∀ xs, SqL K H a xs → xs[i]? = some x, fun i H => ∃ xs : List V, SqL K H a xs ∧ xs.length = i⟩
theorem turn_enumL {P : Program} {w : World} {K : PySem.W.Frag} {elts : List Expr} {kk : Nat} {tpos : Pos} (a e it : Addr) (nea : it ≠ a) (eea : e ≠ a) :
    Turn P w K (.Tuple elts kk tpos) (IteL K a) [e, it] e (fun i h => (∃ old, IsEnum h e it ((i : Nat) : Int) old) ∧ h.IsListIter it a i ∧ e ≠ it) where
  mem := by simp
  obj := fun i h st b hb => by
    obtain ⟨⟨old, he⟩, ⟨o, ho, hc, hd⟩, _⟩ := st
    have e' : b = e ∨ b = it := by simpa using hb
    rcases e' with z | z
    · rw [z]; exact ⟨_, he, fun v q => nomatch q⟩
    · rw [z]; exact ⟨o, ho, fun v q => by rw [hd] at q; cases q⟩
  keep := fun i h h' st k => let ⟨⟨old, he⟩, hi, hne⟩ := st; ⟨⟨old, k e (by simp) _ he⟩, hi.at fun o q => k it (by simp) o q, hne⟩
  item := by
    intro X hP hw hK hc i pins s σ H E I hf st hg
    subst hP hw hK
    obtain ⟨⟨old, he⟩, hit, hne⟩ := st
    obtain ⟨xs, x, hq, hx⟩ := hg
    obtain ⟨its, rv, p, hz⟩ := I.list hq
    obtain ⟨u, hu, ru⟩ := rv.get hx
    have hel : e < s.heap.objs.size := Heap.lt_size he
    have hil : it < s.heap.objs.size := by obtain ⟨_, q, _⟩ := hit; exact Heap.lt_size q
    have D := Draws.list (prog := X.prog) (w := X.w) (A := X.A.in1) (I.ok.hd hc) it a (Ne.symm nea) its.toArray
    have hlt : i < its.toArray.size := by
      have := List.getElem?_eq_some_iff.mp hu
      rw [List.size_toArray]; exact this.1
    refine wpAny_pyNext_enum_itemD D he ⟨hit, p.isList⟩ hlt hne (by simp [hne, eea]) fun x' h' tk hx' ho hs' hT hsz hk => ?_
    have ex : x' = u := by
      rw [List.getElem?_toArray] at hx'
      rw [hu] at hx'; cases hx'; rfl
    subst ex
    refine ⟨_, rfl, wpAny_letOwnedTupleGo_enum (s := { s with heap := h', toks := tk + 1 }) ho fun h'' he' sb => ?_⟩
    have hT2 : h''.get? s.heap.objs.size = some { cls := .type "tuple", data := .seq #[.int i tk, x'] } := (sb.2 _ (Nat.ne_of_gt hel)).trans hT
    have new : ObjOk X.prog X.w (upd H s.heap.objs.size (fz [.int i tk, x'] [.int (i : Nat), x])) h'' s.heap.objs.size (fz [.int i tk, x'] [.int (i : Nat), x]) :=
      fz_ok (.cons ⟨_, rfl⟩ (.cons ru .nil)) (by show 2 ≤ sizeLine; decide) hT2
    have I1 : Inv X pins σ (upd H s.heap.objs.size (fz [.int i tk, x'] [.int (i : Nat), x])) { s with heap := h'', toks := tk + 1 } :=
      I.turnedNew (ch := [e, it]) (fun b ob hb q => (sb.2 b (fun z => hb (by simp [z]))).trans (hk b ob (fun z => hb (by simp [z])) (fun z => hb (by simp [z])) q)) hf (Nat.le_refl _) new
    refine ⟨.ref s.heap.objs.size, _, I1, rfl, ⟨_, x, rfl, I.hok.fresh (Nat.le_refl _), ⟨_, rfl⟩, fun ys hy => by rw [I.list_inj hy hq]; exact hx⟩, ⟨⟨x', ?_⟩, hs'.1.at fun o q => (sb.2 it (Ne.symm hne)).trans q, hne⟩, fun b hb => ?_⟩
    · have e1 : ((i + 1 : Nat) : Int) = (i : Int) + 1 := by omega
      rw [e1]; exact he'
    · have hb' : b < s.heap.objs.size := by
        have e' : b = e ∨ b = it := by simpa using hb
        rcases e' with z | z
        · rw [z]; exact hel
        · rw [z]; exact hil
      rw [upd_ne (Nat.ne_of_lt hb')]
      exact (hf b hb).1
  done := by
    intro X hP hw hK hc i pins s σ H E I hf st hg
    subst hP hw hK
    obtain ⟨⟨old, he⟩, hit, hne⟩ := st
    obtain ⟨xs, hq, hx⟩ := hg
    obtain ⟨its, rv, p, hz⟩ := I.list hq
    obtain ⟨f0, f1, f2, f3, f4, f5⟩ := hf it (by simp)
    have hl := rv.length
    have D := Draws.list (prog := X.prog) (w := X.w) (A := X.A.in1) (I.ok.hd hc) it a (Ne.symm nea) its.toArray
    have ez : i = its.toArray.size := by rw [List.size_toArray]; omega
    subst ez
    exact wpAny_pyNext_enum_endD D he ⟨hit, p.isList⟩ fun h' eb => ⟨rfl, I.turned (t' := s.toks) (fun b o hb q => eb b o hb q) f0 f1 f3 f4 f5⟩
  self := fun A i s Q E st h => let ⟨⟨_, he⟩, _⟩ := st; wpAny_pyIter_enum he h
def iEnumA (K : PySem.W.Frag) (ta : TA) : TI := fun σ H R => ta σ H fun vs H1 => ∃ a xs, vs = [.ref a] ∧ ((SqL K H1 a xs ∧ R (IteL K a) H1) ∨ (SqT K H1 a xs ∧ R (IteT K a) H1))
theorem pi_enumA {X : Cx} {e : Expr} {ta : TA} {p pos tpos : Pos} {elts : List Expr} {kk : Nat} (hg : Gl X "enumerate") (hm : X.mg "enumerate" = none) (ha : PA X [e] ta) (hs : starEach [e] X.env = [(false, eval e X.env)] := by rfl) :
    PI X (.Tuple elts kk tpos) (.Call (.Name "enumerate" p) [e] [] pos) (iEnumA X.K ta) := by
  refine ⟨fun pins s σ H R I h => ?_⟩
  refine Call_ (ld_blt I hg hm boot_enumerate (PyProof.Rows.callWith_type1 (thn (ha.run pos pins s σ H _ I h) fun us s1 ⟨vs, H1, I1, r1, q1⟩ => ?_) hs rfl))
  obtain ⟨a, xs, ex, q1⟩ := q1
  subst ex
  cases r1 with
  | cons r rr =>
    cases rr
    cases r
    have fr : ∀ b, b ∈ [s1.heap.objs.size + 1, s1.heap.objs.size] → FpOk X pins H1 b := fun b hb => by
      have e' : b = s1.heap.objs.size + 1 ∨ b = s1.heap.objs.size := by simpa using hb
      have hle : s1.heap.objs.size ≤ b := by
        rcases e' with z | z
        · rw [z]; exact Nat.le_add_right _ _
        · rw [z]; exact Nat.le_refl _
      exact I1.fpOk hle (I1.hok.fresh hle)
    rcases q1 with ⟨hq, q⟩ | ⟨hq, q⟩
    · obtain ⟨its, rv, p', hz⟩ := I1.list hq
      obtain ⟨o1, ho1, _⟩ := id p'.isList
      have hlt := Heap.lt_size ho1
      refine call_enumerate_list p'.isList fun h' he hit hsz hk => wpAny_pyIter_enum he ?_
      have I2 : Inv X pins σ H1 { s1 with heap := h' } := I1.kept (t' := s1.toks) hk
      exact ⟨s1.heap.objs.size + 1, [s1.heap.objs.size + 1, s1.heap.objs.size], _, _, H1, rfl, I2, turn_enumL a (s1.heap.objs.size + 1) s1.heap.objs.size (Nat.ne_of_gt hlt) (Nat.ne_of_gt (Nat.lt_succ_of_lt hlt)), ⟨⟨.none, he⟩, hit, Nat.succ_ne_self _⟩, fr, q⟩
    · obtain ⟨its, rv, p', hz⟩ := I1.tuple hq
      obtain ⟨o1, ho1, _⟩ := id p'
      have hlt := Heap.lt_size ho1
      refine enum_begin1 (begins_tuple a its.toArray) (show s1.heap.IsTuple a its.toArray from p') fun h' he hit hsz hk => wpAny_pyIter_enum he ?_
      have I2 : Inv X pins σ H1 { s1 with heap := h' } := I1.kept (t' := s1.toks) hk
      exact ⟨s1.heap.objs.size + 1, [s1.heap.objs.size + 1, s1.heap.objs.size], _, _, H1, rfl, I2, turn_enumT a (s1.heap.objs.size + 1) s1.heap.objs.size (Nat.ne_of_gt hlt) (Nat.ne_of_gt (Nat.lt_succ_of_lt hlt)), ⟨⟨.none, he⟩, ⟨_, hit, rfl, rfl⟩, Nat.succ_ne_self _⟩, fr, q⟩
section
variable {X : Cx} {o : List Nat} {e a b : Expr} {f fa fb : Rho → Option PyData} {pos : Pos}
/-- the items of a list, a tuple -/
def enumD : Nat → List PyData → List PyData
  | _, [] => []
  | i, d :: ds => .tuple [.int (i : Nat), d] :: enumD (i + 1) ds
theorem enumD_length : ∀ (i : Nat) (ds : List PyData), (enumD i ds).length = ds.length
  | _, [] => rfl
  | i, d :: ds => congrArg Nat.succ (enumD_length (i + 1) ds)
theorem enumD_get : ∀ (k : Nat) (ds : List PyData) (i : Nat) (d : PyData), ds[i]? = some d → (enumD k ds)[i]? = some (.tuple [.int ((k + i : Nat)), d])
  | k, [], i, d, h => by simp at h
  | k, x :: ds, 0, d, h => by
    cases h; rfl
  | k, x :: ds, i + 1, d, h => by
    have := enumD_get (k + 1) ds i d (by simpa using h)
    have e : k + (i + 1) = k + 1 + i := by omega
    rw [e]
    simpa [enumD] using this
def dEnum : PyData → Option (List PyData) := fun d => (dSeqs d).map (enumD 0)
theorem wk_enumL {K : PySem.W.Frag} {ds : List PyData} {a : Addr} {vs : List V} {H1 : Hp} {P : Addr → Prop} (ha : H1 a = some (.lst vs)) (hn : ¬ P a) (ts : DqA K H1 P vs ds) : Wk K (enumD 0 ds) (IteL K a) H1 P := by
  refine ⟨fun H P i l hi => ?_, fun H P l => ?_, fun H P i x H' l tr hi y => ?_⟩
  · rw [enumD_length] at hi
    have hi' : i < vs.length := by rw [ts.length]; exact hi
    exact ⟨vs, vs[i], SqL.of (l _ _ ha hn).1, by simp [hi']⟩
  · exact ⟨vs, SqL.of (l _ _ ha hn).1, by rw [ts.length, enumD_length]⟩
  · obtain ⟨T, x, rfl, hT, ⟨its, rfl⟩, y⟩ := y
    obtain ⟨d, h1, h2⟩ := (ts.mono l).getV (y vs (SqL.of (l _ _ ha hn).1))
    have s := same_upd hT (fz its [.int (i : Nat), x])
    refine ⟨s, _, enumD_get 0 ds i d h1, ?_⟩
    rw [Nat.zero_add]
    exact .tup upd_same (fun z => by obtain ⟨u, hu⟩ := tr _ z; rw [hT] at hu; cases hu) (.cons (.int _) (.cons (h2.same s) .nil))
theorem wk_enumT {K : PySem.W.Frag} {ds : List PyData} {a : Addr} {vs : List V} {H1 : Hp} {P : Addr → Prop} (ha : ∀ H P', Lt H1 P H P' → SqT K H a vs) (ts : DqA K H1 P vs ds) : Wk K (enumD 0 ds) (IteT K a) H1 P := by
  refine ⟨fun H P i l hi => ?_, fun H P l => ?_, fun H P i x H' l tr hi y => ?_⟩
  · rw [enumD_length] at hi
    have hi' : i < vs.length := by rw [ts.length]; exact hi
    exact ⟨vs, vs[i], ha _ _ l, by simp [hi']⟩
  · exact ⟨vs, ha _ _ l, by rw [ts.length, enumD_length]⟩
  · obtain ⟨T, x, rfl, hT, ⟨its, rfl⟩, y⟩ := y
    obtain ⟨d, h1, h2⟩ := (ts.mono l).getV (y vs (ha _ _ l))
    have s := same_upd hT (fz its [.int (i : Nat), x])
    refine ⟨s, _, enumD_get 0 ds i d h1, ?_⟩
    rw [Nat.zero_add]
    exact .tup upd_same (fun z => by obtain ⟨u, hu⟩ := tr _ z; rw [hT] at hu; cases hu) (.cons (.int _) (.cons (h2.same s) .nil))
theorem wi_enum {p tpos : Pos} {elts : List Expr} {kk : Nat} (hm : X.mg "enumerate" = none) (h : EV X o a f) (hg : Gl X "enumerate" := by rfl) (hs : starEach [a] X.env = [(false, eval a X.env)] := by rfl) :
    WI X o (.Tuple elts kk tpos) (.Call (.Name "enumerate" p) [a] [] pos) (e1 f dEnum) := PI.imp (PI.szd (pi_enumA hg hm (pa_cons h pa_nil hs) hs)) fun σ H R ⟨H0, P0, P, ρ, ds, Re, e', q⟩ => by
  obtain ⟨d, ef, eg⟩ := e1_some e'
  refine ⟨H0, P0, P, ρ, _, Re, ef, fun v H1 s1 t => ?_⟩
  cases t with
  | @lst a vs ds' ha hn ts =>
    have eg : some (enumD 0 ds') = some ds := eg
    cases eg
    exact ⟨a, vs, rfl, .inl ⟨SqL.of ha, fun hz => q _ _ s1 (wk_enumL ha hn ts) (by rw [enumD_length, ← ts.length]; exact hz.1 _ _ (SqL.of ha))⟩⟩
  | @tup a its vs ds' ha hn ts =>
    have eg : some (enumD 0 ds') = some ds := eg
    cases eg
    exact ⟨a, vs, rfl, .inr ⟨sqT_fz ha, fun hz => q _ _ s1 (wk_enumT (fun H P' l => sqT_fz (l _ _ ha hn).1) ts) (by rw [enumD_length, ← ts.length]; exact hz.2 _ _ (sqT_fz ha))⟩⟩
  | _ => cases eg
end
end TF

/-! TFk.lean -/
set_option Elab.async false
set_option linter.all false
set_option maxRecDepth 100000
/-! TF.k: index, abs, sum, min, max, sorted -/
namespace TF
open PySem PySem.Spec PyProof.Rows L2
section
variable {X : Cx} {o : List Nat} {e a b : Expr} {f fa fb : Rho → Option PyData} {pos : Pos}
def dAbs : PyData → Option PyData
  | .int i => some (.int (if i < 0 then -i else i))
  | _ => none
theorem opF_abs : CallR X (.builtin "abs") (rC1 X.K dAbs) := CallR.imp call_abs fun vs H Q ⟨P, x, dx, d, ev, tr, rx, e, q⟩ => by
  subst ev
  unfold dAbs at e
  split at e
  · cases e
    exact ⟨_, by rw [rx.int], q _ H (Same.refl H) (.int _)⟩
  · cases e
def intsD : List PyData → Option (List Int)
  | [] => some []
  | .int x :: r => (intsD r).map (x :: ·)
  | _ :: _ => none
theorem intsD_rel {K : PySem.W.Frag} {H : Hp} {P : Addr → Prop} : ∀ {vs : List V} {ds : List PyData} {ys : List Int}, DqA K H P vs ds → intsD ds = some ys → vs = ys.map V.int
  | _, _, ys, .nil, e => by cases e; rfl
  | _, _, ys, .cons (d := d) h t, e => by
    cases d with
    | int x =>
      unfold intsD at e
      cases er : intsD _ with
      | none => rw [er] at e; cases e
      | some r =>
        rw [er] at e
        cases e
        cases h
        rw [intsD_rel t er, List.map_cons]
    | _ => cases e
theorem intsD_map (ns : List Int) : intsD (ns.map PyData.int) = some ns := by
  induction ns with
  | nil => rfl
  | cons n r ih => simp only [List.map_cons, intsD, ih]; rfl
def dSum : PyData → Option PyData
  | .list ds => (intsD ds).map fun ns => .int ns.sum
  | _ => none
theorem opF_sum (hc : X.calm = true) : CallR X (.builtin "sum") (rC1 X.K dSum) := CallR.imp (cr_sum hc) fun vs H Q ⟨P, x, dx, d, ev, tr, rx, e, q⟩ => by
  subst ev
  unfold dSum at e
  split at e
  · rename_i ds
    cases ei : intsD ds with
    | none => rw [ei] at e; cases e
    | some ns =>
      rw [ei] at e; cases e
      obtain ⟨a, xs, rfl, h, t⟩ := rx.lst
      rw [intsD_rel t ei] at h
      exact ⟨a, ns, rfl, SqL.of h, q _ H (Same.refl H) (.int _)⟩
  · cases e
def dMax2 : PyData → PyData → Option PyData
  | .int i, .int j => some (.int (if j > i then j else i))
  | _, _ => none
theorem opF_max2 (hc : X.calm = true) : CallR X (.builtin "max") (rC2 X.K dMax2) := CallR.imp (call_max2 hc) fun vs H Q ⟨P, x, y, dx, dy, d, ev, tr, rx, ry, e, q⟩ => by
  subst ev
  unfold dMax2 at e
  split at e
  · cases e
    exact ⟨_, _, by rw [rx.int, ry.int], q _ H (Same.refl H) (.int _)⟩
  · cases e
def dMin2 : PyData → PyData → Option PyData
  | .int i, .int j => some (.int (if j < i then j else i))
  | _, _ => none
theorem opF_min2 (hc : X.calm = true) : CallR X (.builtin "min") (rC2 X.K dMin2) := CallR.imp (call_min2 hc) fun vs H Q ⟨P, x, y, dx, dy, d, ev, tr, rx, ry, e, q⟩ => by
  subst ev
  unfold dMin2 at e
  split at e
  · cases e
    exact ⟨_, _, by rw [rx.int, ry.int], q _ H (Same.refl H) (.int _)⟩
  · cases e
/-- min, max of a list of alike data -/
def someD : PyData → Bool
  | .none => false
  | _ => true
theorem someD_ne {d : PyData} (h : someD d = true) : d ≠ .none := by rintro rfl; cases h
def alk (ds : List PyData) : Bool := ds.all fun d => pl d && someD d && ds.all fun e => PySem.W.alike d e
theorem alk_pl {ds : List PyData} (h : alk ds = true) {d : PyData} (hd : d ∈ ds) : pl d = true := by
  have := List.all_eq_true.mp h d hd
  rw [Bool.and_eq_true, Bool.and_eq_true] at this
  exact this.1.1
theorem alk_all {ds : List PyData} (h : alk ds = true) : PySem.W.AlikeAll ds := by
  refine ⟨fun x hx y hy => ?_, fun x hx => ?_⟩
  · have := List.all_eq_true.mp h x hx
    rw [Bool.and_eq_true] at this
    exact List.all_eq_true.mp this.2 y hy
  · have := List.all_eq_true.mp h x hx
    rw [Bool.and_eq_true, Bool.and_eq_true] at this
    exact someD_ne this.1.2
theorem plain_all : ∀ {ds : List PyData}, (∀ d, d ∈ ds → d.plain = true) → PyData.plainAll ds = true
  | [], _ => rfl
  | d :: ds, h => by
    simp only [PyData.plainAll, Bool.and_eq_true]
    exact ⟨h d (by simp), plain_all fun x hx => h x (by simp [hx])⟩
theorem depth_all {n : Nat} : ∀ {ds : List PyData}, (∀ d, d ∈ ds → d.depth ≤ n) → PyData.depthAll ds ≤ n
  | [], _ => by simp [PyData.depthAll]
  | d :: ds, h => by
    have h1 := h d (by simp)
    have h2 := depth_all (n := n) (ds := ds) fun x hx => h x (by simp [hx])
    simp only [PyData.depthAll]
    omega
theorem DqA.dps {K : PySem.W.Frag} {H : Hp} {P : Addr → Prop} {vs : List V} {ds : List PyData} (t : DqA K H P vs ds) (c : ∀ d, d ∈ ds → d.plain = true) : ∀ (i : Nat) (v : V), vs[i]? = some v → ∃ d, ds[i]? = some d ∧ Dp K H v d := fun i v h => by
  obtain ⟨d, h1, h2⟩ := t.getV h
  exact ⟨d, h1, h2.dp (c d (List.mem_of_getElem? h1))⟩
theorem dpA_reads {pins : List (Addr × Obj)} {σ : L2.St} {H : Hp} {s : Shared} (I : Inv X pins σ H s) {P : Addr → Prop} : ∀ {vs : List V} {ds : List PyData} {us : List Value}, DqA X.K H P vs ds → (∀ d, d ∈ ds → d.plain = true) → Vals vs us → ∃ as, ReadsAll s.heap us ds as
  | _, _, _, .nil, _, .nil => ⟨_, .nil⟩
  | _, _, _, .cons h t, c, .cons r rs => by
    obtain ⟨as, r1⟩ := Dp.reads I _ _ _ (h.dp (c _ (by simp))) r
    obtain ⟨bs, r2⟩ := dpA_reads I t (fun d hd => c d (by simp [hd])) rs
    exact ⟨_, .cons r1 r2⟩
theorem minD_mem (x : PyData) : ∀ (xs : List PyData), PySem.W.minD x xs ∈ x :: xs := by
  intro xs
  unfold PySem.W.minD
  induction xs generalizing x with
  | nil => simp
  | cons y xs ih =>
    rw [List.foldl_cons]
    have := ih (if PySem.W.dataLt y x then y else x)
    rcases List.mem_cons.mp this with h | h
    · rw [h]
      by_cases z : PySem.W.dataLt y x = true
      · rw [if_pos z]; simp
      · rw [if_neg z]; simp
    · simp [h]
theorem maxD_mem (x : PyData) : ∀ (xs : List PyData), PySem.W.maxD x xs ∈ x :: xs := by
  intro xs
  unfold PySem.W.maxD
  induction xs generalizing x with
  | nil => simp
  | cons y xs ih =>
    rw [List.foldl_cons]
    have := ih (if PySem.W.dataLt x y then y else x)
    rcases List.mem_cons.mp this with h | h
    · rw [h]
      by_cases z : PySem.W.dataLt x y = true
      · rw [if_pos z]; simp
      · rw [if_neg z]; simp
    · simp [h]
def dMin : PyData → Option PyData
  | .list (x :: xs) => if alk (x :: xs) = true then some (PySem.W.minD x xs) else none
  | _ => none
def dMax : PyData → Option PyData
  | .list (x :: xs) => if alk (x :: xs) = true then some (PySem.W.maxD x xs) else none
  | _ => none
theorem room_alk {A : Around} {ds : List PyData} (hu : A.units + 66 < cLine) (h : alk ds = true) : A.units + 1 + PyData.depthAll ds < cLine := by
  have := depth_all (n := 64) (ds := ds) fun d hd => pl_depth (alk_pl h hd)
  omega
theorem vals_getU : ∀ {xs : List V} {us : List Value} {i : Nat} {u : Value}, Vals xs us → us[i]? = some u → ∃ x, xs[i]? = some x ∧ RelV x u
  | _, _, i, u, .nil, e => by simp at e
  | _, _, 0, u, .cons r t, e => by
    cases e; exact ⟨_, rfl, r⟩
  | _, _, i + 1, u, .cons r t, e => by
    obtain ⟨x, h1, h2⟩ := vals_getU (i := i) (u := u) t (by simpa using e)
    exact ⟨x, by simpa using h1, h2⟩
theorem pick_alk {K : PySem.W.Frag} {X : Cx} {pins : List (Addr × Obj)} {σ : L2.St} {H : Hp} {s : Shared} (I : Inv X pins σ H s) {P : Addr → Prop} {vs : List V} {ds : List PyData} {us : List Value} (t : DqA X.K H P vs ds) (rv : Vals vs us) (c : ∀ d, d ∈ ds → d.plain = true)
    {i : Nat} {v : Value} {d : PyData} {h' : Heap} {bs : List Addr} (hv : us[i]? = some v) (r : Reads h' v d bs) (hd : d.plain = true) (k : ∀ b o, s.heap.get? b = some o → h'.get? b = some o) : ∃ z, RelV z v ∧ Dq X.K H P z d := by
  obtain ⟨z, hz, rz⟩ := vals_getU rv hv
  obtain ⟨d', h1, h2⟩ := t.getV hz
  obtain ⟨as, r1⟩ := Dp.reads I _ _ _ (h2.dp (c _ (List.mem_of_getElem? h1))) rz
  have e := SeqAt.plain_unique d _ _ _ _ hd r (Reads.keeps k r1)
  subst e
  exact ⟨z, rz, h2⟩
theorem opF_min (hc : X.calm = true) (hu : X.A.units + 66 < cLine) : CallR X (.builtin "min") (rC1 X.K dMin) := by
  intro pins s σ H vs us Q I r h
  obtain ⟨P, x, dx, d, ev, tr, rx, e, q⟩ := h
  subst ev
  unfold dMin at e
  split at e
  · rename_i x0 xs
    by_cases hz : alk (x0 :: xs) = true
    · rw [if_pos hz] at e; cases e
      obtain ⟨a, ys, rfl, h, t⟩ := rx.lst
      obtain ⟨its, rv, hl, _⟩ := I.list (SqL.of h)
      rw [Vals.ref1 r]
      have cp : ∀ d, d ∈ x0 :: xs → d.plain = true := fun d hd => pl_plain (alk_pl hz hd)
      obtain ⟨as, ra⟩ := dpA_reads I t cp rv
      refine PySem.W.min_list_data (I.ok.hd hc) hl.isList ra (alk_all hz) (room_alk hu hz) fun i v h' tk bs hv r' k => ?_
      obtain ⟨z, rz, dz⟩ := pick_alk I (K := X.K) t rv cp (by simpa using hv) r' (cp _ (minD_mem x0 xs)) k
      exact ⟨z, H, I.kept (t' := tk) k, rz, q z H (Same.refl H) dz⟩
    · rw [if_neg hz] at e; cases e
  · cases e
theorem opF_max (hc : X.calm = true) (hu : X.A.units + 66 < cLine) : CallR X (.builtin "max") (rC1 X.K dMax) := by
  intro pins s σ H vs us Q I r h
  obtain ⟨P, x, dx, d, ev, tr, rx, e, q⟩ := h
  subst ev
  unfold dMax at e
  split at e
  · rename_i x0 xs
    by_cases hz : alk (x0 :: xs) = true
    · rw [if_pos hz] at e; cases e
      obtain ⟨a, ys, rfl, h, t⟩ := rx.lst
      obtain ⟨its, rv, hl, _⟩ := I.list (SqL.of h)
      rw [Vals.ref1 r]
      have cp : ∀ d, d ∈ x0 :: xs → d.plain = true := fun d hd => pl_plain (alk_pl hz hd)
      obtain ⟨as, ra⟩ := dpA_reads I t cp rv
      refine PySem.W.max_list_data (I.ok.hd hc) hl.isList ra (alk_all hz) (room_alk hu hz) fun i v h' tk bs hv r' k => ?_
      obtain ⟨z, rz, dz⟩ := pick_alk I (K := X.K) t rv cp (by simpa using hv) r' (cp _ (maxD_mem x0 xs)) k
      exact ⟨z, H, I.kept (t' := tk) k, rz, q z H (Same.refl H) dz⟩
    · rw [if_neg hz] at e; cases e
  · cases e
/-! ### t.index(x) of texts -/
def idxS (z : Str) : List Str → Option Nat
  | [] => none
  | y :: ys => if y = z then some 0 else (idxS z ys).map (· + 1)
theorem idxS_at {z : Str} : ∀ {ys : List Str} {j : Nat}, idxS z ys = some j → ys[j]? = some z ∧ ∀ m, m < j → ys[m]? ≠ some z
  | [], _, h => by cases h
  | y :: ys, j, h => by
    unfold idxS at h
    by_cases e : y = z
    · rw [if_pos e] at h; cases h
      exact ⟨by simp [e], fun m hm => by omega⟩
    · rw [if_neg e] at h
      cases er : idxS z ys with
      | none => rw [er] at h; cases h
      | some i =>
        rw [er] at h; cases h
        obtain ⟨h1, h2⟩ := idxS_at er
        refine ⟨by simpa using h1, fun m hm => ?_⟩
        cases m with
        | zero => simpa using e
        | succ m => simpa using h2 m (by simp only at hm; omega)
def dIndexT : PyData → PyData → Option PyData
  | .tuple ds, .str z => (strsD ds).bind fun ys => (idxS z ys).map fun j => .int (j : Nat)
  | _, _ => none
theorem ev_indexT {apos : Pos} (ha : ER X o a fa) (hb : ER X o b fb)
    (hbase : attributeBase a "index" X.env (eval a X.env) = eval a X.env := by rfl)
    (hfew : ((backTo pos (starEach [b] X.env)).all (fun x => !x.1) && (backToKw pos (keywordEach [] X.env)).all (fun x => x.1.isSome)
      && decide (([b] : List Expr).length + ([] : List Keyword).length + (if ([] : List Keyword).isEmpty then 0 else 1) < 30)) = true := by rfl)
    (hline : (apos.endLine == pos.line) = true := by rfl) (hs : starEach [b] X.env = (false, eval b X.env) :: starEach [] X.env := by rfl) (hplain : (backTo pos (starEach [] X.env)).any (·.1) = false := by rfl) :
    EV X o (.Call (.Attribute a "index" apos) [b] [] pos) (e2 fa fb dIndexT) := PE.imp (pe_bmT PySem.F.plainAttrs_tuple PySem.F.slot_tuple_index PySem.F.type_tuple_index mt_tup_index ha (pa_cons hb pa_nil hs) hbase hfew hline hs hplain) fun σ H Q ⟨H0, P0, P, ρ, d, R, e', q⟩ => by
  obtain ⟨x, y, ea, eb, eg⟩ := e2_some e'
  unfold dIndexT at eg
  split at eg
  · rename_i ds z
    cases e3 : strsD ds with
    | none => rw [e3] at eg; cases eg
    | some ys =>
    rw [e3] at eg
    simp only [Option.bind_some] at eg
    cases e4 : idxS z ys with
    | none => rw [e4] at eg; cases eg
    | some j =>
    rw [e4] at eg; cases eg
    obtain ⟨h1, h2⟩ := idxS_at e4
    refine ⟨H0, P0, P, ρ, _, R, ea, fun v H1 s1 r1 => ?_⟩
    cases r1.tupQ with
    | @tup a its vs _ ha hn ts =>
      refine ⟨⟨a, its, vs, rfl, ha⟩, H0, P0, P, ρ, _, R.go s1, eb, fun u H2 s2 r2 => ?_⟩
      have hq : SqT X.K H2 a vs := sqT_fz (s2 _ _ ha)
      rw [strsD_rel ts e3] at hq
      exact ⟨a, ys, z, j, rfl, by rw [r2.str], hq, h1, h2, q _ H2 (s1.trans s2) (.int _)⟩
  · cases eg
/-! ### sorted(xs) of alike data -/
def srt (ds : List PyData) : Bool := alk ds && (ds.all (fun d => match d with | .tuple (_ :: _) => true | _ => false) || ds.all (fun d => match d with | .tuple _ => false | _ => true))
theorem srt_alk {ds : List PyData} (h : srt ds = true) : alk ds = true := (Bool.and_eq_true_iff.mp h).1
theorem srt_sortable {ds : List PyData} (h : srt ds = true) : PySem.W.Sortable ds := by
  have h1 := srt_alk h
  rcases Bool.or_eq_true_iff.mp (Bool.and_eq_true_iff.mp h).2 with h2 | h2
  · refine .inl fun d hd => ?_
    have := List.all_eq_true.mp h2 d hd
    split at this
    · exact ⟨_, _, rfl⟩
    · cases this
  · refine .inr fun d hd => ?_
    have := List.all_eq_true.mp h2 d hd
    have ne := (alk_all h1).2 d hd
    refine ⟨ne, fun xs e => ?_⟩
    subst e
    cases this
def dSorted : PyData → Option (List PyData)
  | .list ds => if srt ds = true then some (ds.mergeSort (PySem.W.dataLe false id)) else none
  | _ => none
theorem each_of {α β : Type} {R : α → β → Prop} : ∀ {as : List α} {bs : List β}, as.length = bs.length → (∀ (i : Nat) (a : α) (b : β), as[i]? = some a → bs[i]? = some b → R a b) → PySem.W.EachIs R as bs
  | [], [], _, _ => .nil
  | [], _ :: _, h, _ => by cases h
  | _ :: _, [], h, _ => by cases h
  | a :: as, b :: bs, h, k => .cons (k 0 a b rfl rfl) (each_of (by simpa using h) fun i x y h1 h2 => k (i + 1) x y (by simpa using h1) (by simpa using h2))
theorem each_dq {K : PySem.W.Frag} {H : Hp} {P : Addr → Prop} : ∀ {us : List Value} {ds : List PyData}, PySem.W.EachIs (fun u d => ∃ z, RelV z u ∧ Dq K H P z d) us ds → ∃ vs, Vals vs us ∧ DqA K H P vs ds
  | _, _, .nil => ⟨[], .nil, .nil⟩
  | _, _, .cons ⟨z, rz, hz⟩ t => by
    obtain ⟨vs, h1, h2⟩ := each_dq t
    exact ⟨z :: vs, .cons rz h1, .cons hz h2⟩
theorem opF_sorted (hu : X.A.units + 66 < cLine) : CallR X (.builtin "sorted") (rC1N X.K dSorted) := by
  intro pins s σ H vs us Q I r h
  obtain ⟨P, x, dx, d, ev, tr, rx, e, q⟩ := h
  subst ev
  unfold dSorted at e
  split at e
  · rename_i ds
    by_cases hz : srt ds = true
    · rw [if_pos hz] at e; cases e
      obtain ⟨a, ys, rfl, h, t⟩ := rx.lst
      obtain ⟨its, rv, hl, hsz⟩ := I.list (SqL.of h)
      rw [Vals.ref1 r]
      have hal := srt_alk hz
      have cp : ∀ d, d ∈ ds → d.plain = true := fun d hd => pl_plain (alk_pl hal hd)
      have el : its.length = ds.length := by rw [← rv.length, t.length]
      have e1 : PySem.W.EachIs (fun u d => ∃ z, RelV z u ∧ Dq X.K H P z d) its ds := each_of el fun i u d hu hd => by
        obtain ⟨z, h1, h2⟩ := vals_getU rv hu
        obtain ⟨d', h3, h4⟩ := t.getV h1
        rw [hd] at h3; cases h3
        exact ⟨z, h2, h4⟩
      have e2 : PySem.W.EachIs (fun u d => ∃ as, Reads s.heap u (id d) as) its ds := each_of el fun i u d hu hd => by
        obtain ⟨z, h1, h2⟩ := vals_getU rv hu
        obtain ⟨d', h3, h4⟩ := t.getV h1
        rw [hd] at h3; cases h3
        exact Dp.reads I _ _ _ (h4.dp (cp d (List.mem_of_getElem? hd))) h2
      refine PySem.W.sorted_data (enc := id) hl.isList e1 e2 (by rw [List.map_id]; exact fun d hd d' hd' => (alk_all hal).1 d hd d' hd') (by rw [List.map_id]; exact srt_sortable hz) (by rw [← t.length]; exact hsz)
        (fun b hb => by have := pl_depth (alk_pl hal hb); show X.A.units + 2 + b.depth < cLine; omega) fun out hlen ho => ?_
      obtain ⟨vs', hv', hd'⟩ := each_dq ho
      obtain ⟨ep, he'⟩ := PyProof.Rows.sortedAll_at s.heap its out.toArray
      have hf : H (s.heap.objs.size + 1) = none := I.hok.fresh (Nat.le_succ _)
      have hlv : vs'.length ≤ sizeLine := by rw [hv'.length, hlen, ← t.length]; exact hsz
      exact ⟨.ref _, upd H (s.heap.objs.size + 1) (.lst vs'), I.laid (t' := s.toks) (fun _ _ => PyProof.Rows.sortedAll_old) (Nat.le_succ _) ⟨hlv, out, ep, hv', he'⟩, rfl, q _ vs' _ (same_upd hf _) hf upd_same (newDq hf hd')⟩
    · rw [if_neg hz] at e; cases e
  · cases e
/-! a, b = a list of two -/
def g2L (i j : Nat) : PyData → Rho → Option Rho := fun d ρ => match d with
  | .list [x, y] => some ((ρ.set i (some x)).set j (some y))
  | _ => none
theorem g2L_some {i j : Nat} {d : PyData} {ρ ρ' : Rho} (h : g2L i j d ρ = some ρ') : ∃ x y, d = .list [x, y] ∧ ρ' = (ρ.set i (some x)).set j (some y) := by
  unfold g2L at h
  split at h
  · cases h; exact ⟨_, _, rfl, rfl⟩
  · cases h
theorem tgl_2 (i j : Nat) {tg : Expr} (h : PG X tg (gLst X.K 2 (gCons (gName i) (gCons (gName j) gNil)))) (hi : i ∉ o := by decide) (hj : j ∉ o := by decide) : TGt X o tg (g2L i j) := PG.imp h fun v σ H Q ⟨H0, P0, P, ρ, d, ρ', R, t, e, q⟩ => by
  obtain ⟨x, y, rfl, rfl⟩ := g2L_some e
  cases t with
  | @lst a vs ds' ha hn ts =>
    have hs : SqL X.K H a vs := SqL.of ha
    cases ts with
    | cons h1 ts =>
      cases ts with
      | cons h2 ts =>
        cases ts
        exact ⟨a, _, rfl, hs, rfl, _, _, rfl, _, [], rfl, rfl, q _ ((R.set hi h1).set hj h2)⟩
@[simp] theorem g2L_ev {i j : Nat} {x y : PyData} {ρ : Rho} : g2L i j (.list [x, y]) ρ = some ((ρ.set i (some x)).set j (some y)) := rfl
theorem hu66 {k : Nat} {A : Around} (hr : Room k A) : A.units + 66 < cLine := by have := hr.un; omega
end
end TF

/-! TFl.lean -/
set_option Elab.async false
set_option linter.all false
set_option maxRecDepth 100000
/-! TF.l: zip of two tuples -/
namespace TF
open PySem PySem.Spec PyProof.Rows L2
/-- the tuples at a and b, the items in new pairs known to the last field -/
def ItzF (K : PySem.W.Frag) (a b : Addr) : It :=
  ⟨fun i H => ∃ (xs ys : List V) (x y : V), SqT K H a xs ∧ SqT K H b ys ∧ xs[i]? = some x ∧ ys[i]? = some y,
    fun i H v H' => ∃ T x y its, v = .ref T ∧ H T = none ∧ H' = upd H T (fz its [x, y]) ∧ (∀ xs, SqT K H a xs → xs[i]? = some x) ∧ ∀ ys, SqT K H b ys → ys[i]? = some y,
    fun i H => ∃ xs ys : List V, SqT K H a xs ∧ SqT K H b ys ∧ (xs.length ≤ i ∨ ys.length ≤ i)⟩
theorem turn_zipF {P : Program} {w : World} {K : PySem.W.Frag} {elts : List Expr} {kk : Nat} {tpos : Pos} {a b z TI TO i1 i2 : Addr} (D : ZipApart z TI TO i1 i2 a b) :
    Turn P w K (.Tuple elts kk tpos) (ItzF K a b) [z, TI, TO, i1, i2] z (fun i h => IsZip h z TI TO .none ∧ IsPair h TI (.ref i1) (.ref i2) ∧ (∃ x y, IsPair h TO x y) ∧ h.IsTupleIter i1 a i ∧ h.IsTupleIter i2 b i) where
  mem := by simp
  obj := fun i h st c hc => by
    obtain ⟨hz, hTI, ⟨x, y, hTO⟩, ⟨o1, e1, _, d1⟩, ⟨o2, e2, _, d2⟩⟩ := st
    have e' : c = z ∨ c = TI ∨ c = TO ∨ c = i1 ∨ c = i2 := by simpa using hc
    rcases e' with q | q | q | q | q
    · rw [q]; exact ⟨_, hz, fun v q => nomatch q⟩
    · rw [q]; exact ⟨_, hTI, fun v q => nomatch q⟩
    · rw [q]; exact ⟨_, hTO, fun v q => nomatch q⟩
    · rw [q]; exact ⟨o1, e1, fun v q => by rw [d1] at q; cases q⟩
    · rw [q]; exact ⟨o2, e2, fun v q => by rw [d2] at q; cases q⟩
  keep := fun i h h' st k => by
    obtain ⟨hz, hTI, ⟨x, y, hTO⟩, h1, h2⟩ := st
    exact ⟨k z (by simp) _ hz, k TI (by simp) _ hTI, ⟨x, y, k TO (by simp) _ hTO⟩, h1.at fun o q => k i1 (by simp) o q, h2.at fun o q => k i2 (by simp) o q⟩
  item := by
    intro X hP hw hK hc i pins s σ H E I hf st hg
    subst hP hw hK
    obtain ⟨hz, hTI, ⟨x0, y0, hTO⟩, h1, h2⟩ := st
    obtain ⟨xs, ys, x, y, hqx, hqy, hx, hy⟩ := hg
    obtain ⟨its, rv, p, _⟩ := I.tuple hqx
    obtain ⟨its2, rv2, p2, _⟩ := I.tuple hqy
    obtain ⟨u, hu, ru⟩ := rv.get hx
    obtain ⟨u2, hu2, ru2⟩ := rv2.get hy
    have hzl : z < s.heap.objs.size := Heap.lt_size hz
    refine RZ.pyNext_zipT_item D hz hTI hTO h1 h2 p p2 (x := u) (y := u2) (by simpa using hu) (by simpa using hu2) fun h' z' TO' h1' h2' hT hsz hk => ?_
    refine ⟨_, rfl, wpAny_letOwnedTupleGo_zip (s := { s with heap := h' }) z' fun h'' z'' sb => ?_⟩
    have hT2 : h''.get? s.heap.objs.size = some { cls := .type "tuple", data := .seq #[u, u2] } := (sb.2 _ (Nat.ne_of_gt hzl)).trans hT
    have new : ObjOk X.prog X.w (upd H s.heap.objs.size (fz [u, u2] [x, y])) h'' s.heap.objs.size (fz [u, u2] [x, y]) :=
      fz_ok (.cons ru (.cons ru2 .nil)) (by show 2 ≤ sizeLine; decide) hT2
    have I1 : Inv X pins σ (upd H s.heap.objs.size (fz [u, u2] [x, y])) { s with heap := h'' } :=
      I.turnedNew (t' := s.toks) (ch := [z, TI, TO, i1, i2]) (fun c o hb q => (sb.2 c (fun q' => hb (by simp [q']))).trans (hk c o (fun q' => hb (by simp [q'])) (fun q' => hb (by simp [q'])) (fun q' => hb (by simp [q'])) (fun q' => hb (by simp [q'])) q)) hf (Nat.le_refl _) new
    refine ⟨.ref s.heap.objs.size, _, I1, rfl, ⟨_, x, y, _, rfl, I.hok.fresh (Nat.le_refl _), rfl, fun l hl => by rw [I.tuple_inj hl hqx]; exact hx, fun l hl => by rw [I.tuple_inj hl hqy]; exact hy⟩, ⟨z'', ?_, ⟨u, u2, ?_⟩, ?_, ?_⟩, fun c hcm => ?_⟩
    · exact (sb.2 _ D.TIz).trans (hk _ _ D.TIz D.TITO D.TIi1 D.TIi2 hTI)
    · exact (sb.2 _ D.TOz).trans TO'
    · exact h1'.at fun o q => (sb.2 _ D.i1z).trans q
    · exact h2'.at fun o q => (sb.2 _ D.i2z).trans q
    · have hlt : c < s.heap.objs.size := by
        have e' : c = z ∨ c = TI ∨ c = TO ∨ c = i1 ∨ c = i2 := by simpa using hcm
        rcases e' with q | q | q | q | q
        · rw [q]; exact hzl
        · rw [q]; exact Heap.lt_size hTI
        · rw [q]; exact Heap.lt_size hTO
        · rw [q]; obtain ⟨_, e1, _⟩ := h1; exact Heap.lt_size e1
        · rw [q]; obtain ⟨_, e2, _⟩ := h2; exact Heap.lt_size e2
      rw [upd_ne (Nat.ne_of_lt hlt)]
      exact (hf c hcm).1
  done := by
    intro X hP hw hK hc i pins s σ H E I hf st hg
    subst hP hw hK
    obtain ⟨hz, hTI, ⟨x0, y0, hTO⟩, h1, h2⟩ := st
    obtain ⟨xs, ys, hqx, hqy, hend⟩ := hg
    obtain ⟨its, rv, p, _⟩ := I.tuple hqx
    obtain ⟨its2, rv2, p2, _⟩ := I.tuple hqy
    have l1 := rv.length
    have l2 := rv2.length
    have he : its.toArray[i]? = none ∨ its2.toArray[i]? = none := by
      rcases hend with q | q
      · exact .inl (by simp; omega)
      · exact .inr (by simp; omega)
    exact RZ.pyNext_zipT_end (I.ok.hd hc) D hz hTI hTO h1 h2 p p2 he fun h' hk => ⟨rfl, I.turnedL (t' := s.toks) (ch := [z, TI, TO, i1, i2]) (fun c o hb q =>
      hk c o (fun q' => hb (by simp [q'])) (fun q' => hb (by simp [q'])) (fun q' => hb (by simp [q'])) (fun q' => hb (by simp [q'])) q) hf⟩
  self := fun A i s Q E st h => wpAny_pyIter_zip st.1 h
def iZipF (K : PySem.W.Frag) (ta : TA) : TI := fun σ H R => ta σ H fun vs H1 => ∃ a b xs ys, vs = [.ref a, .ref b] ∧ SqT K H1 a xs ∧ SqT K H1 b ys ∧ R (ItzF K a b) H1
theorem pi_zipF {X : Cx} {e e2 : Expr} {ta : TA} {p pos tpos : Pos} {elts : List Expr} {kk : Nat} (hg : Gl X "zip") (hm : X.mg "zip" = none) (ha : PA X [e, e2] ta)
    (hs : starEach [e, e2] X.env = (false, eval e X.env) :: starEach [e2] X.env := by rfl) (hpl : (backTo pos (starEach [e2] X.env)).any (·.1) = false := by rfl) :
    PI X (.Tuple elts kk tpos) (.Call (.Name "zip" p) [e, e2] [] pos) (iZipF X.K ta) := by
  refine ⟨fun pins s σ H R I h => ?_⟩
  refine Call_ (ld_blt I hg hm PyProof.Rows.boot_zip (PyProof.Rows.callWith_type1 (thn (ha.run pos pins s σ H _ I h) fun us s1 ⟨vs, H1, I1, r1, q1⟩ => ?_) hs hpl))
  obtain ⟨a, b, xs, ys, ex, hqx, hqy, q⟩ := q1
  subst ex
  obtain ⟨u1, u2, rfl, r, r'⟩ := Vals.two r1
  cases r
  cases r'
  obtain ⟨its, rv, p1, _⟩ := I1.tuple hqx
  obtain ⟨its2, rv2, p2, _⟩ := I1.tuple hqy
  obtain ⟨o1, ho1, _⟩ := id p1
  obtain ⟨o2, ho2, _⟩ := id p2
  refine RZ.call_zipT (show s1.heap.IsTuple a its.toArray from p1) (show s1.heap.IsTuple b its2.toArray from p2) fun h' hz hTI hTO h1 h2 hsz hk => wpAny_pyIter_zip hz ?_
  refine ⟨s1.heap.objs.size + 4, [s1.heap.objs.size + 4, s1.heap.objs.size + 2, s1.heap.objs.size + 3, s1.heap.objs.size, s1.heap.objs.size + 1], _, _, H1, rfl, I1.kept (t' := s1.toks) hk, turn_zipF (PySem.W.ktu_apart s1.heap.objs.size a b (Heap.lt_size ho1) (Heap.lt_size ho2)), ⟨hz, hTI, ⟨_, _, hTO⟩, h1, h2⟩, fun c hcm => ?_, q⟩
  have hle : s1.heap.objs.size ≤ c := by
    have e' : c = s1.heap.objs.size + 4 ∨ c = s1.heap.objs.size + 2 ∨ c = s1.heap.objs.size + 3 ∨ c = s1.heap.objs.size ∨ c = s1.heap.objs.size + 1 := by simpa using hcm
    rcases e' with z | z | z | z | z
    · rw [z]; exact Nat.le_add_right _ _
    · rw [z]; exact Nat.le_add_right _ _
    · rw [z]; exact Nat.le_add_right _ _
    · rw [z]; exact Nat.le_refl _
    · rw [z]; exact Nat.le_add_right _ _
  exact I1.fpOk hle (I1.hok.fresh hle)
section
variable {X : Cx} {o : List Nat} {e a b : Expr} {f fa fb : Rho → Option PyData} {pos : Pos}
/-! ### zip -/
def zipD : List PyData → List PyData → List PyData
  | x :: xs, y :: ys => .tuple [x, y] :: zipD xs ys
  | _, _ => []
theorem zipD_length : ∀ (xs ys : List PyData), (zipD xs ys).length = min xs.length ys.length
  | [], ys => by simp [zipD]
  | x :: xs, [] => by simp [zipD]
  | x :: xs, y :: ys => by simp only [zipD, List.length_cons, zipD_length xs ys]; omega
theorem zipD_get : ∀ (xs ys : List PyData) (i : Nat) (x y : PyData), xs[i]? = some x → ys[i]? = some y → (zipD xs ys)[i]? = some (.tuple [x, y])
  | [], ys, i, x, y, h, _ => by simp at h
  | x' :: xs, [], i, x, y, _, h => by simp at h
  | x' :: xs, y' :: ys, 0, x, y, h, h' => by cases h; cases h'; rfl
  | x' :: xs, y' :: ys, i + 1, x, y, h, h' => by
    have := zipD_get xs ys i x y (by simpa using h) (by simpa using h')
    simpa [zipD] using this
def dZip : PyData → PyData → Option (List PyData)
  | .tuple xs, .tuple ys => some (zipD xs ys)
  | _, _ => none
def AtT (K : PySem.W.Frag) (H1 : Hp) (P : Addr → Prop) (a : Addr) (vs : List V) : Prop := ∀ H P', Lt H1 P H P' → SqT K H a vs
theorem wk_zipT {K : PySem.W.Frag} {ds es : List PyData} {a b : Addr} {vs ws : List V} {H1 : Hp} {P : Addr → Prop} (ha : AtT K H1 P a vs) (hb : AtT K H1 P b ws) (ts : DqA K H1 P vs ds) (us : DqA K H1 P ws es) : Wk K (zipD ds es) (ItzF K a b) H1 P := by
  refine ⟨fun H P i l hi => ?_, fun H P l => ?_, fun H P i x H' l tr hi y => ?_⟩
  · rw [zipD_length] at hi
    have hi' : i < vs.length := by rw [ts.length]; omega
    have hi2 : i < ws.length := by rw [us.length]; omega
    exact ⟨vs, ws, vs[i], ws[i], ha _ _ l, hb _ _ l, by simp [hi'], by simp [hi2]⟩
  · refine ⟨vs, ws, ha _ _ l, hb _ _ l, ?_⟩
    rw [ts.length, us.length, zipD_length]; omega
  · obtain ⟨T, x, y', its, rfl, hT, rfl, y1, y2⟩ := y
    obtain ⟨d, h1, h2⟩ := (ts.mono l).getV (y1 vs (ha _ _ l))
    obtain ⟨d', h1', h2'⟩ := (us.mono l).getV (y2 ws (hb _ _ l))
    have s := same_upd hT (fz its [x, y'])
    exact ⟨s, _, zipD_get ds es i d d' h1 h1', .tup upd_same (fun z => by obtain ⟨u, hu⟩ := tr _ z; rw [hT] at hu; cases hu) (.cons (h2.same s) (.cons (h2'.same s) .nil))⟩
theorem Dq.atT {K : PySem.W.Frag} {H : Hp} {P : Addr → Prop} {v : V} {ds : List PyData} (t : Dq K H P v (.tuple ds)) : ∃ a vs, v = .ref a ∧ AtT K H P a vs ∧ DqA K H P vs ds := by
  cases t with
  | @tup a its vs ds' ha hn ts => exact ⟨a, vs, rfl, fun H' P' l => sqT_fz (l _ _ ha hn).1, ts⟩
theorem lt_refl' {H : Hp} {P : Addr → Prop} : Lt H P H P := fun a u h n => ⟨h, n⟩
theorem wi_zip {p tpos : Pos} {elts : List Expr} {kk : Nat} (hm : X.mg "zip" = none) (ha : EV X o a fa) (hb : EV X o b fb) (hg : Gl X "zip" := by rfl)
    (hs : starEach [a, b] X.env = (false, eval a X.env) :: starEach [b] X.env := by rfl) (hs2 : starEach [b] X.env = (false, eval b X.env) :: starEach [] X.env := by rfl) (hpl : (backTo pos (starEach [b] X.env)).any (·.1) = false := by rfl) :
    WI X o (.Tuple elts kk tpos) (.Call (.Name "zip" p) [a, b] [] pos) (e2 fa fb dZip) := PI.imp (PI.szd (pi_zipF hg hm (pa_cons ha (pa_cons hb pa_nil hs2) hs) hs hpl)) fun σ H R ⟨H0, P0, P, ρ, ds, Re, e', q⟩ => by
  obtain ⟨x, y, ea, eb, eg⟩ := e2_some e'
  refine ⟨H0, P0, P, ρ, _, Re, ea, fun v H1 s1 t1 => ⟨H0, P0, P, ρ, _, Re.go s1, eb, fun u H2 s2 t2 => ?_⟩⟩
  have t1 := t1.same s2
  unfold dZip at eg
  split at eg
  · cases eg
    obtain ⟨a, vs, rfl, ha, ts⟩ := t1.atT
    obtain ⟨b, ws, rfl, hb, us⟩ := t2.atT
    refine ⟨a, b, vs, ws, rfl, ha _ _ lt_refl', hb _ _ lt_refl', fun hz => q _ _ (s1.trans s2) (wk_zipT ha hb ts us) ?_⟩
    have := hz.2 _ _ (ha _ _ lt_refl')
    rw [zipD_length, ← ts.length]; omega
  · cases eg
@[simp] theorem dZip_ev {ds es : List PyData} : dZip (.tuple ds) (.tuple es) = some (zipD ds es) := rfl
end
end TF

/-! TFm.lean -/
set_option Elab.async false
set_option linter.all false
set_option maxRecDepth 100000
/-! TF.m: t[::-1] -/
namespace TF
open PySem PySem.Spec PyProof.Rows L2
section
variable {prog : Program} {w : World} {A : Around} {E : Value → Shared → Prop} {s : Shared}
theorem back_places (n : Nat) : Builtin.Slice.sliceAdjust none none (-1) (n : Int) = ((n : Int) - 1, -1) := by
  unfold Builtin.Slice.sliceAdjust
  simp
theorem back_count (n : Nat) : Builtin.Slice.slicePlaces ((n : Int) - 1) (-1) (-1) = n := by
  unfold Builtin.Slice.slicePlaces
  have h1 : ¬ ((-1 : Int) > 0) := by omega
  simp only [h1, if_false]
  split <;> (try simp) <;> omega
theorem sliceApplied_back {sl : Addr} {u : Tok} {n : Nat} {Q : Int × Int × Nat → Shared → Prop} (hs : s.heap.IsSliceOf sl .none .none (.int (-1) u))
    (h : Q ((n : Int) - 1, -1, n) s) : wpAny (model prog w) A (Builtin.Slice.sliceApplied (.ref sl) (pure (n : Int))) Q E s := by
  obtain ⟨os, hos, hcs, hds⟩ := id hs
  unfold Builtin.Slice.sliceApplied Builtin.Slice.sliceFields
  refine wpAny_bind (wpAny_bind (wpAny_field hos hds (x := .none) rfl (wpAny_bind (wpAny_field hos hds (x := .none) rfl (wpAny_bind (wpAny_field hos hds (x := .int (-1) u) rfl (wpAny_pure ?_)))))))
  refine wpAny_bind (HT.slicePart_ (.int (-1) u) ?_)
  show wpAny _ _ (if ((-1 : Int) == 0) = true then _ else _) _ _ s
  rw [if_neg (by decide)]
  refine wpAny_bind (HT.slicePart_ .none (wpAny_bind (HT.slicePart_ .none (wpAny_bind (wpAny_pure ?_)))))
  show wpAny _ _ (match Builtin.Slice.sliceAdjust none none (-1) (n : Int) with | (lo, hi) => pure (lo, (-1 : Int), Builtin.Slice.slicePlaces lo hi (-1))) _ _ s
  rw [back_places n]
  show wpAny _ _ (pure ((n : Int) - 1, (-1 : Int), Builtin.Slice.slicePlaces ((n : Int) - 1) (-1) (-1))) _ _ s
  rw [back_count]
  exact wpAny_pure h
theorem fm_congr {α β : Type} {f g : α → Option β} : ∀ (l : List α), (∀ x ∈ l, f x = g x) → l.filterMap f = l.filterMap g
  | [], _ => rfl
  | x :: l, h => by
    have e := h x (by simp)
    have t := fm_congr l fun y hy => h y (by simp [hy])
    rw [List.filterMap_cons, List.filterMap_cons, e, t]
theorem pick_back (xs : Array Value) : ((List.range xs.size).filterMap fun (m : Nat) => xs[(((xs.size : Int) - 1) + (m : Int) * (-1)).toNat]?) = xs.toList.reverse := by
  have h := PySem.W.krv_all xs
  have e : ((List.range xs.size).filterMap fun (m : Nat) => xs[(((xs.size : Int) - 1) + (m : Int) * (-1)).toNat]?) = ((List.range xs.size).map fun k => xs.size - 1 - k).filterMap (xs[·]?) := by
    rw [List.filterMap_map]
    refine fm_congr _ fun m hm => ?_
    have := List.mem_range.mp hm
    show xs[(((xs.size : Int) - 1) + (m : Int) * (-1)).toNat]? = xs[xs.size - 1 - m]?
    congr 1
    omega
  rw [e, PySem.W.krv_range, List.filterMap_reverse, h]
theorem getItem_tuple_back {t sl : Addr} {items : Array Value} {u : Tok} {Q : Value → Shared → Prop} (ht : IsTup s.heap t items) (hs : s.heap.IsSliceOf sl .none .none (.int (-1) u))
    (h : Q (.ref s.heap.objs.size) { s with heap := s.heap.push { cls := .type "tuple", data := .seq items.toList.reverse.toArray } }) (hsz : items.size ≤ sizeLine) : wpAny (model prog w) A (getItem (.ref t) (.ref sl)) Q E s := by
  have hok : sizeOk (.seq items.toList.reverse.toArray) := by
    show items.toList.reverse.toArray.size ≤ sizeLine
    rw [List.size_toArray, List.length_reverse, Array.length_toList]; exact hsz
  obtain ⟨os, hos, hcs, hds⟩ := id hs
  have hTs : s.TypeIs (.ref sl) "slice" := ⟨os, hos, hcs⟩
  unfold getItem
  try with_reducible refine wpAny_holding ?_
  first | refine wpAny_bind (wpAny_pure ?_) | skip
  refine wpAny_bind (wpAny_sequenceKey ht.typeIs (by decide) ?_)
  refine wpAny_bind (wpAny_callSpecial?_slot (name := Str.ofString "__getitem__") ht.typeIs PyProof.Rows.slot_tuple_getitem
    (wpAny_call_entry PyProof.Rows.slot_tuple_getitem ht.typeIs entry_tuple_getitem ?_ (args_tuple_getitem _ _)))
  show wpAny _ _ (Builtin.Tuple.tupleItemsOf (.ref t) >>= _) _ _ s
  refine wpAny_bind (tupleItemsOf_ ht ?_)
  refine wpAny_bind (wpAny_typeOf hTs ?_)
  rw [if_pos (by decide)]
  refine wpAny_bind (sliceApplied_back hs ?_)
  have hno : ¬ ((((items.size : Int) - 1) == 0 && (-1 : Int) == 1 && items.size == items.size) = true) := by
    intro q
    rw [Bool.and_eq_true, Bool.and_eq_true] at q
    exact absurd q.1.2 (by decide)
  show wpAny _ _ (if (((items.size : Int) - 1) == 0 && (-1 : Int) == 1 && items.size == items.size) = true then _ else _) _ _ s
  rw [if_neg hno, pick_back]
  first
    | exact wpAny_bind (m := Builtin.Tuple.tupleExact _) (wpAny_newObj_type (wpAny_pure ⟨_, rfl, wpAny_pure h⟩) hok)
    | exact wpAny_bind (m := Builtin.Tuple.tupleExact _) (wpAny_newObj_type (wpAny_bind (wpAny_pure (wpAny_pure ⟨_, rfl, wpAny_pure h⟩))) hok)
    | exact wpAny_bind (wpAny_bind (m := Builtin.Tuple.tupleExact _) (wpAny_newObj_type (wpAny_pure (wpAny_pure ⟨_, rfl, wpAny_pure h⟩)) hok))
    | exact wpAny_bind (wpAny_bind (m := Builtin.Tuple.tupleExact _) (wpAny_newObj_type (wpAny_pure ⟨_, rfl, wpAny_pure h⟩) hok))
end
section
variable {X : Cx} {o : List Nat} {e : Expr} {f : Rho → Option PyData} {pos : Pos}
def tRevT (K : PySem.W.Frag) (te : TE) : TE := fun σ H Q => te σ H fun x H1 => ∃ a xs, x = .ref a ∧ SqT K H1 a xs ∧ ∀ p its, H1 p = none → Q (.ref p) (upd H1 p (fz its xs.reverse))
theorem pe_revT {te : TE} {k : Nat} {p1 p2 p3 : Pos} (he : PE X e te) : PE X (.Subscript e (.Slice none none (some (.UnaryOp .USub (.Constant (.int 1) k p1) p2)) p3) pos) (tRevT X.K te) := by
  refine ⟨fun pins s σ H Q I h => ?_⟩
  refine Subscript_ (thn (he.run pins s σ H _ I h) fun v s1 ⟨x, H1, I1, r1, q1⟩ => ?_)
  obtain ⟨a, xs, ex, hx, q⟩ := q1
  subst ex
  cases r1
  have hst : PO X (some (.UnaryOp .USub (.Constant (.int 1) k p1) p2)) (tPart (tUn (rU fun i => .int (-i)) (tC (.int 1)))) := po_some (pe_un un_neg pe_int)
  refine wpAny_Slice (thn (po_none.run pins s1 σ H1 (fun o H2 => o = none ∧ H2 = H1) I1 ⟨rfl, rfl⟩) fun vl s2 ⟨l, H2, I2, pl, el, e2⟩ => ?_)
  subst el e2
  refine thn (po_none.run pins s2 σ H2 (fun o H3 => o = none ∧ H3 = H2) I2 ⟨rfl, rfl⟩) fun vu s3 ⟨u, H3, I3, pu, eu, e3⟩ => ?_
  subst eu e3
  refine thn (hst.run pins s3 σ H3 (fun o H4 => o = some (-1) ∧ H4 = H3) I3 ⟨1, rfl, -1, rfl, rfl, rfl⟩) fun vs s4 ⟨o, H4, I4, ps, eo, e4⟩ => ?_
  subst eo e4
  cases pl
  cases pu
  obtain ⟨tk, rfl⟩ : ∃ tk, vs = .int (-1) tk := by
    cases ps with
    | int _ t => exact ⟨t, rfl⟩
  have I5 : Inv X pins σ H4 { s4 with heap := s4.heap.push { cls := .type "slice", data := .fields #[.none, .none, .int (-1) tk] } } := I4.kept (t' := s4.toks) fun b ob q => Heap.get?_push_of_some _ q
  obtain ⟨its, r, ht, hz⟩ := I5.tuple hx
  have hlen := r.length
  show wpAny (model X.prog X.w) X.A (subscriptTail e (.Slice none none (some (.UnaryOp .USub (.Constant (.int 1) k p1) p2)) p3) (.ref a) (.ref s4.heap.objs.size)) (EP X pins σ Q) X.xe { s4 with heap := s4.heap.push { cls := .type "slice", data := .fields #[.none, .none, .int (-1) tk] } }
  refine tail_any (ops := [.ref a, .ref s4.heap.objs.size]) ht.typeIs (PyProof.Rows.slot_tuple_getitem.lookup) ?_ (by with_unfolding_all rfl)
  refine getItem_tuple_back ht (Heap.IsSliceOf.new _ .none .none (.int (-1) tk)) ?_ (by rw [List.size_toArray]; omega)
  exact ⟨.ref _, _, I5.laid (t' := s4.toks) (fun b ob q => Heap.get?_push_of_some _ q) (Nat.le_refl _) (fz_ok r.reverse (by rw [List.length_reverse]; exact hz) (Heap.get?_push_size _ rfl)), rfl, q _ _ (I5.hok.fresh (Nat.le_refl _))⟩
def dRev : PyData → Option PyData
  | .tuple ds => some (.tuple ds.reverse)
  | _ => none
theorem ev_rev {k : Nat} {p1 p2 p3 : Pos} (h : ER X o e f) : EV X o (.Subscript e (.Slice none none (some (.UnaryOp .USub (.Constant (.int 1) k p1) p2)) p3) pos) (e1 f dRev) := PE.imp (pe_revT h) fun σ H Q ⟨H0, P0, P, ρ, d, R, e', q⟩ => by
  obtain ⟨x, ef, eg⟩ := e1_some e'
  unfold dRev at eg
  split at eg
  · cases eg
    refine ⟨H0, P0, P, ρ, _, R, ef, fun v H1 s1 r1 => ?_⟩
    obtain ⟨a, xs, rfl, h, t⟩ := r1.tup
    exact ⟨a, xs, rfl, h, fun p its hp => q _ _ (s1.trans (same_upd hp _)) (.tup upd_same ((R.go s1).newP hp) (t.reverse.same (same_upd hp _)))⟩
  · cases eg
@[simp] theorem dRev_ev {ds : List PyData} : dRev (.tuple ds) = some (.tuple ds.reverse) := rfl
end
end TF

/-! TFn.lean -/
set_option Elab.async false
set_option linter.all false
set_option maxRecDepth 100000
/-! TF.n: sorted of tuples, too -/
namespace TF
open PySem PySem.Spec PyProof.Rows L2
section
variable {prog : Program} {w : World} {A : Around} {E : Value → Shared → Prop} {s : Shared}
theorem collect_tup {l : Addr} {vs : List Value} {Q : List Value → Shared → Prop} (hl : IsTup s.heap l vs.toArray)
    (h : Q vs { s with heap := (s.heap.push (seqObj "list" #[] 0)).update s.heap.objs.size (Obj.mapSeq (· ++ vs.toArray)) }) (hsz : vs.length ≤ sizeLine) :
    wpAny (model prog w) A (collect (.ref l)) Q E s := by
  obtain ⟨o, ho, hc, n, hd⟩ := id hl
  unfold collect
  refine wpAny_bind (wpAny_runValue (codeAny_builtin entry_proto_collect' ?_))
  show wpAny _ _ (do again (.builtin "list.__iadd__" ⟨[← newList [], .ref l], []⟩)) _ _ s
  refine wpAny_bind (wpAny_newList (wpAny_pure ⟨Code.quiet_builtin _ (by decide +kernel), codeAny_builtin entry_list_iadd' ?_⟩))
  show wpAny _ _ (Builtin.List.listExtendWith (.ref s.heap.objs.size) (.ref l) (.ref s.heap.objs.size)) _ _ { s with heap := s.heap.push (seqObj "list" #[] 0) }
  unfold Builtin.List.listExtendWith
  have ho' : (s.heap.push (seqObj "list" #[] 0)).get? l = some o := Heap.get?_push_of_some _ ho
  refine wpAny_bind (wpAny_typeOf (T := "tuple") ⟨o, ho', hc⟩ ?_)
  have ht : (Value.type "tuple" == Value.type "tuple") = true := by rfl
  rw [if_pos (by rw [ht]; simp)]
  refine wpAny_bind (listItems_at ho' hd ?_)
  refine wpAny_bind (listItems_at (xs := #[]) (n := 0) (Heap.get?_push_size _ rfl) rfl ?_)
  rw [if_neg (by simp)]
  refine wpAny_bind (listUpdate_at (xs := #[]) (n := 0) (Heap.get?_push_size _ rfl) rfl ?_ (Nat.zero_le _) (by show (#[] ++ vs.toArray).size ≤ sizeLine + 1; simp only [Array.size_append, List.size_toArray, List.length_nil]; omega))
  refine wpAny_pure ?_
  show wpAny (model prog w) A (do
      let o ← load s.heap.objs.size
      match o.data with
      | .seq xs _ => pure xs.toList
      | _ => unsupported "internal:collect") Q E { s with heap := (s.heap.push (seqObj "list" #[] 0)).update s.heap.objs.size (Obj.mapSeq (· ++ vs.toArray)) }
  refine wpAny_bind (wpAny_load (get?_update_seq (Heap.get?_push_size _ rfl) _) ?_)
  show wpAny _ _ (pure ((#[] : Array Value) ++ vs.toArray).toList) Q E _
  rw [show ((#[] : Array Value) ++ vs.toArray).toList = vs by simp]
  exact wpAny_pure h
theorem size_push'' (h : Heap) (o : Obj) : (h.push o).objs.size = h.objs.size + 1 := Heap.size_push ..
theorem sorted_tup_of {l : Addr} {vs : List Value} {kw : List (Str × Value)} {Q : Value → Shared → Prop} (hl : IsTup s.heap l vs.toArray) (hL : vs.length ≤ sizeLine) (ha1 : argsOk "sorted" ⟨[.ref l], kw⟩) (ha2 : ∀ x, argsOk "list.sort" ⟨[.ref x], kw⟩)
    (body : ∀ E' : Value → Shared → Prop, wpAny (model prog w) A.in1.in1 (Builtin.«list.sort» ⟨[.ref (s.heap.objs.size + 1)], kw⟩) (fun f s' => f = .done (.ret .none) ∧ Q (.ref (s.heap.objs.size + 1)) s') E' { s with heap := PySem.W.copyHeap s.heap vs }) :
    wpAny (model prog w) A (call (.builtin "sorted") [.ref l] kw) Q E s := by
  refine call_function_entry_kw kind_sorted plain_sorted entry_sorted ha1 ?_
  unfold Builtin.«sorted»
  refine wpAny_bind (m := checkCount "sorted" 1 1 _) (wpAny_pure ?_)
  refine wpAny_bind (collect_tup hl ?_ hL)
  refine wpAny_bind (wpAny_newList ?_ hL)
  have hsz : ((s.heap.push (seqObj "list" #[] 0)).update s.heap.objs.size (Obj.mapSeq (· ++ vs.toArray))).objs.size = s.heap.objs.size + 1 := by
    rw [Heap.size_update, size_push'']
  show wpAny _ _ _ _ _ { s with heap := PySem.W.copyHeap s.heap vs }
  rw [hsz]
  refine wpAny_bind (wpAny_holding (wpAny_call_entry_kw slot_list_sort ⟨_, PySem.W.copyHeap_at s.heap vs, rfl⟩ entry_list_sort ?body (ha2 _)))
  case body =>
    show wpAny (model prog w) A.in1.in1 (Builtin.«list.sort» ⟨[.ref (s.heap.objs.size + 1)], kw⟩) _ _ _
    refine wpAny_mono (body _) (fun f s' hf => ?_) fun _ _ e => e
    obtain ⟨rfl, hq⟩ := hf
    exact ⟨_, rfl, wpAny_pure ⟨_, rfl, hq⟩⟩
theorem sorted_tup_data {prog : Program} {w : World} {A : Around} {E : Value → Shared → Prop} {s : Shared} {β : Type} {R : Value → β → Prop} {enc : β → PyData} {vs : List Value} {bs : List β} {l : Addr} {Q : Value → Shared → Prop} (hl : IsTup s.heap l vs.toArray) (e : PySem.W.EachIs R vs bs) (er : PySem.W.EachIs (fun v b => ∃ as, Reads s.heap v (enc b) as) vs bs) (hal : PySem.W.AllAlike (bs.map enc)) (hk : PySem.W.Sortable (bs.map enc)) (hL : bs.length ≤ sizeLine)
    (hu : ∀ b, b ∈ bs → A.units + 2 + (enc b).depth < cLine) (h : ∀ out, out.length = bs.length → PySem.W.EachIs R out (bs.mergeSort (PySem.W.dataLe false enc)) → Q (.ref (s.heap.objs.size + 1)) { s with heap := sortedAll s.heap vs (List.toArray out) }) :
    wpAny (model prog w) A (call (.builtin "sorted") [.ref l]) Q E s := by
  have er' : PySem.W.EachIs (fun v b => ∃ as, Reads (PySem.W.sortingHeap (PySem.W.copyHeap s.heap vs) (s.heap.objs.size + 1) vs) v (enc b) as) vs bs := er.mono fun _ _ ⟨as, r⟩ => ⟨as, PyProof.Rows.Reads.keeps (fun _ _ => PySem.W.sorting_copy_old) r⟩
  have S := PySem.W.SortsAt.data (prog := prog) (w := w) (A := A.in1.in1) (s := { s with heap := PySem.W.sortingHeap (PySem.W.copyHeap s.heap vs) (s.heap.objs.size + 1) vs }) (PySem.W.each_map (R := fun v d => ∃ as, Reads (PySem.W.sortingHeap (PySem.W.copyHeap s.heap vs) (s.heap.objs.size + 1) vs) v d as) enc er') hal hk (PySem.W.bound_map hu)
  have hLv : vs.length ≤ sizeLine := by rw [e.length]; exact hL
  refine sorted_tup_of hl hLv (args_sorted1 _) (fun _ => args_list_sort _) fun _ => ?_
  refine PySem.W.list_sort_vals (s := { s with heap := PySem.W.copyHeap s.heap vs }) (PySem.W.copyHeap_at s.heap vs) S hLv ⟨rfl, ?_⟩
  exact h _ (by rw [PySem.W.sortVals_length false rfl]; exact e.length) (PySem.W.sortVals_data false e er' hal)
end
section
variable {X : Cx}
def dSortedA : PyData → Option (List PyData)
  | .list ds => if srt ds = true then some (ds.mergeSort (PySem.W.dataLe false id)) else none
  | .tuple ds => if srt ds = true then some (ds.mergeSort (PySem.W.dataLe false id)) else none
  | _ => none
theorem opF_sortedT (hu : X.A.units + 66 < cLine) : CallR X (.builtin "sorted") (rC1N X.K dSortedA) := by
  intro pins s σ H vs us Q I r h
  obtain ⟨P, x, dx, d, ev, tr, rx, e, q⟩ := h
  subst ev
  have fin : ∀ {ds : List PyData} {ys : List V} {its : List Value} {a : Addr}, srt ds = true → x = .ref a → d = ds.mergeSort (PySem.W.dataLe false id) → DqA X.K H P ys ds → Vals ys its → ys.length ≤ sizeLine → IsTup s.heap a its.toArray → wpAny (model X.prog X.w) X.A (call (.builtin "sorted") us) (EP X pins σ Q) X.xe s := by
    intro ds ys its a hz ex ed t rv hsz hl
    subst ex ed
    rw [Vals.ref1 r]
    have hal := srt_alk hz
    have cp : ∀ d, d ∈ ds → d.plain = true := fun d hd => pl_plain (alk_pl hal hd)
    have el : its.length = ds.length := by rw [← rv.length, t.length]
    have e1 : PySem.W.EachIs (fun u d => ∃ z, RelV z u ∧ Dq X.K H P z d) its ds := each_of el fun i u d hu hd => by
      obtain ⟨z, h1, h2⟩ := vals_getU rv hu
      obtain ⟨d', h3, h4⟩ := t.getV h1
      rw [hd] at h3; cases h3
      exact ⟨z, h2, h4⟩
    have e2 : PySem.W.EachIs (fun u d => ∃ as, Reads s.heap u (id d) as) its ds := each_of el fun i u d hu hd => by
      obtain ⟨z, h1, h2⟩ := vals_getU rv hu
      obtain ⟨d', h3, h4⟩ := t.getV h1
      rw [hd] at h3; cases h3
      exact Dp.reads I _ _ _ (h4.dp (cp d (List.mem_of_getElem? hd))) h2
    refine sorted_tup_data (enc := id) hl e1 e2 (by rw [List.map_id]; exact fun d hd d' hd' => (alk_all hal).1 d hd d' hd') (by rw [List.map_id]; exact srt_sortable hz) (by rw [← t.length]; exact hsz)
      (fun b hb => by have := pl_depth (alk_pl hal hb); show X.A.units + 2 + b.depth < cLine; omega) fun out hlen ho => ?_
    obtain ⟨vs', hv', hd'⟩ := each_dq ho
    obtain ⟨ep, he'⟩ := PyProof.Rows.sortedAll_at s.heap its out.toArray
    have hf : H (s.heap.objs.size + 1) = none := I.hok.fresh (Nat.le_succ _)
    have hlv : vs'.length ≤ sizeLine := by rw [hv'.length, hlen, ← t.length]; exact hsz
    exact ⟨.ref _, upd H (s.heap.objs.size + 1) (.lst vs'), I.laid (t' := s.toks) (fun _ _ => PyProof.Rows.sortedAll_old) (Nat.le_succ _) ⟨hlv, out, ep, hv', he'⟩, rfl, q _ vs' _ (same_upd hf _) hf upd_same (newDq hf hd')⟩
  unfold dSortedA at e
  split at e
  · exact opF_sorted hu pins s σ H _ us Q I r ⟨P, x, _, d, rfl, tr, rx, e, q⟩
  · rename_i ds
    by_cases hz : srt ds = true
    · rw [if_pos hz] at e; cases e
      obtain ⟨a, ys, rfl, h, t⟩ := rx.tup
      obtain ⟨its, rv, hl, hsz⟩ := I.tuple h
      exact fin hz rfl rfl t rv hsz hl
    · rw [if_neg hz] at e; cases e
  · cases e
@[simp] theorem dSortedA_lst {ds : List PyData} : dSortedA (.list ds) = dSorted (.list ds) := rfl
@[simp] theorem dSortedA_tup {ds : List PyData} : dSortedA (.tuple ds) = dSorted (.list ds) := rfl
end
end TF

/-! TFz.lean -/
set_option Elab.async false
set_option linter.all false
set_option maxRecDepth 100000
/-! TF.z: reckoning with the functions: rows for simp -/
namespace TF
open PySem PySem.Spec PyProof.Rows L2
section
variable {α : Type} {f fa fb fc : Rho → Option PyData} {g h : Rho → Option Fl} {ρ : Rho} {d x y : PyData} {i j : Nat}
@[simp] theorem fSeq_ev : fSeq g h ρ = (g ρ).bind fun fl => fThen fl h := rfl
@[simp] theorem fThen_nx : fThen (.nx ρ) g = g ρ := rfl
@[simp] theorem fThen_rt : fThen (.rt d) g = some (.rt d) := rfl
@[simp] theorem fThen_bk : fThen (.bk ρ) g = some (.bk ρ) := rfl
@[simp] theorem fThen_ct : fThen (.ct ρ) g = some (.ct ρ) := rfl
@[simp] theorem fNil_ev : fNil ρ = some (.nx ρ) := rfl
@[simp] theorem fRet_ev : fRet f ρ = (f ρ).bind fun d => some (.rt d) := rfl
@[simp] theorem fBk_ev : fBk ρ = some (.bk ρ) := rfl
@[simp] theorem fCt_ev : fCt ρ = some (.ct ρ) := rfl
@[simp] theorem fIf_ev {t : Rho → Option Bool} : fIf t g h ρ = (t ρ).bind fun c => if c = true then g ρ else h ρ := rfl
@[simp] theorem fSet_ev : fSet i f ρ = (f ρ).bind fun d => some (.nx (ρ.set i (some d))) := rfl
@[simp] theorem fOwn_ev {l : Rho → Option (List PyData)} : fOwn i l ρ = (l ρ).bind fun d => if i < ρ.length then some (.nx (ρ.set i (some (.list d)))) else none := rfl
@[simp] theorem fPar_ev {l : Rho → Option (List PyData)} : fPar i j l ρ = (l ρ).bind fun ds => match ds with
  | [x, y] => some (.nx ((ρ.set i (some x)).set j (some y)))
  | _ => none := rfl
@[simp] theorem fAsg_ev {gt : PyData → Rho → Option Rho} : fAsg gt f ρ = (f ρ).bind fun d => (gt d ρ).bind fun r => some (.nx r) := rfl
@[simp] theorem fApp_ev : fApp i f ρ = (f ρ).bind fun d => match ρ.getD i none with
  | some (.list ds) => if ds.length < sizeLine then some (.nx (ρ.set i (some (.list (ds ++ [d]))))) else none
  | _ => none := rfl
@[simp] theorem fExt_ev : fExt i f ρ = (f ρ).bind fun d => match ρ.getD i none, d with
  | some (.list ds), .list es => if ds.length + es.length ≤ sizeLine then some (.nx (ρ.set i (some (.list (ds ++ es))))) else none
  | _, _ => none := rfl
@[simp] theorem fFor_ev {it : Rho → Option (List PyData)} {tg : PyData → Rho → Option Rho} {ks : List Nat} : fFor it tg ks g ρ = (it ρ).bind fun ds => forGo tg g ks ds (clr ks ρ) := rfl
@[simp] theorem fWhile_ev {n : Nat} {t : Rho → Option Bool} {ks : List Nat} : fWhile n t ks g ρ = whGo t g ks n (clr ks ρ) := rfl
@[simp] theorem clr_nil : clr [] ρ = ρ := rfl
@[simp] theorem clr_cons {k : Nat} {ks : List Nat} : clr (k :: ks) ρ = clr ks (ρ.set k none) := rfl
@[simp] theorem g1_ev : g1 i d ρ = some (ρ.set i (some d)) := rfl
@[simp] theorem g2_ev : g2 i j (.tuple [x, y]) ρ = some ((ρ.set i (some x)).set j (some y)) := rfl
@[simp] theorem g3_ev {k : Nat} {z : PyData} : g3 i j k (.tuple [x, y, z]) ρ = some (((ρ.set i (some x)).set j (some y)).set k (some z)) := rfl
@[simp] theorem eVar_ev : eVar i ρ = ρ.getD i none := rfl
@[simp] theorem eC_ev : eC d ρ = some d := rfl
@[simp] theorem eL_ev {l : Rho → Option (List PyData)} : eL l ρ = (l ρ).map PyData.list := rfl
@[simp] theorem e1_ev {k : PyData → Option α} : e1 f k ρ = (f ρ).bind k := rfl
@[simp] theorem e2_ev {k : PyData → PyData → Option α} : e2 fa fb k ρ = (fa ρ).bind fun x => (fb ρ).bind fun y => k x y := rfl
@[simp] theorem eB_ev {t : Rho → Option Bool} : eB t ρ = (t ρ).map PyData.bool := rfl
@[simp] theorem eT_ev : eT f ρ = (f ρ).bind dB := rfl
@[simp] theorem dB_ev {b : Bool} : dB (.bool b) = some b := rfl
@[simp] theorem eChain_ev {k k' : PyData → PyData → Option Bool} : eChain fa fb fc k k' ρ = (fa ρ).bind fun x => (fb ρ).bind fun y => (k x y).bind fun b => if b = true then (fc ρ).bind fun z => k' y z else some false := rfl
@[simp] theorem eNoPart_ev : eNoPart ρ = some none := rfl
@[simp] theorem ePart_ev : ePart f ρ = (f ρ).bind fun d => match d with
  | .int i => some (some i)
  | _ => none := rfl
@[simp] theorem eSl_ev {l u : Rho → Option (Option Int)} {k : PyData → Option Int → Option Int → Option PyData} : eSl f l u k ρ = (f ρ).bind fun x => (l ρ).bind fun i => (u ρ).bind fun j => k x i j := rfl
@[simp] theorem aNil_ev : aNil ρ = some [] := rfl
@[simp] theorem aCons_ev {l : Rho → Option (List PyData)} : aCons f l ρ = (f ρ).bind fun x => (l ρ).bind fun xs => some (x :: xs) := rfl
@[simp] theorem eTup_ev {l : Rho → Option (List PyData)} : eTup l ρ = (l ρ).bind fun ds => if ds.length ≤ 1000 then some (.tuple ds) else none := rfl
@[simp] theorem eLst_ev {l : Rho → Option (List PyData)} : eLst l ρ = (l ρ).bind fun ds => if ds.length ≤ 1000 then some ds else none := rfl
@[simp] theorem tAnd_ev {s t : Rho → Option Bool} : tAnd s t ρ = (s ρ).bind fun c => if c = true then t ρ else some false := rfl
@[simp] theorem tOr_ev {s t : Rho → Option Bool} : tOr s t ρ = (s ρ).bind fun c => if c = true then some true else t ρ := rfl
@[simp] theorem tNot_ev {s : Rho → Option Bool} : tNot s ρ = (s ρ).bind fun c => some (!c) := rfl
@[simp] theorem vAnd_ev : vAnd fa fb ρ = ((fa ρ).bind dB).bind fun c => if c = true then fb ρ else some (.bool false) := rfl
@[simp] theorem vOr_ev : vOr fa fb ρ = ((fa ρ).bind dB).bind fun c => if c = true then some (.bool true) else fb ρ := rfl
@[simp] theorem vNot_ev : vNot fa ρ = ((fa ρ).bind dB).bind fun c => some (.bool (!c)) := rfl
@[simp] theorem eIf_ev {t : Rho → Option Bool} : eIf t fa fb ρ = (t ρ).bind fun c => if c = true then fa ρ else fb ρ := rfl
@[simp] theorem eCall_ev {n : Nat} {m : List PyData → Option PyData} {l : Rho → Option (List PyData)} : eCall n m l ρ = (l ρ).bind fun ds => if ds.length = n then m ds else none := rfl
@[simp] theorem eLc_ev {it : Rho → Option (List PyData)} {tg : PyData → Rho → Option Rho} {tt : Rho → Option Bool} : eLc it tg tt f ρ = (it ρ).bind fun ds => lcGo tg tt f ρ ds := rfl
@[simp] theorem tYs_ev : tYs ρ = some true := rfl
@[simp] theorem lcGo_nil {tg : PyData → Rho → Option Rho} {tt : Rho → Option Bool} : lcGo tg tt f ρ [] = some [] := rfl
@[simp] theorem forGo_nil {tg : PyData → Rho → Option Rho} {ks : List Nat} : forGo tg g ks [] ρ = some (.nx ρ) := rfl
end
/-! ### operators on data -/
section
variable {d e x y : PyData} {ds es : List PyData} {a b : Str} {i j : Int}
@[simp] theorem dAddA_int : dAddA (.int i) (.int j) = some (.int (i + j)) := rfl
@[simp] theorem dAddA_str : dAddA (.str a) (.str b) = if a.length + b.length ≤ sizeLine then some (.str (a ++ b)) else none := rfl
@[simp] theorem dAddA_tup : dAddA (.tuple ds) (.tuple es) = if ds.length + es.length ≤ sizeLine then some (.tuple (ds ++ es)) else none := rfl
@[simp] theorem dAddA_lst : dAddA (.list ds) (.list es) = if ds.length + es.length ≤ sizeLine then some (.list (ds ++ es)) else none := rfl
@[simp] theorem dAddL_ev : dAddL (.list ds) (.list es) = if ds.length + es.length ≤ sizeLine then some (ds ++ es) else none := rfl
@[simp] theorem dSub_ev : dSub (.int i) (.int j) = some (.int (i - j)) := rfl
@[simp] theorem dDiv_ev : dDiv (.int i) (.int j) = if 0 < j ∧ j < 1073741824 then some (.int (i / j)) else none := rfl
@[simp] theorem dMod_ev : dMod (.int i) (.int j) = if 0 < j then some (.int (i % j)) else none := rfl
@[simp] theorem dMulA_int : dMulA (.int i) (.int j) = if (-(2 ^ 64) < i ∧ i < 2 ^ 64) ∨ (-(2 ^ 64) < j ∧ j < 2 ^ 64) then some (.int (i * j)) else none := rfl
@[simp] theorem dLtA_int : dLtA (.int i) (.int j) = some (decide (i < j)) := rfl
@[simp] theorem dLe_int : dLe (.int i) (.int j) = some (decide (i ≤ j)) := rfl
@[simp] theorem dGt_int : dGt (.int i) (.int j) = some (decide (j < i)) := rfl
@[simp] theorem dGe_int : dGe (.int i) (.int j) = some (decide (j ≤ i)) := rfl
@[simp] theorem dSl_tup {lo hi : Option Int} : dSl (.tuple ds) lo hi = some (.tuple (cutD ds lo hi)) := rfl
@[simp] theorem dSl_lst {lo hi : Option Int} : dSl (.list ds) lo hi = some (.list (cutD ds lo hi)) := rfl
@[simp] theorem dLen_tup : dLen (.tuple ds) = some (.int ds.length) := rfl
@[simp] theorem dLen_lst : dLen (.list ds) = some (.int ds.length) := rfl
@[simp] theorem dTuple_tup : dTuple (.tuple ds) = some (.tuple ds) := rfl
@[simp] theorem dTuple_lst : dTuple (.list ds) = some (.tuple ds) := rfl
@[simp] theorem dSeqs_tup : dSeqs (.tuple ds) = some ds := rfl
@[simp] theorem dSeqs_lst : dSeqs (.list ds) = some ds := rfl
@[simp] theorem dWalk_tup : dWalk (.tuple ds) = some ds := rfl
@[simp] theorem dWalk_lst : dWalk (.list ds) = some ds := rfl
@[simp] theorem dRng1_ev : dRng1 (.int i) = if -1000000 ≤ i ∧ i ≤ 1000000 then some (rints 0 i.toNat) else none := rfl
@[simp] theorem dRng2_ev : dRng2 (.int i) (.int j) = if -1000000 ≤ i ∧ i ≤ 1000000 ∧ j ≤ 1000000 ∧ -1000000 ≤ j then some (rints i (j - i).toNat) else none := rfl
@[simp] theorem dNotIn_ev : dNotIn x y = (dIn x y).map (!·) := rfl
@[simp] theorem dIs_none : dIs .none .none = some true := rfl
@[simp] theorem dIs_tup : dIs (.tuple ds) .none = some false := rfl
@[simp] theorem dIsNot_ev : dIsNot x y = (dIs x y).map (!·) := rfl
@[simp] theorem dIx_tup0 : dIx (.tuple (x :: ds)) (.int 0) = some x := by
  show atI (x :: ds) 0 = some x
  exact atI_nat (j := 0) rfl
@[simp] theorem dIx_tup1 : dIx (.tuple (x :: y :: ds)) (.int 1) = some y := by
  show atI (x :: y :: ds) 1 = some y
  exact atI_nat (j := 1) rfl
@[simp] theorem dIx_tup2 : dIx (.tuple (x :: y :: d :: ds)) (.int 2) = some d := by
  show atI (x :: y :: d :: ds) 2 = some d
  exact atI_nat (j := 2) rfl
@[simp] theorem dIx_tup3 : dIx (.tuple (x :: y :: d :: e :: ds)) (.int 3) = some e := by
  show atI (x :: y :: d :: e :: ds) 3 = some e
  exact atI_nat (j := 3) rfl
theorem cutD_from1 : cutD (x :: ds) (some 1) none = ds := by
  unfold cutD HT.sIx
  simp
theorem cutD_to2 : cutD (x :: y :: ds) none (some 2) = [x, y] := by
  unfold cutD HT.sIx
  simp
end
/-! ### == of told data -/
@[simp] theorem sz0 : 0 ≤ sizeLine := Nat.zero_le _
@[simp] theorem sz1 : 1 ≤ sizeLine := by rw [sizeLine_eq]; decide
@[simp] theorem sz2 : 2 ≤ sizeLine := by rw [sizeLine_eq]; decide
@[simp] theorem sz3 : 3 ≤ sizeLine := by rw [sizeLine_eq]; decide
@[simp] theorem sz4 : 4 ≤ sizeLine := by rw [sizeLine_eq]; decide
@[simp] theorem sz5 : 5 ≤ sizeLine := by rw [sizeLine_eq]; decide
@[simp] theorem sz6 : 6 ≤ sizeLine := by rw [sizeLine_eq]; decide
@[simp] theorem szl : 0 < sizeLine := by rw [sizeLine_eq]; decide
theorem pl_str {a : Str} : pl (.str a) = true := rfl
theorem pl_int {a : Int} : pl (.int a) = true := rfl
theorem dEq_str {a b : Str} : dEq (.str a) (.str b) = some (a == b) := rfl
theorem dEq_int {a b : Int} : dEq (.int a) (.int b) = some (a == b) := rfl
end TF

/-! TFy.lean -/
set_option Elab.async false
set_option linter.all false
set_option maxRecDepth 100000
/-! TF.y: evaluation of what TF.j, TF.k bring -/
namespace TF
open PySem PySem.Spec PyProof.Rows L2
section
variable {i j : Int} {ds es : List PyData} {d : PyData}
@[simp] theorem dAbs_ev : dAbs (.int i) = some (.int (if i < 0 then -i else i)) := rfl
@[simp] theorem dEnum_tup : dEnum (.tuple ds) = some (enumD 0 ds) := rfl
@[simp] theorem dEnum_lst : dEnum (.list ds) = some (enumD 0 ds) := rfl
@[simp] theorem dMax2_ev : dMax2 (.int i) (.int j) = some (.int (if j > i then j else i)) := rfl
@[simp] theorem dMin2_ev : dMin2 (.int i) (.int j) = some (.int (if j < i then j else i)) := rfl
theorem dSum_ints (ns : List Int) : dSum (.list (ns.map PyData.int)) = some (.int ns.sum) := by
  show (intsD _).map _ = _
  rw [intsD_map]; rfl
theorem dIndexT_strs {ys : List Str} {z : Str} {k : Nat} (h : idxS z ys = some k) : dIndexT (.tuple (ys.map PyData.str)) (.str z) = some (.int k) := by
  have e : strsD (ys.map PyData.str) = some ys := by
    clear h
    induction ys with
    | nil => rfl
    | cons y ys ih => simp only [List.map_cons, strsD, ih]; rfl
  show (strsD _).bind _ = _
  rw [e]
  simp [h]
theorem idxS_mem {z : Str} : ∀ {ys : List Str}, z ∈ ys → idxS z ys = some (ys.idxOf z)
  | [], h => by cases h
  | y :: ys, h => by
    unfold idxS
    by_cases e : y = z
    · rw [if_pos e]; simp [e]
    · rw [if_neg e]
      have h' : z ∈ ys := by
        rcases List.mem_cons.mp h with h | h
        · exact absurd h.symm e
        · exact h
      have eb : (y == z) = false := beq_eq_false_iff_ne.mpr e
      rw [idxS_mem h', List.idxOf_cons, eb]; rfl
theorem dIndex_mem {z : Str} {ys : List Str} (h : z ∈ ys) : dIndexT (.tuple (ys.map PyData.str)) (.str z) = some (.int (ys.idxOf z : Nat)) := dIndexT_strs (idxS_mem h)
end
end TF

/-! Tk.lean -/
set_option Elab.async false
set_option linter.all false
set_option maxRecDepth 100000
/-! TK: talks as Lean data; what they are as PyData -/
namespace TK
open PySem PySem.Spec PyProof.Rows L2 TF
inductive Step where
  | tell (a b w : Str)
  | choice (bs : List (List Step))
  | round (s : List Step)
  | both (s t : List Step)
abbrev Steps := List Step
theorem Step.ind {P : Step → Prop} (h1 : ∀ a b w, P (.tell a b w)) (h2 : ∀ bs, (∀ b ∈ bs, ∀ s ∈ b, P s) → P (.choice bs)) (h3 : ∀ l, (∀ s ∈ l, P s) → P (.round l)) (h4 : ∀ l r, (∀ s ∈ l, P s) → (∀ s ∈ r, P s) → P (.both l r)) : ∀ s, P s
  | .tell a b w => h1 a b w
  | .choice bs => h2 bs fun b hb s hs => Step.ind h1 h2 h3 h4 s
  | .round l => h3 l fun s hs => Step.ind h1 h2 h3 h4 s
  | .both l r => h4 l r (fun s hs => Step.ind h1 h2 h3 h4 s) (fun s hs => Step.ind h1 h2 h3 h4 s)
termination_by s => sizeOf s
decreasing_by
  all_goals simp_wf
  · have := List.sizeOf_lt_of_mem hb; have := List.sizeOf_lt_of_mem hs; omega
  · have := List.sizeOf_lt_of_mem hs; omega
  · have := List.sizeOf_lt_of_mem hs; omega
  · have := List.sizeOf_lt_of_mem hs; omega
/-- as data -/
def sD : Step → PyData
  | .tell a b w => .tuple [.str "tell", .str a, .str b, .str w]
  | .choice bs => .tuple [.str "choice", .tuple (bs.map fun b => .tuple (b.map sD))]
  | .round s => .tuple [.str "round", .tuple (s.map sD)]
  | .both s t => .tuple [.str "both", .tuple (s.map sD), .tuple (t.map sD)]
termination_by s => sizeOf s
decreasing_by
  all_goals simp_wf
  all_goals first
    | (have h1 := List.sizeOf_lt_of_mem ‹b ∈ bs›; have h2 := List.sizeOf_lt_of_mem ‹_ ∈ b›; omega)
    | (have h2 := List.sizeOf_lt_of_mem ‹_ ∈ _›; omega)
/-- steps as data -/
def ssD (s : Steps) : PyData := .tuple (s.map sD)
theorem sD_tell (a b w : Str) : sD (.tell a b w) = .tuple [.str "tell", .str a, .str b, .str w] := by rw [sD]
theorem sD_choice (bs : List Steps) : sD (.choice bs) = .tuple [.str "choice", .tuple (bs.map ssD)] := by rw [sD]; rfl
theorem sD_round (s : Steps) : sD (.round s) = .tuple [.str "round", ssD s] := by rw [sD]; rfl
theorem sD_both (s t : Steps) : sD (.both s t) = .tuple [.str "both", ssD s, ssD t] := by rw [sD]; rfl
/-- how deep -/
def dep : Step → Nat
  | .tell _ _ _ => 0
  | .choice bs => 1 + (bs.map fun b => (b.map dep).foldr max 0).foldr max 0
  | .round s => 1 + (s.map dep).foldr max 0
  | .both s t => 1 + max ((s.map dep).foldr max 0) ((t.map dep).foldr max 0)
termination_by s => sizeOf s
decreasing_by
  all_goals simp_wf
  all_goals first
    | (have h1 := List.sizeOf_lt_of_mem ‹b ∈ bs›; have h2 := List.sizeOf_lt_of_mem ‹_ ∈ b›; omega)
    | (have h2 := List.sizeOf_lt_of_mem ‹_ ∈ _›; omega)
def deps (s : Steps) : Nat := (s.map dep).foldr max 0
theorem max_le {l : List Nat} {n : Nat} : l.foldr max 0 ≤ n ↔ ∀ x ∈ l, x ≤ n := by
  induction l with
  | nil => simp
  | cons a l ih => rw [List.foldr_cons, Nat.max_le, ih]; simp
theorem deps_le {s : Steps} {n : Nat} : deps s ≤ n ↔ ∀ x ∈ s, dep x ≤ n := by
  unfold deps
  rw [max_le]; simp
theorem dep_tell (a b w : Str) : dep (.tell a b w) = 0 := by rw [dep]
theorem dep_choice (bs : List Steps) : dep (.choice bs) = 1 + (bs.map deps).foldr max 0 := by rw [dep]; rfl
theorem dep_round (s : Steps) : dep (.round s) = 1 + deps s := by rw [dep]; rfl
theorem dep_both (s t : Steps) : dep (.both s t) = 1 + max (deps s) (deps t) := by rw [dep]; rfl
theorem dep_choice_le {bs : List Steps} {n : Nat} (h : dep (.choice bs) ≤ n + 1) : ∀ b ∈ bs, deps b ≤ n := by
  rw [dep_choice] at h
  have : (bs.map deps).foldr max 0 ≤ n := by omega
  rw [max_le] at this
  intro b hb
  exact this _ (List.mem_map_of_mem hb)
/-- how many rows -/
def hgt : Step → Nat
  | .tell _ _ _ => 1
  | .choice bs => 1 + (bs.map fun b => (b.map hgt).sum).sum + bs.length
  | .round s => 2 + (s.map hgt).sum
  | .both s t => 3 + ((s.map hgt).sum + (t.map hgt).sum)
termination_by s => sizeOf s
decreasing_by
  all_goals simp_wf
  all_goals first
    | (have h1 := List.sizeOf_lt_of_mem ‹b ∈ bs›; have h2 := List.sizeOf_lt_of_mem ‹_ ∈ b›; omega)
    | (have h2 := List.sizeOf_lt_of_mem ‹_ ∈ _›; omega)
def hgts (s : Steps) : Nat := (s.map hgt).sum
theorem hgt_tell (a b w : Str) : hgt (.tell a b w) = 1 := by rw [hgt]
theorem hgt_choice (bs : List Steps) : hgt (.choice bs) = 1 + (bs.map hgts).sum + bs.length := by rw [hgt]; rfl
theorem hgt_round (s : Steps) : hgt (.round s) = 2 + hgts s := by rw [hgt]; rfl
theorem hgt_both (s t : Steps) : hgt (.both s t) = 3 + (hgts s + hgts t) := by rw [hgt]; rfl
theorem hgts_nil : hgts [] = 0 := rfl
theorem hgts_cons (x : Step) (s : Steps) : hgts (x :: s) = hgt x + hgts s := by simp [hgts]
theorem hgts_append (s t : Steps) : hgts (s ++ t) = hgts s + hgts t := by simp [hgts]
theorem hgt_pos (s : Step) : 1 ≤ hgt s := by
  cases s
  · rw [hgt_tell]; exact Nat.le_refl _
  · rw [hgt_choice]; omega
  · rw [hgt_round]; omega
  · rw [hgt_both]; omega
theorem len_hgts (s : Steps) : s.length ≤ hgts s := by
  induction s with
  | nil => exact Nat.zero_le _
  | cons x s ih => rw [hgts_cons, List.length_cons]; have := hgt_pos x; omega
theorem sum_mem {l : List Nat} {x : Nat} (h : x ∈ l) : x ≤ l.sum := by
  induction l with
  | nil => cases h
  | cons a l ih =>
    rw [List.sum_cons]
    rcases List.mem_cons.mp h with rfl | h
    · omega
    · have := ih h; omega
theorem hgts_mem {x : Step} {s : Steps} (h : x ∈ s) : hgt x ≤ hgts s := sum_mem (List.mem_map_of_mem h)
theorem hgts_memB {b : Steps} {bs : List Steps} (h : b ∈ bs) : hgts b ≤ (bs.map hgts).sum := sum_mem (List.mem_map_of_mem h)

/-! ### plain, depth -/
theorem depthAll_le {ds : List PyData} {n : Nat} : PyData.depthAll ds ≤ n ↔ ∀ d ∈ ds, d.depth ≤ n := by
  induction ds with
  | nil => simp [PyData.depthAll]
  | cons a l ih => rw [PyData.depthAll, Nat.max_le, ih]; simp
theorem plainAll_iff {ds : List PyData} : PyData.plainAll ds = true ↔ ∀ d ∈ ds, d.plain = true := by
  induction ds with
  | nil => simp [PyData.plainAll]
  | cons a l ih => rw [PyData.plainAll, Bool.and_eq_true, ih]; simp
theorem plain_tup {ds : List PyData} : (PyData.tuple ds).plain = true ↔ ∀ d ∈ ds, d.plain = true := by rw [PyData.plain, plainAll_iff]
theorem plain_lst {ds : List PyData} : (PyData.list ds).plain = true ↔ ∀ d ∈ ds, d.plain = true := by rw [PyData.plain, plainAll_iff]
theorem depth_tup {ds : List PyData} {n : Nat} : (PyData.tuple ds).depth ≤ n + 1 ↔ ∀ d ∈ ds, d.depth ≤ n := by rw [PyData.depth, ← depthAll_le]; omega
theorem depth_lst {ds : List PyData} {n : Nat} : (PyData.list ds).depth ≤ n + 1 ↔ ∀ d ∈ ds, d.depth ≤ n := by rw [PyData.depth, ← depthAll_le]; omega
theorem depth_str {a : Str} : (PyData.str a).depth = 0 := by rw [PyData.depth]
theorem depth_int {a : Int} : (PyData.int a).depth = 0 := by rw [PyData.depth]
theorem plain_str {a : Str} : (PyData.str a).plain = true := by rw [PyData.plain]
theorem plain_int {a : Int} : (PyData.int a).plain = true := by rw [PyData.plain]
theorem sD_plain (s : Step) : (sD s).plain = true := by
  induction s using Step.ind with
  | h1 a b w => rw [sD_tell, plain_tup]; simp [plain_str]
  | h2 bs ih =>
    rw [sD_choice, plain_tup]
    simp only [List.mem_cons, List.not_mem_nil, or_false, forall_eq_or_imp, forall_eq, plain_str, true_and, plain_tup, List.mem_map, forall_exists_index, and_imp, forall_apply_eq_imp_iff₂]
    intro b hb
    unfold ssD
    rw [plain_tup]
    simp only [List.mem_map, forall_exists_index, and_imp, forall_apply_eq_imp_iff₂]
    exact ih b hb
  | h3 l ih =>
    rw [sD_round, plain_tup]
    simp only [List.mem_cons, List.not_mem_nil, or_false, forall_eq_or_imp, forall_eq, plain_str, true_and]
    unfold ssD
    rw [plain_tup]
    simp only [List.mem_map, forall_exists_index, and_imp, forall_apply_eq_imp_iff₂]
    exact ih
  | h4 l r ih ih2 =>
    rw [sD_both, plain_tup]
    simp only [List.mem_cons, List.not_mem_nil, or_false, forall_eq_or_imp, forall_eq, plain_str, true_and]
    unfold ssD
    rw [plain_tup, plain_tup]
    simp only [List.mem_map, forall_exists_index, and_imp, forall_apply_eq_imp_iff₂]
    exact ⟨ih, ih2⟩
theorem ssD_plain (s : Steps) : (ssD s).plain = true := by
  unfold ssD
  rw [plain_tup]
  simp only [List.mem_map, forall_exists_index, and_imp, forall_apply_eq_imp_iff₂]
  exact fun s _ => sD_plain s
theorem ssD_depth_of {s : Steps} {n : Nat} (h : ∀ x ∈ s, (sD x).depth ≤ n) : (ssD s).depth ≤ n + 1 := by
  unfold ssD
  rw [depth_tup]
  simp only [List.mem_map, forall_exists_index, and_imp, forall_apply_eq_imp_iff₂]
  exact h
theorem sD_depth : ∀ (n : Nat) (s : Step), dep s ≤ n → (sD s).depth ≤ 3 * n + 1
  | n, .tell a b w, h => by
    rw [sD_tell, depth_tup]
    simp [depth_str]
  | 0, .choice bs, h => by rw [dep_choice] at h; omega
  | 0, .round s, h => by rw [dep_round] at h; omega
  | 0, .both s t, h => by rw [dep_both] at h; omega
  | n + 1, .choice bs, h => by
    have hb := dep_choice_le h
    have e : 3 * (n + 1) + 1 = (3 * n + 3) + 1 := by omega
    rw [sD_choice, e, depth_tup]
    simp only [List.mem_cons, List.not_mem_nil, or_false, forall_eq_or_imp, forall_eq, depth_str]
    refine ⟨by omega, ?_⟩
    rw [depth_tup]
    simp only [List.mem_map, forall_exists_index, and_imp, forall_apply_eq_imp_iff₂]
    exact fun b hbm => ssD_depth_of fun x hx => sD_depth n x (deps_le.mp (hb b hbm) x hx)
  | n + 1, .round s, h => by
    rw [dep_round] at h
    have e : 3 * (n + 1) + 1 = (3 * n + 3) + 1 := by omega
    rw [sD_round, e, depth_tup]
    simp only [List.mem_cons, List.not_mem_nil, or_false, forall_eq_or_imp, forall_eq, depth_str]
    refine ⟨by omega, ?_⟩
    exact Nat.le_succ_of_le (ssD_depth_of fun x hx => sD_depth n x (deps_le.mp (by omega) x hx))
  | n + 1, .both s t, h => by
    rw [dep_both] at h
    have e : 3 * (n + 1) + 1 = (3 * n + 3) + 1 := by omega
    rw [sD_both, e, depth_tup]
    simp only [List.mem_cons, List.not_mem_nil, or_false, forall_eq_or_imp, forall_eq, depth_str]
    exact ⟨by omega, Nat.le_succ_of_le (ssD_depth_of fun x hx => sD_depth n x (deps_le.mp (by omega) x hx)), Nat.le_succ_of_le (ssD_depth_of fun x hx => sD_depth n x (deps_le.mp (by omega) x hx))⟩
theorem ssD_depth {n : Nat} {s : Steps} (h : deps s ≤ n) : (ssD s).depth ≤ 3 * n + 2 := ssD_depth_of fun x hx => sD_depth n x (deps_le.mp h x hx)
theorem pl_of {d : PyData} (h : d.plain = true) (h2 : d.depth ≤ 64) : pl d = true := by
  unfold pl
  rw [h, decide_eq_true h2] <;> rfl
theorem pl_sD {s : Step} (h : dep s ≤ 20) : pl (sD s) = true := pl_of (sD_plain s) (by have := sD_depth 20 s h; omega)
theorem pl_ssD {s : Steps} (h : deps s ≤ 20) : pl (ssD s) = true := pl_of (ssD_plain s) (by have := ssD_depth h; omega)

/-! ### == is equality -/
mutual
/-- no truths, no dicts -/
def nb : PyData → Bool
  | .none | .int _ | .str _ => true
  | .bool _ | .dict _ => false
  | .list xs | .tuple xs => nbA xs
def nbA : List PyData → Bool
  | [] => true
  | x :: xs => nb x && nbA xs
end
mutual
theorem eqv_iff : ∀ d e : PyData, nb d = true → nb e = true → (PyData.eqv d e = true ↔ d = e)
  | .none, e, _, h => by cases e <;> simp_all [PyData.eqv, nb]
  | .int i, e, _, h => by cases e <;> simp_all [PyData.eqv, nb]
  | .str x, e, _, h => by cases e <;> simp_all [PyData.eqv, nb]
  | .bool _, _, h, _ => by simp [nb] at h
  | .dict _, _, h, _ => by simp [nb] at h
  | .list xs, e, h, h' => by
    cases e with
    | list ys =>
      simp only [nb] at h h'
      simp only [PyData.eqv, PyData.list.injEq]
      exact eqvA_iff xs ys h h'
    | _ => simp_all [PyData.eqv, nb]
  | .tuple xs, e, h, h' => by
    cases e with
    | tuple ys =>
      simp only [nb] at h h'
      simp only [PyData.eqv, PyData.tuple.injEq]
      exact eqvA_iff xs ys h h'
    | _ => simp_all [PyData.eqv, nb]
theorem eqvA_iff : ∀ d e : List PyData, nbA d = true → nbA e = true → (PyData.eqvAll d e = true ↔ d = e)
  | [], [], _, _ => by simp [PyData.eqvAll]
  | [], _ :: _, _, _ => by simp [PyData.eqvAll]
  | _ :: _, [], _, _ => by simp [PyData.eqvAll]
  | x :: xs, y :: ys, h, h' => by
    simp only [nbA, Bool.and_eq_true] at h h'
    simp only [PyData.eqvAll, Bool.and_eq_true, List.cons.injEq, eqv_iff x y h.1 h'.1, eqvA_iff xs ys h.2 h'.2]
end
theorem nbA_iff {ds : List PyData} : nbA ds = true ↔ ∀ d ∈ ds, nb d = true := by
  induction ds with
  | nil => simp [nbA]
  | cons a l ih => rw [nbA, Bool.and_eq_true, ih]; simp
theorem nb_tup {ds : List PyData} : nb (PyData.tuple ds) = true ↔ ∀ d ∈ ds, nb d = true := by rw [nb, nbA_iff]
theorem nb_lst {ds : List PyData} : nb (PyData.list ds) = true ↔ ∀ d ∈ ds, nb d = true := by rw [nb, nbA_iff]
theorem nb_str {a : Str} : nb (.str a) = true := by rw [nb]
theorem nb_int {a : Int} : nb (.int a) = true := by rw [nb]
theorem sD_nb (s : Step) : nb (sD s) = true := by
  induction s using Step.ind with
  | h1 a b w => rw [sD_tell, nb_tup]; simp [nb_str]
  | h2 bs ih =>
    rw [sD_choice, nb_tup]
    simp only [List.mem_cons, List.not_mem_nil, or_false, forall_eq_or_imp, forall_eq, nb_str, true_and, nb_tup, List.mem_map, forall_exists_index, and_imp, forall_apply_eq_imp_iff₂]
    intro b hb
    unfold ssD
    rw [nb_tup]
    simp only [List.mem_map, forall_exists_index, and_imp, forall_apply_eq_imp_iff₂]
    exact ih b hb
  | h3 l ih =>
    rw [sD_round, nb_tup]
    simp only [List.mem_cons, List.not_mem_nil, or_false, forall_eq_or_imp, forall_eq, nb_str, true_and]
    unfold ssD
    rw [nb_tup]
    simp only [List.mem_map, forall_exists_index, and_imp, forall_apply_eq_imp_iff₂]
    exact ih
  | h4 l r ih ih2 =>
    rw [sD_both, nb_tup]
    simp only [List.mem_cons, List.not_mem_nil, or_false, forall_eq_or_imp, forall_eq, nb_str, true_and]
    unfold ssD
    rw [nb_tup, nb_tup]
    simp only [List.mem_map, forall_exists_index, and_imp, forall_apply_eq_imp_iff₂]
    exact ⟨ih, ih2⟩
theorem ssD_nb (s : Steps) : nb (ssD s) = true := by
  unfold ssD
  rw [nb_tup]
  simp only [List.mem_map, forall_exists_index, and_imp, forall_apply_eq_imp_iff₂]
  exact fun s _ => sD_nb s
theorem map_inj_on {α β : Type} {f : α → β} : ∀ {l m : List α}, (∀ a ∈ l, ∀ b, f a = f b → a = b) → l.map f = m.map f → l = m
  | [], [], _, _ => rfl
  | [], _ :: _, _, h => by simp at h
  | _ :: _, [], _, h => by simp at h
  | a :: l, b :: m, i, h => by
    simp only [List.map_cons, List.cons.injEq] at h
    rw [i a (by simp) b h.1, map_inj_on (fun x hx => i x (by simp [hx])) h.2]
theorem sD_inj (s : Step) : ∀ t, sD s = sD t → s = t := by
  have d1 : ("tell" : Str) ≠ "choice" := by decide
  have d2 : ("tell" : Str) ≠ "round" := by decide
  have d3 : ("tell" : Str) ≠ "both" := by decide
  have d4 : ("choice" : Str) ≠ "round" := by decide
  induction s using Step.ind with
  | h1 a b w =>
    intro t h
    cases t with
    | tell a' b' w' => rw [sD_tell, sD_tell] at h; simp at h; obtain ⟨rfl, rfl, rfl⟩ := h; rfl
    | choice bs => rw [sD_tell, sD_choice] at h; simp at h
    | round l => rw [sD_tell, sD_round] at h; simp at h
    | both l r => rw [sD_tell, sD_both] at h; simp at h
  | h2 bs ih =>
    intro t h
    cases t with
    | tell a' b' w' => rw [sD_tell, sD_choice] at h; simp at h
    | choice bs' =>
      rw [sD_choice, sD_choice] at h
      simp only [PyData.tuple.injEq, List.cons.injEq, and_true, true_and] at h
      congr 1
      refine map_inj_on (f := ssD) (fun b hb c e => ?_) h
      unfold ssD at e
      exact map_inj_on (fun x hx y e2 => ih b hb x hx y e2) (PyData.tuple.inj e)
    | round l => rw [sD_choice, sD_round] at h; simp only [PyData.tuple.injEq, List.cons.injEq, PyData.str.injEq] at h; exact absurd h.1 d4
    | both l r => rw [sD_choice, sD_both] at h; simp at h
  | h3 l ih =>
    intro t h
    cases t with
    | tell a' b' w' => rw [sD_tell, sD_round] at h; simp at h
    | choice bs => rw [sD_choice, sD_round] at h; simp only [PyData.tuple.injEq, List.cons.injEq, PyData.str.injEq] at h; exact absurd h.1.symm d4
    | round l' =>
      rw [sD_round, sD_round] at h
      simp only [PyData.tuple.injEq, List.cons.injEq, and_true, true_and] at h
      congr 1
      unfold ssD at h
      exact map_inj_on (fun x hx y e2 => ih x hx y e2) (PyData.tuple.inj h)
    | both l r => rw [sD_round, sD_both] at h; simp at h
  | h4 l r ih ih2 =>
    intro t h
    cases t with
    | tell a' b' w' => rw [sD_tell, sD_both] at h; simp at h
    | choice bs => rw [sD_choice, sD_both] at h; simp at h
    | round l' => rw [sD_round, sD_both] at h; simp at h
    | both l' r' =>
      rw [sD_both, sD_both] at h
      simp only [PyData.tuple.injEq, List.cons.injEq, and_true, true_and] at h
      unfold ssD at h
      rw [map_inj_on (fun x hx y e2 => ih x hx y e2) (PyData.tuple.inj h.1), map_inj_on (fun x hx y e2 => ih2 x hx y e2) (PyData.tuple.inj h.2)]
theorem ssD_inj {s t : Steps} (h : ssD s = ssD t) : s = t := map_inj_on (fun x _ y e => sD_inj x y e) (PyData.tuple.inj h)
noncomputable instance : DecidableEq Step := fun a b => Classical.propDecidable (a = b)
theorem bool_iff {a : Bool} {p : Prop} [Decidable p] (h : a = true ↔ p) : a = decide p := by
  by_cases q : p
  · rw [decide_eq_true q]; exact h.mpr q
  · rw [decide_eq_false q]
    cases a
    · rfl
    · exact absurd (h.mp rfl) q
theorem eqv_ssD (s t : Steps) : PyData.eqv (ssD s) (ssD t) = decide (s = t) :=
  bool_iff ((eqv_iff _ _ (ssD_nb s) (ssD_nb t)).trans ⟨ssD_inj, fun e => by rw [e]⟩)
theorem dEq_ssD {s t : Steps} (h : deps s ≤ 20) (h' : deps t ≤ 20) : dEq (ssD s) (ssD t) = some (decide (s = t)) := by
  unfold dEq
  rw [if_pos ⟨pl_ssD h, pl_ssD h'⟩, eqv_ssD]
theorem dNe_ssD {s t : Steps} (h : deps s ≤ 20) (h' : deps t ≤ 20) : dNe (ssD s) (ssD t) = some (!decide (s = t)) := by
  unfold dNe
  rw [if_pos ⟨pl_ssD h, pl_ssD h'⟩, eqv_ssD]
end TK

/-! Tl.lean -/
set_option Elab.async false
set_option linter.all false
set_option maxRecDepth 100000
/-! TK, on: loops over told lists; letters, views -/
namespace TK
open PySem PySem.Spec PyProof.Rows L2 TF
theorem forGo_from {α : Type} {e : α → PyData} {tg : PyData → Rho → Option Rho} {body : Rho → Option Fl} {ks : List Nat} (I : List α → Rho) (xs : List α)
    (h : ∀ pre x post, xs = pre ++ x :: post → ∃ r r', tg (e x) (I pre) = some r ∧ (body r = some (.nx r') ∨ body r = some (.ct r')) ∧ clr ks r' = I (pre ++ [x])) :
    ∀ post pre, xs = pre ++ post → forGo tg body ks (post.map e) (I pre) = some (.nx (I xs))
  | [], pre, hx => by rw [List.append_nil] at hx; subst hx; rfl
  | x :: post, pre, hx => by
    obtain ⟨r, r', h1, h2, h3⟩ := h pre x post hx
    have ih := forGo_from I xs h post (pre ++ [x]) (by rw [hx, List.append_assoc]; rfl)
    rw [List.map_cons]
    unfold forGo
    rw [h1]
    simp only [Option.bind_some]
    rcases h2 with h2 | h2
    · rw [h2]; simp only [Option.bind_some]; rw [h3]; exact ih
    · rw [h2]; simp only [Option.bind_some]; rw [h3]; exact ih
theorem forGo_map {α : Type} {e : α → PyData} {tg : PyData → Rho → Option Rho} {body : Rho → Option Fl} {ks : List Nat} (I : List α → Rho) (xs : List α)
    (h : ∀ pre x post, xs = pre ++ x :: post → ∃ r r', tg (e x) (I pre) = some r ∧ (body r = some (.nx r') ∨ body r = some (.ct r')) ∧ clr ks r' = I (pre ++ [x])) :
    forGo tg body ks (xs.map e) (I []) = some (.nx (I xs)) := forGo_from I xs h xs [] rfl
theorem lcGo_filter {α : Type} {e : α → PyData} {tg : PyData → Rho → Option Rho} {tt : Rho → Option Bool} {el : Rho → Option PyData} {ρ : Rho} (p : α → Bool) (f : α → PyData) : ∀ (xs : List α),
    (∀ x ∈ xs, ∃ r, tg (e x) ρ = some r ∧ tt r = some (p x) ∧ (p x = true → el r = some (f x))) → lcGo tg tt el ρ (xs.map e) = some ((xs.filter p).map f)
  | [], _ => rfl
  | x :: xs, h => by
    obtain ⟨r, h1, h2, h3⟩ := h x (by simp)
    have ih := lcGo_filter p f xs fun y hy => h y (by simp [hy])
    rw [List.map_cons]
    unfold lcGo
    rw [h1]
    simp only [Option.bind_some, h2]
    cases hp : p x with
    | true => rw [if_pos rfl, h3 hp, ih, List.filter_cons_of_pos hp]; rfl
    | false => rw [if_neg (by decide), ih, List.filter_cons_of_neg (by simp [hp])]
theorem lcGo_map {α : Type} {e : α → PyData} {tg : PyData → Rho → Option Rho} {el : Rho → Option PyData} {ρ : Rho} (f : α → PyData) (xs : List α)
    (h : ∀ x ∈ xs, ∃ r, tg (e x) ρ = some r ∧ el r = some (f x)) : lcGo tg tYs el ρ (xs.map e) = some (xs.map f) := by
  have := lcGo_filter (tt := tYs) (fun _ => true) f xs fun x hx => let ⟨r, h1, h2⟩ := h x hx; ⟨r, h1, rfl, fun _ => h2⟩
  rw [this, List.filter_eq_self.mpr (fun _ _ => rfl)]
theorem eqv_self {d : PyData} (h : nb d = true) : PyData.eqv d d = true := (eqv_iff d d h h).mpr rfl
theorem dEq_self {d : PyData} (h : nb d = true) (h2 : pl d = true) : dEq d d = some true := by unfold dEq; rw [if_pos ⟨h2, h2⟩, eqv_self h]
theorem dNe_self {d : PyData} (h : nb d = true) (h2 : pl d = true) : dNe d d = some false := by unfold dNe; rw [if_pos ⟨h2, h2⟩, eqv_self h]; rfl
theorem dEq_iff {d e : PyData} (h : nb d = true) (h2 : pl d = true) (h' : nb e = true) (h2' : pl e = true) [Decidable (d = e)] : dEq d e = some (decide (d = e)) := by
  unfold dEq; rw [if_pos ⟨h2, h2'⟩, bool_iff (eqv_iff d e h h')]
theorem dNe_iff {d e : PyData} (h : nb d = true) (h2 : pl d = true) (h' : nb e = true) (h2' : pl e = true) [Decidable (d = e)] : dNe d e = some (!decide (d = e)) := by
  unfold dNe; rw [if_pos ⟨h2, h2'⟩, bool_iff (eqv_iff d e h h')]
/-! ### letters -/
abbrev Lt := Str × Str × Str
def ltD (l : Lt) : PyData := .tuple [.str l.1, .str l.2.1, .str l.2.2]
def lts1 : Step → List Lt
  | .tell a b w => [(a, b, w)]
  | .choice bs => (bs.map fun b => (b.map lts1).flatten).flatten
  | .round s => (s.map lts1).flatten
  | .both s t => (s.map lts1).flatten ++ (t.map lts1).flatten
termination_by s => sizeOf s
decreasing_by
  all_goals simp_wf
  all_goals first
    | (have h1 := List.sizeOf_lt_of_mem ‹b ∈ bs›; have h2 := List.sizeOf_lt_of_mem ‹_ ∈ b›; omega)
    | (have h2 := List.sizeOf_lt_of_mem ‹_ ∈ _›; omega)
def lts (s : Steps) : List Lt := (s.map lts1).flatten
theorem lts1_tell (a b w : Str) : lts1 (.tell a b w) = [(a, b, w)] := by rw [lts1]
theorem lts1_choice (bs : List Steps) : lts1 (.choice bs) = (bs.map lts).flatten := by rw [lts1]; rfl
theorem lts1_round (s : Steps) : lts1 (.round s) = lts s := by rw [lts1]; rfl
theorem lts1_both (s t : Steps) : lts1 (.both s t) = lts s ++ lts t := by rw [lts1]; rfl
theorem lts_nil : lts [] = [] := rfl
theorem lts_cons (x : Step) (s : Steps) : lts (x :: s) = lts1 x ++ lts s := by simp [lts]
theorem lts_append (s t : Steps) : lts (s ++ t) = lts s ++ lts t := by simp [lts]
theorem len_sum_le {α : Type} {f : α → List Lt} {g : α → Nat} : ∀ (l : List α), (∀ x ∈ l, (f x).length ≤ g x) → (l.map f).flatten.length ≤ (l.map g).sum
  | [], _ => Nat.le_refl _
  | x :: l, h => by
    have h1 := h x (by simp)
    have h2 := len_sum_le l fun y hy => h y (by simp [hy])
    simp only [List.map_cons, List.flatten_cons, List.length_append, List.sum_cons]
    omega
theorem lts1_len (s : Step) : (lts1 s).length ≤ hgt s := by
  induction s using Step.ind with
  | h1 a b w => rw [lts1_tell, hgt_tell]; exact Nat.le_refl _
  | h2 bs ih =>
    rw [lts1_choice, hgt_choice]
    have : (bs.map lts).flatten.length ≤ (bs.map hgts).sum := len_sum_le bs fun b hb => len_sum_le b fun x hx => ih b hb x hx
    omega
  | h3 l ih =>
    rw [lts1_round, hgt_round]
    have : (lts l).length ≤ hgts l := len_sum_le l ih
    omega
  | h4 l r ih ih2 =>
    rw [lts1_both, hgt_both, List.length_append]
    have h1 : (lts l).length ≤ hgts l := len_sum_le l ih
    have h2 : (lts r).length ≤ hgts r := len_sum_le r ih2
    omega
theorem lts_len (s : Steps) : (lts s).length ≤ hgts s := len_sum_le s fun x _ => lts1_len x
/-! ### what a hand sees -/
def vw (h : Str) : Step → Steps
  | .tell a b w => if h ∈ [a, b] then [.tell a b w] else []
  | .choice bs => [.choice (bs.map fun b => (b.map (vw h)).flatten)]
  | .round s => [.round (s.map (vw h)).flatten]
  | .both s t => [.both (s.map (vw h)).flatten (t.map (vw h)).flatten]
termination_by s => sizeOf s
decreasing_by
  all_goals simp_wf
  all_goals first
    | (have h1 := List.sizeOf_lt_of_mem ‹b ∈ bs›; have h2 := List.sizeOf_lt_of_mem ‹_ ∈ b›; omega)
    | (have h2 := List.sizeOf_lt_of_mem ‹_ ∈ _›; omega)
def vws (h : Str) (s : Steps) : Steps := (s.map (vw h)).flatten
theorem vw_tell (h a b w : Str) : vw h (.tell a b w) = if h ∈ [a, b] then [.tell a b w] else [] := by rw [vw]
theorem vw_choice (h : Str) (bs : List Steps) : vw h (.choice bs) = [.choice (bs.map (vws h))] := by rw [vw]; rfl
theorem vw_round (h : Str) (s : Steps) : vw h (.round s) = [.round (vws h s)] := by rw [vw]; rfl
theorem vw_both (h : Str) (s t : Steps) : vw h (.both s t) = [.both (vws h s) (vws h t)] := by rw [vw]; rfl
theorem vws_nil (h : Str) : vws h [] = [] := rfl
theorem vws_cons (h : Str) (x : Step) (s : Steps) : vws h (x :: s) = vw h x ++ vws h s := by simp [vws]
theorem vws_append (h : Str) (s t : Steps) : vws h (s ++ t) = vws h s ++ vws h t := by simp [vws]
theorem vw_len (h : Str) (s : Step) : (vw h s).length ≤ 1 := by
  cases s
  · rw [vw_tell]; split <;> simp
  · rw [vw_choice]; simp
  · rw [vw_round]; simp
  · rw [vw_both]; simp
theorem vws_len (h : Str) (s : Steps) : (vws h s).length ≤ s.length := by
  induction s with
  | nil => exact Nat.le_refl _
  | cons x s ih => rw [vws_cons, List.length_append, List.length_cons]; have := vw_len h x; omega
theorem vw_dep (h : Str) (s : Step) : ∀ x ∈ vw h s, dep x ≤ dep s := by
  induction s using Step.ind with
  | h1 a b w =>
    intro x hx
    rw [vw_tell] at hx
    split at hx
    · simp at hx; subst hx; exact Nat.le_refl _
    · cases hx
  | h2 bs ih =>
    intro x hx
    rw [vw_choice, List.mem_singleton] at hx
    subst hx
    rw [dep_choice, dep_choice]
    refine Nat.add_le_add_left (max_le.mpr ?_) 1
    simp only [List.mem_map, forall_exists_index, and_imp, forall_apply_eq_imp_iff₂]
    intro b hb
    have hb2 : deps b ≤ (bs.map deps).foldr max 0 := max_le.mp (Nat.le_refl _) _ (List.mem_map_of_mem hb)
    rw [deps_le]
    intro y hy
    unfold vws at hy
    simp only [List.mem_flatten, List.mem_map] at hy
    obtain ⟨l, ⟨z, hz, rfl⟩, hy⟩ := hy
    have h3 := ih b hb z hz y hy
    have h4 := deps_le.mp (Nat.le_refl (deps b)) z hz
    omega
  | h3 l ih =>
    intro x hx
    rw [vw_round, List.mem_singleton] at hx
    subst hx
    rw [dep_round, dep_round]
    refine Nat.add_le_add_left (deps_le.mpr fun y hy => ?_) 1
    unfold vws at hy
    simp only [List.mem_flatten, List.mem_map] at hy
    obtain ⟨l', ⟨z, hz, rfl⟩, hy⟩ := hy
    have h3 := ih z hz y hy
    have h4 := deps_le.mp (Nat.le_refl (deps l)) z hz
    omega
  | h4 l r ih ih2 =>
    intro x hx
    rw [vw_both, List.mem_singleton] at hx
    subst hx
    rw [dep_both, dep_both]
    have q : ∀ (l : Steps), (∀ z ∈ l, ∀ y ∈ vw h z, dep y ≤ dep z) → deps (vws h l) ≤ deps l := fun l ih => deps_le.mpr fun y hy => by
      unfold vws at hy
      simp only [List.mem_flatten, List.mem_map] at hy
      obtain ⟨l', ⟨z, hz, rfl⟩, hy⟩ := hy
      have h3 := ih z hz y hy
      have h4 := deps_le.mp (Nat.le_refl (deps l)) z hz
      omega
    have h1 := q l ih
    have h2 := q r ih2
    omega
theorem vws_dep (h : Str) (s : Steps) : deps (vws h s) ≤ deps s := deps_le.mpr fun y hy => by
  unfold vws at hy
  simp only [List.mem_flatten, List.mem_map] at hy
  obtain ⟨l', ⟨z, hz, rfl⟩, hy⟩ := hy
  exact Nat.le_trans (vw_dep h z y hy) (deps_le.mp (Nat.le_refl _) z hz)
/-! ### places of slices -/
theorem cutD_1_3 {x y z w : PyData} : TF.cutD [x, y, z, w] (some 1) (some 3) = [y, z] := by unfold TF.cutD HT.sIx; simp
theorem cutD_1_ {x : PyData} {l : List PyData} : TF.cutD (x :: l) (some 1) none = l := cutD_from1
theorem cutD__1 {x : PyData} {l : List PyData} : TF.cutD (x :: l) none (some 1) = [x] := by unfold TF.cutD HT.sIx; simp
theorem cutD__2 {x y : PyData} {l : List PyData} : TF.cutD (x :: y :: l) none (some 2) = [x, y] := cutD_to2
end TK

/-! F_lanerows_k60_short.lean -/
set_option Elab.async false
set_option linter.all false
set_option maxRecDepth 100000
namespace Lr
open PySem PySem.Spec PyProof.Rows L2 TF

def fu_law_less : Nat := 30
def fu_law_step : Nat := 30
def fu_short_step : Nat := 30
def wf : Nat := 100000
def f_parts_of : Rho → Option Fl :=
    (fSeq (fIf (e2 (e2 (eVar 0) (eC (.int 0)) dIx) (eC (.str "choice")) dEq) (fRet (e2 (eVar 0) (eC (.int 1)) dIx)) fNil)
    (fSeq (fIf (e2 (e2 (eVar 0) (eC (.int 0)) dIx) (eC (.str "tell")) dEq) (fRet (eTup aNil)) fNil)
    (fRet (eSl (eVar 0) (ePart (eC (.int 1))) eNoPart dSl))))
def m_parts_of : List PyData → Option PyData := runF 1 f_parts_of
def f_with_parts : Rho → Option Fl :=
    (fSeq (fIf (e2 (e2 (eVar 0) (eC (.int 0)) dIx) (eC (.str "choice")) dEq) (fRet (eTup (aCons (eC (.str "choice")) (aCons (e1 (eVar 1) dTuple) aNil)))) fNil)
    (fRet (e2 (eSl (eVar 0) eNoPart (ePart (eC (.int 1))) dSl) (e1 (eVar 1) dTuple) dAddA)))
def m_with_parts : List PyData → Option PyData := runF 2 f_with_parts
def b_unlike_ones_1 : Rho → Option Fl :=
    (fIf (e2 (eVar 2) (eVar 1) dNotIn) (fApp 1 (eVar 2)) fNil)
def f_unlike_ones : Rho → Option Fl :=
    (fSeq (fOwn 1 (eLst aNil))
    (fSeq (fFor (e1 (eVar 0) dWalk) (g1 2) [2] b_unlike_ones_1)
    (fRet (eVar 1))))
def m_unlike_ones : List PyData → Option PyData := runF 3 f_unlike_ones
def e_short_step_1 (r_short_step : List PyData → Option PyData) (r_short_steps : List PyData → Option PyData) : Rho → Option PyData :=
    (eCall 1 r_short_steps (aCons (eVar 2) aNil))
def f_short_step (r_short_step : List PyData → Option PyData) (r_short_steps : List PyData → Option PyData) : Rho → Option Fl :=
    (fSeq (fIf (e2 (e2 (eVar 0) (eC (.int 0)) dIx) (eC (.str "tell")) dEq) (fRet (eTup (aCons (eVar 0) aNil))) fNil)
    (fSeq (fOwn 1 (eLc (e1 (eCall 1 m_parts_of (aCons (eVar 0) aNil)) dWalk) (g1 2) tYs (e_short_step_1 r_short_step r_short_steps)))
    (fSeq (fIf (e2 (e2 (eVar 0) (eC (.int 0)) dIx) (eC (.str "choice")) dEq) (fSeq (fSet 1 (eCall 1 m_unlike_ones (aCons (eVar 1) aNil)))
    (fIf (e2 (e1 (eVar 1) dLen) (eC (.int 1)) dEq) (fRet (e2 (eVar 1) (eC (.int 0)) dIx)) fNil)) (fIf (e2 (e2 (eVar 0) (eC (.int 0)) dIx) (eC (.str "round")) dEq) (fSeq (fIf (e2 (e1 (e2 (eVar 1) (eC (.int 0)) dIx) dLen) (eC (.int 0)) dEq) (fRet (eTup aNil)) fNil)
    (fIf (tAnd (e2 (e1 (e2 (eVar 1) (eC (.int 0)) dIx) dLen) (eC (.int 1)) dEq) (e2 (e2 (e2 (e2 (eVar 1) (eC (.int 0)) dIx) (eC (.int 0)) dIx) (eC (.int 0)) dIx) (eC (.str "round")) dEq)) (fRet (e2 (eVar 1) (eC (.int 0)) dIx)) fNil)) (fIf (tOr (e2 (e1 (e2 (eVar 1) (eC (.int 0)) dIx) dLen) (eC (.int 0)) dEq) (e2 (e1 (e2 (eVar 1) (eC (.int 1)) dIx) dLen) (eC (.int 0)) dEq)) (fRet (e2 (e2 (eVar 1) (eC (.int 0)) dIx) (e2 (eVar 1) (eC (.int 1)) dIx) dAddA)) fNil)))
    (fRet (eTup (aCons (eCall 2 m_with_parts (aCons (eVar 0) (aCons (eVar 1) aNil))) aNil))))))
def b_short_steps_1 (r_short_step : List PyData → Option PyData) (r_short_steps : List PyData → Option PyData) : Rho → Option Fl :=
    (fSet 1 (e2 (eVar 1) (eCall 1 r_short_step (aCons (eVar 2) aNil)) dAddA))
def f_short_steps (r_short_step : List PyData → Option PyData) (r_short_steps : List PyData → Option PyData) : Rho → Option Fl :=
    (fSeq (fSet 1 (eTup aNil))
    (fSeq (fFor (e1 (eVar 0) dWalk) (g1 2) [2] (b_short_steps_1 r_short_step r_short_steps))
    (fRet (eVar 1))))
mutual
def m_short_step : Nat → List PyData → Option PyData
  | 0 => fun _ => none
  | n + 1 => runF 3 (f_short_step (m_short_step n) (m_short_steps n))
def m_short_steps : Nat → List PyData → Option PyData
  | 0 => fun _ => none
  | n + 1 => runF 3 (f_short_steps (m_short_step n) (m_short_steps n))
end
theorem u_short_step (n : Nat) : m_short_step (n + 1) = runF 3 (f_short_step (m_short_step n) (m_short_steps n)) := rfl
theorem u_short_steps (n : Nat) : m_short_steps (n + 1) = runF 3 (f_short_steps (m_short_step n) (m_short_steps n)) := rfl
def b_short_1 : Rho → Option Fl :=
    (fSeq (fSet 1 (eVar 2))
    (fSet 2 (eCall 1 (m_short_steps fu_short_step) (aCons (eVar 1) aNil))))
def w_short_1 : Rho → Option Bool :=
    (e2 (eVar 2) (eVar 1) dNe)
def f_short : Rho → Option Fl :=
    (fSeq (fSet 1 (e2 (eVar 0) (eC (.int 1)) dIx))
    (fSeq (fSet 2 (eCall 1 (m_short_steps fu_short_step) (aCons (eVar 1) aNil)))
    (fSeq (fWhile wf w_short_1 [] b_short_1)
    (fRet (eTup (aCons (e2 (eVar 0) (eC (.int 0)) dIx) (aCons (eVar 1) aNil)))))))
def m_short : List PyData → Option PyData := runF 3 f_short
def f_law_cell_at : Rho → Option Fl :=
    (fSeq (fIf (e2 (eVar 1) (e1 (eVar 0) dLen) dLtA) (fRet (e2 (eVar 0) (eVar 1) dIx)) fNil)
    (fRet (eC (.int 0))))
def m_law_cell_at : List PyData → Option PyData := runF 2 f_law_cell_at
def f_law_mixed : Rho → Option Fl :=
    (fSeq (fSet 2 (e2 (e2 (e2 (e2 (eCall 2 m_law_cell_at (aCons (eVar 0) (aCons (eVar 1) aNil))) (e2 (eC (.int 7919)) (eVar 1) dMulA) dAddA) (eC (.int 1)) dAddA) (eC (.int 48271)) dMulA) (eC (.int 2147483647)) dMod))
    (fRet (e2 (e2 (e2 (e2 (eVar 2) (eVar 2) dMulA) (e2 (eC (.int 7)) (eVar 2) dMulA) dAddA) (eVar 1) dAddA) (eC (.int 2147483629)) dMod)))
def m_law_mixed : List PyData → Option PyData := runF 3 f_law_mixed
def f_law_drawn : Rho → Option Fl :=
    (fSeq (fSet 2 (e2 (e2 (e2 (e2 (eVar 0) (e2 (eC (.int 104729)) (eVar 1) dMulA) dAddA) (eC (.int 17)) dAddA) (eC (.int 69621)) dMulA) (eC (.int 2147483647)) dMod))
    (fRet (e2 (e2 (e2 (e2 (eVar 2) (eVar 2) dMulA) (e2 (eC (.int 3)) (eVar 2) dMulA) dAddA) (eVar 1) dAddA) (eC (.int 2147483629)) dMod)))
def m_law_drawn : List PyData → Option PyData := runF 3 f_law_drawn
def e_law_word_1 : Rho → Option PyData :=
    (e2 (eVar 1) (e2 (e2 (eCall 2 m_law_drawn (aCons (eVar 0) (aCons (eVar 2) aNil))) (eC (.int 4)) dDiv) (eC (.int 26)) dMod) dIx)
def f_law_word : Rho → Option Fl :=
    (fSeq (fIf (e2 (e2 (eVar 0) (eC (.int 6)) dMod) (eC (.int 0)) dGt) (fRet (e2 (eTup (aCons (eC (.str "hi")) (aCons (eC (.str "go")) (aCons (eC (.str "hi")) (aCons (eC (.str "later")) (aCons (eC (.str "go")) aNil)))))) (e2 (e2 (eVar 0) (eC (.int 6)) dMod) (eC (.int 1)) dSub) dIx)) fNil)
    (fSeq (fSet 1 (eC (.str "abcdefghijklmnopqrstuvwxyz")))
    (fRet (e2 (eC (.str "")) (eL (eLc (e1 (e2 (eC (.int 1)) (e2 (e2 (eVar 0) (eC (.int 6)) dDiv) (eC (.int 5)) dMod) dAddA) dRng1) (g1 2) tYs e_law_word_1)) dJoin))))
def m_law_word : List PyData → Option PyData := runF 3 f_law_word
def e_law_step_1 (r_law_step : List PyData → Option PyData) (r_law_steps : List PyData → Option PyData) : Rho → Option PyData :=
    (eCall 4 r_law_steps (aCons (e2 (eCall 2 m_law_drawn (aCons (eVar 0) (aCons (eVar 9) aNil))) (eC (.int 4)) dDiv) (aCons (eVar 1) (aCons (e2 (eVar 2) (eC (.int 1)) dSub) (aCons (eC (.int 2)) aNil)))))
def f_law_step (r_law_step : List PyData → Option PyData) (r_law_steps : List PyData → Option PyData) : Rho → Option Fl :=
    (fSeq (fSet 3 (e2 (eVar 0) (eC (.int 7)) dMod))
    (fSeq (fIf (tOr (e2 (eVar 2) (eC (.int 0)) dEq) (e2 (eVar 3) (eC (.int 3)) dLtA)) (fSeq (fSet 5 (e2 (eVar 1) (e2 (e2 (eVar 0) (eC (.int 8)) dDiv) (e1 (eVar 1) dLen) dMod) dIx))
    (fSeq (fSet 6 (e2 (eVar 1) (e2 (e2 (eVar 0) (eC (.int 64)) dDiv) (e1 (eVar 1) dLen) dMod) dIx))
    (fRet (eTup (aCons (eC (.str "tell")) (aCons (eVar 5) (aCons (eVar 6) (aCons (eCall 1 m_law_word (aCons (e2 (eVar 0) (eC (.int 512)) dDiv) aNil)) aNil)))))))) fNil)
    (fSeq (fIf (e2 (eVar 3) (eC (.int 5)) dLtA) (fSeq (fSet 7 (e2 (eC (.int 1)) (e2 (e2 (eVar 0) (eC (.int 8)) dDiv) (eC (.int 3)) dMod) dAddA))
    (fSeq (fOwn 8 (eLc (e1 (eVar 7) dRng1) (g1 9) tYs (e_law_step_1 r_law_step r_law_steps)))
    (fRet (eTup (aCons (eC (.str "choice")) (aCons (e1 (eVar 8) dTuple) aNil)))))) fNil)
    (fSeq (fSet 4 (eCall 4 r_law_steps (aCons (e2 (eCall 2 m_law_drawn (aCons (eVar 0) (aCons (eC (.int 4)) aNil))) (eC (.int 4)) dDiv) (aCons (eVar 1) (aCons (e2 (eVar 2) (eC (.int 1)) dSub) (aCons (eC (.int 2)) aNil))))))
    (fSeq (fIf (e2 (eVar 3) (eC (.int 5)) dEq) (fRet (eTup (aCons (eC (.str "round")) (aCons (eVar 4) aNil)))) fNil)
    (fRet (eTup (aCons (eC (.str "both")) (aCons (eVar 4) (aCons (eCall 4 r_law_steps (aCons (e2 (eCall 2 m_law_drawn (aCons (eVar 0) (aCons (eC (.int 5)) aNil))) (eC (.int 4)) dDiv) (aCons (eVar 1) (aCons (e2 (eVar 2) (eC (.int 1)) dSub) (aCons (eC (.int 2)) aNil))))) aNil))))))))))
def e_law_steps_1 (r_law_step : List PyData → Option PyData) (r_law_steps : List PyData → Option PyData) : Rho → Option PyData :=
    (eCall 3 r_law_step (aCons (e2 (eCall 2 m_law_drawn (aCons (eVar 0) (aCons (e2 (eC (.int 10)) (eVar 4) dAddA) aNil))) (eC (.int 4)) dDiv) (aCons (eVar 1) (aCons (eVar 2) aNil))))
def f_law_steps (r_law_step : List PyData → Option PyData) (r_law_steps : List PyData → Option PyData) : Rho → Option Fl :=
    (fRet (e1 (eL (eLc (e1 (e2 (eVar 0) (e2 (eVar 3) (eC (.int 1)) dAddA) dMod) dRng1) (g1 4) tYs (e_law_steps_1 r_law_step r_law_steps))) dTuple))
mutual
def m_law_step : Nat → List PyData → Option PyData
  | 0 => fun _ => none
  | n + 1 => runF 10 (f_law_step (m_law_step n) (m_law_steps n))
def m_law_steps : Nat → List PyData → Option PyData
  | 0 => fun _ => none
  | n + 1 => runF 5 (f_law_steps (m_law_step n) (m_law_steps n))
end
theorem u_law_step (n : Nat) : m_law_step (n + 1) = runF 10 (f_law_step (m_law_step n) (m_law_steps n)) := rfl
theorem u_law_steps (n : Nat) : m_law_steps (n + 1) = runF 5 (f_law_steps (m_law_step n) (m_law_steps n)) := rfl
def f_law_talk : Rho → Option Fl :=
    (fSeq (fSet 3 (e2 (eTup (aCons (eTup (aCons (eC (.str "a")) aNil)) (aCons (eTup (aCons (eC (.str "a")) (aCons (eC (.str "bob")) aNil))) (aCons (eTup (aCons (eC (.str "c")) (aCons (eC (.str "a")) (aCons (eC (.str "bob")) aNil)))) (aCons (eTup (aCons (eC (.str "d")) (aCons (eC (.str "bob")) (aCons (eC (.str "a")) (aCons (eC (.str "c")) aNil))))) aNil))))) (e2 (eVar 0) (eC (.int 4)) dMod) dIx))
    (fSeq (fSet 4 (eCall 1 m_law_word (aCons (e2 (e2 (eVar 0) (eC (.int 8)) dDiv) (eC (.int 6)) dMulA) aNil)))
    (fSeq (fIf (tAnd (e2 (e2 (e2 (eVar 0) (eC (.int 16)) dDiv) (eC (.int 3)) dMod) (eC (.int 0)) dEq) (e2 (eVar 4) (eVar 3) dNotIn)) (fSet 3 (e2 (eTup (aCons (eVar 4) aNil)) (eSl (eVar 3) (ePart (eC (.int 1))) eNoPart dSl) dAddA)) fNil)
    (fRet (eTup (aCons (eVar 3) (aCons (eCall 4 (m_law_steps fu_law_step) (aCons (e2 (eVar 0) (eC (.int 4)) dDiv) (aCons (eVar 3) (aCons (eVar 1) (aCons (eVar 2) aNil))))) aNil)))))))
def m_law_talk : List PyData → Option PyData := runF 5 f_law_talk
def f_law_other : Rho → Option Fl :=
    (fSeq (fAsg (g2 2 3) (eVar 0))
    (fSeq (fSet 4 (e2 (eVar 1) (eC (.int 8)) dMod))
    (fSeq (fIf (e2 (eVar 4) (eC (.int 0)) dEq) (fRet (eTup (aCons (eVar 2) (aCons (eTup (aCons (eTup (aCons (eC (.str "choice")) (aCons (eTup (aCons (eVar 3) (aCons (eVar 3) aNil))) aNil))) aNil)) aNil)))) fNil)
    (fSeq (fIf (e2 (eVar 4) (eC (.int 1)) dEq) (fRet (eTup (aCons (eVar 2) (aCons (eTup (aCons (eTup (aCons (eC (.str "both")) (aCons (eTup aNil) (aCons (eVar 3) aNil)))) aNil)) aNil)))) fNil)
    (fSeq (fIf (tAnd (e2 (eVar 4) (eC (.int 2)) dEq) (e2 (e1 (eVar 3) dLen) (eC (.int 4)) dLtA)) (fRet (eTup (aCons (eVar 2) (aCons (e2 (eVar 3) (eTup (aCons (eTup (aCons (eC (.str "round")) (aCons (eTup aNil) aNil))) aNil)) dAddA) aNil)))) fNil)
    (fSeq (fIf (e2 (eVar 4) (eC (.int 3)) dEq) (fRet (eTup (aCons (eVar 2) (aCons (eTup (aCons (eTup (aCons (eC (.str "choice")) (aCons (eTup (aCons (eVar 3) (aCons (eTup aNil) aNil))) aNil))) aNil)) aNil)))) fNil)
    (fSeq (fIf (e2 (eVar 4) (eC (.int 4)) dEq) (fRet (eTup (aCons (eVar 2) (aCons (eSl (eVar 3) (ePart (eC (.int 1))) eNoPart dSl) aNil)))) fNil)
    (fSeq (fIf (tAnd (e2 (eVar 4) (eC (.int 5)) dEq) (e2 (eVar 3) (eTup aNil) dNe)) (fRet (eTup (aCons (eVar 2) (aCons (eTup (aCons (eTup (aCons (eC (.str "both")) (aCons (eSl (eVar 3) eNoPart (ePart (eC (.int 1))) dSl) (aCons (eSl (eVar 3) (ePart (eC (.int 1))) eNoPart dSl) aNil)))) aNil)) aNil)))) fNil)
    (fSeq (fIf (e2 (eVar 4) (eC (.int 6)) dEq) (fRet (eTup (aCons (e1 (eVar 2) dRev) (aCons (eTup (aCons (eTup (aCons (eC (.str "round")) (aCons (eTup (aCons (eTup (aCons (eC (.str "round")) (aCons (eVar 3) aNil))) aNil)) aNil))) aNil)) aNil)))) fNil)
    (fRet (eCall 3 m_law_talk (aCons (e2 (eVar 1) (eC (.int 8)) dDiv) (aCons (eC (.int 1)) (aCons (eC (.int 2)) aNil))))))))))))))
def m_law_other : List PyData → Option PyData := runF 5 f_law_other
def b_law_less_1 (r_law_less : List PyData → Option PyData) (r_law_less_step : List PyData → Option PyData) : Rho → Option Fl :=
    (fSeq (fSet 3 (eCall 1 r_law_less_step (aCons (eVar 2) aNil)))
    (fIf (e2 (eVar 3) (eC .none) dIsNot) (fRet (e2 (e2 (eSl (eVar 0) eNoPart (ePart (eVar 1)) dSl) (eVar 3) dAddA) (eSl (eVar 0) (ePart (e2 (eVar 1) (eC (.int 1)) dAddA)) eNoPart dSl) dAddA)) fNil))
def f_law_less (r_law_less : List PyData → Option PyData) (r_law_less_step : List PyData → Option PyData) : Rho → Option Fl :=
    (fSeq (fFor (e1 (eVar 0) dEnum) (g2 1 2) [1, 2, 3] (b_law_less_1 r_law_less r_law_less_step))
    (fRet (eVar 0)))
def b_law_less_step_1 (r_law_less : List PyData → Option PyData) (r_law_less_step : List PyData → Option PyData) : Rho → Option Fl :=
    (fSeq (fIf (e2 (eVar 2) (eSl (e2 (eVar 0) (eC (.int 1)) dIx) eNoPart (ePart (eVar 1)) dSl) dIn) (fRet (eTup (aCons (eTup (aCons (eC (.str "choice")) (aCons (e2 (eSl (e2 (eVar 0) (eC (.int 1)) dIx) eNoPart (ePart (eVar 1)) dSl) (eSl (e2 (eVar 0) (eC (.int 1)) dIx) (ePart (e2 (eVar 1) (eC (.int 1)) dAddA)) eNoPart dSl) dAddA) aNil))) aNil))) fNil)
    (fSeq (fSet 3 (eCall 1 r_law_less (aCons (eVar 2) aNil)))
    (fIf (e2 (eVar 3) (eVar 2) dNe) (fRet (eTup (aCons (eTup (aCons (eC (.str "choice")) (aCons (e2 (e2 (eSl (e2 (eVar 0) (eC (.int 1)) dIx) eNoPart (ePart (eVar 1)) dSl) (eTup (aCons (eVar 3) aNil)) dAddA) (eSl (e2 (eVar 0) (eC (.int 1)) dIx) (ePart (e2 (eVar 1) (eC (.int 1)) dAddA)) eNoPart dSl) dAddA) aNil))) aNil))) fNil)))
def b_law_less_step_2 (r_law_less : List PyData → Option PyData) (r_law_less_step : List PyData → Option PyData) : Rho → Option Fl :=
    (fSeq (fSet 3 (eCall 1 r_law_less (aCons (e2 (eVar 0) (eVar 1) dIx) aNil)))
    (fIf (e2 (eVar 3) (e2 (eVar 0) (eVar 1) dIx) dNe) (fRet (eTup (aCons (e2 (e2 (eSl (eVar 0) eNoPart (ePart (eVar 1)) dSl) (eTup (aCons (eVar 3) aNil)) dAddA) (eSl (eVar 0) (ePart (e2 (eVar 1) (eC (.int 1)) dAddA)) eNoPart dSl) dAddA) aNil))) fNil))
def f_law_less_step (r_law_less : List PyData → Option PyData) (r_law_less_step : List PyData → Option PyData) : Rho → Option Fl :=
    (fSeq (fIf (e2 (e2 (eVar 0) (eC (.int 0)) dIx) (eC (.str "tell")) dEq) (fRet (eC .none)) fNil)
    (fSeq (fIf (e2 (e2 (eVar 0) (eC (.int 0)) dIx) (eC (.str "choice")) dEq) (fSeq (fIf (e2 (e1 (e2 (eVar 0) (eC (.int 1)) dIx) dLen) (eC (.int 1)) dEq) (fRet (e2 (e2 (eVar 0) (eC (.int 1)) dIx) (eC (.int 0)) dIx)) fNil)
    (fSeq (fFor (e1 (e2 (eVar 0) (eC (.int 1)) dIx) dEnum) (g2 1 2) [1, 2, 3] (b_law_less_step_1 r_law_less r_law_less_step))
    (fRet (eC .none)))) fNil)
    (fSeq (fIf (tAnd (e2 (e2 (eVar 0) (eC (.int 1)) dIx) (eTup aNil) dEq) (e2 (e2 (eVar 0) (eC (.int 0)) dIx) (eC (.str "round")) dEq)) (fRet (eTup aNil)) fNil)
    (fSeq (fIf (tAnd (e2 (e2 (eVar 0) (eC (.int 0)) dIx) (eC (.str "round")) dEq) (tAnd (e2 (e1 (e2 (eVar 0) (eC (.int 1)) dIx) dLen) (eC (.int 1)) dEq) (e2 (e2 (e2 (e2 (eVar 0) (eC (.int 1)) dIx) (eC (.int 0)) dIx) (eC (.int 0)) dIx) (eC (.str "round")) dEq))) (fRet (e2 (eVar 0) (eC (.int 1)) dIx)) fNil)
    (fSeq (fIf (tAnd (e2 (e2 (eVar 0) (eC (.int 0)) dIx) (eC (.str "both")) dEq) (e2 (eTup aNil) (eSl (eVar 0) (ePart (eC (.int 1))) eNoPart dSl) dIn)) (fRet (e2 (e2 (eVar 0) (eC (.int 1)) dIx) (e2 (eVar 0) (eC (.int 2)) dIx) dAddA)) fNil)
    (fSeq (fFor (e2 (eC (.int 1)) (e1 (eVar 0) dLen) dRng2) (g1 1) [1, 3] (b_law_less_step_2 r_law_less r_law_less_step))
    (fRet (eC .none))))))))
mutual
def m_law_less : Nat → List PyData → Option PyData
  | 0 => fun _ => none
  | n + 1 => runF 4 (f_law_less (m_law_less n) (m_law_less_step n))
def m_law_less_step : Nat → List PyData → Option PyData
  | 0 => fun _ => none
  | n + 1 => runF 4 (f_law_less_step (m_law_less n) (m_law_less_step n))
end
theorem u_law_less (n : Nat) : m_law_less (n + 1) = runF 4 (f_law_less (m_law_less n) (m_law_less_step n)) := rfl
theorem u_law_less_step (n : Nat) : m_law_less_step (n + 1) = runF 4 (f_law_less_step (m_law_less n) (m_law_less_step n)) := rfl
def b_law_1 : Rho → Option Fl :=
    (fSet 2 (eCall 1 (m_law_less fu_law_less) (aCons (eVar 2) aNil)))
def w_law_1 : Rho → Option Bool :=
    (e2 (eCall 1 (m_law_less fu_law_less) (aCons (eVar 2) aNil)) (eVar 2) dNe)
def f_law : Rho → Option Fl :=
    (fSeq (fSet 1 (eCall 3 m_law_talk (aCons (eCall 2 m_law_mixed (aCons (eVar 0) (aCons (eC (.int 0)) aNil))) (aCons (e2 (eCall 2 m_law_mixed (aCons (eVar 0) (aCons (eC (.int 1)) aNil))) (eC (.int 4)) dMod) (aCons (eC (.int 3)) aNil)))))
    (fSeq (fIf (e2 (e2 (eCall 2 m_law_mixed (aCons (eVar 0) (aCons (eC (.int 1)) aNil))) (eC (.int 4)) dMod) (eC (.int 2)) dLtA) (fSet 1 (eCall 2 m_law_other (aCons (eVar 1) (aCons (eCall 2 m_law_mixed (aCons (eVar 0) (aCons (eC (.int 2)) aNil))) aNil)))) fNil)
    (fSeq (fSet 2 (e2 (eVar 1) (eC (.int 1)) dIx))
    (fSeq (fWhile wf w_law_1 [] b_law_1)
    (fRet (eB (e2 (eCall 1 m_short (aCons (eVar 1) aNil)) (eTup (aCons (e2 (eVar 1) (eC (.int 0)) dIx) (aCons (eVar 2) aNil))) dEq)))))))
def m_law : List PyData → Option PyData := runF 3 f_law
end Lr

/-! MA_k60-short.lean -/
set_option Elab.async false
set_option linter.all false
set_option maxRecDepth 100000
namespace Lr
open PySem PySem.Spec PyProof.Rows L2 TF TK
theorem scr_len (ns : List Int) : dLen (scr ns) = some (.int ns.length) := by
  show some (PyData.int _) = _
  rw [List.length_map]
theorem scr_ix (ns : List Int) (k : Nat) (h : k < ns.length) : ∃ c : Int, dIx (scr ns) (.int k) = some (.int c) := by
  refine ⟨ns[k], ?_⟩
  show atI ((ns.map fun n => (PyData.int n, PyData.none)).map (·.1)) k = _
  rw [scr_fst]
  exact atI_nat (by rw [List.getElem?_map, List.getElem?_eq_getElem h] <;> rfl)
theorem cell_ok (ns : List Int) (k : Nat) : ∃ c : Int, m_law_cell_at [scr ns, .int k] = some (.int c) := by
  by_cases h : k < ns.length
  · obtain ⟨c, hc⟩ := scr_ix ns k h
    refine ⟨c, ?_⟩
    have h' : (k : Int) < (ns.length : Int) := by omega
    simp [m_law_cell_at, runF, f_law_cell_at, scr_len, hc, h']
  · refine ⟨0, ?_⟩
    have h' : ¬ (k : Int) < (ns.length : Int) := by omega
    simp [m_law_cell_at, runF, f_law_cell_at, scr_len, h']

theorem mod_lt' (a : Int) {b : Int} (h : 0 < b) : 0 ≤ a % b ∧ a % b < b := ⟨Int.emod_nonneg a (by omega), Int.emod_lt_of_pos a h⟩
theorem mixed_ok (ns : List Int) (k : Nat) (hk : k ≤ 100) : ∃ r : Int, m_law_mixed [scr ns, .int k] = some (.int r) ∧ 0 ≤ r ∧ r < 2147483629 := by
  obtain ⟨c, hc⟩ := cell_ok ns k
  obtain ⟨h0, h1⟩ := mod_lt' ((c + 7919 * (k : Int) + 1) * 48271) (b := 2147483647) (by decide)
  have q := mod_lt' ((c + 7919 * (k : Int) + 1) * 48271 % 2147483647 * ((c + 7919 * (k : Int) + 1) * 48271 % 2147483647) + 7 * ((c + 7919 * (k : Int) + 1) * 48271 % 2147483647) + k) (b := 2147483629) (by decide)
  refine ⟨_, ?_, q⟩
  have h2 : -18446744073709551616 < (c + 7919 * (k : Int) + 1) * 48271 % 2147483647 ∧ (c + 7919 * (k : Int) + 1) * 48271 % 2147483647 < 18446744073709551616 := ⟨by omega, by omega⟩
  simp [m_law_mixed, runF, f_law_mixed, hc, h2]
theorem drawn_ok (n k : Int) : ∃ r : Int, m_law_drawn [.int n, .int k] = some (.int r) ∧ 0 ≤ r ∧ r < 2147483629 := by
  obtain ⟨h0, h1⟩ := mod_lt' ((n + 104729 * k + 17) * 69621) (b := 2147483647) (by decide)
  have q := mod_lt' ((n + 104729 * k + 17) * 69621 % 2147483647 * ((n + 104729 * k + 17) * 69621 % 2147483647) + 3 * ((n + 104729 * k + 17) * 69621 % 2147483647) + k) (b := 2147483629) (by decide)
  refine ⟨_, ?_, q⟩
  have h2 : -18446744073709551616 < (n + 104729 * k + 17) * 69621 % 2147483647 ∧ (n + 104729 * k + 17) * 69621 % 2147483647 < 18446744073709551616 := ⟨by omega, by omega⟩
  simp [m_law_drawn, runF, f_law_drawn, h2]
/-- a name -/
def IsNm (w : Str) : Prop := 1 ≤ w.cps.size ∧ w.cps.size ≤ 5 ∧ ∀ c ∈ w.cps.toList, 97 ≤ c ∧ c ≤ 122
theorem nm_of {w : Str} (h : (decide (1 ≤ w.cps.size) && decide (w.cps.size ≤ 5) && w.cps.toList.all fun c => decide (97 ≤ c) && decide (c ≤ 122)) = true) : IsNm w := by
  simp only [Bool.and_eq_true, decide_eq_true_eq, List.all_eq_true] at h
  exact ⟨h.1.1, h.1.2, h.2⟩
theorem div_nn {a b : Int} (h : 0 ≤ a) (hb : 0 < b) : 0 ≤ a / b := Int.ediv_nonneg h (by omega)
theorem nat_of {a : Int} (h : 0 ≤ a) : ∃ n : Nat, a = n := ⟨a.toNat, by omega⟩
/-- a comprehension over a range whose elements are all told -/
theorem lc_rng {tg : PyData → Rho → Option Rho} {el : Rho → Option PyData} {ρ : Rho} (P : PyData → Prop) : ∀ (ds : List PyData), (∀ d ∈ ds, ∃ r y, tg d ρ = some r ∧ el r = some y ∧ P y) → ∃ ys, lcGo tg tYs el ρ ds = some ys ∧ ys.length = ds.length ∧ ∀ y ∈ ys, P y
  | [], _ => ⟨[], rfl, rfl, by simp⟩
  | d :: ds, h => by
    obtain ⟨r, y, h1, h2, h3⟩ := h d (by simp)
    obtain ⟨ys, h4, h5, h6⟩ := lc_rng P ds fun e he => h e (by simp [he])
    refine ⟨y :: ys, ?_, by simp [h5], by simpa using ⟨h3, h6⟩⟩
    unfold lcGo
    simp [h1, h2, h4]
theorem strs_one : ∀ (ys : List PyData), (∀ y ∈ ys, ∃ c : Nat, y = .str ⟨#[c]⟩ ∧ 97 ≤ c ∧ c ≤ 122) → ∃ cs : List Nat, strsD ys = some (cs.map fun c => ⟨#[c]⟩) ∧ cs.length = ys.length ∧ ∀ c ∈ cs, 97 ≤ c ∧ c ≤ 122
  | [], _ => ⟨[], rfl, rfl, by simp⟩
  | y :: ys, h => by
    obtain ⟨c, rfl, h1⟩ := h y (by simp)
    obtain ⟨cs, h2, h3, h4⟩ := strs_one ys fun z hz => h z (by simp [hz])
    exact ⟨c :: cs, by simp [strsD, h2], by simp [h3], by simpa using ⟨h1, h4⟩⟩
theorem dJoin_lst {a : Str} {ds : List PyData} {ys : List Str} (h : strsD ds = some ys) (hz : (ys.map (·.length)).sum + ys.length * a.length ≤ 16777216) : dJoin (.str a) (.list ds) = some (.str (Txt.join a ys)) := by
  show ((strsD ds).bind fun ys => if (ys.map (·.length)).sum + ys.length * a.length ≤ 16777216 then some (PyData.str (Txt.join a ys)) else none) = _
  rw [h]
  exact if_pos hz
theorem joinL_nil' : ∀ (ls : List (List Nat)), TL.joinL [] ls = ls.flatten
  | [] => rfl
  | [l] => by simp [TL.joinL]
  | l :: m :: r => by
    have := joinL_nil' (m :: r)
    simp only [TL.joinL, List.nil_append, List.flatten_cons] at this ⊢
    rw [this]
theorem join_signs (cs : List Nat) : (Txt.join ("" : Str) (cs.map fun c => ⟨#[c]⟩)).cps.toList = cs := by
  rw [TL.join_eq]
  have h := TL.tl_join ("" : Str) (cs.map fun c => ⟨#[c]⟩)
  have e : TL.tl ("" : Str) = [] := by decide
  rw [e, joinL_nil', List.map_map] at h
  have h2 : (cs.map (TL.tl ∘ fun c => (⟨#[c]⟩ : Str))).flatten = cs := by
    clear h
    induction cs with
    | nil => rfl
    | cons c cs ih => rw [List.map_cons, List.flatten_cons, ih]; rfl
  rw [h2] at h
  exact h
theorem word_ok (n : Int) (hn : 0 ≤ n) : ∃ w : Str, m_law_word [.int n] = some (.str w) ∧ IsNm w := by
  obtain ⟨h0, h1⟩ := mod_lt' n (b := 6) (by decide)
  by_cases hz : 0 < n % 6
  · have hc : n % 6 = 1 ∨ n % 6 = 2 ∨ n % 6 = 3 ∨ n % 6 = 4 ∨ n % 6 = 5 := by omega
    rcases hc with e | e | e | e | e
    · exact ⟨"hi", by simp [m_law_word, runF, f_law_word, e], nm_of (by decide)⟩
    · exact ⟨"go", by simp [m_law_word, runF, f_law_word, e], nm_of (by decide)⟩
    · exact ⟨"hi", by simp [m_law_word, runF, f_law_word, e], nm_of (by decide)⟩
    · exact ⟨"later", by simp [m_law_word, runF, f_law_word, e], nm_of (by decide)⟩
    · refine ⟨"go", ?_, nm_of (by decide)⟩
      simp [m_law_word, runF, f_law_word, e]
      rfl
  · have e : n % 6 = 0 := by omega
    obtain ⟨h2, h3⟩ := mod_lt' (n / 6) (b := 5) (by decide)
    obtain ⟨m, hm⟩ := nat_of (show 0 ≤ 1 + n / 6 % 5 by omega)
    have el : ∀ d ∈ rints 0 m, ∃ r y, g1 2 d [some (.int n), some (.str "abcdefghijklmnopqrstuvwxyz"), none] = some r ∧
        e_law_word_1 r = some y ∧ ∃ c : Nat, y = .str ⟨#[c]⟩ ∧ 97 ≤ c ∧ c ≤ 122 := by
      intro d hd
      unfold rints at hd
      rw [List.mem_map] at hd
      obtain ⟨i, _, rfl⟩ := hd
      obtain ⟨r, hr, hr0, _⟩ := drawn_ok n (i : Nat)
      obtain ⟨h4, h5⟩ := mod_lt' (r / 4) (b := 26) (by decide)
      obtain ⟨j, hj⟩ := nat_of h4
      have hj26 : j < 26 := by omega
      have hl : ("abcdefghijklmnopqrstuvwxyz" : Str).length ≤ sizeLine := by decide
      have hat : L2.atI ("abcdefghijklmnopqrstuvwxyz" : Str).cps.toList (j : Int) = some (97 + j) := by
        refine atI_nat ?_
        have : ∀ j < 26, ("abcdefghijklmnopqrstuvwxyz" : Str).cps.toList[j]? = some (97 + j) := by decide
        exact this j hj26
      refine ⟨_, .str ⟨#[97 + j]⟩, rfl, ?_, 97 + j, rfl, by omega, by omega⟩
      simp [e_law_word_1, hr, hj]
      simp [dIx, hl, hat]
    obtain ⟨ys, hy, hyl, hyp⟩ := lc_rng _ _ el
    obtain ⟨cs, hcs, hcl, hcp⟩ := strs_one ys hyp
    rw [rints_length] at hyl
    have hlen : cs.length ≤ 5 ∧ 1 ≤ cs.length := by omega
    refine ⟨Txt.join ("" : Str) (cs.map fun c => ⟨#[c]⟩), ?_, ?_⟩
    · have hs : ((cs.map fun c => (⟨#[c]⟩ : Str)).map (·.length)).sum = cs.length := by
        clear hcs hcl hcp hlen
        induction cs with
        | nil => rfl
        | cons c cs ih => simp only [List.map_cons, List.sum_cons, List.length_cons, ih]; show 1 + _ = _; omega
      have hz : ("" : Str).length = 0 := by decide
      have hm2 : -1000000 ≤ (m : Int) ∧ (m : Int) ≤ 1000000 := by omega
      simp [m_law_word, runF, f_law_word, e, hm, hm2]
      rw [hy]
      have hj : dJoin (.str "") (.list ys) = some (.str (Txt.join ("" : Str) (cs.map fun c => ⟨#[c]⟩))) := dJoin_lst hcs (by rw [hs, hz]; omega)
      simp [hj]
    · have ht := join_signs cs
      have hsz : (Txt.join ("" : Str) (cs.map fun c => ⟨#[c]⟩)).cps.size = cs.length := by rw [← Array.length_toList, ht]
      exact ⟨by omega, by omega, fun c hc => hcp c (by rw [ht] at hc; exact hc)⟩

/-- names as data -/
def hsD (hs : List Str) : PyData := .tuple (hs.map PyData.str)
/-- what is drawn: up to so deep -/
def WS (hs : List Str) : Nat → TK.Step → Prop
  | _, .tell a b w => a ∈ hs ∧ b ∈ hs ∧ IsNm w
  | d + 1, .choice bs => 1 ≤ bs.length ∧ bs.length ≤ 3 ∧ ∀ b ∈ bs, b.length ≤ 2 ∧ ∀ s ∈ b, WS hs d s
  | d + 1, .round s => s.length ≤ 2 ∧ ∀ x ∈ s, WS hs d x
  | d + 1, .both s t => (s.length ≤ 2 ∧ ∀ x ∈ s, WS hs d x) ∧ t.length ≤ 2 ∧ ∀ x ∈ t, WS hs d x
  | 0, .choice _ => False
  | 0, .round _ => False
  | 0, .both _ _ => False
theorem hs_ix {hs : List Str} (hne : hs ≠ []) (i : Int) : ∃ h, h ∈ hs ∧ dIx (hsD hs) (.int (i % (hs.length : Int))) = some (.str h) := by
  have hl : 0 < hs.length := List.length_pos_iff.mpr hne
  obtain ⟨h0, h1⟩ := mod_lt' i (b := (hs.length : Int)) (by omega)
  obtain ⟨j, hj⟩ := nat_of h0
  have hjl : j < hs.length := by omega
  refine ⟨hs[j], List.getElem_mem _, ?_⟩
  rw [hj]
  show atI (hs.map PyData.str) j = _
  exact atI_nat (by rw [List.getElem?_map, List.getElem?_eq_getElem hjl] <;> rfl)
theorem all_steps : ∀ {ys : List PyData} {P : TK.Step → Prop}, (∀ y ∈ ys, ∃ s, y = sD s ∧ P s) → ∃ ss : Steps, ys = ss.map sD ∧ ∀ s ∈ ss, P s
  | [], _, _ => ⟨[], rfl, by simp⟩
  | y :: ys, P, h => by
    obtain ⟨s, rfl, hs⟩ := h y (by simp)
    obtain ⟨ss, rfl, hss⟩ := all_steps (ys := ys) (P := P) fun z hz => h z (by simp [hz])
    exact ⟨s :: ss, rfl, by simpa using ⟨hs, hss⟩⟩
theorem all_stepss : ∀ {ys : List PyData} {P : Steps → Prop}, (∀ y ∈ ys, ∃ s, y = ssD s ∧ P s) → ∃ ss : List Steps, ys = ss.map ssD ∧ ∀ s ∈ ss, P s
  | [], _, _ => ⟨[], rfl, by simp⟩
  | y :: ys, P, h => by
    obtain ⟨s, rfl, hs⟩ := h y (by simp)
    obtain ⟨ss, rfl, hss⟩ := all_stepss (ys := ys) (P := P) fun z hz => h z (by simp [hz])
    exact ⟨s :: ss, rfl, by simpa using ⟨hs, hss⟩⟩
theorem rints_mem {n : Nat} {d : PyData} (h : d ∈ rints 0 n) : ∃ i : Nat, i < n ∧ d = .int (i : Int) := by
  unfold rints at h
  rw [List.mem_map] at h
  obtain ⟨i, hi, rfl⟩ := h
  exact ⟨i, List.mem_range.mp hi, by rw [Int.zero_add]⟩
theorem steps_of {hs : List Str} {d n : Nat} (S : ∀ num, 0 ≤ num → ∃ s, m_law_step n [.int num, hsD hs, .int d] = some (sD s) ∧ WS hs d s) (num most : Int) (hn : 0 ≤ num) (hm : 0 ≤ most) (hm2 : most ≤ 100) :
    ∃ ss : Steps, m_law_steps (n + 1) [.int num, hsD hs, .int d, .int most] = some (ssD ss) ∧ (ss.length : Int) ≤ most ∧ ∀ s ∈ ss, WS hs d s := by
  obtain ⟨h0, h1⟩ := mod_lt' num (b := most + 1) (by omega)
  obtain ⟨m, hm3⟩ := nat_of h0
  have el : ∀ e ∈ rints 0 m, ∃ r y, g1 4 e [some (.int num), some (hsD hs), some (.int d), some (.int most), none] = some r ∧
      e_law_steps_1 (m_law_step n) (m_law_steps n) r = some y ∧ ∃ s, y = sD s ∧ WS hs d s := by
    intro e he
    obtain ⟨i, _, rfl⟩ := rints_mem he
    obtain ⟨r, hr, hr0, _⟩ := drawn_ok num (10 + (i : Nat))
    obtain ⟨s, hs1, hs2⟩ := S (r / 4) (div_nn hr0 (by decide))
    exact ⟨_, sD s, rfl, by simp [e_law_steps_1, hr, hs1], s, rfl, hs2⟩
  obtain ⟨ys, hy, hyl, hyp⟩ := lc_rng _ _ el
  obtain ⟨ss, rfl, hss⟩ := all_steps hyp
  rw [rints_length, List.length_map] at hyl
  refine ⟨ss, ?_, by omega, hss⟩
  have hm4 : -1000000 ≤ (m : Int) ∧ (m : Int) ≤ 1000000 := by omega
  have hp : 0 < most + 1 := by omega
  simp [m_law_steps, runF, f_law_steps, hm3, hm4, hp]
  rw [hy]
  rfl
theorem dEq_int' (i j : Int) : dEq (.int i) (.int j) = some (decide (i = j)) := by rw [dEq_int, Bool.beq_eq_decide_eq]
theorem dLen_hs (hs : List Str) : dLen (hsD hs) = some (.int hs.length) := by
  show some (PyData.int _) = _
  rw [List.length_map]
theorem tell_of {hs : List Str} (hne : hs ≠ []) {n : Nat} (num : Int) (hn : 0 ≤ num) (d : Nat) (h : d = 0 ∨ num % 7 < 3) : ∃ s, m_law_step (n + 1) [.int num, hsD hs, .int d] = some (sD s) ∧ WS hs d s := by
  obtain ⟨a, ha, ea⟩ := hs_ix hne (num / 8)
  obtain ⟨b, hb, eb⟩ := hs_ix hne (num / 64)
  obtain ⟨w, ew, hw⟩ := word_ok (num / 512) (div_nn hn (by decide))
  refine ⟨.tell a b w, ?_, by unfold WS; exact ⟨ha, hb, hw⟩⟩
  have hl : 0 < hs.length := List.length_pos_iff.mpr hne
  have ht : (if decide ((d : Int) = 0) = true then some true else some (decide (num % 7 < 3))) = some true := by
    rcases h with h | h
    · subst h; rfl
    · rw [decide_eq_true h]; split <;> rfl
  rw [sD_tell]
  simp [m_law_step, runF, f_law_step, dEq_int', dLen_hs, hl, ea, eb, ew]
  simp at ht
  rcases h with h | h
  · simp [h]
  · simp [h]
theorem step_ok {hs : List Str} (hne : hs ≠ []) : ∀ d n : Nat, (∀ num, 0 ≤ num → ∃ s, m_law_step (n + 2 * d + 1) [.int num, hsD hs, .int d] = some (sD s) ∧ WS hs d s)
  | 0, n => fun num hn => tell_of hne num hn 0 (.inl rfl)
  | d + 1, n => fun num hn => by
    by_cases h3 : num % 7 < 3
    · exact tell_of hne num hn (d + 1) (.inr h3)
    have en : n + 2 * (d + 1) + 1 = (n + 2 * d + 1 + 1) + 1 := by omega
    rw [en]
    have T := fun (nu : Int) (h : 0 ≤ nu) => steps_of (step_ok hne d n) nu 2 h (by decide) (by decide)
    generalize n + 2 * d + 1 + 1 = N at T ⊢
    have ed : ((d + 1 : Nat) : Int) - 1 = d := by omega
    have hd0 : ¬ ((d : Int) + 1 = 0) := by omega
    by_cases h5 : num % 7 < 5
    · obtain ⟨h0, h1⟩ := mod_lt' (num / 8) (b := 3) (by decide)
      obtain ⟨m, hm⟩ := nat_of (show 0 ≤ 1 + num / 8 % 3 by omega)
      have el : ∀ e ∈ rints 0 m, ∃ r y, g1 9 e [some (.int num), some (hsD hs), some (.int ((d : Int) + 1)), some (.int (num % 7)), none, none, none, some (.int m), none, none] = some r ∧
          e_law_step_1 (m_law_step N) (m_law_steps N) r = some y ∧ ∃ s, y = ssD s ∧ ((s.length : Int) ≤ 2 ∧ ∀ x ∈ s, WS hs d x) := by
        intro e he
        obtain ⟨i, _, rfl⟩ := rints_mem he
        obtain ⟨r, hr, hr0, _⟩ := drawn_ok num (i : Nat)
        obtain ⟨ss, h7, h8, h9⟩ := T (r / 4) (div_nn hr0 (by decide))
        have e3 : (d : Int) + 1 - 1 = d := by omega
        refine ⟨_, ssD ss, rfl, ?_, ss, rfl, h8, h9⟩
        simp [e_law_step_1, hr, e3, h7]
      obtain ⟨ys, hy, hyl, hyp⟩ := lc_rng _ _ el
      obtain ⟨bs, rfl, hbs⟩ := all_stepss hyp
      rw [rints_length, List.length_map] at hyl
      refine ⟨.choice bs, ?_, ?_⟩
      · have hm4 : -1000000 ≤ (m : Int) ∧ (m : Int) ≤ 1000000 := by omega
        rw [sD_choice]
        simp [m_law_step, runF, f_law_step, dEq_int', hd0, h3, h5, hm, hm4]
        rw [hy]
        simp
      · unfold WS
        exact ⟨by omega, by omega, fun b hb => ⟨by have := (hbs b hb).1; omega, (hbs b hb).2⟩⟩
    · obtain ⟨r, hr, hr0, _⟩ := drawn_ok num 4
      obtain ⟨s1, h7, h8, h9⟩ := T (r / 4) (div_nn hr0 (by decide))
      have e3 : (d : Int) + 1 - 1 = d := by omega
      by_cases he : num % 7 = 5
      · refine ⟨.round s1, ?_, by unfold WS; exact ⟨by omega, h9⟩⟩
        rw [sD_round]
        simp [m_law_step, runF, f_law_step, dEq_int', hd0, he, hr, e3, h7]
      · obtain ⟨r2, hr2, hr20, _⟩ := drawn_ok num 5
        obtain ⟨s2, h10, h11, h12⟩ := T (r2 / 4) (div_nn hr20 (by decide))
        refine ⟨.both s1 s2, ?_, by unfold WS; exact ⟨⟨by omega, h9⟩, by omega, h12⟩⟩
        rw [sD_both]
        simp [m_law_step, runF, f_law_step, dEq_int', hd0, he, h3, h5, hr, hr2, e3, h7, h10]
theorem steps_ok {hs : List Str} (hne : hs ≠ []) (d n : Nat) (num most : Int) (hn : 0 ≤ num) (hm : 0 ≤ most) (hm2 : most ≤ 100) :
    ∃ ss : Steps, m_law_steps (n + 2 * d + 2) [.int num, hsD hs, .int d, .int most] = some (ssD ss) ∧ (ss.length : Int) ≤ most ∧ ∀ s ∈ ss, WS hs d s := steps_of (step_ok hne d n) num most hn hm hm2
/-- hands -/
def HsOk (hs : List Str) : Prop := 1 ≤ hs.length ∧ hs.length ≤ 4 ∧ hs.Nodup ∧ ∀ h ∈ hs, IsNm h
theorem HsOk.ne {hs : List Str} (h : HsOk hs) : hs ≠ [] := fun e => by have := h.1; rw [e] at this; simp at this
theorem pl_hs (hs : List Str) : pl (hsD hs) = true := pl_of (by unfold hsD; rw [plain_tup]; simp [plain_str]) (by
  unfold hsD
  exact Nat.le_trans (depth_tup (n := 0).mpr (by simp [depth_str])) (by decide))
theorem eqv_str (a b : Str) : PyData.eqv (.str a) (.str b) = decide (a = b) := by rw [PyData.eqv, Bool.beq_eq_decide_eq]
theorem any_str (a : Str) (hs : List Str) : ((hs.map PyData.str).any fun z => PyData.eqv z (.str a)) = decide (a ∈ hs) := by
  induction hs with
  | nil => rfl
  | cons h hs ih =>
    rw [List.map_cons, List.any_cons, ih, eqv_str]
    by_cases e : h = a
    · subst e; simp
    · have e' : ¬ a = h := fun z => e z.symm
      simp [e, e']
theorem dIn_hs (a : Str) (hs : List Str) : dIn (.str a) (hsD hs) = some (decide (a ∈ hs)) := by
  have := pl_hs hs
  unfold hsD at this ⊢
  show (if pl (.str a) = true ∧ pl (.tuple (hs.map PyData.str)) = true then some ((hs.map PyData.str).any fun z => PyData.eqv z (.str a)) else none) = _
  rw [if_pos ⟨rfl, this⟩, any_str]
theorem hands0 (num : Int) : ∃ hs : List Str, HsOk hs ∧ dIx (.tuple [.tuple [.str "a"], .tuple [.str "a", .str "bob"], .tuple [.str "c", .str "a", .str "bob"], .tuple [.str "d", .str "bob", .str "a", .str "c"]]) (.int (num % 4)) = some (hsD hs) := by
  obtain ⟨h0, h1⟩ := mod_lt' num (b := 4) (by decide)
  have hc : num % 4 = 0 ∨ num % 4 = 1 ∨ num % 4 = 2 ∨ num % 4 = 3 := by omega
  have n1 : IsNm "a" := nm_of (by decide)
  have n2 : IsNm "bob" := nm_of (by decide)
  have n3 : IsNm "c" := nm_of (by decide)
  have n4 : IsNm "d" := nm_of (by decide)
  rcases hc with e | e | e | e <;> rw [e]
  · exact ⟨["a"], ⟨by decide, by decide, by decide, by simpa using n1⟩, dIx_tup0⟩
  · exact ⟨["a", "bob"], ⟨by decide, by decide, by decide, by simpa using ⟨n1, n2⟩⟩, dIx_tup1⟩
  · exact ⟨["c", "a", "bob"], ⟨by decide, by decide, by decide, by simpa using ⟨n3, n1, n2⟩⟩, dIx_tup2⟩
  · exact ⟨["d", "bob", "a", "c"], ⟨by decide, by decide, by decide, by simpa using ⟨n4, n2, n1, n3⟩⟩, dIx_tup3⟩
theorem cut_tl {α : Type} (x : PyData) (l : List PyData) : cutD (x :: l) (some 1) none = l := cutD_from1
theorem talk_ok (num most : Int) (d : Nat) (hn : 0 ≤ num) (hm : 0 ≤ most) (hm2 : most ≤ 100) (hd : d ≤ 10) :
    ∃ (hs : List Str) (ss : Steps), m_law_talk [.int num, .int d, .int most] = some (.tuple [hsD hs, ssD ss]) ∧ HsOk hs ∧ (ss.length : Int) ≤ most ∧ ∀ s ∈ ss, WS hs d s := by
  obtain ⟨hs0, h1, h2⟩ := hands0 num
  obtain ⟨w, hw, hwn⟩ := word_ok (num / 8 * 6) (by have := div_nn hn (b := 8) (by decide); omega)
  by_cases hc : num / 16 % 3 = 0 ∧ w ∉ hs0
  · obtain ⟨x, r, rfl⟩ : ∃ x r, hs0 = x :: r := by
      cases hs0 with
      | nil => exact absurd rfl h1.ne
      | cons x r => exact ⟨x, r, rfl⟩
    have hok : HsOk (w :: r) := by
      obtain ⟨a1, a2, a3, a4⟩ := h1
      refine ⟨by simp, by simpa using a2, ?_, ?_⟩
      · rw [List.nodup_cons] at a3 ⊢
        exact ⟨fun z => hc.2 (by simp [z]), a3.2⟩
      · intro h hh
        rcases List.mem_cons.mp hh with rfl | hh
        · exact hwn
        · exact a4 h (by simp [hh])
    obtain ⟨ss, h3, h4, h5⟩ := steps_ok hok.ne d (30 - 2 * d - 2) (num / 4) most (div_nn hn (by decide)) hm hm2
    have ef : 30 - 2 * d - 2 + 2 * d + 2 = fu_law_step := by unfold fu_law_step; omega
    rw [ef] at h3
    refine ⟨w :: r, ss, ?_, hok, h4, h5⟩
    have hin := dIn_hs w (x :: r)
    rw [decide_eq_false hc.2] at hin
    have hl : r.length + 1 ≤ sizeLine := by have := h1.2.1; rw [List.length_cons] at this; rw [sizeLine_eq]; omega
    unfold hsD at h2 hin h3 ⊢
    simp only [List.map_cons] at h2 hin h3 ⊢
    simp [m_law_talk, runF, f_law_talk, h2, hw, dEq_int', hc.1, hin, cutD_from1, h3]
    simp [Nat.add_comm 1 r.length, hl, h3]
  · obtain ⟨ss, h3, h4, h5⟩ := steps_ok h1.ne d (30 - 2 * d - 2) (num / 4) most (div_nn hn (by decide)) hm hm2
    have ef : 30 - 2 * d - 2 + 2 * d + 2 = fu_law_step := by unfold fu_law_step; omega
    rw [ef] at h3
    refine ⟨hs0, ss, ?_, h1, h4, h5⟩
    have hin := dIn_hs w hs0
    by_cases h6 : num / 16 % 3 = 0
    · have h7 : w ∈ hs0 := by
        by_cases h7 : w ∈ hs0
        · exact h7
        · exact absurd ⟨h6, h7⟩ hc
      rw [decide_eq_true h7] at hin
      simp [m_law_talk, runF, f_law_talk, h2, hw, dEq_int', h6, hin, h3]
    · simp [m_law_talk, runF, f_law_talk, h2, hw, dEq_int', h6, h3]
theorem WS.dep {hs : List Str} : ∀ {d : Nat} {s : TK.Step}, WS hs d s → TK.dep s ≤ d
  | d, .tell a b w, _ => by rw [dep_tell]; exact Nat.zero_le _
  | d + 1, .choice bs, h => by
    unfold WS at h
    rw [dep_choice]
    have : (bs.map deps).foldr max 0 ≤ d := max_le.mpr (by
      simp only [List.mem_map, forall_exists_index, and_imp, forall_apply_eq_imp_iff₂]
      exact fun b hb => deps_le.mpr fun x hx => WS.dep ((h.2.2 b hb).2 x hx))
    omega
  | d + 1, .round s, h => by
    unfold WS at h
    rw [dep_round]
    have : deps s ≤ d := deps_le.mpr fun x hx => WS.dep (h.2 x hx)
    omega
  | d + 1, .both s t, h => by
    unfold WS at h
    rw [dep_both]
    have h1 : deps s ≤ d := deps_le.mpr fun x hx => WS.dep (h.1.2 x hx)
    have h2 : deps t ≤ d := deps_le.mpr fun x hx => WS.dep (h.2.2 x hx)
    omega
  | 0, .choice bs, h => by unfold WS at h; exact h.elim
  | 0, .round bs, h => by unfold WS at h; exact h.elim
  | 0, .both _ _, h => by unfold WS at h; exact h.elim
/-- the most rows of a step so deep -/
def HM : Nat → Nat
  | 0 => 1
  | d + 1 => 6 * HM d + 4
theorem sum_le_mul {α : Type} {f : α → Nat} {k : Nat} : ∀ (l : List α), (∀ x ∈ l, f x ≤ k) → (l.map f).sum ≤ l.length * k
  | [], _ => by simp
  | x :: l, h => by
    have h1 := h x (by simp)
    have h2 := sum_le_mul l fun y hy => h y (by simp [hy])
    simp only [List.map_cons, List.sum_cons, List.length_cons, Nat.add_mul]
    omega
theorem WS.hgt {hs : List Str} : ∀ {d : Nat} {s : TK.Step}, WS hs d s → TK.hgt s ≤ HM d
  | d, .tell a b w, _ => by
    rw [hgt_tell]
    cases d <;> (unfold HM; omega)
  | d + 1, .choice bs, h => by
    unfold WS at h
    rw [hgt_choice]
    have h1 : (bs.map hgts).sum ≤ bs.length * (2 * HM d) := sum_le_mul bs fun b hb => by
      have h2 : hgts b ≤ b.length * HM d := sum_le_mul b fun x hx => WS.hgt ((h.2.2 b hb).2 x hx)
      have h3 := (h.2.2 b hb).1
      exact Nat.le_trans h2 (Nat.mul_le_mul_right _ h3)
    have h4 : bs.length * (2 * HM d) ≤ 3 * (2 * HM d) := Nat.mul_le_mul_right _ h.2.1
    unfold HM
    omega
  | d + 1, .round s, h => by
    unfold WS at h
    rw [hgt_round]
    have h2 : hgts s ≤ s.length * HM d := sum_le_mul s fun x hx => WS.hgt (h.2 x hx)
    have h3 : s.length * HM d ≤ 2 * HM d := Nat.mul_le_mul_right _ h.1
    unfold HM
    omega
  | d + 1, .both s t, h => by
    unfold WS at h
    rw [hgt_both]
    have h2 : hgts s ≤ s.length * HM d := sum_le_mul s fun x hx => WS.hgt (h.1.2 x hx)
    have h3 : s.length * HM d ≤ 2 * HM d := Nat.mul_le_mul_right _ h.1.1
    have h4 : hgts t ≤ t.length * HM d := sum_le_mul t fun x hx => WS.hgt (h.2.2 x hx)
    have h5 : t.length * HM d ≤ 2 * HM d := Nat.mul_le_mul_right _ h.2.1
    unfold HM
    omega
  | 0, .choice bs, h => by unfold WS at h; exact h.elim
  | 0, .round bs, h => by unfold WS at h; exact h.elim
  | 0, .both _ _, h => by unfold WS at h; exact h.elim
theorem sl : sizeLine = 16777216 := sizeLine_eq
theorem s_ct : (("choice" : Str) == "tell") = false := by decide
theorem s_rt : (("round" : Str) == "tell") = false := by decide
theorem s_bt : (("both" : Str) == "tell") = false := by decide
theorem s_rc : (("round" : Str) == "choice") = false := by decide
theorem s_bc : (("both" : Str) == "choice") = false := by decide
theorem s_tc : (("tell" : Str) == "choice") = false := by decide
theorem dNe_str (a b : Str) : dNe (.str a) (.str b) = some (!(a == b)) := rfl
theorem ssD_eq (s : Steps) : ssD s = .tuple (s.map sD) := rfl
theorem dWalk_ss (s : Steps) : dWalk (ssD s) = some (s.map sD) := rfl
/-! .. by the program -/
theorem parts_choice (d : PyData) : m_parts_of [.tuple [.str "choice", d]] = some d := by kernel_rfl
theorem parts_round (d : PyData) : m_parts_of [.tuple [.str "round", d]] = some (.tuple [d]) := by kernel_rfl
theorem parts_both (d e : PyData) : m_parts_of [.tuple [.str "both", d, e]] = some (.tuple [d, e]) := by kernel_rfl
theorem parts_tell (a b c : PyData) : m_parts_of [.tuple [.str "tell", a, b, c]] = some (.tuple []) := by kernel_rfl
theorem wparts_choice (d : PyData) (xs : List PyData) : m_with_parts [.tuple [.str "choice", d], .list xs] = some (.tuple [.str "choice", .tuple xs]) := by kernel_rfl
theorem wparts_round (d x : PyData) : m_with_parts [.tuple [.str "round", d], .list [x]] = some (.tuple [.str "round", x]) := by kernel_rfl
theorem wparts_both (d e x y : PyData) : m_with_parts [.tuple [.str "both", d, e], .list [x, y]] = some (.tuple [.str "both", x, y]) := by kernel_rfl
/-- letters of a row that a hand writes, or gets -/
def seenL (h : Str) (row : List Lt) : List Lt := row.filter fun l => decide (h ∈ [l.1, l.2.1])
def rowD (row : List Lt) : PyData := .tuple (row.map ltD)
theorem rowD_nb (row : List Lt) : nb (rowD row) = true := by
  unfold rowD
  rw [nb_tup]
  simp only [List.mem_map, forall_exists_index, and_imp, forall_apply_eq_imp_iff₂]
  intro l _
  unfold ltD
  rw [nb_tup]
  simp [nb_str]
theorem rowD_pl (row : List Lt) : pl (rowD row) = true := pl_of (by
  unfold rowD
  rw [plain_tup]
  simp only [List.mem_map, forall_exists_index, and_imp, forall_apply_eq_imp_iff₂]
  intro l _
  unfold ltD
  rw [plain_tup]
  simp [plain_str]) (by
  unfold rowD
  refine Nat.le_trans (depth_tup (n := 1).mpr ?_) (by decide)
  simp only [List.mem_map, forall_exists_index, and_imp, forall_apply_eq_imp_iff₂]
  intro l _
  unfold ltD
  refine depth_tup (n := 0).mpr ?_
  simp [depth_str])
theorem hsD_nb (hs : List Str) : nb (hsD hs) = true := by unfold hsD; rw [nb_tup]; simp [nb_str]
/-- a talk as data -/
def tkD (hs : List Str) (s : Steps) : PyData := .tuple [hsD hs, ssD s]
theorem tkD_nb (hs : List Str) (s : Steps) : nb (tkD hs s) = true := by unfold tkD; rw [nb_tup]; simp [hsD_nb, ssD_nb]
theorem tkD_pl (hs : List Str) {s : Steps} (h : deps s ≤ 20) : pl (tkD hs s) = true := pl_of (by unfold tkD; rw [plain_tup]; simp [pl_plain (pl_hs hs), ssD_plain]) (by
  unfold tkD
  refine Nat.le_trans (depth_tup (n := 62).mpr ?_) (by decide)
  have h1 : (hsD hs).depth ≤ 1 := by unfold hsD; exact depth_tup.mpr (by simp [depth_str])
  have h2 := ssD_depth h
  simp
  omega)
/-! the parts of a step -/
def pts : TK.Step → List Steps
  | .tell _ _ _ => []
  | .choice bs => bs
  | .round l => [l]
  | .both l m => [l, m]
theorem parts_ok (x : TK.Step) : m_parts_of [sD x] = some (.tuple ((pts x).map ssD)) := by
  cases x with
  | tell a b w => rw [sD_tell]; exact parts_tell _ _ _
  | choice bs => rw [sD_choice]; exact parts_choice _
  | round l => rw [sD_round]; exact parts_round _
  | both l m => rw [sD_both]; exact parts_both _ _
theorem pts_dep {x : TK.Step} {n : Nat} (h : dep x ≤ n) : ∀ b ∈ pts x, deps b < n := fun b hb => by
  cases x with
  | tell a c w => cases hb
  | choice bs => have := dep_choice_le (bs := bs) (n := n - 1) (by rw [dep_choice] at h ⊢; omega) b hb; rw [dep_choice] at h; omega
  | round l => simp [pts] at hb; subst hb; rw [dep_round] at h; omega
  | both l m =>
    simp [pts] at hb
    rw [dep_both] at h
    rcases hb with rfl | rfl <;> omega
theorem pts_hgt (x : TK.Step) : ((pts x).map hgts).sum + (pts x).length + 1 ≤ hgt x := by
  cases x with
  | tell a c w => simp [pts, hgt_tell]
  | choice bs => rw [hgt_choice]; simp [pts]; omega
  | round l => rw [hgt_round]; simp [pts]; omega
  | both l m => rw [hgt_both]; simp [pts]; omega
theorem pts_hgt' {x : TK.Step} {b : Steps} (h : b ∈ pts x) : hgts b + 2 ≤ hgt x := by
  have h1 := hgts_memB h
  have h2 := pts_hgt x
  have h3 : 1 ≤ (pts x).length := List.length_pos_iff.mpr fun e => by rw [e] at h; cases h
  omega
/-- the letter of a step itself -/
def own1 : TK.Step → List Lt
  | .tell a b w => [(a, b, w)]
  | _ => []
theorem lts1_pts (x : TK.Step) : lts1 x = own1 x ++ ((pts x).map lts).flatten := by
  cases x with
  | tell a b w => simp [own1, pts, lts1_tell]
  | choice bs => simp [own1, pts, lts1_choice]
  | round l => simp [own1, pts, lts1_round]
  | both l m => simp [own1, pts, lts1_both]
/-- the kind -/
def isTell : TK.Step → Bool
  | .tell _ _ _ => true
  | _ => false
theorem kind_tell (x : TK.Step) : ((dIx (sD x) (.int 0)).bind fun d => dEq d (.str "tell")) = some (isTell x) := by
  cases x with
  | tell a b w => rw [sD_tell]; simp [dEq_str, isTell]
  | choice bs => rw [sD_choice]; simp [dEq_str, isTell, s_ct]
  | round l => rw [sD_round]; simp [dEq_str, isTell, s_rt]
  | both l m => rw [sD_both]; simp [dEq_str, isTell, s_bt]
def InH (hs : List Str) (s : Steps) : Prop := ∀ l ∈ lts s, l.1 ∈ hs ∧ l.2.1 ∈ hs
/-! hands of the drawn steps -/
theorem WS.inH {hs : List Str} : ∀ (d : Nat) (x : TK.Step), WS hs d x → ∀ l ∈ lts1 x, l.1 ∈ hs ∧ l.2.1 ∈ hs
  | d, .tell a b w, h, l, hl => by
    rw [lts1_tell] at hl
    have e : l = (a, b, w) := by simpa using hl
    subst e
    cases d <;> (unfold WS at h; exact ⟨h.1, h.2.1⟩)
  | 0, .choice _, h, _, _ => by unfold WS at h; exact h.elim
  | 0, .round _, h, _, _ => by unfold WS at h; exact h.elim
  | 0, .both _ _, h, _, _ => by unfold WS at h; exact h.elim
  | d + 1, .choice bs, h, l, hl => by
    unfold WS at h
    rw [lts1_choice] at hl
    obtain ⟨q, hq, hlq⟩ := List.mem_flatten.mp hl
    obtain ⟨b, hb, rfl⟩ := List.mem_map.mp hq
    obtain ⟨q, hq, hlq⟩ := List.mem_flatten.mp hlq
    obtain ⟨s, hs', rfl⟩ := List.mem_map.mp hq
    exact WS.inH d s ((h.2.2 b hb).2 s hs') l hlq
  | d + 1, .round t, h, l, hl => by
    unfold WS at h
    rw [lts1_round] at hl
    obtain ⟨q, hq, hlq⟩ := List.mem_flatten.mp hl
    obtain ⟨s, hs', rfl⟩ := List.mem_map.mp hq
    exact WS.inH d s (h.2 s hs') l hlq
  | d + 1, .both t u, h, l, hl => by
    unfold WS at h
    rw [lts1_both] at hl
    rcases List.mem_append.mp hl with hl | hl
    · obtain ⟨q, hq, hlq⟩ := List.mem_flatten.mp hl
      obtain ⟨s, hs', rfl⟩ := List.mem_map.mp hq
      exact WS.inH d s (h.1.2 s hs') l hlq
    · obtain ⟨q, hq, hlq⟩ := List.mem_flatten.mp hl
      obtain ⟨s, hs', rfl⟩ := List.mem_map.mp hq
      exact WS.inH d s (h.2.2 s hs') l hlq
theorem WSs.inH {hs : List Str} {d : Nat} {s : Steps} (h : ∀ x ∈ s, WS hs d x) : InH hs s := fun l hl => by
  obtain ⟨q, hq, hlq⟩ := List.mem_flatten.mp hl
  obtain ⟨x, hx, rfl⟩ := List.mem_map.mp hq
  exact WS.inH d x (h x hx) l hlq
theorem InH.append {hs : List Str} {a b : Steps} (h1 : InH hs a) (h2 : InH hs b) : InH hs (a ++ b) := fun l hl => by
  rw [lts_append] at hl
  rcases List.mem_append.mp hl with hl | hl
  · exact h1 l hl
  · exact h2 l hl
theorem WSs.dep {hs : List Str} {d : Nat} {s : Steps} (h : ∀ x ∈ s, WS hs d x) : deps s ≤ d := deps_le.mpr fun x hx => WS.dep (h x hx)
theorem WSs.hgt {hs : List Str} {d : Nat} {s : Steps} (h : ∀ x ∈ s, WS hs d x) (hd : d ≤ 3) (hl : s.length ≤ 10) : hgts s ≤ 30000 := by
  have h1 : hgts s ≤ s.length * HM d := sum_le_mul s fun x hx => WS.hgt (h x hx)
  have h2 : s.length * HM d ≤ 10 * HM d := Nat.mul_le_mul_right _ (by omega)
  have h3 : HM d ≤ 3000 := by
    have : d = 0 ∨ d = 1 ∨ d = 2 ∨ d = 3 := by omega
    rcases this with rfl | rfl | rfl | rfl <;> decide
  omega
theorem deps_append (a b : Steps) {n : Nat} (h1 : deps a ≤ n) (h2 : deps b ≤ n) : deps (a ++ b) ≤ n := deps_le.mpr fun x hx => by
  rcases List.mem_append.mp hx with hx | hx
  · exact deps_le.mp h1 x hx
  · exact deps_le.mp h2 x hx
/-! the short form -/
noncomputable def dg (f l : List Steps) : List Steps := l.foldl (fun f x => if x ∈ f then f else f ++ [x]) f
noncomputable def ded (l : List Steps) : List Steps := dg [] l
theorem dg_nil (f : List Steps) : dg f [] = f := rfl
theorem dg_cons (f : List Steps) (x : Steps) (l : List Steps) : dg f (x :: l) = dg (if x ∈ f then f else f ++ [x]) l := rfl
theorem dg_append (f a b : List Steps) : dg f (a ++ b) = dg (dg f a) b := by unfold dg; rw [List.foldl_append]
theorem dg_mem : ∀ (l f : List Steps) (x : Steps), x ∈ dg f l ↔ x ∈ f ∨ x ∈ l
  | [], f, x => by simp [dg_nil]
  | y :: l, f, x => by
    rw [dg_cons, dg_mem l]
    by_cases h : y ∈ f
    · rw [if_pos h]
      constructor
      · rintro (h1 | h1)
        · exact .inl h1
        · exact .inr (by simp [h1])
      · rintro (h1 | h1)
        · exact .inl h1
        · rcases List.mem_cons.mp h1 with rfl | h1
          · exact .inl h
          · exact .inr h1
    · rw [if_neg h]
      simp only [List.mem_append, List.mem_cons, List.not_mem_nil, or_false]
      exact or_assoc
theorem ded_mem {l : List Steps} {x : Steps} : x ∈ ded l ↔ x ∈ l := by unfold ded; rw [dg_mem]; simp
theorem dg_nodup : ∀ (l f : List Steps), f.Nodup → (dg f l).Nodup
  | [], f, h => h
  | y :: l, f, h => by
    rw [dg_cons]
    by_cases hy : y ∈ f
    · rw [if_pos hy]; exact dg_nodup l f h
    · rw [if_neg hy]
      refine dg_nodup l _ ?_
      rw [List.nodup_append]
      refine ⟨h, by simp, fun a ha b hb e => ?_⟩
      have : b = y := by simpa using hb
      subst this e
      exact hy ha
theorem ded_nodup (l : List Steps) : (ded l).Nodup := dg_nodup l [] List.nodup_nil
theorem dg_of : ∀ (l f : List Steps), (f ++ l).Nodup → dg f l = f ++ l
  | [], f, _ => by simp [dg_nil]
  | y :: l, f, h => by
    have hy : y ∉ f := fun z => by
      rw [List.nodup_append] at h
      exact h.2.2 y z y (by simp) rfl
    rw [dg_cons, if_neg hy, dg_of l (f ++ [y]) (by simpa using h)]
    simp
theorem ded_of {l : List Steps} (h : l.Nodup) : ded l = l := dg_of l [] (by simpa using h)
theorem dg_sum (g : Steps → Nat) : ∀ (l f : List Steps), ((dg f l).map g).sum ≤ (f.map g).sum + (l.map g).sum
  | [], f => by simp [dg_nil]
  | y :: l, f => by
    rw [dg_cons]
    by_cases hy : y ∈ f
    · rw [if_pos hy]
      have := dg_sum g l f
      simp only [List.map_cons, List.sum_cons]
      omega
    · rw [if_neg hy]
      have := dg_sum g l (f ++ [y])
      simp only [List.map_append, List.map_cons, List.map_nil, List.sum_append, List.sum_cons, List.sum_nil] at this ⊢
      omega
theorem ded_sum (g : Steps → Nat) (l : List Steps) : ((ded l).map g).sum ≤ (l.map g).sum := by unfold ded; have := dg_sum g l []; simpa using this
theorem ded_len (l : List Steps) : (ded l).length ≤ l.length := by
  have one : ∀ l : List Steps, (l.map fun _ => 1).sum = l.length := fun l => by
    induction l with
    | nil => rfl
    | cons x l ih => rw [List.map_cons, List.sum_cons, ih, List.length_cons]; omega
  have := ded_sum (fun _ => 1) l
  rw [one, one] at this
  exact this
noncomputable def chN (ps : List Steps) : Steps := match ded ps with
  | [p] => p
  | q => [.choice q]
def roN : Steps → Steps
  | [] => []
  | [.round m] => [.round m]
  | p => [.round p]
noncomputable def boN (p q : Steps) : Steps := if p = [] ∨ q = [] then p ++ q else [.both p q]
noncomputable def nf1 : TK.Step → Steps
  | .tell a b w => [.tell a b w]
  | .choice bs => chN (bs.map fun b => (b.map nf1).flatten)
  | .round l => roN (l.map nf1).flatten
  | .both l m => boN (l.map nf1).flatten (m.map nf1).flatten
termination_by s => sizeOf s
decreasing_by
  all_goals simp_wf
  all_goals first
    | (have h1 := List.sizeOf_lt_of_mem ‹b ∈ bs›; have h2 := List.sizeOf_lt_of_mem ‹_ ∈ b›; omega)
    | (have h2 := List.sizeOf_lt_of_mem ‹_ ∈ _›; omega)
noncomputable def nfs (s : Steps) : Steps := (s.map nf1).flatten
theorem nf1_tell (a b w : Str) : nf1 (.tell a b w) = [.tell a b w] := by rw [nf1]
theorem nf1_choice (bs : List Steps) : nf1 (.choice bs) = chN (bs.map nfs) := by rw [nf1]; rfl
theorem nf1_round (l : Steps) : nf1 (.round l) = roN (nfs l) := by rw [nf1]; rfl
theorem nf1_both (l m : Steps) : nf1 (.both l m) = boN (nfs l) (nfs m) := by rw [nf1]; rfl
theorem nfs_nil : nfs [] = [] := rfl
theorem nfs_cons (x : TK.Step) (s : Steps) : nfs (x :: s) = nf1 x ++ nfs s := by simp [nfs]
theorem nfs_append (a b : Steps) : nfs (a ++ b) = nfs a ++ nfs b := by simp [nfs]
theorem nfs_one (x : TK.Step) : nfs [x] = nf1 x := by simp [nfs]
inductive NF1 : TK.Step → Prop
  | tell (a b w : Str) : NF1 (.tell a b w)
  | choice (bs : List Steps) : bs.length ≠ 1 → bs.Nodup → (∀ b ∈ bs, ∀ s ∈ b, NF1 s) → NF1 (.choice bs)
  | round (l : Steps) : l ≠ [] → (∀ m, l ≠ [.round m]) → (∀ s ∈ l, NF1 s) → NF1 (.round l)
  | both (l m : Steps) : l ≠ [] → m ≠ [] → (∀ s ∈ l, NF1 s) → (∀ s ∈ m, NF1 s) → NF1 (.both l m)
def NFs (s : Steps) : Prop := ∀ x ∈ s, NF1 x
theorem chN_cases (ps : List Steps) : (∃ p, p ∈ ps ∧ ded ps = [p] ∧ chN ps = p) ∨ ((ded ps).length ≠ 1 ∧ chN ps = [.choice (ded ps)]) := by
  unfold chN
  have hm : ∀ p, p ∈ ded ps → p ∈ ps := fun p h => ded_mem.mp h
  generalize ded ps = q at hm ⊢
  match q with
  | [] => exact .inr ⟨by simp, rfl⟩
  | [p] => exact .inl ⟨p, hm p (by simp), rfl, rfl⟩
  | p :: q :: r => exact .inr ⟨by simp, rfl⟩
theorem roN_cases (p : Steps) : (p = [] ∧ roN p = []) ∨ (∃ m, p = [.round m] ∧ roN p = p) ∨ (p ≠ [] ∧ (∀ m, p ≠ [.round m]) ∧ roN p = [.round p]) := by
  match p with
  | [] => exact .inl ⟨rfl, rfl⟩
  | [.round m] => exact .inr (.inl ⟨m, rfl, rfl⟩)
  | [.tell a b w] => exact .inr (.inr ⟨by simp, by simp, rfl⟩)
  | [.choice bs] => exact .inr (.inr ⟨by simp, by simp, rfl⟩)
  | [.both l m] => exact .inr (.inr ⟨by simp, by simp, rfl⟩)
  | x :: y :: r => exact .inr (.inr ⟨by simp, by simp, by unfold roN; cases x <;> rfl⟩)
theorem nfs_NF : ∀ {s : Steps}, (∀ x ∈ s, NFs (nf1 x)) → NFs (nfs s)
  | [], _ => fun x hx => by cases hx
  | x :: s, h => fun y hy => by
    rw [nfs_cons] at hy
    rcases List.mem_append.mp hy with hy | hy
    · exact h x (by simp) y hy
    · exact nfs_NF (s := s) (fun z hz => h z (by simp [hz])) y hy
theorem nf1_NF : ∀ x : TK.Step, NFs (nf1 x) := by
  refine Step.ind ?_ ?_ ?_ ?_
  · intro a b w x hx
    rw [nf1_tell] at hx
    have : x = .tell a b w := by simpa using hx
    subst this
    exact .tell a b w
  · intro bs ih
    have ihb : ∀ p ∈ bs.map nfs, NFs p := fun p hp => by
      obtain ⟨b, hb, rfl⟩ := List.mem_map.mp hp
      exact nfs_NF (ih b hb)
    rw [nf1_choice]
    rcases chN_cases (bs.map nfs) with ⟨p, h1, h2, h3⟩ | ⟨h1, h2⟩
    · rw [h3]; exact ihb p h1
    · rw [h2]
      intro x hx
      have : x = .choice (ded (bs.map nfs)) := by simpa using hx
      subst this
      exact .choice _ h1 (ded_nodup _) fun b hb => ihb b (ded_mem.mp hb)
  · intro l ih
    have := nfs_NF ih
    rw [nf1_round]
    rcases roN_cases (nfs l) with ⟨h1, h2⟩ | ⟨m, h1, h2⟩ | ⟨h1, h2, h3⟩
    · rw [h2]; intro x hx; cases hx
    · rw [h2]; exact this
    · rw [h3]
      intro x hx
      have e : x = .round (nfs l) := by simpa using hx
      subst e
      exact .round _ h1 h2 this
  · intro l m h1 h2
    have g1 := nfs_NF h1
    have g2 := nfs_NF h2
    rw [nf1_both]
    unfold boN
    split
    · intro x hx
      rcases List.mem_append.mp hx with hx | hx
      · exact g1 x hx
      · exact g2 x hx
    · rename_i hne
      intro x hx
      have e : x = .both (nfs l) (nfs m) := by simpa using hx
      subst e
      exact .both _ _ (fun z => hne (.inl z)) (fun z => hne (.inr z)) g1 g2
theorem nf_NF (s : Steps) : NFs (nfs s) := nfs_NF fun x _ => nf1_NF x
theorem nfs_id : ∀ {s : Steps}, (∀ x ∈ s, nf1 x = [x]) → nfs s = s
  | [], _ => rfl
  | x :: s, h => by rw [nfs_cons, h x (by simp), nfs_id (s := s) fun y hy => h y (by simp [hy])]; rfl
theorem NF_nf : ∀ {x : TK.Step}, NF1 x → nf1 x = [x] := by
  intro x h
  induction h with
  | tell a b w => exact nf1_tell a b w
  | choice bs h1 h2 _ ih =>
    have e : bs.map nfs = bs := by
      have : bs.map nfs = bs.map id := List.map_congr_left fun b hb => nfs_id (ih b hb)
      rw [this, List.map_id]
    rw [nf1_choice, e]
    rcases chN_cases bs with ⟨p, _, h4, _⟩ | ⟨_, h4⟩
    · rw [ded_of h2] at h4; rw [h4] at h1; exact absurd rfl h1
    · rw [h4, ded_of h2]
  | round l h1 h2 _ ih =>
    rw [nf1_round, nfs_id ih]
    rcases roN_cases l with ⟨h3, _⟩ | ⟨m, h3, _⟩ | ⟨_, _, h3⟩
    · exact absurd h3 h1
    · exact absurd h3 (h2 m)
    · exact h3
  | both l m h1 h2 _ _ ih1 ih2 =>
    rw [nf1_both, nfs_id ih1, nfs_id ih2]
    unfold boN
    rw [if_neg (by rintro (z | z)
                   · exact h1 z
                   · exact h2 z)]
theorem NFs_nf {s : Steps} (h : NFs s) : nfs s = s := nfs_id fun x hx => NF_nf (h x hx)
theorem nfs_idem (s : Steps) : nfs (nfs s) = nfs s := NFs_nf (nf_NF s)
/-! bounds -/
theorem deps_mem {s : Steps} {x : TK.Step} (h : x ∈ s) : dep x ≤ deps s := deps_le.mp (Nat.le_refl _) x h
theorem nfs_dep' {n : Nat} : ∀ {s : Steps}, (∀ x ∈ s, deps (nf1 x) ≤ n) → deps (nfs s) ≤ n
  | [], _ => by simp [nfs_nil, deps]
  | x :: s, h => by
    rw [nfs_cons]
    exact deps_append _ _ (h x (by simp)) (nfs_dep' (s := s) fun y hy => h y (by simp [hy]))
theorem deps_one (x : TK.Step) : deps [x] = dep x := by simp [deps]
theorem nf1_dep : ∀ x : TK.Step, deps (nf1 x) ≤ dep x := by
  have up : ∀ {s : Steps}, (∀ x ∈ s, deps (nf1 x) ≤ dep x) → deps (nfs s) ≤ deps s := fun {s} h => nfs_dep' fun x hx => Nat.le_trans (h x hx) (deps_mem hx)
  refine Step.ind ?_ ?_ ?_ ?_
  · intro a b w; rw [nf1_tell, deps_one]; exact Nat.le_refl _
  · intro bs ih
    have hb : ∀ p ∈ bs.map nfs, deps p + 1 ≤ dep (.choice bs) := fun p hp => by
      obtain ⟨b, hb, rfl⟩ := List.mem_map.mp hp
      have h1 := up (ih b hb)
      have h2 := dep_choice_le (bs := bs) (n := dep (.choice bs) - 1) (by rw [dep_choice]; omega) b hb
      rw [dep_choice] at h2 ⊢
      omega
    rw [nf1_choice]
    rcases chN_cases (bs.map nfs) with ⟨p, h1, _, h3⟩ | ⟨_, h2⟩
    · rw [h3]; have := hb p h1; omega
    · rw [h2, deps_one, dep_choice]
      have : ((ded (bs.map nfs)).map deps).foldr max 0 ≤ dep (.choice bs) - 1 := max_le.mpr fun d hd => by
        obtain ⟨p, hp, rfl⟩ := List.mem_map.mp hd
        have := hb p (ded_mem.mp hp)
        omega
      have h1 : 1 ≤ dep (.choice bs) := by rw [dep_choice]; omega
      omega
  · intro l ih
    have := up ih
    rw [nf1_round, dep_round]
    rcases roN_cases (nfs l) with ⟨_, h2⟩ | ⟨m, _, h2⟩ | ⟨_, _, h3⟩
    · rw [h2]; simp [deps]
    · rw [h2]; omega
    · rw [h3, deps_one, dep_round]; omega
  · intro l m h1 h2
    have g1 := up h1
    have g2 := up h2
    rw [nf1_both, dep_both]
    unfold boN
    split
    · exact deps_append _ _ (by omega) (by omega)
    · rw [deps_one, dep_both]; omega
theorem nfs_dep (s : Steps) : deps (nfs s) ≤ deps s := nfs_dep' fun x hx => Nat.le_trans (nf1_dep x) (deps_mem hx)
theorem nfs_hgt' : ∀ {s : Steps}, (∀ x ∈ s, hgts (nf1 x) ≤ hgt x) → hgts (nfs s) ≤ hgts s
  | [], _ => by simp [nfs_nil, hgts_nil]
  | x :: s, h => by
    have h1 := h x (by simp)
    have h2 := nfs_hgt' (s := s) fun y hy => h y (by simp [hy])
    rw [nfs_cons, hgts_append, hgts_cons]; omega
theorem hgts_one (x : TK.Step) : hgts [x] = hgt x := by rw [hgts_cons, hgts_nil, Nat.add_zero]
theorem sum_le_sum' {α : Type} {f g : α → Nat} : ∀ (l : List α), (∀ x ∈ l, f x ≤ g x) → (l.map f).sum ≤ (l.map g).sum
  | [], _ => by simp
  | x :: l, h => by
    have h1 := h x (by simp)
    have h2 := sum_le_sum' l fun y hy => h y (by simp [hy])
    simp only [List.map_cons, List.sum_cons]
    omega
theorem nf1_hgt : ∀ x : TK.Step, hgts (nf1 x) ≤ hgt x := by
  refine Step.ind ?_ ?_ ?_ ?_
  · intro a b w; rw [nf1_tell, hgts_one]; exact Nat.le_refl _
  · intro bs ih
    have hs := sum_le_sum' (f := hgts ∘ nfs) (g := hgts) bs fun b hb => nfs_hgt' (ih b hb)
    rw [← List.map_map] at hs
    rw [nf1_choice, hgt_choice]
    rcases chN_cases (bs.map nfs) with ⟨p, h1, _, h3⟩ | ⟨_, h2⟩
    · rw [h3]; have := hgts_memB h1; omega
    · rw [h2, hgts_one, hgt_choice]
      have h4 := ded_sum hgts (bs.map nfs)
      have h5 := ded_len (bs.map nfs)
      rw [List.length_map] at h5
      omega
  · intro l ih
    have := nfs_hgt' ih
    rw [nf1_round, hgt_round]
    rcases roN_cases (nfs l) with ⟨_, h2⟩ | ⟨m, _, h2⟩ | ⟨_, _, h3⟩
    · rw [h2, hgts_nil]; omega
    · rw [h2]; omega
    · rw [h3, hgts_one, hgt_round]; omega
  · intro l m h1 h2
    have g1 := nfs_hgt' h1
    have g2 := nfs_hgt' h2
    rw [nf1_both, hgt_both]
    unfold boN
    split
    · rw [hgts_append]; omega
    · rw [hgts_one, hgt_both]; omega
theorem nfs_hgt (s : Steps) : hgts (nfs s) ≤ hgts s := nfs_hgt' fun x _ => nf1_hgt x
/-! a body, one statement at a time -/
theorem seq_nx {g h : Rho → Option Fl} {ρ ρ' : Rho} {r : Option Fl} (h1 : g ρ = some (.nx ρ')) (h2 : h ρ' = r) : fSeq g h ρ = r := by
  rw [fSeq_ev, h1]; exact h2
theorem seq_if {t : Rho → Option Bool} {g h : Rho → Option Fl} {ρ : Rho} {r : Option Fl} (h1 : t ρ = some false) (h2 : h ρ = r) : fSeq (fIf t g fNil) h ρ = r := seq_nx (by rw [fIf_ev, h1]; rfl) h2
theorem or_ff {s t : Rho → Option Bool} {ρ : Rho} (h1 : s ρ = some false) (h2 : t ρ = some false) : TF.tOr s t ρ = some false := by rw [tOr_ev, h1]; exact h2
theorem run_of {n : Nat} {f : Rho → Option Fl} {ds : List PyData} {d : PyData} (h : f (ds.map some ++ List.replicate (n - ds.length) none) = some (.rt d)) : runF n f ds = some d := by
  unfold runF; rw [h]; rfl
theorem call1 {m : List PyData → Option PyData} {f : Rho → Option PyData} {ρ : Rho} {x d : PyData} (h1 : f ρ = some x) (h2 : m [x] = some d) : eCall 1 m (aCons f aNil) ρ = some d := by
  rw [eCall_ev, aCons_ev, h1]; exact h2
theorem call2 {m : List PyData → Option PyData} {f g : Rho → Option PyData} {ρ : Rho} {x y d : PyData} (h1 : f ρ = some x) (h3 : g ρ = some y) (h2 : m [x, y] = some d) : eCall 2 m (aCons f (aCons g aNil)) ρ = some d := by
  rw [eCall_ev, aCons_ev, h1, Option.bind_some, aCons_ev, h3]; exact h2
theorem e2_of {α : Type} {f g : Rho → Option PyData} {k : PyData → PyData → Option α} {ρ : Rho} {x y : PyData} {d : Option α} (h1 : f ρ = some x) (h2 : g ρ = some y) (h3 : k x y = d) : TF.e2 f g k ρ = d := by
  rw [e2_ev, h1, Option.bind_some, h2]; exact h3
theorem e1_of {α : Type} {f : Rho → Option PyData} {k : PyData → Option α} {ρ : Rho} {x : PyData} {d : Option α} (h1 : f ρ = some x) (h3 : k x = d) : e1 f k ρ = d := by
  rw [e1_ev, h1]; exact h3
theorem tup1 {f : Rho → Option PyData} {ρ : Rho} {x : PyData} (h1 : f ρ = some x) : eTup (aCons f aNil) ρ = some (.tuple [x]) := by
  rw [eTup_ev, aCons_ev, h1]; rfl
theorem tup2 {f g : Rho → Option PyData} {ρ : Rho} {x y : PyData} (h1 : f ρ = some x) (h2 : g ρ = some y) : eTup (aCons f (aCons g aNil)) ρ = some (.tuple [x, y]) := by
  rw [eTup_ev, aCons_ev, h1, Option.bind_some, aCons_ev, h2]; rfl
def kindS : TK.Step → Str
  | .tell _ _ _ => "tell"
  | .choice _ => "choice"
  | .round _ => "round"
  | .both _ _ => "both"
theorem kind_at (x : TK.Step) : dIx (sD x) (.int 0) = some (.str (kindS x)) := by
  cases x with
  | tell a b w => rw [sD_tell]; simp [kindS]
  | choice bs => rw [sD_choice]; simp [kindS]
  | round l => rw [sD_round]; simp [kindS]
  | both l m => rw [sD_both]; simp [kindS]
theorem kind_ne {x : TK.Step} (h : isTell x = false) : (kindS x == "tell") = false := by
  cases x with
  | tell a b w => cases h
  | choice bs => exact s_ct
  | round l => exact s_rt
  | both l m => exact s_bt
theorem dIx_lst0 {x : PyData} {ds : List PyData} : dIx (.list (x :: ds)) (.int 0) = some x := by
  show L2.atI (x :: ds) 0 = some x
  exact atI_nat (j := 0) rfl
theorem dIx_lst1 {x y : PyData} {ds : List PyData} : dIx (.list (x :: y :: ds)) (.int 1) = some y := by
  show L2.atI (x :: y :: ds) 1 = some y
  exact atI_nat (j := 1) rfl
/-! short, by the program -/
theorem any_ss (p : Steps) (l : List Steps) : ((l.map ssD).any fun z => PyData.eqv z (ssD p)) = decide (p ∈ l) := by
  induction l with
  | nil => rfl
  | cons h hs ih =>
    rw [List.map_cons, List.any_cons, ih, eqv_ssD]
    by_cases e : h = p
    · subst e; simp
    · have e' : ¬ p = h := fun z => e z.symm
      simp [e, e']
theorem pl_lss {l : List Steps} {n : Nat} (h : ∀ p ∈ l, deps p ≤ 19) : pl (.list (l.map ssD)) = true := pl_of (by
  rw [plain_lst]
  intro d hd
  obtain ⟨p, _, rfl⟩ := List.mem_map.mp hd
  exact ssD_plain p) (by
  refine Nat.le_trans (depth_lst (n := 60).mpr ?_) (by decide)
  intro d hd
  obtain ⟨p, hp, rfl⟩ := List.mem_map.mp hd
  have := ssD_depth (h p hp)
  omega)
theorem dNotIn_ss {p : Steps} {l : List Steps} (hp : deps p ≤ 19) (h : ∀ q ∈ l, deps q ≤ 19) : dIn (ssD p) (.list (l.map ssD)) = some (decide (p ∈ l)) := by
  show (if pl (ssD p) = true ∧ pl (.list (l.map ssD)) = true then some ((l.map ssD).any fun z => PyData.eqv z (ssD p)) else none) = _
  rw [if_pos ⟨pl_ssD (by omega), pl_lss (n := 0) h⟩, any_ss]
theorem unlike_ok {l : List Steps} (h : ∀ q ∈ l, deps q ≤ 19) (hl : l.length ≤ 100000) : m_unlike_ones [.list (l.map ssD)] = some (.list ((ded l).map ssD)) := by
  have hf := forGo_map (e := ssD) (tg := g1 2) (body := b_unlike_ones_1) (ks := [2]) (fun pre => [some (.list (l.map ssD)), some (.list ((ded pre).map ssD)), none]) l (fun pre x post hx => by
    refine ⟨_, [some (.list (l.map ssD)), some (.list ((ded (pre ++ [x])).map ssD)), some (ssD x)], rfl, .inl ?_, rfl⟩
    have hn := dNotIn_ss (p := x) (l := ded pre) (h x (by rw [hx]; simp)) (fun q hq => h q (by rw [hx]; exact List.mem_append_left _ (ded_mem.mp hq)))
    have hz : (ded pre).length < sizeLine := by
      have := ded_len pre
      rw [hx, List.length_append] at hl
      rw [sl]; omega
    have e : ded (pre ++ [x]) = if x ∈ ded pre then ded pre else ded pre ++ [x] := by unfold ded; rw [dg_append, dg_cons, dg_nil]
    rw [e]
    by_cases hi : x ∈ ded pre
    · rw [if_pos hi]
      rw [decide_eq_true hi] at hn
      simp [b_unlike_ones_1, hn]
    · rw [if_neg hi]
      rw [decide_eq_false hi] at hn
      simp [b_unlike_ones_1, hn, hz])
  have hf' : forGo (g1 2) b_unlike_ones_1 [2] (l.map ssD) [some (.list (l.map ssD)), some (.list []), none] = some (.nx [some (.list (l.map ssD)), some (.list ((ded l).map ssD)), none]) := hf
  simp [m_unlike_ones, runF, f_unlike_ones, hf']
theorem short_step_body {rr rs : List PyData → Option PyData} {x : TK.Step} (hd : dep x ≤ 19) (hh : hgt x ≤ 100000) (hr : ∀ b ∈ pts x, rs [ssD b] = some (ssD (nfs b))) : runF 3 (f_short_step rr rs) [sD x] = some (ssD (nf1 x)) := by
  have hlc := lcGo_map (e := ssD) (tg := g1 2) (el := e_short_step_1 rr rs) (ρ := [some (sD x), none, none]) (fun b => ssD (nfs b)) (pts x) (fun b hb => ⟨_, rfl, by simp [e_short_step_1, hr b hb]⟩)
  have hp := parts_ok x
  have e2 : ((pts x).map fun b => ssD (nfs b)) = ((pts x).map nfs).map ssD := by rw [List.map_map]; rfl
  rw [e2] at hlc
  cases x with
  | tell a b w =>
    rw [nf1_tell]
    simp [runF, f_short_step, sD_tell, dEq_str, ssD_eq]
  | choice bs =>
    rw [nf1_choice]
    have hb : ∀ q ∈ bs.map nfs, deps q ≤ 19 := fun q hq => by
      obtain ⟨b, hb, rfl⟩ := List.mem_map.mp hq
      have := pts_dep hd (b := b) hb
      have := nfs_dep b
      omega
    have hln : (bs.map nfs).length ≤ 100000 := by
      rw [hgt_choice] at hh
      rw [List.length_map]; omega
    have hu := unlike_ok hb hln
    rw [sD_choice] at hlc hp ⊢
    have hlc' : lcGo (g1 2) tYs (e_short_step_1 rr rs) [some (.tuple [.str "choice", .tuple (bs.map ssD)]), none, none] ((pts (.choice bs)).map ssD) = some ((bs.map nfs).map ssD) := hlc
    simp only [runF, f_short_step]
    rcases chN_cases (bs.map nfs) with ⟨p, _, h2, h3⟩ | ⟨h1, h2⟩
    · rw [h2] at hu
      rw [h3]
      simp only [List.map_cons, List.map_nil] at hu
      simp [dEq_str, s_ct, hp, hlc', hu, dEq_int, dIx_lst0, -List.map_map]
    · rw [h2]
      have h1' : ¬ (((ded (bs.map nfs)).length : Int) = 1) := by omega
      simp [dEq_str, s_ct, hp, show (("choice" : Str) == "round") = false by decide, hlc', hu, dEq_int, h1', wparts_choice, ssD_eq, sD_choice, -List.map_map]
  | round l =>
    rw [nf1_round]
    have hlc' : lcGo (g1 2) tYs (e_short_step_1 rr rs) [some (.tuple [.str "round", ssD l]), none, none] [ssD l] = some [ssD (nfs l)] := by
      rw [sD_round] at hlc; exact hlc
    rw [sD_round] at hp ⊢
    have hp' : m_parts_of [.tuple [.str "round", ssD l]] = some (.tuple [ssD l]) := hp
    simp only [runF, f_short_step]
    rcases roN_cases (nfs l) with ⟨h1, h2⟩ | ⟨m, h1, h2⟩ | ⟨h1, h2, h3⟩
    · rw [h2]
      have e0 : ssD [] = .tuple [] := rfl
      rw [h1, e0] at hlc'
      rw [e0]
      simp [dEq_str, s_rt, s_rc, hp', hlc', dIx_lst0, dEq_int]
    · rw [h2, h1]
      rw [h1] at hlc'
      have e3 : ssD [TK.Step.round m] = .tuple [.tuple [.str "round", ssD m]] := by rw [ssD_eq]; simp [sD_round]
      rw [e3] at hlc' ⊢
      simp [dEq_str, s_rt, s_rc, hp', hlc', dIx_lst0, dEq_int, dEq_str]
    · rw [h3]
      have hz : (nfs l).length ≠ 0 := fun z => h1 (List.eq_nil_of_length_eq_zero z)
      have hz' : ¬ (((nfs l).length : Int) = 0) := by omega
      have hlen : dLen (ssD (nfs l)) = some (.int ((nfs l).length : Nat)) := by rw [ssD_eq]; simp
      by_cases h1l : (nfs l).length = 1
      · obtain ⟨y, hy⟩ := List.length_eq_one_iff.mp h1l
        have hk := kind_at y
        have hy2 : ssD (nfs l) = .tuple [sD y] := by rw [hy, ssD_eq]; rfl
        have hkn : (kindS y == "round") = false := by
          cases y with
          | tell a b w => exact (by decide : (("tell" : Str) == "round") = false)
          | choice bs => exact (by decide : (("choice" : Str) == "round") = false)
          | both a b => exact (by decide : (("both" : Str) == "round") = false)
          | round m => exact absurd hy (h2 m)
        have e4 : ssD [TK.Step.round (nfs l)] = .tuple [.tuple [.str "round", .tuple [sD y]]] := by rw [ssD_eq, ← hy2]; simp [sD_round]
        rw [e4]
        rw [hy2] at hlc'
        simp [dEq_str, s_rt, s_rc, hp', hlc', dIx_lst0, dEq_int, hk, hkn, wparts_round]
      · have h1l' : ¬ (((nfs l).length : Int) = 1) := by omega
        simp [dEq_str, s_rt, s_rc, hp', hlc', dIx_lst0, hlen, dEq_int, hz', h1, h1l, h1l', wparts_round, ssD_eq [_], sD_round]
  | both l m =>
    rw [nf1_both]
    have hlc' : lcGo (g1 2) tYs (e_short_step_1 rr rs) [some (.tuple [.str "both", ssD l, ssD m]), none, none] [ssD l, ssD m] = some [ssD (nfs l), ssD (nfs m)] := by
      rw [sD_both] at hlc; exact hlc
    rw [sD_both] at hp ⊢
    have hp' : m_parts_of [.tuple [.str "both", ssD l, ssD m]] = some (.tuple [ssD l, ssD m]) := hp
    have hlen : ∀ q : Steps, dLen (ssD q) = some (.int (q.length : Nat)) := fun q => by rw [ssD_eq]; simp
    have hne : ∀ {q : Steps}, q ≠ [] → ¬ ((q.length : Int) = 0) := fun {q} z e => z (List.eq_nil_of_length_eq_zero (by omega))
    have hzz : (nfs l).length + (nfs m).length ≤ sizeLine := by
      have h1 := len_hgts (nfs l)
      have h2 := len_hgts (nfs m)
      have h3 := nfs_hgt l
      have h4 := nfs_hgt m
      rw [hgt_both] at hh
      rw [sl]; omega
    have hadd : dAddA (ssD (nfs l)) (ssD (nfs m)) = some (ssD (nfs l ++ nfs m)) := by simp [ssD_eq, hzz]
    simp only [runF, f_short_step]
    have sbr : (("both" : Str) == "round") = false := by decide
    unfold boN
    by_cases z1 : nfs l = []
    · simp [dEq_str, s_bt, s_bc, hp', sbr, hlc', dIx_lst0, dIx_lst1, hlen, dEq_int, z1]
      rw [z1] at hadd
      simp [hadd]
    · have z1' := hne z1
      by_cases z2 : nfs m = []
      · simp [dEq_str, s_bt, s_bc, hp', sbr, hlc', dIx_lst0, dIx_lst1, hlen, dEq_int, z1, z1', z2]
        rw [z2] at hadd
        simp at hadd
        simp [hadd]
      · have z2' := hne z2
        simp [dEq_str, s_bt, s_bc, hp', sbr, hlc', dIx_lst0, dIx_lst1, hlen, dEq_int, z1, z1', z2, z2', wparts_both, ssD_eq [_], sD_both]
theorem short_steps_body {rr rs : List PyData → Option PyData} {s : Steps} (hh : hgts s ≤ 100000) (hr : ∀ x ∈ s, rr [sD x] = some (ssD (nf1 x))) : runF 3 (f_short_steps rr rs) [ssD s] = some (ssD (nfs s)) := by
  have hf := forGo_map (e := sD) (tg := g1 2) (body := b_short_steps_1 rr rs) (ks := [2]) (fun pre => [some (ssD s), some (ssD (nfs pre)), none]) s (fun pre x post hx => by
    refine ⟨_, [some (ssD s), some (ssD (nfs (pre ++ [x]))), some (sD x)], rfl, .inl ?_, rfl⟩
    have hz : (nfs pre).length + (nf1 x).length ≤ sizeLine := by
      have h1 := len_hgts (nfs (pre ++ [x]))
      have h2 := nfs_hgt (pre ++ [x])
      rw [nfs_append, nfs_one, List.length_append] at h1
      rw [nfs_append, nfs_one, hgts_append] at h2
      rw [hgts_append] at h1
      rw [hx, hgts_append] at hh
      rw [hgts_append, hgts_one] at h2
      rw [hgts_cons] at hh
      rw [sl]; omega
    have e : ssD (nfs (pre ++ [x])) = ssD (nfs pre ++ nf1 x) := by rw [nfs_append, nfs_one]
    have hadd : dAddA (ssD (nfs pre)) (ssD (nf1 x)) = some (ssD (nfs pre ++ nf1 x)) := by simp [ssD_eq, hz]
    rw [e]
    simp [b_short_steps_1, hr x (by rw [hx]; simp), hadd])
  have hf' : forGo (g1 2) (b_short_steps_1 rr rs) [2] (s.map sD) [some (ssD s), some (.tuple []), none] = some (.nx [some (ssD s), some (ssD (nfs s)), none]) := hf
  simp [runF, f_short_steps, dWalk_ss, hf']
theorem short_ok : ∀ (d n : Nat), d ≤ 19 → (∀ x : TK.Step, dep x ≤ d → hgt x ≤ 100000 → m_short_step (n + 2 * d + 1) [sD x] = some (ssD (nf1 x))) ∧ ∀ s : Steps, deps s ≤ d → hgts s ≤ 100000 → m_short_steps (n + 2 * d + 2) [ssD s] = some (ssD (nfs s))
  | 0, n, _ => by
    have h1 : ∀ x : TK.Step, dep x ≤ 0 → hgt x ≤ 100000 → m_short_step (n + 2 * 0 + 1) [sD x] = some (ssD (nf1 x)) := fun x hd hh => by
      rw [u_short_step]
      exact short_step_body (by omega) hh fun b hb => by have := pts_dep hd b hb; omega
    refine ⟨h1, fun s hd hh => ?_⟩
    rw [u_short_steps]
    exact short_steps_body hh fun x hx => h1 x (Nat.le_trans (deps_mem hx) hd) (Nat.le_trans (hgts_mem hx) hh)
  | d + 1, n, hd1 => by
    have ih := short_ok d n (by omega)
    have h1 : ∀ x : TK.Step, dep x ≤ d + 1 → hgt x ≤ 100000 → m_short_step (n + 2 * (d + 1) + 1) [sD x] = some (ssD (nf1 x)) := fun x hd hh => by
      rw [u_short_step]
      refine short_step_body (by omega) hh fun b hb => ?_
      exact ih.2 b (by have := pts_dep hd b hb; omega) (by have := pts_hgt' hb; omega)
    refine ⟨h1, fun s hd hh => ?_⟩
    have e : n + 2 * (d + 1) + 2 = (n + 2 * (d + 1) + 1) + 1 := by omega
    rw [e, u_short_steps]
    exact short_steps_body hh fun x hx => h1 x (Nat.le_trans (deps_mem hx) hd) (Nat.le_trans (hgts_mem hx) hh)
theorem short_steps_top {s : Steps} (hd : deps s ≤ 14) (hh : hgts s ≤ 100000) : m_short_steps fu_short_step [ssD s] = some (ssD (nfs s)) := (short_ok 14 0 (by decide)).2 s hd hh
theorem short_top (h : PyData) {s : Steps} (hd : deps s ≤ 14) (hh : hgts s ≤ 100000) : m_short [.tuple [h, ssD s]] = some (.tuple [h, ssD (nfs s)]) := by
  have hd2 : deps (nfs s) ≤ 14 := Nat.le_trans (nfs_dep s) hd
  have hh2 : hgts (nfs s) ≤ 100000 := Nat.le_trans (nfs_hgt s) hh
  have e1 := short_steps_top hd hh
  have e2 := short_steps_top hd2 hh2
  rw [nfs_idem] at e2
  have n1 := dNe_ssD (s := nfs s) (t := s) (by omega) (by omega)
  have n2 := dNe_ssD (s := nfs s) (t := nfs s) (by omega) (by omega)
  have hw : fWhile wf w_short_1 [] b_short_1 [some (.tuple [h, ssD s]), some (ssD s), some (ssD (nfs s))] = some (.nx [some (.tuple [h, ssD s]), some (ssD (nfs s)), some (ssD (nfs s))]) := by
    show whGo w_short_1 b_short_1 [] (99998 + 1 + 1) _ = _
    unfold whGo
    by_cases z : nfs s = s
    · rw [z]
      rw [z] at n1
      simp [w_short_1, n1]
    · rw [decide_eq_false z] at n1
      rw [decide_eq_true rfl] at n2
      simp [w_short_1, n1]
      unfold whGo
      simp [b_short_1, w_short_1, e2, n2]
  refine run_of ?_
  refine seq_nx (ρ' := [some (.tuple [h, ssD s]), some (ssD s), none]) (by simp) ?_
  refine seq_nx (ρ' := [some (.tuple [h, ssD s]), some (ssD s), some (ssD (nfs s))]) (by simp [e1]) ?_
  refine seq_nx hw ?_
  simp
/-! loops that may answer early -/
theorem forGo_enumRetFrom {α : Type} {e : α → PyData} {tg : PyData → Rho → Option Rho} {body : Rho → Option Fl} {ks : List Nat} (ρ : Rho) (good : List α → α → Prop) (D : PyData → Prop) (xs : List α)
    (h : ∀ pre x post, xs = pre ++ x :: post → ∃ r, tg (.tuple [.int (pre.length : Nat), e x]) ρ = some r ∧ ((good pre x ∧ ∃ r', body r = some (.nx r') ∧ clr ks r' = ρ) ∨ ∃ d, body r = some (.rt d) ∧ D d)) :
    ∀ post pre, xs = pre ++ post → (forGo tg body ks (enumD pre.length (post.map e)) ρ = some (.nx ρ) ∧ ∀ p y q, post = p ++ y :: q → good (pre ++ p) y) ∨ ∃ d, forGo tg body ks (enumD pre.length (post.map e)) ρ = some (.rt d) ∧ D d
  | [], pre, hx => .inl ⟨rfl, fun p y q e => by simp at e⟩
  | x :: post, pre, hx => by
    obtain ⟨r, h1, h2⟩ := h pre x post hx
    rw [List.map_cons]
    unfold enumD
    unfold forGo
    rw [h1]
    simp only [Option.bind_some]
    rcases h2 with ⟨hgx, r', h2, h3⟩ | ⟨d, h2, h3⟩
    · have ih := forGo_enumRetFrom ρ good D xs h post (pre ++ [x]) (by rw [hx, List.append_assoc]; rfl)
      rw [List.length_append, List.length_singleton] at ih
      rw [h2]
      simp only [Option.bind_some]
      rw [h3]
      rcases ih with ⟨i1, i2⟩ | i
      · refine .inl ⟨i1, fun p y q e => ?_⟩
        cases p with
        | nil =>
          rw [List.nil_append] at e
          obtain ⟨rfl, rfl⟩ := List.cons.inj e
          rw [List.append_nil]; exact hgx
        | cons z zs =>
          rw [List.cons_append] at e
          obtain ⟨rfl, e2⟩ := List.cons.inj e
          have := i2 zs y q e2
          rw [List.append_assoc] at this; exact this
      · exact .inr i
    · rw [h2]
      exact .inr ⟨d, rfl, h3⟩
theorem forGo_enumRet {α : Type} {e : α → PyData} {tg : PyData → Rho → Option Rho} {body : Rho → Option Fl} {ks : List Nat} (ρ : Rho) (good : List α → α → Prop) (D : PyData → Prop) (xs : List α)
    (h : ∀ pre x post, xs = pre ++ x :: post → ∃ r, tg (.tuple [.int (pre.length : Nat), e x]) ρ = some r ∧ ((good pre x ∧ ∃ r', body r = some (.nx r') ∧ clr ks r' = ρ) ∨ ∃ d, body r = some (.rt d) ∧ D d)) :
    (forGo tg body ks (enumD 0 (xs.map e)) ρ = some (.nx ρ) ∧ ∀ pre y post, xs = pre ++ y :: post → good pre y) ∨ ∃ d, forGo tg body ks (enumD 0 (xs.map e)) ρ = some (.rt d) ∧ D d := by
  have := forGo_enumRetFrom ρ good D xs h xs [] rfl
  simpa using this
theorem nodup_of {α : Type} {xs : List α} (h : ∀ pre x post, xs = pre ++ x :: post → x ∉ pre) : xs.Nodup := by
  unfold List.Nodup
  rw [List.pairwise_iff_getElem]
  intro i j hi hj hij e
  have hx : xs = xs.take j ++ xs[j] :: xs.drop (j + 1) := by
    rw [List.getElem_cons_drop, List.take_append_drop]
  refine h _ _ _ hx ?_
  rw [← e]
  exact List.mem_take_iff_getElem.mpr ⟨i, by omega, rfl⟩
theorem cut_pre {a b : List PyData} : TF.cutD (a ++ b) none (some (a.length : Int)) = a := by
  unfold TF.cutD
  have e : HT.sIx (a ++ b).length (a ++ b).length (some (a.length : Int)) = a.length := by rw [HT.sIx_nat, List.length_append]; omega
  rw [e, HT.sIx_none, Nat.sub_zero, List.drop_zero, List.take_left']
  rfl
theorem cut_post {a b : List PyData} {x : PyData} : TF.cutD (a ++ x :: b) (some ((a.length : Int) + 1)) none = b := by
  unfold TF.cutD
  have e : HT.sIx (a ++ x :: b).length 0 (some ((a.length : Int) + 1)) = a.length + 1 := by
    have : ((a.length : Int) + 1) = ((a.length + 1 : Nat) : Int) := by push_cast; rfl
    rw [this, HT.sIx_nat, List.length_append, List.length_cons]; omega
  rw [e, HT.sIx_none]
  have d : (a ++ x :: b).drop (a.length + 1) = b := by
    rw [show a ++ x :: b = (a ++ [x]) ++ b by simp, List.drop_left']
    simp
  rw [d]
  refine List.take_of_length_le ?_
  rw [List.length_append, List.length_cons]; omega
theorem nf_cc (a : Steps) : nfs [.choice [a, a]] = nfs a := by
  rw [nfs_one, nf1_choice]
  have : ded ([a, a].map nfs) = [nfs a] := by simp [ded, dg]
  unfold chN; rw [this]
theorem nf_c1 (a : Steps) : nfs [.choice [a]] = nfs a := by
  rw [nfs_one, nf1_choice]
  have : ded ([a].map nfs) = [nfs a] := by simp [ded, dg]
  unfold chN; rw [this]
theorem nf_b0 (a : Steps) : nfs [.both a []] = nfs a := by
  rw [nfs_one, nf1_both]
  unfold boN; simp [nfs_nil]
theorem nf_0b (a : Steps) : nfs [.both [] a] = nfs a := by
  rw [nfs_one, nf1_both]
  unfold boN; simp [nfs_nil]
theorem nf_rr (a : Steps) : nfs [.round [.round a]] = nfs [.round a] := by
  rw [nfs_one, nf1_round, nfs_one, nf1_round]
  rcases roN_cases (nfs a) with ⟨h1, h2⟩ | ⟨m, h1, h2⟩ | ⟨h1, h2, h3⟩
  · rw [h2]; rfl
  · rw [h2, h1]; rfl
  · rw [h3]; rfl
theorem nf_r0 : nfs [.round []] = [] := by rw [nfs_one, nf1_round]; rfl
theorem nf_re {a : Steps} (h : nfs a = []) : nfs [.round a] = [] := by rw [nfs_one, nf1_round, h]; rfl
/-! the law's one step -/
theorem any_sst (p : Steps) (l : List Steps) : dIn (ssD p) (.tuple (l.map ssD)) = if pl (ssD p) = true ∧ pl (.tuple (l.map ssD)) = true then some (decide (p ∈ l)) else none := by
  show (if pl (ssD p) = true ∧ pl (.tuple (l.map ssD)) = true then some ((l.map ssD).any fun z => PyData.eqv z (ssD p)) else none) = _
  rw [any_ss]
theorem pl_tss {l : List Steps} (h : ∀ p ∈ l, deps p ≤ 19) : pl (.tuple (l.map ssD)) = true := pl_of (by
  rw [plain_tup]
  intro d hd
  obtain ⟨p, _, rfl⟩ := List.mem_map.mp hd
  exact ssD_plain p) (by
  refine Nat.le_trans (depth_tup (n := 60).mpr ?_) (by decide)
  intro d hd
  obtain ⟨p, hp, rfl⟩ := List.mem_map.mp hd
  have := ssD_depth (h p hp)
  omega)
theorem dIn_sst {p : Steps} {l : List Steps} (hp : deps p ≤ 19) (h : ∀ q ∈ l, deps q ≤ 19) : dIn (ssD p) (.tuple (l.map ssD)) = some (decide (p ∈ l)) := by
  rw [any_sst, if_pos ⟨pl_ssD (by omega), pl_tss h⟩]
/-- what one step of the law may do -/
def Lss (s s' : Steps) : Prop := (NFs s ∧ s' = s) ∨ (nfs s' = nfs s ∧ hgts s' < hgts s ∧ deps s' ≤ deps s)
def Ls1 (x : TK.Step) (d : PyData) : Prop := (NF1 x ∧ d = .none) ∨ ∃ t, d = ssD t ∧ nfs t = nf1 x ∧ hgts t < hgt x ∧ deps t ≤ dep x
theorem ded_drop {a b : List Steps} {p : Steps} (h : p ∈ a) : ded (a ++ p :: b) = ded (a ++ b) := by
  unfold ded
  rw [dg_append, dg_append, dg_cons, if_pos ((dg_mem _ _ _).mpr (.inr h))]
theorem chN_congr {a b : List Steps} (h : ded a = ded b) : chN a = chN b := by unfold chN; rw [h]
theorem less_body {rl rs : List PyData → Option PyData} {s : Steps} (hl : s.length ≤ 100000) (hh : hgts s ≤ 100000) (hr : ∀ x ∈ s, ∃ d, rs [sD x] = some d ∧ Ls1 x d) : ∃ s', runF 4 (f_law_less rl rs) [ssD s] = some (ssD s') ∧ Lss s s' := by
  have hL := forGo_enumRet (e := sD) (tg := g2 1 2) (body := b_law_less_1 rl rs) (ks := [1, 2, 3]) [some (ssD s), none, none, none] (fun _ x => NF1 x) (fun d => ∃ s', d = ssD s' ∧ Lss s s') s (fun pre x post hx => by
    refine ⟨[some (ssD s), some (.int (pre.length : Nat)), some (sD x), none], rfl, ?_⟩
    obtain ⟨d, h1, h2⟩ := hr x (by rw [hx]; simp)
    rcases h2 with ⟨h2, rfl⟩ | ⟨t, rfl, h3, h4, h5⟩
    · exact .inl ⟨h2, [some (ssD s), some (.int (pre.length : Nat)), some (sD x), some .none], by simp [b_law_less_1, h1], rfl⟩
    · refine .inr ⟨ssD (pre ++ t ++ post), ?_, _, rfl, .inr ⟨?_, ?_, ?_⟩⟩
      · have e : ssD s = .tuple (pre.map sD ++ sD x :: post.map sD) := by rw [ssD_eq, hx]; simp
        have e1 : TF.cutD (pre.map sD ++ sD x :: post.map sD) none (some (pre.length : Int)) = pre.map sD := by
          have := cut_pre (a := pre.map sD) (b := sD x :: post.map sD)
          rw [List.length_map] at this; exact this
        have e2 : TF.cutD (pre.map sD ++ sD x :: post.map sD) (some ((pre.length : Int) + 1)) none = post.map sD := by
          have := cut_post (a := pre.map sD) (x := sD x) (b := post.map sD)
          rw [List.length_map] at this; exact this
        have lt := len_hgts t
        have lx : hgt x ≤ hgts s := hgts_mem (by rw [hx]; simp)
        have ls : s.length = pre.length + (post.length + 1) := by rw [hx]; simp
        have z1 : pre.length + t.length ≤ sizeLine := by rw [sl]; omega
        have z2 : pre.length + t.length + post.length ≤ sizeLine := by rw [sl]; omega
        have hi : dIs (ssD t) .none = some false := rfl
        simp [b_law_less_1, h1, hi, e, e1, e2, ssD_eq t, ssD_eq (_ ++ _), z1, z2]
      · rw [nfs_append, nfs_append, hx, nfs_append, nfs_cons, h3, List.append_assoc]
      · rw [hgts_append, hgts_append, hx, hgts_append, hgts_cons]; omega
      · refine deps_append _ _ (deps_append _ _ ?_ ?_) ?_
        · exact deps_le.mpr fun y hy => deps_mem (by rw [hx]; simp [hy])
        · exact Nat.le_trans h5 (deps_mem (by rw [hx]; simp))
        · exact deps_le.mpr fun y hy => deps_mem (by rw [hx]; simp [hy]))
  have hen : dEnum (ssD s) = some (enumD 0 (s.map sD)) := rfl
  rcases hL with ⟨h1, h2⟩ | ⟨d, h1, s', rfl, h3⟩
  · refine ⟨s, ?_, .inl ⟨fun x hx => by obtain ⟨p, q, e⟩ := List.append_of_mem hx; exact h2 p x q e, rfl⟩⟩
    simp [runF, f_law_less, hen, h1]
  · refine ⟨s', ?_, h3⟩
    simp [runF, f_law_less, hen, h1]
theorem Lss.next {b b' : Steps} (h : Lss b b') : (b' = b ∧ NFs b) ∨ (b' ≠ b ∧ nfs b' = nfs b ∧ hgts b' < hgts b ∧ deps b' ≤ deps b) := by
  rcases h with ⟨h1, h2⟩ | ⟨h1, h2, h3⟩
  · exact .inl ⟨h2, h1⟩
  · exact .inr ⟨fun e => by rw [e] at h2; omega, h1, h2, h3⟩
theorem deps_le_choice {bs : List Steps} {n : Nat} (h : ∀ b ∈ bs, deps b + 1 ≤ n) (h1 : 1 ≤ n) : dep (.choice bs) ≤ n := by
  rw [dep_choice]
  have : (bs.map deps).foldr max 0 ≤ n - 1 := max_le.mpr fun d hd => by
    obtain ⟨p, hp, rfl⟩ := List.mem_map.mp hd
    have := h p hp
    omega
  omega
theorem choice_deps {bs : List Steps} {b : Steps} (h : b ∈ bs) : deps b + 1 ≤ dep (.choice bs) := by
  have h2 := dep_choice_le (bs := bs) (n := dep (.choice bs) - 1) (by rw [dep_choice]; omega) b h
  have h3 : 1 ≤ dep (.choice bs) := by rw [dep_choice]; omega
  omega
theorem less_step_choice {rl rs : List PyData → Option PyData} {bs : List Steps} (hd : dep (.choice bs) ≤ 19) (hh : hgt (.choice bs) ≤ 100000) (hr : ∀ b ∈ bs, ∃ b', rl [ssD b] = some (ssD b') ∧ Lss b b') :
    ∃ d, runF 4 (f_law_less_step rl rs) [sD (.choice bs)] = some d ∧ Ls1 (.choice bs) d := by
  have hsum : (bs.map hgts).sum + bs.length + 1 ≤ hgt (.choice bs) := by rw [hgt_choice]; omega
  by_cases h1 : bs.length = 1
  · obtain ⟨b, rfl⟩ := List.length_eq_one_iff.mp h1
    refine ⟨ssD b, ?_, .inr ⟨b, rfl, ?_, ?_, ?_⟩⟩
    · rw [sD_choice]
      simp [runF, f_law_less_step, dEq_str, s_ct, dEq_int]
    · have := nf_c1 b
      rw [nfs_one] at this; exact this.symm
    · rw [hgt_choice]; simp; omega
    · have := choice_deps (bs := [b]) (b := b) (by simp); omega
  · have dl : ∀ b ∈ bs, deps b ≤ 19 := fun b hb => by have := choice_deps hb; omega
    have hL := forGo_enumRet (e := ssD) (tg := g2 1 2) (body := b_law_less_step_1 rl rs) (ks := [1, 2, 3]) [some (sD (.choice bs)), none, none, none] (fun pre b => NFs b ∧ b ∉ pre) (fun d => (∃ p b q, bs = p ++ b :: q ∧ b ∈ p ∧ d = ssD [.choice (p ++ q)]) ∨ ∃ p b q b', bs = p ++ b :: q ∧ d = ssD [.choice (p ++ b' :: q)] ∧ nfs b' = nfs b ∧ hgts b' < hgts b ∧ deps b' ≤ deps b) bs (fun pre b post hx => by
      refine ⟨[some (sD (.choice bs)), some (.int (pre.length : Nat)), some (ssD b), none], rfl, ?_⟩
      have hb : b ∈ bs := by rw [hx]; simp
      obtain ⟨b', hb1, hb2⟩ := hr b hb
      have e : sD (.choice bs) = .tuple [.str "choice", .tuple (pre.map ssD ++ ssD b :: post.map ssD)] := by rw [sD_choice, hx]; simp
      have e1 : TF.cutD (pre.map ssD ++ ssD b :: post.map ssD) none (some (pre.length : Int)) = pre.map ssD := by
        have := cut_pre (a := pre.map ssD) (b := ssD b :: post.map ssD)
        rw [List.length_map] at this; exact this
      have e2 : TF.cutD (pre.map ssD ++ ssD b :: post.map ssD) (some ((pre.length : Int) + 1)) none = post.map ssD := by
        have := cut_post (a := pre.map ssD) (x := ssD b) (b := post.map ssD)
        rw [List.length_map] at this; exact this
      have hin := dIn_sst (p := b) (l := pre) (dl b hb) (fun q hq => dl q (by rw [hx]; simp [hq]))
      have ls : bs.length = pre.length + (post.length + 1) := by rw [hx]; simp
      have z1 : pre.length + post.length ≤ sizeLine := by rw [sl]; omega
      have z2 : pre.length + 1 ≤ sizeLine := by rw [sl]; omega
      have z3 : pre.length + 1 + post.length ≤ sizeLine := by rw [sl]; omega
      by_cases hm : b ∈ pre
      · rw [decide_eq_true hm] at hin
        refine .inr ⟨ssD [.choice (pre ++ post)], ?_, .inl ⟨pre, b, post, hx, hm, rfl⟩⟩
        simp [b_law_less_step_1, e, e1, e2, hin, z1, ssD_eq [_], sD_choice]
      · rw [decide_eq_false hm] at hin
        rcases hb2.next with ⟨h2, h3⟩ | ⟨h2, h3, h4, h5⟩
        · subst h2
          have hne : dNe (ssD b') (ssD b') = some false := dNe_self (ssD_nb b') (pl_ssD (by have := dl b' hb; omega))
          refine .inl ⟨⟨h3, hm⟩, [some (sD (.choice bs)), some (.int (pre.length : Nat)), some (ssD b'), some (ssD b')], ?_, rfl⟩
          simp [b_law_less_step_1, e, e1, hin, hb1, hne]
        · have hne := dNe_ssD (s := b') (t := b) (by have := dl b hb; omega) (by have := dl b hb; omega)
          rw [decide_eq_false h2] at hne
          refine .inr ⟨ssD [.choice (pre ++ b' :: post)], ?_, .inr ⟨pre, b, post, b', hx, rfl, h3, h4, h5⟩⟩
          simp [b_law_less_step_1, e, e1, e2, hin, hb1, hne, z2, z3, ssD_eq [_], sD_choice])
    have hen : dEnum (.tuple (bs.map ssD)) = some (enumD 0 (bs.map ssD)) := rfl
    have h1' : ¬ ((bs.length : Int) = 1) := by omega
    rcases hL with ⟨h2, h3⟩ | ⟨d, h2, h3⟩
    · refine ⟨.none, ?_, .inl ⟨.choice bs h1 (nodup_of fun pre x post e => (h3 pre x post e).2) fun b hb => by obtain ⟨p, q, e⟩ := List.append_of_mem hb; exact (h3 p b q e).1, rfl⟩⟩
      rw [sD_choice] at h2 ⊢
      simp [runF, f_law_less_step, dEq_str, s_ct, dEq_int, h1', h1]
      simp [h2]
    · refine ⟨d, ?_, ?_⟩
      · rw [sD_choice] at h2 ⊢
        simp [runF, f_law_less_step, dEq_str, s_ct, dEq_int, h1', h1]
        simp [h2]
      · rcases h3 with ⟨p, b, q, h4, h5, rfl⟩ | ⟨p, b, q, b', h4, rfl, h5, h6, h7⟩
        · refine .inr ⟨_, rfl, ?_, ?_, ?_⟩
          · rw [nfs_one, nf1_choice, nf1_choice, h4, List.map_append, List.map_append, List.map_cons]
            exact chN_congr (ded_drop (List.mem_map_of_mem h5)).symm
          · rw [hgts_one, hgt_choice, hgt_choice, h4]; simp; omega
          · rw [deps_one]
            refine deps_le_choice (fun c hc => choice_deps (by rw [h4]; simp at hc ⊢; rcases hc with hc | hc <;> simp [hc])) (by rw [dep_choice]; omega)
        · refine .inr ⟨_, rfl, ?_, ?_, ?_⟩
          · rw [nfs_one, nf1_choice, nf1_choice, h4, List.map_append, List.map_append, List.map_cons, List.map_cons, h5]
          · rw [hgts_one, hgt_choice, hgt_choice, h4]; simp; omega
          · rw [deps_one]
            refine deps_le_choice (fun c hc => ?_) (by rw [dep_choice]; omega)
            simp at hc
            rcases hc with hc | rfl | hc
            · exact choice_deps (by rw [h4]; simp [hc])
            · have := choice_deps (bs := bs) (b := b) (by rw [h4]; simp); omega
            · exact choice_deps (by rw [h4]; simp [hc])
theorem pair_in (l m : Steps) (hl : deps l ≤ 19) (hm : deps m ≤ 19) : dIn (.tuple []) (.tuple [ssD l, ssD m]) = some (decide (l = [] ∨ m = [])) := by
  have := dIn_sst (p := []) (l := [l, m]) (by simp [deps]) (by simp; exact ⟨hl, hm⟩)
  have e : ssD [] = .tuple [] := rfl
  rw [e] at this
  rw [show (.tuple [ssD l, ssD m] : PyData) = .tuple ([l, m].map ssD) from rfl, this]
  congr 1
  have h : ([] ∈ [l, m]) ↔ (l = [] ∨ m = []) := by simp [eq_comm]
  by_cases z : l = [] ∨ m = []
  · rw [decide_eq_true z, decide_eq_true (h.mpr z)]
  · rw [decide_eq_false z, decide_eq_false fun q => z (h.mp q)]
theorem less_step_ok {rl rs : List PyData → Option PyData} {x : TK.Step} (hd : dep x ≤ 19) (hh : hgt x ≤ 100000) (hr : ∀ b ∈ pts x, ∃ b', rl [ssD b] = some (ssD b') ∧ Lss b b') :
    ∃ d, runF 4 (f_law_less_step rl rs) [sD x] = some d ∧ Ls1 x d := by
  have hlen : ∀ q : Steps, dLen (ssD q) = some (.int (q.length : Nat)) := fun q => by rw [ssD_eq]; simp
  have ez : ∀ t : Steps, deps t ≤ 19 → dEq (ssD t) (.tuple []) = some (decide (t = [])) := fun t h => dEq_ssD (t := []) (by omega) (by simp [deps])
  have sbr : (("both" : Str) == "round") = false := by decide
  cases x with
  | tell a b w =>
    refine ⟨.none, ?_, .inl ⟨.tell a b w, rfl⟩⟩
    rw [sD_tell]
    simp [runF, f_law_less_step, dEq_str]
  | choice bs => exact less_step_choice hd hh hr
  | round l =>
    have dl : deps l ≤ 19 := by rw [dep_round] at hd; omega
    have h0 := ez l dl
    rw [sD_round]
    by_cases z : l = []
    · refine ⟨.tuple [], ?_, .inr ⟨[], rfl, ?_, ?_, ?_⟩⟩
      · rw [decide_eq_true z] at h0
        simp [runF, f_law_less_step, dEq_str, s_rt, s_rc, h0]
      · rw [z]; have := nf_r0; rw [nfs_one] at this; rw [this]; rfl
      · rw [hgts_nil, hgt_round]; omega
      · simp [deps]
    · rw [decide_eq_false z] at h0
      by_cases y : ∃ m, l = [.round m]
      · obtain ⟨m, rfl⟩ := y
        refine ⟨ssD [.round m], ?_, .inr ⟨[.round m], rfl, ?_, ?_, ?_⟩⟩
        · have e1 : ssD [TK.Step.round m] = .tuple [.tuple [.str "round", ssD m]] := by rw [ssD_eq]; simp [sD_round]
          have hl1 := hlen [TK.Step.round m]
          rw [e1] at h0 hl1 ⊢
          simp [runF, f_law_less_step, dEq_str, s_rt, s_rc, h0, dEq_int]
        · have := nf_rr m; rw [nfs_one] at this; exact this.symm
        · rw [hgts_one, hgt_round, hgt_round, hgts_one, hgt_round]; omega
        · rw [deps_one, dep_round, dep_round, deps_one, dep_round]; omega
      · obtain ⟨l', h1, h2⟩ := hr l (by simp [pts])
        have h3 := h2.next
        have hmid : TF.tAnd (TF.e2 (TF.e2 (eVar 0) (eC (.int 0)) dIx) (eC (.str "round")) dEq) (TF.tAnd (TF.e2 (TF.e1 (TF.e2 (eVar 0) (eC (.int 1)) dIx) dLen) (eC (.int 1)) dEq) (TF.e2 (TF.e2 (TF.e2 (TF.e2 (eVar 0) (eC (.int 1)) dIx) (eC (.int 0)) dIx) (eC (.int 0)) dIx) (eC (.str "round")) dEq)) [some (.tuple [.str "round", ssD l]), none, none, none] = some false := by
          by_cases h1l : l.length = 1
          · obtain ⟨w, rfl⟩ := List.length_eq_one_iff.mp h1l
            have hk := kind_at w
            have hkn : (kindS w == "round") = false := by
              cases w with
              | tell a b w => exact (by decide : (("tell" : Str) == "round") = false)
              | choice bs => exact (by decide : (("choice" : Str) == "round") = false)
              | both a b => exact (by decide : (("both" : Str) == "round") = false)
              | round m => exact absurd ⟨m, rfl⟩ y
            have e1 : ssD [w] = .tuple [sD w] := rfl
            rw [e1]
            simp [dEq_str, dEq_int, hk, hkn]
          · have h1' : ¬ ((l.length : Int) = 1) := by omega
            simp [dEq_str, dEq_int, hlen, h1', h1l]
        have hfor : ∀ d fl, rl [ssD l] = some d → (if dNe d (ssD l) = some true then fl = Fl.rt (.tuple [.tuple [.str "round", d]]) else dNe d (ssD l) = some false ∧ fl = Fl.nx [some (.tuple [.str "round", ssD l]), none, none, none]) →
            forGo (g1 1) (b_law_less_step_2 rl rs) [1, 3] (rints 1 1) [some (.tuple [.str "round", ssD l]), none, none, none] = some fl := fun d fl h4 h5 => by
          have e1 : rints 1 1 = [.int 1] := by simp [rints]
          have c1 : TF.cutD [PyData.str "round", ssD l] none (some 1) = [.str "round"] := cutD__1
          have c2 : TF.cutD [PyData.str "round", ssD l] (some (1 + 1)) none = [] := by unfold TF.cutD HT.sIx; simp
          rw [e1]
          by_cases h6 : dNe d (ssD l) = some true
          · rw [if_pos h6] at h5
            subst h5
            simp [forGo, b_law_less_step_2, h4, h6, c1]
            simp at c2
            simp [c2]
          · rw [if_neg h6] at h5
            obtain ⟨h7, rfl⟩ := h5
            simp [forGo, b_law_less_step_2, h4, h7]
        rcases h3 with ⟨h3, h4⟩ | ⟨h3, h4, h5, h6⟩
        · subst h3
          have hne : dNe (ssD l') (ssD l') = some false := dNe_self (ssD_nb l') (pl_ssD (by omega))
          have hf := hfor _ _ h1 (by rw [if_neg (by rw [hne]; decide)]; exact ⟨hne, rfl⟩)
          refine ⟨.none, ?_, .inl ⟨.round l' z (fun m e => y ⟨m, e⟩) h4, rfl⟩⟩
          refine run_of ?_
          refine seq_if (by simp [dEq_str, s_rt]) ?_
          refine seq_if (by simp [dEq_str, s_rc]) ?_
          refine seq_if (by simp [h0]) ?_
          refine seq_if hmid ?_
          refine seq_if (by simp [dEq_str, show (("round" : Str) == "both") = false by decide]) ?_
          refine seq_nx (ρ' := [some (.tuple [.str "round", ssD l']), none, none, none]) ?_ (by simp)
          rw [fFor_ev]
          simp [hf]
        · have hne := dNe_ssD (s := l') (t := l) (by omega) (by omega)
          rw [decide_eq_false h3] at hne
          replace hne : dNe (ssD l') (ssD l) = some true := hne
          have hf := hfor _ _ h1 (by rw [if_pos hne])
          have e1 : ssD [TK.Step.round l'] = .tuple [.tuple [.str "round", ssD l']] := by rw [ssD_eq]; simp [sD_round]
          refine ⟨ssD [.round l'], ?_, .inr ⟨_, rfl, ?_, ?_, ?_⟩⟩
          · rw [e1]
            refine run_of ?_
            refine seq_if (by simp [dEq_str, s_rt]) ?_
            refine seq_if (by simp [dEq_str, s_rc]) ?_
            refine seq_if (by simp [h0]) ?_
            refine seq_if hmid ?_
            refine seq_if (by simp [dEq_str, show (("round" : Str) == "both") = false by decide]) ?_
            rw [fSeq_ev, fFor_ev]
            simp [hf]
          · rw [nfs_one, nf1_round, nf1_round, h4]
          · rw [hgts_one, hgt_round, hgt_round]; omega
          · rw [deps_one, dep_round, dep_round]; omega
  | both l m =>
    have dl : deps l ≤ 19 := by rw [dep_both] at hd; omega
    have dm : deps m ≤ 19 := by rw [dep_both] at hd; omega
    have h0 := ez l dl
    have hpi := pair_in l m dl dm
    obtain ⟨l', l1, l2⟩ := hr l (by simp [pts])
    obtain ⟨m', m1, m2⟩ := hr m (by simp [pts])
    rw [sD_both]
    have c0 : TF.cutD [PyData.str "both", ssD l, ssD m] (some 1) none = [ssD l, ssD m] := cutD_1_
    have head : ∀ r, (decide (l = [] ∨ m = []) = false → fSeq (fFor (TF.e2 (eC (.int 1)) (TF.e1 (eVar 0) dLen) dRng2) (g1 1) [1, 3] (b_law_less_step_2 rl rs)) (fRet (eC .none)) [some (.tuple [.str "both", ssD l, ssD m]), none, none, none] = some (.rt r)) → (decide (l = [] ∨ m = []) = true → dAddA (ssD l) (ssD m) = some r) → runF 4 (f_law_less_step rl rs) [.tuple [.str "both", ssD l, ssD m]] = some r := fun r k1 k2 => by
      refine run_of ?_
      refine seq_if (by simp [dEq_str, s_bt]) ?_
      refine seq_if (by simp [dEq_str, s_bc]) ?_
      refine seq_if (by cases hq : decide (l = []) <;> (rw [hq] at h0; simp [h0, dEq_str, sbr])) ?_
      refine seq_if (by simp [dEq_str, sbr]) ?_
      cases hz : decide (l = [] ∨ m = []) with
      | true =>
        have k := k2 hz
        rw [hz] at hpi
        rw [fSeq_ev, fIf_ev]
        simp [dEq_str, c0, hpi, k]
      | false =>
        have k := k1 hz
        rw [hz] at hpi
        refine seq_if (by simp [dEq_str, c0, hpi]) k
    by_cases z : l = [] ∨ m = []
    · refine ⟨ssD (l ++ m), head _ (fun q => by rw [decide_eq_true z] at q; cases q) (fun _ => ?_), .inr ⟨_, rfl, ?_, ?_, ?_⟩⟩
      · have h1 := len_hgts l
        have h2 := len_hgts m
        rw [hgt_both] at hh
        have hz : l.length + m.length ≤ sizeLine := by rw [sl]; omega
        simp [ssD_eq, hz]
      · rw [nfs_append, nf1_both]
        unfold boN
        rw [if_pos (by rcases z with rfl | rfl
                       · exact .inl rfl
                       · exact .inr rfl)]
      · rw [hgts_append, hgt_both]; omega
      · rw [dep_both]; exact deps_append _ _ (by omega) (by omega)
    · have zf : decide (l = [] ∨ m = []) = false := decide_eq_false z
      have e1 : rints 1 2 = [.int 1, .int 2] := by simp [rints, List.range_succ_eq_map]
      have c1 : TF.cutD [PyData.str "both", ssD l, ssD m] none (some 1) = [.str "both"] := cutD__1
      have c2 : TF.cutD [PyData.str "both", ssD l, ssD m] (some 2) none = [ssD m] := by unfold TF.cutD HT.sIx; simp
      have c3 : TF.cutD [PyData.str "both", ssD l, ssD m] none (some 2) = [.str "both", ssD l] := cutD__2
      have c4 : TF.cutD [PyData.str "both", ssD l, ssD m] (some 3) none = [] := by unfold TF.cutD HT.sIx; simp
      rcases l2.next with ⟨l3, l4⟩ | ⟨l3, l4, l5, l6⟩
      · subst l3
        have hne : dNe (ssD l') (ssD l') = some false := dNe_self (ssD_nb l') (pl_ssD (by omega))
        rcases m2.next with ⟨m3, m4⟩ | ⟨m3, m4, m5, m6⟩
        · subst m3
          have hne2 : dNe (ssD m') (ssD m') = some false := dNe_self (ssD_nb m') (pl_ssD (by omega))
          refine ⟨.none, head _ (fun _ => ?_) (fun q => by rw [zf] at q; cases q), .inl ⟨.both l' m' (fun e => z (.inl e)) (fun e => z (.inr e)) l4 m4, rfl⟩⟩
          simp [e1, forGo, b_law_less_step_2, l1, m1, hne, hne2]
        · have hne2 := dNe_ssD (s := m') (t := m) (by omega) (by omega)
          rw [decide_eq_false m3] at hne2
          have e2 : ssD [TK.Step.both l' m'] = .tuple [.tuple [.str "both", ssD l', ssD m']] := by rw [ssD_eq]; simp [sD_both]
          refine ⟨ssD [.both l' m'], head _ (fun _ => ?_) (fun q => by rw [zf] at q; cases q), .inr ⟨_, rfl, ?_, ?_, ?_⟩⟩
          · rw [e2]
            simp [e1, forGo, b_law_less_step_2, l1, m1, hne, hne2, c3, c4]
          · rw [nfs_one, nf1_both, nf1_both, m4]
          · rw [hgts_one, hgt_both, hgt_both]; omega
          · rw [deps_one, dep_both, dep_both]; omega
      · have hne := dNe_ssD (s := l') (t := l) (by omega) (by omega)
        rw [decide_eq_false l3] at hne
        have e2 : ssD [TK.Step.both l' m] = .tuple [.tuple [.str "both", ssD l', ssD m]] := by rw [ssD_eq]; simp [sD_both]
        refine ⟨ssD [.both l' m], head _ (fun _ => ?_) (fun q => by rw [zf] at q; cases q), .inr ⟨_, rfl, ?_, ?_, ?_⟩⟩
        · rw [e2]
          simp [e1, forGo, b_law_less_step_2, l1, hne, c1, c2]
        · rw [nfs_one, nf1_both, nf1_both, l4]
        · rw [hgts_one, hgt_both, hgt_both]; omega
        · rw [deps_one, dep_both, dep_both]; omega
theorem less_ok : ∀ (d n : Nat), d ≤ 13 → (∀ s : Steps, deps s ≤ d → hgts s ≤ 100000 → ∃ s', m_law_less (n + 2 * d + 2) [ssD s] = some (ssD s') ∧ Lss s s') ∧ ∀ x : TK.Step, dep x ≤ d → hgt x ≤ 100000 → ∃ r, m_law_less_step (n + 2 * d + 1) [sD x] = some r ∧ Ls1 x r
  | 0, n, _ => by
    have h1 : ∀ x : TK.Step, dep x ≤ 0 → hgt x ≤ 100000 → ∃ r, m_law_less_step (n + 2 * 0 + 1) [sD x] = some r ∧ Ls1 x r := fun x hd hh => by
      rw [u_law_less_step]
      exact less_step_ok (by omega) hh fun b hb => by have := pts_dep hd b hb; omega
    refine ⟨fun s hd hh => ?_, h1⟩
    rw [u_law_less]
    exact less_body (by have := len_hgts s; omega) hh fun x hx => h1 x (Nat.le_trans (deps_mem hx) hd) (Nat.le_trans (hgts_mem hx) hh)
  | d + 1, n, hd1 => by
    have ih := less_ok d n (by omega)
    have h1 : ∀ x : TK.Step, dep x ≤ d + 1 → hgt x ≤ 100000 → ∃ r, m_law_less_step (n + 2 * (d + 1) + 1) [sD x] = some r ∧ Ls1 x r := fun x hd hh => by
      rw [u_law_less_step]
      refine less_step_ok (by omega) hh fun b hb => ?_
      exact ih.1 b (by have := pts_dep hd b hb; omega) (by have := pts_hgt' hb; omega)
    refine ⟨fun s hd hh => ?_, h1⟩
    have e : n + 2 * (d + 1) + 2 = (n + 2 * (d + 1) + 1) + 1 := by omega
    rw [e, u_law_less]
    exact less_body (by have := len_hgts s; omega) hh fun x hx => h1 x (Nat.le_trans (deps_mem hx) hd) (Nat.le_trans (hgts_mem hx) hh)
theorem less_top {s : Steps} (hd : deps s ≤ 13) (hh : hgts s ≤ 100000) : ∃ s', m_law_less fu_law_less [ssD s] = some (ssD s') ∧ Lss s s' := (less_ok 13 2 (by decide)).1 s hd hh
theorem while_ok (x0 x1 : Option PyData) : ∀ (k n : Nat) (s : Steps), deps s ≤ 13 → hgts s ≤ 90000 → hgts s ≤ k → k < n → whGo w_law_1 b_law_1 [] n [x0, x1, some (ssD s)] = some (.nx [x0, x1, some (ssD (nfs s))])
  | k, 0, s, hd, hh, hk, hn => by omega
  | k, n + 1, s, hd, hh, hk, hn => by
    obtain ⟨s', h1, h2⟩ := less_top hd (by omega)
    unfold whGo
    rcases h2.next with ⟨h3, h4⟩ | ⟨h3, h4, h5, h6⟩
    · subst h3
      have hne : dNe (ssD s') (ssD s') = some false := dNe_self (ssD_nb s') (pl_ssD (by omega))
      rw [NFs_nf h4]
      simp [w_law_1, h1, hne]
    · have hne := dNe_ssD (s := s') (t := s) (by omega) (by omega)
      rw [decide_eq_false h3] at hne
      replace hne : dNe (ssD s') (ssD s) = some true := hne
      have ih := while_ok x0 x1 (k - 1) n s' (by omega) (by omega) (by omega) (by omega)
      rw [h4] at ih
      have hw : w_law_1 [x0, x1, some (ssD s)] = some true := by simp [w_law_1, h1, hne]
      have hb : b_law_1 [x0, x1, some (ssD s)] = some (.nx [x0, x1, some (ssD s')]) := by simp [b_law_1, h1]
      rw [hw]
      simp only [Option.bind_some, if_true, hb, clr_nil]
      exact ih
/-! another talk, alike or not -/
/-- the law's other talk, behind its first two statements -/
def g_other : Rho → Option Fl :=
    (fSeq (fIf (TF.e2 (eVar 4) (eC (.int 0)) dEq) (fRet (eTup (aCons (eVar 2) (aCons (eTup (aCons (eTup (aCons (eC (.str "choice")) (aCons (eTup (aCons (eVar 3) (aCons (eVar 3) aNil))) aNil))) aNil)) aNil)))) fNil)
    (fSeq (fIf (TF.e2 (eVar 4) (eC (.int 1)) dEq) (fRet (eTup (aCons (eVar 2) (aCons (eTup (aCons (eTup (aCons (eC (.str "both")) (aCons (eTup aNil) (aCons (eVar 3) aNil)))) aNil)) aNil)))) fNil)
    (fSeq (fIf (TF.tAnd (TF.e2 (eVar 4) (eC (.int 2)) dEq) (TF.e2 (TF.e1 (eVar 3) dLen) (eC (.int 4)) dLtA)) (fRet (eTup (aCons (eVar 2) (aCons (TF.e2 (eVar 3) (eTup (aCons (eTup (aCons (eC (.str "round")) (aCons (eTup aNil) aNil))) aNil)) dAddA) aNil)))) fNil)
    (fSeq (fIf (TF.e2 (eVar 4) (eC (.int 3)) dEq) (fRet (eTup (aCons (eVar 2) (aCons (eTup (aCons (eTup (aCons (eC (.str "choice")) (aCons (eTup (aCons (eVar 3) (aCons (eTup aNil) aNil))) aNil))) aNil)) aNil)))) fNil)
    (fSeq (fIf (TF.e2 (eVar 4) (eC (.int 4)) dEq) (fRet (eTup (aCons (eVar 2) (aCons (eSl (eVar 3) (ePart (eC (.int 1))) eNoPart dSl) aNil)))) fNil)
    (fSeq (fIf (TF.tAnd (TF.e2 (eVar 4) (eC (.int 5)) dEq) (TF.e2 (eVar 3) (eTup aNil) dNe)) (fRet (eTup (aCons (eVar 2) (aCons (eTup (aCons (eTup (aCons (eC (.str "both")) (aCons (eSl (eVar 3) eNoPart (ePart (eC (.int 1))) dSl) (aCons (eSl (eVar 3) (ePart (eC (.int 1))) eNoPart dSl) aNil)))) aNil)) aNil)))) fNil)
    (fSeq (fIf (TF.e2 (eVar 4) (eC (.int 6)) dEq) (fRet (eTup (aCons (TF.e1 (eVar 2) dRev) (aCons (eTup (aCons (eTup (aCons (eC (.str "round")) (aCons (eTup (aCons (eTup (aCons (eC (.str "round")) (aCons (eVar 3) aNil))) aNil)) aNil))) aNil)) aNil)))) fNil)
    (fRet (eCall 3 m_law_talk (aCons (TF.e2 (eVar 1) (eC (.int 8)) dDiv) (aCons (eC (.int 1)) (aCons (eC (.int 2)) aNil))))))))))))
theorem other_ok {hs : List Str} {s : Steps} (hok : HsOk hs) (ds : deps s ≤ 3) (gs : hgts s ≤ 10000) (ls : s.length ≤ 3) (r : Int) (hr : 0 ≤ r) :
    ∃ (hs' : List Str) (s' : Steps), m_law_other [.tuple [hsD hs, ssD s], .int r] = some (.tuple [hsD hs', ssD s']) ∧ HsOk hs' ∧ deps s' ≤ 5 ∧ hgts s' ≤ 50000 := by
  obtain ⟨h0, h1⟩ := mod_lt' r (b := 8) (by decide)
  obtain ⟨hs9, s9, e9, hok9, hl9, hw9⟩ := talk_ok (r / 8) 2 1 (div_nn hr (by decide)) (by decide) (by decide) (by decide)
  have d9 : deps s9 ≤ 5 := Nat.le_trans (WSs.dep hw9) (by decide)
  have g9 : hgts s9 ≤ 50000 := Nat.le_trans (WSs.hgt hw9 (by decide) (by omega)) (by decide)
  have hlen : dLen (ssD s) = some (.int (s.length : Nat)) := by rw [ssD_eq]; simp
  have c1 : ssD [.choice [s, s]] = .tuple [.tuple [.str "choice", .tuple [ssD s, ssD s]]] := by rw [ssD_eq]; simp [sD_choice]
  have c2 : ssD [.both [] s] = .tuple [.tuple [.str "both", .tuple [], ssD s]] := by rw [ssD_eq]; simp [sD_both]; rfl
  have c3 : ssD (s ++ [.round []]) = .tuple (s.map sD ++ [.tuple [.str "round", .tuple []]]) := by rw [ssD_eq]; simp [sD_round]; rfl
  have c4 : ssD [.choice [s, []]] = .tuple [.tuple [.str "choice", .tuple [ssD s, .tuple []]]] := by rw [ssD_eq]; simp [sD_choice]; rfl
  have c6 : ssD [.round [.round s]] = .tuple [.tuple [.str "round", .tuple [.tuple [.str "round", ssD s]]]] := by
    rw [ssD_eq, List.map_cons, sD_round, ssD_eq [_]]; simp [sD_round]
  have nz : dNe (ssD s) (.tuple []) = some (!decide (s = [])) := dNe_ssD (t := []) (by omega) (by simp [deps])
  have hd0 : deps ([] : Steps) = 0 := rfl
  have hc : r % 8 = 0 ∨ r % 8 = 1 ∨ r % 8 = 2 ∨ r % 8 = 3 ∨ r % 8 = 4 ∨ r % 8 = 5 ∨ r % 8 = 6 ∨ r % 8 = 7 := by omega
  have e9' : m_law_talk [.int (r / 8), .int 1, .int 2] = some (.tuple [hsD hs9, ssD s9]) := e9
  have start : ∀ d : PyData, (∀ ρ : Rho, ρ = [some (.tuple [hsD hs, ssD s]), some (.int r), some (hsD hs), some (ssD s), some (.int (r % 8))] → (∀ j : Int, TF.e2 (eVar 4) (eC (.int j)) dEq ρ = some (decide (r % 8 = j))) →
      g_other ρ = some (.rt d)) → m_law_other [.tuple [hsD hs, ssD s], .int r] = some d := fun d h => by
    refine run_of ?_
    refine seq_nx (ρ' := [some (.tuple [hsD hs, ssD s]), some (.int r), some (hsD hs), some (ssD s), none]) (by simp) ?_
    refine seq_nx (ρ' := [some (.tuple [hsD hs, ssD s]), some (.int r), some (hsD hs), some (ssD s), some (.int (r % 8))]) (by simp) ?_
    exact h _ rfl fun j => by simp [dEq_int, Bool.beq_eq_decide_eq]
  have and_f : ∀ {s t : Rho → Option Bool} {ρ : Rho}, s ρ = some false → TF.tAnd s t ρ = some false := fun h => by rw [tAnd_ev, h]; rfl
  have and_t : ∀ {s t : Rho → Option Bool} {ρ : Rho} {b : Bool}, s ρ = some true → t ρ = some b → TF.tAnd s t ρ = some b := fun h h' => by rw [tAnd_ev, h]; exact h'
  have ff : ∀ {ρ : Rho} {j : Int}, (∀ j : Int, TF.e2 (eVar 4) (eC (.int j)) dEq ρ = some (decide (r % 8 = j))) → r % 8 ≠ j → TF.e2 (eVar 4) (eC (.int j)) dEq ρ = some false := fun h e => by rw [h, decide_eq_false e]
  have tt : ∀ {ρ : Rho} {j : Int}, (∀ j : Int, TF.e2 (eVar 4) (eC (.int j)) dEq ρ = some (decide (r % 8 = j))) → r % 8 = j → TF.e2 (eVar 4) (eC (.int j)) dEq ρ = some true := fun h e => by rw [h, decide_eq_true e]
  have ret : ∀ {t : Rho → Option Bool} {f : Rho → Option PyData} {h : Rho → Option Fl} {ρ : Rho} {d : PyData}, t ρ = some true → f ρ = some d → fSeq (fIf t (fRet f) fNil) h ρ = some (.rt d) := fun h1 h2 => by
    rw [fSeq_ev, fIf_ev, h1]
    simp only [Option.bind_some, if_true, fRet_ev, h2, fThen_rt]
  rcases hc with e | e | e | e | e | e | e | e
  · refine ⟨hs, [.choice [s, s]], start _ fun ρ hρ ht => ?_, hok, ?_, ?_⟩
    · rw [c1]; refine ret (tt ht e) ?_; subst hρ; simp
    · rw [deps_one, dep_choice]; simp; omega
    · rw [hgts_one, hgt_choice]; simp; omega
  · refine ⟨hs, [.both [] s], start _ fun ρ hρ ht => ?_, hok, ?_, ?_⟩
    · rw [c2]; refine seq_if (ff ht (by omega)) (ret (tt ht e) ?_); subst hρ; simp
    · rw [deps_one, dep_both, hd0]; omega
    · rw [hgts_one, hgt_both, hgts_nil]; omega
  · have hlt : (s.length : Int) < 4 := by omega
    refine ⟨hs, s ++ [.round []], start _ fun ρ hρ ht => ?_, hok, ?_, ?_⟩
    · have hz : s.length + 1 ≤ sizeLine := by rw [sl]; omega
      have hadd : dAddA (ssD s) (.tuple [.tuple [.str "round", .tuple []]]) = some (ssD (s ++ [.round []])) := by rw [c3, ssD_eq]; simp [hz]
      refine seq_if (ff ht (by omega)) (seq_if (ff ht (by omega)) (ret (and_t (tt ht e) ?_) ?_))
      · subst hρ; simp [hlen, hlt]
      · subst hρ; simp [hadd]
    · exact deps_append _ _ (by omega) (by rw [deps_one, dep_round, hd0]; omega)
    · rw [hgts_append, hgts_one, hgt_round, hgts_nil]; omega
  · refine ⟨hs, [.choice [s, []]], start _ fun ρ hρ ht => ?_, hok, ?_, ?_⟩
    · rw [c4]; refine seq_if (ff ht (by omega)) (seq_if (ff ht (by omega)) (seq_if (and_f (ff ht (by omega))) (ret (tt ht e) ?_))); subst hρ; simp
    · rw [deps_one, dep_choice]; simp [hd0]; omega
    · rw [hgts_one, hgt_choice]; simp [hgts_nil]; omega
  · have go : ∀ t : Steps, dSl (ssD s) (some 1) none = some (ssD t) → m_law_other [.tuple [hsD hs, ssD s], .int r] = some (.tuple [hsD hs, ssD t]) := fun t hcut => start _ fun ρ hρ ht => by
      refine seq_if (ff ht (by omega)) (seq_if (ff ht (by omega)) (seq_if (and_f (ff ht (by omega))) (seq_if (ff ht (by omega)) (ret (tt ht e) ?_)))); subst hρ; simp [hcut]
    cases s with
    | nil => exact ⟨hs, [], go [] (by kernel_rfl), hok, by simp [hd0], by simp [hgts_nil]⟩
    | cons x t =>
      refine ⟨hs, t, go t (by rw [ssD_eq, List.map_cons, dSl_tup, cutD_1_]; rfl), hok, ?_, ?_⟩
      · exact deps_le.mpr fun y hy => Nat.le_trans (Nat.le_trans (deps_le.mp (Nat.le_refl _) y (by simp [hy] : y ∈ x :: t)) ds) (by decide)
      · rw [hgts_cons] at gs; omega
  · cases s with
    | nil =>
      have nz' : dNe (ssD []) (.tuple []) = some false := nz
      refine ⟨hs9, s9, start _ fun ρ hρ ht => ?_, hok9, d9, g9⟩
      refine seq_if (ff ht (by omega)) (seq_if (ff ht (by omega)) (seq_if (and_f (ff ht (by omega))) (seq_if (ff ht (by omega)) (seq_if (ff ht (by omega)) (seq_if (and_t (tt ht e) ?_) (seq_if (ff ht (by omega)) ?_))))))
      · subst hρ; simp [nz']
      · subst hρ; simp [e9']
    | cons x t =>
      have nz' : dNe (ssD (x :: t)) (.tuple []) = some true := by rw [nz]; simp
      have hcut : dSl (ssD (x :: t)) (some 1) none = some (ssD t) := by rw [ssD_eq, List.map_cons, dSl_tup, cutD_1_]; rfl
      have hcut2 : dSl (ssD (x :: t)) none (some 1) = some (ssD [x]) := by rw [ssD_eq, List.map_cons, dSl_tup, cutD__1]; rfl
      have c5 : ssD [.both [x] t] = .tuple [.tuple [.str "both", ssD [x], ssD t]] := by rw [ssD_eq]; simp [sD_both]
      have hx : deps [x] ≤ 3 := by rw [deps_one]; exact deps_le.mp ds x (by simp)
      have ht : deps t ≤ 3 := deps_le.mpr fun y hy => deps_le.mp ds y (by simp [hy])
      refine ⟨hs, [.both [x] t], start _ fun ρ hρ ht => ?_, hok, ?_, ?_⟩
      · rw [c5]
        refine seq_if (ff ht (by omega)) (seq_if (ff ht (by omega)) (seq_if (and_f (ff ht (by omega))) (seq_if (ff ht (by omega)) (seq_if (ff ht (by omega)) (ret (and_t (tt ht e) ?_) ?_)))))
        · subst hρ; simp [nz']
        · subst hρ; simp [hcut, hcut2]
      · rw [deps_one, dep_both]; omega
      · rw [hgts_one, hgt_both, hgts_one]; rw [hgts_cons] at gs; omega
  · have hrv : dRev (hsD hs) = some (hsD hs.reverse) := by
      show some (PyData.tuple (hs.map PyData.str).reverse) = _
      rw [← List.map_reverse]; rfl
    have hp := List.reverse_perm hs
    refine ⟨hs.reverse, [.round [.round s]], start _ fun ρ hρ ht => ?_, ⟨by rw [List.length_reverse]; exact hok.1, by rw [List.length_reverse]; exact hok.2.1, hp.nodup_iff.mpr hok.2.2.1, fun h hh => hok.2.2.2 h (hp.mem_iff.mp hh)⟩, ?_, ?_⟩
    · rw [c6]
      refine seq_if (ff ht (by omega)) (seq_if (ff ht (by omega)) (seq_if (and_f (ff ht (by omega))) (seq_if (ff ht (by omega)) (seq_if (ff ht (by omega)) (seq_if (and_f (ff ht (by omega))) (ret (tt ht e) ?_))))))
      subst hρ; simp [hrv]
    · rw [deps_one, dep_round, deps_one, dep_round]; omega
    · rw [hgts_one, hgt_round, hgts_one, hgt_round]; omega
  · refine ⟨hs9, s9, start _ fun ρ hρ ht => ?_, hok9, d9, g9⟩
    refine seq_if (ff ht (by omega)) (seq_if (ff ht (by omega)) (seq_if (and_f (ff ht (by omega))) (seq_if (ff ht (by omega)) (seq_if (ff ht (by omega)) (seq_if (and_f (ff ht (by omega))) (seq_if (ff ht (by omega)) ?_))))))
    subst hρ; simp [e9']
theorem law_true (ns : List Int) : m_law [scr ns] = some (.bool true) := by
  obtain ⟨r0, e0, p0, _⟩ := mixed_ok ns 0 (by decide)
  obtain ⟨r1, e1, p1, _⟩ := mixed_ok ns 1 (by decide)
  obtain ⟨r2, e2, p2, _⟩ := mixed_ok ns 2 (by decide)
  have e0' : m_law_mixed [scr ns, .int 0] = some (.int r0) := e0
  have e1' : m_law_mixed [scr ns, .int 1] = some (.int r1) := e1
  have e2' : m_law_mixed [scr ns, .int 2] = some (.int r2) := e2
  obtain ⟨m0, m1⟩ := mod_lt' r1 (b := 4) (by decide)
  obtain ⟨d, hd⟩ := nat_of m0
  obtain ⟨hs, s, et, hok, hlen, hws⟩ := talk_ok r0 3 d p0 (by decide) (by decide) (by omega)
  have ds : deps s ≤ 3 := Nat.le_trans (WSs.dep hws) (by omega)
  have gs : hgts s ≤ 10000 := by
    have h1 : hgts s ≤ s.length * HM d := sum_le_mul s fun x hx => WS.hgt (hws x hx)
    have h2 : s.length * HM d ≤ 3 * HM d := Nat.mul_le_mul_right _ (by omega)
    have h3 : HM d ≤ 3000 := by
      have : d = 0 ∨ d = 1 ∨ d = 2 ∨ d = 3 := by omega
      rcases this with rfl | rfl | rfl | rfl <;> decide
    omega
  -- the rest, from any talk
  have fin : ∀ (hs' : List Str) (s' : Steps), deps s' ≤ 5 → hgts s' ≤ 50000 → (fSeq (fSet 2 (TF.e2 (eVar 1) (eC (.int 1)) dIx)) (fSeq (fWhile wf w_law_1 [] b_law_1) (fRet (eB (TF.e2 (eCall 1 m_short (aCons (eVar 1) aNil)) (eTup (aCons (TF.e2 (eVar 1) (eC (.int 0)) dIx) (aCons (eVar 2) aNil))) dEq))))) [some (scr ns), some (.tuple [hsD hs', ssD s']), none] = some (.rt (.bool true)) := fun hs' s' h1 h2 => by
    refine seq_nx (ρ' := [some (scr ns), some (.tuple [hsD hs', ssD s']), some (ssD s')]) (by simp) ?_
    refine seq_nx (ρ' := [some (scr ns), some (.tuple [hsD hs', ssD s']), some (ssD (nfs s'))]) (while_ok _ _ 99999 100000 s' (by omega) (by omega) (by omega) (by omega)) ?_
    have hsh := short_top (hsD hs') (s := s') (by omega) (by omega)
    have heq : dEq (.tuple [hsD hs', ssD (nfs s')]) (.tuple [hsD hs', ssD (nfs s')]) = some true := dEq_self (d := tkD hs' (nfs s')) (tkD_nb _ _) (tkD_pl _ (Nat.le_trans (nfs_dep s') (by omega)))
    simp [hsh, heq]
  refine run_of ?_
  refine seq_nx (ρ' := [some (scr ns), some (.tuple [hsD hs, ssD s]), none]) (by simp [e0', e1', hd, et]) ?_
  by_cases hlt : (d : Int) < 2
  · obtain ⟨hs', s', h1, _, h3, h4⟩ := other_ok hok ds gs (by omega) r2 p2
    refine seq_nx (ρ' := [some (scr ns), some (.tuple [hsD hs', ssD s']), none]) ?_ (fin hs' s' h3 h4)
    simp [e1', hd, hlt, e2', h1]
  · refine seq_nx (ρ' := [some (scr ns), some (.tuple [hsD hs, ssD s]), none]) ?_ (fin hs s (by omega) (by omega))
    simp [e1', hd, hlt]
end Lr

/-! W_lanerows_k60_short.lean -/
set_option Elab.async false
set_option linter.all false
set_option maxRecDepth 100000
set_option maxHeartbeats 4000000
namespace Lr
open PySem PySem.Spec PyProof.Rows L2 TF

def top (i : Nat) : Stmt := PySem.Challenge.pw_lanerows_k60_short.main.body.getD i (.Pass ⟨0, 0, 0, 0⟩)
section
variable {P : Program} {w : World} {K : PySem.W.Frag} {mg : Str → Option Value} {base : Heap} {f : Addr} {fd : FuncData} {k : Nat}
abbrev s_parts_of : Stmt := top 1
abbrev N_parts_of : List Str := ["step"]
theorem sc_parts_of : FnScope N_parts_of ["step"] (defScope s_parts_of) := ⟨rfl, rfl, rfl, by decide +kernel, rfl, by decide +kernel, by decide +kernel⟩
theorem ok_parts_of (F : FunD K "parts_of" "parts_of" (defArgs s_parts_of) (defBody s_parts_of) (defScope s_parts_of) [] [] f fd) (hm : mg "parts_of" = some (.ref f))  : Callee P w K mg base (k + 1) "parts_of" 1 (runF 1 (f_parts_of)) :=
  fn_C (o' := []) F sc_parts_of hm (F.bindsN fun _ _ _ _ _ _ us hl => match us, hl with | [_], _ => rfl) fun cdv A outer s H E hr =>
    (svs_cons (o1 := []) (sv_if (et_cmp (opF_eq (hu64 hr)) (EV.r (ev_ix opF_ix (er_var 0 (pv 0)) (EV.r ev_int) (fun _ _ => rfl))) (EV.r ev_str) (nomark _)) (svs_one (sv_ret (ev_ix opF_ix (er_var 0 (pv 0)) (EV.r ev_int) (fun _ _ => rfl)))) svs_nil)
    (svs_cons (o1 := []) (sv_if (et_cmp (opF_eq (hu64 hr)) (EV.r (ev_ix opF_ix (er_var 0 (pv 0)) (EV.r ev_int) (fun _ _ => rfl))) (EV.r ev_str) (nomark _)) (svs_one (sv_ret (ev_tup ea_nil))) svs_nil)
    (svs_one (sv_ret (ev_slice opF_sl (er_var 0 (pv 0)) (eo_some (EV.r ev_int)) eo_none)))))
abbrev s_with_parts : Stmt := top 2
abbrev N_with_parts : List Str := ["step", "parts"]
theorem sc_with_parts : FnScope N_with_parts ["step", "parts"] (defScope s_with_parts) := ⟨rfl, rfl, rfl, by decide +kernel, rfl, by decide +kernel, by decide +kernel⟩
theorem ok_with_parts (F : FunD K "with_parts" "with_parts" (defArgs s_with_parts) (defBody s_with_parts) (defScope s_with_parts) [] [] f fd) (hm : mg "with_parts" = some (.ref f)) (z_tuple : mg "tuple" = none) : Callee P w K mg base (k + 1) "with_parts" 2 (runF 2 (f_with_parts)) :=
  fn_C (o' := []) F sc_with_parts hm (F.bindsN fun _ _ _ _ _ _ us hl => match us, hl with | [_, _], _ => rfl) fun cdv A outer s H E hr =>
    (svs_cons (o1 := []) (sv_if (et_cmp (opF_eq (hu64 hr)) (EV.r (ev_ix opF_ix (er_var 0 (pv 0)) (EV.r ev_int) (fun _ _ => rfl))) (EV.r ev_str) (nomark _)) (svs_one (sv_ret (ev_tup (ea_cons ev_str (ea_cons (ev_ct1 opF_tuple z_tuple (by decide +kernel) (er_var 1 (pv 1))) ea_nil))))) svs_nil)
    (svs_one (sv_ret (ev_bin opF_addA (EV.r (ev_slice opF_sl (er_var 0 (pv 0)) eo_none (eo_some (EV.r ev_int)))) (EV.r (ev_ct1 opF_tuple z_tuple (by decide +kernel) (er_var 1 (pv 1))))))))
abbrev s_unlike_ones : Stmt := top 4
abbrev N_unlike_ones : List Str := ["parts", "found", "part"]
theorem sc_unlike_ones : FnScope N_unlike_ones ["parts"] (defScope s_unlike_ones) := ⟨rfl, rfl, rfl, by decide +kernel, rfl, by decide +kernel, by decide +kernel⟩
theorem ok_unlike_ones (F : FunD K "unlike_ones" "unlike_ones" (defArgs s_unlike_ones) (defBody s_unlike_ones) (defScope s_unlike_ones) [] [] f fd) (hm : mg "unlike_ones" = some (.ref f))  : Callee P w K mg base (k + 1) "unlike_ones" 1 (runF 3 (f_unlike_ones)) :=
  fn_C (o' := []) F sc_unlike_ones hm (F.bindsN fun _ _ _ _ _ _ us hl => match us, hl with | [_], _ => rfl) fun cdv A outer s H E hr =>
    (svs_cons (o1 := [1]) (sv_own 1 sc_unlike_ones.nd (en_lst ea_nil))
    (svs_cons (o1 := [1]) (sv_for [2] rfl (wi_any (ev_var 0 (pv 0))) (tg_1 2 (pg_name (i := 2) sc_unlike_ones.nd rfl (Or.inl rfl))) (svs_one (sv_if (et_cmp (opF_notIn (hu65 hr)) (er_var 2 (pv 2)) (er_var 1 (pv 1)) (by rfl)) (svs_one (sv_append 1 (pv 1) (ev_var 2 (pv 2)))) svs_nil)) PassesOwn.never)
    (svs_one (sv_drop [] (sv_ret (ev_var 1 (pv 1)))))))
abbrev s_short_step : Stmt := top 5
abbrev N_short_step : List Str := ["step", "parts", "part"]
theorem sc_short_step : FnScope N_short_step ["step"] (defScope s_short_step) := ⟨rfl, rfl, rfl, by decide +kernel, rfl, by decide +kernel, by decide +kernel⟩
theorem ok_short_step {r_short_step : List PyData → Option PyData} {r_short_steps : List PyData → Option PyData} (F : FunD K "short_step" "short_step" (defArgs s_short_step) (defBody s_short_step) (defScope s_short_step) [] [] f fd) (hm : mg "short_step" = some (.ref f)) (c_parts_of : Callee P w K mg base k "parts_of" 1 m_parts_of) (c_short_steps : Callee P w K mg base k "short_steps" 1 r_short_steps) (c_unlike_ones : Callee P w K mg base k "unlike_ones" 1 m_unlike_ones) (c_with_parts : Callee P w K mg base k "with_parts" 2 m_with_parts) (z_len : mg "len" = none) : Callee P w K mg base (k + 1) "short_step" 1 (runF 3 (f_short_step r_short_step r_short_steps)) :=
  fn_C (o' := []) F sc_short_step hm (F.bindsN fun _ _ _ _ _ _ us hl => match us, hl with | [_], _ => rfl) fun cdv A outer s H E hr =>
    (svs_cons (o1 := []) (sv_if (et_cmp (opF_eq (hu64 hr)) (EV.r (ev_ix opF_ix (er_var 0 (pv 0)) (EV.r ev_int) (fun _ _ => rfl))) (EV.r ev_str) (nomark _)) (svs_one (sv_ret (ev_tup (ea_cons (ev_var 0 (pv 0)) ea_nil)))) svs_nil)
    (svs_cons (o1 := []) (sv_less [1] (sv_ownLc 1 (own := [("part", 2)]) rfl sc_short_step.nd (wi_any (ev_fn c_parts_of hr (ea_cons (ev_var 0 (pv 0)) ea_nil))) (ct_1 2) (blkOk_by (N := N_short_step) (sc := defScope s_short_step) (by decide +kernel)) (fun _ _ _ _ _ => (pg_name (i := 2) sc_short_step.nd rfl (Or.inl rfl))) (fun _ _ _ _ _ => ets_nil) (fun _ _ _ _ _ => (ev_fn c_short_steps hr (ea_cons (ev_var 2 (pv 2)) ea_nil))) (sw_true rfl rfl rfl (by decide +kernel))))
    (svs_cons (o1 := []) (sv_if (et_cmp (opF_eq (hu64 hr)) (EV.r (ev_ix opF_ix (er_var 0 (pv 0)) (EV.r ev_int) (fun _ _ => rfl))) (EV.r ev_str) (nomark _)) (svs_cons (o1 := []) (sv_set 1 sc_short_step.nd (ev_fn c_unlike_ones hr (ea_cons (ev_var 1 (pv 1)) ea_nil)))
    (svs_one (sv_if (et_cmp (opF_eq (hu64 hr)) (EV.r (ev_cb1 opF_len z_len (by decide +kernel) (er_var 1 (pv 1)))) (EV.r ev_int) (nomark _)) (svs_one (sv_ret (ev_ix opF_ix (er_var 1 (pv 1)) (EV.r ev_int) (fun _ _ => rfl)))) svs_nil))) (svs_one (sv_if (et_cmp (opF_eq (hu64 hr)) (EV.r (ev_ix opF_ix (er_var 0 (pv 0)) (EV.r ev_int) (fun _ _ => rfl))) (EV.r ev_str) (nomark _)) (svs_cons (o1 := []) (sv_if (et_cmp (opF_eq (hu64 hr)) (EV.r (ev_cb1 opF_len z_len (by decide +kernel) (EV.r (ev_ix opF_ix (er_var 1 (pv 1)) (EV.r ev_int) (fun _ _ => rfl))))) (EV.r ev_int) (nomark _)) (svs_one (sv_ret (ev_tup ea_nil))) svs_nil)
    (svs_one (sv_if (PW.pt (ew_and (et_cmp (opF_eq (hu64 hr)) (EV.r (ev_cb1 opF_len z_len (by decide +kernel) (EV.r (ev_ix opF_ix (er_var 1 (pv 1)) (EV.r ev_int) (fun _ _ => rfl))))) (EV.r ev_int) (nomark _)) (ew_and1 (et_cmp (opF_eq (hu64 hr)) (EV.r (ev_ix opF_ix (EV.r (ev_ix opF_ix (EV.r (ev_ix opF_ix (er_var 1 (pv 1)) (EV.r ev_int) (fun _ _ => rfl))) (EV.r ev_int) (fun _ _ => rfl))) (EV.r ev_int) (fun _ _ => rfl))) (EV.r ev_str) (nomark _))))) (svs_one (sv_ret (ev_ix opF_ix (er_var 1 (pv 1)) (EV.r ev_int) (fun _ _ => rfl)))) svs_nil))) (svs_one (sv_if (PW.pt (ew_or (et_cmp (opF_eq (hu64 hr)) (EV.r (ev_cb1 opF_len z_len (by decide +kernel) (EV.r (ev_ix opF_ix (er_var 1 (pv 1)) (EV.r ev_int) (fun _ _ => rfl))))) (EV.r ev_int) (nomark _)) (ew_or1 (et_cmp (opF_eq (hu64 hr)) (EV.r (ev_cb1 opF_len z_len (by decide +kernel) (EV.r (ev_ix opF_ix (er_var 1 (pv 1)) (EV.r ev_int) (fun _ _ => rfl))))) (EV.r ev_int) (nomark _))))) (svs_one (sv_ret (ev_bin opF_addA (EV.r (ev_ix opF_ix (er_var 1 (pv 1)) (EV.r ev_int) (fun _ _ => rfl))) (EV.r (ev_ix opF_ix (er_var 1 (pv 1)) (EV.r ev_int) (fun _ _ => rfl)))))) svs_nil)))))
    (svs_one (sv_ret (ev_tup (ea_cons (ev_fn c_with_parts hr (ea_cons (ev_var 0 (pv 0)) (ea_cons (ev_var 1 (pv 1)) ea_nil))) ea_nil)))))))
abbrev s_short_steps : Stmt := top 6
abbrev N_short_steps : List Str := ["steps", "found", "step"]
theorem sc_short_steps : FnScope N_short_steps ["steps"] (defScope s_short_steps) := ⟨rfl, rfl, rfl, by decide +kernel, rfl, by decide +kernel, by decide +kernel⟩
theorem ok_short_steps {r_short_step : List PyData → Option PyData} {r_short_steps : List PyData → Option PyData} (F : FunD K "short_steps" "short_steps" (defArgs s_short_steps) (defBody s_short_steps) (defScope s_short_steps) [] [] f fd) (hm : mg "short_steps" = some (.ref f)) (c_short_step : Callee P w K mg base k "short_step" 1 r_short_step) : Callee P w K mg base (k + 1) "short_steps" 1 (runF 3 (f_short_steps r_short_step r_short_steps)) :=
  fn_C (o' := []) F sc_short_steps hm (F.bindsN fun _ _ _ _ _ _ us hl => match us, hl with | [_], _ => rfl) fun cdv A outer s H E hr =>
    (svs_cons (o1 := []) (sv_set 1 sc_short_steps.nd (ev_tup ea_nil))
    (svs_cons (o1 := []) (sv_for [2] rfl (wi_any (ev_var 0 (pv 0))) (tg_1 2 (pg_name (i := 2) sc_short_steps.nd rfl (Or.inl rfl))) (svs_one (sv_set 1 sc_short_steps.nd (ev_bin opF_addA (er_var 1 (pv 1)) (EV.r (ev_fn c_short_step hr (ea_cons (ev_var 2 (pv 2)) ea_nil)))))) PassesOwn.never)
    (svs_one (sv_ret (ev_var 1 (pv 1))))))
abbrev s_short : Stmt := top 7
abbrev N_short : List Str := ["talk", "steps", "less"]
theorem sc_short : FnScope N_short ["talk"] (defScope s_short) := ⟨rfl, rfl, rfl, by decide +kernel, rfl, by decide +kernel, by decide +kernel⟩
theorem ok_short (F : FunD K "short" "short" (defArgs s_short) (defBody s_short) (defScope s_short) [] [] f fd) (hm : mg "short" = some (.ref f)) (c_short_steps : Callee P w K mg base k "short_steps" 1 (m_short_steps fu_short_step)) : Callee P w K mg base (k + 1) "short" 1 (runF 3 (f_short)) :=
  fn_C (o' := []) F sc_short hm (F.bindsN fun _ _ _ _ _ _ us hl => match us, hl with | [_], _ => rfl) fun cdv A outer s H E hr =>
    (svs_cons (o1 := []) (sv_set 1 sc_short.nd (ev_ix opF_ix (er_var 0 (pv 0)) (EV.r ev_int) (fun _ _ => rfl)))
    (svs_cons (o1 := []) (sv_set 2 sc_short.nd (ev_fn c_short_steps hr (ea_cons (ev_var 1 (pv 1)) ea_nil)))
    (svs_cons (o1 := []) (sv_while wf [] (et_cmp (opF_ne (hu64 hr)) (er_var 2 (pv 2)) (er_var 1 (pv 1)) (nomark _)) (svs_cons (o1 := []) (sv_set 1 sc_short.nd (ev_var 2 (pv 2)))
    (svs_one (sv_set 2 sc_short.nd (ev_fn c_short_steps hr (ea_cons (ev_var 1 (pv 1)) ea_nil))))) PassesOwn.never)
    (svs_one (sv_ret (ev_tup (ea_cons (ev_ix opF_ix (er_var 0 (pv 0)) (EV.r ev_int) (fun _ _ => rfl)) (ea_cons (ev_var 1 (pv 1)) ea_nil))))))))
abbrev s_law_cell_at : Stmt := top 9
abbrev N_law_cell_at : List Str := ["_law_script", "_law_k"]
theorem sc_law_cell_at : FnScope N_law_cell_at ["_law_script", "_law_k"] (defScope s_law_cell_at) := ⟨rfl, rfl, rfl, by decide +kernel, rfl, by decide +kernel, by decide +kernel⟩
theorem ok_law_cell_at (F : FunD K "_law_cell_at" "_law_cell_at" (defArgs s_law_cell_at) (defBody s_law_cell_at) (defScope s_law_cell_at) [] [] f fd) (hm : mg "_law_cell_at" = some (.ref f)) (z_len : mg "len" = none) : Callee P w K mg base (k + 1) "_law_cell_at" 2 (runF 2 (f_law_cell_at)) :=
  fn_C (o' := []) F sc_law_cell_at hm (F.bindsN fun _ _ _ _ _ _ us hl => match us, hl with | [_, _], _ => rfl) fun cdv A outer s H E hr =>
    (svs_cons (o1 := []) (sv_if (et_cmp (opF_ltA (hu64 hr)) (er_var 1 (pv 1)) (EV.r (ev_cb1 opF_len z_len (by decide +kernel) (er_var 0 (pv 0)))) (nomark _)) (svs_one (sv_ret (ev_ix opF_ix (er_var 0 (pv 0)) (er_var 1 (pv 1)) (fun _ _ => rfl)))) svs_nil)
    (svs_one (sv_ret ev_int)))
abbrev s_law_mixed : Stmt := top 10
abbrev N_law_mixed : List Str := ["_law_script", "_law_k", "_law_drawn_here"]
theorem sc_law_mixed : FnScope N_law_mixed ["_law_script", "_law_k"] (defScope s_law_mixed) := ⟨rfl, rfl, rfl, by decide +kernel, rfl, by decide +kernel, by decide +kernel⟩
theorem ok_law_mixed (F : FunD K "_law_mixed" "_law_mixed" (defArgs s_law_mixed) (defBody s_law_mixed) (defScope s_law_mixed) [] [] f fd) (hm : mg "_law_mixed" = some (.ref f)) (c_law_cell_at : Callee P w K mg base k "_law_cell_at" 2 m_law_cell_at) : Callee P w K mg base (k + 1) "_law_mixed" 2 (runF 3 (f_law_mixed)) :=
  fn_C (o' := []) F sc_law_mixed hm (F.bindsN fun _ _ _ _ _ _ us hl => match us, hl with | [_, _], _ => rfl) fun cdv A outer s H E hr =>
    (svs_cons (o1 := []) (sv_set 2 sc_law_mixed.nd (ev_bin opF_mod (EV.r (ev_bin opF_mulA (EV.r (ev_bin opF_addA (EV.r (ev_bin opF_addA (EV.r (ev_fn c_law_cell_at hr (ea_cons (ev_var 0 (pv 0)) (ea_cons (ev_var 1 (pv 1)) ea_nil)))) (EV.r (ev_bin opF_mulA (EV.r ev_int) (er_var 1 (pv 1)))))) (EV.r ev_int))) (EV.r ev_int))) (EV.r ev_int)))
    (svs_one (sv_ret (ev_bin opF_mod (EV.r (ev_bin opF_addA (EV.r (ev_bin opF_addA (EV.r (ev_bin opF_mulA (er_var 2 (pv 2)) (er_var 2 (pv 2)))) (EV.r (ev_bin opF_mulA (EV.r ev_int) (er_var 2 (pv 2)))))) (er_var 1 (pv 1)))) (EV.r ev_int)))))
abbrev s_law_drawn : Stmt := top 11
abbrev N_law_drawn : List Str := ["_law_number", "_law_k", "_law_drawn_here"]
theorem sc_law_drawn : FnScope N_law_drawn ["_law_number", "_law_k"] (defScope s_law_drawn) := ⟨rfl, rfl, rfl, by decide +kernel, rfl, by decide +kernel, by decide +kernel⟩
theorem ok_law_drawn (F : FunD K "_law_drawn" "_law_drawn" (defArgs s_law_drawn) (defBody s_law_drawn) (defScope s_law_drawn) [] [] f fd) (hm : mg "_law_drawn" = some (.ref f))  : Callee P w K mg base (k + 1) "_law_drawn" 2 (runF 3 (f_law_drawn)) :=
  fn_C (o' := []) F sc_law_drawn hm (F.bindsN fun _ _ _ _ _ _ us hl => match us, hl with | [_, _], _ => rfl) fun cdv A outer s H E hr =>
    (svs_cons (o1 := []) (sv_set 2 sc_law_drawn.nd (ev_bin opF_mod (EV.r (ev_bin opF_mulA (EV.r (ev_bin opF_addA (EV.r (ev_bin opF_addA (er_var 0 (pv 0)) (EV.r (ev_bin opF_mulA (EV.r ev_int) (er_var 1 (pv 1)))))) (EV.r ev_int))) (EV.r ev_int))) (EV.r ev_int)))
    (svs_one (sv_ret (ev_bin opF_mod (EV.r (ev_bin opF_addA (EV.r (ev_bin opF_addA (EV.r (ev_bin opF_mulA (er_var 2 (pv 2)) (er_var 2 (pv 2)))) (EV.r (ev_bin opF_mulA (EV.r ev_int) (er_var 2 (pv 2)))))) (er_var 1 (pv 1)))) (EV.r ev_int)))))
abbrev s_law_word : Stmt := top 12
abbrev N_law_word : List Str := ["_law_number", "_law_signs", "_law_k"]
theorem sc_law_word : FnScope N_law_word ["_law_number"] (defScope s_law_word) := ⟨rfl, rfl, rfl, by decide +kernel, rfl, by decide +kernel, by decide +kernel⟩
theorem ok_law_word (F : FunD K "_law_word" "_law_word" (defArgs s_law_word) (defBody s_law_word) (defScope s_law_word) [] [] f fd) (hm : mg "_law_word" = some (.ref f)) (c_law_drawn : Callee P w K mg base k "_law_drawn" 2 m_law_drawn) (z_range : mg "range" = none) : Callee P w K mg base (k + 1) "_law_word" 1 (runF 3 (f_law_word)) :=
  fn_C (o' := []) F sc_law_word hm (F.bindsN fun _ _ _ _ _ _ us hl => match us, hl with | [_], _ => rfl) fun cdv A outer s H E hr =>
    (svs_cons (o1 := []) (sv_if (et_cmp opF_gt (EV.r (ev_bin opF_mod (er_var 0 (pv 0)) (EV.r ev_int))) (EV.r ev_int) (nomark _)) (svs_one (sv_ret (ev_ix opF_ix (EV.r (ev_tup (ea_cons ev_str (ea_cons ev_str (ea_cons ev_str (ea_cons ev_str (ea_cons ev_str ea_nil))))))) (EV.r (ev_bin opF_sub (EV.r (ev_bin opF_mod (er_var 0 (pv 0)) (EV.r ev_int))) (EV.r ev_int))) (fun _ _ => rfl)))) svs_nil)
    (svs_cons (o1 := []) (sv_set 1 sc_law_word.nd ev_str)
    (svs_one (sv_ret (ev_join (EV.r ev_str) (EV.r (EN.v (en_lc (own := [("_law_k", 2)]) rfl sc_law_word.nd (wi_range1 z_range (EV.r (ev_bin opF_addA (EV.r ev_int) (EV.r (ev_bin opF_mod (EV.r (ev_bin opF_div (er_var 0 (pv 0)) (EV.r ev_int))) (EV.r ev_int)))))) (ct_1 2) (blkOk_by (N := N_law_word) (sc := defScope s_law_word) (by decide +kernel)) (fun _ _ _ _ _ => (pg_name (i := 2) sc_law_word.nd rfl (Or.inl rfl))) (fun _ _ _ _ _ => ets_nil) (fun _ _ _ _ _ => (ev_ix opF_ix (er_var 1 (pv 1)) (EV.r (ev_bin opF_mod (EV.r (ev_bin opF_div (EV.r (ev_fn c_law_drawn hr (ea_cons (ev_var 0 (pv 0)) (ea_cons (ev_var 2 (pv 2)) ea_nil)))) (EV.r ev_int))) (EV.r ev_int))) (fun _ _ => rfl)))))))))))
abbrev s_law_step : Stmt := top 13
abbrev N_law_step : List Str := ["_law_number", "_law_hands", "_law_deep", "_law_kind", "_law_one", "_law_begin", "_law_end", "_law_many", "_law_branches", "_law_k"]
theorem sc_law_step : FnScope N_law_step ["_law_number", "_law_hands", "_law_deep"] (defScope s_law_step) := ⟨rfl, rfl, rfl, by decide +kernel, rfl, by decide +kernel, by decide +kernel⟩
theorem ok_law_step {r_law_step : List PyData → Option PyData} {r_law_steps : List PyData → Option PyData} (F : FunD K "_law_step" "_law_step" (defArgs s_law_step) (defBody s_law_step) (defScope s_law_step) [] [] f fd) (hm : mg "_law_step" = some (.ref f)) (c_law_word : Callee P w K mg base k "_law_word" 1 m_law_word) (c_law_steps : Callee P w K mg base k "_law_steps" 4 r_law_steps) (c_law_drawn : Callee P w K mg base k "_law_drawn" 2 m_law_drawn) (z_len : mg "len" = none) (z_range : mg "range" = none) (z_tuple : mg "tuple" = none) : Callee P w K mg base (k + 1) "_law_step" 3 (runF 10 (f_law_step r_law_step r_law_steps)) :=
  fn_C (o' := []) F sc_law_step hm (F.bindsN fun _ _ _ _ _ _ us hl => match us, hl with | [_, _, _], _ => rfl) fun cdv A outer s H E hr =>
    (svs_cons (o1 := []) (sv_set 3 sc_law_step.nd (ev_bin opF_mod (er_var 0 (pv 0)) (EV.r ev_int)))
    (svs_cons (o1 := []) (sv_if (PW.pt (ew_or (et_cmp (opF_eq (hu64 hr)) (er_var 2 (pv 2)) (EV.r ev_int) (nomark _)) (ew_or1 (et_cmp (opF_ltA (hu64 hr)) (er_var 3 (pv 3)) (EV.r ev_int) (nomark _))))) (svs_cons (o1 := []) (sv_set 5 sc_law_step.nd (ev_ix opF_ix (er_var 1 (pv 1)) (EV.r (ev_bin opF_mod (EV.r (ev_bin opF_div (er_var 0 (pv 0)) (EV.r ev_int))) (EV.r (ev_cb1 opF_len z_len (by decide +kernel) (er_var 1 (pv 1)))))) (fun _ _ => rfl)))
    (svs_cons (o1 := []) (sv_set 6 sc_law_step.nd (ev_ix opF_ix (er_var 1 (pv 1)) (EV.r (ev_bin opF_mod (EV.r (ev_bin opF_div (er_var 0 (pv 0)) (EV.r ev_int))) (EV.r (ev_cb1 opF_len z_len (by decide +kernel) (er_var 1 (pv 1)))))) (fun _ _ => rfl)))
    (svs_one (sv_ret (ev_tup (ea_cons ev_str (ea_cons (ev_var 5 (pv 5)) (ea_cons (ev_var 6 (pv 6)) (ea_cons (ev_fn c_law_word hr (ea_cons (ev_bin opF_div (er_var 0 (pv 0)) (EV.r ev_int)) ea_nil)) ea_nil))))))))) svs_nil)
    (svs_cons (o1 := []) (sv_if (et_cmp (opF_ltA (hu64 hr)) (er_var 3 (pv 3)) (EV.r ev_int) (nomark _)) (svs_cons (o1 := []) (sv_set 7 sc_law_step.nd (ev_bin opF_addA (EV.r ev_int) (EV.r (ev_bin opF_mod (EV.r (ev_bin opF_div (er_var 0 (pv 0)) (EV.r ev_int))) (EV.r ev_int)))))
    (svs_cons (o1 := []) (sv_less [8] (sv_ownLc 8 (own := [("_law_k", 9)]) rfl sc_law_step.nd (wi_range1 z_range (er_var 7 (pv 7))) (ct_1 9) (blkOk_by (N := N_law_step) (sc := defScope s_law_step) (by decide +kernel)) (fun _ _ _ _ _ => (pg_name (i := 9) sc_law_step.nd rfl (Or.inl rfl))) (fun _ _ _ _ _ => ets_nil) (fun _ _ _ _ _ => (ev_fn c_law_steps hr (ea_cons (ev_bin opF_div (EV.r (ev_fn c_law_drawn hr (ea_cons (ev_var 0 (pv 0)) (ea_cons (ev_var 9 (pv 9)) ea_nil)))) (EV.r ev_int)) (ea_cons (ev_var 1 (pv 1)) (ea_cons (ev_bin opF_sub (er_var 2 (pv 2)) (EV.r ev_int)) (ea_cons ev_int ea_nil)))))) (sw_true rfl rfl rfl (by decide +kernel))))
    (svs_one (sv_ret (ev_tup (ea_cons ev_str (ea_cons (ev_ct1 opF_tuple z_tuple (by decide +kernel) (er_var 8 (pv 8))) ea_nil))))))) svs_nil)
    (svs_cons (o1 := []) (sv_set 4 sc_law_step.nd (ev_fn c_law_steps hr (ea_cons (ev_bin opF_div (EV.r (ev_fn c_law_drawn hr (ea_cons (ev_var 0 (pv 0)) (ea_cons ev_int ea_nil)))) (EV.r ev_int)) (ea_cons (ev_var 1 (pv 1)) (ea_cons (ev_bin opF_sub (er_var 2 (pv 2)) (EV.r ev_int)) (ea_cons ev_int ea_nil))))))
    (svs_cons (o1 := []) (sv_if (et_cmp (opF_eq (hu64 hr)) (er_var 3 (pv 3)) (EV.r ev_int) (nomark _)) (svs_one (sv_ret (ev_tup (ea_cons ev_str (ea_cons (ev_var 4 (pv 4)) ea_nil))))) svs_nil)
    (svs_one (sv_ret (ev_tup (ea_cons ev_str (ea_cons (ev_var 4 (pv 4)) (ea_cons (ev_fn c_law_steps hr (ea_cons (ev_bin opF_div (EV.r (ev_fn c_law_drawn hr (ea_cons (ev_var 0 (pv 0)) (ea_cons ev_int ea_nil)))) (EV.r ev_int)) (ea_cons (ev_var 1 (pv 1)) (ea_cons (ev_bin opF_sub (er_var 2 (pv 2)) (EV.r ev_int)) (ea_cons ev_int ea_nil))))) ea_nil)))))))))))
abbrev s_law_steps : Stmt := top 14
abbrev N_law_steps : List Str := ["_law_number", "_law_hands", "_law_deep", "_law_most", "_law_k"]
theorem sc_law_steps : FnScope N_law_steps ["_law_number", "_law_hands", "_law_deep", "_law_most"] (defScope s_law_steps) := ⟨rfl, rfl, rfl, by decide +kernel, rfl, by decide +kernel, by decide +kernel⟩
theorem ok_law_steps {r_law_step : List PyData → Option PyData} {r_law_steps : List PyData → Option PyData} (F : FunD K "_law_steps" "_law_steps" (defArgs s_law_steps) (defBody s_law_steps) (defScope s_law_steps) [] [] f fd) (hm : mg "_law_steps" = some (.ref f)) (c_law_step : Callee P w K mg base k "_law_step" 3 r_law_step) (c_law_drawn : Callee P w K mg base k "_law_drawn" 2 m_law_drawn) (z_range : mg "range" = none) (z_tuple : mg "tuple" = none) : Callee P w K mg base (k + 1) "_law_steps" 4 (runF 5 (f_law_steps r_law_step r_law_steps)) :=
  fn_C (o' := []) F sc_law_steps hm (F.bindsN fun _ _ _ _ _ _ us hl => match us, hl with | [_, _, _, _], _ => rfl) fun cdv A outer s H E hr =>
    (svs_one (sv_ret (ev_ct1 opF_tuple z_tuple (by decide +kernel) (EV.r (EN.v (en_lc (own := [("_law_k", 4)]) rfl sc_law_steps.nd (wi_range1 z_range (EV.r (ev_bin opF_mod (er_var 0 (pv 0)) (EV.r (ev_bin opF_addA (er_var 3 (pv 3)) (EV.r ev_int)))))) (ct_1 4) (blkOk_by (N := N_law_steps) (sc := defScope s_law_steps) (by decide +kernel)) (fun _ _ _ _ _ => (pg_name (i := 4) sc_law_steps.nd rfl (Or.inl rfl))) (fun _ _ _ _ _ => ets_nil) (fun _ _ _ _ _ => (ev_fn c_law_step hr (ea_cons (ev_bin opF_div (EV.r (ev_fn c_law_drawn hr (ea_cons (ev_var 0 (pv 0)) (ea_cons (ev_bin opF_addA (EV.r ev_int) (er_var 4 (pv 4))) ea_nil)))) (EV.r ev_int)) (ea_cons (ev_var 1 (pv 1)) (ea_cons (ev_var 2 (pv 2)) ea_nil)))))))))))
abbrev s_law_talk : Stmt := top 15
abbrev N_law_talk : List Str := ["_law_number", "_law_deep", "_law_most", "_law_hands", "_law_other_here"]
theorem sc_law_talk : FnScope N_law_talk ["_law_number", "_law_deep", "_law_most"] (defScope s_law_talk) := ⟨rfl, rfl, rfl, by decide +kernel, rfl, by decide +kernel, by decide +kernel⟩
theorem ok_law_talk (F : FunD K "_law_talk" "_law_talk" (defArgs s_law_talk) (defBody s_law_talk) (defScope s_law_talk) [] [] f fd) (hm : mg "_law_talk" = some (.ref f)) (c_law_word : Callee P w K mg base k "_law_word" 1 m_law_word) (c_law_steps : Callee P w K mg base k "_law_steps" 4 (m_law_steps fu_law_step)) : Callee P w K mg base (k + 1) "_law_talk" 3 (runF 5 (f_law_talk)) :=
  fn_C (o' := []) F sc_law_talk hm (F.bindsN fun _ _ _ _ _ _ us hl => match us, hl with | [_, _, _], _ => rfl) fun cdv A outer s H E hr =>
    (svs_cons (o1 := []) (sv_set 3 sc_law_talk.nd (ev_ix opF_ix (EV.r (ev_tup (ea_cons (ev_tup (ea_cons ev_str ea_nil)) (ea_cons (ev_tup (ea_cons ev_str (ea_cons ev_str ea_nil))) (ea_cons (ev_tup (ea_cons ev_str (ea_cons ev_str (ea_cons ev_str ea_nil)))) (ea_cons (ev_tup (ea_cons ev_str (ea_cons ev_str (ea_cons ev_str (ea_cons ev_str ea_nil))))) ea_nil)))))) (EV.r (ev_bin opF_mod (er_var 0 (pv 0)) (EV.r ev_int))) (fun _ _ => rfl)))
    (svs_cons (o1 := []) (sv_set 4 sc_law_talk.nd (ev_fn c_law_word hr (ea_cons (ev_bin opF_mulA (EV.r (ev_bin opF_div (er_var 0 (pv 0)) (EV.r ev_int))) (EV.r ev_int)) ea_nil)))
    (svs_cons (o1 := []) (sv_if (PW.pt (ew_and (et_cmp (opF_eq (hu64 hr)) (EV.r (ev_bin opF_mod (EV.r (ev_bin opF_div (er_var 0 (pv 0)) (EV.r ev_int))) (EV.r ev_int))) (EV.r ev_int) (nomark _)) (ew_and1 (et_cmp (opF_notIn (hu65 hr)) (er_var 4 (pv 4)) (er_var 3 (pv 3)) (by rfl))))) (svs_one (sv_set 3 sc_law_talk.nd (ev_bin opF_addA (EV.r (ev_tup (ea_cons (ev_var 4 (pv 4)) ea_nil))) (EV.r (ev_slice opF_sl (er_var 3 (pv 3)) (eo_some (EV.r ev_int)) eo_none))))) svs_nil)
    (svs_one (sv_ret (ev_tup (ea_cons (ev_var 3 (pv 3)) (ea_cons (ev_fn c_law_steps hr (ea_cons (ev_bin opF_div (er_var 0 (pv 0)) (EV.r ev_int)) (ea_cons (ev_var 3 (pv 3)) (ea_cons (ev_var 1 (pv 1)) (ea_cons (ev_var 2 (pv 2)) ea_nil))))) ea_nil))))))))
abbrev s_law_other : Stmt := top 16
abbrev N_law_other : List Str := ["_law_talk_here", "_law_number", "_law_hands", "_law_steps_here", "_law_kind"]
theorem sc_law_other : FnScope N_law_other ["_law_talk_here", "_law_number"] (defScope s_law_other) := ⟨rfl, rfl, rfl, by decide +kernel, rfl, by decide +kernel, by decide +kernel⟩
theorem ok_law_other (F : FunD K "_law_other" "_law_other" (defArgs s_law_other) (defBody s_law_other) (defScope s_law_other) [] [] f fd) (hm : mg "_law_other" = some (.ref f)) (c_law_talk : Callee P w K mg base k "_law_talk" 3 m_law_talk) (z_len : mg "len" = none) : Callee P w K mg base (k + 1) "_law_other" 2 (runF 5 (f_law_other)) :=
  fn_C (o' := []) F sc_law_other hm (F.bindsN fun _ _ _ _ _ _ us hl => match us, hl with | [_, _], _ => rfl) fun cdv A outer s H E hr =>
    (svs_cons (o1 := []) (sv_asg (ev_var 0 (pv 0)) (tg_2 2 3 (pg_tup rfl (pgs_cons (pg_name (i := 2) sc_law_other.nd rfl (Or.inl rfl)) (pgs_cons (pg_name (i := 3) sc_law_other.nd rfl (Or.inl rfl)) pgs_nil)))))
    (svs_cons (o1 := []) (sv_set 4 sc_law_other.nd (ev_bin opF_mod (er_var 1 (pv 1)) (EV.r ev_int)))
    (svs_cons (o1 := []) (sv_if (et_cmp (opF_eq (hu64 hr)) (er_var 4 (pv 4)) (EV.r ev_int) (nomark _)) (svs_one (sv_ret (ev_tup (ea_cons (ev_var 2 (pv 2)) (ea_cons (ev_tup (ea_cons (ev_tup (ea_cons ev_str (ea_cons (ev_tup (ea_cons (ev_var 3 (pv 3)) (ea_cons (ev_var 3 (pv 3)) ea_nil))) ea_nil))) ea_nil)) ea_nil))))) svs_nil)
    (svs_cons (o1 := []) (sv_if (et_cmp (opF_eq (hu64 hr)) (er_var 4 (pv 4)) (EV.r ev_int) (nomark _)) (svs_one (sv_ret (ev_tup (ea_cons (ev_var 2 (pv 2)) (ea_cons (ev_tup (ea_cons (ev_tup (ea_cons ev_str (ea_cons (ev_tup ea_nil) (ea_cons (ev_var 3 (pv 3)) ea_nil)))) ea_nil)) ea_nil))))) svs_nil)
    (svs_cons (o1 := []) (sv_if (PW.pt (ew_and (et_cmp (opF_eq (hu64 hr)) (er_var 4 (pv 4)) (EV.r ev_int) (nomark _)) (ew_and1 (et_cmp (opF_ltA (hu64 hr)) (EV.r (ev_cb1 opF_len z_len (by decide +kernel) (er_var 3 (pv 3)))) (EV.r ev_int) (nomark _))))) (svs_one (sv_ret (ev_tup (ea_cons (ev_var 2 (pv 2)) (ea_cons (ev_bin opF_addA (er_var 3 (pv 3)) (EV.r (ev_tup (ea_cons (ev_tup (ea_cons ev_str (ea_cons (ev_tup ea_nil) ea_nil))) ea_nil)))) ea_nil))))) svs_nil)
    (svs_cons (o1 := []) (sv_if (et_cmp (opF_eq (hu64 hr)) (er_var 4 (pv 4)) (EV.r ev_int) (nomark _)) (svs_one (sv_ret (ev_tup (ea_cons (ev_var 2 (pv 2)) (ea_cons (ev_tup (ea_cons (ev_tup (ea_cons ev_str (ea_cons (ev_tup (ea_cons (ev_var 3 (pv 3)) (ea_cons (ev_tup ea_nil) ea_nil))) ea_nil))) ea_nil)) ea_nil))))) svs_nil)
    (svs_cons (o1 := []) (sv_if (et_cmp (opF_eq (hu64 hr)) (er_var 4 (pv 4)) (EV.r ev_int) (nomark _)) (svs_one (sv_ret (ev_tup (ea_cons (ev_var 2 (pv 2)) (ea_cons (ev_slice opF_sl (er_var 3 (pv 3)) (eo_some (EV.r ev_int)) eo_none) ea_nil))))) svs_nil)
    (svs_cons (o1 := []) (sv_if (PW.pt (ew_and (et_cmp (opF_eq (hu64 hr)) (er_var 4 (pv 4)) (EV.r ev_int) (nomark _)) (ew_and1 (et_cmp (opF_ne (hu64 hr)) (er_var 3 (pv 3)) (EV.r (ev_tup ea_nil)) (nomark _))))) (svs_one (sv_ret (ev_tup (ea_cons (ev_var 2 (pv 2)) (ea_cons (ev_tup (ea_cons (ev_tup (ea_cons ev_str (ea_cons (ev_slice opF_sl (er_var 3 (pv 3)) eo_none (eo_some (EV.r ev_int))) (ea_cons (ev_slice opF_sl (er_var 3 (pv 3)) (eo_some (EV.r ev_int)) eo_none) ea_nil)))) ea_nil)) ea_nil))))) svs_nil)
    (svs_cons (o1 := []) (sv_if (et_cmp (opF_eq (hu64 hr)) (er_var 4 (pv 4)) (EV.r ev_int) (nomark _)) (svs_one (sv_ret (ev_tup (ea_cons (ev_rev (er_var 2 (pv 2))) (ea_cons (ev_tup (ea_cons (ev_tup (ea_cons ev_str (ea_cons (ev_tup (ea_cons (ev_tup (ea_cons ev_str (ea_cons (ev_var 3 (pv 3)) ea_nil))) ea_nil)) ea_nil))) ea_nil)) ea_nil))))) svs_nil)
    (svs_one (sv_ret (ev_fn c_law_talk hr (ea_cons (ev_bin opF_div (er_var 1 (pv 1)) (EV.r ev_int)) (ea_cons ev_int (ea_cons ev_int ea_nil)))))))))))))))
abbrev s_law_less : Stmt := top 17
abbrev N_law_less : List Str := ["_law_steps_here", "_law_at", "_law_step_here", "_law_new"]
theorem sc_law_less : FnScope N_law_less ["_law_steps_here"] (defScope s_law_less) := ⟨rfl, rfl, rfl, by decide +kernel, rfl, by decide +kernel, by decide +kernel⟩
theorem ok_law_less {r_law_less : List PyData → Option PyData} {r_law_less_step : List PyData → Option PyData} (F : FunD K "_law_less" "_law_less" (defArgs s_law_less) (defBody s_law_less) (defScope s_law_less) [] [] f fd) (hm : mg "_law_less" = some (.ref f)) (c_law_less_step : Callee P w K mg base k "_law_less_step" 1 r_law_less_step) (z_enumerate : mg "enumerate" = none) : Callee P w K mg base (k + 1) "_law_less" 1 (runF 4 (f_law_less r_law_less r_law_less_step)) :=
  fn_C (o' := []) F sc_law_less hm (F.bindsN fun _ _ _ _ _ _ us hl => match us, hl with | [_], _ => rfl) fun cdv A outer s H E hr =>
    (svs_cons (o1 := []) (sv_for [1, 2, 3] rfl (wi_enum z_enumerate (ev_var 0 (pv 0))) (tg_2 1 2 (pg_tup rfl (pgs_cons (pg_name (i := 1) sc_law_less.nd rfl (Or.inl rfl)) (pgs_cons (pg_name (i := 2) sc_law_less.nd rfl (Or.inl rfl)) pgs_nil)))) (svs_cons (o1 := []) (sv_set 3 sc_law_less.nd (ev_fn c_law_less_step hr (ea_cons (ev_var 2 (pv 2)) ea_nil)))
    (svs_one (sv_if (et_cmp opF_isNotA (er_var 3 (pv 3)) (EV.r ev_non) (nomark _)) (svs_one (sv_ret (ev_bin opF_addA (EV.r (ev_bin opF_addA (EV.r (ev_slice opF_sl (er_var 0 (pv 0)) eo_none (eo_some (er_var 1 (pv 1))))) (er_var 3 (pv 3)))) (EV.r (ev_slice opF_sl (er_var 0 (pv 0)) (eo_some (EV.r (ev_bin opF_addA (er_var 1 (pv 1)) (EV.r ev_int)))) eo_none))))) svs_nil))) PassesOwn.never)
    (svs_one (sv_ret (ev_var 0 (pv 0)))))
abbrev s_law_less_step : Stmt := top 18
abbrev N_law_less_step : List Str := ["_law_step_here", "_law_at", "_law_part", "_law_less_here"]
theorem sc_law_less_step : FnScope N_law_less_step ["_law_step_here"] (defScope s_law_less_step) := ⟨rfl, rfl, rfl, by decide +kernel, rfl, by decide +kernel, by decide +kernel⟩
theorem ok_law_less_step {r_law_less : List PyData → Option PyData} {r_law_less_step : List PyData → Option PyData} (F : FunD K "_law_less_step" "_law_less_step" (defArgs s_law_less_step) (defBody s_law_less_step) (defScope s_law_less_step) [] [] f fd) (hm : mg "_law_less_step" = some (.ref f)) (c_law_less : Callee P w K mg base k "_law_less" 1 r_law_less) (z_enumerate : mg "enumerate" = none) (z_len : mg "len" = none) (z_range : mg "range" = none) : Callee P w K mg base (k + 1) "_law_less_step" 1 (runF 4 (f_law_less_step r_law_less r_law_less_step)) :=
  fn_C (o' := []) F sc_law_less_step hm (F.bindsN fun _ _ _ _ _ _ us hl => match us, hl with | [_], _ => rfl) fun cdv A outer s H E hr =>
    (svs_cons (o1 := []) (sv_if (et_cmp (opF_eq (hu64 hr)) (EV.r (ev_ix opF_ix (er_var 0 (pv 0)) (EV.r ev_int) (fun _ _ => rfl))) (EV.r ev_str) (nomark _)) (svs_one (sv_ret ev_non)) svs_nil)
    (svs_cons (o1 := []) (sv_if (et_cmp (opF_eq (hu64 hr)) (EV.r (ev_ix opF_ix (er_var 0 (pv 0)) (EV.r ev_int) (fun _ _ => rfl))) (EV.r ev_str) (nomark _)) (svs_cons (o1 := []) (sv_if (et_cmp (opF_eq (hu64 hr)) (EV.r (ev_cb1 opF_len z_len (by decide +kernel) (EV.r (ev_ix opF_ix (er_var 0 (pv 0)) (EV.r ev_int) (fun _ _ => rfl))))) (EV.r ev_int) (nomark _)) (svs_one (sv_ret (ev_ix opF_ix (EV.r (ev_ix opF_ix (er_var 0 (pv 0)) (EV.r ev_int) (fun _ _ => rfl))) (EV.r ev_int) (fun _ _ => rfl)))) svs_nil)
    (svs_cons (o1 := []) (sv_for [1, 2, 3] rfl (wi_enum z_enumerate (ev_ix opF_ix (er_var 0 (pv 0)) (EV.r ev_int) (fun _ _ => rfl))) (tg_2 1 2 (pg_tup rfl (pgs_cons (pg_name (i := 1) sc_law_less_step.nd rfl (Or.inl rfl)) (pgs_cons (pg_name (i := 2) sc_law_less_step.nd rfl (Or.inl rfl)) pgs_nil)))) (svs_cons (o1 := []) (sv_if (et_cmp (opF_in (hu65 hr)) (er_var 2 (pv 2)) (EV.r (ev_slice opF_sl (EV.r (ev_ix opF_ix (er_var 0 (pv 0)) (EV.r ev_int) (fun _ _ => rfl))) eo_none (eo_some (er_var 1 (pv 1))))) (by rfl)) (svs_one (sv_ret (ev_tup (ea_cons (ev_tup (ea_cons ev_str (ea_cons (ev_bin opF_addA (EV.r (ev_slice opF_sl (EV.r (ev_ix opF_ix (er_var 0 (pv 0)) (EV.r ev_int) (fun _ _ => rfl))) eo_none (eo_some (er_var 1 (pv 1))))) (EV.r (ev_slice opF_sl (EV.r (ev_ix opF_ix (er_var 0 (pv 0)) (EV.r ev_int) (fun _ _ => rfl))) (eo_some (EV.r (ev_bin opF_addA (er_var 1 (pv 1)) (EV.r ev_int)))) eo_none))) ea_nil))) ea_nil)))) svs_nil)
    (svs_cons (o1 := []) (sv_set 3 sc_law_less_step.nd (ev_fn c_law_less hr (ea_cons (ev_var 2 (pv 2)) ea_nil)))
    (svs_one (sv_if (et_cmp (opF_ne (hu64 hr)) (er_var 3 (pv 3)) (er_var 2 (pv 2)) (nomark _)) (svs_one (sv_ret (ev_tup (ea_cons (ev_tup (ea_cons ev_str (ea_cons (ev_bin opF_addA (EV.r (ev_bin opF_addA (EV.r (ev_slice opF_sl (EV.r (ev_ix opF_ix (er_var 0 (pv 0)) (EV.r ev_int) (fun _ _ => rfl))) eo_none (eo_some (er_var 1 (pv 1))))) (EV.r (ev_tup (ea_cons (ev_var 3 (pv 3)) ea_nil))))) (EV.r (ev_slice opF_sl (EV.r (ev_ix opF_ix (er_var 0 (pv 0)) (EV.r ev_int) (fun _ _ => rfl))) (eo_some (EV.r (ev_bin opF_addA (er_var 1 (pv 1)) (EV.r ev_int)))) eo_none))) ea_nil))) ea_nil)))) svs_nil)))) PassesOwn.never)
    (svs_one (sv_ret ev_non)))) svs_nil)
    (svs_cons (o1 := []) (sv_if (PW.pt (ew_and (et_cmp (opF_eq (hu64 hr)) (EV.r (ev_ix opF_ix (er_var 0 (pv 0)) (EV.r ev_int) (fun _ _ => rfl))) (EV.r (ev_tup ea_nil)) (nomark _)) (ew_and1 (et_cmp (opF_eq (hu64 hr)) (EV.r (ev_ix opF_ix (er_var 0 (pv 0)) (EV.r ev_int) (fun _ _ => rfl))) (EV.r ev_str) (nomark _))))) (svs_one (sv_ret (ev_tup ea_nil))) svs_nil)
    (svs_cons (o1 := []) (sv_if (PW.pt (ew_and (et_cmp (opF_eq (hu64 hr)) (EV.r (ev_ix opF_ix (er_var 0 (pv 0)) (EV.r ev_int) (fun _ _ => rfl))) (EV.r ev_str) (nomark _)) (ew_and (et_cmp (opF_eq (hu64 hr)) (EV.r (ev_cb1 opF_len z_len (by decide +kernel) (EV.r (ev_ix opF_ix (er_var 0 (pv 0)) (EV.r ev_int) (fun _ _ => rfl))))) (EV.r ev_int) (nomark _)) (ew_and1 (et_cmp (opF_eq (hu64 hr)) (EV.r (ev_ix opF_ix (EV.r (ev_ix opF_ix (EV.r (ev_ix opF_ix (er_var 0 (pv 0)) (EV.r ev_int) (fun _ _ => rfl))) (EV.r ev_int) (fun _ _ => rfl))) (EV.r ev_int) (fun _ _ => rfl))) (EV.r ev_str) (nomark _)))))) (svs_one (sv_ret (ev_ix opF_ix (er_var 0 (pv 0)) (EV.r ev_int) (fun _ _ => rfl)))) svs_nil)
    (svs_cons (o1 := []) (sv_if (PW.pt (ew_and (et_cmp (opF_eq (hu64 hr)) (EV.r (ev_ix opF_ix (er_var 0 (pv 0)) (EV.r ev_int) (fun _ _ => rfl))) (EV.r ev_str) (nomark _)) (ew_and1 (et_cmp (opF_in (hu65 hr)) (EV.r (ev_tup ea_nil)) (EV.r (ev_slice opF_sl (er_var 0 (pv 0)) (eo_some (EV.r ev_int)) eo_none)) (by rfl))))) (svs_one (sv_ret (ev_bin opF_addA (EV.r (ev_ix opF_ix (er_var 0 (pv 0)) (EV.r ev_int) (fun _ _ => rfl))) (EV.r (ev_ix opF_ix (er_var 0 (pv 0)) (EV.r ev_int) (fun _ _ => rfl)))))) svs_nil)
    (svs_cons (o1 := []) (sv_for [1, 3] rfl (wi_range2 z_range (EV.r ev_int) (EV.r (ev_cb1 opF_len z_len (by decide +kernel) (er_var 0 (pv 0))))) (tg_1 1 (pg_name (i := 1) sc_law_less_step.nd rfl (Or.inl rfl))) (svs_cons (o1 := []) (sv_set 3 sc_law_less_step.nd (ev_fn c_law_less hr (ea_cons (ev_ix opF_ix (er_var 0 (pv 0)) (er_var 1 (pv 1)) (fun _ _ => rfl)) ea_nil)))
    (svs_one (sv_if (et_cmp (opF_ne (hu64 hr)) (er_var 3 (pv 3)) (EV.r (ev_ix opF_ix (er_var 0 (pv 0)) (er_var 1 (pv 1)) (fun _ _ => rfl))) (nomark _)) (svs_one (sv_ret (ev_tup (ea_cons (ev_bin opF_addA (EV.r (ev_bin opF_addA (EV.r (ev_slice opF_sl (er_var 0 (pv 0)) eo_none (eo_some (er_var 1 (pv 1))))) (EV.r (ev_tup (ea_cons (ev_var 3 (pv 3)) ea_nil))))) (EV.r (ev_slice opF_sl (er_var 0 (pv 0)) (eo_some (EV.r (ev_bin opF_addA (er_var 1 (pv 1)) (EV.r ev_int)))) eo_none))) ea_nil)))) svs_nil))) PassesOwn.never)
    (svs_one (sv_ret ev_non))))))))
abbrev s_law : Stmt := top 19
abbrev N_law : List Str := ["_law_script", "_law_talk_here", "_law_due"]
theorem sc_law : FnScope N_law ["_law_script"] (defScope s_law) := ⟨rfl, rfl, rfl, by decide +kernel, rfl, by decide +kernel, by decide +kernel⟩
theorem ok_law (F : FunD K "law" "law" (defArgs s_law) (defBody s_law) (defScope s_law) [] [] f fd) (c_law_talk : Callee P w K mg base k "_law_talk" 3 m_law_talk) (c_law_mixed : Callee P w K mg base k "_law_mixed" 2 m_law_mixed) (c_law_other : Callee P w K mg base k "_law_other" 2 m_law_other) (c_law_less : Callee P w K mg base k "_law_less" 1 (m_law_less fu_law_less)) (c_short : Callee P w K mg base k "short" 1 m_short) : FnOk P w K mg base CX0 (k + 1) f fd ["_law_script"] (spF K 1 m_law) :=
  fn_K (o' := []) F sc_law fun cdv A outer s H E hr =>
    (svs_cons (o1 := []) (sv_set 1 sc_law.nd (ev_fn c_law_talk hr (ea_cons (ev_fn c_law_mixed hr (ea_cons (ev_var 0 (pv 0)) (ea_cons ev_int ea_nil))) (ea_cons (ev_bin opF_mod (EV.r (ev_fn c_law_mixed hr (ea_cons (ev_var 0 (pv 0)) (ea_cons ev_int ea_nil)))) (EV.r ev_int)) (ea_cons ev_int ea_nil)))))
    (svs_cons (o1 := []) (sv_if (et_cmp (opF_ltA (hu64 hr)) (EV.r (ev_bin opF_mod (EV.r (ev_fn c_law_mixed hr (ea_cons (ev_var 0 (pv 0)) (ea_cons ev_int ea_nil)))) (EV.r ev_int))) (EV.r ev_int) (nomark _)) (svs_one (sv_set 1 sc_law.nd (ev_fn c_law_other hr (ea_cons (ev_var 1 (pv 1)) (ea_cons (ev_fn c_law_mixed hr (ea_cons (ev_var 0 (pv 0)) (ea_cons ev_int ea_nil))) ea_nil))))) svs_nil)
    (svs_cons (o1 := []) (sv_set 2 sc_law.nd (ev_ix opF_ix (er_var 1 (pv 1)) (EV.r ev_int) (fun _ _ => rfl)))
    (svs_cons (o1 := []) (sv_while wf [] (et_cmp (opF_ne (hu64 hr)) (EV.r (ev_fn c_law_less hr (ea_cons (ev_var 2 (pv 2)) ea_nil))) (er_var 2 (pv 2)) (nomark _)) (svs_one (sv_set 2 sc_law.nd (ev_fn c_law_less hr (ea_cons (ev_var 2 (pv 2)) ea_nil)))) PassesOwn.never)
    (svs_one (sv_ret (ev_cmp (opF_eq (hu64 hr)) (EV.r (ev_fn c_short hr (ea_cons (ev_var 1 (pv 1)) ea_nil))) (EV.r (ev_tup (ea_cons (ev_ix opF_ix (er_var 1 (pv 1)) (EV.r ev_int) (fun _ _ => rfl)) (ea_cons (ev_var 2 (pv 2)) ea_nil)))) (nomark _))))))))
theorem rec_short_step {f_short_stepA : Addr} {fd_short_step : FuncData} {f_short_stepsA : Addr} {fd_short_steps : FuncData} (F_short_step : FunD K "short_step" "short_step" (defArgs s_short_step) (defBody s_short_step) (defScope s_short_step) [] [] f_short_stepA fd_short_step) (g_short_step : mg "short_step" = some (.ref f_short_stepA)) (F_short_steps : FunD K "short_steps" "short_steps" (defArgs s_short_steps) (defBody s_short_steps) (defScope s_short_steps) [] [] f_short_stepsA fd_short_steps) (g_short_steps : mg "short_steps" = some (.ref f_short_stepsA)) (c_parts_of : Callee P w K mg base k "parts_of" 1 m_parts_of) (c_unlike_ones : Callee P w K mg base k "unlike_ones" 1 m_unlike_ones) (c_with_parts : Callee P w K mg base k "with_parts" 2 m_with_parts) (z_len : mg "len" = none) : ∀ n : Nat, Callee P w K mg base (k + n) "short_step" 1 (m_short_step n) ∧ Callee P w K mg base (k + n) "short_steps" 1 (m_short_steps n)
  | 0 => ⟨Callee.none (ps := ["step"]) g_short_step F_short_step.kp (F_short_step.bindsN fun _ _ _ _ _ _ us hl => match us, hl with | [_], _ => rfl) (fun _ => rfl), Callee.none (ps := ["steps"]) g_short_steps F_short_steps.kp (F_short_steps.bindsN fun _ _ _ _ _ _ us hl => match us, hl with | [_], _ => rfl) (fun _ => rfl)⟩
  | n + 1 => by
    have ih := rec_short_step F_short_step g_short_step F_short_steps g_short_steps c_parts_of c_unlike_ones c_with_parts z_len n
    exact ⟨ok_short_step F_short_step g_short_step (c_parts_of.mono (Nat.le_add_right _ _)) ih.2 (c_unlike_ones.mono (Nat.le_add_right _ _)) (c_with_parts.mono (Nat.le_add_right _ _)) z_len, ok_short_steps F_short_steps g_short_steps ih.1⟩
theorem rec_law_step {f_law_stepA : Addr} {fd_law_step : FuncData} {f_law_stepsA : Addr} {fd_law_steps : FuncData} (F_law_step : FunD K "_law_step" "_law_step" (defArgs s_law_step) (defBody s_law_step) (defScope s_law_step) [] [] f_law_stepA fd_law_step) (g_law_step : mg "_law_step" = some (.ref f_law_stepA)) (F_law_steps : FunD K "_law_steps" "_law_steps" (defArgs s_law_steps) (defBody s_law_steps) (defScope s_law_steps) [] [] f_law_stepsA fd_law_steps) (g_law_steps : mg "_law_steps" = some (.ref f_law_stepsA)) (c_law_word : Callee P w K mg base k "_law_word" 1 m_law_word) (c_law_drawn : Callee P w K mg base k "_law_drawn" 2 m_law_drawn) (z_len : mg "len" = none) (z_range : mg "range" = none) (z_tuple : mg "tuple" = none) : ∀ n : Nat, Callee P w K mg base (k + n) "_law_step" 3 (m_law_step n) ∧ Callee P w K mg base (k + n) "_law_steps" 4 (m_law_steps n)
  | 0 => ⟨Callee.none (ps := ["_law_number", "_law_hands", "_law_deep"]) g_law_step F_law_step.kp (F_law_step.bindsN fun _ _ _ _ _ _ us hl => match us, hl with | [_, _, _], _ => rfl) (fun _ => rfl), Callee.none (ps := ["_law_number", "_law_hands", "_law_deep", "_law_most"]) g_law_steps F_law_steps.kp (F_law_steps.bindsN fun _ _ _ _ _ _ us hl => match us, hl with | [_, _, _, _], _ => rfl) (fun _ => rfl)⟩
  | n + 1 => by
    have ih := rec_law_step F_law_step g_law_step F_law_steps g_law_steps c_law_word c_law_drawn z_len z_range z_tuple n
    exact ⟨ok_law_step F_law_step g_law_step (c_law_word.mono (Nat.le_add_right _ _)) ih.2 (c_law_drawn.mono (Nat.le_add_right _ _)) z_len z_range z_tuple, ok_law_steps F_law_steps g_law_steps ih.1 (c_law_drawn.mono (Nat.le_add_right _ _)) z_range z_tuple⟩
theorem rec_law_less {f_law_lessA : Addr} {fd_law_less : FuncData} {f_law_less_stepA : Addr} {fd_law_less_step : FuncData} (F_law_less : FunD K "_law_less" "_law_less" (defArgs s_law_less) (defBody s_law_less) (defScope s_law_less) [] [] f_law_lessA fd_law_less) (g_law_less : mg "_law_less" = some (.ref f_law_lessA)) (F_law_less_step : FunD K "_law_less_step" "_law_less_step" (defArgs s_law_less_step) (defBody s_law_less_step) (defScope s_law_less_step) [] [] f_law_less_stepA fd_law_less_step) (g_law_less_step : mg "_law_less_step" = some (.ref f_law_less_stepA)) (z_enumerate : mg "enumerate" = none) (z_len : mg "len" = none) (z_range : mg "range" = none) : ∀ n : Nat, Callee P w K mg base (k + n) "_law_less" 1 (m_law_less n) ∧ Callee P w K mg base (k + n) "_law_less_step" 1 (m_law_less_step n)
  | 0 => ⟨Callee.none (ps := ["_law_steps_here"]) g_law_less F_law_less.kp (F_law_less.bindsN fun _ _ _ _ _ _ us hl => match us, hl with | [_], _ => rfl) (fun _ => rfl), Callee.none (ps := ["_law_step_here"]) g_law_less_step F_law_less_step.kp (F_law_less_step.bindsN fun _ _ _ _ _ _ us hl => match us, hl with | [_], _ => rfl) (fun _ => rfl)⟩
  | n + 1 => by
    have ih := rec_law_less F_law_less g_law_less F_law_less_step g_law_less_step z_enumerate z_len z_range n
    exact ⟨ok_law_less F_law_less g_law_less ih.2 z_enumerate, ok_law_less_step F_law_less_step g_law_less_step ih.1 z_enumerate z_len z_range⟩
end
def d_parts_of : He.DefD := ⟨("parts_of", none), "parts_of", "parts_of", defArgs s_parts_of, defBody s_parts_of, defScope s_parts_of, [], []⟩
def d_with_parts : He.DefD := ⟨("with_parts", none), "with_parts", "with_parts", defArgs s_with_parts, defBody s_with_parts, defScope s_with_parts, [], []⟩
def d_unlike_ones : He.DefD := ⟨("unlike_ones", none), "unlike_ones", "unlike_ones", defArgs s_unlike_ones, defBody s_unlike_ones, defScope s_unlike_ones, [], []⟩
def d_short_step : He.DefD := ⟨("short_step", none), "short_step", "short_step", defArgs s_short_step, defBody s_short_step, defScope s_short_step, [], []⟩
def d_short_steps : He.DefD := ⟨("short_steps", none), "short_steps", "short_steps", defArgs s_short_steps, defBody s_short_steps, defScope s_short_steps, [], []⟩
def d_short : He.DefD := ⟨("short", none), "short", "short", defArgs s_short, defBody s_short, defScope s_short, [], []⟩
def d_law_cell_at : He.DefD := ⟨("_law_cell_at", none), "_law_cell_at", "_law_cell_at", defArgs s_law_cell_at, defBody s_law_cell_at, defScope s_law_cell_at, [], []⟩
def d_law_mixed : He.DefD := ⟨("_law_mixed", none), "_law_mixed", "_law_mixed", defArgs s_law_mixed, defBody s_law_mixed, defScope s_law_mixed, [], []⟩
def d_law_drawn : He.DefD := ⟨("_law_drawn", none), "_law_drawn", "_law_drawn", defArgs s_law_drawn, defBody s_law_drawn, defScope s_law_drawn, [], []⟩
def d_law_word : He.DefD := ⟨("_law_word", none), "_law_word", "_law_word", defArgs s_law_word, defBody s_law_word, defScope s_law_word, [], []⟩
def d_law_step : He.DefD := ⟨("_law_step", none), "_law_step", "_law_step", defArgs s_law_step, defBody s_law_step, defScope s_law_step, [], []⟩
def d_law_steps : He.DefD := ⟨("_law_steps", none), "_law_steps", "_law_steps", defArgs s_law_steps, defBody s_law_steps, defScope s_law_steps, [], []⟩
def d_law_talk : He.DefD := ⟨("_law_talk", none), "_law_talk", "_law_talk", defArgs s_law_talk, defBody s_law_talk, defScope s_law_talk, [], []⟩
def d_law_other : He.DefD := ⟨("_law_other", none), "_law_other", "_law_other", defArgs s_law_other, defBody s_law_other, defScope s_law_other, [], []⟩
def d_law_less : He.DefD := ⟨("_law_less", none), "_law_less", "_law_less", defArgs s_law_less, defBody s_law_less, defScope s_law_less, [], []⟩
def d_law_less_step : He.DefD := ⟨("_law_less_step", none), "_law_less_step", "_law_less_step", defArgs s_law_less_step, defBody s_law_less_step, defScope s_law_less_step, [], []⟩
def d_law : He.DefD := ⟨("law", none), "law", "law", defArgs s_law, defBody s_law, defScope s_law, [], []⟩
def fnL : List He.DefD := [d_parts_of, d_with_parts, d_unlike_ones, d_short_step, d_short_steps, d_short, d_law_cell_at, d_law_mixed, d_law_drawn, d_law_word, d_law_step, d_law_steps, d_law_talk, d_law_other, d_law_less, d_law_less_step, d_law]
def faL : List He.Fa := [.glo "parts_of", .glo "with_parts", .glo "unlike_ones", .glo "short_step", .glo "short_steps", .glo "short", .glo "_law_cell_at", .glo "_law_mixed", .glo "_law_drawn", .glo "_law_word", .glo "_law_step", .glo "_law_steps", .glo "_law_talk", .glo "_law_other", .glo "_law_less", .glo "_law_less_step", .glo "law", .free "enumerate", .free "len", .free "range", .free "tuple"]
abbrev R : PySem.W.OpenRow := PySem.W.OpenLaw.row PySem.Challenge.rw_lanerows_k60_short
abbrev hk : PySem.W.Hook := He.hookD 4 faL fnL
def ob (s : PySem.W.SharedT) : He.AlD := He.obsDG 4 faL fnL (HandSHeadRun.getT s)
theorem ob_eq (s : PySem.W.SharedT) : ob s = hk.obs s.abs := He.obsDG_eq (HandSHeadRun.getT_eq s)
def looseL : List Str := (["parts_of", "with_parts", "unlike_ones", "short_step", "short_steps", "short", "_law_cell_at", "_law_mixed", "_law_drawn", "_law_word", "_law_step", "_law_steps", "_law_talk", "_law_other", "_law_less", "_law_less_step"] : List Str)
theorem run (w : World) : HandSHeadRun.RunEq R (PySem.W.view R.prog [19]) hk ob 1000 looseL w := by
  intro os
  kernel_rfl
theorem facts {P : Program} {w : World} {K : PySem.W.Frag} {h : Heap} {mg : Str → Option Value} {f : Addr} (X : K.In h) (G : h.Ns mainGlobals mg) (hfa : mg ("law" : Str) = some (.ref f)) (c : He.SaysD faL fnL K) :
    ∃ fd : FuncData, (∀ (s : Shared) (v : Value), BindsTo s fd ⟨[v], []⟩ [("_law_script", v)]) ∧ ∀ base : Heap, K.In base → base.Ns mainGlobals mg → FnOk P w K mg base CX0 35 f fd ["_law_script"] (spF K 1 m_law) := by
  obtain ⟨fd_parts_of, F_parts_of⟩ := c.def_ 0 (d := d_parts_of) rfl
  have g_parts_of := He.glo_ok X G (c.fact 0 (f := .glo "parts_of") rfl)
  obtain ⟨fd_with_parts, F_with_parts⟩ := c.def_ 1 (d := d_with_parts) rfl
  have g_with_parts := He.glo_ok X G (c.fact 1 (f := .glo "with_parts") rfl)
  obtain ⟨fd_unlike_ones, F_unlike_ones⟩ := c.def_ 2 (d := d_unlike_ones) rfl
  have g_unlike_ones := He.glo_ok X G (c.fact 2 (f := .glo "unlike_ones") rfl)
  obtain ⟨fd_short_step, F_short_step⟩ := c.def_ 3 (d := d_short_step) rfl
  have g_short_step := He.glo_ok X G (c.fact 3 (f := .glo "short_step") rfl)
  obtain ⟨fd_short_steps, F_short_steps⟩ := c.def_ 4 (d := d_short_steps) rfl
  have g_short_steps := He.glo_ok X G (c.fact 4 (f := .glo "short_steps") rfl)
  obtain ⟨fd_short, F_short⟩ := c.def_ 5 (d := d_short) rfl
  have g_short := He.glo_ok X G (c.fact 5 (f := .glo "short") rfl)
  obtain ⟨fd_law_cell_at, F_law_cell_at⟩ := c.def_ 6 (d := d_law_cell_at) rfl
  have g_law_cell_at := He.glo_ok X G (c.fact 6 (f := .glo "_law_cell_at") rfl)
  obtain ⟨fd_law_mixed, F_law_mixed⟩ := c.def_ 7 (d := d_law_mixed) rfl
  have g_law_mixed := He.glo_ok X G (c.fact 7 (f := .glo "_law_mixed") rfl)
  obtain ⟨fd_law_drawn, F_law_drawn⟩ := c.def_ 8 (d := d_law_drawn) rfl
  have g_law_drawn := He.glo_ok X G (c.fact 8 (f := .glo "_law_drawn") rfl)
  obtain ⟨fd_law_word, F_law_word⟩ := c.def_ 9 (d := d_law_word) rfl
  have g_law_word := He.glo_ok X G (c.fact 9 (f := .glo "_law_word") rfl)
  obtain ⟨fd_law_step, F_law_step⟩ := c.def_ 10 (d := d_law_step) rfl
  have g_law_step := He.glo_ok X G (c.fact 10 (f := .glo "_law_step") rfl)
  obtain ⟨fd_law_steps, F_law_steps⟩ := c.def_ 11 (d := d_law_steps) rfl
  have g_law_steps := He.glo_ok X G (c.fact 11 (f := .glo "_law_steps") rfl)
  obtain ⟨fd_law_talk, F_law_talk⟩ := c.def_ 12 (d := d_law_talk) rfl
  have g_law_talk := He.glo_ok X G (c.fact 12 (f := .glo "_law_talk") rfl)
  obtain ⟨fd_law_other, F_law_other⟩ := c.def_ 13 (d := d_law_other) rfl
  have g_law_other := He.glo_ok X G (c.fact 13 (f := .glo "_law_other") rfl)
  obtain ⟨fd_law_less, F_law_less⟩ := c.def_ 14 (d := d_law_less) rfl
  have g_law_less := He.glo_ok X G (c.fact 14 (f := .glo "_law_less") rfl)
  obtain ⟨fd_law_less_step, F_law_less_step⟩ := c.def_ 15 (d := d_law_less_step) rfl
  have g_law_less_step := He.glo_ok X G (c.fact 15 (f := .glo "_law_less_step") rfl)
  obtain ⟨fd_law, F_law⟩ := c.def_ 16 (d := d_law) rfl
  have z_enumerate := He.free_ok X G (c.fact 17 (f := .free "enumerate") rfl)
  have z_len := He.free_ok X G (c.fact 18 (f := .free "len") rfl)
  have z_range := He.free_ok X G (c.fact 19 (f := .free "range") rfl)
  have z_tuple := He.free_ok X G (c.fact 20 (f := .free "tuple") rfl)
  have e := hfa.symm.trans (He.glo_ok X G (c.fact 16 (f := .glo "law") rfl))
  cases e
  have b := FunD.bindsA (ps := ["_law_script"]) F_law fun _ _ _ _ _ _ us hl => match us, hl with | [_], _ => rfl
  refine ⟨fd_law, fun s v => b s [v] rfl, fun base _ _ => ?_⟩
  have c_parts_of : Callee P w K mg base 1 "parts_of" 1 m_parts_of := ok_parts_of (k := 0) F_parts_of g_parts_of 
  have c_with_parts : Callee P w K mg base 1 "with_parts" 2 m_with_parts := ok_with_parts (k := 0) F_with_parts g_with_parts z_tuple
  have c_unlike_ones : Callee P w K mg base 1 "unlike_ones" 1 m_unlike_ones := ok_unlike_ones (k := 0) F_unlike_ones g_unlike_ones 
  have h_short_step := rec_short_step (P := P) (w := w) (K := K) (mg := mg) (base := base) (k := 1) F_short_step g_short_step F_short_steps g_short_steps (c_parts_of.mono (by decide)) (c_unlike_ones.mono (by decide)) (c_with_parts.mono (by decide)) z_len fu_short_step
  have c_short_step : Callee P w K mg base 31 "short_step" 1 (m_short_step fu_short_step) := h_short_step.1
  have c_short_steps : Callee P w K mg base 31 "short_steps" 1 (m_short_steps fu_short_step) := h_short_step.2
  have c_short : Callee P w K mg base 32 "short" 1 m_short := ok_short (k := 31) F_short g_short (c_short_steps.mono (by decide))
  have c_law_cell_at : Callee P w K mg base 1 "_law_cell_at" 2 m_law_cell_at := ok_law_cell_at (k := 0) F_law_cell_at g_law_cell_at z_len
  have c_law_mixed : Callee P w K mg base 2 "_law_mixed" 2 m_law_mixed := ok_law_mixed (k := 1) F_law_mixed g_law_mixed (c_law_cell_at.mono (by decide))
  have c_law_drawn : Callee P w K mg base 1 "_law_drawn" 2 m_law_drawn := ok_law_drawn (k := 0) F_law_drawn g_law_drawn 
  have c_law_word : Callee P w K mg base 2 "_law_word" 1 m_law_word := ok_law_word (k := 1) F_law_word g_law_word (c_law_drawn.mono (by decide)) z_range
  have h_law_step := rec_law_step (P := P) (w := w) (K := K) (mg := mg) (base := base) (k := 2) F_law_step g_law_step F_law_steps g_law_steps (c_law_word.mono (by decide)) (c_law_drawn.mono (by decide)) z_len z_range z_tuple fu_law_step
  have c_law_step : Callee P w K mg base 32 "_law_step" 3 (m_law_step fu_law_step) := h_law_step.1
  have c_law_steps : Callee P w K mg base 32 "_law_steps" 4 (m_law_steps fu_law_step) := h_law_step.2
  have c_law_talk : Callee P w K mg base 33 "_law_talk" 3 m_law_talk := ok_law_talk (k := 32) F_law_talk g_law_talk (c_law_word.mono (by decide)) (c_law_steps.mono (by decide))
  have c_law_other : Callee P w K mg base 34 "_law_other" 2 m_law_other := ok_law_other (k := 33) F_law_other g_law_other (c_law_talk.mono (by decide)) z_len
  have h_law_less := rec_law_less (P := P) (w := w) (K := K) (mg := mg) (base := base) (k := 0) F_law_less g_law_less F_law_less_step g_law_less_step z_enumerate z_len z_range fu_law_less
  have c_law_less : Callee P w K mg base 30 "_law_less" 1 (m_law_less fu_law_less) := h_law_less.1
  have c_law_less_step : Callee P w K mg base 30 "_law_less_step" 1 (m_law_less_step fu_law_less) := h_law_less.2
  exact ok_law (k := 34) F_law (c_law_talk.mono (by decide)) (c_law_mixed.mono (by decide)) (c_law_other.mono (by decide)) (c_law_less.mono (by decide)) (c_short.mono (by decide))
end Lr
open PySem PySem.W PySem.Calls PyProof.Rows
set_option maxHeartbeats 0 in
theorem Lr.holds (hl : ∀ ns : List Int, ns.length ≤ 63 → Lr.m_law [TF.scr ns] = some (.bool true)) : PySem.Challenge.rw_lanerows_k60_short.Holds := by
  w_on; o_law
  refine HandSHeadRun.head_any (r := OpenLaw.row PySem.Challenge.rw_lanerows_k60_short) (q := view (OpenLaw.row PySem.Challenge.rw_lanerows_k60_short).prog [19]) (H := Lr.hk) (ob := Lr.ob) (M := 1000) (loose := Lr.looseL) (d := HandSHeadRun.topDef (OpenLaw.row PySem.Challenge.rw_lanerows_k60_short).prog 19) (kwd := []) Lr.ob_eq
    (by kernel_rfl) (fun s => by kernel_rfl) Lr.run (by kernel_rfl) (by kernel_rfl) (by kernel_rfl) (by rfl) (by first | assumption | decide +kernel) (by decide +kernel) ⟨rfl, rfl, rfl, rfl, rfl, by decide +kernel⟩ ?hw ?hc
  case hw => w_witness2
  case hc =>
    refine L2.walk_ofE (l := PySem.Challenge.rw_lanerows_k60_short) (n := 63) (k := 35) (x := "_law_script") (CX := L2.CX0) rfl (by decide) (by kernel_rfl) ⟨rfl, by decide, by decide⟩ ?F (fun _ _ _ _ z => z)
    intro w mg fa h Y G hmg0
    obtain ⟨K, KX, c⟩ := Y
    have hmg : mg ("law" : PySem.Str) = some (.ref fa) := by
      have e : (HandSHeadRun.topDef (OpenLaw.row PySem.Challenge.rw_lanerows_k60_short).prog 19).name = ("law" : PySem.Str) := by kernel_rfl
      rw [← e]
      exact hmg0
    obtain ⟨fd, hb, hF⟩ := Lr.facts (P := (PySem.Challenge.rw_lanerows_k60_short).prog) (w := w) KX G hmg c
    exact ⟨K, fd, TF.spF K 1 Lr.m_law, KX, hb, fun H a ns hl2 hO hS => TF.law_sp hl H a ns hl2 hO hS, hF⟩

theorem PySem.Challenge.cw_lanerows_k60_short_holds : PySem.Challenge.rw_lanerows_k60_short.Holds := by
  exact Lr.holds fun ns _ => Lr.law_true ns
