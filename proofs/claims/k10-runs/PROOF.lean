import PyProof.Rows.All
import Wide.All
import OpenK.AllK
import Wide.FinOn
import HandS.ForMost
import HandS.TupAny
import HandS.TupMul
import HandS.Deep
import HandS.Walk
import KE.DataEq
import KE.DataCmp
import KE.LtData
import KE.SortData
import HandS.Lambda
import HandS.ForExc
import HandS.ExcIs
import HandS.Strs
import HandS.Style
import HandS.Defaults
import HandS.Zip
import KE.GoesMore
import KE.GoesEnum
import KE.DataMinMax
import HandS.TryOnly
import KE.SortCalls
import HandS.IsInst
import KE.KDictKeyed
import HandS.HeadHook1
import HandS.Conv
import HandS.More
import HandS.HeadHook2
import HandS.HeadHook4
import HandS.HeadWalk
import HandS.Sort
import KE.KDictCopyH
import KE.KDictSum
import HandS.SortKw
import PyProof.ReprRoads
import KE.SortKeyHeap
import HandS.TupSets
import HandS.Exc
import HandS.Head0
import HandS.Head1
import HandS.Head2
import HandS.HeadEnd
import HandS.HeadHook3
import PySem.Challenge.RW_lanerows_k10_runs
/-! TFo.lean -/
set_option Elab.async false
set_option linter.all false
set_option maxRecDepth 100000
/-! TF.o: tuples that are known to the last field (no dict of their own), so that their methods can be called -/
namespace TF
open PySem PySem.Spec PyProof.Rows L2
/-- a tuple of the items its -/
def tobj (its : List Value) : Obj := { cls := .type "tuple", data := .seq its.toArray }
def fz (its : List Value) (xs : List V) : HO := .frz (tobj its) (.tup xs)
theorem sqT_fz {K : PySem.W.Frag} {H : Hp} {a : Addr} {its : List Value} {xs : List V} (h : H a = some (fz its xs)) : SqT K H a xs := .inl (.inr ⟨_, h⟩)
theorem fz_ok {P : Program} {w : World} {H : Hp} {h : Heap} {a : Addr} {its : List Value} {xs : List V} (r : Vals xs its) (z : xs.length ≤ sizeLine) (e : h.get? a = some (tobj its)) : ObjOk P w H h a (fz its xs) :=
  ⟨e, z, its, r, ⟨_, e, rfl, _, rfl⟩⟩
section
variable {X : Cx} {es : List Expr} {t : TA} {pos : Pos}
def tTupF (t : TA) : TE := fun σ H Q => t σ H fun xs H1 => xs.length ≤ sizeLine ∧ ∀ p its, H1 p = none → Q (.ref p) (upd H1 p (fz its xs))
theorem pe_tupF {x1} (h : PA X es t) : PE X (.Tuple es x1 pos) (tTupF t) := by
  refine ⟨fun pins s σ H Q I hq => ?_⟩
  refine wpAny_Tuple_spliced (thn (h.run pos pins s σ H _ I hq) fun us s1 ⟨xs, H1, I1, r, z, q⟩ => ⟨by rw [← r.length]; exact z, ?_⟩)
  have hf : H1 s1.heap.objs.size = none := I1.hok.fresh (Nat.le_refl _)
  exact ⟨.ref s1.heap.objs.size, _, I1.laid (t' := s1.toks) (fun b u e => Heap.get?_push_of_some _ e) (Nat.le_refl _) (fz_ok r z (Heap.get?_push_size _ rfl)), rfl, q _ us hf⟩
def rCatF (K : PySem.W.Frag) : R2 := fun x y H Q => ∃ a b xs ys, x = .ref a ∧ y = .ref b ∧ SqT K H a xs ∧ SqT K H b ys ∧ xs.length + ys.length ≤ sizeLine ∧
  (xs = [] → Q (.ref b) H) ∧ (xs ≠ [] → ys = [] → Q (.ref a) H) ∧ (xs ≠ [] → ys ≠ [] → ∀ p its, H p = none → Q (.ref p) (upd H p (fz its (xs ++ ys))))
theorem op_catF : OpR X (binaryOp .Add) (rCatF X.K) := by
  intro pins s σ H x y v u Q I rx ry h
  obtain ⟨a, b, xs, ys, rfl, rfl, ha, hb, hz, q0, q1, q2⟩ := h
  by_cases hx : xs = []
  · exact op_catA pins s σ H _ _ v u Q I rx ry ⟨a, b, xs, ys, rfl, rfl, ha, hb, hz, q0, q1, fun z => absurd hx z⟩
  · cases rx
    cases ry
    obtain ⟨its, r1, p1, _⟩ := I.tuple ha
    obtain ⟨its2, r2, p2, _⟩ := I.tuple hb
    refine HT.cat_tup p1 p2 (fun z => hx (r1.nil_iff.mp z)) (fun z => ⟨.ref a, H, I, rfl, q1 hx (r2.nil_iff.mp z)⟩) (fun z => ?_) (by rw [← r1.length, ← r2.length]; exact hz)
    exact ⟨.ref s.heap.objs.size, _, I.laid (t' := s.toks) (fun b ob q => Heap.get?_push_of_some _ q) (Nat.le_refl _) (fz_ok (r1.append r2) (by rw [List.length_append]; exact hz) (Heap.get?_push_size _ rfl)), rfl, q2 hx (fun w => z (r2.nil_iff.mpr w)) _ _ (I.hok.fresh (Nat.le_refl _))⟩
def rSlF (K : PySem.W.Frag) : V → Option Int → Option Int → Hp → VK → Prop := fun x lo hi H Q => ∃ a xs, x = .ref a ∧ SqT K H a xs ∧
  (HT.sIx xs.length 0 lo = 0 ∧ HT.sIx xs.length xs.length hi = xs.length → Q (.ref a) H) ∧ (¬ (HT.sIx xs.length 0 lo = 0 ∧ HT.sIx xs.length xs.length hi = xs.length) → ∀ p its, H p = none → Q (.ref p) (upd H p (fz its (cutV xs lo hi))))
theorem sl_tupF : SlR X (rSlF X.K) := by
  intro pins s σ H x v vl vu lo hi sl Q I rx hs pl pu h
  obtain ⟨a, xs, rfl, hx, q1, q2⟩ := h
  by_cases hw : HT.sIx xs.length 0 lo = 0 ∧ HT.sIx xs.length xs.length hi = xs.length
  · exact sl_tupA pins s σ H _ v vl vu lo hi sl Q I rx hs pl pu ⟨a, xs, rfl, hx, q1, fun z => absurd hw z⟩
  · cases rx
    obtain ⟨its, r, ht, hz⟩ := I.tuple hx
    have hlen : its.toArray.size = xs.length := by rw [List.size_toArray]; exact r.length.symm
    refine ⟨"tuple", _, PyProof.Rows.slot_tuple_getitem.lookup, ht.typeIs, ?_⟩
    refine HT.getItem_tuple_cut ht hs pl pu (by rw [hlen]; exact hw) ?_ (by rw [hlen]; exact hz)
    rw [hlen]
    exact ⟨.ref s.heap.objs.size, _, I.laid (t' := s.toks) (fun b ob q => Heap.get?_push_of_some _ q) (Nat.le_refl _)
      (fz_ok ((r.drop (HT.sIx xs.length 0 lo)).take (HT.sIx xs.length xs.length hi - HT.sIx xs.length 0 lo)) (Nat.le_trans (cutV_length xs lo hi) hz) (Heap.get?_push_size _ rfl)), rfl, q2 hw _ _ (I.hok.fresh (Nat.le_refl _))⟩
theorem call_tupleF : CallR X (.type "tuple") (fun xs H Q => ∃ p ys, xs = [.ref p] ∧ ((SqL X.K H p ys ∧ ∀ l its, H l = none → Q (.ref l) (upd H l (fz its ys))) ∨ (SqT X.K H p ys ∧ Q (.ref p) H))) := by
  intro pins s σ H xs us Q I r h
  obtain ⟨p, ys, rfl, h⟩ := h
  obtain ⟨u, rfl, rx⟩ := vals1 r
  cases rx
  rcases h with ⟨hq, q⟩ | ⟨hq, q⟩
  · obtain ⟨its, r', pl, hz⟩ := I.list hq
    have hlen := r'.length
    have hn := line63
    refine call_tuple_list pl.isList (fun h' kp => ?_) (by simp only [List.size_toArray] <;> omega)
    have I1 : Inv X pins σ H { s with heap := h' } := I.kept (t' := s.toks) kp
    have I2 : Inv X pins σ (upd H h'.objs.size (fz its ys)) { s with heap := h'.push { cls := .type "tuple", data := .seq its.toArray } } :=
      I1.laid (t' := s.toks) (fun b o e => Heap.get?_push_of_some _ e) (Nat.le_refl _) (fz_ok r' hz (Heap.get?_push_size _ rfl))
    exact ⟨.ref h'.objs.size, _, I2, rfl, q _ _ (I1.hok.fresh (Nat.le_refl _))⟩
  · obtain ⟨its, r', pl, hz⟩ := I.tuple hq
    exact call_tuple_same pl ⟨.ref p, H, I, rfl, q⟩
/-- t.m(..) of a tuple known to the last field -/
def tBMT (K : PySem.W.Frag) (r : V → List V → Hp → VK → Prop) (to : TE) (t : TA) : TE := fun σ H Q => to σ H fun x H1 => (∃ a its xs, x = .ref a ∧ H1 a = some (fz its xs)) ∧ t σ H1 fun xs H2 => r x xs H2 Q
variable {o e : Expr} {to : TE} {name : Str} {apos cpos : Pos} {id : String} {r : V → List V → Hp → VK → Prop}
theorem pe_bmT (pa : PlainAttrs "tuple") (slot : Slot "tuple" name id) (hty : typeOf (.builtin id) = pure (.type "method_descriptor")) (hm : MtR X id r) (ho : PE X o to) (ha : PA X (e :: es) t)
    (hbase : attributeBase o name X.env (eval o X.env) = eval o X.env := by rfl)
    (hfew : ((backTo cpos (starEach (e :: es) X.env)).all (fun x => !x.1) && (backToKw cpos (keywordEach [] X.env)).all (fun x => x.1.isSome)
      && decide ((e :: es).length + ([] : List Keyword).length + (if ([] : List Keyword).isEmpty then 0 else 1) < 30)) = true := by rfl)
    (hline : (apos.endLine == cpos.line) = true := by rfl) (hs : starEach (e :: es) X.env = (false, eval e X.env) :: starEach es X.env := by rfl) (hplain : (backTo cpos (starEach es X.env)).any (·.1) = false := by rfl) :
    PE X (.Call (.Attribute o name apos) (e :: es) [] cpos) (tBMT X.K r to t) := by
  refine ⟨fun pins s σ H Q I h => ?_⟩
  refine wpAny_Call_method_late hbase hfew hline rfl (thn (ho.run pins s σ H _ I h) fun v s1 ⟨x, H1, I1, r1, ⟨a, its, xs, ex, hx⟩, q1⟩ => ?_)
  subst ex
  cases r1
  have ok : s1.heap.get? a = some (tobj its) := (I1.hok a _ hx).1
  refine ⟨"tuple", id, pa, slot, hty, ⟨_, ok, rfl⟩, (fun b e => by cases e; exact ⟨_, ok, rfl⟩), ?_⟩
  have hA := ha.run cpos pins s1 σ H1 _ I1 q1
  rw [hs] at hA ⊢
  refine Calls.callWith_builtin (by show (false || (backTo cpos (starEach es X.env)).any (·.1)) = false; rw [hplain] <;> rfl) (Calls.evalArgs_plain ?_)
  exact thn hA fun us s2 ⟨vs, H2, I2, r2, q2⟩ => hm pins s2 σ H2 (.ref a) vs (.ref a) us Q I2 rfl r2 q2
end
end TF

/-! TFa.lean -/
set_option Elab.async false
set_option linter.all false
set_option maxRecDepth 100000
/-! TF.a: data of the heap, told as PyData; what is private -/
namespace TF
open PySem PySem.Spec PyProof.Rows L2

abbrev D := PyData
abbrev St := L2.St
abbrev Rho := List (Option PyData)
abbrev HpN : Hp := fun _ => none
/-- the script, as data -/
def scr (ns : List Int) : PyData := .dict (ns.map fun n => (.int n, .none))

/-- data that tells nothing by itself: what stands in a slot of one's own that is no list -/
def spc (x : List (PyData × PyData)) : PyData := .dict ((.str "", .none) :: x)
/-- things of one's own that are no lists: at a, told by u, holding the values vs, the data ds, all told as x; rk: slots that are kept to the end -/
class OwnK where
  G : Addr → HO → List V → List PyData → List (PyData × PyData) → Prop
  rk : List Nat
  T : List (Addr × Str)
  nc : ∀ {a u vs ds x}, G a u vs ds x → T ≠ [] → (∀ c q, u ≠ LamX.CodeO c q) ∧ ∀ ps, u ≠ .tbl ps
instance (priority := low) OwnK.dflt : OwnK := ⟨fun _ _ _ _ _ => False, [], [], fun h => h.elim⟩

/-- it is no table -/
theorem nt_lst {xs : List V} : ∀ ps, HO.lst xs ≠ HO.tbl ps := fun ps z => by cases z
theorem nt_frz {o : Obj} {u : HO} : ∀ ps, HO.frz o u ≠ HO.tbl ps := fun ps z => by cases z
/-- later: what was there, no table, not private, is as it was, and not private -/
def Lt (H : Hp) (P : Addr → Prop) (H' : Hp) (P' : Addr → Prop) : Prop := ∀ a u, H a = some u → ¬ P a → (∀ ps, u ≠ HO.tbl ps) → H' a = some u ∧ ¬ P' a
mutual
inductive Dq (K : PySem.W.Frag) (H : Hp) (P : Addr → Prop) : V → PyData → Prop
  | non : Dq K H P .non .none
  | bl (b : Bool) : Dq K H P (.bl b) (.bool b)
  | int (i : Int) : Dq K H P (.int i) (.int i)
  | str (x : Str) : Dq K H P (.str x) (.str x)
  | lst {a : Addr} {xs : List V} {ds : List PyData} : H a = some (.lst xs) → ¬ P a → DqA K H P xs ds → Dq K H P (.ref a) (.list ds)
  | tup {a : Addr} {its : List Value} {xs : List V} {ds : List PyData} : H a = some (fz its xs) → ¬ P a → DqA K H P xs ds → Dq K H P (.ref a) (.tuple ds)
  | sck {a : Addr} {ns : List Int} : SqL K HpN a (ns.map V.int) → Dq K H P (.ref a) (scr ns)
  | scf {a : Addr} {ns : List Int} {o : Obj} : H a = some (.frz o (.lst (ns.map V.int))) → ¬ P a → Dq K H P (.ref a) (scr ns)
  | scl {a : Addr} {ns : List Int} : H a = some (.lst (ns.map V.int)) → ¬ P a → Dq K H P (.ref a) (scr ns)
  | jnk {v : V} (x : List (PyData × PyData)) : Dq K H P v (spc x)
inductive DqA (K : PySem.W.Frag) (H : Hp) (P : Addr → Prop) : List V → List PyData → Prop
  | nil : DqA K H P [] []
  | cons {v : V} {vs : List V} {d : PyData} {ds : List PyData} : Dq K H P v d → DqA K H P vs ds → DqA K H P (v :: vs) (d :: ds)
end

section
variable {K : PySem.W.Frag} {H H' : Hp} {P P' : Addr → Prop}
mutual
theorem Dq.mono (k : Lt H P H' P') : ∀ {v : V} {d : PyData}, Dq K H P v d → Dq K H' P' v d
  | _, _, .non => .non
  | _, _, .bl b => .bl b
  | _, _, .int i => .int i
  | _, _, .str x => .str x
  | _, _, .lst h n t => .lst (k _ _ h n (by first | exact nt_lst | exact nt_frz)).1 (k _ _ h n (by first | exact nt_lst | exact nt_frz)).2 (DqA.mono k t)
  | _, _, .tup h n t => .tup (k _ _ h n (by first | exact nt_lst | exact nt_frz)).1 (k _ _ h n (by first | exact nt_lst | exact nt_frz)).2 (DqA.mono k t)
  | _, _, .sck h => .sck h
  | _, _, .scf h n => .scf (k _ _ h n (by first | exact nt_lst | exact nt_frz)).1 (k _ _ h n (by first | exact nt_lst | exact nt_frz)).2
  | _, _, .scl h n => .scl (k _ _ h n (by first | exact nt_lst | exact nt_frz)).1 (k _ _ h n (by first | exact nt_lst | exact nt_frz)).2
  | _, _, .jnk x => .jnk x
theorem DqA.mono (k : Lt H P H' P') : ∀ {vs : List V} {ds : List PyData}, DqA K H P vs ds → DqA K H' P' vs ds
  | _, _, .nil => .nil
  | _, _, .cons h t => .cons (Dq.mono k h) (DqA.mono k t)
end
theorem HpN_lst {a : Addr} {xs : List V} (h : SqL K HpN a xs) : SqL K H a xs := by
  rcases h with (h | ⟨o, h⟩) | h
  · cases h
  · cases h
  · exact .inr h
theorem HpN_tup {a : Addr} {xs : List V} (h : SqT K HpN a xs) : SqT K H a xs := by
  rcases h with (h | ⟨o, h⟩) | h
  · cases h
  · cases h
  · exact .inr h
/-- read: the root may be private -/
def Dr (K : PySem.W.Frag) (H : Hp) (P : Addr → Prop) (v : V) (d : PyData) : Prop :=
  Dq K H P v d ∨ ∃ a xs ds, v = .ref a ∧ d = .list ds ∧ H a = some (.lst xs) ∧ DqA K H P xs ds
theorem Dq.r {v : V} {d : PyData} (h : Dq K H P v d) : Dr K H P v d := .inl h
theorem Dr.mono (k : Lt H P H' P') (kl : ∀ a u, H a = some u → H' a = some u) {v : V} {d : PyData} (h : Dr K H P v d) : Dr K H' P' v d := by
  rcases h with h | ⟨a, xs, ds, e1, e2, h, t⟩
  · exact .inl (h.mono k)
  · exact .inr ⟨a, xs, ds, e1, e2, kl _ _ h, t.mono k⟩
theorem same_k (e : Same H H') : Lt H P H' P := fun a u h n _ => ⟨e a u h, n⟩
theorem Dq.same (e : Same H H') {v : V} {d : PyData} (h : Dq K H P v d) : Dq K H' P v d := h.mono (same_k e)
theorem DqA.same (e : Same H H') {v : List V} {d : List PyData} (h : DqA K H P v d) : DqA K H' P v d := h.mono (same_k e)
theorem Dr.same (e : Same H H') {v : V} {d : PyData} (h : Dr K H P v d) : Dr K H' P v d := h.mono (same_k e) e
/-- fewer private ones -/
theorem Dq.anti (s : ∀ a, P' a → P a) {v : V} {d : PyData} (h : Dq K H P v d) : Dq K H P' v d := h.mono fun a u q n _ => ⟨q, fun z => n (s a z)⟩
theorem DqA.anti (s : ∀ a, P' a → P a) {v : List V} {d : List PyData} (h : DqA K H P v d) : DqA K H P' v d := h.mono fun a u q n _ => ⟨q, fun z => n (s a z)⟩

theorem DqA.length : ∀ {vs : List V} {ds : List PyData}, DqA K H P vs ds → vs.length = ds.length
  | _, _, .nil => rfl
  | _, _, .cons _ t => congrArg (· + 1) (DqA.length t)
theorem DqA.append : ∀ {vs ws : List V} {ds es : List PyData}, DqA K H P vs ds → DqA K H P ws es → DqA K H P (vs ++ ws) (ds ++ es)
  | _, _, _, _, .nil, u => u
  | _, _, _, _, .cons h t, u => .cons h (DqA.append t u)
theorem DqA.get : ∀ {vs : List V} {ds : List PyData} {i : Nat} {d : PyData}, DqA K H P vs ds → ds[i]? = some d → ∃ v, vs[i]? = some v ∧ Dq K H P v d
  | _, _, _, _, .nil, e => by simp at e
  | _, _, 0, _, .cons h _, e => by simp at e; subst e; exact ⟨_, rfl, h⟩
  | _, _, i + 1, d, .cons _ t, e => by
    obtain ⟨v, h1, h2⟩ := DqA.get (i := i) (d := d) t (by simpa using e)
    exact ⟨v, by simpa using h1, h2⟩
theorem DqA.getV : ∀ {vs : List V} {ds : List PyData} {i : Nat} {v : V}, DqA K H P vs ds → vs[i]? = some v → ∃ d, ds[i]? = some d ∧ Dq K H P v d
  | _, _, _, _, .nil, e => by simp at e
  | _, _, 0, _, .cons h _, e => by simp at e; subst e; exact ⟨_, rfl, h⟩
  | _, _, i + 1, d, .cons _ t, e => by
    obtain ⟨v, h1, h2⟩ := DqA.getV (i := i) (v := d) t (by simpa using e)
    exact ⟨v, by simpa using h1, h2⟩
theorem DqA.take : ∀ {vs : List V} {ds : List PyData} (n : Nat), DqA K H P vs ds → DqA K H P (vs.take n) (ds.take n)
  | _, _, 0, _ => .nil
  | _, _, _ + 1, .nil => .nil
  | _, _, n + 1, .cons h t => .cons h (DqA.take n t)
theorem DqA.drop : ∀ {vs : List V} {ds : List PyData} (n : Nat), DqA K H P vs ds → DqA K H P (vs.drop n) (ds.drop n)
  | _, _, 0, t => t
  | _, _, _ + 1, .nil => .nil
  | _, _, n + 1, .cons _ t => DqA.drop n t
theorem DqA.reverse : ∀ {vs : List V} {ds : List PyData}, DqA K H P vs ds → DqA K H P vs.reverse ds.reverse
  | _, _, .nil => .nil
  | _, _, .cons h t => by rw [List.reverse_cons, List.reverse_cons]; exact DqA.append (DqA.reverse t) (.cons h .nil)
theorem DqA.rep {vs : List V} {ds : List PyData} (h : DqA K H P vs ds) : ∀ k : Nat, DqA K H P (List.replicate k vs).flatten (List.replicate k ds).flatten
  | 0 => .nil
  | k + 1 => by
    rw [List.replicate_succ, List.replicate_succ, List.flatten_cons, List.flatten_cons]
    exact DqA.append h (DqA.rep h k)
theorem DqA.dropLast {vs : List V} {ds : List PyData} (h : DqA K H P vs ds) : DqA K H P vs.dropLast ds.dropLast := by
  rw [List.dropLast_eq_take, List.dropLast_eq_take, h.length]
  exact h.take _
theorem DqA.nil_iff {vs : List V} {ds : List PyData} (h : DqA K H P vs ds) : vs = [] ↔ ds = [] := by
  cases h <;> simp

theorem Dr.non {v : V} (h : Dr K H P v .none) : v = .non := by
  rcases h with h | ⟨_, _, _, _, e, _⟩
  · cases h; rfl
  · cases e
theorem Dr.bl {v : V} {b : Bool} (h : Dr K H P v (.bool b)) : v = .bl b := by
  rcases h with h | ⟨_, _, _, _, e, _⟩
  · cases h; rfl
  · cases e
theorem Dr.int {v : V} {i : Int} (h : Dr K H P v (.int i)) : v = .int i := by
  rcases h with h | ⟨_, _, _, _, e, _⟩
  · cases h; rfl
  · cases e
theorem Dr.str {v : V} {x : Str} (h : Dr K H P v (.str x)) : v = .str x := by
  rcases h with h | ⟨_, _, _, _, e, _⟩
  · cases h; rfl
  · cases e
theorem Dr.lst {v : V} {ds : List PyData} (h : Dr K H P v (.list ds)) : ∃ a xs, v = .ref a ∧ H a = some (.lst xs) ∧ DqA K H P xs ds := by
  rcases h with h | ⟨a, xs, es, e1, e2, h, t⟩
  · cases h with
    | lst h n t => exact ⟨_, _, rfl, h, t⟩
  · cases e2
    exact ⟨a, xs, e1, h, t⟩
theorem Dq.tupI {v : V} {ds : List PyData} (h : Dq K H P v (.tuple ds)) : ∃ a xs, v = .ref a ∧ SqT K H a xs ∧ DqA K H P xs ds := by
  cases h with
  | tup h n t => exact ⟨_, _, rfl, sqT_fz h, t⟩
theorem Dr.tup {v : V} {ds : List PyData} (h : Dr K H P v (.tuple ds)) : ∃ a xs, v = .ref a ∧ SqT K H a xs ∧ DqA K H P xs ds := by
  rcases h with h | ⟨a, xs, es, e1, e2, h, t⟩
  · exact h.tupI
  · cases e2
theorem Dr.tupQ {v : V} {ds : List PyData} (h : Dr K H P v (.tuple ds)) : Dq K H P v (.tuple ds) := by
  rcases h with h | ⟨a, xs, es, e1, e2, h, t⟩
  · exact h
  · cases e2
theorem scr_inj : ∀ {ns ms : List Int}, scr ns = scr ms → ns = ms := by
  intro ns
  induction ns with
  | nil => intro ms h; cases ms with
    | nil => rfl
    | cons m ms => simp [scr] at h
  | cons n ns ih => intro ms h; cases ms with
    | nil => simp [scr] at h
    | cons m ms =>
      simp only [scr, List.map_cons, PyData.dict.injEq, List.cons.injEq, Prod.mk.injEq, PyData.int.injEq, and_true] at h
      have e : ns = ms := ih (by unfold scr; rw [h.2])
      rw [h.1, e]
theorem scr_spc {ns : List Int} {x : List (PyData × PyData)} : scr ns ≠ spc x := fun h => by
  cases ns with
  | nil => simp [scr, spc] at h
  | cons n ns => simp [scr, spc] at h
theorem Dr.scr {v : V} {ns : List Int} (h : Dr K H P v (scr ns)) : ∃ a, v = .ref a ∧ SqL K H a (ns.map V.int) := by
  generalize e : TF.scr ns = d at h
  rcases h with h | ⟨a, xs, es, e1, e2, h, t⟩
  · cases h with
    | sck h => cases scr_inj e; exact ⟨_, rfl, HpN_lst h⟩
    | scf h n => cases scr_inj e; exact ⟨_, rfl, .inl (.inr ⟨_, h⟩)⟩
    | scl h n => cases scr_inj e; exact ⟨_, rfl, .inl (.inl h)⟩
    | jnk x => exact absurd e scr_spc
    | _ => cases e
  · subst e2; cases e

mutual
theorem Dq.dp : ∀ {v : V} {d : PyData}, Dq K H P v d → d.plain = true → Dp K H v d
  | _, _, .non, _ => .non
  | _, _, .bl b, _ => .bl b
  | _, _, .int i, _ => .int i
  | _, _, .str x, _ => .str x
  | _, _, .lst h n t, c => .lst (SqL.of h) (DqA.dp t (by simpa only [PyData.plain] using c))
  | _, _, .tup h n t, c => .tup (sqT_fz h) (DqA.dp t (by simpa only [PyData.plain] using c))
  | _, _, .sck h, c => by simp [TF.scr, PyData.plain] at c
  | _, _, .scf h n, c => by simp [TF.scr, PyData.plain] at c
  | _, _, .scl h n, c => by simp [TF.scr, PyData.plain] at c
  | _, _, .jnk x, c => by simp [spc, PyData.plain] at c
theorem DqA.dp : ∀ {v : List V} {d : List PyData}, DqA K H P v d → PyData.plainAll d = true → DpAll K H v d
  | _, _, .nil, _ => .nil
  | _, _, .cons h t, c => by
    simp only [PyData.plainAll, Bool.and_eq_true] at c
    exact .cons (Dq.dp h c.1) (DqA.dp t c.2)
end
theorem Dr.dp {v : V} {d : PyData} (h : Dr K H P v d) (c : d.plain = true) : Dp K H v d := by
  rcases h with h | ⟨a, xs, ds, e1, e2, h, t⟩
  · exact h.dp c
  · subst e1 e2
    exact .lst (SqL.of h) (t.dp (by simpa only [PyData.plain] using c))
end
/-! ### what is one's own -/
section
variable [OK : OwnK] {K : PySem.W.Frag} {H H' : Hp} {P P' : Addr → Prop} {a : Addr} {u : HO} {d : PyData}
inductive Gk [OK : OwnK] (a : Addr) : HO → List V → List PyData → PyData → Prop
  | lst {vs ds} : Gk a (.lst vs) vs ds (.list ds)
  | ext {u vs ds x} : OK.G a u vs ds x → Gk a u vs ds (spc x)
/-- what stands at a, told by u, is the data d -/
def Ow [OK : OwnK] (K : PySem.W.Frag) (H : Hp) (P : Addr → Prop) (a : Addr) (u : HO) (d : PyData) : Prop := ∃ vs ds, Gk a u vs ds d ∧ DqA K H P vs ds
theorem Ow.mono (k : Lt H P H' P') (h : Ow K H P a u d) : Ow K H' P' a u d := let ⟨vs, ds, g, t⟩ := h; ⟨vs, ds, g, t.mono k⟩
theorem Ow.same (e : Same H H') (h : Ow K H P a u d) : Ow K H' P a u d := let ⟨vs, ds, g, t⟩ := h; ⟨vs, ds, g, t.same e⟩
theorem Ow.anti (s : ∀ a, P' a → P a) (h : Ow K H P a u d) : Ow K H P' a u d := let ⟨vs, ds, g, t⟩ := h; ⟨vs, ds, g, t.anti s⟩
theorem Ow.ofLst {xs : List V} {ds : List PyData} (t : DqA K H P xs ds) : Ow K H P a (.lst xs) (.list ds) := ⟨xs, ds, .lst, t⟩
theorem Ow.lst {ds : List PyData} (h : Ow K H P a u (.list ds)) : ∃ xs, u = .lst xs ∧ DqA K H P xs ds := by
  obtain ⟨vs, es, g, t⟩ := h
  generalize e : PyData.list ds = d' at g
  cases g with
  | lst => cases e; exact ⟨vs, rfl, t⟩
  | ext _ => cases e
theorem Ow.ext {x : List (PyData × PyData)} (h : Ow K H P a u (spc x)) : ∃ vs ds, OK.G a u vs ds x ∧ DqA K H P vs ds := by
  obtain ⟨vs, es, g, t⟩ := h
  generalize e : spc x = d' at g
  cases g with
  | lst => cases e
  | @ext _ _ _ y g =>
    have e' : x = y := by simpa [spc] using e
    subst e'
    exact ⟨_, _, g, t⟩
theorem Ow.nc (h : Ow K H P a u d) (n : OK.T ≠ []) : (∀ c q, u ≠ LamX.CodeO c q) ∧ ∀ ps, u ≠ .tbl ps := by
  obtain ⟨vs, ds, g, t⟩ := h
  cases g with
  | lst => exact ⟨fun c q z => (by unfold LamX.CodeO at z; cases z), fun ps z => (by cases z)⟩
  | ext g => exact OK.nc g n
/-- tables stay as they are where one's own is written -/
theorem tabs_put (T : LamX.Tabs OK.T H) (ha : H a = some u) (h : Ow K H P a u d) (hx : ∀ b w, b ≠ a → H b = some w → H' b = some w) : LamX.Tabs OK.T H' := fun p hp => by
  obtain ⟨n1, n2⟩ := h.nc (fun z => by rw [z] at hp; simp at hp)
  obtain ⟨ps, h1, h2, h3⟩ := T p hp
  refine ⟨ps, hx _ _ (fun z => ?_) h1, h2, fun pos cv hc => ?_⟩
  · rw [z, ha] at h1; cases h1; exact n2 ps rfl
  · obtain ⟨c, e1, e2⟩ := h3 pos cv hc
    exact ⟨c, e1, hx _ _ (fun z => by rw [z, ha] at e2; cases e2; exact n1 _ _ rfl) e2⟩
theorem tabs0 (h : OK.T = []) : LamX.Tabs OK.T H := by
  rw [h]
  exact fun p hp => absurd hp (by simp)
/-- read -/
theorem Ow.dr (h : Ow K H P a u d) (ha : H a = some u) : Dr K H P (.ref a) d := by
  obtain ⟨vs, ds, g, t⟩ := h
  cases g with
  | lst => exact .inr ⟨a, vs, ds, rfl, rfl, ha, t⟩
  | ext g => exact .inl (.jnk _)
/-- given away -/
theorem Ow.dq (h : Ow K H P a u d) (ha : H a = some u) (n : ¬ P a) : Dq K H P (.ref a) d := by
  obtain ⟨vs, ds, g, t⟩ := h
  cases g with
  | lst => exact .lst ha n t
  | ext g => exact .jnk _
end
end TF

/-! TFb.lean -/
set_option Elab.async false
set_option linter.all false
set_option maxRecDepth 100000
/-! TF.b: the state told by an environment; expressions as functions of it -/
namespace TF
open PySem PySem.Spec PyProof.Rows L2

/-- the slots σ at the heap H are told by ρ; H0 the heap at the entry, P0 what was private there, P what is private now, o the slots that hold a list of one's own -/
structure Rel [OK : OwnK] (K : PySem.W.Frag) (H0 : Hp) (P0 : Addr → Prop) (H : Hp) (P : Addr → Prop) (o : List Nat) (σ : St) (ρ : Rho) : Prop where
  sub : ∀ a, P0 a → P a
  tr0 : ∀ a, P0 a → ∃ u, H0 a = some u
  tr : ∀ a, P a → ∃ u, H a = some u
  same : Same H0 H
  own : ∀ i, i ∈ o → ∃ a u d, σ[i]? = some (some (.ref a)) ∧ ρ[i]? = some (some d) ∧ P a ∧ H0 a = none ∧ H a = some u ∧ Ow K H P a u d
  dis : ∀ i j a b, i ∈ o → j ∈ o → i ≠ j → σ[i]? = some (some (.ref a)) → σ[j]? = some (some (.ref b)) → a ≠ b
  dat : ∀ i d, i ∉ o → ρ[i]? = some (some d) → ∃ v, σ[i]? = some (some v) ∧ Dq K H P v d
  len : ρ.length = σ.length
  tab : LamX.Tabs OK.T H
  tp : OK.T ≠ [] → (∀ a ps, H0 a ≠ some (.tbl ps)) ∧ ∀ a, P a → ∀ ps, H a ≠ some (.tbl ps)

variable [OK : OwnK]
section
variable {K : PySem.W.Frag} {H0 H H' : Hp} {P0 P : Addr → Prop} {o : List Nat} {σ : St} {ρ : Rho}
theorem Rel.go (R : Rel K H0 P0 H P o σ ρ) (e : Same H H') : Rel K H0 P0 H' P o σ ρ where
  sub := R.sub
  tr0 := R.tr0
  tr := fun a h => let ⟨u, q⟩ := R.tr a h; ⟨u, e a u q⟩
  same := R.same.trans e
  own := fun i hi => by
    obtain ⟨a, xs, ds, h1, h2, h3, h4, h5, h6⟩ := R.own i hi
    exact ⟨a, xs, ds, h1, h2, h3, h4, e _ _ h5, h6.same e⟩
  dis := R.dis
  dat := fun i d hi h => let ⟨v, h1, h2⟩ := R.dat i d hi h; ⟨v, h1, h2.same e⟩
  len := R.len
  tab := R.tab.ext e
  tp := fun n => ⟨(R.tp n).1, fun a z ps q => by
    obtain ⟨u, hu⟩ := R.tr a z
    have := e a u hu
    rw [q] at this; cases this
    exact (R.tp n).2 a z ps hu⟩
theorem Rel.read (R : Rel K H0 P0 H P o σ ρ) {i : Nat} {d : PyData} (h : ρ[i]? = some (some d)) : ∃ v, σ[i]? = some (some v) ∧ Dr K H P v d := by
  by_cases hi : i ∈ o
  · obtain ⟨a, xs, ds, h1, h2, h3, h4, h5, h6⟩ := R.own i hi
    rw [h] at h2; cases h2
    exact ⟨_, h1, h6.dr h5⟩
  · obtain ⟨v, h1, h2⟩ := R.dat i d hi h
    exact ⟨v, h1, .inl h2⟩
/-- a new object is not private -/
theorem Rel.newP (R : Rel K H0 P0 H P o σ ρ) {p : Addr} (h : H p = none) : ¬ P p := fun z => by
  obtain ⟨u, q⟩ := R.tr p z
  rw [h] at q; cases q
end
theorem same_upd {H : Hp} {p : Addr} (h : H p = none) (u : HO) : Same H (upd H p u) := fun b w q => by rw [upd_ne (ne_of_none q h)]; exact q

/-! ### judgements -/
/-- a value that nothing private is in -/
def tV (K : PySem.W.Frag) (o : List Nat) (f : Rho → Option PyData) : TE := fun σ H Q => ∃ H0 P0 P ρ d, Rel K H0 P0 H P o σ ρ ∧ f ρ = some d ∧ ∀ v H', Same H H' → Dq K H' P v d → Q v H'
/-- a value that is read at once -/
def tR (K : PySem.W.Frag) (o : List Nat) (f : Rho → Option PyData) : TE := fun σ H Q => ∃ H0 P0 P ρ d, Rel K H0 P0 H P o σ ρ ∧ f ρ = some d ∧ ∀ v H', Same H H' → Dr K H' P v d → Q v H'
/-- a list that stands at a new place -/
def tN (K : PySem.W.Frag) (o : List Nat) (f : Rho → Option (List PyData)) : TE := fun σ H Q => ∃ H0 P0 P ρ ds, Rel K H0 P0 H P o σ ρ ∧ f ρ = some ds ∧
  ∀ p xs H', Same H H' → H p = none → H' p = some (.lst xs) → DqA K H' (fun a => a = p ∨ P a) xs ds → Q (.ref p) H'
def tT (K : PySem.W.Frag) (o : List Nat) (f : Rho → Option Bool) : TT := fun σ H Q => ∃ H0 P0 P ρ b, Rel K H0 P0 H P o σ ρ ∧ f ρ = some b ∧ ∀ H', Same H H' → Q b H'
def tAs (K : PySem.W.Frag) (o : List Nat) (f : Rho → Option (List PyData)) : TA := fun σ H Q => ∃ H0 P0 P ρ ds, Rel K H0 P0 H P o σ ρ ∧ f ρ = some ds ∧ ∀ vs H', Same H H' → DqA K H' P vs ds → Q vs H'
abbrev EV (X : Cx) (o : List Nat) (e : Expr) (f : Rho → Option PyData) : Prop := PE X e (tV X.K o f)
abbrev ER (X : Cx) (o : List Nat) (e : Expr) (f : Rho → Option PyData) : Prop := PE X e (tR X.K o f)
abbrev EN (X : Cx) (o : List Nat) (e : Expr) (f : Rho → Option (List PyData)) : Prop := PE X e (tN X.K o f)
abbrev ET (X : Cx) (o : List Nat) (e : Expr) (f : Rho → Option Bool) : Prop := PT X e (tT X.K o f)
abbrev EW (X : Cx) (o : List Nat) (e : Expr) (f : Rho → Option Bool) : Prop := PW X e (tT X.K o f)
abbrev EA (X : Cx) (o : List Nat) (es : List Expr) (f : Rho → Option (List PyData)) : Prop := PA X es (tAs X.K o f)

section
variable {X : Cx} {e : Expr} {es : List Expr} {st : Stmt} {sts : List Stmt}
theorem PE.imp {t t' : TE} (h : PE X e t) (i : ∀ σ H Q, t' σ H Q → t σ H Q) : PE X e t' := ⟨fun pins s σ H Q I q => h.run pins s σ H Q I (i σ H Q q)⟩
theorem PT.imp {t t' : TT} (h : PT X e t) (i : ∀ σ H Q, t' σ H Q → t σ H Q) : PT X e t' := ⟨fun pins s σ H Q I q => h.run pins s σ H Q I (i σ H Q q)⟩
theorem PW.imp {t t' : TT} (h : PW X e t) (i : ∀ σ H Q, t' σ H Q → t σ H Q) : PW X e t' := ⟨fun wh pins s σ H Q I q => h.run wh pins s σ H Q I (i σ H Q q)⟩
theorem PA.imp {t t' : TA} (h : PA X es t) (i : ∀ σ H Q, t' σ H Q → t σ H Q) : PA X es t' := ⟨fun pos pins s σ H Q I q => h.run pos pins s σ H Q I (i σ H Q q)⟩
theorem PS.imp {t t' : TS} (h : PS X st t) (i : ∀ D σ H, t' D σ H → t D σ H) : PS X st t' := ⟨fun pins s σ H D I q => h.run pins s σ H D I (i D σ H q)⟩
theorem PSs.imp {t t' : TS} (h : PSs X sts t) (i : ∀ D σ H, t' D σ H → t D σ H) : PSs X sts t' := ⟨fun pins s σ H D I q => h.run pins s σ H D I (i D σ H q)⟩
variable {o : List Nat} {f : Rho → Option PyData}
theorem EV.r (h : EV X o e f) : ER X o e f := PE.imp h fun σ H Q ⟨H0, P0, P, ρ, d, R, e, q⟩ => ⟨H0, P0, P, ρ, d, R, e, fun v H' s z => q v H' s (.inl z)⟩
def eL (g : Rho → Option (List PyData)) : Rho → Option PyData := fun ρ => (g ρ).map PyData.list
theorem EN.v {g : Rho → Option (List PyData)} (h : EN X o e g) : EV X o e (eL g) := PE.imp h fun σ H Q ⟨H0, P0, P, ρ, d, R, e, q⟩ => by
  unfold eL at e
  cases eg : g ρ with
  | none => rw [eg] at e; cases e
  | some ds =>
    rw [eg] at e; cases e
    refine ⟨H0, P0, P, ρ, ds, R, eg, fun p xs H' s n hp t => q _ H' s ?_⟩
    exact .lst hp (R.newP n) (t.anti fun a z => .inr z)

/-! ### names, constants -/
def eVar (i : Nat) : Rho → Option PyData := fun ρ => ρ.getD i none
theorem eVar_some {i : Nat} {ρ : Rho} {d : PyData} (e : eVar i ρ = some d) : ρ[i]? = some (some d) := by
  unfold eVar at e
  rw [List.getD_eq_getElem?_getD] at e
  cases z : ρ[i]? with
  | none => rw [z] at e; cases e
  | some u => rw [z] at e; simpa using e
def eC (d : PyData) : Rho → Option PyData := fun _ => some d
/-- x, read -/
theorem er_var (i : Nat) {x : Str} {pos : Pos} (h : PE X (.Name x pos) (tVar i)) : ER X o (.Name x pos) (eVar i) := PE.imp h fun σ H Q ⟨H0, P0, P, ρ, d, R, e, q⟩ => by
  have e' := eVar_some e
  obtain ⟨v, h1, h2⟩ := R.read e'
  exact ⟨v, h1, q v H (Same.refl H) h2⟩
/-- x, no list of one's own -/
theorem ev_var (i : Nat) {x : Str} {pos : Pos} (h : PE X (.Name x pos) (tVar i)) (hi : i ∉ o := by decide) : EV X o (.Name x pos) (eVar i) := PE.imp h fun σ H Q ⟨H0, P0, P, ρ, d, R, e, q⟩ => by
  have e' := eVar_some e
  obtain ⟨v, h1, h2⟩ := R.dat i d hi e'
  exact ⟨v, h1, q v H (Same.refl H) h2⟩
theorem ev_int {i : Int} {j pos} : EV X o (.Constant (.int i) j pos) (eC (.int i)) := PE.imp pe_int fun σ H Q ⟨H0, P0, P, ρ, d, R, e, q⟩ => by cases e; exact q _ H (Same.refl H) (.int i)
theorem ev_bl {i : Bool} {j pos} : EV X o (.Constant (.bool i) j pos) (eC (.bool i)) := PE.imp pe_bl fun σ H Q ⟨H0, P0, P, ρ, d, R, e, q⟩ => by cases e; exact q _ H (Same.refl H) (.bl i)
theorem ev_str {i : Str} {j pos} : EV X o (.Constant (.str i) j pos) (eC (.str i)) := PE.imp pe_str fun σ H Q ⟨H0, P0, P, ρ, d, R, e, q⟩ => by cases e; exact q _ H (Same.refl H) (.str i)
theorem ev_non {j pos} : EV X o (.Constant .none j pos) (eC .none) := PE.imp pe_non fun σ H Q ⟨H0, P0, P, ρ, d, R, e, q⟩ => by cases e; exact q _ H (Same.refl H) .non
/-- a module's constant: an int, a text -/
theorem ev_globI {x : Str} {i : Int} {t : Tok} {pos : Pos} (hg : Gl X x) (hm : X.mg x = some (.int i t)) (hd : (x == ("__debug__" : Str)) = false := by decide) : EV X o (.Name x pos) (eC (.int i)) :=
  PE.imp (pe_glob hg hm (v := .int i) ⟨t, rfl⟩ hd) fun σ H Q ⟨H0, P0, P, ρ, d, R, e, q⟩ => by cases e; exact q _ H (Same.refl H) (.int i)
theorem ev_globS {x : Str} {i : Str} {t : Tok} {pos : Pos} (hg : Gl X x) (hm : X.mg x = some (.str i t)) (hd : (x == ("__debug__" : Str)) = false := by decide) : EV X o (.Name x pos) (eC (.str i)) :=
  PE.imp (pe_glob hg hm (v := .str i) ⟨t, rfl⟩ hd) fun σ H Q ⟨H0, P0, P, ρ, d, R, e, q⟩ => by cases e; exact q _ H (Same.refl H) (.str i)

/-! ### two expressions, a rule by values -/
/-- by values: g of the data -/
def rF (K : PySem.W.Frag) (g : PyData → PyData → Option PyData) : R2 := fun x y H Q => ∃ P dx dy d, (∀ a, P a → ∃ u, H a = some u) ∧ Dr K H P x dx ∧ Dr K H P y dy ∧ g dx dy = some d ∧ ∀ v H', Same H H' → Dq K H' P v d → Q v H'
/-- .. a new list -/
def rFN (K : PySem.W.Frag) (g : PyData → PyData → Option (List PyData)) : R2 := fun x y H Q => ∃ P dx dy ds, (∀ a, P a → ∃ u, H a = some u) ∧ Dr K H P x dx ∧ Dr K H P y dy ∧ g dx dy = some ds ∧
  ∀ p xs H', Same H H' → H p = none → H' p = some (.lst xs) → DqA K H' (fun a => a = p ∨ P a) xs ds → Q (.ref p) H'
theorem OpR.imp {f : Value → Value → Sem Value} {r r' : R2} (h : OpR X f r) (i : ∀ x y H Q, r' x y H Q → r x y H Q) : OpR X f r' := fun pins s σ H x y v u Q I rx ry q => h pins s σ H x y v u Q I rx ry (i x y H Q q)
theorem IxR.imp {r r' : R2} (h : IxR X r) (i : ∀ x y H Q, r' x y H Q → r x y H Q) : IxR X r' := fun va sl pins s σ H x y v u Q I rx ry q hs => h va sl pins s σ H x y v u Q I rx ry (i x y H Q q) hs
theorem CallR.imp {f : Value} {r r' : List V → Hp → VK → Prop} (h : CallR X f r) (i : ∀ x H Q, r' x H Q → r x H Q) : CallR X f r' := fun pins s σ H vs us Q I r q => h pins s σ H vs us Q I r (i vs H Q q)

variable {a b : Expr} {fa fb : Rho → Option PyData} {pos : Pos}
def e2 {α : Type} (fa fb : Rho → Option PyData) (g : PyData → PyData → Option α) : Rho → Option α := fun ρ => (fa ρ).bind fun x => (fb ρ).bind fun y => g x y
theorem e2_some {α : Type} {g : PyData → PyData → Option α} {ρ : Rho} {d : α} (h : e2 fa fb g ρ = some d) : ∃ x y, fa ρ = some x ∧ fb ρ = some y ∧ g x y = some d := by
  unfold e2 at h
  cases ea : fa ρ with
  | none => rw [ea] at h; cases h
  | some x =>
    cases eb : fb ρ with
    | none => rw [ea, eb] at h; cases h
    | some y => rw [ea, eb] at h; exact ⟨x, y, rfl, rfl, h⟩
theorem t2_of {K : PySem.W.Frag} {g : PyData → PyData → Option PyData} {σ : St} {H : Hp} {Q : VK} (h : tV K o (e2 fa fb g) σ H Q) : tOp (rF K g) (tR K o fa) (tR K o fb) σ H Q := by
  obtain ⟨H0, P0, P, ρ, d, R, e, q⟩ := h
  obtain ⟨x, y, ha, hb, hg⟩ := e2_some e
  refine ⟨H0, P0, P, ρ, x, R, ha, fun v H1 s1 r1 => ?_⟩
  refine ⟨H0, P0, P, ρ, y, R.go s1, hb, fun u H2 s2 r2 => ?_⟩
  exact ⟨P, x, y, d, (R.go (s1.trans s2)).tr, r1.same s2, r2, hg, fun z H' s3 r3 => q z H' (s1.trans (s2.trans s3)) r3⟩
theorem t2N_of {K : PySem.W.Frag} {g : PyData → PyData → Option (List PyData)} {σ : St} {H : Hp} {Q : VK} (h : tN K o (e2 fa fb g) σ H Q) : tOp (rFN K g) (tR K o fa) (tR K o fb) σ H Q := by
  obtain ⟨H0, P0, P, ρ, d, R, e, q⟩ := h
  obtain ⟨x, y, ha, hb, hg⟩ := e2_some e
  refine ⟨H0, P0, P, ρ, x, R, ha, fun v H1 s1 r1 => ?_⟩
  refine ⟨H0, P0, P, ρ, y, R.go s1, hb, fun u H2 s2 r2 => ?_⟩
  exact ⟨P, x, y, d, (R.go (s1.trans s2)).tr, r1.same s2, r2, hg, fun p xs H' s3 n hp t => q p xs H' (s1.trans (s2.trans s3)) ((s1.trans s2).free n) hp t⟩
theorem ev_bin {op : Operator} {g : PyData → PyData → Option PyData} (ho : OpR X (binaryOp op) (rF X.K g)) (ha : ER X o a fa) (hb : ER X o b fb) : EV X o (.BinOp a op b pos) (e2 fa fb g) :=
  PE.imp (pe_op ho ha hb) fun σ H Q h => t2_of h
theorem en_bin {op : Operator} {g : PyData → PyData → Option (List PyData)} (ho : OpR X (binaryOp op) (rFN X.K g)) (ha : ER X o a fa) (hb : ER X o b fb) : EN X o (.BinOp a op b pos) (e2 fa fb g) :=
  PE.imp (pe_op ho ha hb) fun σ H Q h => t2N_of h
/-- a comparison gives a truth -/
def rFB (K : PySem.W.Frag) (g : PyData → PyData → Option Bool) : R2 := fun x y H Q => ∃ P dx dy d, (∀ a, P a → ∃ u, H a = some u) ∧ Dr K H P x dx ∧ Dr K H P y dy ∧ g dx dy = some d ∧ Q (.bl d) H
def eB (f : Rho → Option Bool) : Rho → Option PyData := fun ρ => (f ρ).map PyData.bool
theorem eB_some {f : Rho → Option Bool} {ρ : Rho} {d : PyData} (h : eB f ρ = some d) : ∃ b, f ρ = some b ∧ d = .bool b := by
  unfold eB at h
  cases e : f ρ with
  | none => rw [e] at h; cases h
  | some b => rw [e] at h; cases h; exact ⟨b, rfl, rfl⟩
theorem cmpB_of {K : PySem.W.Frag} {g : PyData → PyData → Option Bool} {σ : St} {H : Hp} {Q : VK} (h : tV K o (eB (e2 fa fb g)) σ H Q) : tOp (rFB K g) (tR K o fa) (tR K o fb) σ H Q := by
  obtain ⟨H0, P0, P, ρ, d, R, e, q⟩ := h
  obtain ⟨c, e', rfl⟩ := eB_some e
  clear e
  have e := e'
  clear e'
  obtain ⟨x, y, ha, hb, hg⟩ := e2_some e
  refine ⟨H0, P0, P, ρ, x, R, ha, fun v H1 s1 r1 => ?_⟩
  refine ⟨H0, P0, P, ρ, y, R.go s1, hb, fun u H2 s2 r2 => ?_⟩
  exact ⟨P, x, y, c, (R.go (s1.trans s2)).tr, r1.same s2, r2, hg, q _ _ (s1.trans s2) (.bl c)⟩
theorem cmpT_of {K : PySem.W.Frag} {g : PyData → PyData → Option Bool} {σ : St} {H : Hp} {Q : Bool → Hp → Prop} (h : tT K o (e2 fa fb g) σ H Q) : tTest (tOp (rFB K g) (tR K o fa) (tR K o fb)) σ H Q := by
  obtain ⟨H0, P0, P, ρ, c, R, e, q⟩ := h
  obtain ⟨x, y, ha, hb, hg⟩ := e2_some e
  refine ⟨H0, P0, P, ρ, x, R, ha, fun v H1 s1 r1 => ?_⟩
  refine ⟨H0, P0, P, ρ, y, R.go s1, hb, fun u H2 s2 r2 => ?_⟩
  exact ⟨P, x, y, c, (R.go (s1.trans s2)).tr, r1.same s2, r2, hg, c, rfl, q _ (s1.trans s2)⟩
theorem ev_cmp {op : CmpOp} {g : PyData → PyData → Option Bool} (ho : OpR X (compareOp op) (rFB X.K g)) (ha : ER X o a fa) (hb : ER X o b fb) (hm : behindInMarks op b = false) : EV X o (.Compare a [op] [b] pos) (eB (e2 fa fb g)) :=
  PE.imp (pe_cmpR ho ha hb hm) fun σ H Q h => cmpB_of h
theorem et_cmp {op : CmpOp} {g : PyData → PyData → Option Bool} (ho : OpR X (compareOp op) (rFB X.K g)) (ha : ER X o a fa) (hb : ER X o b fb) (hm : behindInMarks op b = false) : ET X o (.Compare a [op] [b] pos) (e2 fa fb g) :=
  PT.imp (pt_cmpR ho ha hb hm) fun σ H Q h => cmpT_of h
/-- a < b < c -/
def eChain (fa fb fc : Rho → Option PyData) (g g' : PyData → PyData → Option Bool) : Rho → Option Bool := fun ρ => (fa ρ).bind fun x => (fb ρ).bind fun y => (g x y).bind fun k => if k = true then (fc ρ).bind fun z => g' y z else some false
theorem chain_of {K : PySem.W.Frag} {fc : Rho → Option PyData} {g g' : PyData → PyData → Option Bool} {σ : St} {H : Hp} {Q : VK} (h : tV K o (eB (eChain fa fb fc g g')) σ H Q) : tChain (rFB K g) (rFB K g') (tR K o fa) (tR K o fb) (tR K o fc) σ H Q := by
  obtain ⟨H0, P0, P, ρ, d, R, e, q⟩ := h
  obtain ⟨c, e', rfl⟩ := eB_some e
  clear e
  have e := e'
  clear e'
  unfold eChain at e
  cases ea : fa ρ with
  | none => rw [ea] at e; cases e
  | some x =>
  cases eb : fb ρ with
  | none => rw [ea, eb] at e; cases e
  | some y =>
  cases eg : g x y with
  | none => simp [ea, eb, eg] at e
  | some k =>
  rw [ea, eb] at e
  simp only [Option.bind_some, eg] at e
  refine ⟨H0, P0, P, ρ, x, R, ea, fun v H1 s1 r1 => ?_⟩
  refine ⟨H0, P0, P, ρ, y, R.go s1, eb, fun u H2 s2 r2 => ?_⟩
  refine ⟨P, x, y, k, (R.go (s1.trans s2)).tr, r1.same s2, r2, eg, k, rfl, ?_⟩
  cases k with
  | false => rw [if_neg (by decide)] at e ⊢; cases e; exact q _ _ (s1.trans s2) (.bl false)
  | true =>
    rw [if_pos rfl] at e ⊢
    cases ec : fc ρ with
    | none => rw [ec] at e; cases e
    | some z =>
      rw [ec] at e
      refine ⟨H0, P0, P, ρ, z, R.go (s1.trans s2), ec, fun w H3 s3 r3 => ?_⟩
      exact ⟨P, y, z, c, (R.go (s1.trans (s2.trans s3))).tr, r2.same s3, r3, e, q _ _ (s1.trans (s2.trans s3)) (.bl c)⟩
end
end TF

/-! TFc.lean -/
set_option Elab.async false
set_option linter.all false
set_option maxRecDepth 100000
/-! TF.c: further expressions: subscripts, displays, and or not, calls -/
namespace TF
open PySem PySem.Spec PyProof.Rows L2
variable [OK : OwnK]

section
variable {X : Cx} {o : List Nat} {e a b c : Expr} {es : List Expr} {f fa fb fc : Rho → Option PyData} {pos : Pos}
/-! ### a chain -/
theorem ev_chain {op op' : CmpOp} {g g' : PyData → PyData → Option Bool} (ho : OpR X (compareOp op) (rFB X.K g)) (ho' : OpR X (compareOp op') (rFB X.K g')) (ha : ER X o a fa) (hb : ER X o b fb) (hc : ER X o c fc)
    (hm : lastMarks [op, op'] [b, c] = false := by with_unfolding_all rfl) : EV X o (.Compare a [op, op'] [b, c] pos) (eB (eChain fa fb fc g g')) :=
  PE.imp (pe_chain ho ho' ha hb hc hm) fun σ H Q h => chain_of h
theorem et_chain {op op' : CmpOp} {g g' : PyData → PyData → Option Bool} (ho : OpR X (compareOp op) (rFB X.K g)) (ho' : OpR X (compareOp op') (rFB X.K g')) (ha : ER X o a fa) (hb : ER X o b fb) (hc : ER X o c fc)
    (hm : lastMarks [op, op'] [b, c] = false := by with_unfolding_all rfl) : ET X o (.Compare a [op, op'] [b, c] pos) (eChain fa fb fc g g') :=
  PT.imp (pt_chain ho ho' ha hb hc hm) fun σ H Q ⟨H0, P0, P, ρ, d, R, e, q⟩ => chain_of ⟨H0, P0, P, ρ, .bool d, R, by unfold eB; rw [e]; rfl, fun v H' s t => ⟨d, by cases t; rfl, q H' s⟩⟩

/-! ### subscripts -/
theorem ev_ix {g : PyData → PyData → Option PyData} (hr : IxR X (rF X.K g)) (ha : ER X o a fa) (hb : ER X o b fb) (hs : PlainIx b) : EV X o (.Subscript a b pos) (e2 fa fb g) :=
  PE.imp (pe_ix hr ha hb hs) fun σ H Q h => t2_of h
/-- a slice's part -/
def tPt (K : PySem.W.Frag) (o : List Nat) (f : Rho → Option (Option Int)) : TO := fun σ H Q => ∃ H0 P0 P ρ d, Rel K H0 P0 H P o σ ρ ∧ f ρ = some d ∧ ∀ H', Same H H' → Q d H'
abbrev EO (X : Cx) (o : List Nat) (e : Option Expr) (f : Rho → Option (Option Int)) : Prop := PO X e (tPt X.K o f)
theorem PO.imp {e : Option Expr} {t t' : TO} (h : PO X e t) (i : ∀ σ H Q, t' σ H Q → t σ H Q) : PO X e t' := ⟨fun pins s σ H Q I q => h.run pins s σ H Q I (i σ H Q q)⟩
def eNoPart : Rho → Option (Option Int) := fun _ => some none
def ePart (f : Rho → Option PyData) : Rho → Option (Option Int) := fun ρ => (f ρ).bind fun d => match d with
  | .int i => some (some i)
  | _ => none
theorem eo_none : EO X o none eNoPart := PO.imp po_none fun σ H Q ⟨H0, P0, P, ρ, d, R, e, q⟩ => by cases e; exact q H (Same.refl H)
theorem eo_some (h : ER X o e f) : EO X o (some e) (ePart f) := PO.imp (po_some h) fun σ H Q ⟨H0, P0, P, ρ, d, R, e, q⟩ => by
  unfold ePart at e
  cases ef : f ρ with
  | none => rw [ef] at e; cases e
  | some x =>
    rw [ef] at e
    cases x with
    | int i => cases e; exact ⟨H0, P0, P, ρ, _, R, ef, fun v H' s r => ⟨i, r.int, q H' s⟩⟩
    | _ => cases e
/-- by values: a slice -/
def rFS (K : PySem.W.Frag) (g : PyData → Option Int → Option Int → Option PyData) : V → Option Int → Option Int → Hp → VK → Prop := fun x lo hi H Q => ∃ P dx d, (∀ a, P a → ∃ u, H a = some u) ∧ Dr K H P x dx ∧ g dx lo hi = some d ∧ ∀ v H', Same H H' → Dq K H' P v d → Q v H'
theorem SlR.imp {r r' : V → Option Int → Option Int → Hp → VK → Prop} (h : SlR X r) (i : ∀ x l u H Q, r' x l u H Q → r x l u H Q) : SlR X r' := fun pins s σ H x v vl vu lo hi sl Q I rx hs pl pu q => h pins s σ H x v vl vu lo hi sl Q I rx hs pl pu (i x lo hi H Q q)
def eSl (f : Rho → Option PyData) (l u : Rho → Option (Option Int)) (g : PyData → Option Int → Option Int → Option PyData) : Rho → Option PyData := fun ρ => (f ρ).bind fun x => (l ρ).bind fun i => (u ρ).bind fun j => g x i j
theorem ev_slice {lo hi : Option Expr} {p2 : Pos} {fl fu : Rho → Option (Option Int)} {g : PyData → Option Int → Option Int → Option PyData} (hr : SlR X (rFS X.K g)) (he : ER X o e f) (hl : EO X o lo fl) (hu : EO X o hi fu) : EV X o (.Subscript e (.Slice lo hi none p2) pos) (eSl f fl fu g) :=
  PE.imp (pe_slice hr he hl hu) fun σ H Q ⟨H0, P0, P, ρ, d, R, e, q⟩ => by
    unfold eSl at e
    cases ef : f ρ with
    | none => rw [ef] at e; cases e
    | some x =>
    cases el : fl ρ with
    | none => rw [ef, el] at e; cases e
    | some i =>
    cases eu : fu ρ with
    | none => rw [ef, el, eu] at e; cases e
    | some j =>
    rw [ef, el, eu] at e
    refine ⟨H0, P0, P, ρ, x, R, ef, fun v H1 s1 r1 => ⟨H0, P0, P, ρ, i, R.go s1, el, fun H2 s2 => ⟨H0, P0, P, ρ, j, R.go (s1.trans s2), eu, fun H3 s3 => ?_⟩⟩⟩
    exact ⟨P, x, d, (R.go (s1.trans (s2.trans s3))).tr, r1.same (s2.trans s3), e, fun w H' s4 t => q w H' (s1.trans (s2.trans (s3.trans s4))) t⟩

/-! ### argument lists, displays -/
def aNil : Rho → Option (List PyData) := fun _ => some []
def aCons (f : Rho → Option PyData) (g : Rho → Option (List PyData)) : Rho → Option (List PyData) := fun ρ => (f ρ).bind fun x => (g ρ).bind fun xs => some (x :: xs)
theorem aCons_some {g : Rho → Option (List PyData)} {ρ : Rho} {ds : List PyData} (h : aCons f g ρ = some ds) : ∃ x xs, f ρ = some x ∧ g ρ = some xs ∧ ds = x :: xs := by
  unfold aCons at h
  cases ef : f ρ with
  | none => rw [ef] at h; cases h
  | some x =>
    cases eg : g ρ with
    | none => rw [ef, eg] at h; cases h
    | some xs => rw [ef, eg] at h; cases h; exact ⟨x, xs, rfl, rfl, rfl⟩
theorem ea_nil : EA X o [] aNil := PA.imp pa_nil fun σ H Q ⟨H0, P0, P, ρ, d, R, e, q⟩ => by cases e; exact q [] H (Same.refl H) .nil
theorem ea_cons {g : Rho → Option (List PyData)} (he : EV X o e f) (h : EA X o es g) (hs : starEach (e :: es) X.env = (false, eval e X.env) :: starEach es X.env := by rfl) : EA X o (e :: es) (aCons f g) :=
  PA.imp (pa_cons he h hs) fun σ H Q ⟨H0, P0, P, ρ, d, R, e, q⟩ => by
    obtain ⟨x, xs, ef, eg, rfl⟩ := aCons_some e
    refine ⟨H0, P0, P, ρ, x, R, ef, fun v H1 s1 r1 => ⟨H0, P0, P, ρ, xs, R.go s1, eg, fun vs H2 s2 r2 => ?_⟩⟩
    exact q _ H2 (s1.trans s2) (.cons (r1.same s2) r2)
def eTup (g : Rho → Option (List PyData)) : Rho → Option PyData := fun ρ => (g ρ).bind fun ds => if ds.length ≤ 1000 then some (.tuple ds) else none
def eLst (g : Rho → Option (List PyData)) : Rho → Option (List PyData) := fun ρ => (g ρ).bind fun ds => if ds.length ≤ 1000 then some ds else none
theorem ev_tup {g : Rho → Option (List PyData)} (h : EA X o es g) {x1} : EV X o (.Tuple es x1 pos) (eTup g) := PE.imp (pe_tupF h) fun σ H Q ⟨H0, P0, P, ρ, d, R, e, q⟩ => by
  unfold eTup at e
  cases eg : g ρ with
  | none => rw [eg] at e; cases e
  | some ds =>
    rw [eg] at e
    have e : (if ds.length ≤ 1000 then some (PyData.tuple ds) else none) = some d := e
    by_cases hz : ds.length ≤ 1000
    · rw [if_pos hz] at e
      cases e
      refine ⟨H0, P0, P, ρ, ds, R, eg, fun vs H1 s1 r1 => ⟨Nat.le_of_lt (small1000 (by rw [r1.length]; exact hz)), fun p its hp => ?_⟩⟩
      exact q _ _ (s1.trans (same_upd hp _)) (.tup upd_same ((R.go s1).newP hp) (r1.same (same_upd hp _)))
    · rw [if_neg hz] at e; cases e
theorem en_lst {g : Rho → Option (List PyData)} (h : EA X o es g) : EN X o (.List es pos) (eLst g) := PE.imp (pe_lst h) fun σ H Q ⟨H0, P0, P, ρ, d, R, e, q⟩ => by
  unfold eLst at e
  cases eg : g ρ with
  | none => rw [eg] at e; cases e
  | some ds =>
    rw [eg] at e
    have e : (if ds.length ≤ 1000 then some ds else none) = some d := e
    by_cases hz : ds.length ≤ 1000
    · rw [if_pos hz] at e
      cases e
      refine ⟨H0, P0, P, ρ, d, R, eg, fun vs H1 s1 r1 => ⟨Nat.le_of_lt (small1000 (by rw [r1.length]; exact hz)), fun p hp => ?_⟩⟩
      refine q _ _ _ (s1.trans (same_upd hp _)) (s1.free hp) upd_same (r1.mono fun a u z n _ => ⟨same_upd hp _ a u z, ?_⟩)
      rintro (rfl | z')
      · rw [hp] at z; cases z
      · exact n z'
    · rw [if_neg hz] at e; cases e

/-! ### and, or, not, if -/
def tAnd (fa fb : Rho → Option Bool) : Rho → Option Bool := fun ρ => (fa ρ).bind fun c => if c = true then fb ρ else some false
def tOr (fa fb : Rho → Option Bool) : Rho → Option Bool := fun ρ => (fa ρ).bind fun c => if c = true then some true else fb ρ
def tNot (fa : Rho → Option Bool) : Rho → Option Bool := fun ρ => (fa ρ).bind fun c => some (!c)
variable {ga gb : Rho → Option Bool} {rest : List Expr}
theorem ew_and1 (ha : ET X o a ga) : EW X o (.BoolOp .And [a] pos) ga := pw_and1 ha
theorem ew_or1 (ha : ET X o a ga) : EW X o (.BoolOp .Or [a] pos) ga := pw_or1 ha
theorem ew_and (ha : ET X o a ga) (hb : EW X o (.BoolOp .And (b :: rest) pos) gb) : EW X o (.BoolOp .And (a :: b :: rest) pos) (tAnd ga gb) := PW.imp (pw_and ha hb) fun σ H Q ⟨H0, P0, P, ρ, d, R, e, q⟩ => by
  unfold tAnd at e
  cases ea : ga ρ with
  | none => rw [ea] at e; cases e
  | some c =>
    rw [ea] at e
    refine ⟨H0, P0, P, ρ, c, R, ea, fun H1 s1 => ?_⟩
    cases c with
    | true => exact iteT ⟨H0, P0, P, ρ, d, R.go s1, e, fun H2 s2 => q H2 (s1.trans s2)⟩
    | false => cases e; exact iteF (q H1 s1)
theorem ew_or (ha : ET X o a ga) (hb : EW X o (.BoolOp .Or (b :: rest) pos) gb) : EW X o (.BoolOp .Or (a :: b :: rest) pos) (tOr ga gb) := PW.imp (pw_or ha hb) fun σ H Q ⟨H0, P0, P, ρ, d, R, e, q⟩ => by
  unfold tOr at e
  cases ea : ga ρ with
  | none => rw [ea] at e; cases e
  | some c =>
    rw [ea] at e
    refine ⟨H0, P0, P, ρ, c, R, ea, fun H1 s1 => ?_⟩
    cases c with
    | false => exact iteF ⟨H0, P0, P, ρ, d, R.go s1, e, fun H2 s2 => q H2 (s1.trans s2)⟩
    | true => cases e; exact iteT (q H1 s1)
theorem et_not (ha : ET X o a ga) : ET X o (.UnaryOp .Not a pos) (tNot ga) := PT.imp (pt_not ha) fun σ H Q ⟨H0, P0, P, ρ, d, R, e, q⟩ => by
  unfold tNot at e
  cases ea : ga ρ with
  | none => rw [ea] at e; cases e
  | some c => rw [ea] at e; cases e; exact ⟨H0, P0, P, ρ, c, R, ea, fun H1 s1 => q H1 s1⟩
/-- .. as values -/
def dB : PyData → Option Bool
  | .bool b => some b
  | _ => none
def vAnd (fa fb : Rho → Option PyData) : Rho → Option PyData := fun ρ => ((fa ρ).bind dB).bind fun c => if c = true then fb ρ else some (.bool false)
def vOr (fa fb : Rho → Option PyData) : Rho → Option PyData := fun ρ => ((fa ρ).bind dB).bind fun c => if c = true then some (.bool true) else fb ρ
def vNot (fa : Rho → Option PyData) : Rho → Option PyData := fun ρ => ((fa ρ).bind dB).bind fun c => some (.bool (!c))
theorem dB_some {ρ : Rho} {c : Bool} (h : (f ρ).bind dB = some c) : f ρ = some (.bool c) := by
  cases ef : f ρ with
  | none => rw [ef] at h; cases h
  | some x =>
    rw [ef] at h
    cases x with
    | bool b => cases h; rfl
    | _ => cases h
theorem ev_one {op} (h : EV X o a f) : EV X o (.BoolOp op [a] pos) f := pe_one h
theorem ev_and (ha : ER X o a fa) (hb : EV X o (.BoolOp .And (b :: rest) pos) fb) : EV X o (.BoolOp .And (a :: b :: rest) pos) (vAnd fa fb) := PE.imp (pe_and ha hb) fun σ H Q ⟨H0, P0, P, ρ, d, R, e, q⟩ => by
  unfold vAnd at e
  cases ea : (fa ρ).bind dB with
  | none => rw [ea] at e; cases e
  | some c =>
    rw [ea] at e
    refine ⟨H0, P0, P, ρ, _, R, dB_some ea, fun v H1 s1 r1 => ⟨c, r1.bl, ?_⟩⟩
    cases c with
    | true => exact iteT ⟨H0, P0, P, ρ, d, R.go s1, e, fun v H2 s2 t => q v H2 (s1.trans s2) t⟩
    | false => cases e; exact iteF (q _ H1 s1 (.bl false))
theorem ev_or (ha : ER X o a fa) (hb : EV X o (.BoolOp .Or (b :: rest) pos) fb) : EV X o (.BoolOp .Or (a :: b :: rest) pos) (vOr fa fb) := PE.imp (pe_or ha hb) fun σ H Q ⟨H0, P0, P, ρ, d, R, e, q⟩ => by
  unfold vOr at e
  cases ea : (fa ρ).bind dB with
  | none => rw [ea] at e; cases e
  | some c =>
    rw [ea] at e
    refine ⟨H0, P0, P, ρ, _, R, dB_some ea, fun v H1 s1 r1 => ⟨c, r1.bl, ?_⟩⟩
    cases c with
    | false => exact iteF ⟨H0, P0, P, ρ, d, R.go s1, e, fun v H2 s2 t => q v H2 (s1.trans s2) t⟩
    | true => cases e; exact iteT (q _ H1 s1 (.bl true))
theorem ev_not (ha : ER X o a fa) : EV X o (.UnaryOp .Not a pos) (vNot fa) := PE.imp (pe_not ha) fun σ H Q ⟨H0, P0, P, ρ, d, R, e, q⟩ => by
  unfold vNot at e
  cases ea : (fa ρ).bind dB with
  | none => rw [ea] at e; cases e
  | some c => rw [ea] at e; cases e; exact ⟨H0, P0, P, ρ, _, R, dB_some ea, fun v H1 s1 r1 => ⟨c, r1.bl, q _ H1 s1 (.bl _)⟩⟩
def eIf (t : Rho → Option Bool) (fa fb : Rho → Option PyData) : Rho → Option PyData := fun ρ => (t ρ).bind fun c => if c = true then fa ρ else fb ρ
theorem ev_if (hc : ET X o c ga) (ha : EV X o a fa) (hb : EV X o b fb) : EV X o (.IfExp c a b pos) (eIf ga fa fb) := PE.imp (pe_ifExp hc ha hb) fun σ H Q ⟨H0, P0, P, ρ, d, R, e, q⟩ => by
  unfold eIf at e
  cases ea : ga ρ with
  | none => rw [ea] at e; cases e
  | some c =>
    rw [ea] at e
    refine ⟨H0, P0, P, ρ, c, R, ea, fun H1 s1 => ?_⟩
    cases c with
    | true => exact iteT ⟨H0, P0, P, ρ, d, R.go s1, e, fun v H2 s2 t => q v H2 (s1.trans s2) t⟩
    | false => exact iteF ⟨H0, P0, P, ρ, d, R.go s1, e, fun v H2 s2 t => q v H2 (s1.trans s2) t⟩
/-- a value that is a truth, as a test -/
def eT (f : Rho → Option PyData) : Rho → Option Bool := fun ρ => (f ρ).bind dB
theorem et_val (h : ER X o e f) (he : ∀ whole, isTrue e X.env whole = (do let v ← whole; standAt e.pos; holding [v] (truthy v)) := by intro _; rfl) : ET X o e (eT f) := PT.imp (pt_val h he) fun σ H Q ⟨H0, P0, P, ρ, d, R, e, q⟩ =>
  ⟨H0, P0, P, ρ, _, R, dB_some e, fun v H1 s1 r1 => ⟨d, r1.bl, q H1 s1⟩⟩

/-! ### calls -/
/-- what a def of the text promises: the function m of its n arguments -/
def spF (K : PySem.W.Frag) (n : Nat) (m : List PyData → Option PyData) : Sp := fun vs H Q _ => vs.length = n ∧ ∃ (P : Addr → Prop) (ds : List PyData) (d : PyData), (∀ a, P a → ∃ u, H a = some u) ∧ DqA K H P vs ds ∧ m ds = some d ∧ ∀ v H', Same H H' → Dq K H' P v d → Q v H'
def eCall (n : Nat) (m : List PyData → Option PyData) (g : Rho → Option (List PyData)) : Rho → Option PyData := fun ρ => (g ρ).bind fun ds => if ds.length = n then m ds else none
theorem ev_call {k n : Nat} {f : Addr} {fd : FuncData} {ps : List Str} {m : List PyData → Option PyData} {x : Str} {p : Pos} {g : Rho → Option (List PyData)} (F : FnOk X.prog X.w X.K X.mg X.base CX0 k f fd ps (spF X.K n m)) (hr : Room k X.A) (hm : X.mg x = some (.ref f)) (hk : PySem.W.keepIn X.K (.ref f) = true) (hb : Binds X.K fd ps [])
    (ha : EA X o (e :: es) g) (hg : Gl X x := by rfl) (hdb : (x == ("__debug__" : Str)) = false := by decide) (he : starEach (e :: es) X.env = (false, eval e X.env) :: starEach es X.env := by rfl) (hpl : (backTo pos (starEach es X.env)).any (·.1) = false := by rfl) :
    EV X o (.Call (.Name x p) (e :: es) [] pos) (eCall n m g) :=
  PE.imp (pe_call F hr hg hm hk hb .nil pass0 ha hdb he hpl) fun σ H Q ⟨H0, P0, P, ρ, d, R, e, q⟩ => by
    unfold eCall at e
    cases eg : g ρ with
    | none => rw [eg] at e; cases e
    | some ds =>
      rw [eg] at e
      have e : (if ds.length = n then m ds else none) = some d := e
      by_cases hn : ds.length = n
      · rw [if_pos hn] at e
        refine ⟨H0, P0, P, ρ, ds, R, eg, fun vs H1 s1 r1 => ?_⟩
        show spF X.K n m (vs ++ []) H1 Q E0
        rw [List.append_nil]
        exact ⟨r1.length.trans hn, P, ds, d, (R.go s1).tr, r1, e, fun v H2 s2 t => q v H2 (s1.trans s2) t⟩
      · rw [if_neg hn] at e; cases e
/-- built-ins of one, two arguments -/
def rC1 (K : PySem.W.Frag) (g : PyData → Option PyData) : List V → Hp → VK → Prop := fun vs H Q => ∃ P x dx d, vs = [x] ∧ (∀ a, P a → ∃ u, H a = some u) ∧ Dr K H P x dx ∧ g dx = some d ∧ ∀ v H', Same H H' → Dq K H' P v d → Q v H'
def rC1N (K : PySem.W.Frag) (g : PyData → Option (List PyData)) : List V → Hp → VK → Prop := fun vs H Q => ∃ P x dx d, vs = [x] ∧ (∀ a, P a → ∃ u, H a = some u) ∧ Dr K H P x dx ∧ g dx = some d ∧
  ∀ p xs H', Same H H' → H p = none → H' p = some (.lst xs) → DqA K H' (fun a => a = p ∨ P a) xs d → Q (.ref p) H'
def rC2 (K : PySem.W.Frag) (g : PyData → PyData → Option PyData) : List V → Hp → VK → Prop := fun vs H Q => ∃ P x y dx dy d, vs = [x, y] ∧ (∀ a, P a → ∃ u, H a = some u) ∧ Dr K H P x dx ∧ Dr K H P y dy ∧ g dx dy = some d ∧ ∀ v H', Same H H' → Dq K H' P v d → Q v H'
def e1 {α : Type} (f : Rho → Option PyData) (g : PyData → Option α) : Rho → Option α := fun ρ => (f ρ).bind g
theorem e1_some {α : Type} {g : PyData → Option α} {ρ : Rho} {d : α} (h : e1 f g ρ = some d) : ∃ x, f ρ = some x ∧ g x = some d := by
  unfold e1 at h
  cases ef : f ρ with
  | none => rw [ef] at h; cases h
  | some x => rw [ef] at h; exact ⟨x, rfl, h⟩
theorem c1_of {K : PySem.W.Frag} {g : PyData → Option PyData} {σ : St} {H : Hp} {Q : VK} (h : tV K o (e1 f g) σ H Q) : tCB (rC1 K g) (tCons (tR K o f) tNil) σ H Q := by
  obtain ⟨H0, P0, P, ρ, d, R, e, q⟩ := h
  obtain ⟨x, ef, eg⟩ := e1_some e
  exact ⟨H0, P0, P, ρ, x, R, ef, fun v H1 s1 r1 => ⟨P, v, x, d, rfl, (R.go s1).tr, r1, eg, fun w H' s2 t => q w H' (s1.trans s2) t⟩⟩
theorem c1N_of {K : PySem.W.Frag} {g : PyData → Option (List PyData)} {σ : St} {H : Hp} {Q : VK} (h : tN K o (e1 f g) σ H Q) : tCB (rC1N K g) (tCons (tR K o f) tNil) σ H Q := by
  obtain ⟨H0, P0, P, ρ, d, R, e, q⟩ := h
  obtain ⟨x, ef, eg⟩ := e1_some e
  exact ⟨H0, P0, P, ρ, x, R, ef, fun v H1 s1 r1 => ⟨P, v, x, d, rfl, (R.go s1).tr, r1, eg, fun p xs H' s2 n hp t => q p xs H' (s1.trans s2) (s1.free n) hp t⟩⟩
theorem c2_of {K : PySem.W.Frag} {g : PyData → PyData → Option PyData} {σ : St} {H : Hp} {Q : VK} (h : tV K o (e2 fa fb g) σ H Q) : tCB (rC2 K g) (tCons (tR K o fa) (tCons (tR K o fb) tNil)) σ H Q := by
  obtain ⟨H0, P0, P, ρ, d, R, e, q⟩ := h
  obtain ⟨x, y, ea, eb, eg⟩ := e2_some e
  exact ⟨H0, P0, P, ρ, x, R, ea, fun v H1 s1 r1 => ⟨H0, P0, P, ρ, y, R.go s1, eb, fun u H2 s2 r2 => ⟨P, v, u, x, y, d, rfl, (R.go (s1.trans s2)).tr, r1.same s2, r2, eg, fun w H' s3 t => q w H' (s1.trans (s2.trans s3)) t⟩⟩⟩
variable {x : Str} {p : Pos} {id T : String}
theorem ev_cb1 {g : PyData → Option PyData} (hc : CallR X (.builtin id) (rC1 X.K g)) (hm : X.mg x = none) (hv : bootBuiltins x = some (.builtin id)) (ha : ER X o e f) (hg : Gl X x := by rfl) (hn : x ≠ "__name__" := by decide) (hdb : (x == ("__debug__" : Str)) = false := by decide)
    (he : starEach [e] X.env = (false, eval e X.env) :: starEach [] X.env := by rfl) (hpl : (backTo pos (starEach [] X.env)).any (·.1) = false := by rfl) : EV X o (.Call (.Name x p) [e] [] pos) (e1 f g) :=
  PE.imp (pe_callB hc hg hm hv (pa_cons ha pa_nil he) hn hdb he hpl) fun σ H Q h => c1_of h
theorem en_cb1 {g : PyData → Option (List PyData)} (hc : CallR X (.builtin id) (rC1N X.K g)) (hm : X.mg x = none) (hv : bootBuiltins x = some (.builtin id)) (ha : ER X o e f) (hg : Gl X x := by rfl) (hn : x ≠ "__name__" := by decide) (hdb : (x == ("__debug__" : Str)) = false := by decide)
    (he : starEach [e] X.env = (false, eval e X.env) :: starEach [] X.env := by rfl) (hpl : (backTo pos (starEach [] X.env)).any (·.1) = false := by rfl) : EN X o (.Call (.Name x p) [e] [] pos) (e1 f g) :=
  PE.imp (pe_callB hc hg hm hv (pa_cons ha pa_nil he) hn hdb he hpl) fun σ H Q h => c1N_of h
theorem ev_ct1 {g : PyData → Option PyData} (hc : CallR X (.type T) (rC1 X.K g)) (hm : X.mg x = none) (hv : bootBuiltins x = some (.type T)) (ha : ER X o e f) (hg : Gl X x := by rfl) (hn : x ≠ "__name__" := by decide) (hdb : (x == ("__debug__" : Str)) = false := by decide)
    (he : starEach [e] X.env = (false, eval e X.env) :: starEach [] X.env := by rfl) (hpl : (backTo pos (starEach [] X.env)).any (·.1) = false := by rfl) : EV X o (.Call (.Name x p) [e] [] pos) (e1 f g) :=
  PE.imp (pe_callTy hc hg hm hv (pa_cons ha pa_nil he) hn hdb he hpl) fun σ H Q h => c1_of h
theorem en_ct1 {g : PyData → Option (List PyData)} (hc : CallR X (.type T) (rC1N X.K g)) (hm : X.mg x = none) (hv : bootBuiltins x = some (.type T)) (ha : ER X o e f) (hg : Gl X x := by rfl) (hn : x ≠ "__name__" := by decide) (hdb : (x == ("__debug__" : Str)) = false := by decide)
    (he : starEach [e] X.env = (false, eval e X.env) :: starEach [] X.env := by rfl) (hpl : (backTo pos (starEach [] X.env)).any (·.1) = false := by rfl) : EN X o (.Call (.Name x p) [e] [] pos) (e1 f g) :=
  PE.imp (pe_callTy hc hg hm hv (pa_cons ha pa_nil he) hn hdb he hpl) fun σ H Q h => c1N_of h
theorem ev_cb2 {g : PyData → PyData → Option PyData} (hc : CallR X (.builtin id) (rC2 X.K g)) (hm : X.mg x = none) (hv : bootBuiltins x = some (.builtin id)) (ha : ER X o a fa) (hb : ER X o b fb) (hg : Gl X x := by rfl) (hn : x ≠ "__name__" := by decide) (hdb : (x == ("__debug__" : Str)) = false := by decide)
    (he : starEach [a, b] X.env = (false, eval a X.env) :: starEach [b] X.env := by rfl) (hs : starEach [b] X.env = (false, eval b X.env) :: starEach [] X.env := by rfl) (hpl : (backTo pos (starEach [b] X.env)).any (·.1) = false := by rfl) : EV X o (.Call (.Name x p) [a, b] [] pos) (e2 fa fb g) :=
  PE.imp (pe_callB hc hg hm hv (pa_cons ha (pa_cons hb pa_nil hs) he) hn hdb he hpl) fun σ H Q h => c2_of h
end
end TF

/-! TFd.lean -/
set_option Elab.async false
set_option linter.all false
set_option maxRecDepth 100000
/-! TF.d: statements, loops, comprehensions, defs -/
namespace TF
open PySem PySem.Spec PyProof.Rows L2
variable [OK : OwnK]

theorem Lt.refl (H : Hp) (P : Addr → Prop) : Lt H P H P := fun _ _ h n _ => ⟨h, n⟩
theorem Lt.trans {H H1 H2 : Hp} {P P1 P2 : Addr → Prop} (a : Lt H P H1 P1) (b : Lt H1 P1 H2 P2) : Lt H P H2 P2 := fun x u h n t => b x u (a x u h n t).1 (a x u h n t).2 t
theorem Lt.same {H H' : Hp} (P : Addr → Prop) (e : Same H H') : Lt H P H' P := fun a u h n _ => ⟨e a u h, n⟩

section
variable {K : PySem.W.Frag} {H0 H H' : Hp} {P0 P : Addr → Prop} {o : List Nat} {σ : St} {ρ : Rho}
theorem set_get {α : Type} {l : List α} {i j : Nat} {x : α} (h : j ≠ i) : (l.set i x)[j]? = l[j]? := List.getElem?_set_ne (Ne.symm h)
theorem Rel.set (R : Rel K H0 P0 H P o σ ρ) {i : Nat} (hi : i ∉ o) {v : V} {d : PyData} (h : Dq K H P v d) : Rel K H0 P0 H P o (σ.set i (some v)) (ρ.set i (some d)) where
  sub := R.sub
  tr0 := R.tr0
  tr := R.tr
  same := R.same
  own := fun j hj => by
    have ne : j ≠ i := fun e => hi (e ▸ hj)
    obtain ⟨a, u, d', h1, h2, r⟩ := R.own j hj
    exact ⟨a, u, d', (set_get ne).trans h1, (set_get ne).trans h2, r⟩
  dis := fun j k a b hj hk ne e1 e2 => by
    have n1 : j ≠ i := fun e => hi (e ▸ hj)
    have n2 : k ≠ i := fun e => hi (e ▸ hk)
    rw [set_get n1] at e1
    rw [set_get n2] at e2
    exact R.dis j k a b hj hk ne e1 e2
  dat := fun j e hj he => by
    by_cases hji : j = i
    · subst hji
      have hl : j < ρ.length := by
        have := (List.getElem?_eq_some_iff.mp he).1
        rw [List.length_set] at this
        exact this
      rw [List.getElem?_set_self hl] at he
      cases he
      exact ⟨v, List.getElem?_set_self (by rw [← R.len]; exact hl), h⟩
    · rw [set_get hji] at he
      obtain ⟨w, h1, h2⟩ := R.dat j e hj he
      exact ⟨w, (set_get hji).trans h1, h2⟩
  len := by rw [List.length_set, List.length_set, R.len]
  tab := R.tab
  tp := R.tp
theorem Rel.forget (R : Rel K H0 P0 H P o σ ρ) {i : Nat} (hi : i ∉ o) : Rel K H0 P0 H P o σ (ρ.set i none) where
  sub := R.sub
  tr0 := R.tr0
  tr := R.tr
  same := R.same
  own := fun j hj => by
    have ne : j ≠ i := fun e => hi (e ▸ hj)
    obtain ⟨a, u, d', h1, h2, r⟩ := R.own j hj
    exact ⟨a, u, d', h1, (set_get ne).trans h2, r⟩
  dis := R.dis
  dat := fun j e hj he => by
    by_cases hji : j = i
    · subst hji
      have hl : j < ρ.length := by
        have := (List.getElem?_eq_some_iff.mp he).1
        rw [List.length_set] at this
        exact this
      rw [List.getElem?_set_self hl] at he
      cases he
    · rw [set_get hji] at he
      exact R.dat j e hj he
  len := by rw [List.length_set, R.len]
  tab := R.tab
  tp := R.tp
/-- forgetting several -/
def clr (ks : List Nat) (ρ : Rho) : Rho := ks.foldl (fun r k => r.set k none) ρ
theorem Rel.clr (R : Rel K H0 P0 H P o σ ρ) {ks : List Nat} (h : ∀ k ∈ ks, k ∉ o) : Rel K H0 P0 H P o σ (clr ks ρ) := by
  induction ks generalizing ρ with
  | nil => exact R
  | cons k ks ih => exact ih (R.forget (h k (by simp))) fun j hj => h j (by simp [hj])
/-- a list of one's own is given away -/
theorem Rel.drop (R : Rel K H0 P0 H P o σ ρ) {o' : List Nat} (s : ∀ i ∈ o', i ∈ o) : ∃ P', Rel K H0 P0 H P' o' σ ρ ∧ Lt H P H P' := by
  have an : ∀ a, (P a ∧ ∀ i, i ∈ o → i ∉ o' → σ[i]? ≠ some (some (.ref a))) → P a := fun a h => h.1
  refine ⟨fun a => P a ∧ ∀ i, i ∈ o → i ∉ o' → σ[i]? ≠ some (some (.ref a)), ⟨fun a h => ⟨R.sub a h, fun i hi hn e => ?_⟩, R.tr0, fun a h => R.tr a h.1, R.same, fun i hi => ?_, fun i j a b hi hj ne e1 e2 => R.dis i j a b (s i hi) (s j hj) ne e1 e2, fun i d hi h => ?_, R.len, R.tab, fun n => ⟨(R.tp n).1, fun a z => (R.tp n).2 a z.1⟩⟩, fun a u h n _ => ⟨h, fun z => n z.1⟩⟩
  · obtain ⟨b, xs, ds, h1, h2, h3, h4, h5, h6⟩ := R.own i hi
    rw [e] at h1
    cases h1
    obtain ⟨u, hu⟩ := R.tr0 a h
    rw [h4] at hu; cases hu
  · obtain ⟨b, w, ds, h1, h2, h3, h4, h5, h6⟩ := R.own i (s i hi)
    exact ⟨b, w, ds, h1, h2, ⟨h3, fun j hj hn e => R.dis i j b b (s i hi) hj (fun z => hn (z ▸ hi)) h1 e rfl⟩, h4, h5, h6.anti an⟩
  · by_cases hio : i ∈ o
    · obtain ⟨b, xs, ds, h1, h2, h3, h4, h5, h6⟩ := R.own i hio
      rw [h] at h2
      cases h2
      exact ⟨_, h1, (h6.anti an).dq h5 fun z => z.2 i hio hi h1⟩
    · obtain ⟨v, h1, h2⟩ := R.dat i d hio h
      exact ⟨v, h1, h2.anti an⟩
/-- a new list becomes one's own -/
theorem Rel.take (R : Rel K H0 P0 H P o σ ρ) {i : Nat} (hi : i ∉ o) (hl : i < ρ.length) {p : Addr} {u : HO} {ds : PyData} (e : Same H H') (n : H p = none) (hp : H' p = some u) (t : Ow K H' (fun a => a = p ∨ P a) p u ds) :
    Rel K H0 P0 H' (fun a => a = p ∨ P a) (i :: o) (σ.set i (some (.ref p))) (ρ.set i (some ds)) ∧ Lt H P H' (fun a => a = p ∨ P a) := by
  have lt : Lt H P H' (fun a => a = p ∨ P a) := fun a u h hn _ => ⟨e a u h, by
    rintro (rfl | z)
    · rw [n] at h; cases h
    · exact hn z⟩
  have ne : ∀ j, j ∈ o → j ≠ i := fun j hj z => hi (z ▸ hj)
  refine ⟨⟨fun a h => .inr (R.sub a h), R.tr0, ?_, R.same.trans e, fun j hj => ?_, fun j k a b hj hk njk e1 e2 => ?_, fun j d hj h => ?_, by rw [List.length_set, List.length_set, R.len], R.tab.ext e, fun nT => ⟨(R.tp nT).1, ?_⟩⟩, lt⟩
  · rintro a (rfl | h)
    · exact ⟨_, hp⟩
    · obtain ⟨u, hu⟩ := R.tr a h
      exact ⟨u, e a u hu⟩
  · rcases List.mem_cons.mp hj with rfl | hj
    · exact ⟨p, u, ds, List.getElem?_set_self (by rw [← R.len]; exact hl), List.getElem?_set_self hl, .inl rfl, R.same.free n, hp, t⟩
    · obtain ⟨b, ys, es, h1, h2, h3, h4, h5, h6⟩ := R.own j hj
      exact ⟨b, ys, es, (set_get (ne j hj)).trans h1, (set_get (ne j hj)).trans h2, .inr h3, h4, e _ _ h5, h6.mono lt⟩
  · have pp : ∀ m c, m ∈ o → (σ.set i (some (V.ref p)))[m]? = some (some (.ref c)) → c ≠ p := fun m c hm z => by
      rw [set_get (ne m hm)] at z
      obtain ⟨b, ys, es, h1, h2, h3, h4, h5, h6⟩ := R.own m hm
      rw [z] at h1
      cases h1
      exact ne_of_none h5 n
    rcases List.mem_cons.mp hj with rfl | hj'
    · rcases List.mem_cons.mp hk with rfl | hk'
      · exact absurd rfl njk
      · rw [List.getElem?_set_self (by rw [← R.len]; exact hl)] at e1
        cases e1
        exact fun z => pp k b hk' e2 z.symm
    · rcases List.mem_cons.mp hk with rfl | hk'
      · rw [List.getElem?_set_self (by rw [← R.len]; exact hl)] at e2
        cases e2
        exact pp j a hj' e1
      · rw [set_get (ne j hj')] at e1
        rw [set_get (ne k hk')] at e2
        exact R.dis j k a b hj' hk' njk e1 e2
  · have hji : j ≠ i := fun z => hj (by simp [z])
    rw [set_get hji] at h
    obtain ⟨v, h1, h2⟩ := R.dat j d (fun z => hj (List.mem_cons_of_mem _ z)) h
    exact ⟨v, (set_get hji).trans h1, h2.mono lt⟩
  · rintro a (rfl | z) ps q
    · rw [hp] at q; cases q; exact (t.nc nT).2 ps rfl
    · obtain ⟨w, hw⟩ := R.tr a z
      have := e a w hw
      rw [q] at this; cases this
      exact (R.tp nT).2 a z ps hw
/-- one's own list is written -/
theorem Rel.put (R : Rel K H0 P0 H P o σ ρ) {i : Nat} (hi : i ∈ o) {a : Addr} {u' : HO} {es : PyData} (ha : σ[i]? = some (some (.ref a))) (t : Ow K H P a u' es) :
    Rel K H0 P0 (upd H a u') P o σ (ρ.set i (some es)) ∧ Lt H P (upd H a u') P := by
  obtain ⟨b, xs, ds, h1, h2, h3, h4, h5, h6⟩ := R.own i hi
  rw [ha] at h1
  cases h1
  have lt : Lt H P (upd H a u') P := fun c u h n _ => ⟨by rw [upd_ne (fun z => n (by rw [z]; exact h3))]; exact h, n⟩
  have hl : i < ρ.length := (List.getElem?_eq_some_iff.mp h2).1
  refine ⟨⟨R.sub, R.tr0, fun c h => ?_, fun c u h => ?_, fun j hj => ?_, R.dis, fun j d hj h => ?_, by rw [List.length_set, R.len], tabs_put R.tab h5 h6 fun b w n z => by rw [upd_ne n]; exact z, fun n => ⟨(R.tp n).1, fun c z ps q => ?_⟩⟩, lt⟩
  · by_cases hc : c = a
    · subst hc; exact ⟨_, upd_same⟩
    · rw [upd_ne hc]; exact R.tr c h
  · rw [upd_ne (ne_of_none h h4)]; exact R.same c u h
  · by_cases hji : j = i
    · subst hji
      exact ⟨a, u', es, ha, List.getElem?_set_self hl, h3, h4, upd_same, t.mono lt⟩
    · obtain ⟨c, zs, fs, g1, g2, g3, g4, g5, g6⟩ := R.own j hj
      exact ⟨c, zs, fs, g1, (set_get hji).trans g2, g3, g4, by rw [upd_ne (R.dis j i c a hj hi hji g1 ha)]; exact g5, g6.mono lt⟩
  · have hji : j ≠ i := fun z => hj (z ▸ hi)
    rw [set_get hji] at h
    obtain ⟨v, g1, g2⟩ := R.dat j d hj h
    exact ⟨v, g1, g2.mono lt⟩
  · by_cases hc : c = a
    · subst hc; rw [upd_same] at q; cases q; exact (t.nc n).2 ps rfl
    · rw [upd_ne hc] at q; exact (R.tp n).2 c z ps q
end

/-! ### flow -/
inductive Fl where
  | nx (ρ : Rho) | rt (d : PyData) | bk (ρ : Rho) | ct (ρ : Rho)
  /-- returned, with what is kept; raised, a class by its name; a truth returned, whatever the heap is -/
  | rx (d : PyData) (ρ : Rho) | ex (x : Str) | rl (b : Bool)
/-- the least that X must wish of an exception -/
def Wst (X : Cx) : WX := fun cls d σ H => ∀ (u : Value) (s' : Shared), (∃ (a : Addr) (B : Heap) (sI : Shared) (pins : List (Addr × Obj)), u = .ref a ∧ Inv X pins σ H sI ∧ (∀ b o, sI.heap.get? b = some o → b ∉ frs X.stack → B.get? b = some o) ∧ sI.heap.UpToSlots s'.heap ∧
      Sky B X.stack a (Zc cls d) X.env.locals s'.heap ∧ H a = none ∧ s'.os = sI.os ∧ AllBare s'.gens) → X.xe u s'
theorem takes_wst {X : Cx} : Takes X (Wst X) := fun u s' ⟨a, B, sI, pins, σ, H, cls, d, e, I, nb, up, sky, na, os, ag, w⟩ => w u s' ⟨a, B, sI, pins, e, I, nb, up, sky, na, os, ag⟩
theorem wst_of {X : Cx} {W : WX} (t : Takes X W) {cls : Value} {d : Option Addr} {σ : St} {H : Hp} (w : W cls d σ H) : Wst X cls d σ H := fun u s' ⟨a, B, sI, pins, e, I, nb, up, sky, na, os, ag⟩ => t u s' ⟨a, B, sI, pins, σ, H, cls, d, e, I, nb, up, sky, na, os, ag, w⟩
def ExX (X : Cx) : XK := fun cls d H => ∀ σ, Wst X cls d σ H
theorem passes_exX {X : Cx} : Passes (L2.CX X.prog X.w) X (ExX X) := passes_call takes_wst fun _ _ σ _ h => h σ
/-- what is wanted of a flow -/
def Fl.ok (X : Cx) (H0 : Hp) (P0 : Addr → Prop) (H : Hp) (P : Addr → Prop) (o' ob : List Nat) (D : Ends) : Fl → Prop
  | .nx ρ' => ∀ σ' H' P', Rel X.K H0 P0 H' P' o' σ' ρ' → Lt H P H' P' → D.nx σ' H'
  | .rt d => ∀ v H', Same H0 H' → Dq X.K H' P0 v d → D.rt v H'
  | .bk ρ' => ∀ σ' H' P', Rel X.K H0 P0 H' P' ob σ' ρ' → Lt H P H' P' → D.bk σ' H'
  | .ct ρ' => ∀ σ' H' P', Rel X.K H0 P0 H' P' ob σ' ρ' → Lt H P H' P' → D.ct σ' H'
  | .rx d ρ' => ∀ v σ' H' P' o2, (∀ i ∈ OK.rk, i ∈ o2) → Rel X.K H0 P0 H' P' o2 σ' ρ' → Dq X.K H' P' v d → D.rt v H'
  | .ex x => ∀ C H', X.mg x = some (.ref C) → Same H0 H' → ExX X (.ref C) none H'
  | .rl b => ∀ H', D.rt (.bl b) H'
theorem Fl.ok.go {X : Cx} {H0 : Hp} {P0 : Addr → Prop} {H H1 : Hp} {P P1 : Addr → Prop} {o' ob : List Nat} {D : Ends} {fl : Fl} (q : fl.ok X H0 P0 H P o' ob D) (l : Lt H P H1 P1) : fl.ok X H0 P0 H1 P1 o' ob D := by
  cases fl with
  | nx ρ' => exact fun σ' H' P' R l' => q σ' H' P' R (l.trans l')
  | rt d => exact q
  | bk ρ' => exact fun σ' H' P' R l' => q σ' H' P' R (l.trans l')
  | ct ρ' => exact fun σ' H' P' R l' => q σ' H' P' R (l.trans l')
  | rx d ρ' => exact q
  | ex x => exact q
  | rl b => exact q
def tS (X : Cx) (o o' ob : List Nat) (f : Rho → Option Fl) : TS := fun D σ H => ∃ H0 P0 P ρ fl, Rel X.K H0 P0 H P o σ ρ ∧ f ρ = some fl ∧ fl.ok X H0 P0 H P o' ob D
abbrev SV (X : Cx) (o o' ob : List Nat) (st : Stmt) (f : Rho → Option Fl) : Prop := PS X st (tS X o o' ob f)
abbrev SVs (X : Cx) (o o' ob : List Nat) (st : List Stmt) (f : Rho → Option Fl) : Prop := PSs X st (tS X o o' ob f)
def fNil : Rho → Option Fl := fun ρ => some (.nx ρ)
def fThen (fl : Fl) (g : Rho → Option Fl) : Option Fl := match fl with
  | .nx ρ => g ρ
  | .rt d => some (.rt d)
  | .bk ρ => some (.bk ρ)
  | .ct ρ => some (.ct ρ)
  | .rx d ρ => some (.rx d ρ)
  | .ex x => some (.ex x)
  | .rl b => some (.rl b)
def fSeq (f g : Rho → Option Fl) : Rho → Option Fl := fun ρ => (f ρ).bind fun fl => fThen fl g
section
variable {X : Cx} {o o1 o' ob : List Nat} {st : Stmt} {sts : List Stmt} {e : Expr} {f g : Rho → Option Fl} {fe : Rho → Option PyData} {pos pos' : Pos}
theorem svs_nil : SVs X o o ob [] fNil := PSs.imp pss_nil fun D σ H ⟨H0, P0, P, ρ, fl, R, e, q⟩ => by cases e; exact q σ H P R (Lt.refl H P)
theorem seq_of {D : Ends} {σ : St} {H : Hp} (h : tS X o o' ob (fSeq f g) D σ H) : tSeq (tS X o o1 ob f) (tS X o1 o' ob g) D σ H := by
  obtain ⟨H0, P0, P, ρ, fl, R, e, q⟩ := h
  unfold fSeq at e
  cases ef : f ρ with
  | none => rw [ef] at e; cases e
  | some fl1 =>
    rw [ef] at e
    have e : fThen fl1 g = some fl := e
    refine ⟨H0, P0, P, ρ, fl1, R, ef, ?_⟩
    cases fl1 with
    | nx ρ1 => exact fun σ1 H1 P1 R1 l1 => ⟨H0, P0, P1, ρ1, fl, R1, e, q.go l1⟩
    | rt d => cases e; exact q
    | bk ρ1 => cases e; exact q
    | ct ρ1 => cases e; exact q
    | rx d ρ1 => cases e; exact q
    | ex x => cases e; exact q
    | rl b => cases e; exact q
theorem svs_cons (h1 : SV X o o1 ob st f) (h2 : SVs X o1 o' ob sts g) : SVs X o o' ob (st :: sts) (fSeq f g) := PSs.imp (pss_cons h1 h2) fun D σ H h => seq_of h
theorem svs_one (h : SV X o o' ob st f) : SVs X o o' ob [st] f := pss_one h
/-- lists are given away ahead of it -/
theorem sv_drop (o1 : List Nat) (h : SV X o1 o' ob st f) (s : ∀ i ∈ o1, i ∈ o := by decide) : SV X o o' ob st f := PS.imp h fun D σ H ⟨H0, P0, P, ρ, fl, R, e, q⟩ => by
  obtain ⟨P', R', l⟩ := R.drop s
  exact ⟨H0, P0, P', ρ, fl, R', e, q.go l⟩
theorem svs_drop (o1 : List Nat) (h : SVs X o1 o' ob sts f) (s : ∀ i ∈ o1, i ∈ o := by decide) : SVs X o o' ob sts f := PSs.imp h fun D σ H ⟨H0, P0, P, ρ, fl, R, e, q⟩ => by
  obtain ⟨P', R', l⟩ := R.drop s
  exact ⟨H0, P0, P', ρ, fl, R', e, q.go l⟩
/-- .. behind it -/
theorem ok_less {H0 : Hp} {P0 : Addr → Prop} {H : Hp} {P : Addr → Prop} {D : Ends} {fl : Fl} (s : ∀ i ∈ o', i ∈ o1) (q : fl.ok X H0 P0 H P o' ob D) : fl.ok X H0 P0 H P o1 ob D := by
  cases fl with
  | nx ρ' => exact fun σ' H' P' R l' => let ⟨P2, R2, l2⟩ := R.drop s; q σ' H' P2 R2 (l'.trans l2)
  | rt d => exact q
  | bk ρ' => exact q
  | ct ρ' => exact q
  | rx d ρ' => exact q
  | ex x => exact q
  | rl b => exact q
theorem svs_less (o1 : List Nat) (h : SVs X o o1 ob sts f) (s : ∀ i ∈ o', i ∈ o1 := by decide) : SVs X o o' ob sts f := PSs.imp h fun D σ H ⟨H0, P0, P, ρ, fl, R, e, q⟩ => ⟨H0, P0, P, ρ, fl, R, e, ok_less s q⟩
theorem sv_less (o1 : List Nat) (h : SV X o o1 ob st f) (s : ∀ i ∈ o', i ∈ o1 := by decide) : SV X o o' ob st f := PS.imp h fun D σ H ⟨H0, P0, P, ρ, fl, R, e, q⟩ => ⟨H0, P0, P, ρ, fl, R, e, ok_less s q⟩

/-! ### small statements -/
def fRet (f : Rho → Option PyData) : Rho → Option Fl := fun ρ => (f ρ).bind fun d => some (.rt d)
theorem sv_ret (h : EV X o e fe) : SV X o o' ob (.Return (some e) pos) (fRet fe) := PS.imp (ps_ret h) fun D σ H ⟨H0, P0, P, ρ, fl, R, e, q⟩ => by
  unfold fRet at e
  cases ef : fe ρ with
  | none => rw [ef] at e; cases e
  | some d => rw [ef] at e; cases e; exact ⟨H0, P0, P, ρ, d, R, ef, fun v H' s t => q v H' (R.same.trans s) (t.anti R.sub)⟩
def fBk : Rho → Option Fl := fun ρ => some (.bk ρ)
def fCt : Rho → Option Fl := fun ρ => some (.ct ρ)
theorem sv_break (s : ∀ i ∈ ob, i ∈ o := by decide) : SV X o o' ob (.Break pos) fBk := PS.imp ps_break fun D σ H ⟨H0, P0, P, ρ, fl, R, e, q⟩ => by
  cases e
  obtain ⟨P', R', l⟩ := R.drop s
  exact q σ H P' R' l
theorem sv_cont (s : ∀ i ∈ ob, i ∈ o := by decide) : SV X o o' ob (.Continue pos) fCt := PS.imp ps_continue fun D σ H ⟨H0, P0, P, ρ, fl, R, e, q⟩ => by
  cases e
  obtain ⟨P', R', l⟩ := R.drop s
  exact q σ H P' R' l
theorem sv_pass : SV X o o ob (.Pass pos) fNil := PS.imp ps_pass fun D σ H ⟨H0, P0, P, ρ, fl, R, e, q⟩ => by cases e; exact q σ H P R (Lt.refl H P)
def fIf (t : Rho → Option Bool) (f g : Rho → Option Fl) : Rho → Option Fl := fun ρ => (t ρ).bind fun c => if c = true then f ρ else g ρ
theorem sv_if {c : Expr} {a b : List Stmt} {t : Rho → Option Bool} (hc : ET X o c t) (ha : SVs X o o' ob a f) (hb : SVs X o o' ob b g) : SV X o o' ob (.If c a b pos) (fIf t f g) := PS.imp (ps_if hc ha hb) fun D σ H ⟨H0, P0, P, ρ, fl, R, e, q⟩ => by
  unfold fIf at e
  cases et : t ρ with
  | none => rw [et] at e; cases e
  | some k =>
    rw [et] at e
    refine ⟨H0, P0, P, ρ, k, R, et, fun H1 s1 => ?_⟩
    cases k with
    | true => exact iteT ⟨H0, P0, P, ρ, fl, R.go s1, e, q.go (Lt.same P s1)⟩
    | false => exact iteF ⟨H0, P0, P, ρ, fl, R.go s1, e, q.go (Lt.same P s1)⟩
def fSet (i : Nat) (f : Rho → Option PyData) : Rho → Option Fl := fun ρ => (f ρ).bind fun d => some (.nx (ρ.set i (some d)))
theorem set_of {D : Ends} {σ : St} {H : Hp} {i : Nat} (hi : i ∉ o) (h : tS X o o ob (fSet i fe) D σ H) : tAsg (tV X.K o fe) (gName i) D σ H := by
  obtain ⟨H0, P0, P, ρ, fl, R, e, q⟩ := h
  unfold fSet at e
  cases ef : fe ρ with
  | none => rw [ef] at e; cases e
  | some d =>
    rw [ef] at e
    cases e
    exact ⟨H0, P0, P, ρ, d, R, ef, fun v H' s t => q _ H' P ((R.go s).set hi t) (Lt.same P s)⟩
theorem sv_set (i : Nat) {x : Str} (hN : X.N.Nodup) (he : EV X o e fe) (hi : i ∉ o := by decide) (hx : X.N[i]? = some x := by rfl) (hl : Loc X.env.scope x := by first | exact Or.inl rfl | exact Or.inr rfl) (hs : swapsWith e (some (.Name x pos')) pos.line X.env = pure false := by rfl)
    (hf : X.fn x = true ∨ X.env.scope.names.lookup x = some .local := by first | exact .inl rfl | exact .inr rfl) : SV X o o ob (.Assign [.Name x pos'] e pos) (fSet i fe) := PS.imp (ps_set hN hx hl he hs hf) fun D σ H h => set_of hi h
/-- x = a new list, that is one's own then -/
def fOwn (i : Nat) (f : Rho → Option (List PyData)) : Rho → Option Fl := fun ρ => (f ρ).bind fun d => if i < ρ.length then some (.nx (ρ.set i (some (.list d)))) else none
theorem own_of {D : Ends} {σ : St} {H : Hp} {i : Nat} {fl' : Rho → Option (List PyData)} (hi : i ∉ o) (h : tS X o (i :: o) ob (fOwn i fl') D σ H) : tAsg (tN X.K o fl') (gName i) D σ H := by
  obtain ⟨H0, P0, P, ρ, fl, R, e, q⟩ := h
  unfold fOwn at e
  cases ef : fl' ρ with
  | none => rw [ef] at e; cases e
  | some ds =>
    rw [ef] at e
    have e : (if i < ρ.length then some (Fl.nx (ρ.set i (some (.list ds)))) else none) = some fl := e
    by_cases hl : i < ρ.length
    · rw [if_pos hl] at e
      cases e
      refine ⟨H0, P0, P, ρ, ds, R, ef, fun p xs H' s n hp t => ?_⟩
      obtain ⟨R', l⟩ := R.take hi hl s n hp (.ofLst t)
      exact q _ H' _ R' l
    · rw [if_neg hl] at e; cases e
theorem sv_own (i : Nat) {x : Str} {fl : Rho → Option (List PyData)} (hN : X.N.Nodup) (he : EN X o e fl) (hi : i ∉ o := by decide) (hx : X.N[i]? = some x := by rfl) (hl : Loc X.env.scope x := by first | exact Or.inl rfl | exact Or.inr rfl) (hs : swapsWith e (some (.Name x pos')) pos.line X.env = pure false := by rfl)
    (hf : X.fn x = true ∨ X.env.scope.names.lookup x = some .local := by first | exact .inl rfl | exact .inr rfl) : SV X o (i :: o) ob (.Assign [.Name x pos'] e pos) (fOwn i fl) := PS.imp (ps_set hN hx hl he hs hf) fun D σ H h => own_of hi h

/-! ### targets -/
def tG (K : PySem.W.Frag) (o : List Nat) (f : PyData → Rho → Option Rho) : TG := fun v σ H Q => ∃ H0 P0 P ρ d ρ', Rel K H0 P0 H P o σ ρ ∧ Dq K H P v d ∧ f d ρ = some ρ' ∧ ∀ σ', Rel K H0 P0 H P o σ' ρ' → Q σ' H
abbrev TGt (X : Cx) (o : List Nat) (tg : Expr) (f : PyData → Rho → Option Rho) : Prop := PG X tg (tG X.K o f)
theorem PG.imp {tg : Expr} {t t' : TG} (h : PG X tg t) (i : ∀ v σ H Q, t' v σ H Q → t v σ H Q) : PG X tg t' := ⟨fun pins s σ H v u Q I r q => h.run pins s σ H v u Q I r (i v σ H Q q)⟩
def g1 (i : Nat) : PyData → Rho → Option Rho := fun d ρ => some (ρ.set i (some d))
def g2 (i j : Nat) : PyData → Rho → Option Rho := fun d ρ => match d with
  | .tuple [x, y] => some ((ρ.set i (some x)).set j (some y))
  | _ => none
def g3 (i j k : Nat) : PyData → Rho → Option Rho := fun d ρ => match d with
  | .tuple [x, y, z] => some (((ρ.set i (some x)).set j (some y)).set k (some z))
  | _ => none
theorem g2_some {i j : Nat} {d : PyData} {ρ ρ' : Rho} (h : g2 i j d ρ = some ρ') : ∃ x y, d = .tuple [x, y] ∧ ρ' = (ρ.set i (some x)).set j (some y) := by
  unfold g2 at h
  split at h
  · cases h; exact ⟨_, _, rfl, rfl⟩
  · cases h
theorem g3_some {i j k : Nat} {d : PyData} {ρ ρ' : Rho} (h : g3 i j k d ρ = some ρ') : ∃ x y z, d = .tuple [x, y, z] ∧ ρ' = ((ρ.set i (some x)).set j (some y)).set k (some z) := by
  unfold g3 at h
  split at h
  · cases h; exact ⟨_, _, _, rfl, rfl⟩
  · cases h
theorem tup2 {K : PySem.W.Frag} {H : Hp} {P : Addr → Prop} {v : V} {x y : PyData} (h : Dq K H P v (.tuple [x, y])) : ∃ a u w, v = .ref a ∧ SqT K H a [u, w] ∧ Dq K H P u x ∧ Dq K H P w y := by
  obtain ⟨a, xs, rfl, hs, t⟩ := h.tupI
  cases t with
  | cons h1 t => cases t with
    | cons h2 t => cases t; exact ⟨a, _, _, rfl, hs, h1, h2⟩
theorem tup3 {K : PySem.W.Frag} {H : Hp} {P : Addr → Prop} {v : V} {x y z : PyData} (h : Dq K H P v (.tuple [x, y, z])) : ∃ a u w r, v = .ref a ∧ SqT K H a [u, w, r] ∧ Dq K H P u x ∧ Dq K H P w y ∧ Dq K H P r z := by
  obtain ⟨a, xs, rfl, hs, t⟩ := h.tupI
  cases t with
  | cons h1 t => cases t with
    | cons h2 t => cases t with
      | cons h3 t => cases t; exact ⟨a, _, _, _, rfl, hs, h1, h2, h3⟩
theorem tg_1 (i : Nat) {tg : Expr} (h : PG X tg (gName i)) (hi : i ∉ o := by decide) : TGt X o tg (g1 i) := PG.imp h fun v σ H Q ⟨H0, P0, P, ρ, d, ρ', R, t, e, q⟩ => by
  cases e
  exact q _ (R.set hi t)
theorem tg_2 (i j : Nat) {tg : Expr} (h : PG X tg (gTup X.K 2 (gCons (gName i) (gCons (gName j) gNil)))) (hi : i ∉ o := by decide) (hj : j ∉ o := by decide) : TGt X o tg (g2 i j) := PG.imp h fun v σ H Q ⟨H0, P0, P, ρ, d, ρ', R, t, e, q⟩ => by
  obtain ⟨x, y, rfl, rfl⟩ := g2_some e
  obtain ⟨a, u, w, rfl, hs, h1, h2⟩ := tup2 t
  exact ⟨a, [u, w], rfl, hs, rfl, u, [w], rfl, w, [], rfl, rfl, q _ ((R.set hi h1).set hj h2)⟩
theorem tg_3 (i j k : Nat) {tg : Expr} (h : PG X tg (gTup X.K 3 (gCons (gName i) (gCons (gName j) (gCons (gName k) gNil))))) (hi : i ∉ o := by decide) (hj : j ∉ o := by decide) (hk : k ∉ o := by decide) : TGt X o tg (g3 i j k) := PG.imp h fun v σ H Q ⟨H0, P0, P, ρ, d, ρ', R, t, e, q⟩ => by
  obtain ⟨x, y, z, rfl, rfl⟩ := g3_some e
  obtain ⟨a, u, w, r, rfl, hs, h1, h2, h3⟩ := tup3 t
  exact ⟨a, [u, w, r], rfl, hs, rfl, u, [w, r], rfl, w, [r], rfl, r, [], rfl, rfl, q _ (((R.set hi h1).set hj h2).set hk h3)⟩
/-- target = e, the target a tuple of names -/
def fAsg (g : PyData → Rho → Option Rho) (f : Rho → Option PyData) : Rho → Option Fl := fun ρ => (f ρ).bind fun d => (g d ρ).bind fun r => some (.nx r)
theorem sv_asg {tg : Expr} {gt : PyData → Rho → Option Rho} (he : EV X o e fe) (hg : TGt X o tg gt) (hs : swapsWithSole [tg] e pos.line X.env = pure false := by rfl) (hw : swappedStores [tg] e X.env = pure none := by rfl)
    (h1 : (assignEach [tg] X.env).map (·.2) = [assign tg X.env] := by rfl) : SV X o o ob (.Assign [tg] e pos) (fAsg gt fe) := PS.imp (ps_asg he hg hs hw h1) fun D σ H ⟨H0, P0, P, ρ, fl, R, e, q⟩ => by
  unfold fAsg at e
  cases ef : fe ρ with
  | none => rw [ef] at e; cases e
  | some d =>
    rw [ef] at e
    cases eg : gt d ρ with
    | none => simp [eg] at e
    | some r =>
      simp only [Option.bind_some, eg] at e
      cases e
      exact ⟨H0, P0, P, ρ, d, R, ef, fun v H' s t => ⟨H0, P0, P, ρ, d, r, R.go s, t, eg, fun σ' R' => q σ' H' P R' (Lt.same P s)⟩⟩
/-- a, b = x, y -/
def fPar (i j : Nat) (fa : Rho → Option (List PyData)) : Rho → Option Fl := fun ρ => (fa ρ).bind fun ds => match ds with
  | [x, y] => some (.nx ((ρ.set i (some x)).set j (some y)))
  | _ => none
theorem sv_par (i j : Nat) {x y : Str} {a b : Expr} {fa : Rho → Option (List PyData)} {px py pt : Pos} {kt k2 pt2} (hc : X.calm = true) (hN : X.N.Nodup) (ha : EA X o [a, b] fa) (hij : i ≠ j := by decide) (hio : i ∉ o := by decide) (hjo : j ∉ o := by decide)
    (hi : X.N[i]? = some x := by rfl) (hj : X.N[j]? = some y := by rfl)
    (hx : X.env.scope.names.lookup x = some .local := by rfl) (hy : X.env.scope.names.lookup y = some .local := by rfl)
    (hw : swappedStores [.Tuple [.Name x px, .Name y py] kt pt] (.Tuple [a, b] k2 pt2) X.env = pure (some [x, y]) := by rfl)
    (hs : swapsWithSole [.Tuple [.Name x px, .Name y py] kt pt] (.Tuple [a, b] k2 pt2) pos.line X.env = pure false := by rfl) :
    SV X o o ob (.Assign [.Tuple [.Name x px, .Name y py] kt pt] (.Tuple [a, b] k2 pt2) pos) (fPar i j fa) := PS.imp (ps_par hc hN hi hj hij hx hy ha hw hs) fun D σ H ⟨H0, P0, P, ρ, fl, R, e, q⟩ => by
  unfold fPar at e
  cases ef : fa ρ with
  | none => rw [ef] at e; cases e
  | some ds =>
    rw [ef] at e
    match ds, ef, e with
    | [u, w], ef, e =>
      cases e
      refine ⟨H0, P0, P, ρ, _, R, ef, fun vs H1 s1 r1 => ?_⟩
      cases r1 with
      | cons h1 t => cases t with
        | cons h2 t =>
          cases t
          exact ⟨_, _, rfl, q _ H1 P (((R.go s1).set hio h1).set hjo h2) (Lt.same P s1)⟩
    | [], _, e => cases e
    | [_], _, e => cases e
    | _ :: _ :: _ :: _, _, e => cases e
end
end TF

/-! TFe.lean -/
set_option Elab.async false
set_option linter.all false
set_option maxRecDepth 100000
/-! TF.e: what is walked; for, while; list comprehensions; defs -/
namespace TF
open PySem PySem.Spec PyProof.Rows L2
variable [OK : OwnK]

/-- J walks the data ds, from H1 on -/
structure Wk (K : PySem.W.Frag) (ds : List PyData) (J : It) (H1 : Hp) (P1 : Addr → Prop) : Prop where
  go : ∀ (H : Hp) (P : Addr → Prop) (i : Nat), Lt H1 P1 H P → i < ds.length → J.go i H
  stop : ∀ (H : Hp) (P : Addr → Prop), Lt H1 P1 H P → J.stop ds.length H
  yld : ∀ (H : Hp) (P : Addr → Prop) (i : Nat) (x : V) (H' : Hp), Lt H1 P1 H P → (∀ a, P a → ∃ u, H a = some u) → i < ds.length → J.yld i H x H' → Same H H' ∧ ∃ d, ds[i]? = some d ∧ Dq K H' P x d
def tI (K : PySem.W.Frag) (o : List Nat) (f : Rho → Option (List PyData)) : TI := fun σ H R => ∃ H0 P0 P ρ ds, Rel K H0 P0 H P o σ ρ ∧ f ρ = some ds ∧ ∀ J H', Same H H' → Wk K ds J H' P → ds.length ≤ sizeLine → R J H'
abbrev WI (X : Cx) (o : List Nat) (tg iter : Expr) (f : Rho → Option (List PyData)) : Prop := PI X tg iter (tI X.K o f)
section
variable {X : Cx} {o o1 o' ob : List Nat} {tg e a b : Expr} {f fa fb : Rho → Option PyData} {pos : Pos}
theorem PI.imp {t t' : TI} (h : PI X tg e t) (i : ∀ σ H R, t' σ H R → t σ H R) : PI X tg e t' := ⟨fun pins s σ H R I q => h.run pins s σ H R I (i σ H R q)⟩
/-- what is held of all lists and tuples: their lengths -/
def Szd (K : PySem.W.Frag) (H : Hp) : Prop := (∀ a xs, SqL K H a xs → xs.length ≤ sizeLine) ∧ ∀ a xs, SqT K H a xs → xs.length ≤ sizeLine
theorem PI.szd {t : TI} (h : PI X tg e t) : PI X tg e (fun σ H R => t σ H fun J H' => Szd X.K H' → R J H') := ⟨fun pins s σ H R I q => by
  refine thn (h.run pins s σ H _ I q) fun v s1 h1 => thn h1 fun itv s2 ⟨it, fp, tn, J, H', e1, I2, T, st, fpo, q2⟩ => ?_
  exact ⟨it, fp, tn, J, H', e1, I2, T, st, fpo, q2 ⟨fun a xs h => let ⟨_, _, _, z⟩ := I2.list h; z, fun a xs h => let ⟨_, _, _, z⟩ := I2.tuple h; z⟩⟩⟩
def dSeqL : PyData → Option (List PyData)
  | .list xs => some xs
  | _ => none
def dSeqT : PyData → Option (List PyData)
  | .tuple xs => some xs
  | _ => none
/-- over a list that nobody changes -/
theorem wi_list (h : EV X o e f) : WI X o tg e (e1 f dSeqL) := PI.imp (PI.szd (pi_list h)) fun σ H R ⟨H0, P0, P, ρ, ds, Re, e', q⟩ => by
  obtain ⟨d, ef, eg⟩ := e1_some e'
  cases d with
  | list xs =>
    cases eg
    refine ⟨H0, P0, P, ρ, _, Re, ef, fun v H1 s1 t => ?_⟩
    cases t with
    | @lst a vs _ ha hn ts =>
      refine ⟨a, rfl, ⟨_, SqL.of ha⟩, fun hz => q _ _ s1 ⟨fun H P i l hi => ?_, fun H P l => ?_, fun H P i x H' l tr hi y => ?_⟩ (by rw [← ts.length]; exact hz.1 _ _ (SqL.of ha))⟩
      · have hi' : i < vs.length := by rw [ts.length]; exact hi
        exact ⟨vs, vs[i], SqL.of (l _ _ ha hn (by first | exact nt_lst | exact nt_frz)).1, by simp [hi']⟩
      · exact ⟨vs, SqL.of (l _ _ ha hn (by first | exact nt_lst | exact nt_frz)).1, by rw [ts.length]; exact Nat.le_refl _⟩
      · obtain ⟨rfl, y⟩ := y
        obtain ⟨d, h1, h2⟩ := (ts.mono l).getV (y vs (SqL.of (l _ _ ha hn (by first | exact nt_lst | exact nt_frz)).1))
        exact ⟨Same.refl _, d, h1, h2⟩
  | _ => cases eg
theorem wi_tup (h : EV X o e f) : WI X o tg e (e1 f dSeqT) := PI.imp (PI.szd (pi_tup h)) fun σ H R ⟨H0, P0, P, ρ, ds, Re, e', q⟩ => by
  obtain ⟨d, ef, eg⟩ := e1_some e'
  cases d with
  | tuple xs =>
    cases eg
    refine ⟨H0, P0, P, ρ, _, Re, ef, fun v H1 s1 t => ?_⟩
    cases t with
    | @tup a its vs _ ha hn ts =>
      refine ⟨a, rfl, ⟨_, sqT_fz ha⟩, fun hz => q _ _ s1 ⟨fun H P i l hi => ?_, fun H P l => ?_, fun H P i x H' l tr hi y => ?_⟩ (by rw [← ts.length]; exact hz.2 _ _ (sqT_fz ha))⟩
      · have hi' : i < vs.length := by rw [ts.length]; exact hi
        exact ⟨vs, vs[i], sqT_fz (l _ _ ha hn (by first | exact nt_lst | exact nt_frz)).1, by simp [hi']⟩
      · exact ⟨vs, sqT_fz (l _ _ ha hn (by first | exact nt_lst | exact nt_frz)).1, by rw [ts.length]; exact Nat.le_refl _⟩
      · obtain ⟨rfl, y⟩ := y
        obtain ⟨d, h1, h2⟩ := (ts.mono l).getV (y vs (sqT_fz (l _ _ ha hn (by first | exact nt_lst | exact nt_frz)).1))
        exact ⟨Same.refl _, d, h1, h2⟩
  | _ => cases eg
/-- whole numbers from lo on -/
def rints (lo : Int) (n : Nat) : List PyData := (List.range n).map fun (i : Nat) => .int (lo + i)
theorem rints_length (lo : Int) (n : Nat) : (rints lo n).length = n := by unfold rints; rw [List.length_map, List.length_range]
def dRng1 : PyData → Option (List PyData)
  | .int n => if -1000000 ≤ n ∧ n ≤ 1000000 then some (rints 0 n.toNat) else none
  | _ => none
def dRng2 : PyData → PyData → Option (List PyData)
  | .int i, .int j => if -1000000 ≤ i ∧ i ≤ 1000000 ∧ j ≤ 1000000 ∧ -1000000 ≤ j then some (rints i (j - i).toNat) else none
  | _, _ => none
theorem wk_range {K : PySem.W.Frag} {lo : Int} {n : Nat} {H1 : Hp} {P1 : Addr → Prop} : Wk K (rints lo n) (Itr lo n) H1 P1 where
  go := fun H P i l hi => by rw [rints_length] at hi; exact hi
  stop := fun H P l => by rw [rints_length]; exact Nat.le_refl _
  yld := fun H P i x H' l tr hi y => by
    obtain ⟨rfl, rfl⟩ := y
    rw [rints_length] at hi
    exact ⟨Same.refl _, .int (lo + i), by unfold rints; rw [List.getElem?_map, List.getElem?_range hi] <;> rfl, .int _⟩
theorem big1 {n : Nat} (h : n ≤ 2000000) : n ≤ sizeLine := by rw [sizeLine_eq]; omega
theorem wi_range1 {p : Pos} (hm : X.mg "range" = none) (h : ER X o a f) (hg : Gl X "range" := by rfl) (hs : starEach [a] X.env = [(false, eval a X.env)] := by rfl) : WI X o tg (.Call (.Name "range" p) [a] [] pos) (e1 f dRng1) :=
  PI.imp (pi_range1 hg hm (pa_cons h pa_nil hs) hs) fun σ H R ⟨H0, P0, P, ρ, ds, Re, e', q⟩ => by
    obtain ⟨d, ef, eg⟩ := e1_some e'
    refine ⟨H0, P0, P, ρ, _, Re, ef, fun v H1 s1 r1 => ?_⟩
    cases d with
    | int n =>
      have eg : (if -1000000 ≤ n ∧ n ≤ 1000000 then some (rints 0 n.toNat) else none) = some ds := eg
      by_cases hn : -1000000 ≤ n ∧ n ≤ 1000000
      · rw [if_pos hn] at eg
        cases eg
        have e1 := r1.int
        subst e1
        exact ⟨n, rfl, by omega, by omega, q _ _ s1 wk_range (by rw [rints_length]; exact big1 (by omega))⟩
      · rw [if_neg hn] at eg; cases eg
    | _ => cases eg
theorem wi_range2 {p : Pos} (hm : X.mg "range" = none) (ha : ER X o a fa) (hb : ER X o b fb) (hg : Gl X "range" := by rfl) (hs : starEach [a, b] X.env = [(false, eval a X.env), (false, eval b X.env)] := by rfl) (hs2 : starEach [b] X.env = [(false, eval b X.env)] := by rfl) : WI X o tg (.Call (.Name "range" p) [a, b] [] pos) (e2 fa fb dRng2) :=
  PI.imp (pi_range2 hg hm (pa_cons ha (pa_cons hb pa_nil hs2) (by rw [hs, hs2])) hs hs2) fun σ H R ⟨H0, P0, P, ρ, ds, Re, e', q⟩ => by
    obtain ⟨x, y, ea, eb, eg⟩ := e2_some e'
    refine ⟨H0, P0, P, ρ, _, Re, ea, fun v H1 s1 r1 => ⟨H0, P0, P, ρ, _, Re.go s1, eb, fun u H2 s2 r2 => ?_⟩⟩
    cases x with
    | int i =>
      cases y with
      | int j =>
        have eg : (if -1000000 ≤ i ∧ i ≤ 1000000 ∧ j ≤ 1000000 ∧ -1000000 ≤ j then some (rints i (j - i).toNat) else none) = some ds := eg
        by_cases hn : -1000000 ≤ i ∧ i ≤ 1000000 ∧ j ≤ 1000000 ∧ -1000000 ≤ j
        · rw [if_pos hn] at eg
          cases eg
          have e1 := r1.int
          have e2 := r2.int
          subst e1
          subst e2
          exact ⟨i, j, rfl, ⟨by omega, by omega, by omega, by omega⟩, q _ _ (s1.trans s2) wk_range (by rw [rints_length]; exact big1 (by omega))⟩
        · rw [if_neg hn] at eg; cases eg
      | _ => cases eg
    | _ => cases eg

/-! ### for -/
def forGo (tg : PyData → Rho → Option Rho) (body : Rho → Option Fl) (ks : List Nat) : List PyData → Rho → Option Fl
  | [], ρ => some (.nx ρ)
  | d :: ds, ρ => (tg d ρ).bind fun r => (body r).bind fun fl => match fl with
    | .nx r' => forGo tg body ks ds (clr ks r')
    | .ct r' => forGo tg body ks ds (clr ks r')
    | .bk r' => some (.nx (clr ks r'))
    | .rt d => some (.rt d)
    | .rx d r' => some (.rx d r')
    | .ex x => some (.ex x)
    | .rl b => some (.rl b)
def fFor (it : Rho → Option (List PyData)) (tg : PyData → Rho → Option Rho) (ks : List Nat) (body : Rho → Option Fl) : Rho → Option Fl := fun ρ => (it ρ).bind fun ds => forGo tg body ks ds (clr ks ρ)
theorem sv_for {iter : Expr} {body : List Stmt} {it : Rho → Option (List PyData)} {gt : PyData → Rho → Option Rho} {fb : Rho → Option Fl} (ks : List Nat) (hc : X.calm = true) (hi : WI X o tg iter it) (hg : TGt X o tg gt) (hb : SVs X o o o body fb) (hp : PassesOwn (model X.prog X.w) X.A X.env X.xe)
    (hk : ∀ k ∈ ks, k ∉ o := by decide) (hs : ∀ x, foldedSetIterable iter X.env x = pure x := by intro _; rfl) : SV X o o ob (.For tg iter body [] pos) (fFor it gt ks fb) := PS.imp (ps_for hp hc hi hg hb hs) fun D σ H ⟨H0, P0, P, ρ, fl, R, e, q⟩ => by
  unfold fFor at e
  cases ei : it ρ with
  | none => rw [ei] at e; cases e
  | some ds =>
  rw [ei] at e
  have e : forGo gt fb ks ds (clr ks ρ) = some fl := e
  refine ⟨H0, P0, P, ρ, ds, R, ei, fun J H1 s1 wk hz => ?_⟩
  refine ⟨fun i m σ H => m = ds.length - i ∧ i ≤ ds.length ∧ ∃ P' ρ', Rel X.K H0 P0 H P' o σ ρ' ∧ Lt H1 P H P' ∧ forGo gt fb ks (ds.drop i) ρ' = some fl, ⟨_, rfl, Nat.zero_le _, P, _, (R.go s1).clr hk, Lt.refl _ _, e⟩, ?_⟩
  rintro i m σ2 H2 ⟨rfl, hi2, P2, ρ2, R2, l2, e2⟩
  have lt2 : Lt H P H2 P2 := (Lt.same P s1).trans l2
  by_cases hlt : i < ds.length
  · refine .inr ⟨wk.go H2 P2 i l2 hlt, ?_⟩
    rw [List.drop_eq_getElem_cons hlt] at e2
    refine ⟨fun σ' H' => ∃ P' ρ', Rel X.K H0 P0 H' P' o σ' ρ' ∧ Lt H1 P H' P' ∧ forGo gt fb ks (ds.drop (i + 1)) ρ' = some fl, fun σ' H' ⟨P', ρ', r⟩ => ⟨_, (by omega : ds.length - (i + 1) < ds.length - i), rfl, hlt, P', ρ', r⟩, fun x H' y => ?_⟩
    obtain ⟨s3, d, ed, dq⟩ := wk.yld H2 P2 i x H' l2 R2.tr hlt y
    rw [List.getElem?_eq_getElem hlt] at ed
    cases ed
    unfold forGo at e2
    cases et : gt ds[i] ρ2 with
    | none => rw [et] at e2; cases e2
    | some r =>
    rw [et] at e2
    cases eb : fb r with
    | none => simp [eb] at e2
    | some fl1 =>
    simp only [Option.bind_some, eb] at e2
    refine ⟨H0, P0, P2, ρ2, ds[i], r, R2.go s3, dq, et, fun σ3 R3 => ⟨H0, P0, P2, r, fl1, R3, eb, ?_⟩⟩
    have l3 := l2.trans (Lt.same P2 s3)
    cases fl1 with
    | nx r' => exact fun σ' H4 P4 R4 l4 => ⟨P4, _, R4.clr hk, l3.trans l4, e2⟩
    | ct r' => exact fun σ' H4 P4 R4 l4 => ⟨P4, _, R4.clr hk, l3.trans l4, e2⟩
    | bk r' => cases e2; exact fun σ' H4 P4 R4 l4 => q σ' H4 P4 (R4.clr hk) ((lt2.trans (Lt.same P2 s3)).trans l4)
    | rt d => cases e2; exact q
    | rx d r' => cases e2; exact q
    | ex x => cases e2; exact q
    | rl b => cases e2; exact q
  · have ei2 : i = ds.length := by omega
    subst ei2
    refine .inl ⟨wk.stop H2 P2 l2, ?_⟩
    rw [List.drop_length] at e2
    cases e2
    exact q σ2 H2 P2 R2 lt2

/-! ### while -/
def whGo (t : Rho → Option Bool) (body : Rho → Option Fl) (ks : List Nat) : Nat → Rho → Option Fl
  | 0, _ => none
  | n + 1, ρ => (t ρ).bind fun c => if c = true then (body ρ).bind fun fl => (match fl with
      | .nx r' => whGo t body ks n (clr ks r')
      | .ct r' => whGo t body ks n (clr ks r')
      | .bk r' => some (.nx (clr ks r'))
      | .rt d => some (.rt d)
      | .rx d r' => some (.rx d r')
      | .ex x => some (.ex x)
      | .rl b => some (.rl b)) else some (.nx ρ)
def fWhile (n : Nat) (t : Rho → Option Bool) (ks : List Nat) (body : Rho → Option Fl) : Rho → Option Fl := fun ρ => whGo t body ks n (clr ks ρ)
theorem sv_while (n : Nat) {c : Expr} {body : List Stmt} {t : Rho → Option Bool} {fb : Rho → Option Fl} (ks : List Nat) (hc : ET X o c t) (hb : SVs X o o o body fb) (hp : PassesOwn (model X.prog X.w) X.A X.env X.xe)
    (hk : ∀ k ∈ ks, k ∉ o := by decide) : SV X o o ob (.While c body [] pos) (fWhile n t ks fb) := PS.imp (ps_while hp hc hb) fun D σ H ⟨H0, P0, P, ρ, fl, R, e, q⟩ => by
  refine ⟨fun m σ H1 => ∃ P' ρ', Rel X.K H0 P0 H1 P' o σ ρ' ∧ Lt H P H1 P' ∧ whGo t fb ks m ρ' = some fl, ⟨n, P, _, R.clr hk, Lt.refl _ _, e⟩, ?_⟩
  rintro m σ2 H2 ⟨P2, ρ2, R2, l2, e2⟩
  cases m with
  | zero => cases e2
  | succ m =>
  unfold whGo at e2
  cases et : t ρ2 with
  | none => rw [et] at e2; cases e2
  | some k =>
  rw [et] at e2
  simp only [Option.bind_some] at e2
  refine ⟨H0, P0, P2, ρ2, k, R2, et, fun H3 s3 => ?_⟩
  cases k with
  | false =>
    rw [if_neg (by decide)] at e2
    cases e2
    exact iteF (q σ2 H3 P2 (R2.go s3) (l2.trans (Lt.same P2 s3)))
  | true =>
    rw [if_pos rfl] at e2
    refine iteT ⟨fun σ' H' => ∃ P' ρ', Rel X.K H0 P0 H' P' o σ' ρ' ∧ Lt H P H' P' ∧ whGo t fb ks m ρ' = some fl, fun σ' H' r => ⟨m, Nat.lt_succ_self m, r⟩, ?_⟩
    cases eb : fb ρ2 with
    | none => rw [eb] at e2; cases e2
    | some fl1 =>
    rw [eb] at e2
    simp only [Option.bind_some] at e2
    refine ⟨H0, P0, P2, ρ2, fl1, R2.go s3, eb, ?_⟩
    have l3 := l2.trans (Lt.same P2 s3)
    cases fl1 with
    | nx r' => exact fun σ' H4 P4 R4 l4 => ⟨P4, _, R4.clr hk, l3.trans l4, e2⟩
    | ct r' => exact fun σ' H4 P4 R4 l4 => ⟨P4, _, R4.clr hk, l3.trans l4, e2⟩
    | bk r' => cases e2; exact fun σ' H4 P4 R4 l4 => q σ' H4 P4 (R4.clr hk) (l3.trans l4)
    | rt d => cases e2; exact q
    | rx d r' => cases e2; exact q
    | ex x => cases e2; exact q
    | rl b => cases e2; exact q

/-! ### a def -/
def runF (n : Nat) (f : Rho → Option Fl) (ds : List PyData) : Option PyData := (f (ds.map some ++ List.replicate (n - ds.length) none)).bind fun fl => match fl with
  | .rt d => some d
  | .nx _ => some .none
  | _ => none
theorem start_get {vs : List V} {N : List Str} {i : Nat} {v : V} (h : vs[i]? = some v) : (L2.start N vs)[i]? = some (some v) := by
  unfold L2.start
  have hl := (List.getElem?_eq_some_iff.mp h).1
  rw [List.getElem?_append_left (by simpa using hl), List.getElem?_map, h] <;> rfl
theorem fn_F {P : Program} {w : World} {K : PySem.W.Frag} {mg : Str → Option Value} {base : Heap} {k : Nat} {x qual : Str} {st : Stmt} {f : Addr} {fd : FuncData} {N ps : List Str} {o' : List Nat} {fb : Rho → Option Fl} (F : Fun K x qual st f fd) (S : FnScope N ps (defScope st)) (hT : OK.T = [])
    (hbody : ∀ (cdv : Value) (A : Around) (outer : List Env) (s : Shared) (H : Hp) (E : XK), Room k (A.deeper (envOfC qual (defScope st) s.heap.objs.size f cdv)) → SVs (cxOf CX0 P w K mg base N qual (defScope st) f cdv A outer s H E).nox [] o' [] (defBody st) fb) :
    FnOk P w K mg base CX0 (k + 1) f fd ps (spF K ps.length (runF N.length fb)) := by
  refine F.ok S (fun vs H Q E h => h.1) (fun cdv A outer s H vs Q E hr h => ?_)
  obtain ⟨hl, Pr, ds, d, tr, t, e, q⟩ := h
  refine ⟨_, hbody cdv A outer s H E hr, ?_⟩
  unfold runF at e
  cases ef : fb (ds.map some ++ List.replicate (N.length - ds.length) none) with
  | none => rw [ef] at e; cases e
  | some fl =>
  rw [ef] at e
  simp only [Option.bind_some] at e
  have tl := t.length
  refine ⟨H, Pr, Pr, _, fl, ⟨fun a z => z, tr, tr, Same.refl H, fun i hi => absurd hi (by simp), fun i j a b hi => absurd hi (by simp), fun i d' _ h => ?_, ?_, tabs0 hT, fun n => absurd hT n⟩, ef, ?_⟩
  · have hi : i < ds.length := by
      by_cases hi : i < ds.length
      · exact hi
      · rw [List.getElem?_append_right (by simpa using hi), List.getElem?_replicate] at h
        split at h <;> cases h
    rw [List.getElem?_append_left (by simpa using hi), List.getElem?_map] at h
    cases z : ds[i]? with
    | none => rw [z] at h; cases h
    | some d2 =>
      rw [z] at h
      cases h
      obtain ⟨v, h1, h2⟩ := t.get z
      exact ⟨v, start_get h1, h2⟩
  · unfold L2.start
    rw [List.length_append, List.length_append, List.length_map, List.length_map, List.length_replicate, List.length_replicate, tl]
  · cases fl with
    | rt d' => cases e; exact fun v H' s t => q v H' s t
    | nx r => cases e; exact fun σ' H' P' R l => q .non H' R.same .non
    | bk r => cases e
    | ct r => cases e
    | rx d r => cases e
    | ex x => cases e
    | rl b => cases e
end
end TF

/-! TFf.lean -/
set_option Elab.async false
set_option linter.all false
set_option maxRecDepth 100000
/-! TF.f: list comprehensions -/
namespace TF
open PySem PySem.Spec PyProof.Rows L2
variable [OK : OwnK]

def lcGo (tg : PyData → Rho → Option Rho) (tt : Rho → Option Bool) (el : Rho → Option PyData) (ρ : Rho) : List PyData → Option (List PyData)
  | [] => some []
  | d :: ds => (tg d ρ).bind fun r => (tt r).bind fun c => if c = true then (el r).bind fun y => (lcGo tg tt el ρ ds).bind fun ys => some (y :: ys) else lcGo tg tt el ρ ds
def eLc (it : Rho → Option (List PyData)) (tg : PyData → Rho → Option Rho) (tt : Rho → Option Bool) (el : Rho → Option PyData) : Rho → Option (List PyData) := fun ρ => (it ρ).bind fun ds => lcGo tg tt el ρ ds
def tYs : Rho → Option Bool := fun _ => some true

section
variable {K : PySem.W.Frag} {H0 H H' : Hp} {P0 P : Addr → Prop} {o : List Nat} {σ : St} {ρ : Rho}
/-- one more is private -/
theorem Rel.priv (R : Rel K H0 P0 H P o σ ρ) (e : Same H H') {p : Addr} {u : List V} (n : H p = none) (hp : H' p = some (.lst u)) : Rel K H0 P0 H' (fun a => a = p ∨ P a) o σ ρ := by
  have lt : Lt H P H' (fun a => a = p ∨ P a) := fun a u h hn _ => ⟨e a u h, by
    rintro (rfl | z)
    · rw [n] at h; cases h
    · exact hn z⟩
  refine ⟨fun a h => .inr (R.sub a h), R.tr0, ?_, R.same.trans e, fun j hj => ?_, R.dis, fun j d hj h => ?_, R.len, R.tab.ext e, fun n => ⟨(R.tp n).1, ?_⟩⟩
  · rintro a (rfl | h)
    · exact ⟨_, hp⟩
    · obtain ⟨u, hu⟩ := R.tr a h
      exact ⟨u, e a u hu⟩
  · obtain ⟨b, u', es, h1, h2, h3, h4, h5, h6⟩ := R.own j hj
    exact ⟨b, u', es, h1, h2, .inr h3, h4, e _ _ h5, h6.mono lt⟩
  · obtain ⟨v, h1, h2⟩ := R.dat j d hj h
    exact ⟨v, h1, h2.mono lt⟩
  · rintro a (rfl | z) ps q
    · rw [hp] at q; cases q
    · obtain ⟨w, hw⟩ := R.tr a z
      have := e a w hw
      rw [q] at this; cases this
      exact (R.tp n).2 a z ps hw
/-- a comprehension's target -/
def CT (K : PySem.W.Frag) (o : List Nat) (vs : List Nat) (g : TG) (gt : PyData → Rho → Option Rho) : Prop :=
  ∀ {H0 H : Hp} {P0 P : Addr → Prop} {σ : St} {ρ ρ' : Rho} {v : V} {d : PyData} (Q : St → Hp → Prop), Rel K H0 P0 H P o σ ρ → Dq K H P v d → gt d ρ = some ρ' →
    (∀ σ2, Rel K H0 P0 H P o σ2 ρ' → wipe σ2 vs = wipe σ vs → Q σ2 H) → g v (wipe σ vs) H Q
theorem ct_1 (i : Nat) (hi : i ∉ o := by decide) : CT K o [i] (gName i) (g1 i) := by
  intro H0 H P0 P σ ρ ρ' v d Q R t e q
  cases e
  refine q _ ?_ ?_
  · have e : (wipe σ [i]).set i (some v) = σ.set i (some v) := by simp [wipe]
    rw [e]
    exact R.set hi t
  · simp [wipe]
theorem ct_2 (i j : Nat) (hij : i ≠ j := by decide) (hi : i ∉ o := by decide) (hj : j ∉ o := by decide) : CT K o [i, j] (gTup K 2 (gCons (gName i) (gCons (gName j) gNil))) (g2 i j) := by
  intro H0 H P0 P σ ρ ρ' v d Q R t e q
  obtain ⟨x, y, rfl, rfl⟩ := g2_some e
  obtain ⟨a, u, w, rfl, hs, h1, h2⟩ := tup2 t
  refine ⟨a, [u, w], rfl, hs, rfl, u, [w], rfl, w, [], rfl, rfl, q _ ?_ ?_⟩
  · have e : ((wipe σ [i, j]).set i (some u)).set j (some w) = (σ.set i (some u)).set j (some w) := by
      apply List.ext_getElem?
      intro n
      simp only [wipe, List.getElem?_set, List.length_set]
      by_cases a1 : j = n <;> by_cases a2 : i = n <;> simp [a1, a2]
    rw [e]
    exact (R.set hi h1).set hj h2
  · apply List.ext_getElem?
    intro n
    simp only [wipe, List.getElem?_set, List.length_set]
    by_cases a1 : j = n <;> by_cases a2 : i = n <;> simp [a1, a2]
theorem ct_3 (i j k : Nat) (hij : i ≠ j := by decide) (hik : i ≠ k := by decide) (hjk : j ≠ k := by decide) (hi : i ∉ o := by decide) (hj : j ∉ o := by decide) (hk : k ∉ o := by decide) : CT K o [i, j, k] (gTup K 3 (gCons (gName i) (gCons (gName j) (gCons (gName k) gNil)))) (g3 i j k) := by
  intro H0 H P0 P σ ρ ρ' v d Q R t e q
  obtain ⟨x, y, z, rfl, rfl⟩ := g3_some e
  obtain ⟨a, u, w, r, rfl, hs, h1, h2, h3⟩ := tup3 t
  refine ⟨a, [u, w, r], rfl, hs, rfl, u, [w, r], rfl, w, [r], rfl, r, [], rfl, rfl, q _ ?_ ?_⟩
  · have e : (((wipe σ [i, j, k]).set i (some u)).set j (some w)).set k (some r) = ((σ.set i (some u)).set j (some w)).set k (some r) := by
      apply List.ext_getElem?
      intro n
      simp only [wipe, List.getElem?_set, List.length_set]
      by_cases a1 : j = n <;> by_cases a2 : i = n <;> by_cases a3 : k = n <;> simp [a1, a2, a3]
    rw [e]
    exact ((R.set hi h1).set hj h2).set hk h3
  · apply List.ext_getElem?
    intro n
    simp only [wipe, List.getElem?_set, List.length_set]
    by_cases a1 : j = n <;> by_cases a2 : i = n <;> by_cases a3 : k = n <;> simp [a1, a2, a3]
theorem lc_of {vs : List Nat} {g : TG} {gt : PyData → Rho → Option Rho} {it : Rho → Option (List PyData)} {tt : Rho → Option Bool} {el : Rho → Option PyData} {Q : VK} (ct : CT K o vs g gt) (h : tN K o (eLc it gt tt el) σ H Q) :
    tLc (tI K o it) g (tT K o tt) (tV K o el) vs σ H Q := by
  obtain ⟨H0, P0, P, ρ, res, R, e, q⟩ := h
  unfold eLc at e
  cases ei : it ρ with
  | none => rw [ei] at e; cases e
  | some ds =>
  rw [ei] at e
  have e : lcGo gt tt el ρ ds = some res := e
  refine ⟨H0, P0, P, ρ, ds, R, ei, fun J H1 s1 wk hz D hD => ?_⟩
  have hD0 : H D = none := s1.free hD
  refine ⟨fun i m Hc => m = ds.length - i ∧ i ≤ ds.length ∧ ∃ acc accd rest, Hc D = some (.lst acc) ∧ DqA K Hc (fun a => a = D ∨ P a) acc accd ∧ lcGo gt tt el ρ (ds.drop i) = some rest ∧ accd ++ rest = res ∧ acc.length ≤ i ∧ Same H1 Hc,
    ⟨_, rfl, Nat.zero_le _, [], [], res, upd_same, .nil, e, rfl, Nat.le_refl _, same_upd hD _⟩, ?_⟩
  rintro i m Hc ⟨rfl, hi, acc, accd, rest, hDc, hacc, er, hres, hlen, sc⟩
  have lt : Lt H1 P Hc (fun a => a = D ∨ P a) := fun a u h hn _ => ⟨sc a u h, by
    rintro (rfl | z)
    · rw [hD] at h; cases h
    · exact hn z⟩
  have Rc : Rel K H0 P0 Hc (fun a => a = D ∨ P a) o σ ρ := R.priv (s1.trans sc) hD0 hDc
  by_cases hlt : i < ds.length
  · refine .inr ⟨wk.go Hc _ i lt hlt, ?_⟩
    rw [List.drop_eq_getElem_cons hlt] at er
    unfold lcGo at er
    refine ⟨fun H' => ∃ acc accd rest, H' D = some (.lst acc) ∧ DqA K H' (fun a => a = D ∨ P a) acc accd ∧ lcGo gt tt el ρ (ds.drop (i + 1)) = some rest ∧ accd ++ rest = res ∧ acc.length ≤ i + 1 ∧ Same H1 H',
      fun H' r => ⟨_, (by omega : ds.length - (i + 1) < ds.length - i), rfl, hlt, r⟩, fun x H' y => ?_⟩
    obtain ⟨s3, d, ed, dq⟩ := wk.yld Hc _ i x H' lt Rc.tr hlt y
    rw [List.getElem?_eq_getElem hlt] at ed
    cases ed
    cases et : gt ds[i] ρ with
    | none => rw [et] at er; cases er
    | some r =>
    rw [et] at er
    cases ett : tt r with
    | none => simp [ett] at er
    | some c =>
    simp only [Option.bind_some, ett] at er
    refine ct _ (Rc.go s3) dq et fun σ2 R2 hw => ⟨hw, H0, P0, _, r, c, R2, ett, fun H4 s4 => ?_⟩
    cases c with
    | false =>
      rw [if_neg (by decide)] at er
      exact iteF ⟨acc, accd, rest, s4 _ _ (s3 _ _ hDc), hacc.same (s3.trans s4), er, hres, by omega, sc.trans (s3.trans s4)⟩
    | true =>
      rw [if_pos rfl] at er
      cases eel : el r with
      | none => rw [eel] at er; cases er
      | some yd =>
      rw [eel] at er
      simp only [Option.bind_some] at er
      cases ego : lcGo gt tt el ρ (ds.drop (i + 1)) with
      | none => rw [ego] at er; cases er
      | some ys =>
      rw [ego] at er
      cases er
      refine iteT ⟨H0, P0, _, r, yd, R2.go s4, eel, fun v H5 s5 t => ?_⟩
      have s35 := s3.trans (s4.trans s5)
      have ltu : Lt H5 (fun a => a = D ∨ P a) (upd H5 D (.lst (acc ++ [v]))) (fun a => a = D ∨ P a) := fun c u h n _ => ⟨by rw [upd_ne (fun z => n (.inl z))]; exact h, n⟩
      refine ⟨acc, s35 _ _ hDc, by omega, acc ++ [v], accd ++ [yd], ys, upd_same, ((hacc.same s35).append (.cons t .nil)).mono ltu, rfl, by rw [List.append_assoc]; exact hres, by rw [List.length_append, List.length_singleton]; omega, fun c u h => ?_⟩
      rw [upd_ne (ne_of_none h hD)]
      exact (sc.trans s35) c u h
  · have ei2 : i = ds.length := by omega
    subst ei2
    refine .inl ⟨wk.stop Hc _ lt, ?_⟩
    rw [List.drop_length] at er
    cases er
    rw [List.append_nil] at hres
    subst hres
    exact q D acc Hc (s1.trans sc) hD0 hDc hacc
end
section
variable {X : Cx} {o ob : List Nat} {elt tg iter : Expr} {ifs : List Expr} {scope : Scope} {pos : Pos} {it : Rho → Option (List PyData)} {gt : PyData → Rho → Option Rho} {tt : Rho → Option Bool} {el : Rho → Option PyData} {g : TG}
theorem PTs.imp {X : Cx} {ifs : List Expr} {t t' : TT} (h : PTs X ifs t) (i : ∀ σ H Q, t' σ H Q → t σ H Q) : PTs X ifs t' := ⟨fun pins s σ H Q I q => h.run pins s σ H Q I (i σ H Q q)⟩
theorem ets_nil {X : Cx} : PTs X [] (tT X.K o tYs) := PTs.imp pts_nil fun σ H Q ⟨H0, P0, P, ρ, d, R, e, q⟩ => by cases e; exact q H (Same.refl H)
theorem ets_one {X : Cx} {c : Expr} (h : ET X o c tt) : PTs X [c] (tT X.K o tt) := pts_one h
theorem en_lc (own : List (Str × Nat)) (hc : X.calm = true) (hN : X.N.Nodup) (hi : WI X o tg iter it) (ct : CT X.K o (own.map (·.2)) g gt)
    (ok : BlkOk X.N X.env.scope scope own)
    (hg : ∀ (s : Shared) (H : Hp) (C : Addr) (cl : List (Str × Addr)) (fp : List Addr), PG (X.blk s H scope (compEnvC scope cl C X.env) fp) tg g) (ht : ∀ (s : Shared) (H : Hp) (C : Addr) (cl : List (Str × Addr)) (fp : List Addr), PTs (X.blk s H scope (compEnvC scope cl C X.env) fp) ifs (tT X.K o tt))
    (he : ∀ (s : Shared) (H : Hp) (C : Addr) (cl : List (Str × Addr)) (fp : List Addr), EV (X.blk s H scope (compEnvC scope cl C X.env) fp) o elt el) (hs : ∀ x, foldedSetIterable iter X.env x = pure x := by intro _; rfl) :
    EN X o (.ListComp elt [⟨tg, iter, ifs, 0⟩] scope pos) (eLc it gt tt el) := PE.imp (pe_lc hc hN hi ok hg ht he hs) fun σ H Q h => lc_of ct h
/-- y = [..], y one's own then -/
theorem sv_ownLc (i : Nat) (own : List (Str × Nat)) {y : Str} {py : Pos} {spos : Pos} (hc : X.calm = true) (hN : X.N.Nodup) (hi : WI X o tg iter it) (ct : CT X.K o (own.map (·.2)) g gt)
    (ok : BlkOk X.N X.env.scope scope own)
    (hg : ∀ (s : Shared) (H : Hp) (C : Addr) (cl : List (Str × Addr)) (fp : List Addr), PG (X.blk s H scope (compEnvC scope cl C X.env) fp) tg g) (ht : ∀ (s : Shared) (H : Hp) (C : Addr) (cl : List (Str × Addr)) (fp : List Addr), PTs (X.blk s H scope (compEnvC scope cl C X.env) fp) ifs (tT X.K o tt))
    (he : ∀ (s : Shared) (H : Hp) (C : Addr) (cl : List (Str × Addr)) (fp : List Addr), EV (X.blk s H scope (compEnvC scope cl C X.env) fp) o elt el)
    (hsw : swapsWith (.ListComp elt [⟨tg, iter, ifs, 0⟩] scope pos) (some (.Name y py)) spos.line X.env = pure true) (hio : i ∉ o := by decide) (hy : X.N[i]? = some y := by rfl) (hyl : X.env.scope.names.lookup y = some .local := by rfl) (hs : ∀ x, foldedSetIterable iter X.env x = pure x := by intro _; rfl) :
    SV X o (i :: o) ob (.Assign [.Name y py] (.ListComp elt [⟨tg, iter, ifs, 0⟩] scope pos) spos) (fOwn i (eLc it gt tt el)) := PS.imp (ps_setLc hc hN hy hyl hsw hi ok hg ht he hs) fun D σ H h => by
  have h' := own_of hio h
  exact lc_of ct h'
end
end TF

/-! TFg.lean -/
set_option Elab.async false
set_option linter.all false
set_option maxRecDepth 100000
/-! TF.g: operators and built-ins on data -/
namespace TF
open PySem PySem.Spec PyProof.Rows L2
variable [OK : OwnK]

section
variable {X : Cx}
/-! ### + -/
def dAdd : PyData → PyData → Option PyData
  | .int i, .int j => some (.int (i + j))
  | .str a, .str b => if a.length + b.length ≤ sizeLine then some (.str (a ++ b)) else none
  | .tuple xs, .tuple ys => if xs.length + ys.length ≤ sizeLine then some (.tuple (xs ++ ys)) else none
  | _, _ => none
theorem opF_add : OpR X (binaryOp .Add) (rF X.K dAdd) := OpR.imp (op_add.or (op_add_str.or op_catF)) fun x y H Q ⟨P, dx, dy, d, tr, rx, ry, e, q⟩ => by
  have np : ∀ {p : Addr}, H p = none → ¬ P p := fun h z => by obtain ⟨u, hu⟩ := tr _ z; rw [h] at hu; cases hu
  unfold dAdd at e
  split at e
  · cases e
    exact .inl ⟨_, _, rx.int, ry.int, q _ H (Same.refl H) (.int _)⟩
  · rename_i a b
    by_cases hz : a.length + b.length ≤ sizeLine
    · rw [if_pos hz] at e; cases e
      exact .inr (.inl ⟨_, _, rx.str, ry.str, hz, q _ H (Same.refl H) (.str _)⟩)
    · rw [if_neg hz] at e; cases e
  · rename_i xs ys
    by_cases hz : xs.length + ys.length ≤ sizeLine
    · rw [if_pos hz] at e; cases e
      have qx := rx.tupQ
      have qy := ry.tupQ
      obtain ⟨a, us, rfl, hs, t⟩ := rx.tup
      obtain ⟨b, ws, rfl, hs2, t2⟩ := ry.tup
      refine .inr (.inr ⟨a, b, us, ws, rfl, rfl, hs, hs2, by rw [t.length, t2.length]; exact hz, fun h => ?_, fun _ h => ?_, fun _ _ p its hp => ?_⟩)
      · have : xs = [] := t.nil_iff.mp h
        subst this
        exact q _ H (Same.refl H) qy
      · have : ys = [] := t2.nil_iff.mp h
        subst this
        rw [List.append_nil] at q
        exact q _ H (Same.refl H) qx
      · exact q _ _ (same_upd hp _) (.tup upd_same (np hp) ((t.append t2).same (same_upd hp _)))
    · rw [if_neg hz] at e; cases e
  · cases e
theorem newDq {K : PySem.W.Frag} {H : Hp} {P : Addr → Prop} {p : Addr} {u : HO} {vs : List V} {ds : List PyData} (hp : H p = none) (t : DqA K H P vs ds) : DqA K (upd H p u) (fun a => a = p ∨ P a) vs ds := t.mono fun a w h n _ => ⟨same_upd hp u a w h, by
  rintro (rfl | z)
  · rw [hp] at h; cases h
  · exact n z⟩
def dAddL : PyData → PyData → Option (List PyData)
  | .list xs, .list ys => if xs.length + ys.length ≤ sizeLine then some (xs ++ ys) else none
  | _, _ => none
theorem opF_addL : OpR X (binaryOp .Add) (rFN X.K dAddL) := OpR.imp op_cat fun x y H Q ⟨P, dx, dy, d, tr, rx, ry, e, q⟩ => by
  unfold dAddL at e
  split at e
  · rename_i xs ys
    by_cases hz : xs.length + ys.length ≤ sizeLine
    · rw [if_pos hz] at e; cases e
      obtain ⟨a, us, rfl, hs, t⟩ := rx.lst
      obtain ⟨b, ws, rfl, hs2, t2⟩ := ry.lst
      exact ⟨a, b, us, ws, rfl, rfl, hs, hs2, by rw [t.length, t2.length]; exact hz, fun p hp => q p _ _ (same_upd hp _) hp upd_same (newDq hp (t.append t2))⟩
    · rw [if_neg hz] at e; cases e
  · cases e
/-! ### - * // % of ints -/
def dSub : PyData → PyData → Option PyData
  | .int i, .int j => some (.int (i - j))
  | _, _ => none
theorem opF_sub : OpR X (binaryOp .Sub) (rF X.K dSub) := OpR.imp op_sub fun x y H Q ⟨P, dx, dy, d, tr, rx, ry, e, q⟩ => by
  unfold dSub at e
  split at e
  · cases e; exact ⟨_, _, rx.int, ry.int, q _ H (Same.refl H) (.int _)⟩
  · cases e
def dMul : PyData → PyData → Option PyData
  | .int i, .int j => if (-(2 ^ 64) < i ∧ i < 2 ^ 64) ∨ (-(2 ^ 64) < j ∧ j < 2 ^ 64) then some (.int (i * j)) else none
  | _, _ => none
theorem opF_mul : OpR X (binaryOp .Mult) (rF X.K dMul) := OpR.imp op_mul fun x y H Q ⟨P, dx, dy, d, tr, rx, ry, e, q⟩ => by
  unfold dMul at e
  split at e
  · rename_i i j
    by_cases hz : (-(2 ^ 64) < i ∧ i < 2 ^ 64) ∨ (-(2 ^ 64) < j ∧ j < 2 ^ 64)
    · rw [if_pos hz] at e; cases e
      exact ⟨_, _, rx.int, ry.int, hz, q _ H (Same.refl H) (.int _)⟩
    · rw [if_neg hz] at e; cases e
  · cases e
def dDiv : PyData → PyData → Option PyData
  | .int i, .int j => if 0 < j ∧ j < 1073741824 then some (.int (i / j)) else none
  | _, _ => none
theorem opF_div : OpR X (binaryOp .FloorDiv) (rF X.K dDiv) := OpR.imp op_fdiv fun x y H Q ⟨P, dx, dy, d, tr, rx, ry, e, q⟩ => by
  unfold dDiv at e
  split at e
  · rename_i i j
    by_cases hz : 0 < j ∧ j < 1073741824
    · rw [if_pos hz] at e; cases e
      exact ⟨_, _, rx.int, ry.int, hz, q _ H (Same.refl H) (.int _)⟩
    · rw [if_neg hz] at e; cases e
  · cases e
def dMod : PyData → PyData → Option PyData
  | .int i, .int j => if 0 < j then some (.int (i % j)) else none
  | _, _ => none
theorem opF_mod : OpR X (binaryOp .Mod) (rF X.K dMod) := OpR.imp op_mod fun x y H Q ⟨P, dx, dy, d, tr, rx, ry, e, q⟩ => by
  unfold dMod at e
  split at e
  · rename_i i j
    by_cases hz : 0 < j
    · rw [if_pos hz] at e; cases e
      exact ⟨_, _, rx.int, ry.int, hz, q _ H (Same.refl H) (.int _)⟩
    · rw [if_neg hz] at e; cases e
  · cases e
/-! ### comparisons -/
/-- no dict within, not too deep -/
def pl (d : PyData) : Bool := d.plain && decide (d.depth ≤ 64)
theorem pl_plain {d : PyData} (h : pl d = true) : d.plain = true := (Bool.and_eq_true_iff.mp h).1
theorem pl_depth {d : PyData} (h : pl d = true) : d.depth ≤ 64 := of_decide_eq_true (Bool.and_eq_true_iff.mp h).2
def dEq : PyData → PyData → Option Bool := fun d e => if pl d = true ∧ pl e = true then some (PyData.eqv d e) else none
def dNe : PyData → PyData → Option Bool := fun d e => if pl d = true ∧ pl e = true then some (!PyData.eqv d e) else none
def rCmpD (K : PySem.W.Frag) (g : PyData → PyData → Bool) (C : PyData → PyData → Prop) : R2 := fun x y H Q => ∃ d e, Dp K H x d ∧ Dp K H y e ∧ pl d = true ∧ pl e = true ∧ C d e ∧ Q (.bl (g d e)) H
theorem room_min {A : Around} {d e : PyData} (hu : A.units + 64 < cLine) (h : pl d = true) : A.units + min d.depth e.depth < cLine := by
  have := pl_depth h
  omega
theorem op_eqP (hu : X.A.units + 64 < cLine) : OpR X (compareOp .Eq) (rCmpD X.K PyData.eqv fun _ _ => True) := by
  intro pins s σ H x y v u Q I rx ry ⟨d, e, hd, he, sd, se, _, q⟩
  obtain ⟨as, r1⟩ := Dp.reads I d x v hd rx
  obtain ⟨bs, r2⟩ := Dp.reads I e y u he ry
  exact SeqAt.eq_plain r1 r2 (pl_plain sd) (pl_plain se) (room_min hu sd) ⟨.bl _, H, I, rfl, q⟩
theorem op_neP (hu : X.A.units + 64 < cLine) : OpR X (compareOp .NotEq) (rCmpD X.K (fun d e => !PyData.eqv d e) fun _ _ => True) := by
  intro pins s σ H x y v u Q I rx ry ⟨d, e, hd, he, sd, se, _, q⟩
  obtain ⟨as, r1⟩ := Dp.reads I d x v hd rx
  obtain ⟨bs, r2⟩ := Dp.reads I e y u he ry
  exact SeqAt.ne_plain r1 r2 (pl_plain sd) (pl_plain se) (room_min hu sd) ⟨.bl _, H, I, rfl, q⟩
theorem op_ltP (hu : X.A.units + 64 < cLine) : OpR X (compareOp .Lt) (rCmpD X.K PySem.W.dataLt fun d e => PySem.W.alike d e = true ∧ d ≠ .none) := by
  intro pins s σ H x y v u Q I rx ry ⟨d, e, hd, he, sd, se, c, q⟩
  obtain ⟨as, r1⟩ := Dp.reads I d x v hd rx
  obtain ⟨bs, r2⟩ := Dp.reads I e y u he ry
  exact PySem.W.lt_data r1 r2 c.1 c.2 (room_min hu sd) ⟨.bl _, H, I, rfl, q⟩
theorem opF_eq (hu : X.A.units + 64 < cLine) : OpR X (compareOp .Eq) (rFB X.K dEq) := OpR.imp (op_eqP hu) fun x y H Q ⟨P, dx, dy, d, tr, rx, ry, e, q⟩ => by
  unfold dEq at e
  by_cases hz : pl dx = true ∧ pl dy = true
  · rw [if_pos hz] at e; cases e
    exact ⟨dx, dy, rx.dp (pl_plain hz.1), ry.dp (pl_plain hz.2), hz.1, hz.2, trivial, q⟩
  · rw [if_neg hz] at e; cases e
theorem opF_ne (hu : X.A.units + 64 < cLine) : OpR X (compareOp .NotEq) (rFB X.K dNe) := OpR.imp (op_neP hu) fun x y H Q ⟨P, dx, dy, d, tr, rx, ry, e, q⟩ => by
  unfold dNe at e
  by_cases hz : pl dx = true ∧ pl dy = true
  · rw [if_pos hz] at e; cases e
    exact ⟨dx, dy, rx.dp (pl_plain hz.1), ry.dp (pl_plain hz.2), hz.1, hz.2, trivial, q⟩
  · rw [if_neg hz] at e; cases e
def ltS (a b : Str) : Bool := decide (a.cps.toList < b.cps.toList)
def dLt : PyData → PyData → Option Bool
  | .int i, .int j => some (decide (i < j))
  | .str a, .str b => some (ltS a b)
  | _, _ => none
def dLe : PyData → PyData → Option Bool
  | .int i, .int j => some (decide (i ≤ j))
  | .str a, .str b => some (!ltS b a)
  | _, _ => none
def dGt : PyData → PyData → Option Bool
  | .int i, .int j => some (decide (j < i))
  | .str a, .str b => some (ltS b a)
  | _, _ => none
def dGe : PyData → PyData → Option Bool
  | .int i, .int j => some (decide (j ≤ i))
  | .str a, .str b => some (!ltS a b)
  | _, _ => none
theorem opF_lt : OpR X (compareOp .Lt) (rFB X.K dLt) := OpR.imp (op_lt.or op_lt_str) fun x y H Q ⟨P, dx, dy, d, tr, rx, ry, e, q⟩ => by
  unfold dLt at e
  split at e
  · cases e; exact .inl ⟨_, _, rx.int, ry.int, q⟩
  · cases e; exact .inr ⟨_, _, rx.str, ry.str, q⟩
  · cases e
theorem opF_le : OpR X (compareOp .LtE) (rFB X.K dLe) := OpR.imp (op_le.or op_le_str) fun x y H Q ⟨P, dx, dy, d, tr, rx, ry, e, q⟩ => by
  unfold dLe at e
  split at e
  · cases e; exact .inl ⟨_, _, rx.int, ry.int, q⟩
  · cases e; exact .inr ⟨_, _, rx.str, ry.str, q⟩
  · cases e
theorem opF_gt : OpR X (compareOp .Gt) (rFB X.K dGt) := OpR.imp (op_gt.or op_gt_str) fun x y H Q ⟨P, dx, dy, d, tr, rx, ry, e, q⟩ => by
  unfold dGt at e
  split at e
  · cases e; exact .inl ⟨_, _, rx.int, ry.int, q⟩
  · cases e; exact .inr ⟨_, _, rx.str, ry.str, q⟩
  · cases e
theorem opF_ge : OpR X (compareOp .GtE) (rFB X.K dGe) := OpR.imp (op_ge.or op_ge_str) fun x y H Q ⟨P, dx, dy, d, tr, rx, ry, e, q⟩ => by
  unfold dGe at e
  split at e
  · cases e; exact .inl ⟨_, _, rx.int, ry.int, q⟩
  · cases e; exact .inr ⟨_, _, rx.str, ry.str, q⟩
  · cases e
/-! ### in -/
theorem op_inLT (hu : X.A.units + 65 < cLine) : OpR X (compareOp .In) (fun x y H Q => ∃ d e ds, Dp X.K H x d ∧ Dp X.K H y e ∧ (e = .list ds ∨ e = .tuple ds) ∧ pl d = true ∧ pl e = true ∧ Q (.bl (ds.any fun z => PyData.eqv z d)) H) := by
  intro pins s σ H x y v u Q I rx ry ⟨d, e, ds, hd, he, ee, sd, se, q⟩
  obtain ⟨as, r1⟩ := Dp.reads I d x v hd rx
  obtain ⟨bs, r2⟩ := Dp.reads I e y u he ry
  have hd64 := pl_depth sd
  rcases ee with rfl | rfl
  · exact SeqAt.in_list_data r2 r1 (by simpa only [PyData.plain] using pl_plain se) (pl_plain sd) (by omega) ⟨.bl _, H, I, rfl, q⟩
  · exact SeqAt.in_tuple_data r2 r1 (by simpa only [PyData.plain] using pl_plain se) (pl_plain sd) (by omega) ⟨.bl _, H, I, rfl, q⟩
theorem op_notInLT (hu : X.A.units + 65 < cLine) : OpR X (compareOp .NotIn) (fun x y H Q => ∃ d e ds, Dp X.K H x d ∧ Dp X.K H y e ∧ (e = .list ds ∨ e = .tuple ds) ∧ pl d = true ∧ pl e = true ∧ Q (.bl (!ds.any fun z => PyData.eqv z d)) H) := by
  intro pins s σ H x y v u Q I rx ry ⟨d, e, ds, hd, he, ee, sd, se, q⟩
  obtain ⟨as, r1⟩ := Dp.reads I d x v hd rx
  obtain ⟨bs, r2⟩ := Dp.reads I e y u he ry
  have hd64 := pl_depth sd
  rcases ee with rfl | rfl
  · exact SeqAt.notIn_list_data r2 r1 (by simpa only [PyData.plain] using pl_plain se) (pl_plain sd) (by omega) ⟨.bl _, H, I, rfl, q⟩
  · exact SeqAt.notIn_tuple_data r2 r1 (by simpa only [PyData.plain] using pl_plain se) (pl_plain sd) (by omega) ⟨.bl _, H, I, rfl, q⟩
def dIn : PyData → PyData → Option Bool
  | d, .list ds => if pl d = true ∧ pl (.list ds) = true then some (ds.any fun z => PyData.eqv z d) else none
  | d, .tuple ds => if pl d = true ∧ pl (.tuple ds) = true then some (ds.any fun z => PyData.eqv z d) else none
  | .str a, .str b => if a.cps.size = 1 then some (decide (a.cps.getD 0 0 ∈ b.cps.toList)) else none
  | _, _ => none
def dNotIn : PyData → PyData → Option Bool := fun x y => (dIn x y).map (!·)
theorem sign1 {a : Str} (h : a.cps.size = 1) : a = ⟨#[a.cps.getD 0 0]⟩ := by
  obtain ⟨⟨l⟩⟩ := a
  match l, h with
  | [c], _ => rfl
theorem opF_in (hu : X.A.units + 65 < cLine) : OpR X (compareOp .In) (rFB X.K dIn) := OpR.imp ((op_inLT hu).or op_in_sign) fun x y H Q ⟨P, dx, dy, d, tr, rx, ry, e, q⟩ => by
  unfold dIn at e
  split at e
  · rename_i dx2 ds
    by_cases hz : pl dx = true ∧ pl (.list ds) = true
    · rw [if_pos hz] at e; cases e
      exact .inl ⟨dx, _, ds, rx.dp (pl_plain hz.1), ry.dp (pl_plain hz.2), .inl rfl, hz.1, hz.2, q⟩
    · rw [if_neg hz] at e; cases e
  · rename_i dx2 ds
    by_cases hz : pl dx = true ∧ pl (.tuple ds) = true
    · rw [if_pos hz] at e; cases e
      exact .inl ⟨dx, _, ds, rx.dp (pl_plain hz.1), ry.dp (pl_plain hz.2), .inr rfl, hz.1, hz.2, q⟩
    · rw [if_neg hz] at e; cases e
  · rename_i a b
    by_cases hz : a.cps.size = 1
    · rw [if_pos hz] at e; cases e
      exact .inr ⟨_, b, by rw [rx.str]; exact congrArg V.str (sign1 hz), ry.str, q⟩
    · rw [if_neg hz] at e; cases e
  · cases e
theorem opF_notIn (hu : X.A.units + 65 < cLine) : OpR X (compareOp .NotIn) (rFB X.K dNotIn) := OpR.imp ((op_notInLT hu).or op_notIn_sign) fun x y H Q ⟨P, dx, dy, d, tr, rx, ry, e, q⟩ => by
  unfold dNotIn dIn at e
  split at e
  · rename_i dx2 ds
    by_cases hz : pl dx = true ∧ pl (.list ds) = true
    · rw [if_pos hz] at e; cases e
      exact .inl ⟨dx, _, ds, rx.dp (pl_plain hz.1), ry.dp (pl_plain hz.2), .inl rfl, hz.1, hz.2, q⟩
    · rw [if_neg hz] at e; cases e
  · rename_i dx2 ds
    by_cases hz : pl dx = true ∧ pl (.tuple ds) = true
    · rw [if_pos hz] at e; cases e
      exact .inl ⟨dx, _, ds, rx.dp (pl_plain hz.1), ry.dp (pl_plain hz.2), .inr rfl, hz.1, hz.2, q⟩
    · rw [if_neg hz] at e; cases e
  · rename_i a b
    by_cases hz : a.cps.size = 1
    · rw [if_pos hz] at e; cases e
      exact .inr ⟨_, b, by rw [rx.str]; exact congrArg V.str (sign1 hz), ry.str, q⟩
    · rw [if_neg hz] at e; cases e
  · cases e
/-! ### is None -/
def dIsN : PyData → PyData → Option Bool
  | .none, .none => some true
  | .dict _, .none => none
  | _, .none => some false
  | _, _ => none
theorem opF_is : OpR X (compareOp .Is) (rFB X.K dIsN) := OpR.imp op_isN fun x y H Q ⟨P, dx, dy, d, tr, rx, ry, e, q⟩ => by
  unfold dIsN at e
  split at e
  · cases e
    have := rx.non
    subst this
    exact ⟨ry.non, q⟩
  · cases e
  · rename_i h1 h
    cases e
    refine ⟨ry.non, ?_⟩
    have : ¬ x = V.non := fun z => by
      subst z
      rcases rx with rx | ⟨_, _, _, z, _⟩
      · cases rx with
        | non => exact h1 rfl
        | jnk x => exact h _ rfl
      · cases z
    rw [decide_eq_false this]
    exact q
  · cases e
def dIsNotN : PyData → PyData → Option Bool := fun x y => (dIsN x y).map (!·)
theorem opF_isNot : OpR X (compareOp .IsNot) (rFB X.K dIsNotN) := OpR.imp op_notN fun x y H Q ⟨P, dx, dy, d, tr, rx, ry, e, q⟩ => by
  unfold dIsNotN dIsN at e
  split at e
  · cases e
    have := rx.non
    subst this
    exact ⟨ry.non, q⟩
  · cases e
  · rename_i h1 h
    cases e
    refine ⟨ry.non, ?_⟩
    have : ¬ x = V.non := fun z => by
      subst z
      rcases rx with rx | ⟨_, _, _, z, _⟩
      · cases rx with
        | non => exact h1 rfl
        | jnk x => exact h _ rfl
      · cases z
    rw [decide_eq_false this]
    exact q
  · cases e
/-! ### subscripts -/
def dIx : PyData → PyData → Option PyData
  | .list ds, .int i => atI ds i
  | .tuple ds, .int i => atI ds i
  | .str z, .int i => if z.length ≤ sizeLine then (atI z.cps.toList i).map fun c => .str ⟨#[c]⟩ else none
  | .dict ((.str _, _) :: _), .int _ => none
  | .dict kvs, .int i => atI (kvs.map (·.1)) i
  | _, _ => none
theorem DqA.atI {K : PySem.W.Frag} {H : Hp} {P : Addr → Prop} {vs : List V} {ds : List PyData} {i : Int} {d : PyData} (t : DqA K H P vs ds) (h : L2.atI ds i = some d) : ∃ v, L2.atI vs i = some v ∧ Dq K H P v d := by
  unfold L2.atI at h ⊢
  rw [t.length]
  cases e : ixN ds.length i with
  | none => rw [e] at h; cases h
  | some j =>
    rw [e] at h
    exact t.get (show ds[j]? = some d from h)
theorem scr_atI {ns : List Int} {i : Int} {d : PyData} {kvs : List (PyData × PyData)} (e : kvs = ns.map fun n => (.int n, .none)) (h : L2.atI (kvs.map (·.1)) i = some d) : ∃ n, d = .int n ∧ L2.atI (ns.map V.int) i = some (.int n) := by
  subst e
  unfold L2.atI at h ⊢
  rw [List.map_map] at h
  rw [List.length_map] at h ⊢
  cases e : ixN ns.length i with
  | none => rw [e] at h; cases h
  | some j =>
    rw [e] at h
    have h' : (ns.map ((fun x => x.1) ∘ fun n => (PyData.int n, PyData.none)))[j]? = some d := h
    rw [List.getElem?_map] at h'
    cases z : ns[j]? with
    | none => rw [z] at h'; cases h'
    | some n =>
      rw [z] at h'
      cases h'
      exact ⟨n, rfl, by show (ns.map V.int)[j]? = _; rw [List.getElem?_map, z] <;> rfl⟩
theorem opF_ix : IxR X (rF X.K dIx) := IxR.imp ix_seq fun x y H Q ⟨P, dx, dy, d, tr, rx, ry, e, q⟩ => by
  unfold dIx at e
  split at e
  · obtain ⟨a, xs, rfl, h, t⟩ := rx.lst
    obtain ⟨v, h1, h2⟩ := t.atI e
    exact .inl ⟨a, xs, _, v, rfl, ry.int, SqL.of h, h1, q _ H (Same.refl H) h2⟩
  · obtain ⟨a, xs, rfl, h, t⟩ := rx.tup
    obtain ⟨v, h1, h2⟩ := t.atI e
    exact .inr (.inl ⟨a, xs, _, v, rfl, ry.int, h, h1, q _ H (Same.refl H) h2⟩)
  · rename_i z i
    by_cases hz : z.length ≤ sizeLine
    · rw [if_pos hz] at e
      cases ea : L2.atI z.cps.toList i with
      | none => rw [ea] at e; cases e
      | some c =>
        rw [ea] at e
        cases e
        exact .inr (.inr ⟨z, i, c, rx.str, ry.int, hz, ea, q _ H (Same.refl H) (.str _)⟩)
    · rw [if_neg hz] at e; cases e
  · cases e
  · rename_i kvs i hne
    rcases rx with rx | ⟨_, _, _, _, z, _⟩
    · generalize ed : PyData.dict kvs = dd at rx
      cases rx with
      | @sck a ns h =>
        have ek : kvs = ns.map fun n => (.int n, .none) := PyData.dict.inj ed
        obtain ⟨n, rfl, h1⟩ := scr_atI ek e
        exact .inl ⟨a, _, _, _, rfl, ry.int, HpN_lst h, h1, q _ H (Same.refl H) (.int n)⟩
      | @scf a ns o h hn =>
        have ek : kvs = ns.map fun n => (.int n, .none) := PyData.dict.inj ed
        obtain ⟨n, rfl, h1⟩ := scr_atI ek e
        exact .inl ⟨a, _, _, _, rfl, ry.int, .inl (.inr ⟨_, h⟩), h1, q _ H (Same.refl H) (.int n)⟩
      | @scl a ns h hn =>
        have ek : kvs = ns.map fun n => (.int n, .none) := PyData.dict.inj ed
        obtain ⟨n, rfl, h1⟩ := scr_atI ek e
        exact .inl ⟨a, _, _, _, rfl, ry.int, .inl (.inl h), h1, q _ H (Same.refl H) (.int n)⟩
      | jnk x => cases ed; exact absurd rfl (hne _ _ _)
      | _ => cases ed
    · cases z
  · cases e
/-! ### slices -/
def cutD (ds : List PyData) (lo hi : Option Int) : List PyData := (ds.drop (HT.sIx ds.length 0 lo)).take (HT.sIx ds.length ds.length hi - HT.sIx ds.length 0 lo)
theorem DqA.cut {K : PySem.W.Frag} {H : Hp} {P : Addr → Prop} {vs : List V} {ds : List PyData} (t : DqA K H P vs ds) (lo hi : Option Int) : DqA K H P (cutV vs lo hi) (cutD ds lo hi) := by
  unfold cutV cutD
  rw [t.length]
  exact (t.drop _).take _
def dSl : PyData → Option Int → Option Int → Option PyData
  | .list ds, lo, hi => some (.list (cutD ds lo hi))
  | .tuple ds, lo, hi => some (.tuple (cutD ds lo hi))
  | .str z, lo, hi => if z.length ≤ sizeLine then some (.str (cutS z lo hi)) else none
  | _, _, _ => none
theorem opF_sl : SlR X (rFS X.K dSl) := SlR.imp (sl_list.or (sl_tupF.or sl_str)) fun x lo hi H Q ⟨P, dx, d, tr, rx, e, q⟩ => by
  have np : ∀ {p : Addr}, H p = none → ¬ P p := fun h z => by obtain ⟨u, hu⟩ := tr _ z; rw [h] at hu; cases hu
  unfold dSl at e
  split at e
  · cases e
    obtain ⟨a, xs, rfl, h, t⟩ := rx.lst
    exact .inl ⟨a, xs, rfl, SqL.of h, fun p hp => q _ _ (same_upd hp _) (.lst upd_same (np hp) ((t.cut lo hi).same (same_upd hp _)))⟩
  · rename_i ds
    cases e
    have qx := rx.tupQ
    obtain ⟨a, xs, rfl, h, t⟩ := rx.tup
    refine .inr (.inl ⟨a, xs, rfl, h, fun hw => ?_, fun _ p its hp => q _ _ (same_upd hp _) (.tup upd_same (np hp) ((t.cut lo hi).same (same_upd hp _)))⟩)
    have : cutD ds lo hi = ds := by
      unfold cutD
      rw [t.length] at hw
      rw [hw.1, hw.2, List.drop_zero, Nat.sub_zero, List.take_length]
    rw [this] at q
    exact q _ H (Same.refl H) qx
  · rename_i z
    by_cases hz : z.length ≤ sizeLine
    · rw [if_pos hz] at e
      cases e
      exact .inr (.inr ⟨z, rx.str, hz, q _ H (Same.refl H) (.str _)⟩)
    · rw [if_neg hz] at e; cases e
  · cases e
/-! ### len, list, tuple -/
def dLen : PyData → Option PyData
  | .str z => if z.length ≤ sizeLine then some (.int z.length) else none
  | .list ds => some (.int ds.length)
  | .tuple ds => some (.int ds.length)
  | .dict ((.str _, _) :: _) => none
  | .dict kvs => some (.int kvs.length)
  | _ => none
theorem opF_len : CallR X (.builtin "len") (rC1 X.K dLen) := CallR.imp call_len fun vs H Q ⟨P, x, dx, d, ev, tr, rx, e, q⟩ => by
  subst ev
  unfold dLen at e
  split at e
  · rename_i z
    by_cases hz : z.length ≤ sizeLine
    · rw [if_pos hz] at e
      cases e
      have := rx.str
      subst this
      exact ⟨_, z.length, rfl, ⟨hz, rfl⟩, q _ H (Same.refl H) (.int _)⟩
    · rw [if_neg hz] at e; cases e
  · cases e
    obtain ⟨a, xs, rfl, h, t⟩ := rx.lst
    exact ⟨_, _, rfl, .inl ⟨xs, SqL.of h, t.length.symm⟩, q _ H (Same.refl H) (.int _)⟩
  · cases e
    obtain ⟨a, xs, rfl, h, t⟩ := rx.tup
    exact ⟨_, _, rfl, .inr ⟨xs, h, t.length.symm⟩, q _ H (Same.refl H) (.int _)⟩
  · cases e
  · rename_i kvs hne
    cases e
    rcases rx with rx | ⟨_, _, _, _, z, _⟩
    · generalize ed : PyData.dict kvs = dd at rx
      cases rx with
      | @sck a ns h =>
        have ek : kvs = ns.map fun n => (.int n, .none) := PyData.dict.inj ed
        subst ek
        exact ⟨_, _, rfl, .inl ⟨_, HpN_lst h, by rw [List.length_map, List.length_map]⟩, q _ H (Same.refl H) (.int _)⟩
      | @scf a ns o h hn =>
        have ek : kvs = ns.map fun n => (.int n, .none) := PyData.dict.inj ed
        subst ek
        exact ⟨_, _, rfl, .inl ⟨_, .inl (.inr ⟨_, h⟩), by rw [List.length_map, List.length_map]⟩, q _ H (Same.refl H) (.int _)⟩
      | @scl a ns h hn =>
        have ek : kvs = ns.map fun n => (.int n, .none) := PyData.dict.inj ed
        subst ek
        exact ⟨_, _, rfl, .inl ⟨_, .inl (.inl h), by rw [List.length_map, List.length_map]⟩, q _ H (Same.refl H) (.int _)⟩
      | jnk x => cases ed; exact absurd rfl (hne _ _ _)
      | _ => cases ed
    · cases z
  · cases e
def dSeqs : PyData → Option (List PyData)
  | .list ds => some ds
  | .tuple ds => some ds
  | _ => none
theorem opF_list : CallR X (.type "list") (rC1N X.K dSeqs) := CallR.imp call_list_of fun vs H Q ⟨P, x, dx, d, ev, tr, rx, e, q⟩ => by
  subst ev
  unfold dSeqs at e
  split at e
  · cases e
    obtain ⟨a, xs, rfl, h, t⟩ := rx.lst
    exact ⟨a, xs, rfl, .inl (SqL.of h), fun p hp => q p _ _ (same_upd hp _) hp upd_same (newDq hp t)⟩
  · cases e
    obtain ⟨a, xs, rfl, h, t⟩ := rx.tup
    exact ⟨a, xs, rfl, .inr h, fun p hp => q p _ _ (same_upd hp _) hp upd_same (newDq hp t)⟩
  · cases e
def dTuple : PyData → Option PyData
  | .list ds => some (.tuple ds)
  | .tuple ds => some (.tuple ds)
  | _ => none
theorem opF_tuple : CallR X (.type "tuple") (rC1 X.K dTuple) := CallR.imp call_tupleF fun vs H Q ⟨P, x, dx, d, ev, tr, rx, e, q⟩ => by
  have np : ∀ {p : Addr}, H p = none → ¬ P p := fun h z => by obtain ⟨u, hu⟩ := tr _ z; rw [h] at hu; cases hu
  subst ev
  unfold dTuple at e
  split at e
  · cases e
    obtain ⟨a, xs, rfl, h, t⟩ := rx.lst
    exact ⟨a, xs, rfl, .inl ⟨SqL.of h, fun p its hp => q _ _ (same_upd hp _) (.tup upd_same (np hp) (t.same (same_upd hp _)))⟩⟩
  · cases e
    have qx := rx.tupQ
    obtain ⟨a, xs, rfl, h, t⟩ := rx.tup
    exact ⟨a, xs, rfl, .inr ⟨h, q _ H (Same.refl H) qx⟩⟩
  · cases e
/-! ### methods of one's own list -/
def fApp (i : Nat) (f : Rho → Option PyData) : Rho → Option Fl := fun ρ => (f ρ).bind fun d => match ρ.getD i none with
  | some (.list ds) => if ds.length < sizeLine then some (.nx (ρ.set i (some (.list (ds ++ [d]))))) else none
  | _ => none
theorem getD_some {ρ : Rho} {i : Nat} {d : PyData} (e : ρ.getD i none = some d) : ρ[i]? = some (some d) := eVar_some (i := i) e
variable {o ob : List Nat} {e : Expr} {f : Rho → Option PyData}
theorem sv_append (i : Nat) {x : Str} {px apos cpos pos : Pos} (hv : PE X (.Name x px) (tVar i)) (he : EV X o e f) (hi : i ∈ o := by decide)
    (hbase : attributeBase (.Name x px) "append" X.env (eval (.Name x px) X.env) = eval (.Name x px) X.env := by rfl)
    (hfew : ((backTo cpos (starEach [e] X.env)).all (fun x => !x.1) && (backToKw cpos (keywordEach [] X.env)).all (fun x => x.1.isSome)
      && decide (([e] : List Expr).length + ([] : List Keyword).length + (if ([] : List Keyword).isEmpty then 0 else 1) < 30)) = true := by rfl)
    (hline : (apos.endLine == cpos.line) = true := by rfl) (hs : starEach [e] X.env = (false, eval e X.env) :: starEach [] X.env := by rfl) (hplain : (backTo cpos (starEach [] X.env)).any (·.1) = false := by rfl)
    (hsw : swapsWith (.Call (.Attribute (.Name x px) "append" apos) [e] [] cpos) none pos.line X.env = pure false := by rfl) :
    SV X o o ob (.Expr (.Call (.Attribute (.Name x px) "append" apos) [e] [] cpos) pos) (fApp i f) :=
  PS.imp (ps_expr (pe_bm PySem.F.plainAttrs_list PySem.F.slot_list_append PySem.F.type_list_append mt_append hv (pa_cons he pa_nil hs) hbase hfew hline hs hplain) hsw) fun D σ H ⟨H0, P0, P, ρ, fl, R, e', q⟩ => by
    unfold fApp at e'
    cases ef : f ρ with
    | none => rw [ef] at e'; cases e'
    | some d =>
    rw [ef] at e'
    simp only [Option.bind_some] at e'
    obtain ⟨a, u, d0, h1, h2, h3, h4, h5, h6⟩ := R.own i hi
    have eg : ρ.getD i none = some d0 := by rw [List.getD_eq_getElem?_getD, h2] <;> rfl
    rw [eg] at e'
    obtain ⟨ds, rfl⟩ : ∃ ds, d0 = .list ds := by
      cases d0 with
      | list ds => exact ⟨ds, rfl⟩
      | _ => cases e'
    obtain ⟨xs, eu, h7⟩ := h6.lst
    subst eu
    clear h6
    have h6 := h7
    have e' : (if ds.length < sizeLine then some (Fl.nx (ρ.set i (some (.list (ds ++ [d]))))) else none) = some fl := e'
    by_cases hz : ds.length < sizeLine
    · rw [if_pos hz] at e'
      cases e'
      refine ⟨.ref a, h1, .inl ⟨rfl, _, .inl (.inl h5)⟩, H0, P0, P, ρ, d, R, ef, fun v H1 s1 t => ?_⟩
      refine ⟨a, xs, v, rfl, rfl, s1 _ _ h5, by rw [h6.length]; exact hz, ?_⟩
      obtain ⟨R', l⟩ := (R.go s1).put hi h1 (.ofLst ((h6.same s1).append (.cons t .nil)))
      exact q σ _ P R' ((Lt.same P s1).trans l)
    · rw [if_neg hz] at e'; cases e'
def fExt (i : Nat) (f : Rho → Option PyData) : Rho → Option Fl := fun ρ => (f ρ).bind fun d => match ρ.getD i none, d with
  | some (.list ds), .list es => if ds.length + es.length ≤ sizeLine then some (.nx (ρ.set i (some (.list (ds ++ es))))) else none
  | _, _ => none
theorem sv_extend (i : Nat) {x : Str} {px apos cpos pos : Pos} (hv : PE X (.Name x px) (tVar i)) (he : EV X o e f) (hi : i ∈ o := by decide)
    (hbase : attributeBase (.Name x px) "extend" X.env (eval (.Name x px) X.env) = eval (.Name x px) X.env := by rfl)
    (hfew : ((backTo cpos (starEach [e] X.env)).all (fun x => !x.1) && (backToKw cpos (keywordEach [] X.env)).all (fun x => x.1.isSome)
      && decide (([e] : List Expr).length + ([] : List Keyword).length + (if ([] : List Keyword).isEmpty then 0 else 1) < 30)) = true := by rfl)
    (hline : (apos.endLine == cpos.line) = true := by rfl) (hs : starEach [e] X.env = (false, eval e X.env) :: starEach [] X.env := by rfl) (hplain : (backTo cpos (starEach [] X.env)).any (·.1) = false := by rfl)
    (hsw : swapsWith (.Call (.Attribute (.Name x px) "extend" apos) [e] [] cpos) none pos.line X.env = pure false := by rfl) :
    SV X o o ob (.Expr (.Call (.Attribute (.Name x px) "extend" apos) [e] [] cpos) pos) (fExt i f) :=
  PS.imp (ps_expr (pe_bm PySem.F.plainAttrs_list PySem.F.slot_list_extend PySem.F.type_list_extend mt_extend hv (pa_cons he pa_nil hs) hbase hfew hline hs hplain) hsw) fun D σ H ⟨H0, P0, P, ρ, fl, R, e', q⟩ => by
    unfold fExt at e'
    cases ef : f ρ with
    | none => rw [ef] at e'; cases e'
    | some d =>
    rw [ef] at e'
    simp only [Option.bind_some] at e'
    obtain ⟨a, u, d0, h1, h2, h3, h4, h5, h6⟩ := R.own i hi
    have eg : ρ.getD i none = some d0 := by rw [List.getD_eq_getElem?_getD, h2] <;> rfl
    rw [eg] at e'
    obtain ⟨ds, rfl⟩ : ∃ ds, d0 = .list ds := by
      cases d0 with
      | list ds => exact ⟨ds, rfl⟩
      | _ => cases e'
    obtain ⟨xs, eu, h7⟩ := h6.lst
    subst eu
    clear h6
    have h6 := h7
    cases d with
    | list es =>
      have e' : (if ds.length + es.length ≤ sizeLine then some (Fl.nx (ρ.set i (some (.list (ds ++ es))))) else none) = some fl := e'
      by_cases hz : ds.length + es.length ≤ sizeLine
      · rw [if_pos hz] at e'
        cases e'
        refine ⟨.ref a, h1, .inl ⟨rfl, _, .inl (.inl h5)⟩, H0, P0, P, ρ, _, R, ef, fun v H1 s1 t => ?_⟩
        cases t with
        | @lst b ys _ hb hn ts =>
          refine ⟨a, b, xs, ys, rfl, rfl, s1 _ _ h5, hb, by rw [h6.length, ts.length]; exact hz, ?_⟩
          obtain ⟨R', l⟩ := (R.go s1).put hi h1 (.ofLst ((h6.same s1).append ts))
          exact q σ _ P R' ((Lt.same P s1).trans l)
      · rw [if_neg hz] at e'; cases e'
    | _ => cases e'
end
end TF

/-! TFh.lean -/
set_option Elab.async false
set_option linter.all false
set_option maxRecDepth 100000
/-! TF.h: + of anything, what may be walked, texts, callees -/
namespace TF
open PySem PySem.Spec PyProof.Rows L2
variable [OK : OwnK]

section
variable {X : Cx} {o ob : List Nat} {tg e a b : Expr} {f fa fb : Rho → Option PyData} {pos : Pos}
theorem hu64 {k : Nat} {A : Around} (hr : Room k A) : A.units + 64 < cLine := hr.units
theorem hu65 {k : Nat} {A : Around} (hr : Room k A) : A.units + 65 < cLine := by have := hr.un; omega
/-- + of ints, texts, tuples, lists -/
def dAddA : PyData → PyData → Option PyData
  | .list xs, .list ys => if xs.length + ys.length ≤ sizeLine then some (.list (xs ++ ys)) else none
  | x, y => dAdd x y
theorem opF_addA : OpR X (binaryOp .Add) (rF X.K dAddA) := OpR.imp (OpR.or (opF_add (X := X)) (opF_addL (X := X))) fun x y H Q ⟨P, dx, dy, d, tr, rx, ry, e, q⟩ => by
  have np : ∀ {p : Addr}, H p = none → ¬ P p := fun h z => by obtain ⟨u, hu⟩ := tr _ z; rw [h] at hu; cases hu
  unfold dAddA at e
  split at e
  · rename_i xs ys
    by_cases hz : xs.length + ys.length ≤ sizeLine
    · rw [if_pos hz] at e; cases e
      refine .inr ⟨P, _, _, xs ++ ys, tr, rx, ry, by show (if xs.length + ys.length ≤ sizeLine then some (xs ++ ys) else none) = _; rw [if_pos hz], fun p us H' s n hp t => q _ H' s (.lst hp (np n) (t.anti fun a z => .inr z))⟩
    · rw [if_neg hz] at e; cases e
  · exact .inl ⟨P, _, _, d, tr, rx, ry, e, q⟩
/-- is, is not: None or truths -/
def dIs : PyData → PyData → Option Bool
  | .bool a, .bool b => some (decide (a = b))
  | x, y => dIsN x y
theorem opF_isA : OpR X (compareOp .Is) (rFB X.K dIs) := OpR.imp (OpR.or (opF_is (X := X)) op_isBl) fun x y H Q ⟨P, dx, dy, d, tr, rx, ry, e, q⟩ => by
  unfold dIs at e
  split at e
  · cases e; exact .inr ⟨_, _, rx.bl, ry.bl, q⟩
  · exact .inl ⟨P, _, _, d, tr, rx, ry, e, q⟩
def dIsNot : PyData → PyData → Option Bool := fun x y => (dIs x y).map (!·)
theorem opF_isNotA : OpR X (compareOp .IsNot) (rFB X.K dIsNot) := OpR.imp (OpR.or (opF_isNot (X := X)) op_notBl) fun x y H Q ⟨P, dx, dy, d, tr, rx, ry, e, q⟩ => by
  unfold dIsNot dIs at e
  split at e
  · cases e; exact .inr ⟨_, _, rx.bl, ry.bl, q⟩
  · exact .inl ⟨P, _, _, d, tr, rx, ry, e, q⟩
/-! ### - of an int -/
def dNeg : PyData → Option PyData
  | .int i => some (.int (-i))
  | _ => none
theorem ev_neg (h : ER X o e f) : EV X o (.UnaryOp .USub e pos) (e1 f dNeg) := PE.imp (pe_un un_neg h) fun σ H Q ⟨H0, P0, P, ρ, d, R, e', q⟩ => by
  obtain ⟨x, ef, eg⟩ := e1_some e'
  cases x with
  | int i => cases eg; exact ⟨H0, P0, P, ρ, _, R, ef, fun v H1 s1 r1 => ⟨i, r1.int, q _ H1 s1 (.int _)⟩⟩
  | _ => cases eg
/-! ### a list, a tuple, a text, walked -/
def iAny (K : PySem.W.Frag) (te : TE) : TI := fun σ H R => te σ H fun x H1 => (∃ a, x = .ref a ∧ (∃ xs, SqL K H1 a xs) ∧ R (Itl K a) H1) ∨ (∃ a, x = .ref a ∧ (∃ xs, SqT K H1 a xs) ∧ R (Itt K a) H1) ∨ ∃ z, x = .str z ∧ R (Its z) H1
theorem pi_any {te : TE} (he : PE X e te) : PI X tg e (iAny X.K te) := by
  refine ⟨fun pins s σ H R I h => ?_⟩
  refine thn (he.run pins s σ H _ I h) fun v s1 ⟨x, H1, I1, r1, q1⟩ => ?_
  rcases q1 with ⟨a, ex, ⟨xs, hq⟩, q⟩ | ⟨a, ex, ⟨xs, hq⟩, q⟩ | ⟨z, ex, q⟩
  · subst ex
    cases r1
    obtain ⟨its, rv, p, hz⟩ := I1.list hq
    refine wpAny_pyIter_list p.isList ?_
    refine ⟨s1.heap.objs.size, [s1.heap.objs.size], _, _, H1, rfl, I1.kept (t' := s1.toks) fun b o e => Heap.get?_push_of_some _ e, turn_list a _, ⟨_, Heap.get?_push_size _ rfl, rfl, rfl⟩, fun b hb => ?_, q⟩
    have e : b = s1.heap.objs.size := by simpa using hb
    subst e
    exact I1.fpOk (Nat.le_refl _) (I1.hok.fresh (Nat.le_refl _))
  · subst ex
    cases r1
    obtain ⟨its, rv, p, hz⟩ := I1.tuple hq
    refine wpAny_pyIter_tuple (show s1.heap.IsTuple a its.toArray from p) ?_
    refine ⟨s1.heap.objs.size, [s1.heap.objs.size], _, _, H1, rfl, I1.kept (t' := s1.toks) fun b o e => Heap.get?_push_of_some _ e, turn_tuple a _, ⟨_, Heap.get?_push_size _ rfl, rfl, rfl⟩, fun b hb => ?_, q⟩
    have e : b = s1.heap.objs.size := by simpa using hb
    subst e
    exact I1.fpOk (Nat.le_refl _) (I1.hok.fresh (Nat.le_refl _))
  · subst ex
    obtain ⟨t, rfl⟩ := r1
    cases ha : z.cps.all (· < 128)
    · exact wpAny_pyIter_wide ha (pi_one (tk := s1.toks) I1 _ (turn_str _ z t "str_iterator" (.inr rfl)) ⟨_, Heap.get?_push_size _ rfl, rfl, rfl⟩ q)
    · exact wpAny_pyIter_ascii ha (pi_one (tk := s1.toks) I1 _ (turn_str _ z t "str_ascii_iterator" (.inl rfl)) ⟨_, Heap.get?_push_size _ rfl, rfl, rfl⟩ q)
def signs (z : Str) : List PyData := z.cps.toList.map fun c => .str ⟨#[c]⟩
def dWalk : PyData → Option (List PyData)
  | .list xs => some xs
  | .tuple xs => some xs
  | .str z => if z.length ≤ sizeLine then some (signs z) else none
  | .dict ((.str _, _) :: _) => none
  | .dict kvs => some (kvs.map (·.1))
  | _ => none
theorem dWalk_scr : ∀ ns : List Int, dWalk (scr ns) = some ((ns.map fun n => (PyData.int n, PyData.none)).map (·.1))
  | [] => rfl
  | _ :: _ => rfl
theorem wk_list {K : PySem.W.Frag} {ds : List PyData} {a : Addr} {vs : List V} {H1 : Hp} {P : Addr → Prop} (ha : H1 a = some (.lst vs)) (hn : ¬ P a) (ts : DqA K H1 P vs ds) : Wk K ds (Itl K a) H1 P := by
  refine ⟨fun H P i l hi => ?_, fun H P l => ?_, fun H P i x H' l tr hi y => ?_⟩
  · have hi' : i < vs.length := by rw [ts.length]; exact hi
    exact ⟨vs, vs[i], SqL.of (l _ _ ha hn (by first | exact nt_lst | exact nt_frz)).1, by simp [hi']⟩
  · exact ⟨vs, SqL.of (l _ _ ha hn (by first | exact nt_lst | exact nt_frz)).1, by rw [ts.length]; exact Nat.le_refl _⟩
  · obtain ⟨rfl, y⟩ := y
    obtain ⟨d, h1, h2⟩ := (ts.mono l).getV (y vs (SqL.of (l _ _ ha hn (by first | exact nt_lst | exact nt_frz)).1))
    exact ⟨Same.refl _, d, h1, h2⟩
theorem wk_tup {K : PySem.W.Frag} {ds : List PyData} {a : Addr} {vs : List V} {H1 : Hp} {P : Addr → Prop} (ha : ∀ H P', Lt H1 P H P' → SqT K H a vs) (ts : DqA K H1 P vs ds) : Wk K ds (Itt K a) H1 P := by
  refine ⟨fun H P i l hi => ?_, fun H P l => ?_, fun H P i x H' l tr hi y => ?_⟩
  · have hi' : i < vs.length := by rw [ts.length]; exact hi
    exact ⟨vs, vs[i], ha _ _ l, by simp [hi']⟩
  · exact ⟨vs, ha _ _ l, by rw [ts.length]; exact Nat.le_refl _⟩
  · obtain ⟨rfl, y⟩ := y
    obtain ⟨d, h1, h2⟩ := (ts.mono l).getV (y vs (ha _ _ l))
    exact ⟨Same.refl _, d, h1, h2⟩
theorem wk_scr {K : PySem.W.Frag} {ns : List Int} {a : Addr} {H1 : Hp} {P : Addr → Prop} (ha : ∀ H P', Lt H1 P H P' → SqL K H a (ns.map V.int)) : Wk K (ns.map PyData.int) (Itl K a) H1 P := by
  refine ⟨fun H P i l hi => ?_, fun H P l => ?_, fun H P i x H' l tr hi y => ?_⟩
  · rw [List.length_map] at hi
    exact ⟨ns.map V.int, .int ns[i], ha _ _ l, by simp [hi]⟩
  · exact ⟨ns.map V.int, ha _ _ l, by rw [List.length_map, List.length_map]; exact Nat.le_refl _⟩
  · obtain ⟨rfl, y⟩ := y
    have z := y _ (ha _ _ l)
    rw [List.length_map] at hi
    rw [List.getElem?_map, List.getElem?_eq_getElem hi] at z
    cases z
    exact ⟨Same.refl _, .int ns[i], by rw [List.getElem?_map, List.getElem?_eq_getElem hi] <;> rfl, .int _⟩
theorem scr_fst (ns : List Int) : (ns.map fun n => (PyData.int n, PyData.none)).map (·.1) = ns.map PyData.int := by rw [List.map_map]; rfl
theorem wi_any (h : EV X o e f) : WI X o tg e (e1 f dWalk) := PI.imp (PI.szd (pi_any h)) fun σ H R ⟨H0, P0, P, ρ, ds, Re, e', q⟩ => by
  obtain ⟨d, ef, eg⟩ := e1_some e'
  refine ⟨H0, P0, P, ρ, _, Re, ef, fun v H1 s1 t => ?_⟩
  cases t with
  | @lst a vs _ ha hn ts =>
    cases eg
    exact .inl ⟨a, rfl, ⟨_, SqL.of ha⟩, fun hz => q _ _ s1 (wk_list ha hn ts) (by rw [← ts.length]; exact hz.1 _ _ (SqL.of ha))⟩
  | @tup a its vs _ ha hn ts =>
    cases eg
    exact .inr (.inl ⟨a, rfl, ⟨_, sqT_fz ha⟩, fun hz => q _ _ s1 (wk_tup (fun H P' l => sqT_fz (l _ _ ha hn (by first | exact nt_lst | exact nt_frz)).1) ts) (by rw [← ts.length]; exact hz.2 _ _ (sqT_fz ha))⟩)
  | str z =>
    have eg : (if z.length ≤ sizeLine then some (signs z) else none) = some ds := eg
    by_cases hz : z.length ≤ sizeLine
    · rw [if_pos hz] at eg
      cases eg
      have hl : (signs z).length = z.cps.size := by unfold signs; rw [List.length_map, Array.length_toList]
      refine .inr (.inr ⟨z, rfl, fun _ => q _ _ s1 ⟨fun H P i l hi => by rw [hl] at hi; exact hi, fun H P l => by rw [hl]; exact Nat.le_refl _, fun H P i x H' l tr hi y => ?_⟩ (by rw [hl]; exact hz)⟩)
      obtain ⟨rfl, c, hc, rfl⟩ := y
      exact ⟨Same.refl _, .str ⟨#[c]⟩, by unfold signs; rw [List.getElem?_map, Array.getElem?_toList, hc] <;> rfl, .str _⟩
    · rw [if_neg hz] at eg; cases eg
  | @sck a ns h =>
    have eg : some ((ns.map fun n => (PyData.int n, PyData.none)).map (·.1)) = some ds := (dWalk_scr ns).symm.trans eg
    rw [scr_fst] at eg
    cases eg
    exact .inl ⟨a, rfl, ⟨_, HpN_lst h⟩, fun hz => q _ _ s1 (wk_scr fun H P' l => HpN_lst h) (by have := hz.1 _ _ (HpN_lst h); rw [List.length_map] at this ⊢; exact this)⟩
  | @scf a ns ob h hn =>
    have eg : some ((ns.map fun n => (PyData.int n, PyData.none)).map (·.1)) = some ds := (dWalk_scr ns).symm.trans eg
    rw [scr_fst] at eg
    cases eg
    have hs : SqL X.K H1 a (ns.map V.int) := .inl (.inr ⟨_, h⟩)
    exact .inl ⟨a, rfl, ⟨_, hs⟩, fun hz => q _ _ s1 (wk_scr fun H P' l => .inl (.inr ⟨_, (l _ _ h hn (by first | exact nt_lst | exact nt_frz)).1⟩)) (by have := hz.1 _ _ hs; rw [List.length_map] at this ⊢; exact this)⟩
  | @scl a ns h hn =>
    have eg : some ((ns.map fun n => (PyData.int n, PyData.none)).map (·.1)) = some ds := (dWalk_scr ns).symm.trans eg
    rw [scr_fst] at eg
    cases eg
    have hs : SqL X.K H1 a (ns.map V.int) := .inl (.inl h)
    exact .inl ⟨a, rfl, ⟨_, hs⟩, fun hz => q _ _ s1 (wk_scr fun H P' l => .inl (.inl (l _ _ h hn (by first | exact nt_lst | exact nt_frz)).1)) (by have := hz.1 _ _ hs; rw [List.length_map] at this ⊢; exact this)⟩
  | _ => cases eg
/-! ### texts -/
def strsD : List PyData → Option (List Str)
  | [] => some []
  | .str x :: r => (strsD r).map (x :: ·)
  | _ :: _ => none
theorem strsD_rel {K : PySem.W.Frag} {H : Hp} {P : Addr → Prop} : ∀ {vs : List V} {ds : List PyData} {ys : List Str}, DqA K H P vs ds → strsD ds = some ys → vs = ys.map V.str
  | _, _, ys, .nil, e => by cases e; rfl
  | _, _, ys, .cons (d := d) h t, e => by
    cases d with
    | str x =>
      unfold strsD at e
      cases er : strsD _ with
      | none => rw [er] at e; cases e
      | some r =>
        rw [er] at e
        cases e
        cases h
        rw [strsD_rel t er, List.map_cons]
    | _ => cases e
def dJoin : PyData → PyData → Option PyData
  | .str a, d => (dSeqs d).bind fun ds => (strsD ds).bind fun ys => if (ys.map (·.length)).sum + ys.length * a.length ≤ 16777216 then some (.str (Txt.join a ys)) else none
  | _, _ => none
theorem ev_join {apos : Pos} (ha : ER X o a fa) (hb : ER X o b fb) (hs : starEach [b] X.env = [(false, eval b X.env)] := by rfl) (hbase : attributeBase a "join" X.env (eval a X.env) = eval a X.env := by rfl) (hline : (apos.endLine == pos.line) = true := by rfl) :
    EV X o (.Call (.Attribute a "join" apos) [b] [] pos) (e2 fa fb dJoin) := PE.imp (pe_join ha hb hs hbase hline) fun σ H Q ⟨H0, P0, P, ρ, d, R, e', q⟩ => by
  obtain ⟨x, y, ea, eb, eg⟩ := e2_some e'
  cases x with
  | str z =>
    have eg : ((dSeqs y).bind fun ds => (strsD ds).bind fun ys => if (ys.map (·.length)).sum + ys.length * z.length ≤ 16777216 then some (PyData.str (Txt.join z ys)) else none) = some d := eg
    refine ⟨H0, P0, P, ρ, _, R, ea, fun v H1 s1 r1 => ⟨⟨z, r1.str⟩, H0, P0, P, ρ, y, R.go s1, eb, fun u H2 s2 r2 => ?_⟩⟩
    cases e3 : dSeqs y with
    | none => rw [e3] at eg; cases eg
    | some ds =>
    rw [e3] at eg
    simp only [Option.bind_some] at eg
    cases e4 : strsD ds with
    | none => rw [e4] at eg; cases eg
    | some ys =>
    rw [e4] at eg
    simp only [Option.bind_some] at eg
    by_cases hz : (ys.map (·.length)).sum + ys.length * z.length ≤ 16777216
    · rw [if_pos hz] at eg
      cases eg
      have hv := (r1.same s2).str
      unfold dSeqs at e3
      split at e3
      · cases e3
        obtain ⟨p, xs, rfl, h, t⟩ := r2.lst
        rw [strsD_rel t e4] at h
        exact ⟨z, p, ys, hv, rfl, .inl (SqL.of h), hz, q _ H2 (s1.trans s2) (.str _)⟩
      · cases e3
        obtain ⟨p, xs, rfl, h, t⟩ := r2.tup
        rw [strsD_rel t e4] at h
        exact ⟨z, p, ys, hv, rfl, .inr h, hz, q _ H2 (s1.trans s2) (.str _)⟩
      · cases e3
    · rw [if_neg hz] at eg; cases eg
  | _ => cases eg
end
/-! ### what may be called -/
structure Callee (P : Program) (w : World) (K : PySem.W.Frag) (mg : Str → Option Value) (base : Heap) (k : Nat) (x : Str) (n : Nat) (m : List PyData → Option PyData) : Prop where
  ex : ∃ (f : Addr) (fd : FuncData) (ps : List Str), FnOk P w K mg base CX0 k f fd ps (spF K n m) ∧ mg x = some (.ref f) ∧ PySem.W.keepIn K (.ref f) = true ∧ Binds K fd ps []
theorem Callee.mono {P : Program} {w : World} {K : PySem.W.Frag} {mg : Str → Option Value} {base : Heap} {k k' : Nat} {x : Str} {n : Nat} {m : List PyData → Option PyData} (c : Callee P w K mg base k x n m) (h : k ≤ k') : Callee P w K mg base k' x n m := by
  obtain ⟨f, fd, ps, F, r⟩ := c.ex
  exact ⟨f, fd, ps, F.mono h, r⟩
theorem ev_fn {X : Cx} {o : List Nat} {e : Expr} {es : List Expr} {x : Str} {p pos : Pos} {k n : Nat} {m : List PyData → Option PyData} {g : Rho → Option (List PyData)} (c : Callee X.prog X.w X.K X.mg X.base k x n m) (hr : Room k X.A)
    (ha : EA X o (e :: es) g) (hg : Gl X x := by rfl) (hdb : (x == ("__debug__" : Str)) = false := by decide) (he : starEach (e :: es) X.env = (false, eval e X.env) :: starEach es X.env := by rfl) (hpl : (backTo pos (starEach es X.env)).any (·.1) = false := by rfl) :
    EV X o (.Call (.Name x p) (e :: es) [] pos) (eCall n m g) := by
  obtain ⟨f, fd, ps, F, hm, hk, hb⟩ := c.ex
  exact ev_call F hr hm hk hb ha hg hdb he hpl
/-- a def of the text, by its body -/
theorem fn_K {P : Program} {w : World} {K : PySem.W.Frag} {mg : Str → Option Value} {base : Heap} {k : Nat} {x qual : Str} {params : Arguments} {body : List Stmt} {scope : Scope} {f : Addr} {fd : FuncData} {N ps : List Str} {o' : List Nat} {fb : Rho → Option Fl} (F : FunD K x qual params body scope [] [] f fd) (S : FnScope N ps scope) (hT : OK.T = [])
    (hbody : ∀ (cdv : Value) (A : Around) (outer : List Env) (s : Shared) (H : Hp) (E : XK), Room k (A.deeper (envOfC qual scope s.heap.objs.size f cdv)) → SVs (cxOf CX0 P w K mg base N qual scope f cdv A outer s H E).nox [] o' [] body fb) :
    FnOk P w K mg base CX0 (k + 1) f fd ps (spF K ps.length (runF N.length fb)) := by
  refine F.ok S (fun vs H Q E h => h.1) (fun cdv A outer s H vs Q E hr h => ?_)
  obtain ⟨hl, Pr, ds, d, tr, t, e, q⟩ := h
  refine ⟨_, (hbody cdv A outer s H E hr).nox, ?_⟩
  unfold runF at e
  cases ef : fb (ds.map some ++ List.replicate (N.length - ds.length) none) with
  | none => rw [ef] at e; cases e
  | some fl =>
  rw [ef] at e
  simp only [Option.bind_some] at e
  have tl := t.length
  refine ⟨H, Pr, Pr, _, fl, ⟨fun a z => z, tr, tr, Same.refl H, fun i hi => absurd hi (by simp), fun i j a b hi => absurd hi (by simp), fun i d' _ h => ?_, ?_, tabs0 hT, fun n => absurd hT n⟩, ef, ?_⟩
  · have hi : i < ds.length := by
      by_cases hi : i < ds.length
      · exact hi
      · rw [List.getElem?_append_right (by simpa using hi), List.getElem?_replicate] at h
        split at h <;> cases h
    rw [List.getElem?_append_left (by simpa using hi), List.getElem?_map] at h
    cases z : ds[i]? with
    | none => rw [z] at h; cases h
    | some d2 =>
      rw [z] at h
      cases h
      obtain ⟨v, h1, h2⟩ := t.get z
      exact ⟨v, start_get h1, h2⟩
  · unfold L2.start
    rw [List.length_append, List.length_append, List.length_map, List.length_map, List.length_replicate, List.length_replicate, tl]
  · cases fl with
    | rt d' => cases e; exact fun v H' s t => q v H' s t
    | nx r => cases e; exact fun σ' H' P' R l => q .non H' R.same .non
    | bk r => cases e
    | ct r => cases e
    | rx d r => cases e
    | ex x => cases e
    | rl b => cases e
theorem fn_C {P : Program} {w : World} {K : PySem.W.Frag} {mg : Str → Option Value} {base : Heap} {k : Nat} {x qual : Str} {params : Arguments} {body : List Stmt} {scope : Scope} {f : Addr} {fd : FuncData} {N ps : List Str} {o' : List Nat} {fb : Rho → Option Fl} (F : FunD K x qual params body scope [] [] f fd) (S : FnScope N ps scope)
    (hT : OK.T = []) (hm : mg x = some (.ref f)) (hb : Binds K fd ps [])
    (hbody : ∀ (cdv : Value) (A : Around) (outer : List Env) (s : Shared) (H : Hp) (E : XK), Room k (A.deeper (envOfC qual scope s.heap.objs.size f cdv)) → SVs (cxOf CX0 P w K mg base N qual scope f cdv A outer s H E).nox [] o' [] body fb) :
    Callee P w K mg base (k + 1) x ps.length (runF N.length fb) := ⟨f, fd, ps, fn_K F S hT hbody, hm, F.kp, hb⟩
/-- nothing is promised without fuel -/
theorem Callee.none {P : Program} {w : World} {K : PySem.W.Frag} {mg : Str → Option Value} {base : Heap} {k n : Nat} {x : Str} {ps : List Str} {f : Addr} {fd : FuncData} {m : List PyData → Option PyData} (hm : mg x = some (.ref f)) (hk : PySem.W.keepIn K (.ref f) = true) (hb : Binds K fd ps []) (hn : ∀ ds, m ds = Option.none) :
    Callee P w K mg base k x n m := by
  have no : ∀ vs H Q E, ¬ spF K n m vs H Q E := fun vs H Q E h => by
    obtain ⟨_, _, ds, d, _, _, e, _⟩ := h
    rw [hn] at e; cases e
  exact ⟨f, fd, ps, ⟨fun vs H Q E h => absurd h (no vs H Q E), fun A outer s H args us vs Q E _ _ _ _ h => absurd h (no vs H Q E)⟩, hm, hk, hb⟩
/-- a law: what it answers on every script -/
theorem law_sp {K : PySem.W.Frag} {m : List PyData → Option PyData} (h : ∀ ns : List Int, ns.length ≤ 63 → m [scr ns] = some (.bool true)) (H : Hp) (a : Addr) (ns : List Int) (hl : ns.length ≤ 63) (hO : Only H) (hS : SqL K H a (ns.map V.int)) :
    spF K 1 m [.ref a] H (fun v _ => v = .bl true) fun _ _ _ => False := by
  refine ⟨rfl, fun _ => False, [scr ns], .bool true, fun a z => z.elim, .cons ?_ .nil, h ns hl, fun v H' s t => by cases t; rfl⟩
  rcases hS with (hS | ⟨o, hS⟩) | hS
  · rcases hO a with z | ⟨o, xs, z⟩
    · rw [hS] at z; cases z
    · rw [hS] at z; cases z
  · exact .scf hS (fun z => z)
  · exact .sck (.inr hS)
end TF

/-! TFi.lean -/
set_option Elab.async false
set_option linter.all false
set_option maxRecDepth 100000
namespace TF
open PySem PySem.Spec PyProof.Rows L2
variable [OK : OwnK]
section
variable {X : Cx}
def dMulA : PyData → PyData → Option PyData := dMul
theorem opF_mulA : OpR X (binaryOp .Mult) (rF X.K dMulA) := opF_mul
/-- < of ints, texts, alike tuples -/
def dLtA : PyData → PyData → Option Bool
  | .tuple xs, .tuple ys => if pl (.tuple xs) = true ∧ pl (.tuple ys) = true ∧ PySem.W.alikeAll xs ys = true then some (PySem.W.dataLt (.tuple xs) (.tuple ys)) else none
  | x, y => dLt x y
theorem opF_ltA (hu : X.A.units + 64 < cLine) : OpR X (compareOp .Lt) (rFB X.K dLtA) := OpR.imp (OpR.or (opF_lt (X := X)) (op_ltP hu)) fun x y H Q ⟨P, dx, dy, d, tr, rx, ry, e, q⟩ => by
  unfold dLtA at e
  split at e
  · rename_i xs ys
    by_cases hz : pl (.tuple xs) = true ∧ pl (.tuple ys) = true ∧ PySem.W.alikeAll xs ys = true
    · rw [if_pos hz] at e; cases e
      exact .inr ⟨_, _, rx.dp (pl_plain hz.1), ry.dp (pl_plain hz.2.1), hz.1, hz.2.1, ⟨by simpa only [PySem.W.alike] using hz.2.2, fun z => nomatch z⟩, q⟩
    · rw [if_neg hz] at e; cases e
  · exact .inl ⟨P, _, _, d, tr, rx, ry, e, q⟩
end
end TF

/-! TFj.lean -/
set_option Elab.async false
set_option linter.all false
set_option maxRecDepth 100000
/-! TF.j: enumerate, zip, index, abs, sum, min, max -/
namespace TF
open PySem PySem.Spec PyProof.Rows L2
variable [OK : OwnK]
open Sem (wp)
/-! ### enumerate -/
set_option maxHeartbeats 1000000 in
theorem meets_enum1 {v : Value} {o : Obj} {H : Heap → Prop} (B : Begins v o H) :
    Meets (Builtin.«enumerate.__new__» ⟨[.type "enumerate", v], []⟩) (fun _ R s => H s.heap ∧
      R (.ok (.ret (.ref (s.heap.push o).objs.size))) { s with heap := (s.heap.push o).push { cls := .type "enumerate", data := .fields #[.none, .bool false, .ref s.heap.objs.size, rawInt 0, .none, .none] } }) :=
  .of_wp fun prog w A R s h => by
    obtain ⟨hp, g, d, tk, os⟩ := s; obtain ⟨h1, h⟩ := h
    have hsub := sub_enumerate
    have q1 : ∀ {A' : Around} {E : Value → Shared → Prop} {Q : Value → Shared → Prop}, Q (.ref hp.objs.size) ⟨hp.push o, g, d, tk, os⟩ → wpAny (model prog w) A' (pyIter v) Q E ⟨hp, g, d, tk, os⟩ :=
      fun q => B.iter prog w _ _ ⟨hp, g, d, tk, os⟩ _ h1 q
    wp_walk using q1
    refine wpAny_stack_any fun st => wpAny_pure ?_
    split
    · rename_i c _ _ _ _ _
      cases (c == Value.type "enumerate")
      · wp_walk using q1
        exact ⟨_, rfl, h⟩
      · wp_walk using q1
        exact ⟨_, rfl, h⟩
    · wp_walk using q1
      exact ⟨_, rfl, h⟩
section
variable {prog : Program} {w : World} {A : Around} {E : Value → Shared → Prop} {s : Shared}
theorem enum_begin1 {v : Value} {o : Obj} {H : Heap → Prop} {Q : Value → Shared → Prop} (B : Begins v o H) (h1 : H s.heap)
    (h : ∀ h', IsEnum h' (s.heap.objs.size + 1) s.heap.objs.size 0 .none → h'.get? s.heap.objs.size = some o → h'.objs.size = s.heap.objs.size + 2 →
      (∀ b o, s.heap.get? b = some o → h'.get? b = some o) → Q (.ref (s.heap.objs.size + 1)) { s with heap := h' }) :
    wpAny (model prog w) A (call (.type "enumerate") [v]) Q E s := by
  refine callType_new F.called_enumerate (by decide) (F.typeCall_enumerate_1 _) (F.newCall_enumerate_1 _) (fun obj => F.args_object_init_2 obj _) F.entry_enumerate_new
    (meets_enum1 B) ⟨h1, ?_⟩
  have hz : (s.heap.push o).objs.size = s.heap.objs.size + 1 := Heap.size_push ..
  show _ ∧ _
  rw [hz]
  have he : IsEnum ((s.heap.push o).push { cls := .type "enumerate", data := .fields #[.none, .bool false, .ref s.heap.objs.size, rawInt 0, .none, .none] }) (s.heap.objs.size + 1) s.heap.objs.size 0 .none := by
    have := Heap.get?_push_size (s.heap.push o) (o := { cls := .type "enumerate", data := .fields #[.none, .bool false, .ref s.heap.objs.size, rawInt 0, .none, .none] }) rfl
    rw [hz] at this; exact this
  refine ⟨⟨_, he, rfl⟩, h _ he (Heap.get?_push_of_some _ (Heap.get?_push_size _ B.free)) (by rw [Heap.size_push, hz]) fun b o x => Heap.get?_push_of_some _ (Heap.get?_push_of_some _ x)⟩
end
/-- the tuple at a, each item in a new pair -/
def IteT (K : PySem.W.Frag) (a : Addr) : It :=
  ⟨fun i H => ∃ (xs : List V) (x : V), SqT K H a xs ∧ xs[i]? = some x, fun i H v H' => ∃ T x, v = .ref T ∧ H T = none ∧ (∃ its, H' = upd H T (fz its [.int (i : Nat), x])) ∧ ∀ xs, SqT K H a xs → xs[i]? = some x, fun i H => ∃ xs : List V, SqT K H a xs ∧ xs.length = i⟩
theorem turn_enumT {P : Program} {w : World} {K : PySem.W.Frag} {elts : List Expr} {kk : Nat} {tpos : Pos} (a e it : Addr) (nea : it ≠ a) (eea : e ≠ a) :
    Turn P w K (.Tuple elts kk tpos) (IteT K a) [e, it] e (fun i h => (∃ old, IsEnum h e it ((i : Nat) : Int) old) ∧ h.IsTupleIter it a i ∧ e ≠ it) where
  mem := by simp
  obj := fun i h st b hb => by
    obtain ⟨⟨old, he⟩, ⟨o, ho, hc, hd⟩, _⟩ := st
    have e' : b = e ∨ b = it := by simpa using hb
    rcases e' with z | z
    · rw [z]; exact ⟨_, he, fun v q => nomatch q⟩
    · rw [z]; exact ⟨o, ho, fun v q => by rw [hd] at q; cases q⟩
  keep := fun i h h' st k => let ⟨⟨old, he⟩, hi, hne⟩ := st; ⟨⟨old, k e (by simp) _ he⟩, hi.at fun o q => k it (by simp) o q, hne⟩
  item := by
    intro X hP hw hK hc i pins s σ H E I hf st hg
    subst hP hw hK
    obtain ⟨⟨old, he⟩, hit, hne⟩ := st
    obtain ⟨xs, x, hq, hx⟩ := hg
    obtain ⟨its, rv, p, hz⟩ := I.tuple hq
    obtain ⟨u, hu, ru⟩ := rv.get hx
    have hel : e < s.heap.objs.size := Heap.lt_size he
    have hil : it < s.heap.objs.size := by obtain ⟨_, q, _⟩ := hit; exact Heap.lt_size q
    have D := Draws.tuple (prog := X.prog) (w := X.w) (A := X.A.in1) (I.ok.hd hc) it a (Ne.symm nea) its.toArray
    have hlt : i < its.toArray.size := by
      have := List.getElem?_eq_some_iff.mp hu
      rw [List.size_toArray]; exact this.1
    refine wpAny_pyNext_enum_itemD D he ⟨hit, (show s.heap.IsTuple a its.toArray from p)⟩ hlt hne (by simp [hne, eea]) fun x' h' tk hx' ho hs' hT hsz hk => ?_
    have ex : x' = u := by
      rw [List.getElem?_toArray] at hx'
      rw [hu] at hx'; cases hx'; rfl
    subst ex
    refine ⟨_, rfl, wpAny_letOwnedTupleGo_enum (s := { s with heap := h', toks := tk + 1 }) ho fun h'' he' sb => ?_⟩
    have hT2 : h''.get? s.heap.objs.size = some { cls := .type "tuple", data := .seq #[.int i tk, x'] } := (sb.2 _ (Nat.ne_of_gt hel)).trans hT
    have new : ObjOk X.prog X.w (upd H s.heap.objs.size (fz [.int i tk, x'] [.int (i : Nat), x])) h'' s.heap.objs.size (fz [.int i tk, x'] [.int (i : Nat), x]) :=
      fz_ok (.cons ⟨_, rfl⟩ (.cons ru .nil)) (by show 2 ≤ sizeLine; decide) hT2
    have I1 : Inv X pins σ (upd H s.heap.objs.size (fz [.int i tk, x'] [.int (i : Nat), x])) { s with heap := h'', toks := tk + 1 } :=
      I.turnedNew (ch := [e, it]) (fun b ob hb q => (sb.2 b (fun z => hb (by simp [z]))).trans (hk b ob (fun z => hb (by simp [z])) (fun z => hb (by simp [z])) q)) hf (Nat.le_refl _) new
    refine ⟨.ref s.heap.objs.size, _, I1, rfl, ⟨_, x, rfl, I.hok.fresh (Nat.le_refl _), ⟨_, rfl⟩, fun ys hy => by rw [I.tuple_inj hy hq]; exact hx⟩, ⟨⟨x', ?_⟩, hs'.1.at fun o q => (sb.2 it (Ne.symm hne)).trans q, hne⟩, fun b hb => ?_⟩
    · have e1 : ((i + 1 : Nat) : Int) = (i : Int) + 1 := by omega
      rw [e1]; exact he'
    · have hb' : b < s.heap.objs.size := by
        have e' : b = e ∨ b = it := by simpa using hb
        rcases e' with z | z
        · rw [z]; exact hel
        · rw [z]; exact hil
      rw [upd_ne (Nat.ne_of_lt hb')]
      exact (hf b hb).1
  done := by
    intro X hP hw hK hc i pins s σ H E I hf st hg
    subst hP hw hK
    obtain ⟨⟨old, he⟩, hit, hne⟩ := st
    obtain ⟨xs, hq, hx⟩ := hg
    obtain ⟨its, rv, p, hz⟩ := I.tuple hq
    obtain ⟨f0, f1, f2, f3, f4, f5⟩ := hf it (by simp)
    have hl := rv.length
    have D := Draws.tuple (prog := X.prog) (w := X.w) (A := X.A.in1) (I.ok.hd hc) it a (Ne.symm nea) its.toArray
    have ez : i = its.toArray.size := by rw [List.size_toArray]; omega
    subst ez
    exact wpAny_pyNext_enum_endD D he ⟨hit, (show s.heap.IsTuple a its.toArray from p)⟩ fun h' eb => ⟨rfl, I.turned (t' := s.toks) (fun b o hb q => eb b o hb q) f0 f1 f3 f4 f5⟩
  self := fun A i s Q E st h => let ⟨⟨_, he⟩, _⟩ := st; wpAny_pyIter_enum he h
/-- the list at a, each item in a new pair -/
def IteL (K : PySem.W.Frag) (a : Addr) : It :=
  ⟨fun i H => ∃ (xs : List V) (x : V), SqL K H a xs ∧ xs[i]? = some x, fun i H v H' => ∃ T x, v = .ref T ∧ H T = none ∧ (∃ its, H' = upd H T (fz its [.int (i : Nat), x])) ∧ ∀ xs, SqL K H a xs → xs[i]? = some x, fun i H => ∃ xs : List V, SqL K H a xs ∧ xs.length = i⟩
theorem turn_enumL {P : Program} {w : World} {K : PySem.W.Frag} {elts : List Expr} {kk : Nat} {tpos : Pos} (a e it : Addr) (nea : it ≠ a) (eea : e ≠ a) :
    Turn P w K (.Tuple elts kk tpos) (IteL K a) [e, it] e (fun i h => (∃ old, IsEnum h e it ((i : Nat) : Int) old) ∧ h.IsListIter it a i ∧ e ≠ it) where
  mem := by simp
  obj := fun i h st b hb => by
    obtain ⟨⟨old, he⟩, ⟨o, ho, hc, hd⟩, _⟩ := st
    have e' : b = e ∨ b = it := by simpa using hb
    rcases e' with z | z
    · rw [z]; exact ⟨_, he, fun v q => nomatch q⟩
    · rw [z]; exact ⟨o, ho, fun v q => by rw [hd] at q; cases q⟩
  keep := fun i h h' st k => let ⟨⟨old, he⟩, hi, hne⟩ := st; ⟨⟨old, k e (by simp) _ he⟩, hi.at fun o q => k it (by simp) o q, hne⟩
  item := by
    intro X hP hw hK hc i pins s σ H E I hf st hg
    subst hP hw hK
    obtain ⟨⟨old, he⟩, hit, hne⟩ := st
    obtain ⟨xs, x, hq, hx⟩ := hg
    obtain ⟨its, rv, p, hz⟩ := I.list hq
    obtain ⟨u, hu, ru⟩ := rv.get hx
    have hel : e < s.heap.objs.size := Heap.lt_size he
    have hil : it < s.heap.objs.size := by obtain ⟨_, q, _⟩ := hit; exact Heap.lt_size q
    have D := Draws.list (prog := X.prog) (w := X.w) (A := X.A.in1) (I.ok.hd hc) it a (Ne.symm nea) its.toArray
    have hlt : i < its.toArray.size := by
      have := List.getElem?_eq_some_iff.mp hu
      rw [List.size_toArray]; exact this.1
    refine wpAny_pyNext_enum_itemD D he ⟨hit, p.isList⟩ hlt hne (by simp [hne, eea]) fun x' h' tk hx' ho hs' hT hsz hk => ?_
    have ex : x' = u := by
      rw [List.getElem?_toArray] at hx'
      rw [hu] at hx'; cases hx'; rfl
    subst ex
    refine ⟨_, rfl, wpAny_letOwnedTupleGo_enum (s := { s with heap := h', toks := tk + 1 }) ho fun h'' he' sb => ?_⟩
    have hT2 : h''.get? s.heap.objs.size = some { cls := .type "tuple", data := .seq #[.int i tk, x'] } := (sb.2 _ (Nat.ne_of_gt hel)).trans hT
    have new : ObjOk X.prog X.w (upd H s.heap.objs.size (fz [.int i tk, x'] [.int (i : Nat), x])) h'' s.heap.objs.size (fz [.int i tk, x'] [.int (i : Nat), x]) :=
      fz_ok (.cons ⟨_, rfl⟩ (.cons ru .nil)) (by show 2 ≤ sizeLine; decide) hT2
    have I1 : Inv X pins σ (upd H s.heap.objs.size (fz [.int i tk, x'] [.int (i : Nat), x])) { s with heap := h'', toks := tk + 1 } :=
      I.turnedNew (ch := [e, it]) (fun b ob hb q => (sb.2 b (fun z => hb (by simp [z]))).trans (hk b ob (fun z => hb (by simp [z])) (fun z => hb (by simp [z])) q)) hf (Nat.le_refl _) new
    refine ⟨.ref s.heap.objs.size, _, I1, rfl, ⟨_, x, rfl, I.hok.fresh (Nat.le_refl _), ⟨_, rfl⟩, fun ys hy => by rw [I.list_inj hy hq]; exact hx⟩, ⟨⟨x', ?_⟩, hs'.1.at fun o q => (sb.2 it (Ne.symm hne)).trans q, hne⟩, fun b hb => ?_⟩
    · have e1 : ((i + 1 : Nat) : Int) = (i : Int) + 1 := by omega
      rw [e1]; exact he'
    · have hb' : b < s.heap.objs.size := by
        have e' : b = e ∨ b = it := by simpa using hb
        rcases e' with z | z
        · rw [z]; exact hel
        · rw [z]; exact hil
      rw [upd_ne (Nat.ne_of_lt hb')]
      exact (hf b hb).1
  done := by
    intro X hP hw hK hc i pins s σ H E I hf st hg
    subst hP hw hK
    obtain ⟨⟨old, he⟩, hit, hne⟩ := st
    obtain ⟨xs, hq, hx⟩ := hg
    obtain ⟨its, rv, p, hz⟩ := I.list hq
    obtain ⟨f0, f1, f2, f3, f4, f5⟩ := hf it (by simp)
    have hl := rv.length
    have D := Draws.list (prog := X.prog) (w := X.w) (A := X.A.in1) (I.ok.hd hc) it a (Ne.symm nea) its.toArray
    have ez : i = its.toArray.size := by rw [List.size_toArray]; omega
    subst ez
    exact wpAny_pyNext_enum_endD D he ⟨hit, p.isList⟩ fun h' eb => ⟨rfl, I.turned (t' := s.toks) (fun b o hb q => eb b o hb q) f0 f1 f3 f4 f5⟩
  self := fun A i s Q E st h => let ⟨⟨_, he⟩, _⟩ := st; wpAny_pyIter_enum he h
def iEnumA (K : PySem.W.Frag) (ta : TA) : TI := fun σ H R => ta σ H fun vs H1 => ∃ a xs, vs = [.ref a] ∧ ((SqL K H1 a xs ∧ R (IteL K a) H1) ∨ (SqT K H1 a xs ∧ R (IteT K a) H1))
theorem pi_enumA {X : Cx} {e : Expr} {ta : TA} {p pos tpos : Pos} {elts : List Expr} {kk : Nat} (hg : Gl X "enumerate") (hm : X.mg "enumerate" = none) (ha : PA X [e] ta) (hs : starEach [e] X.env = [(false, eval e X.env)] := by rfl) :
    PI X (.Tuple elts kk tpos) (.Call (.Name "enumerate" p) [e] [] pos) (iEnumA X.K ta) := by
  refine ⟨fun pins s σ H R I h => ?_⟩
  refine Call_ (ld_blt I hg hm boot_enumerate (PyProof.Rows.callWith_type1 (thn (ha.run pos pins s σ H _ I h) fun us s1 ⟨vs, H1, I1, r1, q1⟩ => ?_) hs rfl))
  obtain ⟨a, xs, ex, q1⟩ := q1
  subst ex
  cases r1 with
  | cons r rr =>
    cases rr
    cases r
    have fr : ∀ b, b ∈ [s1.heap.objs.size + 1, s1.heap.objs.size] → FpOk X pins H1 b := fun b hb => by
      have e' : b = s1.heap.objs.size + 1 ∨ b = s1.heap.objs.size := by simpa using hb
      have hle : s1.heap.objs.size ≤ b := by
        rcases e' with z | z
        · rw [z]; exact Nat.le_add_right _ _
        · rw [z]; exact Nat.le_refl _
      exact I1.fpOk hle (I1.hok.fresh hle)
    rcases q1 with ⟨hq, q⟩ | ⟨hq, q⟩
    · obtain ⟨its, rv, p', hz⟩ := I1.list hq
      obtain ⟨o1, ho1, _⟩ := id p'.isList
      have hlt := Heap.lt_size ho1
      refine call_enumerate_list p'.isList fun h' he hit hsz hk => wpAny_pyIter_enum he ?_
      have I2 : Inv X pins σ H1 { s1 with heap := h' } := I1.kept (t' := s1.toks) hk
      exact ⟨s1.heap.objs.size + 1, [s1.heap.objs.size + 1, s1.heap.objs.size], _, _, H1, rfl, I2, turn_enumL a (s1.heap.objs.size + 1) s1.heap.objs.size (Nat.ne_of_gt hlt) (Nat.ne_of_gt (Nat.lt_succ_of_lt hlt)), ⟨⟨.none, he⟩, hit, Nat.succ_ne_self _⟩, fr, q⟩
    · obtain ⟨its, rv, p', hz⟩ := I1.tuple hq
      obtain ⟨o1, ho1, _⟩ := id p'
      have hlt := Heap.lt_size ho1
      refine enum_begin1 (begins_tuple a its.toArray) (show s1.heap.IsTuple a its.toArray from p') fun h' he hit hsz hk => wpAny_pyIter_enum he ?_
      have I2 : Inv X pins σ H1 { s1 with heap := h' } := I1.kept (t' := s1.toks) hk
      exact ⟨s1.heap.objs.size + 1, [s1.heap.objs.size + 1, s1.heap.objs.size], _, _, H1, rfl, I2, turn_enumT a (s1.heap.objs.size + 1) s1.heap.objs.size (Nat.ne_of_gt hlt) (Nat.ne_of_gt (Nat.lt_succ_of_lt hlt)), ⟨⟨.none, he⟩, ⟨_, hit, rfl, rfl⟩, Nat.succ_ne_self _⟩, fr, q⟩
section
variable {X : Cx} {o : List Nat} {e a b : Expr} {f fa fb : Rho → Option PyData} {pos : Pos}
/-- the items of a list, a tuple -/
def enumD : Nat → List PyData → List PyData
  | _, [] => []
  | i, d :: ds => .tuple [.int (i : Nat), d] :: enumD (i + 1) ds
theorem enumD_length : ∀ (i : Nat) (ds : List PyData), (enumD i ds).length = ds.length
  | _, [] => rfl
  | i, d :: ds => congrArg Nat.succ (enumD_length (i + 1) ds)
theorem enumD_get : ∀ (k : Nat) (ds : List PyData) (i : Nat) (d : PyData), ds[i]? = some d → (enumD k ds)[i]? = some (.tuple [.int ((k + i : Nat)), d])
  | k, [], i, d, h => by simp at h
  | k, x :: ds, 0, d, h => by
    cases h; rfl
  | k, x :: ds, i + 1, d, h => by
    have := enumD_get (k + 1) ds i d (by simpa using h)
    have e : k + (i + 1) = k + 1 + i := by omega
    rw [e]
    simpa [enumD] using this
def dEnum : PyData → Option (List PyData) := fun d => (dSeqs d).map (enumD 0)
theorem wk_enumL {K : PySem.W.Frag} {ds : List PyData} {a : Addr} {vs : List V} {H1 : Hp} {P : Addr → Prop} (ha : H1 a = some (.lst vs)) (hn : ¬ P a) (ts : DqA K H1 P vs ds) : Wk K (enumD 0 ds) (IteL K a) H1 P := by
  refine ⟨fun H P i l hi => ?_, fun H P l => ?_, fun H P i x H' l tr hi y => ?_⟩
  · rw [enumD_length] at hi
    have hi' : i < vs.length := by rw [ts.length]; exact hi
    exact ⟨vs, vs[i], SqL.of (l _ _ ha hn (by first | exact nt_lst | exact nt_frz)).1, by simp [hi']⟩
  · exact ⟨vs, SqL.of (l _ _ ha hn (by first | exact nt_lst | exact nt_frz)).1, by rw [ts.length, enumD_length]⟩
  · obtain ⟨T, x, rfl, hT, ⟨its, rfl⟩, y⟩ := y
    obtain ⟨d, h1, h2⟩ := (ts.mono l).getV (y vs (SqL.of (l _ _ ha hn (by first | exact nt_lst | exact nt_frz)).1))
    have s := same_upd hT (fz its [.int (i : Nat), x])
    refine ⟨s, _, enumD_get 0 ds i d h1, ?_⟩
    rw [Nat.zero_add]
    exact .tup upd_same (fun z => by obtain ⟨u, hu⟩ := tr _ z; rw [hT] at hu; cases hu) (.cons (.int _) (.cons (h2.same s) .nil))
theorem wk_enumT {K : PySem.W.Frag} {ds : List PyData} {a : Addr} {vs : List V} {H1 : Hp} {P : Addr → Prop} (ha : ∀ H P', Lt H1 P H P' → SqT K H a vs) (ts : DqA K H1 P vs ds) : Wk K (enumD 0 ds) (IteT K a) H1 P := by
  refine ⟨fun H P i l hi => ?_, fun H P l => ?_, fun H P i x H' l tr hi y => ?_⟩
  · rw [enumD_length] at hi
    have hi' : i < vs.length := by rw [ts.length]; exact hi
    exact ⟨vs, vs[i], ha _ _ l, by simp [hi']⟩
  · exact ⟨vs, ha _ _ l, by rw [ts.length, enumD_length]⟩
  · obtain ⟨T, x, rfl, hT, ⟨its, rfl⟩, y⟩ := y
    obtain ⟨d, h1, h2⟩ := (ts.mono l).getV (y vs (ha _ _ l))
    have s := same_upd hT (fz its [.int (i : Nat), x])
    refine ⟨s, _, enumD_get 0 ds i d h1, ?_⟩
    rw [Nat.zero_add]
    exact .tup upd_same (fun z => by obtain ⟨u, hu⟩ := tr _ z; rw [hT] at hu; cases hu) (.cons (.int _) (.cons (h2.same s) .nil))
theorem wi_enum {p tpos : Pos} {elts : List Expr} {kk : Nat} (hm : X.mg "enumerate" = none) (h : EV X o a f) (hg : Gl X "enumerate" := by rfl) (hs : starEach [a] X.env = [(false, eval a X.env)] := by rfl) :
    WI X o (.Tuple elts kk tpos) (.Call (.Name "enumerate" p) [a] [] pos) (e1 f dEnum) := PI.imp (PI.szd (pi_enumA hg hm (pa_cons h pa_nil hs) hs)) fun σ H R ⟨H0, P0, P, ρ, ds, Re, e', q⟩ => by
  obtain ⟨d, ef, eg⟩ := e1_some e'
  refine ⟨H0, P0, P, ρ, _, Re, ef, fun v H1 s1 t => ?_⟩
  cases t with
  | @lst a vs ds' ha hn ts =>
    have eg : some (enumD 0 ds') = some ds := eg
    cases eg
    exact ⟨a, vs, rfl, .inl ⟨SqL.of ha, fun hz => q _ _ s1 (wk_enumL ha hn ts) (by rw [enumD_length, ← ts.length]; exact hz.1 _ _ (SqL.of ha))⟩⟩
  | @tup a its vs ds' ha hn ts =>
    have eg : some (enumD 0 ds') = some ds := eg
    cases eg
    exact ⟨a, vs, rfl, .inr ⟨sqT_fz ha, fun hz => q _ _ s1 (wk_enumT (fun H P' l => sqT_fz (l _ _ ha hn (by first | exact nt_lst | exact nt_frz)).1) ts) (by rw [enumD_length, ← ts.length]; exact hz.2 _ _ (sqT_fz ha))⟩⟩
  | _ => cases eg
end
end TF

/-! TFk.lean -/
set_option Elab.async false
set_option linter.all false
set_option maxRecDepth 100000
/-! TF.k: index, abs, sum, min, max, sorted -/
namespace TF
open PySem PySem.Spec PyProof.Rows L2
variable [OK : OwnK]
section
variable {X : Cx} {o : List Nat} {e a b : Expr} {f fa fb : Rho → Option PyData} {pos : Pos}
def dAbs : PyData → Option PyData
  | .int i => some (.int (if i < 0 then -i else i))
  | _ => none
theorem opF_abs : CallR X (.builtin "abs") (rC1 X.K dAbs) := CallR.imp call_abs fun vs H Q ⟨P, x, dx, d, ev, tr, rx, e, q⟩ => by
  subst ev
  unfold dAbs at e
  split at e
  · cases e
    exact ⟨_, by rw [rx.int], q _ H (Same.refl H) (.int _)⟩
  · cases e
def intsD : List PyData → Option (List Int)
  | [] => some []
  | .int x :: r => (intsD r).map (x :: ·)
  | _ :: _ => none
theorem intsD_rel {K : PySem.W.Frag} {H : Hp} {P : Addr → Prop} : ∀ {vs : List V} {ds : List PyData} {ys : List Int}, DqA K H P vs ds → intsD ds = some ys → vs = ys.map V.int
  | _, _, ys, .nil, e => by cases e; rfl
  | _, _, ys, .cons (d := d) h t, e => by
    cases d with
    | int x =>
      unfold intsD at e
      cases er : intsD _ with
      | none => rw [er] at e; cases e
      | some r =>
        rw [er] at e
        cases e
        cases h
        rw [intsD_rel t er, List.map_cons]
    | _ => cases e
theorem intsD_map (ns : List Int) : intsD (ns.map PyData.int) = some ns := by
  induction ns with
  | nil => rfl
  | cons n r ih => simp only [List.map_cons, intsD, ih]; rfl
def dSum : PyData → Option PyData
  | .list ds => (intsD ds).map fun ns => .int ns.sum
  | _ => none
theorem opF_sum (hc : X.calm = true) : CallR X (.builtin "sum") (rC1 X.K dSum) := CallR.imp (cr_sum hc) fun vs H Q ⟨P, x, dx, d, ev, tr, rx, e, q⟩ => by
  subst ev
  unfold dSum at e
  split at e
  · rename_i ds
    cases ei : intsD ds with
    | none => rw [ei] at e; cases e
    | some ns =>
      rw [ei] at e; cases e
      obtain ⟨a, xs, rfl, h, t⟩ := rx.lst
      rw [intsD_rel t ei] at h
      exact ⟨a, ns, rfl, SqL.of h, q _ H (Same.refl H) (.int _)⟩
  · cases e
def dMax2 : PyData → PyData → Option PyData
  | .int i, .int j => some (.int (if j > i then j else i))
  | _, _ => none
theorem opF_max2 (hc : X.calm = true) : CallR X (.builtin "max") (rC2 X.K dMax2) := CallR.imp (call_max2 hc) fun vs H Q ⟨P, x, y, dx, dy, d, ev, tr, rx, ry, e, q⟩ => by
  subst ev
  unfold dMax2 at e
  split at e
  · cases e
    exact ⟨_, _, by rw [rx.int, ry.int], q _ H (Same.refl H) (.int _)⟩
  · cases e
def dMin2 : PyData → PyData → Option PyData
  | .int i, .int j => some (.int (if j < i then j else i))
  | _, _ => none
theorem opF_min2 (hc : X.calm = true) : CallR X (.builtin "min") (rC2 X.K dMin2) := CallR.imp (call_min2 hc) fun vs H Q ⟨P, x, y, dx, dy, d, ev, tr, rx, ry, e, q⟩ => by
  subst ev
  unfold dMin2 at e
  split at e
  · cases e
    exact ⟨_, _, by rw [rx.int, ry.int], q _ H (Same.refl H) (.int _)⟩
  · cases e
/-- min, max of a list of alike data -/
def someD : PyData → Bool
  | .none => false
  | _ => true
theorem someD_ne {d : PyData} (h : someD d = true) : d ≠ .none := by rintro rfl; cases h
def alk (ds : List PyData) : Bool := ds.all fun d => pl d && someD d && ds.all fun e => PySem.W.alike d e
theorem alk_pl {ds : List PyData} (h : alk ds = true) {d : PyData} (hd : d ∈ ds) : pl d = true := by
  have := List.all_eq_true.mp h d hd
  rw [Bool.and_eq_true, Bool.and_eq_true] at this
  exact this.1.1
theorem alk_all {ds : List PyData} (h : alk ds = true) : PySem.W.AlikeAll ds := by
  refine ⟨fun x hx y hy => ?_, fun x hx => ?_⟩
  · have := List.all_eq_true.mp h x hx
    rw [Bool.and_eq_true] at this
    exact List.all_eq_true.mp this.2 y hy
  · have := List.all_eq_true.mp h x hx
    rw [Bool.and_eq_true, Bool.and_eq_true] at this
    exact someD_ne this.1.2
theorem plain_all : ∀ {ds : List PyData}, (∀ d, d ∈ ds → d.plain = true) → PyData.plainAll ds = true
  | [], _ => rfl
  | d :: ds, h => by
    simp only [PyData.plainAll, Bool.and_eq_true]
    exact ⟨h d (by simp), plain_all fun x hx => h x (by simp [hx])⟩
theorem depth_all {n : Nat} : ∀ {ds : List PyData}, (∀ d, d ∈ ds → d.depth ≤ n) → PyData.depthAll ds ≤ n
  | [], _ => by simp [PyData.depthAll]
  | d :: ds, h => by
    have h1 := h d (by simp)
    have h2 := depth_all (n := n) (ds := ds) fun x hx => h x (by simp [hx])
    simp only [PyData.depthAll]
    omega
theorem DqA.dps {K : PySem.W.Frag} {H : Hp} {P : Addr → Prop} {vs : List V} {ds : List PyData} (t : DqA K H P vs ds) (c : ∀ d, d ∈ ds → d.plain = true) : ∀ (i : Nat) (v : V), vs[i]? = some v → ∃ d, ds[i]? = some d ∧ Dp K H v d := fun i v h => by
  obtain ⟨d, h1, h2⟩ := t.getV h
  exact ⟨d, h1, h2.dp (c d (List.mem_of_getElem? h1))⟩
theorem dpA_reads {pins : List (Addr × Obj)} {σ : L2.St} {H : Hp} {s : Shared} (I : Inv X pins σ H s) {P : Addr → Prop} : ∀ {vs : List V} {ds : List PyData} {us : List Value}, DqA X.K H P vs ds → (∀ d, d ∈ ds → d.plain = true) → Vals vs us → ∃ as, ReadsAll s.heap us ds as
  | _, _, _, .nil, _, .nil => ⟨_, .nil⟩
  | _, _, _, .cons h t, c, .cons r rs => by
    obtain ⟨as, r1⟩ := Dp.reads I _ _ _ (h.dp (c _ (by simp))) r
    obtain ⟨bs, r2⟩ := dpA_reads I t (fun d hd => c d (by simp [hd])) rs
    exact ⟨_, .cons r1 r2⟩
theorem minD_mem (x : PyData) : ∀ (xs : List PyData), PySem.W.minD x xs ∈ x :: xs := by
  intro xs
  unfold PySem.W.minD
  induction xs generalizing x with
  | nil => simp
  | cons y xs ih =>
    rw [List.foldl_cons]
    have := ih (if PySem.W.dataLt y x then y else x)
    rcases List.mem_cons.mp this with h | h
    · rw [h]
      by_cases z : PySem.W.dataLt y x = true
      · rw [if_pos z]; simp
      · rw [if_neg z]; simp
    · simp [h]
theorem maxD_mem (x : PyData) : ∀ (xs : List PyData), PySem.W.maxD x xs ∈ x :: xs := by
  intro xs
  unfold PySem.W.maxD
  induction xs generalizing x with
  | nil => simp
  | cons y xs ih =>
    rw [List.foldl_cons]
    have := ih (if PySem.W.dataLt x y then y else x)
    rcases List.mem_cons.mp this with h | h
    · rw [h]
      by_cases z : PySem.W.dataLt x y = true
      · rw [if_pos z]; simp
      · rw [if_neg z]; simp
    · simp [h]
def dMin : PyData → Option PyData
  | .list (x :: xs) => if alk (x :: xs) = true then some (PySem.W.minD x xs) else none
  | _ => none
def dMax : PyData → Option PyData
  | .list (x :: xs) => if alk (x :: xs) = true then some (PySem.W.maxD x xs) else none
  | _ => none
theorem room_alk {A : Around} {ds : List PyData} (hu : A.units + 66 < cLine) (h : alk ds = true) : A.units + 1 + PyData.depthAll ds < cLine := by
  have := depth_all (n := 64) (ds := ds) fun d hd => pl_depth (alk_pl h hd)
  omega
theorem vals_getU : ∀ {xs : List V} {us : List Value} {i : Nat} {u : Value}, Vals xs us → us[i]? = some u → ∃ x, xs[i]? = some x ∧ RelV x u
  | _, _, i, u, .nil, e => by simp at e
  | _, _, 0, u, .cons r t, e => by
    cases e; exact ⟨_, rfl, r⟩
  | _, _, i + 1, u, .cons r t, e => by
    obtain ⟨x, h1, h2⟩ := vals_getU (i := i) (u := u) t (by simpa using e)
    exact ⟨x, by simpa using h1, h2⟩
theorem pick_alk {K : PySem.W.Frag} {X : Cx} {pins : List (Addr × Obj)} {σ : L2.St} {H : Hp} {s : Shared} (I : Inv X pins σ H s) {P : Addr → Prop} {vs : List V} {ds : List PyData} {us : List Value} (t : DqA X.K H P vs ds) (rv : Vals vs us) (c : ∀ d, d ∈ ds → d.plain = true)
    {i : Nat} {v : Value} {d : PyData} {h' : Heap} {bs : List Addr} (hv : us[i]? = some v) (r : Reads h' v d bs) (hd : d.plain = true) (k : ∀ b o, s.heap.get? b = some o → h'.get? b = some o) : ∃ z, RelV z v ∧ Dq X.K H P z d := by
  obtain ⟨z, hz, rz⟩ := vals_getU rv hv
  obtain ⟨d', h1, h2⟩ := t.getV hz
  obtain ⟨as, r1⟩ := Dp.reads I _ _ _ (h2.dp (c _ (List.mem_of_getElem? h1))) rz
  have e := SeqAt.plain_unique d _ _ _ _ hd r (Reads.keeps k r1)
  subst e
  exact ⟨z, rz, h2⟩
theorem opF_min (hc : X.calm = true) (hu : X.A.units + 66 < cLine) : CallR X (.builtin "min") (rC1 X.K dMin) := by
  intro pins s σ H vs us Q I r h
  obtain ⟨P, x, dx, d, ev, tr, rx, e, q⟩ := h
  subst ev
  unfold dMin at e
  split at e
  · rename_i x0 xs
    by_cases hz : alk (x0 :: xs) = true
    · rw [if_pos hz] at e; cases e
      obtain ⟨a, ys, rfl, h, t⟩ := rx.lst
      obtain ⟨its, rv, hl, _⟩ := I.list (SqL.of h)
      rw [Vals.ref1 r]
      have cp : ∀ d, d ∈ x0 :: xs → d.plain = true := fun d hd => pl_plain (alk_pl hz hd)
      obtain ⟨as, ra⟩ := dpA_reads I t cp rv
      refine PySem.W.min_list_data (I.ok.hd hc) hl.isList ra (alk_all hz) (room_alk hu hz) fun i v h' tk bs hv r' k => ?_
      obtain ⟨z, rz, dz⟩ := pick_alk I (K := X.K) t rv cp (by simpa using hv) r' (cp _ (minD_mem x0 xs)) k
      exact ⟨z, H, I.kept (t' := tk) k, rz, q z H (Same.refl H) dz⟩
    · rw [if_neg hz] at e; cases e
  · cases e
theorem opF_max (hc : X.calm = true) (hu : X.A.units + 66 < cLine) : CallR X (.builtin "max") (rC1 X.K dMax) := by
  intro pins s σ H vs us Q I r h
  obtain ⟨P, x, dx, d, ev, tr, rx, e, q⟩ := h
  subst ev
  unfold dMax at e
  split at e
  · rename_i x0 xs
    by_cases hz : alk (x0 :: xs) = true
    · rw [if_pos hz] at e; cases e
      obtain ⟨a, ys, rfl, h, t⟩ := rx.lst
      obtain ⟨its, rv, hl, _⟩ := I.list (SqL.of h)
      rw [Vals.ref1 r]
      have cp : ∀ d, d ∈ x0 :: xs → d.plain = true := fun d hd => pl_plain (alk_pl hz hd)
      obtain ⟨as, ra⟩ := dpA_reads I t cp rv
      refine PySem.W.max_list_data (I.ok.hd hc) hl.isList ra (alk_all hz) (room_alk hu hz) fun i v h' tk bs hv r' k => ?_
      obtain ⟨z, rz, dz⟩ := pick_alk I (K := X.K) t rv cp (by simpa using hv) r' (cp _ (maxD_mem x0 xs)) k
      exact ⟨z, H, I.kept (t' := tk) k, rz, q z H (Same.refl H) dz⟩
    · rw [if_neg hz] at e; cases e
  · cases e
/-! ### t.index(x) of texts -/
def idxS (z : Str) : List Str → Option Nat
  | [] => none
  | y :: ys => if y = z then some 0 else (idxS z ys).map (· + 1)
theorem idxS_at {z : Str} : ∀ {ys : List Str} {j : Nat}, idxS z ys = some j → ys[j]? = some z ∧ ∀ m, m < j → ys[m]? ≠ some z
  | [], _, h => by cases h
  | y :: ys, j, h => by
    unfold idxS at h
    by_cases e : y = z
    · rw [if_pos e] at h; cases h
      exact ⟨by simp [e], fun m hm => by omega⟩
    · rw [if_neg e] at h
      cases er : idxS z ys with
      | none => rw [er] at h; cases h
      | some i =>
        rw [er] at h; cases h
        obtain ⟨h1, h2⟩ := idxS_at er
        refine ⟨by simpa using h1, fun m hm => ?_⟩
        cases m with
        | zero => simpa using e
        | succ m => simpa using h2 m (by simp only at hm; omega)
def dIndexT : PyData → PyData → Option PyData
  | .tuple ds, .str z => (strsD ds).bind fun ys => (idxS z ys).map fun j => .int (j : Nat)
  | _, _ => none
theorem ev_indexT {apos : Pos} (ha : ER X o a fa) (hb : ER X o b fb)
    (hbase : attributeBase a "index" X.env (eval a X.env) = eval a X.env := by rfl)
    (hfew : ((backTo pos (starEach [b] X.env)).all (fun x => !x.1) && (backToKw pos (keywordEach [] X.env)).all (fun x => x.1.isSome)
      && decide (([b] : List Expr).length + ([] : List Keyword).length + (if ([] : List Keyword).isEmpty then 0 else 1) < 30)) = true := by rfl)
    (hline : (apos.endLine == pos.line) = true := by rfl) (hs : starEach [b] X.env = (false, eval b X.env) :: starEach [] X.env := by rfl) (hplain : (backTo pos (starEach [] X.env)).any (·.1) = false := by rfl) :
    EV X o (.Call (.Attribute a "index" apos) [b] [] pos) (e2 fa fb dIndexT) := PE.imp (pe_bmT PySem.F.plainAttrs_tuple PySem.F.slot_tuple_index PySem.F.type_tuple_index mt_tup_index ha (pa_cons hb pa_nil hs) hbase hfew hline hs hplain) fun σ H Q ⟨H0, P0, P, ρ, d, R, e', q⟩ => by
  obtain ⟨x, y, ea, eb, eg⟩ := e2_some e'
  unfold dIndexT at eg
  split at eg
  · rename_i ds z
    cases e3 : strsD ds with
    | none => rw [e3] at eg; cases eg
    | some ys =>
    rw [e3] at eg
    simp only [Option.bind_some] at eg
    cases e4 : idxS z ys with
    | none => rw [e4] at eg; cases eg
    | some j =>
    rw [e4] at eg; cases eg
    obtain ⟨h1, h2⟩ := idxS_at e4
    refine ⟨H0, P0, P, ρ, _, R, ea, fun v H1 s1 r1 => ?_⟩
    cases r1.tupQ with
    | @tup a its vs _ ha hn ts =>
      refine ⟨⟨a, its, vs, rfl, ha⟩, H0, P0, P, ρ, _, R.go s1, eb, fun u H2 s2 r2 => ?_⟩
      have hq : SqT X.K H2 a vs := sqT_fz (s2 _ _ ha)
      rw [strsD_rel ts e3] at hq
      exact ⟨a, ys, z, j, rfl, by rw [r2.str], hq, h1, h2, q _ H2 (s1.trans s2) (.int _)⟩
  · cases eg
/-! ### sorted(xs) of alike data -/
def srt (ds : List PyData) : Bool := alk ds && (ds.all (fun d => match d with | .tuple (_ :: _) => true | _ => false) || ds.all (fun d => match d with | .tuple _ => false | _ => true))
theorem srt_alk {ds : List PyData} (h : srt ds = true) : alk ds = true := (Bool.and_eq_true_iff.mp h).1
theorem srt_sortable {ds : List PyData} (h : srt ds = true) : PySem.W.Sortable ds := by
  have h1 := srt_alk h
  rcases Bool.or_eq_true_iff.mp (Bool.and_eq_true_iff.mp h).2 with h2 | h2
  · refine .inl fun d hd => ?_
    have := List.all_eq_true.mp h2 d hd
    split at this
    · exact ⟨_, _, rfl⟩
    · cases this
  · refine .inr fun d hd => ?_
    have := List.all_eq_true.mp h2 d hd
    have ne := (alk_all h1).2 d hd
    refine ⟨ne, fun xs e => ?_⟩
    subst e
    cases this
def dSorted : PyData → Option (List PyData)
  | .list ds => if srt ds = true then some (ds.mergeSort (PySem.W.dataLe false id)) else none
  | _ => none
theorem each_of {α β : Type} {R : α → β → Prop} : ∀ {as : List α} {bs : List β}, as.length = bs.length → (∀ (i : Nat) (a : α) (b : β), as[i]? = some a → bs[i]? = some b → R a b) → PySem.W.EachIs R as bs
  | [], [], _, _ => .nil
  | [], _ :: _, h, _ => by cases h
  | _ :: _, [], h, _ => by cases h
  | a :: as, b :: bs, h, k => .cons (k 0 a b rfl rfl) (each_of (by simpa using h) fun i x y h1 h2 => k (i + 1) x y (by simpa using h1) (by simpa using h2))
theorem each_dq {K : PySem.W.Frag} {H : Hp} {P : Addr → Prop} : ∀ {us : List Value} {ds : List PyData}, PySem.W.EachIs (fun u d => ∃ z, RelV z u ∧ Dq K H P z d) us ds → ∃ vs, Vals vs us ∧ DqA K H P vs ds
  | _, _, .nil => ⟨[], .nil, .nil⟩
  | _, _, .cons ⟨z, rz, hz⟩ t => by
    obtain ⟨vs, h1, h2⟩ := each_dq t
    exact ⟨z :: vs, .cons rz h1, .cons hz h2⟩
theorem opF_sorted (hu : X.A.units + 66 < cLine) : CallR X (.builtin "sorted") (rC1N X.K dSorted) := by
  intro pins s σ H vs us Q I r h
  obtain ⟨P, x, dx, d, ev, tr, rx, e, q⟩ := h
  subst ev
  unfold dSorted at e
  split at e
  · rename_i ds
    by_cases hz : srt ds = true
    · rw [if_pos hz] at e; cases e
      obtain ⟨a, ys, rfl, h, t⟩ := rx.lst
      obtain ⟨its, rv, hl, hsz⟩ := I.list (SqL.of h)
      rw [Vals.ref1 r]
      have hal := srt_alk hz
      have cp : ∀ d, d ∈ ds → d.plain = true := fun d hd => pl_plain (alk_pl hal hd)
      have el : its.length = ds.length := by rw [← rv.length, t.length]
      have e1 : PySem.W.EachIs (fun u d => ∃ z, RelV z u ∧ Dq X.K H P z d) its ds := each_of el fun i u d hu hd => by
        obtain ⟨z, h1, h2⟩ := vals_getU rv hu
        obtain ⟨d', h3, h4⟩ := t.getV h1
        rw [hd] at h3; cases h3
        exact ⟨z, h2, h4⟩
      have e2 : PySem.W.EachIs (fun u d => ∃ as, Reads s.heap u (id d) as) its ds := each_of el fun i u d hu hd => by
        obtain ⟨z, h1, h2⟩ := vals_getU rv hu
        obtain ⟨d', h3, h4⟩ := t.getV h1
        rw [hd] at h3; cases h3
        exact Dp.reads I _ _ _ (h4.dp (cp d (List.mem_of_getElem? hd))) h2
      refine PySem.W.sorted_data (enc := id) hl.isList e1 e2 (by rw [List.map_id]; exact fun d hd d' hd' => (alk_all hal).1 d hd d' hd') (by rw [List.map_id]; exact srt_sortable hz) (by rw [← t.length]; exact hsz)
        (fun b hb => by have := pl_depth (alk_pl hal hb); show X.A.units + 2 + b.depth < cLine; omega) fun out hlen ho => ?_
      obtain ⟨vs', hv', hd'⟩ := each_dq ho
      obtain ⟨ep, he'⟩ := PyProof.Rows.sortedAll_at s.heap its out.toArray
      have hf : H (s.heap.objs.size + 1) = none := I.hok.fresh (Nat.le_succ _)
      have hlv : vs'.length ≤ sizeLine := by rw [hv'.length, hlen, ← t.length]; exact hsz
      exact ⟨.ref _, upd H (s.heap.objs.size + 1) (.lst vs'), I.laid (t' := s.toks) (fun _ _ => PyProof.Rows.sortedAll_old) (Nat.le_succ _) ⟨hlv, out, ep, hv', he'⟩, rfl, q _ vs' _ (same_upd hf _) hf upd_same (newDq hf hd')⟩
    · rw [if_neg hz] at e; cases e
  · cases e
/-! a, b = a list of two -/
def g2L (i j : Nat) : PyData → Rho → Option Rho := fun d ρ => match d with
  | .list [x, y] => some ((ρ.set i (some x)).set j (some y))
  | _ => none
theorem g2L_some {i j : Nat} {d : PyData} {ρ ρ' : Rho} (h : g2L i j d ρ = some ρ') : ∃ x y, d = .list [x, y] ∧ ρ' = (ρ.set i (some x)).set j (some y) := by
  unfold g2L at h
  split at h
  · cases h; exact ⟨_, _, rfl, rfl⟩
  · cases h
theorem tgl_2 (i j : Nat) {tg : Expr} (h : PG X tg (gLst X.K 2 (gCons (gName i) (gCons (gName j) gNil)))) (hi : i ∉ o := by decide) (hj : j ∉ o := by decide) : TGt X o tg (g2L i j) := PG.imp h fun v σ H Q ⟨H0, P0, P, ρ, d, ρ', R, t, e, q⟩ => by
  obtain ⟨x, y, rfl, rfl⟩ := g2L_some e
  cases t with
  | @lst a vs ds' ha hn ts =>
    have hs : SqL X.K H a vs := SqL.of ha
    cases ts with
    | cons h1 ts =>
      cases ts with
      | cons h2 ts =>
        cases ts
        exact ⟨a, _, rfl, hs, rfl, _, _, rfl, _, [], rfl, rfl, q _ ((R.set hi h1).set hj h2)⟩
@[simp] theorem g2L_ev {i j : Nat} {x y : PyData} {ρ : Rho} : g2L i j (.list [x, y]) ρ = some ((ρ.set i (some x)).set j (some y)) := rfl
theorem hu66 {k : Nat} {A : Around} (hr : Room k A) : A.units + 66 < cLine := by have := hr.un; omega
end
end TF

/-! TFl.lean -/
set_option Elab.async false
set_option linter.all false
set_option maxRecDepth 100000
/-! TF.l: zip of two tuples -/
namespace TF
open PySem PySem.Spec PyProof.Rows L2
variable [OK : OwnK]
/-- the tuples at a and b, the items in new pairs known to the last field -/
def ItzF (K : PySem.W.Frag) (a b : Addr) : It :=
  ⟨fun i H => ∃ (xs ys : List V) (x y : V), SqT K H a xs ∧ SqT K H b ys ∧ xs[i]? = some x ∧ ys[i]? = some y,
    fun i H v H' => ∃ T x y its, v = .ref T ∧ H T = none ∧ H' = upd H T (fz its [x, y]) ∧ (∀ xs, SqT K H a xs → xs[i]? = some x) ∧ ∀ ys, SqT K H b ys → ys[i]? = some y,
    fun i H => ∃ xs ys : List V, SqT K H a xs ∧ SqT K H b ys ∧ (xs.length ≤ i ∨ ys.length ≤ i)⟩
theorem turn_zipF {P : Program} {w : World} {K : PySem.W.Frag} {elts : List Expr} {kk : Nat} {tpos : Pos} {a b z TI TO i1 i2 : Addr} (D : ZipApart z TI TO i1 i2 a b) :
    Turn P w K (.Tuple elts kk tpos) (ItzF K a b) [z, TI, TO, i1, i2] z (fun i h => IsZip h z TI TO .none ∧ IsPair h TI (.ref i1) (.ref i2) ∧ (∃ x y, IsPair h TO x y) ∧ h.IsTupleIter i1 a i ∧ h.IsTupleIter i2 b i) where
  mem := by simp
  obj := fun i h st c hc => by
    obtain ⟨hz, hTI, ⟨x, y, hTO⟩, ⟨o1, e1, _, d1⟩, ⟨o2, e2, _, d2⟩⟩ := st
    have e' : c = z ∨ c = TI ∨ c = TO ∨ c = i1 ∨ c = i2 := by simpa using hc
    rcases e' with q | q | q | q | q
    · rw [q]; exact ⟨_, hz, fun v q => nomatch q⟩
    · rw [q]; exact ⟨_, hTI, fun v q => nomatch q⟩
    · rw [q]; exact ⟨_, hTO, fun v q => nomatch q⟩
    · rw [q]; exact ⟨o1, e1, fun v q => by rw [d1] at q; cases q⟩
    · rw [q]; exact ⟨o2, e2, fun v q => by rw [d2] at q; cases q⟩
  keep := fun i h h' st k => by
    obtain ⟨hz, hTI, ⟨x, y, hTO⟩, h1, h2⟩ := st
    exact ⟨k z (by simp) _ hz, k TI (by simp) _ hTI, ⟨x, y, k TO (by simp) _ hTO⟩, h1.at fun o q => k i1 (by simp) o q, h2.at fun o q => k i2 (by simp) o q⟩
  item := by
    intro X hP hw hK hc i pins s σ H E I hf st hg
    subst hP hw hK
    obtain ⟨hz, hTI, ⟨x0, y0, hTO⟩, h1, h2⟩ := st
    obtain ⟨xs, ys, x, y, hqx, hqy, hx, hy⟩ := hg
    obtain ⟨its, rv, p, _⟩ := I.tuple hqx
    obtain ⟨its2, rv2, p2, _⟩ := I.tuple hqy
    obtain ⟨u, hu, ru⟩ := rv.get hx
    obtain ⟨u2, hu2, ru2⟩ := rv2.get hy
    have hzl : z < s.heap.objs.size := Heap.lt_size hz
    refine RZ.pyNext_zipT_item D hz hTI hTO h1 h2 p p2 (x := u) (y := u2) (by simpa using hu) (by simpa using hu2) fun h' z' TO' h1' h2' hT hsz hk => ?_
    refine ⟨_, rfl, wpAny_letOwnedTupleGo_zip (s := { s with heap := h' }) z' fun h'' z'' sb => ?_⟩
    have hT2 : h''.get? s.heap.objs.size = some { cls := .type "tuple", data := .seq #[u, u2] } := (sb.2 _ (Nat.ne_of_gt hzl)).trans hT
    have new : ObjOk X.prog X.w (upd H s.heap.objs.size (fz [u, u2] [x, y])) h'' s.heap.objs.size (fz [u, u2] [x, y]) :=
      fz_ok (.cons ru (.cons ru2 .nil)) (by show 2 ≤ sizeLine; decide) hT2
    have I1 : Inv X pins σ (upd H s.heap.objs.size (fz [u, u2] [x, y])) { s with heap := h'' } :=
      I.turnedNew (t' := s.toks) (ch := [z, TI, TO, i1, i2]) (fun c o hb q => (sb.2 c (fun q' => hb (by simp [q']))).trans (hk c o (fun q' => hb (by simp [q'])) (fun q' => hb (by simp [q'])) (fun q' => hb (by simp [q'])) (fun q' => hb (by simp [q'])) q)) hf (Nat.le_refl _) new
    refine ⟨.ref s.heap.objs.size, _, I1, rfl, ⟨_, x, y, _, rfl, I.hok.fresh (Nat.le_refl _), rfl, fun l hl => by rw [I.tuple_inj hl hqx]; exact hx, fun l hl => by rw [I.tuple_inj hl hqy]; exact hy⟩, ⟨z'', ?_, ⟨u, u2, ?_⟩, ?_, ?_⟩, fun c hcm => ?_⟩
    · exact (sb.2 _ D.TIz).trans (hk _ _ D.TIz D.TITO D.TIi1 D.TIi2 hTI)
    · exact (sb.2 _ D.TOz).trans TO'
    · exact h1'.at fun o q => (sb.2 _ D.i1z).trans q
    · exact h2'.at fun o q => (sb.2 _ D.i2z).trans q
    · have hlt : c < s.heap.objs.size := by
        have e' : c = z ∨ c = TI ∨ c = TO ∨ c = i1 ∨ c = i2 := by simpa using hcm
        rcases e' with q | q | q | q | q
        · rw [q]; exact hzl
        · rw [q]; exact Heap.lt_size hTI
        · rw [q]; exact Heap.lt_size hTO
        · rw [q]; obtain ⟨_, e1, _⟩ := h1; exact Heap.lt_size e1
        · rw [q]; obtain ⟨_, e2, _⟩ := h2; exact Heap.lt_size e2
      rw [upd_ne (Nat.ne_of_lt hlt)]
      exact (hf c hcm).1
  done := by
    intro X hP hw hK hc i pins s σ H E I hf st hg
    subst hP hw hK
    obtain ⟨hz, hTI, ⟨x0, y0, hTO⟩, h1, h2⟩ := st
    obtain ⟨xs, ys, hqx, hqy, hend⟩ := hg
    obtain ⟨its, rv, p, _⟩ := I.tuple hqx
    obtain ⟨its2, rv2, p2, _⟩ := I.tuple hqy
    have l1 := rv.length
    have l2 := rv2.length
    have he : its.toArray[i]? = none ∨ its2.toArray[i]? = none := by
      rcases hend with q | q
      · exact .inl (by simp; omega)
      · exact .inr (by simp; omega)
    exact RZ.pyNext_zipT_end (I.ok.hd hc) D hz hTI hTO h1 h2 p p2 he fun h' hk => ⟨rfl, I.turnedL (t' := s.toks) (ch := [z, TI, TO, i1, i2]) (fun c o hb q =>
      hk c o (fun q' => hb (by simp [q'])) (fun q' => hb (by simp [q'])) (fun q' => hb (by simp [q'])) (fun q' => hb (by simp [q'])) q) hf⟩
  self := fun A i s Q E st h => wpAny_pyIter_zip st.1 h
def iZipF (K : PySem.W.Frag) (ta : TA) : TI := fun σ H R => ta σ H fun vs H1 => ∃ a b xs ys, vs = [.ref a, .ref b] ∧ SqT K H1 a xs ∧ SqT K H1 b ys ∧ R (ItzF K a b) H1
theorem pi_zipF {X : Cx} {e e2 : Expr} {ta : TA} {p pos tpos : Pos} {elts : List Expr} {kk : Nat} (hg : Gl X "zip") (hm : X.mg "zip" = none) (ha : PA X [e, e2] ta)
    (hs : starEach [e, e2] X.env = (false, eval e X.env) :: starEach [e2] X.env := by rfl) (hpl : (backTo pos (starEach [e2] X.env)).any (·.1) = false := by rfl) :
    PI X (.Tuple elts kk tpos) (.Call (.Name "zip" p) [e, e2] [] pos) (iZipF X.K ta) := by
  refine ⟨fun pins s σ H R I h => ?_⟩
  refine Call_ (ld_blt I hg hm PyProof.Rows.boot_zip (PyProof.Rows.callWith_type1 (thn (ha.run pos pins s σ H _ I h) fun us s1 ⟨vs, H1, I1, r1, q1⟩ => ?_) hs hpl))
  obtain ⟨a, b, xs, ys, ex, hqx, hqy, q⟩ := q1
  subst ex
  obtain ⟨u1, u2, rfl, r, r'⟩ := Vals.two r1
  cases r
  cases r'
  obtain ⟨its, rv, p1, _⟩ := I1.tuple hqx
  obtain ⟨its2, rv2, p2, _⟩ := I1.tuple hqy
  obtain ⟨o1, ho1, _⟩ := id p1
  obtain ⟨o2, ho2, _⟩ := id p2
  refine RZ.call_zipT (show s1.heap.IsTuple a its.toArray from p1) (show s1.heap.IsTuple b its2.toArray from p2) fun h' hz hTI hTO h1 h2 hsz hk => wpAny_pyIter_zip hz ?_
  refine ⟨s1.heap.objs.size + 4, [s1.heap.objs.size + 4, s1.heap.objs.size + 2, s1.heap.objs.size + 3, s1.heap.objs.size, s1.heap.objs.size + 1], _, _, H1, rfl, I1.kept (t' := s1.toks) hk, turn_zipF (PySem.W.ktu_apart s1.heap.objs.size a b (Heap.lt_size ho1) (Heap.lt_size ho2)), ⟨hz, hTI, ⟨_, _, hTO⟩, h1, h2⟩, fun c hcm => ?_, q⟩
  have hle : s1.heap.objs.size ≤ c := by
    have e' : c = s1.heap.objs.size + 4 ∨ c = s1.heap.objs.size + 2 ∨ c = s1.heap.objs.size + 3 ∨ c = s1.heap.objs.size ∨ c = s1.heap.objs.size + 1 := by simpa using hcm
    rcases e' with z | z | z | z | z
    · rw [z]; exact Nat.le_add_right _ _
    · rw [z]; exact Nat.le_add_right _ _
    · rw [z]; exact Nat.le_add_right _ _
    · rw [z]; exact Nat.le_refl _
    · rw [z]; exact Nat.le_add_right _ _
  exact I1.fpOk hle (I1.hok.fresh hle)
section
variable {X : Cx} {o : List Nat} {e a b : Expr} {f fa fb : Rho → Option PyData} {pos : Pos}
/-! ### zip -/
def zipD : List PyData → List PyData → List PyData
  | x :: xs, y :: ys => .tuple [x, y] :: zipD xs ys
  | _, _ => []
theorem zipD_length : ∀ (xs ys : List PyData), (zipD xs ys).length = min xs.length ys.length
  | [], ys => by simp [zipD]
  | x :: xs, [] => by simp [zipD]
  | x :: xs, y :: ys => by simp only [zipD, List.length_cons, zipD_length xs ys]; omega
theorem zipD_get : ∀ (xs ys : List PyData) (i : Nat) (x y : PyData), xs[i]? = some x → ys[i]? = some y → (zipD xs ys)[i]? = some (.tuple [x, y])
  | [], ys, i, x, y, h, _ => by simp at h
  | x' :: xs, [], i, x, y, _, h => by simp at h
  | x' :: xs, y' :: ys, 0, x, y, h, h' => by cases h; cases h'; rfl
  | x' :: xs, y' :: ys, i + 1, x, y, h, h' => by
    have := zipD_get xs ys i x y (by simpa using h) (by simpa using h')
    simpa [zipD] using this
def dZip : PyData → PyData → Option (List PyData)
  | .tuple xs, .tuple ys => some (zipD xs ys)
  | _, _ => none
def AtT (K : PySem.W.Frag) (H1 : Hp) (P : Addr → Prop) (a : Addr) (vs : List V) : Prop := ∀ H P', Lt H1 P H P' → SqT K H a vs
theorem wk_zipT {K : PySem.W.Frag} {ds es : List PyData} {a b : Addr} {vs ws : List V} {H1 : Hp} {P : Addr → Prop} (ha : AtT K H1 P a vs) (hb : AtT K H1 P b ws) (ts : DqA K H1 P vs ds) (us : DqA K H1 P ws es) : Wk K (zipD ds es) (ItzF K a b) H1 P := by
  refine ⟨fun H P i l hi => ?_, fun H P l => ?_, fun H P i x H' l tr hi y => ?_⟩
  · rw [zipD_length] at hi
    have hi' : i < vs.length := by rw [ts.length]; omega
    have hi2 : i < ws.length := by rw [us.length]; omega
    exact ⟨vs, ws, vs[i], ws[i], ha _ _ l, hb _ _ l, by simp [hi'], by simp [hi2]⟩
  · refine ⟨vs, ws, ha _ _ l, hb _ _ l, ?_⟩
    rw [ts.length, us.length, zipD_length]; omega
  · obtain ⟨T, x, y', its, rfl, hT, rfl, y1, y2⟩ := y
    obtain ⟨d, h1, h2⟩ := (ts.mono l).getV (y1 vs (ha _ _ l))
    obtain ⟨d', h1', h2'⟩ := (us.mono l).getV (y2 ws (hb _ _ l))
    have s := same_upd hT (fz its [x, y'])
    exact ⟨s, _, zipD_get ds es i d d' h1 h1', .tup upd_same (fun z => by obtain ⟨u, hu⟩ := tr _ z; rw [hT] at hu; cases hu) (.cons (h2.same s) (.cons (h2'.same s) .nil))⟩
theorem Dq.atT {K : PySem.W.Frag} {H : Hp} {P : Addr → Prop} {v : V} {ds : List PyData} (t : Dq K H P v (.tuple ds)) : ∃ a vs, v = .ref a ∧ AtT K H P a vs ∧ DqA K H P vs ds := by
  cases t with
  | @tup a its vs ds' ha hn ts => exact ⟨a, vs, rfl, fun H' P' l => sqT_fz (l _ _ ha hn (by first | exact nt_lst | exact nt_frz)).1, ts⟩
theorem lt_refl' {H : Hp} {P : Addr → Prop} : Lt H P H P := fun a u h n _ => ⟨h, n⟩
theorem wi_zip {p tpos : Pos} {elts : List Expr} {kk : Nat} (hm : X.mg "zip" = none) (ha : EV X o a fa) (hb : EV X o b fb) (hg : Gl X "zip" := by rfl)
    (hs : starEach [a, b] X.env = (false, eval a X.env) :: starEach [b] X.env := by rfl) (hs2 : starEach [b] X.env = (false, eval b X.env) :: starEach [] X.env := by rfl) (hpl : (backTo pos (starEach [b] X.env)).any (·.1) = false := by rfl) :
    WI X o (.Tuple elts kk tpos) (.Call (.Name "zip" p) [a, b] [] pos) (e2 fa fb dZip) := PI.imp (PI.szd (pi_zipF hg hm (pa_cons ha (pa_cons hb pa_nil hs2) hs) hs hpl)) fun σ H R ⟨H0, P0, P, ρ, ds, Re, e', q⟩ => by
  obtain ⟨x, y, ea, eb, eg⟩ := e2_some e'
  refine ⟨H0, P0, P, ρ, _, Re, ea, fun v H1 s1 t1 => ⟨H0, P0, P, ρ, _, Re.go s1, eb, fun u H2 s2 t2 => ?_⟩⟩
  have t1 := t1.same s2
  unfold dZip at eg
  split at eg
  · cases eg
    obtain ⟨a, vs, rfl, ha, ts⟩ := t1.atT
    obtain ⟨b, ws, rfl, hb, us⟩ := t2.atT
    refine ⟨a, b, vs, ws, rfl, ha _ _ lt_refl', hb _ _ lt_refl', fun hz => q _ _ (s1.trans s2) (wk_zipT ha hb ts us) ?_⟩
    have := hz.2 _ _ (ha _ _ lt_refl')
    rw [zipD_length, ← ts.length]; omega
  · cases eg
@[simp] theorem dZip_ev {ds es : List PyData} : dZip (.tuple ds) (.tuple es) = some (zipD ds es) := rfl
end
end TF

/-! TFm.lean -/
set_option Elab.async false
set_option linter.all false
set_option maxRecDepth 100000
/-! TF.m: t[::-1] -/
namespace TF
open PySem PySem.Spec PyProof.Rows L2
variable [OK : OwnK]
section
variable {prog : Program} {w : World} {A : Around} {E : Value → Shared → Prop} {s : Shared}
theorem back_places (n : Nat) : Builtin.Slice.sliceAdjust none none (-1) (n : Int) = ((n : Int) - 1, -1) := by
  unfold Builtin.Slice.sliceAdjust
  simp
theorem back_count (n : Nat) : Builtin.Slice.slicePlaces ((n : Int) - 1) (-1) (-1) = n := by
  unfold Builtin.Slice.slicePlaces
  have h1 : ¬ ((-1 : Int) > 0) := by omega
  simp only [h1, if_false]
  split <;> (try simp) <;> omega
theorem sliceApplied_back {sl : Addr} {u : Tok} {n : Nat} {Q : Int × Int × Nat → Shared → Prop} (hs : s.heap.IsSliceOf sl .none .none (.int (-1) u))
    (h : Q ((n : Int) - 1, -1, n) s) : wpAny (model prog w) A (Builtin.Slice.sliceApplied (.ref sl) (pure (n : Int))) Q E s := by
  obtain ⟨os, hos, hcs, hds⟩ := id hs
  unfold Builtin.Slice.sliceApplied Builtin.Slice.sliceFields
  refine wpAny_bind (wpAny_bind (wpAny_field hos hds (x := .none) rfl (wpAny_bind (wpAny_field hos hds (x := .none) rfl (wpAny_bind (wpAny_field hos hds (x := .int (-1) u) rfl (wpAny_pure ?_)))))))
  refine wpAny_bind (HT.slicePart_ (.int (-1) u) ?_)
  show wpAny _ _ (if ((-1 : Int) == 0) = true then _ else _) _ _ s
  rw [if_neg (by decide)]
  refine wpAny_bind (HT.slicePart_ .none (wpAny_bind (HT.slicePart_ .none (wpAny_bind (wpAny_pure ?_)))))
  show wpAny _ _ (match Builtin.Slice.sliceAdjust none none (-1) (n : Int) with | (lo, hi) => pure (lo, (-1 : Int), Builtin.Slice.slicePlaces lo hi (-1))) _ _ s
  rw [back_places n]
  show wpAny _ _ (pure ((n : Int) - 1, (-1 : Int), Builtin.Slice.slicePlaces ((n : Int) - 1) (-1) (-1))) _ _ s
  rw [back_count]
  exact wpAny_pure h
theorem fm_congr {α β : Type} {f g : α → Option β} : ∀ (l : List α), (∀ x ∈ l, f x = g x) → l.filterMap f = l.filterMap g
  | [], _ => rfl
  | x :: l, h => by
    have e := h x (by simp)
    have t := fm_congr l fun y hy => h y (by simp [hy])
    rw [List.filterMap_cons, List.filterMap_cons, e, t]
theorem pick_back (xs : Array Value) : ((List.range xs.size).filterMap fun (m : Nat) => xs[(((xs.size : Int) - 1) + (m : Int) * (-1)).toNat]?) = xs.toList.reverse := by
  have h := PySem.W.krv_all xs
  have e : ((List.range xs.size).filterMap fun (m : Nat) => xs[(((xs.size : Int) - 1) + (m : Int) * (-1)).toNat]?) = ((List.range xs.size).map fun k => xs.size - 1 - k).filterMap (xs[·]?) := by
    rw [List.filterMap_map]
    refine fm_congr _ fun m hm => ?_
    have := List.mem_range.mp hm
    show xs[(((xs.size : Int) - 1) + (m : Int) * (-1)).toNat]? = xs[xs.size - 1 - m]?
    congr 1
    omega
  rw [e, PySem.W.krv_range, List.filterMap_reverse, h]
theorem getItem_tuple_back {t sl : Addr} {items : Array Value} {u : Tok} {Q : Value → Shared → Prop} (ht : IsTup s.heap t items) (hs : s.heap.IsSliceOf sl .none .none (.int (-1) u))
    (h : Q (.ref s.heap.objs.size) { s with heap := s.heap.push { cls := .type "tuple", data := .seq items.toList.reverse.toArray } }) (hsz : items.size ≤ sizeLine) : wpAny (model prog w) A (getItem (.ref t) (.ref sl)) Q E s := by
  have hok : sizeOk (.seq items.toList.reverse.toArray) := by
    show items.toList.reverse.toArray.size ≤ sizeLine
    rw [List.size_toArray, List.length_reverse, Array.length_toList]; exact hsz
  obtain ⟨os, hos, hcs, hds⟩ := id hs
  have hTs : s.TypeIs (.ref sl) "slice" := ⟨os, hos, hcs⟩
  unfold getItem
  try with_reducible refine wpAny_holding ?_
  first | refine wpAny_bind (wpAny_pure ?_) | skip
  refine wpAny_bind (wpAny_sequenceKey ht.typeIs (by decide) ?_)
  refine wpAny_bind (wpAny_callSpecial?_slot (name := Str.ofString "__getitem__") ht.typeIs PyProof.Rows.slot_tuple_getitem
    (wpAny_call_entry PyProof.Rows.slot_tuple_getitem ht.typeIs entry_tuple_getitem ?_ (args_tuple_getitem _ _)))
  show wpAny _ _ (Builtin.Tuple.tupleItemsOf (.ref t) >>= _) _ _ s
  refine wpAny_bind (tupleItemsOf_ ht ?_)
  refine wpAny_bind (wpAny_typeOf hTs ?_)
  rw [if_pos (by decide)]
  refine wpAny_bind (sliceApplied_back hs ?_)
  have hno : ¬ ((((items.size : Int) - 1) == 0 && (-1 : Int) == 1 && items.size == items.size) = true) := by
    intro q
    rw [Bool.and_eq_true, Bool.and_eq_true] at q
    exact absurd q.1.2 (by decide)
  show wpAny _ _ (if (((items.size : Int) - 1) == 0 && (-1 : Int) == 1 && items.size == items.size) = true then _ else _) _ _ s
  rw [if_neg hno, pick_back]
  first
    | exact wpAny_bind (m := Builtin.Tuple.tupleExact _) (wpAny_newObj_type (wpAny_pure ⟨_, rfl, wpAny_pure h⟩) hok)
    | exact wpAny_bind (m := Builtin.Tuple.tupleExact _) (wpAny_newObj_type (wpAny_bind (wpAny_pure (wpAny_pure ⟨_, rfl, wpAny_pure h⟩))) hok)
    | exact wpAny_bind (wpAny_bind (m := Builtin.Tuple.tupleExact _) (wpAny_newObj_type (wpAny_pure (wpAny_pure ⟨_, rfl, wpAny_pure h⟩)) hok))
    | exact wpAny_bind (wpAny_bind (m := Builtin.Tuple.tupleExact _) (wpAny_newObj_type (wpAny_pure ⟨_, rfl, wpAny_pure h⟩) hok))
end
section
variable {X : Cx} {o : List Nat} {e : Expr} {f : Rho → Option PyData} {pos : Pos}
def tRevT (K : PySem.W.Frag) (te : TE) : TE := fun σ H Q => te σ H fun x H1 => ∃ a xs, x = .ref a ∧ SqT K H1 a xs ∧ ∀ p its, H1 p = none → Q (.ref p) (upd H1 p (fz its xs.reverse))
theorem pe_revT {te : TE} {k : Nat} {p1 p2 p3 : Pos} (he : PE X e te) : PE X (.Subscript e (.Slice none none (some (.UnaryOp .USub (.Constant (.int 1) k p1) p2)) p3) pos) (tRevT X.K te) := by
  refine ⟨fun pins s σ H Q I h => ?_⟩
  refine Subscript_ (thn (he.run pins s σ H _ I h) fun v s1 ⟨x, H1, I1, r1, q1⟩ => ?_)
  obtain ⟨a, xs, ex, hx, q⟩ := q1
  subst ex
  cases r1
  have hst : PO X (some (.UnaryOp .USub (.Constant (.int 1) k p1) p2)) (tPart (tUn (rU fun i => .int (-i)) (tC (.int 1)))) := po_some (pe_un un_neg pe_int)
  refine wpAny_Slice (thn (po_none.run pins s1 σ H1 (fun o H2 => o = none ∧ H2 = H1) I1 ⟨rfl, rfl⟩) fun vl s2 ⟨l, H2, I2, pl, el, e2⟩ => ?_)
  subst el e2
  refine thn (po_none.run pins s2 σ H2 (fun o H3 => o = none ∧ H3 = H2) I2 ⟨rfl, rfl⟩) fun vu s3 ⟨u, H3, I3, pu, eu, e3⟩ => ?_
  subst eu e3
  refine thn (hst.run pins s3 σ H3 (fun o H4 => o = some (-1) ∧ H4 = H3) I3 ⟨1, rfl, -1, rfl, rfl, rfl⟩) fun vs s4 ⟨o, H4, I4, ps, eo, e4⟩ => ?_
  subst eo e4
  cases pl
  cases pu
  obtain ⟨tk, rfl⟩ : ∃ tk, vs = .int (-1) tk := by
    cases ps with
    | int _ t => exact ⟨t, rfl⟩
  have I5 : Inv X pins σ H4 { s4 with heap := s4.heap.push { cls := .type "slice", data := .fields #[.none, .none, .int (-1) tk] } } := I4.kept (t' := s4.toks) fun b ob q => Heap.get?_push_of_some _ q
  obtain ⟨its, r, ht, hz⟩ := I5.tuple hx
  have hlen := r.length
  show wpAny (model X.prog X.w) X.A (subscriptTail e (.Slice none none (some (.UnaryOp .USub (.Constant (.int 1) k p1) p2)) p3) (.ref a) (.ref s4.heap.objs.size)) (EP X pins σ Q) X.xe { s4 with heap := s4.heap.push { cls := .type "slice", data := .fields #[.none, .none, .int (-1) tk] } }
  refine tail_any (ops := [.ref a, .ref s4.heap.objs.size]) ht.typeIs (PyProof.Rows.slot_tuple_getitem.lookup) ?_ (by with_unfolding_all rfl)
  refine getItem_tuple_back ht (Heap.IsSliceOf.new _ .none .none (.int (-1) tk)) ?_ (by rw [List.size_toArray]; omega)
  exact ⟨.ref _, _, I5.laid (t' := s4.toks) (fun b ob q => Heap.get?_push_of_some _ q) (Nat.le_refl _) (fz_ok r.reverse (by rw [List.length_reverse]; exact hz) (Heap.get?_push_size _ rfl)), rfl, q _ _ (I5.hok.fresh (Nat.le_refl _))⟩
def dRev : PyData → Option PyData
  | .tuple ds => some (.tuple ds.reverse)
  | _ => none
theorem ev_rev {k : Nat} {p1 p2 p3 : Pos} (h : ER X o e f) : EV X o (.Subscript e (.Slice none none (some (.UnaryOp .USub (.Constant (.int 1) k p1) p2)) p3) pos) (e1 f dRev) := PE.imp (pe_revT h) fun σ H Q ⟨H0, P0, P, ρ, d, R, e', q⟩ => by
  obtain ⟨x, ef, eg⟩ := e1_some e'
  unfold dRev at eg
  split at eg
  · cases eg
    refine ⟨H0, P0, P, ρ, _, R, ef, fun v H1 s1 r1 => ?_⟩
    obtain ⟨a, xs, rfl, h, t⟩ := r1.tup
    exact ⟨a, xs, rfl, h, fun p its hp => q _ _ (s1.trans (same_upd hp _)) (.tup upd_same ((R.go s1).newP hp) (t.reverse.same (same_upd hp _)))⟩
  · cases eg
@[simp] theorem dRev_ev {ds : List PyData} : dRev (.tuple ds) = some (.tuple ds.reverse) := rfl
end
end TF

/-! TFn.lean -/
set_option Elab.async false
set_option linter.all false
set_option maxRecDepth 100000
/-! TF.n: sorted of tuples, too -/
namespace TF
open PySem PySem.Spec PyProof.Rows L2
variable [OK : OwnK]
section
variable {prog : Program} {w : World} {A : Around} {E : Value → Shared → Prop} {s : Shared}
theorem collect_tup {l : Addr} {vs : List Value} {Q : List Value → Shared → Prop} (hl : IsTup s.heap l vs.toArray)
    (h : Q vs { s with heap := (s.heap.push (seqObj "list" #[] 0)).update s.heap.objs.size (Obj.mapSeq (· ++ vs.toArray)) }) (hsz : vs.length ≤ sizeLine) :
    wpAny (model prog w) A (collect (.ref l)) Q E s := by
  obtain ⟨o, ho, hc, n, hd⟩ := id hl
  unfold collect
  refine wpAny_bind (wpAny_runValue (codeAny_builtin entry_proto_collect' ?_))
  show wpAny _ _ (do again (.builtin "list.__iadd__" ⟨[← newList [], .ref l], []⟩)) _ _ s
  refine wpAny_bind (wpAny_newList (wpAny_pure ⟨Code.quiet_builtin _ (by decide +kernel), codeAny_builtin entry_list_iadd' ?_⟩))
  show wpAny _ _ (Builtin.List.listExtendWith (.ref s.heap.objs.size) (.ref l) (.ref s.heap.objs.size)) _ _ { s with heap := s.heap.push (seqObj "list" #[] 0) }
  unfold Builtin.List.listExtendWith
  have ho' : (s.heap.push (seqObj "list" #[] 0)).get? l = some o := Heap.get?_push_of_some _ ho
  refine wpAny_bind (wpAny_typeOf (T := "tuple") ⟨o, ho', hc⟩ ?_)
  have ht : (Value.type "tuple" == Value.type "tuple") = true := by rfl
  rw [if_pos (by rw [ht]; simp)]
  refine wpAny_bind (listItems_at ho' hd ?_)
  refine wpAny_bind (listItems_at (xs := #[]) (n := 0) (Heap.get?_push_size _ rfl) rfl ?_)
  rw [if_neg (by simp)]
  refine wpAny_bind (listUpdate_at (xs := #[]) (n := 0) (Heap.get?_push_size _ rfl) rfl ?_ (Nat.zero_le _) (by show (#[] ++ vs.toArray).size ≤ sizeLine + 1; simp only [Array.size_append, List.size_toArray, List.length_nil]; omega))
  refine wpAny_pure ?_
  show wpAny (model prog w) A (do
      let o ← load s.heap.objs.size
      match o.data with
      | .seq xs _ => pure xs.toList
      | _ => unsupported "internal:collect") Q E { s with heap := (s.heap.push (seqObj "list" #[] 0)).update s.heap.objs.size (Obj.mapSeq (· ++ vs.toArray)) }
  refine wpAny_bind (wpAny_load (get?_update_seq (Heap.get?_push_size _ rfl) _) ?_)
  show wpAny _ _ (pure ((#[] : Array Value) ++ vs.toArray).toList) Q E _
  rw [show ((#[] : Array Value) ++ vs.toArray).toList = vs by simp]
  exact wpAny_pure h
theorem size_push'' (h : Heap) (o : Obj) : (h.push o).objs.size = h.objs.size + 1 := Heap.size_push ..
theorem sorted_tup_of {l : Addr} {vs : List Value} {kw : List (Str × Value)} {Q : Value → Shared → Prop} (hl : IsTup s.heap l vs.toArray) (hL : vs.length ≤ sizeLine) (ha1 : argsOk "sorted" ⟨[.ref l], kw⟩) (ha2 : ∀ x, argsOk "list.sort" ⟨[.ref x], kw⟩)
    (body : ∀ E' : Value → Shared → Prop, wpAny (model prog w) A.in1.in1 (Builtin.«list.sort» ⟨[.ref (s.heap.objs.size + 1)], kw⟩) (fun f s' => f = .done (.ret .none) ∧ Q (.ref (s.heap.objs.size + 1)) s') E' { s with heap := PySem.W.copyHeap s.heap vs }) :
    wpAny (model prog w) A (call (.builtin "sorted") [.ref l] kw) Q E s := by
  refine call_function_entry_kw kind_sorted plain_sorted entry_sorted ha1 ?_
  unfold Builtin.«sorted»
  refine wpAny_bind (m := checkCount "sorted" 1 1 _) (wpAny_pure ?_)
  refine wpAny_bind (collect_tup hl ?_ hL)
  refine wpAny_bind (wpAny_newList ?_ hL)
  have hsz : ((s.heap.push (seqObj "list" #[] 0)).update s.heap.objs.size (Obj.mapSeq (· ++ vs.toArray))).objs.size = s.heap.objs.size + 1 := by
    rw [Heap.size_update, size_push'']
  show wpAny _ _ _ _ _ { s with heap := PySem.W.copyHeap s.heap vs }
  rw [hsz]
  refine wpAny_bind (wpAny_holding (wpAny_call_entry_kw slot_list_sort ⟨_, PySem.W.copyHeap_at s.heap vs, rfl⟩ entry_list_sort ?body (ha2 _)))
  case body =>
    show wpAny (model prog w) A.in1.in1 (Builtin.«list.sort» ⟨[.ref (s.heap.objs.size + 1)], kw⟩) _ _ _
    refine wpAny_mono (body _) (fun f s' hf => ?_) fun _ _ e => e
    obtain ⟨rfl, hq⟩ := hf
    exact ⟨_, rfl, wpAny_pure ⟨_, rfl, hq⟩⟩
theorem sorted_tup_data {prog : Program} {w : World} {A : Around} {E : Value → Shared → Prop} {s : Shared} {β : Type} {R : Value → β → Prop} {enc : β → PyData} {vs : List Value} {bs : List β} {l : Addr} {Q : Value → Shared → Prop} (hl : IsTup s.heap l vs.toArray) (e : PySem.W.EachIs R vs bs) (er : PySem.W.EachIs (fun v b => ∃ as, Reads s.heap v (enc b) as) vs bs) (hal : PySem.W.AllAlike (bs.map enc)) (hk : PySem.W.Sortable (bs.map enc)) (hL : bs.length ≤ sizeLine)
    (hu : ∀ b, b ∈ bs → A.units + 2 + (enc b).depth < cLine) (h : ∀ out, out.length = bs.length → PySem.W.EachIs R out (bs.mergeSort (PySem.W.dataLe false enc)) → Q (.ref (s.heap.objs.size + 1)) { s with heap := sortedAll s.heap vs (List.toArray out) }) :
    wpAny (model prog w) A (call (.builtin "sorted") [.ref l]) Q E s := by
  have er' : PySem.W.EachIs (fun v b => ∃ as, Reads (PySem.W.sortingHeap (PySem.W.copyHeap s.heap vs) (s.heap.objs.size + 1) vs) v (enc b) as) vs bs := er.mono fun _ _ ⟨as, r⟩ => ⟨as, PyProof.Rows.Reads.keeps (fun _ _ => PySem.W.sorting_copy_old) r⟩
  have S := PySem.W.SortsAt.data (prog := prog) (w := w) (A := A.in1.in1) (s := { s with heap := PySem.W.sortingHeap (PySem.W.copyHeap s.heap vs) (s.heap.objs.size + 1) vs }) (PySem.W.each_map (R := fun v d => ∃ as, Reads (PySem.W.sortingHeap (PySem.W.copyHeap s.heap vs) (s.heap.objs.size + 1) vs) v d as) enc er') hal hk (PySem.W.bound_map hu)
  have hLv : vs.length ≤ sizeLine := by rw [e.length]; exact hL
  refine sorted_tup_of hl hLv (args_sorted1 _) (fun _ => args_list_sort _) fun _ => ?_
  refine PySem.W.list_sort_vals (s := { s with heap := PySem.W.copyHeap s.heap vs }) (PySem.W.copyHeap_at s.heap vs) S hLv ⟨rfl, ?_⟩
  exact h _ (by rw [PySem.W.sortVals_length false rfl]; exact e.length) (PySem.W.sortVals_data false e er' hal)
end
section
variable {X : Cx}
def dSortedA : PyData → Option (List PyData)
  | .list ds => if srt ds = true then some (ds.mergeSort (PySem.W.dataLe false id)) else none
  | .tuple ds => if srt ds = true then some (ds.mergeSort (PySem.W.dataLe false id)) else none
  | _ => none
theorem opF_sortedT (hu : X.A.units + 66 < cLine) : CallR X (.builtin "sorted") (rC1N X.K dSortedA) := by
  intro pins s σ H vs us Q I r h
  obtain ⟨P, x, dx, d, ev, tr, rx, e, q⟩ := h
  subst ev
  have fin : ∀ {ds : List PyData} {ys : List V} {its : List Value} {a : Addr}, srt ds = true → x = .ref a → d = ds.mergeSort (PySem.W.dataLe false id) → DqA X.K H P ys ds → Vals ys its → ys.length ≤ sizeLine → IsTup s.heap a its.toArray → wpAny (model X.prog X.w) X.A (call (.builtin "sorted") us) (EP X pins σ Q) X.xe s := by
    intro ds ys its a hz ex ed t rv hsz hl
    subst ex ed
    rw [Vals.ref1 r]
    have hal := srt_alk hz
    have cp : ∀ d, d ∈ ds → d.plain = true := fun d hd => pl_plain (alk_pl hal hd)
    have el : its.length = ds.length := by rw [← rv.length, t.length]
    have e1 : PySem.W.EachIs (fun u d => ∃ z, RelV z u ∧ Dq X.K H P z d) its ds := each_of el fun i u d hu hd => by
      obtain ⟨z, h1, h2⟩ := vals_getU rv hu
      obtain ⟨d', h3, h4⟩ := t.getV h1
      rw [hd] at h3; cases h3
      exact ⟨z, h2, h4⟩
    have e2 : PySem.W.EachIs (fun u d => ∃ as, Reads s.heap u (id d) as) its ds := each_of el fun i u d hu hd => by
      obtain ⟨z, h1, h2⟩ := vals_getU rv hu
      obtain ⟨d', h3, h4⟩ := t.getV h1
      rw [hd] at h3; cases h3
      exact Dp.reads I _ _ _ (h4.dp (cp d (List.mem_of_getElem? hd))) h2
    refine sorted_tup_data (enc := id) hl e1 e2 (by rw [List.map_id]; exact fun d hd d' hd' => (alk_all hal).1 d hd d' hd') (by rw [List.map_id]; exact srt_sortable hz) (by rw [← t.length]; exact hsz)
      (fun b hb => by have := pl_depth (alk_pl hal hb); show X.A.units + 2 + b.depth < cLine; omega) fun out hlen ho => ?_
    obtain ⟨vs', hv', hd'⟩ := each_dq ho
    obtain ⟨ep, he'⟩ := PyProof.Rows.sortedAll_at s.heap its out.toArray
    have hf : H (s.heap.objs.size + 1) = none := I.hok.fresh (Nat.le_succ _)
    have hlv : vs'.length ≤ sizeLine := by rw [hv'.length, hlen, ← t.length]; exact hsz
    exact ⟨.ref _, upd H (s.heap.objs.size + 1) (.lst vs'), I.laid (t' := s.toks) (fun _ _ => PyProof.Rows.sortedAll_old) (Nat.le_succ _) ⟨hlv, out, ep, hv', he'⟩, rfl, q _ vs' _ (same_upd hf _) hf upd_same (newDq hf hd')⟩
  unfold dSortedA at e
  split at e
  · exact opF_sorted hu pins s σ H _ us Q I r ⟨P, x, _, d, rfl, tr, rx, e, q⟩
  · rename_i ds
    by_cases hz : srt ds = true
    · rw [if_pos hz] at e; cases e
      obtain ⟨a, ys, rfl, h, t⟩ := rx.tup
      obtain ⟨its, rv, hl, hsz⟩ := I.tuple h
      exact fin hz rfl rfl t rv hsz hl
    · rw [if_neg hz] at e; cases e
  · cases e
@[simp] theorem dSortedA_lst {ds : List PyData} : dSortedA (.list ds) = dSorted (.list ds) := rfl
@[simp] theorem dSortedA_tup {ds : List PyData} : dSortedA (.tuple ds) = dSorted (.list ds) := rfl
end
end TF

/-! TFp.lean -/
set_option Elab.async false
set_option linter.all false
set_option maxRecDepth 100000
/-! TF.p: len(set(t)) of texts, any number of them (the kit's rule for one text, for more) -/
namespace TF
open PySem PySem.Spec PyProof.Rows L2 SS
variable [OK : OwnK]
/-- without what stood before -/
def ddS (l : List Str) : List Str := l.foldl (fun a x => if a.any (· == x) = true then a else a ++ [x]) []
theorem ddS_snoc (l : List Str) (x : Str) : (if (l.any (· == x)) = true then (ddS l).length else (ddS l).length + 1) = (ddS (l ++ [x])).length := by
  have hm : ∀ (l : List Str) (x : Str), (ddS l).any (· == x) = l.any (· == x) := by
    intro l
    unfold ddS
    have gen : ∀ (l a : List Str) (x : Str), (l.foldl (fun a x => if a.any (· == x) = true then a else a ++ [x]) a).any (· == x) = (a.any (· == x) || l.any (· == x)) := by
      intro l
      induction l with
      | nil => intro a x; simp
      | cons y l ih =>
        intro a x
        rw [List.foldl_cons, ih]
        by_cases h : a.any (· == y) = true
        · rw [if_pos h, List.any_cons]
          by_cases e : y = x
          · subst e; rw [h]; simp
          · have : (y == x) = false := beq_eq_false_iff_ne.mpr e
            rw [this, Bool.false_or]
        · rw [if_neg h, List.any_append, List.any_cons, List.any_cons, List.any_nil, Bool.or_false, Bool.or_assoc]
    intro x
    rw [gen]; rfl
  have e : ddS (l ++ [x]) = if (ddS l).any (· == x) = true then ddS l else ddS l ++ [x] := by unfold ddS; rw [List.foldl_append]; rfl
  rw [e, hm]
  by_cases h : l.any (· == x) = true
  · rw [if_pos h, if_pos h]
  · rw [if_neg h, if_neg h, List.length_append]; rfl
theorem ddS_len (l : List Str) : (ddS l).length ≤ l.length := by
  unfold ddS
  have gen : ∀ (l a : List Str), (l.foldl (fun a x => if a.any (· == x) = true then a else a ++ [x]) a).length ≤ a.length + l.length := by
    intro l
    induction l with
    | nil => intro a; simp
    | cons y l ih =>
      intro a
      rw [List.foldl_cons]
      refine Nat.le_trans (ih _) ?_
      split
      · rw [List.length_cons]; omega
      · simp only [List.length_append, List.length_cons, List.length_nil]; omega
  have := gen l []
  simpa using this
section
variable {prog : Program} {w : World} {A : Around} {R : Result → Shared → Prop} {I : Addr} {fp wr : List Addr} {G : Array GenState → Array GenState → Prop} {n : Nat} {P : Nat → Value → Prop} {St : Nat → Shared → Prop}
theorem loopStrs (W : WalksS prog w A.in1 I fp wr G n P St) (S : Addr) (hSf : S ∉ fp) (xs : List Str) (hsz : xs.length = n) (hn1 : n < 60)
    (hval : ∀ i v, P i v → ∃ t, v = .str (xs.getD i Str.empty) t) :
    ∀ (k i : Nat) (s : Shared), n - i = k → i ≤ n → St i s →
      s.heap.SetOf (PySem.strKind prog w) S (fun k' => (xs.take i).any (· == k')) (ddS (xs.take i)).length →
      (∀ s', Moved (S :: wr) G s s' → s'.heap.SetOf (PySem.strKind prog w) S (fun k' => (xs.take n).any (· == k')) (ddS (xs.take n)).length → R (.ok (.ret .none)) s') →
      codeAny (model prog w) A (.builtin "set.update.loop" ⟨[.ref S, .ref I], []⟩) R s := by
  have hSw : S ∉ wr := fun h => hSf (W.sub _ h)
  have hsub : ∀ b ∈ wr, b ∈ S :: wr := fun b hb => List.mem_cons_of_mem _ hb
  intro k
  induction k with
  | zero =>
    intro i s hk hi hst hS hR
    have hin : i = n := by omega
    subst hin
    refine codeAny_builtin PyProof.Rows.F.entry_set_update_loop ?_
    rw [Around.under_plainId PyProof.Rows.F.plain_set_update_loop _]
    show wpAny _ A.in1 (pyNext (.ref I) >>= _) _ _ s
    refine wpAny_bind (W.done s _ _ hst fun s' hm => ?_)
    show wpAny _ A.in1 (ret Value.none) _ _ s'
    exact wpAny_pure (hR s' (hm.mono hsub) (by
      obtain ⟨o, es, ep, t, ho, rest⟩ := hS
      exact ⟨o, es, ep, t, hm.heap S _ hSw ho, rest⟩))
  | succ k ih =>
    intro i s hk hi hst hS hR
    have hlt : i < n := by omega
    have hroom : (ddS (xs.take i)).length + 1 < scanBound := by have := ddS_len (xs.take i); rw [List.length_take] at this; unfold scanBound; omega
    refine codeAny_builtin PyProof.Rows.F.entry_set_update_loop ?_
    rw [Around.under_plainId PyProof.Rows.F.plain_set_update_loop _]
    show wpAny _ A.in1 (pyNext (.ref I) >>= _) _ _ s
    refine wpAny_bind (W.item i s _ _ hlt hst fun v s' hP hst' hm => ?_)
    obtain ⟨t, rfl⟩ := hval i v hP
    have hS' : s'.heap.SetOf (PySem.strKind prog w) S (fun k' => (xs.take i).any (· == k')) (ddS (xs.take i)).length := by
      obtain ⟨o, es, ep, tb, ho, rest⟩ := hS
      exact ⟨o, es, ep, tb, hm.heap S _ hSw ho, rest⟩
    show wpAny _ A.in1 (holding [Value.str (xs.getD i Str.empty) t] (setAdd S (.str (xs.getD i Str.empty) t)) >>= _) _ _ s'
    refine wpAny_bind (wpAny_holding ?_)
    unfold setAdd
    refine wpAny_holding ?_
    refine wpAny_bind ((PySem.strKind prog w).pyHash (k := xs.getD i Str.empty) (strKind_is _ _ _ _) ?_)
    refine wpAny_setAddHashed_of (knd := PySem.strKind prog w) (s := { s' with toks := s'.toks + 1 }) (strKind_is _ _ _ _) rfl hS' hroom fun h' hsb hS2 => ?_
    have hSi : h'.SetOf (PySem.strKind prog w) S (fun k' => (xs.take (i + 1)).any (· == k')) (ddS (xs.take (i + 1))).length := by
      have hx : xs[i]? = some (xs.getD i Str.empty) := by
        rw [List.getD_eq_getElem?_getD, List.getElem?_eq_getElem (by omega)]; rfl
      have et : xs.take (i + 1) = xs.take i ++ [xs.getD i Str.empty] := by rw [List.take_add_one, hx]; rfl
      refine PyProof.Rows.SetOf_congr hS2 (fun k' => ?_) ?_
      · rw [et, List.any_append]
        congr 1
        by_cases e : k' = xs.getD i Str.empty
        · rw [e]; simp
        · have hb : (xs.getD i Str.empty == k') = false := by simpa [beq_iff_eq] using (fun h' : xs.getD i Str.empty = k' => e h'.symm)
          rw [decide_eq_false e, List.any_cons, List.any_nil, hb]; rfl
      · rw [et, ddS_snoc]
    refine wpAny_pure ⟨plainId_quiet PyProof.Rows.F.plain_set_update_loop _, ih (i + 1) _ (by omega) hlt (W.frame _ s' _ _ hst' (Nat.le_succ _) fun b hb o e => ?_) hSi fun s'' hm'' hS'' => ?_⟩
    · rw [hsb.2 b (fun h : b = S => hSf (by rw [← h]; exact hb))]; exact e
    · refine hR s'' (Moved.trans W.gtrans ((hm.mono hsub).then_heap (Nat.le_succ _) fun b o hb e => ?_) hm'') hS''
      rw [hsb.2 b (fun h : b = S => hb (by rw [h]; exact List.mem_cons_self))]; exact e
end

section
variable {prog : Program} {w : World} {A : Around} {E : Value → Shared → Prop} {s : Shared}
set_option maxHeartbeats 3200000 in
theorem call_set_tupS {l : Addr} {items : Array Value} {xs : List Str} {Q : Value → Shared → Prop}
    (hh : A.handled = none) (hl : s.heap.IsTuple l items) (hi : PyProof.Rows.StrsAre items.toList xs) (hn1 : xs.length < 60)
    (h : ∀ (h' : Heap) (tk : Nat), h'.SetOf (PySem.strKind prog w) s.heap.objs.size (fun k' => (xs.take items.size).any (· == k')) (ddS (xs.take items.size)).length →
      (∀ b o, b < s.heap.objs.size → s.heap.get? b = some o → h'.get? b = some o) → Q (.ref s.heap.objs.size) { s with heap := h', toks := tk }) :
    wpAny (model prog w) A (call (.type "set") [.ref l]) Q E s := by
  obtain ⟨c, tl, hmro⟩ := PySem.F.called_set.mro
  have hmade := PySem.F.called_set.made
  have hsub := PySem.F.called_set.sub
  refine wpAny_call (codeAny_of_tree ?_)
  show wpAny _ _ (callAny (.type "set") _) _ _ _
  refine wpAny_pure ⟨Code.quiet_builtin _ (by decide +kernel), codeAny_builtin PySem.F.entry_type_call ?_⟩
  rw [Around.under_plain (weight_type_call_type "set" [.ref l] []) rfl]
  have h1 := PySem.F.called_set.notType
  have h2 := PySem.F.called_set.canCreate
  have hct := PySem.F.typeCall_set_1 (.ref l)
  repeat (any_goals (first | assumption | wp_step))

  refine codeAny_mono (code_set_new_1 (.ref l) (E := E) (Q₁ := fun obj s₁ => ∃ led : Bool, obj = .ref s.heap.objs.size ∧ s₁ = { s with heap := s.heap.push { cls := .type "set", dict := none, data := .set #[] 0 (.fresh 0 0 led) } }) fun led => ⟨led, rfl, rfl⟩) fun r s₁ hr => ?_
  cases r with
  | error e => exact hr
  | ok fl =>
    cases fl with
    | ret obj =>
      obtain ⟨led, rfl, rfl⟩ := hr
      have hS : (s.heap.push { cls := .type "set", dict := none, data := .set #[] 0 (.fresh 0 0 led) }).get? s.heap.objs.size = some { cls := .type "set", dict := none, data := .set #[] 0 (.fresh 0 0 led) } := Heap.get?_push_size _ rfl
      have hT : Shared.TypeIs { s with heap := s.heap.push { cls := .type "set", dict := none, data := .set #[] 0 (.fresh 0 0 led) } } (.ref s.heap.objs.size) "set" := ⟨_, hS, rfl⟩
      have hli := PySem.F.called_set.init.lookup
      have hbi := PySem.F.called_set.init.bind (.ref s.heap.objs.size)
      repeat (any_goals (first | assumption | wp_step))

      refine codeAny_mono (codeAny_call_builtin (R := wants (fun r s₂ => r = .none ∧ ∃ h' tk, s₂ = { s with heap := h', toks := tk } ∧
          h'.SetOf (PySem.strKind prog w) s.heap.objs.size (fun k' => (xs.take items.size).any (· == k')) (ddS (xs.take items.size)).length ∧
          (∀ b o, b < s.heap.objs.size → s.heap.get? b = some o → h'.get? b = some o)) E) PySem.F.called_set.init.plain PySem.F.entry_set_init (check_set_init_1 hT ?_)) fun r₂ s₂ hr₂ => ?_
      · obtain ⟨ol, hol, hcl, nl, hdl⟩ := hl
        obtain ⟨ocls, odict, odata, oslots⟩ := ol
        simp only at hcl hdl
        subst hcl; subst hdl
        have hol' : (s.heap.push { cls := .type "set", dict := none, data := .set #[] 0 (.fresh 0 0 led) }).get? l = some { cls := .type "tuple", dict := odict, data := .seq items nl, slots := oslots } := Heap.get?_push_of_some _ hol
        have hsls := PySem.F.sub_tuple_set
        have hslf := PySem.F.sub_tuple_frozenset
        have hne : (Value.type "tuple" == Value.type "dict") = false := by decide
        have hl1 : (s.heap.push { cls := .type "set", dict := none, data := .set #[] 0 (.fresh 0 0 led) }).IsTuple l items := ⟨_, hol', rfl, nl, rfl⟩
        unfold Builtin.«set.__init__» noKeywords Builtin.Frozenset.updateFrom
        generalize hPI : pyIter = PI
        wp_walk
        subst hPI

        refine wpAny_pyIter_tuple hl1 ?_
        refine wpAny_bind (wpAny_runValue ?_)
        have hlS : l < s.heap.objs.size := Heap.lt_size hol
        have hh3 : A.in1.in1.in1.handled = none := by simp [hh]
        have hneI : l ≠ (s.heap.push { cls := .type "set", dict := none, data := .set #[] 0 (.fresh 0 0 led) }).objs.size := by
          rw [Heap.size_push]; exact Nat.ne_of_lt (Nat.lt_succ_of_lt hlS)
        have hSf : s.heap.objs.size ∉ [(s.heap.push { cls := .type "set", dict := none, data := .set #[] 0 (.fresh 0 0 led) }).objs.size, l] := by
          rw [Heap.size_push]; simp only [List.mem_cons, List.mem_singleton, List.not_mem_nil, or_false, not_or]
          exact ⟨Nat.ne_of_lt (Nat.lt_succ_self _), Nat.ne_of_gt hlS⟩
        have hsz : xs.length = items.size := by rw [← StrsAre.len_eq hi, Array.length_toList]
        have hval : ∀ (i : Nat) (v : Value), items[i]? = some v → ∃ t, v = .str (xs.getD i Str.empty) t := fun i v hv => strs_at hi i v (by rw [Array.getElem?_toList]; exact hv)
        refine loopStrs ((Walks.tuple hh3 _ l hneI items).toS) s.heap.objs.size
          hSf xs hsz (by rw [← hsz]; exact hn1) hval (items.size - 0) 0 _ (by omega) (Nat.zero_le _)
          ⟨⟨_, Heap.get?_push_size _ rfl, rfl, rfl⟩, (hl1.push _)⟩ ?hS0 ?hR
        case hS0 =>
          have hget : ((s.heap.push { cls := .type "set", dict := none, data := .set #[] 0 (.fresh 0 0 led) }).push { cls := .type "tuple_iterator", data := .fields #[.ref l, .int 0 0] }).get? s.heap.objs.size
              = some { cls := .type "set", dict := none, data := .set #[] 0 (.fresh 0 0 led) } := Heap.get?_push_of_some _ hS
          exact PyProof.Rows.SetOf_congr ((PyProof.Rows.setObjOf_fresh (knd := PySem.strKind prog w) led).setOf hget (by unfold scanBound; omega)) (fun _ => rfl) rfl
        case hR =>
          intro s' hm hS'
          obtain ⟨h', g', d', tk', os'⟩ := s'
          have eg : g' = s.gens := hm.gens
          have ed : d' = s.drawn := hm.drawn
          have eo : os' = s.os := hm.os
          subst eg; subst ed; subst eo
          show wpAny _ _ _ _ _ _
          refine wpAny_pure ?_
          show wpAny _ _ (ret Value.none) _ _ _
          refine wpAny_pure ⟨rfl, h', tk', rfl, hS', fun b o hb e => ?_⟩
          have hb1 : b ≠ s.heap.objs.size := Nat.ne_of_lt hb
          have hb2 : b ≠ (s.heap.push { cls := .type "set", dict := none, data := .set #[] 0 (.fresh 0 0 led) }).objs.size := by
            rw [Heap.size_push]; exact Nat.ne_of_lt (Nat.lt_succ_of_lt hb)
          exact hm.heap b o (by simp only [List.mem_cons, List.mem_singleton, List.not_mem_nil, or_false, not_or]; exact ⟨hb1, hb2⟩) (Heap.get?_push_of_some _ (Heap.get?_push_of_some _ e))

      · cases r₂ with
        | error e => exact hr₂
        | ok fl₂ =>
          cases fl₂ with
          | ret r =>
            obtain ⟨rfl, h', tk, rfl, hS', hk'⟩ := hr₂
            repeat (any_goals (first | assumption | wp_step))
            exact h _ _ hS' hk'
          | _ => exact hr₂.elim
    | _ => exact hr.elim

end
section
variable {X : Cx} {o : List Nat} {a : Expr} {f : Rho → Option PyData} {pos : Pos}
def tLenSetT (K : PySem.W.Frag) (ta : TE) : TE := fun σ H Q => ta σ H fun x H1 => ∃ l, ∃ xs : List Str, x = .ref l ∧ SqT K H1 l (xs.map V.str) ∧ xs.length < 60 ∧ Q (.int (ddS xs).length) H1
theorem pe_lenSetT {ta : TE} {p p2 q : Pos} (hc : X.calm = true) (hg : Gl X "len") (hm : X.mg "len" = none) (hg2 : Gl X "set") (hm2 : X.mg "set" = none) (ha : PE X a ta)
    (na : starEach [a] X.env = (false, eval a X.env) :: starEach [] X.env := by rfl) : PE X (.Call (.Name "len" p) [.Call (.Name "set" p2) [a] [] q] [] pos) (tLenSetT X.K ta) := by
  refine ⟨fun pins s σ H Q I h => ?_⟩
  refine Call_ (ld_blt I hg hm boot_len ?_)
  refine PyProof.Rows.callWith_builtin1 (PyProof.Rows.args_cons ?_ rfl) rfl rfl
  refine Call_ (ld_blt I hg2 hm2 boot_set ?_)
  refine PyProof.Rows.callWith_type1 (PyProof.Rows.args_cons (thn (ha.run pins s σ H _ I h) fun v s1 ⟨x, H1, I1, r1, q1⟩ => PyProof.Rows.args_nil ?_) na) na rfl
  obtain ⟨l, xs, rfl, hq, h1, q1⟩ := q1
  cases r1
  obtain ⟨its, r, pl, hz⟩ := I1.tuple hq
  refine call_set_tupS (I1.ok.hd hc) pl (by simpa using strsAre_of r) h1 fun h' tk hS hk => ?_
  refine PyProof.Rows.args_nil ?_
  have hl : its.toArray.size = xs.length := by rw [List.size_toArray, ← r.length, List.length_map]
  rw [hl, List.take_length] at hS
  obtain ⟨o, es, ep, t, ho, hex, hd, _, _, _, hf, hn⟩ := hS
  have I2 : Inv X pins σ H1 { s1 with heap := h', toks := tk } := I1.kept fun b o e => hk b o (Heap.lt_size e) e
  have := ddS_len xs
  refine call_len_set ho hex hd hf (by rw [hn] <;> omega) ⟨.int (ddS xs).length, H1, I2.tok _, ⟨_, by rw [hn]⟩, q1⟩
def dLenSet : PyData → Option PyData
  | .tuple ds => (strsD ds).bind fun ys => if ys.length < 60 then some (.int (ddS ys).length) else none
  | _ => none
theorem ev_lenSet {p p2 q : Pos} (hc : X.calm = true) (hm : X.mg "len" = none) (hm2 : X.mg "set" = none) (ha : ER X o a f) (hg : Gl X "len" := by rfl) (hg2 : Gl X "set" := by rfl)
    (na : starEach [a] X.env = (false, eval a X.env) :: starEach [] X.env := by rfl) : EV X o (.Call (.Name "len" p) [.Call (.Name "set" p2) [a] [] q] [] pos) (e1 f dLenSet) := PE.imp (pe_lenSetT hc hg hm hg2 hm2 ha na) fun σ H Q ⟨H0, P0, P, ρ, d, R, e', q⟩ => by
  obtain ⟨x, ef, eg⟩ := e1_some e'
  unfold dLenSet at eg
  split at eg
  · rename_i ds
    cases e3 : strsD ds with
    | none => rw [e3] at eg; cases eg
    | some ys =>
    rw [e3] at eg
    simp only [Option.bind_some] at eg
    by_cases hz : ys.length < 60
    · rw [if_pos hz] at eg; cases eg
      refine ⟨H0, P0, P, ρ, _, R, ef, fun v H1 s1 r1 => ?_⟩
      obtain ⟨p, vs, rfl, h, t⟩ := r1.tup
      rw [strsD_rel t e3] at h
      exact ⟨p, ys, rfl, h, hz, q _ H1 s1 (.int _)⟩
    · rw [if_neg hz] at eg; cases eg
  · cases eg
end
end TF

/-! TFq.lean -/
set_option Elab.async false
set_option linter.all false
set_option maxRecDepth 100000
/-! TF.q: isinstance, all, any, {..}.get, t * n -/
namespace TF
open PySem PySem.Spec PyProof.Rows L2
variable [OK : OwnK]
section
variable {X : Cx} {o : List Nat} {e a b : Expr} {f fa fb : Rho → Option PyData} {pos : Pos}
/-! ### isinstance(x, T) -/
def tyN : PyData → Option String
  | .none => some "NoneType"
  | .bool _ => some "bool"
  | .int _ => some "int"
  | .str _ => some "str"
  | .list _ => some "list"
  | .tuple _ => some "tuple"
  | .dict _ => none
theorem Dr.tyX {K : PySem.W.Frag} {H : Hp} {P : Addr → Prop} {v : V} {d : PyData} {n : String} (h : Dr K H P v d) (e : tyN d = some n) : TyX K H v (.type n) := by
  cases d with
  | none => cases e; rw [h.non]; exact .base .non
  | bool b => cases e; rw [h.bl]; exact .base (.bl b)
  | int i => cases e; rw [h.int]; exact .base (.int i)
  | str x => cases e; rw [h.str]; exact .base (.str x)
  | list ds => cases e; obtain ⟨a, xs, rfl, hl, _⟩ := h.lst; exact .base (.lst hl)
  | tuple ds =>
    cases e
    cases h.tupQ with
    | tup hx _ _ => exact .fTuple hx
  | dict _ => cases e
def dIsa (T : String) (d : PyData) : Option PyData := (tyN d).bind fun n => (kitB n T).map PyData.bool
theorem ev_isa {T : String} {x : Str} {p q : Pos} (hm : X.mg "isinstance" = none) (hmT : X.mg x = none) (hv : bootBuiltins x = some (.type T)) (ha : ER X o a f) (hg : Gl X "isinstance" := by rfl) (hgT : Gl X x := by rfl)
    (hn : x ≠ "__name__" := by decide) (hd : (x == ("__debug__" : Str)) = false := by decide)
    (he : starEach [a, .Name x q] X.env = (false, eval a X.env) :: starEach [.Name x q] X.env := by rfl) (hs : starEach [.Name x q] X.env = (false, eval (.Name x q) X.env) :: starEach [] X.env := by rfl) (hpl : (backTo pos (starEach [.Name x q] X.env)).any (·.1) = false := by rfl) :
    EV X o (.Call (.Name "isinstance" p) [a, .Name x q] [] pos) (e1 f (dIsa T)) :=
  PE.imp (pe_callB call_isi hg hm (by decide +kernel) (pa_cons ha (pa_cons (pe_bltn (v := .ty T) hgT hmT hv rfl hn hd) pa_nil hs) he) (by decide) (by decide) he hpl) fun σ H Q ⟨H0, P0, P, ρ, d, R, e', q⟩ => by
    obtain ⟨y, ef, eg⟩ := e1_some e'
    unfold dIsa at eg
    cases et : tyN y with
    | none => rw [et] at eg; cases eg
    | some n =>
    rw [et] at eg
    simp only [Option.bind_some] at eg
    cases ek : kitB n T with
    | none => rw [ek] at eg; cases eg
    | some c =>
    rw [ek] at eg; cases eg
    exact ⟨H0, P0, P, ρ, y, R, ef, fun v H1 s1 r1 => ⟨v, .ty T, .type n, .type T, c, rfl, .ty T, r1.tyX et, kit_ty ek, q _ H1 s1 (.bl c)⟩⟩
/-! ### all, any of truths -/
def boolsD : List PyData → Option (List Bool)
  | [] => some []
  | .bool x :: r => (boolsD r).map (x :: ·)
  | _ :: _ => none
theorem boolsD_rel {K : PySem.W.Frag} {H : Hp} {P : Addr → Prop} : ∀ {vs : List V} {ds : List PyData} {ys : List Bool}, DqA K H P vs ds → boolsD ds = some ys → vs = ys.map V.bl
  | _, _, ys, .nil, e => by cases e; rfl
  | _, _, ys, .cons (d := d) h t, e => by
    cases d with
    | bool x =>
      unfold boolsD at e
      cases er : boolsD _ with
      | none => rw [er] at e; cases e
      | some r =>
        rw [er] at e
        cases e
        cases h
        rw [boolsD_rel t er, List.map_cons]
    | _ => cases e
theorem boolsD_map (ns : List Bool) : boolsD (ns.map PyData.bool) = some ns := by
  induction ns with
  | nil => rfl
  | cons n r ih => simp only [List.map_cons, boolsD, ih]; rfl
def dAll : PyData → Option PyData
  | .list ds => (boolsD ds).map fun ns => .bool (ns.all id)
  | _ => none
def dAny : PyData → Option PyData
  | .list ds => (boolsD ds).map fun ns => .bool (ns.any id)
  | _ => none
theorem opF_all (hc : X.calm = true) : CallR X (.builtin "all") (rC1 X.K dAll) := CallR.imp (cr_all hc) fun vs H Q ⟨P, x, dx, d, ev, tr, rx, e, q⟩ => by
  subst ev
  unfold dAll at e
  split at e
  · rename_i ds
    cases ei : boolsD ds with
    | none => rw [ei] at e; cases e
    | some ns =>
      rw [ei] at e; cases e
      obtain ⟨a, xs, rfl, h, t⟩ := rx.lst
      rw [boolsD_rel t ei] at h
      exact ⟨a, ns, rfl, SqL.of h, q _ H (Same.refl H) (.bl _)⟩
  · cases e
theorem opF_any (hc : X.calm = true) : CallR X (.builtin "any") (rC1 X.K dAny) := CallR.imp (cr_any hc) fun vs H Q ⟨P, x, dx, d, ev, tr, rx, e, q⟩ => by
  subst ev
  unfold dAny at e
  split at e
  · rename_i ds
    cases ei : boolsD ds with
    | none => rw [ei] at e; cases e
    | some ns =>
      rw [ei] at e; cases e
      obtain ⟨a, xs, rfl, h, t⟩ := rx.lst
      rw [boolsD_rel t ei] at h
      exact ⟨a, ns, rfl, SqL.of h, q _ H (Same.refl H) (.bl _)⟩
  · cases e
/-! ### {..}.get(k, d) of texts and whole numbers -/
def kvsI (ps : List (Str × Int)) : List (Key × V) := ps.map fun p => (Sum.inr p.1, V.int p.2)
def trsI (ps : List (Str × Int)) : List (TE × TE) := ps.map fun p => (tC (.str p.1), tC (.int p.2))
theorem tPairs_I : ∀ (ps : List (Str × Int)) (σ : St) (H : Hp) (Q : List (V × V) → Hp → Prop), Q (ps.map fun p => (V.str p.1, V.int p.2)) H → tPairs (trsI ps) σ H Q
  | [], _, _, _, q => q
  | p :: ps, σ, H, Q, q => by
    show tPairs (trsI ps) σ H fun xs H3 => Q ((V.str p.1, V.int p.2) :: xs) H3
    exact tPairs_I ps σ H _ q
def dGetI (ps : List (Str × Int)) (d : Int) : PyData → Option PyData
  | .str z => match valV (mergeK [] (kvsI ps)) (Sum.inr z) with
    | some (.int i) => some (.int i)
    | none => some (.int d)
    | _ => none
  | _ => none
theorem hu1 {k : Nat} {A : Around} (hr : Room k A) : A.units + 1 < cLine := by have := hr.un; omega
theorem same_upd2 {H : Hp} {p : Addr} (h : H p = none) (u u' : HO) : Same H (upd (upd H p u) p u') := fun b w q => by
  rw [upd_ne (ne_of_none q h), upd_ne (ne_of_none q h)]; exact q
theorem ev_dget {ps : List (Str × Int)} {d : Int} {j : Nat} {dpos apos cpos cp : Pos} {keys : List (Option Expr)} {values : List Expr} (hu : X.A.units + 1 < cLine) (hp : PPs X dpos keys values (trsI ps)) (hall : keys.all (·.isSome) = true) (hl : keys.length = values.length) (h0 : keys ≠ []) (h15 : keys.length ≤ 15) (hps : ps.length ≤ 15)
    (he : ER X o b fb) (m : M2 X (.Dict keys values dpos) "get" apos b (.Constant (.int d) j cp) cpos) :
    EV X o (.Call (.Attribute (.Dict keys values dpos) "get" apos) [b, .Constant (.int d) j cp] [] cpos) (e1 fb (dGetI ps d)) := PE.imp (pe_dget2 hu (pe_disp hp hall hl h0 h15) he pe_int m) fun σ H Q ⟨H0, P0, P, ρ, r, R, e', q⟩ => by
  obtain ⟨y, ef, eg⟩ := e1_some e'
  unfold dGetI at eg
  split at eg
  · rename_i z
    intro p hn
    refine tPairs_I ps σ _ _ ⟨upd_same, kvsI ps, by unfold kvsI; rw [List.map_map]; rfl, by unfold kvsI; rw [List.length_map]; exact hps, p, rfl, .inl ⟨_, .inl upd_same⟩, ?_⟩
    have s1 := same_upd2 hn (.dK []) (.dK (mergeK [] (kvsI ps)))
    refine ⟨H0, P0, P, ρ, _, R.go s1, ef, fun v H2 s2 r2 => ?_⟩
    rw [r2.str]
    have h2 : H2 p = some (.dK (mergeK [] (kvsI ps))) := s2 _ _ upd_same
    refine ⟨_, .inl ⟨_, .inr z, .inl h2, rfl, rfl⟩, ?_⟩
    have sT := s1.trans s2
    split at eg
    · rename_i i hv
      cases eg
      rw [hv]
      exact q _ H2 sT (.int _)
    · rename_i hv
      cases eg
      rw [hv]
      exact q _ H2 sT (.int _)
    · cases eg
  · cases eg
/-! ### t * n -/
theorem tuple_mul1 (l : Addr) (items : Array Value) (n : Nat) (dd : Option Addr) (sl : Array (Option Value)) (u : Tok) :
    Meets (Builtin.«tuple.__mul__» ⟨[.ref l, .int 1 u], []⟩) (fun _ R s => s.heap.get? l = some { cls := .type "tuple", dict := dd, data := .seq items n, slots := sl } ∧
      R (.ok (.ret (Value.ref l))) s) :=
  .of_wp fun prog w A R s h => by
    obtain ⟨hp, g, d, tk, os⟩ := s
    obtain ⟨hl, h⟩ := h
    have f1 := AutoSeq1.idx_int
    wp_walk using wpAny_loadPart' hl
    exact ⟨_, rfl, h⟩
theorem tuple_mul0 (l : Addr) (items : Array Value) (n : Nat) (dd : Option Addr) (sl : Array (Option Value)) (u : Tok) (he : items.isEmpty = false) :
    Meets (Builtin.«tuple.__mul__» ⟨[.ref l, .int 0 u], []⟩) (fun _ R s => s.heap.get? l = some { cls := .type "tuple", dict := dd, data := .seq items n, slots := sl } ∧
      R (.ok (.ret (Value.ref s.heap.objs.size))) { s with heap := s.heap.push { cls := Value.type "tuple", data := Data.seq #[] } }) :=
  .of_wp fun prog w A R s h => by
    obtain ⟨hp, g, d, tk, os⟩ := s
    obtain ⟨hl, h⟩ := h
    have f1 := AutoSeq1.idx_int
    have c1 : (items.isEmpty || (0 : Int) == 1) = false := by rw [he]; decide
    have c2 : (decide ((0 : Int) ≤ 0) || items.isEmpty) = true := by simp
    wp_walk using wpAny_loadPart' hl
    repeat (first
      | (refine wpAny_ite_false (decide_eq_false (by rw [c1]; exact Bool.false_ne_true)) ?_; wp_walk using wpAny_loadPart' hl)
      | (refine wpAny_ite_true (decide_eq_true (by rw [c2])) ?_; wp_walk using wpAny_loadPart' hl))
    exact ⟨_, rfl, h⟩
def rRepF (K : PySem.W.Frag) : R2 := fun x y H Q => ∃ l k xs, x = .ref l ∧ y = .int k ∧ SqT K H l xs ∧ xs ≠ [] ∧ 0 ≤ k ∧ k ≤ 1000 ∧ xs.length ≤ 1000 ∧ (k = 1 → Q (.ref l) H) ∧ (k ≠ 1 → ∀ p its, H p = none → Q (.ref p) (upd H p (fz its (List.replicate k.toNat xs).flatten)))
theorem op_repF : OpR X (binaryOp .Mult) (rRepF X.K) := by
  intro pins s σ H x y v u Q I rx ry h
  obtain ⟨l, k, xs, rfl, rfl, hT, hne, h1, h2, hz, q1, q⟩ := h
  cases rx
  obtain ⟨t, rfl⟩ := ry
  obtain ⟨its, r, ⟨⟨cls, dd, data, sl⟩, ho, hc, n, hd⟩, hs⟩ := I.tuple hT
  simp only at hc hd
  subst hc hd
  have hle : its.length = xs.length := r.length.symm
  have hn : its ≠ [] := fun e => hne (by
    rw [e] at hle
    exact List.eq_nil_of_length_eq_zero hle.symm)
  have hi : its.toArray.isEmpty = false := by
    cases its with
    | nil => exact absurd rfl hn
    | cons a b => rfl
  by_cases hk1 : k = 1
  · subst hk1
    refine wpAny_binaryOp_repeat_ref (T := "tuple") (U := "int") (by decide) ⟨_, ho, rfl⟩ (fun s' => typeIs_int s' 1 t) noFill_tuple_mul PySem.F.fills_int_mul PySem.F.slot_int_rmul repeat_tuple PySem.F.slot_int_index.lookup
      (call_meets PySem.F.slot_int_rmul (typeIs_int s 1 t) PySem.F.entry_int_rmul (PySem.F.args_int_rmul_2 _ _) (int_rmul_tuple 1 t l its.toArray n dd sl)
        ⟨ho, rfl, ⟨_, ho, rfl⟩, call_meets PySem.F.slot_tuple_mul ⟨_, ho, rfl⟩ PySem.F.entry_tuple_mul (PySem.F.args_tuple_mul_2 _ _) (tuple_mul1 l its.toArray n dd sl t) ⟨ho, ?_⟩⟩)
    exact ⟨.ref l, H, I, rfl, q1 rfl⟩
  · by_cases hk0 : k = 0
    · subst hk0
      refine wpAny_binaryOp_repeat_ref (T := "tuple") (U := "int") (by decide) ⟨_, ho, rfl⟩ (fun s' => typeIs_int s' 0 t) noFill_tuple_mul PySem.F.fills_int_mul PySem.F.slot_int_rmul repeat_tuple PySem.F.slot_int_index.lookup
        (call_meets PySem.F.slot_int_rmul (typeIs_int s 0 t) PySem.F.entry_int_rmul (PySem.F.args_int_rmul_2 _ _) (int_rmul_tuple 0 t l its.toArray n dd sl)
          ⟨ho, rfl, ⟨_, ho, rfl⟩, call_meets PySem.F.slot_tuple_mul ⟨_, ho, rfl⟩ PySem.F.entry_tuple_mul (PySem.F.args_tuple_mul_2 _ _) (tuple_mul0 l its.toArray n dd sl t hi) ⟨ho, ?_⟩⟩)
      exact ⟨.ref s.heap.objs.size, _, I.laid (t' := s.toks) (fun b ob q => Heap.get?_push_of_some _ q) (Nat.le_refl _) (fz_ok (its := []) (xs := (List.replicate (0 : Int).toNat xs).flatten) .nil (Nat.zero_le _) (Heap.get?_push_size _ rfl)), rfl, q hk1 _ _ (I.hok.fresh (Nat.le_refl _))⟩
    · have h1' : 2 ≤ k := by omega
      have hsz0 : its.toArray.size = xs.length := by rw [List.size_toArray, hle]
      have hm : ((its.toArray.size : Nat) : Int) * k ≤ 1000000 := by
        rw [hsz0]
        have a1 : ((xs.length : Nat) : Int) * k ≤ 1000 * k := Int.mul_le_mul_of_nonneg_right (by omega) (by omega)
        omega
      have flen : (List.replicate k.toNat its).flatten.length ≤ sizeLine := by
        rw [PyProof.Rows.lm_len_rep_flat, hle, sizeLine_eq]
        have a1 : k.toNat * xs.length ≤ 1000 * 1000 := Nat.mul_le_mul (by omega) hz
        omega
      have c0 : (decide (k < -(2 ^ 63)) || decide (k ≥ 2 ^ 63)) = false := by
        rw [decide_eq_false (by omega), decide_eq_false (by omega)] <;> rfl
      have c1 : (its.toArray.isEmpty || k == 1) = false := by
        rw [hi, Bool.false_or]
        exact beq_eq_false_iff_ne.mpr (by omega)
      have c2 : (decide (k ≤ 0) || its.toArray.isEmpty) = false := by
        rw [hi, Bool.or_false]
        exact decide_eq_false (by omega)
      have c4 : Builtin.Tuple.tupleTooMany (((its.toArray.size : Nat) : Int) * k) = false := by
        unfold Builtin.Tuple.tupleTooMany
        rw [sizeLine_eq]
        exact decide_eq_false (by omega)
      refine wpAny_binaryOp_repeat_ref (T := "tuple") (U := "int") (by decide) ⟨_, ho, rfl⟩ (fun s' => typeIs_int s' k t) noFill_tuple_mul PySem.F.fills_int_mul PySem.F.slot_int_rmul repeat_tuple PySem.F.slot_int_index.lookup
        (call_meets PySem.F.slot_int_rmul (typeIs_int s k t) PySem.F.entry_int_rmul (PySem.F.args_int_rmul_2 _ _) (int_rmul_tuple k t l its.toArray n dd sl)
          ⟨ho, rfl, ⟨_, ho, rfl⟩, call_meets PySem.F.slot_tuple_mul ⟨_, ho, rfl⟩ PySem.F.entry_tuple_mul (PySem.F.args_tuple_mul_2 _ _) (tuple_mulW l its.toArray n dd sl k t c0 c1 c2 (by omega) c4 (by rw [size_rep, List.size_toArray]; exact flen)) ⟨ho, ?_⟩⟩)
      rw [size_rep]
      exact ⟨.ref s.heap.objs.size, _, I.laid (t' := s.toks) (fun b ob q => Heap.get?_push_of_some _ q) (Nat.le_refl _) (fz_ok (r.rep k.toNat) (by rw [PyProof.Rows.lm_len_rep_flat, sizeLine_eq]; have a1 : k.toNat * xs.length ≤ 1000 * 1000 := Nat.mul_le_mul (by omega) hz; omega) (Heap.get?_push_size _ rfl)), rfl, q hk1 _ _ (I.hok.fresh (Nat.le_refl _))⟩
def dMulB : PyData → PyData → Option PyData
  | .tuple xs, .int k => if xs ≠ [] ∧ 0 ≤ k ∧ k ≤ 1000 ∧ xs.length ≤ 1000 then some (.tuple (List.replicate k.toNat xs).flatten) else none
  | x, y => dMul x y
theorem opF_mulB : OpR X (binaryOp .Mult) (rF X.K dMulB) := OpR.imp (OpR.or (opF_mul (X := X)) op_repF) fun x y H Q ⟨P, dx, dy, d, tr, rx, ry, e, q⟩ => by
  have np : ∀ {p : Addr}, H p = none → ¬ P p := fun h z => by obtain ⟨u, hu⟩ := tr _ z; rw [h] at hu; cases hu
  unfold dMulB at e
  split at e
  · rename_i xs k
    by_cases hz : xs ≠ [] ∧ 0 ≤ k ∧ k ≤ 1000 ∧ xs.length ≤ 1000
    · rw [if_pos hz] at e; cases e
      have qx := rx.tupQ
      obtain ⟨a, us, rfl, h, t⟩ := rx.tup
      refine .inr ⟨a, k, us, rfl, ry.int, h, fun z => hz.1 (t.nil_iff.mp z), hz.2.1, hz.2.2.1, by rw [t.length]; exact hz.2.2.2, fun hk => ?_, fun _ p its hp => q _ _ (same_upd hp _) (.tup upd_same (np hp) ((t.rep k.toNat).same (same_upd hp _)))⟩
      subst hk
      have e1 : (List.replicate (1 : Int).toNat xs).flatten = xs := by simp
      rw [e1] at q
      exact q _ H (Same.refl H) qx
    · rw [if_neg hz] at e; cases e
  · exact .inl ⟨P, _, _, d, tr, rx, ry, e, q⟩
@[simp] theorem dMulB_tup {xs : List PyData} {k : Int} : dMulB (.tuple xs) (.int k) = if xs ≠ [] ∧ 0 ≤ k ∧ k ≤ 1000 ∧ xs.length ≤ 1000 then some (.tuple (List.replicate k.toNat xs).flatten) else none := rfl
end
end TF

/-! TFr.lean -/
set_option Elab.async false
set_option linter.all false
set_option maxRecDepth 100000
/-! TF.r: nested tuples of texts as keys of a dict -/
namespace TF
open PySem PySem.Spec PyProof.Rows L2
mutual
/-- nested tuples of texts -/
def NTx : PyData → Prop
  | .str _ => True
  | .tuple ds => NTxs ds
  | _ => False
def NTxs : List PyData → Prop
  | [] => True
  | d :: ds => NTx d ∧ NTxs ds
end
mutual
def nk : PyData → NestedKey
  | .str x => .text x
  | .tuple ds => .tup (nks ds)
  | _ => .none
def nks : List PyData → List NestedKey
  | [] => []
  | d :: ds => nk d :: nks ds
end
mutual
theorem nk_is {K : PySem.W.Frag} {H : Hp} {h : Heap} {Pr : Addr → Prop} (ok : ∀ a its xs, H a = some (fz its xs) → Vals xs its ∧ h.get? a = some (tobj its)) :
    ∀ {d : PyData} {v : V} {u : Value}, NTx d → Dq K H Pr v d → RelV v u → NestedIs h (nk d) u
  | .str x, _, _, _, .str _, r => by
    obtain ⟨t, rfl⟩ := r
    exact .text x t
  | .tuple ds, _, _, n, .tup (a := a) (its := its) e _ t, r => by
    cases r
    obtain ⟨rv, ho⟩ := ok _ _ _ e
    rw [nk]
    refine .tup (n := 0) ho rfl rfl ?_
    exact nks_is ok (by rw [NTx] at n; exact n) t (by simpa using rv)
theorem nks_is {K : PySem.W.Frag} {H : Hp} {h : Heap} {Pr : Addr → Prop} (ok : ∀ a its xs, H a = some (fz its xs) → Vals xs its ∧ h.get? a = some (tobj its)) :
    ∀ {ds : List PyData} {vs : List V} {us : List Value}, NTxs ds → DqA K H Pr vs ds → Vals vs us → NestedAll h (nks ds) us
  | [], _, _, _, .nil, r => by
    cases r
    exact .nil
  | d :: ds, _, _, n, .cons t ts, r => by
    cases r with
    | cons r1 r2 =>
      rw [NTxs] at n
      exact .cons (nk_is ok n.1 t r1) (nks_is ok n.2 ts r2)
end
mutual
theorem nk_inj : ∀ {a b : PyData}, NTx a → NTx b → nk a = nk b → a = b
  | .str x, .str y, _, _, h => by rw [nk, nk] at h; injection h with h; rw [h]
  | .str x, .tuple ds, _, _, h => by rw [nk, nk] at h; cases h
  | .tuple ds, .str x, _, _, h => by rw [nk, nk] at h; cases h
  | .tuple ds, .tuple es, n, m, h => by
    rw [nk, nk] at h
    injection h with h
    rw [NTx] at n m
    rw [nks_inj n m h]
theorem nks_inj : ∀ {as bs : List PyData}, NTxs as → NTxs bs → nks as = nks bs → as = bs
  | [], [], _, _, _ => rfl
  | [], b :: bs, _, _, h => by rw [nks, nks] at h; cases h
  | a :: as, [], _, _, h => by rw [nks, nks] at h; cases h
  | a :: as, b :: bs, n, m, h => by
    rw [nks, nks] at h
    injection h with h1 h2
    rw [NTxs] at n m
    rw [nk_inj n.1 m.1 h1, nks_inj n.2 m.2 h2]
end
/-- a dict's cell: the object alone -/
def rawK (P : Program) (w : World) (a : Addr) (xs : List (NestedKey × Addr × Value)) : HO :=
  .ext fun h => (a == sysModules) = false ∧ ∃ o es ep, h.get? a = some o ∧ o.ExactDict ∧ o.data = .dict es ep ∧ es.toList = xs.map (entryOfKey (nestedKind P w))
theorem rawK_ok {P : Program} {w : World} {H : Hp} {h : Heap} {a : Addr} {xs : List (NestedKey × Addr × Value)} (ha : (a == sysModules) = false) (x : h.DictOfH (nestedKind P w) a xs) : ObjOk P w H h a (rawK P w a xs) := by
  obtain ⟨o, es, ep, h1, h2, h3, h4, _⟩ := x
  refine ⟨⟨ha, o, es, ep, h1, h2, h3, h4⟩, ⟨o, h1⟩, ?_⟩
  intro g1 g2 ⟨ha', o', es', ep', k1, k2⟩ e
  exact ⟨ha', o', es', ep', e _ k1, k2⟩
/-- what stands beside it -/
def xsOf (ds : List PyData) (bs : List Addr) : List (NestedKey × Addr × Value) := (ds.zip bs).map fun p => (nk p.1, p.2, Value.bool true)
theorem rawK_get {P : Program} {w : World} {H : Hp} {h : Heap} {a : Addr} {xs : List (NestedKey × Addr × Value)} (x : ObjOk P w H h a (rawK P w a xs)) (hk : ∀ x ∈ xs, (nestedKind P w).is h x.1 x.2.1) (hn : (xs.map (·.1)).Nodup) : (a == sysModules) = false ∧ h.DictOfH (nestedKind P w) a xs := by
  obtain ⟨⟨ha, o, es, ep, h1, h2, h3, h4⟩, _⟩ := x
  exact ⟨ha, o, es, ep, h1, h2, h3, h4, hk, hn⟩
end TF

/-! TFs.lean -/
set_option Elab.async false
set_option linter.all false
set_option maxRecDepth 100000
/-! TF.s: objects of one's own, methods, what may raise -/
namespace TF
open PySem PySem.Spec PyProof.Rows L2

/-! ### an object, as data -/
def unF : List (PyData × PyData) → List (Str × PyData)
  | (.str x, d) :: r => (x, d) :: unF r
  | _ => []
def ob (c : Str) (fs : List (Str × PyData)) : PyData := spc ((.str c, .none) :: fs.map fun p => (.str p.1, p.2))
def asOb : PyData → Option (Str × List (Str × PyData))
  | .dict ((.str _, .none) :: (.str c, .none) :: r) => some (c, unF r)
  | _ => none
theorem unF_map : ∀ fs : List (Str × PyData), unF (fs.map fun p => (PyData.str p.1, p.2)) = fs
  | [] => rfl
  | (x, d) :: r => by
    show (x, d) :: unF (r.map fun p => (PyData.str p.1, p.2)) = _
    rw [unF_map r]
@[simp] theorem asOb_ob (c : Str) (fs : List (Str × PyData)) : asOb (ob c fs) = some (c, fs) := by
  show some (c, unF (fs.map fun p => (PyData.str p.1, p.2))) = _
  rw [unF_map]
theorem ob_inj {c c' : Str} {fs fs' : List (Str × PyData)} (h : ob c fs = ob c' fs') : c = c' ∧ fs = fs' := by
  have e := congrArg asOb h
  rw [asOb_ob, asOb_ob] at e
  cases e
  exact ⟨rfl, rfl⟩
def putD (f : Str) (v : PyData) : List (Str × PyData) → List (Str × PyData)
  | [] => [(f, v)]
  | (g, x) :: r => if g = f then (g, v) :: r else (g, x) :: putD f v r
/-- a dict, by its keys -/
def dc (ks : List PyData) : PyData := spc [(.none, .list ks)]
theorem ob_dc {c : Str} {fs : List (Str × PyData)} {ks : List PyData} : ob c fs ≠ dc ks := fun h => by
  simp [ob, dc, spc] at h
/-- what is one's own: objects of the classes of the text, dicts -/
@[reducible] def mkO (P : Program) (w : World) (mg : Str → Option Value) (pin : Addr → HO → Prop) (rk : List Nat) : OwnK where
  G := fun a u vs ds x => pin a u ∧ ((∃ c C dx ns, mg c = some (.ref C) ∧ u = .ins C dx (List.zip ns vs) ∧ ns.length = vs.length ∧ ns.length = ds.length ∧ spc x = ob c (List.zip ns ds) ∧ ns.length ≤ 100) ∨
    (∃ bs, u = rawK P w a (xsOf ds bs) ∧ vs = bs.map V.ref ∧ spc x = dc ds ∧ NTxs ds ∧ ds.Nodup))
  rk := rk
  T := []
  nc := fun _ n => absurd rfl n
abbrev mkA (P : Program) (w : World) (mg : Str → Option Value) : OwnK := mkO P w mg (fun _ _ => True) []
section
variable {P : Program} {w : World} {mg : Str → Option Value} {pin pin' : Addr → HO → Prop} {rk rk' : List Nat} {K : PySem.W.Frag} {H : Hp} {Pr : Addr → Prop} {a : Addr} {u : HO} {d : PyData}
theorem ow_any (h : @Ow (mkO P w mg pin rk) K H Pr a u d) : @Ow (mkA P w mg) K H Pr a u d := by
  obtain ⟨vs, ds, g, t⟩ := h
  refine ⟨vs, ds, ?_, t⟩
  cases g with
  | lst => exact @Gk.lst (mkA P w mg) a vs ds
  | @ext _ _ _ x g => exact @Gk.ext (mkA P w mg) a u vs ds x ⟨trivial, g.2⟩
theorem ow_pin (h : @Ow (mkA P w mg) K H Pr a u d) (hp : pin a u) : @Ow (mkO P w mg pin rk) K H Pr a u d := by
  obtain ⟨vs, ds, g, t⟩ := h
  refine ⟨vs, ds, ?_, t⟩
  cases g with
  | lst => exact @Gk.lst (mkO P w mg pin rk) a vs ds
  | @ext _ _ _ x g => exact @Gk.ext (mkO P w mg pin rk) a u vs ds x ⟨hp, g.2⟩
theorem ow_isP {c : Str} {fs : List (Str × PyData)} (h : @Ow (mkO P w mg pin rk) K H Pr a u (ob c fs)) : pin a u := by
  obtain ⟨vs, ds, g, t⟩ := @Ow.ext (mkO P w mg pin rk) K H Pr a u _ h
  exact g.1
theorem asOb_some {d : PyData} {c : Str} {fs : List (Str × PyData)} (h : asOb d = some (c, fs)) (o : @Ow (mkO P w mg pin rk) K H Pr a u d) : d = ob c fs := by
  obtain ⟨vs, ds, g, t⟩ := o
  cases g with
  | lst => cases h
  | ext g =>
    rcases g.2 with ⟨c', C, dx, ns, h1, h2, h3, h4, h5, _⟩ | ⟨bs, h1, h2, h3, _⟩
    · rw [h5, asOb_ob] at h
      cases h
      exact h5
    · rw [h3] at h; cases h
/-- an object, apart -/
theorem ow_ob {c : Str} {fs : List (Str × PyData)} (h : @Ow (mkO P w mg pin rk) K H Pr a u (ob c fs)) : pin a u ∧ ∃ C dx ns vs ds, mg c = some (.ref C) ∧ u = .ins C dx (List.zip ns vs) ∧ ns.length = vs.length ∧ fs = List.zip ns ds ∧ ns.length = ds.length ∧ ns.length ≤ 100 ∧ DqA K H Pr vs ds := by
  obtain ⟨vs, ds, g, t⟩ := @Ow.ext (mkO P w mg pin rk) K H Pr a u _ h
  rcases g.2 with ⟨c', C, dx, ns, h1, h2, h3, h4, h5, h6⟩ | ⟨bs, h1, h2, h3, _⟩
  · have h5 : ob c fs = ob c' (List.zip ns ds) := h5
    obtain ⟨rfl, rfl⟩ := ob_inj h5
    exact ⟨g.1, C, dx, ns, vs, ds, h1, h2, h3, rfl, h4, h6, t⟩
  · exact absurd h3 ob_dc
theorem ow_mk {c : Str} {C dx : Addr} {ns : List Str} {vs : List V} {ds : List PyData} (hc : mg c = some (.ref C)) (h1 : ns.length = vs.length) (h2 : ns.length = ds.length) (h3 : ns.length ≤ 100) (t : DqA K H Pr vs ds) (hp : pin a (.ins C dx (List.zip ns vs))) :
    @Ow (mkO P w mg pin rk) K H Pr a (.ins C dx (List.zip ns vs)) (ob c (List.zip ns ds)) :=
  ⟨vs, ds, @Gk.ext (mkO P w mg pin rk) a _ vs ds _ ⟨hp, .inl ⟨c, C, dx, ns, hc, rfl, h1, h2, rfl, h3⟩⟩, t⟩
end
section
variable {P : Program} {w : World} {mg : Str → Option Value} {pin : Addr → HO → Prop} {rk : List Nat} {K : PySem.W.Frag} {H : Hp} {Pr : Addr → Prop} {a : Addr} {u : HO} {d : PyData} [OK : OwnK]
theorem ow_anyX (hO : OK = mkO P w mg pin rk) (h : Ow K H Pr a u d) : @Ow (mkA P w mg) K H Pr a u d := by subst hO; exact ow_any h
theorem ow_pinX (hO : OK = mkO P w mg pin rk) (h : @Ow (mkA P w mg) K H Pr a u d) (hp : pin a u) : Ow K H Pr a u d := by subst hO; exact ow_pin h hp
theorem ow_isPX (hO : OK = mkO P w mg pin rk) {c : Str} {fs : List (Str × PyData)} (h : Ow K H Pr a u (ob c fs)) : pin a u := by subst hO; exact ow_isP h
theorem asOb_someX (hO : OK = mkO P w mg pin rk) {d : PyData} {c : Str} {fs : List (Str × PyData)} (h : asOb d = some (c, fs)) (o : Ow K H Pr a u d) : d = ob c fs := by subst hO; exact asOb_some h o
theorem ow_obX (hO : OK = mkO P w mg pin rk) {c : Str} {fs : List (Str × PyData)} (h : Ow K H Pr a u (ob c fs)) : pin a u ∧ ∃ C dx ns vs ds, mg c = some (.ref C) ∧ u = .ins C dx (List.zip ns vs) ∧ ns.length = vs.length ∧ fs = List.zip ns ds ∧ ns.length = ds.length ∧ ns.length ≤ 100 ∧ DqA K H Pr vs ds := by subst hO; exact ow_ob h
theorem ow_mkX (hO : OK = mkO P w mg pin rk) {c : Str} {C dx : Addr} {ns : List Str} {vs : List V} {ds : List PyData} (hc : mg c = some (.ref C)) (h1 : ns.length = vs.length) (h2 : ns.length = ds.length) (h3 : ns.length ≤ 100) (t : DqA K H Pr vs ds) (hp : pin a (.ins C dx (List.zip ns vs))) :
    Ow K H Pr a (.ins C dx (List.zip ns vs)) (ob c (List.zip ns ds)) := by subst hO; exact ow_mk hc h1 h2 h3 t hp
theorem rk_of (hO : OK = mkO P w mg pin rk) : OK.rk = rk := by subst hO; rfl
theorem T_of (hO : OK = mkO P w mg pin rk) : OK.T = [] := by subst hO; rfl
end
theorem zip_lookup {K : PySem.W.Frag} {H : Hp} {Pr : Addr → Prop} {f : Str} : ∀ {ns : List Str} {vs : List V} {ds : List PyData} {d : PyData}, DqA K H Pr vs ds → (List.zip ns ds).lookup f = some d → ∃ v, (List.zip ns vs).lookup f = some v ∧ Dq K H Pr v d
  | [], _, _, _, _, h => by simp at h
  | n :: ns, _, _, _, .nil, h => by simp at h
  | n :: ns, v :: vs, d :: ds, e, .cons h t, q => by
    simp only [List.zip_cons_cons, List.lookup] at q ⊢
    split at q
    · cases q; exact ⟨v, rfl, h⟩
    · exact zip_lookup t q
theorem zip_none {f : Str} : ∀ {ns : List Str} {vs : List V} {ds : List PyData}, ns.length = vs.length → ns.length = ds.length → (List.zip ns ds).lookup f = none → (List.zip ns vs).lookup f = none
  | [], _, _, _, _, _ => by simp
  | n :: ns, v :: vs, d :: ds, h1, h2, q => by
    simp only [List.zip_cons_cons, List.lookup] at q ⊢
    cases hb : f == n with
    | true => rw [hb] at q; cases q
    | false =>
      rw [hb] at q
      exact zip_none (ns := ns) (vs := vs) (ds := ds) (by simpa using h1) (by simpa using h2) q
theorem zip_put {K : PySem.W.Frag} {H : Hp} {Pr : Addr → Prop} {f : Str} {v : V} {d : PyData} (hv : Dq K H Pr v d) : ∀ {ns : List Str} {vs : List V} {ds : List PyData}, ns.length = vs.length → ns.length = ds.length → DqA K H Pr vs ds →
    ∃ ns' vs' ds', putF f v (List.zip ns vs) = List.zip ns' vs' ∧ putD f d (List.zip ns ds) = List.zip ns' ds' ∧ ns'.length = vs'.length ∧ ns'.length = ds'.length ∧ ns'.length ≤ ns.length + 1 ∧ DqA K H Pr vs' ds'
  | [], [], [], _, _, _ => ⟨[f], [v], [d], rfl, rfl, rfl, rfl, Nat.le_refl _, .cons hv .nil⟩
  | n :: ns, v0 :: vs, d0 :: ds, h1, h2, .cons h t => by
    simp only [List.zip_cons_cons, putF, putD]
    by_cases e : n = f
    · rw [if_pos e, if_pos e]
      exact ⟨n :: ns, v :: vs, d :: ds, rfl, rfl, by simpa using h1, by simpa using h2, by simp, .cons hv t⟩
    · rw [if_neg e, if_neg e]
      obtain ⟨ns', vs', ds', a1, a2, a3, a4, a5, a6⟩ := zip_put hv (by simpa using h1) (by simpa using h2) t
      exact ⟨n :: ns', v0 :: vs', d0 :: ds', by rw [a1]; rfl, by rw [a2]; rfl, by simp [a3], by simp [a4], by simp; omega, .cons h a6⟩

section
variable [OK : OwnK] {K : PySem.W.Frag} {H0 H H' : Hp} {P0 P : Addr → Prop} {o : List Nat} {σ : St} {ρ : Rho}
/-- what stands at a is another one now, told by d' -/
theorem Rel.putX (R : Rel K H0 P0 H P o σ ρ) {i : Nat} (hi : i ∈ o) {a : Addr} {u' : HO} {d' : PyData} (ha : σ[i]? = some (some (.ref a))) (hx : ∀ b w, b ≠ a → H b = some w → H' b = some w) (hu : H' a = some u') (t : Ow K H' P a u' d') :
    Rel K H0 P0 H' P o σ (ρ.set i (some d')) ∧ Lt H P H' P := by
  obtain ⟨b, w, d, h1, h2, h3, h4, h5, h6⟩ := R.own i hi
  rw [ha] at h1
  cases h1
  have lt : Lt H P H' P := fun c u h n _ => ⟨hx c u (fun z => n (by rw [z]; exact h3)) h, n⟩
  have hl : i < ρ.length := (List.getElem?_eq_some_iff.mp h2).1
  refine ⟨⟨R.sub, R.tr0, fun c h => ?_, fun c u h => hx c u (fun z => by rw [z, h4] at h; cases h) (R.same c u h), fun j hj => ?_, R.dis, fun j e hj h => ?_, by rw [List.length_set, R.len], tabs_put R.tab h5 h6 hx, fun n => ⟨(R.tp n).1, fun c z ps q => ?_⟩⟩, lt⟩
  · by_cases hc : c = a
    · subst hc; exact ⟨_, hu⟩
    · obtain ⟨u, q⟩ := R.tr c h
      exact ⟨u, hx c u hc q⟩
  · by_cases hji : j = i
    · subst hji
      exact ⟨a, u', d', ha, List.getElem?_set_self hl, h3, h4, hu, t⟩
    · obtain ⟨c, u2, d2, g1, g2, g3, g4, g5, g6⟩ := R.own j hj
      exact ⟨c, u2, d2, g1, (set_get hji).trans g2, g3, g4, hx c u2 (R.dis j i c a hj hi hji g1 ha) g5, g6.mono lt⟩
  · have hji : j ≠ i := fun z => hj (z ▸ hi)
    rw [set_get hji] at h
    obtain ⟨v, g1, g2⟩ := R.dat j e hj h
    exact ⟨v, g1, g2.mono lt⟩
  · by_cases hc : c = a
    · subst hc; rw [hu] at q; cases q; exact (t.nc n).2 ps rfl
    · obtain ⟨w, hw⟩ := R.tr c z
      have := hx c w hc hw
      rw [q] at this; cases this
      exact (R.tp n).2 c z ps hw
end

/-! ### what is told of a deed that may change things of one's own, and may raise -/
inductive Rz where
  | ok (d : PyData) (ρ : Rho) | ex (x : Str)
inductive Rzs where
  | ok (ds : List PyData) (ρ : Rho) | ex (x : Str)
inductive Rm where
  | ok (d y : PyData) | ex (x : Str)
inductive Rf where
  | ok (d : PyData) | ex (x : Str)
section
variable [OK : OwnK]
def tM (X : Cx) (o : List Nat) (f : Rho → Option Rz) : TE := fun σ H Q => ∃ H0 P0 P ρ r, Rel X.K H0 P0 H P o σ ρ ∧ f ρ = some r ∧ match r with
  | .ok d ρ' => ∀ v H', Rel X.K H0 P0 H' P o σ ρ' → Lt H P H' P → Dq X.K H' P v d → Q v H'
  | .ex x => ∀ C H', X.mg x = some (.ref C) → Same H0 H' → ExX X (.ref C) none H'
def tMs (X : Cx) (o : List Nat) (f : Rho → Option Rzs) : TA := fun σ H Q => ∃ H0 P0 P ρ r, Rel X.K H0 P0 H P o σ ρ ∧ f ρ = some r ∧ match r with
  | .ok ds ρ' => ∀ vs H', Rel X.K H0 P0 H' P o σ ρ' → Lt H P H' P → DqA X.K H' P vs ds → Q vs H'
  | .ex x => ∀ C H', X.mg x = some (.ref C) → Same H0 H' → ExX X (.ref C) none H'
/-- a new list -/
def tMN (X : Cx) (o : List Nat) (f : Rho → Option Rzs) : TE := fun σ H Q => ∃ H0 P0 P ρ r, Rel X.K H0 P0 H P o σ ρ ∧ f ρ = some r ∧ match r with
  | .ok ds ρ' => ∀ p xs H1 H', Rel X.K H0 P0 H1 P o σ ρ' → Lt H P H1 P → Same H1 H' → H1 p = none → H' p = some (.lst xs) → DqA X.K H' (fun a => a = p ∨ P a) xs ds → Q (.ref p) H'
  | .ex x => ∀ C H', X.mg x = some (.ref C) → Same H0 H' → ExX X (.ref C) none H'
abbrev EM (X : Cx) (o : List Nat) (e : Expr) (f : Rho → Option Rz) : Prop := PE X e (tM X o f)
abbrev EMA (X : Cx) (o : List Nat) (es : List Expr) (f : Rho → Option Rzs) : Prop := PA X es (tMs X o f)
abbrev EMN (X : Cx) (o : List Nat) (e : Expr) (f : Rho → Option Rzs) : Prop := PE X e (tMN X o f)
variable {X : Cx} {o ob' : List Nat} {e a b : Expr} {es : List Expr} {f : Rho → Option PyData} {pos : Pos}
def mE (f : Rho → Option PyData) : Rho → Option Rz := fun ρ => (f ρ).bind fun d => some (.ok d ρ)
theorem em_ev (h : EV X o e f) : EM X o e (mE f) := PE.imp h fun σ H Q ⟨H0, P0, P, ρ, r, R, e, q⟩ => by
  unfold mE at e
  cases ef : f ρ with
  | none => rw [ef] at e; cases e
  | some d =>
    rw [ef] at e; cases e
    exact ⟨H0, P0, P, ρ, d, R, ef, fun v H' s t => q v H' (R.go s) (Lt.same P s) t⟩
def mNil : Rho → Option Rzs := fun ρ => some (.ok [] ρ)
def mCons (f : Rho → Option Rz) (g : Rho → Option Rzs) : Rho → Option Rzs := fun ρ => (f ρ).bind fun r => match r with
  | .ok d ρ1 => (g ρ1).bind fun s => (match s with
    | .ok ds ρ2 => some (.ok (d :: ds) ρ2)
    | .ex x => some (.ex x))
  | .ex x => some (.ex x)
theorem ema_nil : EMA X o [] mNil := PA.imp pa_nil fun σ H Q ⟨H0, P0, P, ρ, r, R, e, q⟩ => by cases e; exact q [] H R (Lt.refl H P) .nil
theorem ema_cons {f : Rho → Option Rz} {g : Rho → Option Rzs} (he : EM X o e f) (h : EMA X o es g) (hs : starEach (e :: es) X.env = (false, eval e X.env) :: starEach es X.env := by rfl) : EMA X o (e :: es) (mCons f g) :=
  PA.imp (pa_cons he h hs) fun σ H Q ⟨H0, P0, P, ρ, r, R, e, q⟩ => by
    unfold mCons at e
    cases ef : f ρ with
    | none => rw [ef] at e; cases e
    | some r1 =>
    rw [ef] at e
    simp only [Option.bind_some] at e
    refine ⟨H0, P0, P, ρ, r1, R, ef, ?_⟩
    cases r1 with
    | ex x => cases e; exact q
    | ok d ρ1 =>
      intro v H1 R1 l1 t1
      have e : ((g ρ1).bind fun s => (match s with
        | .ok ds ρ2 => some (Rzs.ok (d :: ds) ρ2)
        | .ex x => some (.ex x))) = some r := e
      cases eg : g ρ1 with
      | none => rw [eg] at e; cases e
      | some r2 =>
      rw [eg] at e
      refine ⟨H0, P0, P, ρ1, r2, R1, eg, ?_⟩
      cases r2 with
      | ex x => cases e; exact q
      | ok ds ρ2 => cases e; exact fun vs H2 R2 l2 t2 => q _ H2 R2 (l1.trans l2) (.cons (t1.mono l2) t2)
def mTup (g : Rho → Option Rzs) : Rho → Option Rz := fun ρ => (g ρ).bind fun s => match s with
  | .ok ds ρ2 => if ds.length ≤ 1000 then some (.ok (.tuple ds) ρ2) else none
  | .ex x => some (.ex x)
def mLst (g : Rho → Option Rzs) : Rho → Option Rzs := fun ρ => (g ρ).bind fun s => match s with
  | .ok ds ρ2 => if ds.length ≤ 1000 then some (.ok ds ρ2) else none
  | .ex x => some (.ex x)
theorem em_tup {g : Rho → Option Rzs} (h : EMA X o es g) {x1} : EM X o (.Tuple es x1 pos) (mTup g) := PE.imp (pe_tupF h) fun σ H Q ⟨H0, P0, P, ρ, r, R, e, q⟩ => by
  unfold mTup at e
  cases eg : g ρ with
  | none => rw [eg] at e; cases e
  | some s =>
    rw [eg] at e
    refine ⟨H0, P0, P, ρ, s, R, eg, ?_⟩
    cases s with
    | ex x => cases e; exact q
    | ok ds ρ2 =>
      have e : (if ds.length ≤ 1000 then some (Rz.ok (PyData.tuple ds) ρ2) else none) = some r := e
      by_cases hz : ds.length ≤ 1000
      · rw [if_pos hz] at e
        cases e
        refine fun vs H1 R1 l1 r1 => ⟨Nat.le_of_lt (small1000 (by rw [r1.length]; exact hz)), fun p its hp => ?_⟩
        exact q _ _ (R1.go (same_upd hp _)) (l1.trans (Lt.same P (same_upd hp _))) (.tup upd_same (R1.newP hp) (r1.same (same_upd hp _)))
      · rw [if_neg hz] at e; cases e
theorem emn_lst {g : Rho → Option Rzs} (h : EMA X o es g) : EMN X o (.List es pos) (mLst g) := PE.imp (pe_lst h) fun σ H Q ⟨H0, P0, P, ρ, r, R, e, q⟩ => by
  unfold mLst at e
  cases eg : g ρ with
  | none => rw [eg] at e; cases e
  | some s =>
    rw [eg] at e
    refine ⟨H0, P0, P, ρ, s, R, eg, ?_⟩
    cases s with
    | ex x => cases e; exact q
    | ok ds ρ2 =>
      have e : (if ds.length ≤ 1000 then some (Rzs.ok ds ρ2) else none) = some r := e
      by_cases hz : ds.length ≤ 1000
      · rw [if_pos hz] at e
        cases e
        refine fun vs H1 R1 l1 r1 => ⟨Nat.le_of_lt (small1000 (by rw [r1.length]; exact hz)), fun p hp => ?_⟩
        refine q p vs H1 _ R1 l1 (same_upd hp _) hp upd_same (r1.mono fun a u z n _ => ⟨same_upd hp _ a u z, ?_⟩)
        rintro (rfl | z')
        · rw [hp] at z; cases z
        · exact n z'
      · rw [if_neg hz] at e; cases e
/-- two, an operator -/
def mOp (f g : Rho → Option Rz) (k : PyData → PyData → Option PyData) : Rho → Option Rz := fun ρ => (f ρ).bind fun r => match r with
  | .ok x ρ1 => (g ρ1).bind fun s => (match s with
    | .ok y ρ2 => (k x y).bind fun z => some (.ok z ρ2)
    | .ex x => some (.ex x))
  | .ex x => some (.ex x)
def kB (k : PyData → PyData → Option Bool) : PyData → PyData → Option PyData := fun x y => (k x y).map .bool
theorem em_cmp {op : CmpOp} {g : PyData → PyData → Option Bool} {fa fb : Rho → Option Rz} (ho : OpR X (compareOp op) (rFB X.K g)) (ha : EM X o a fa) (hb : EM X o b fb) (hm : behindInMarks op b = false) : EM X o (.Compare a [op] [b] pos) (mOp fa fb (kB g)) :=
  PE.imp (pe_cmpR ho ha hb hm) fun σ H Q ⟨H0, P0, P, ρ, r, R, e, q⟩ => by
    unfold mOp at e
    cases ef : fa ρ with
    | none => rw [ef] at e; cases e
    | some r1 =>
    rw [ef] at e
    simp only [Option.bind_some] at e
    refine ⟨H0, P0, P, ρ, r1, R, ef, ?_⟩
    cases r1 with
    | ex x => cases e; exact q
    | ok x ρ1 =>
      intro v H1 R1 l1 t1
      have e : ((fb ρ1).bind fun s => (match s with
        | .ok y ρ2 => (kB g x y).bind fun z => some (Rz.ok z ρ2)
        | .ex x => some (.ex x))) = some r := e
      cases eg : fb ρ1 with
      | none => rw [eg] at e; cases e
      | some r2 =>
      rw [eg] at e
      refine ⟨H0, P0, P, ρ1, r2, R1, eg, ?_⟩
      cases r2 with
      | ex x => cases e; exact q
      | ok y ρ2 =>
        intro w H2 R2 l2 t2
        have e : ((g x y).map PyData.bool).bind (fun z => some (Rz.ok z ρ2)) = some r := e
        cases ek : g x y with
        | none => rw [ek] at e; cases e
        | some c =>
          rw [ek] at e
          cases e
          exact ⟨P, x, y, c, R2.tr, .inl (t1.mono l2), .inl t2, ek, q _ H2 R2 (l1.trans l2) (.bl c)⟩

/-! ### statements -/
def sSet (i : Nat) (f : Rho → Option Rz) : Rho → Option Fl := fun ρ => (f ρ).bind fun r => match r with
  | .ok d ρ1 => some (.nx (ρ1.set i (some d)))
  | .ex x => some (.ex x)
theorem sm_set (i : Nat) {x : Str} {pos' : Pos} {f : Rho → Option Rz} (hN : X.N.Nodup) (he : EM X o e f) (hi : i ∉ o := by decide) (hx : X.N[i]? = some x := by rfl) (hl : Loc X.env.scope x := by first | exact Or.inl rfl | exact Or.inr rfl) (hs : swapsWith e (some (.Name x pos')) pos.line X.env = pure false := by rfl)
    (hf : X.fn x = true ∨ X.env.scope.names.lookup x = some .local := by first | exact .inl rfl | exact .inr rfl) : SV X o o ob' (.Assign [.Name x pos'] e pos) (sSet i f) := PS.imp (ps_set hN hx hl he hs hf) fun D σ H ⟨H0, P0, P, ρ, fl, R, e, q⟩ => by
  unfold sSet at e
  cases ef : f ρ with
  | none => rw [ef] at e; cases e
  | some r =>
    rw [ef] at e
    refine ⟨H0, P0, P, ρ, r, R, ef, ?_⟩
    cases r with
    | ex x => cases e; exact q
    | ok d ρ1 => cases e; exact fun v H' R1 l1 t1 => q _ H' P (R1.set hi t1) l1
def sOwn (i : Nat) (f : Rho → Option Rzs) : Rho → Option Fl := fun ρ => (f ρ).bind fun r => match r with
  | .ok ds ρ1 => if i < ρ1.length then some (.nx (ρ1.set i (some (.list ds)))) else none
  | .ex x => some (.ex x)
theorem sm_own (i : Nat) {x : Str} {pos' : Pos} {f : Rho → Option Rzs} (hN : X.N.Nodup) (he : EMN X o e f) (hi : i ∉ o := by decide) (hx : X.N[i]? = some x := by rfl) (hl : Loc X.env.scope x := by first | exact Or.inl rfl | exact Or.inr rfl) (hs : swapsWith e (some (.Name x pos')) pos.line X.env = pure false := by rfl)
    (hf : X.fn x = true ∨ X.env.scope.names.lookup x = some .local := by first | exact .inl rfl | exact .inr rfl) : SV X o (i :: o) ob' (.Assign [.Name x pos'] e pos) (sOwn i f) := PS.imp (ps_set hN hx hl he hs hf) fun D σ H ⟨H0, P0, P, ρ, fl, R, e, q⟩ => by
  unfold sOwn at e
  cases ef : f ρ with
  | none => rw [ef] at e; cases e
  | some r =>
    rw [ef] at e
    refine ⟨H0, P0, P, ρ, r, R, ef, ?_⟩
    cases r with
    | ex x => cases e; exact q
    | ok ds ρ1 =>
      have e : (if i < ρ1.length then some (Fl.nx (ρ1.set i (some (.list ds)))) else none) = some fl := e
      by_cases hl : i < ρ1.length
      · rw [if_pos hl] at e
        cases e
        intro p xs H1 H' R1 l1 s n hp t
        obtain ⟨R', l⟩ := R1.take hi hl s n hp (.ofLst t)
        exact q _ H' _ R' (l1.trans l)
      · rw [if_neg hl] at e; cases e
def sExp (f : Rho → Option Rz) : Rho → Option Fl := fun ρ => (f ρ).bind fun r => match r with
  | .ok _ ρ1 => some (.nx ρ1)
  | .ex x => some (.ex x)
theorem sm_exp {f : Rho → Option Rz} (he : EM X o e f) (hsw : swapsWith e none pos.line X.env = pure false := by rfl) : SV X o o ob' (.Expr e pos) (sExp f) := PS.imp (ps_expr he hsw) fun D σ H ⟨H0, P0, P, ρ, fl, R, e, q⟩ => by
  unfold sExp at e
  cases ef : f ρ with
  | none => rw [ef] at e; cases e
  | some r =>
    rw [ef] at e
    refine ⟨H0, P0, P, ρ, r, R, ef, ?_⟩
    cases r with
    | ex x => cases e; exact q
    | ok d ρ1 => cases e; exact fun v H' R1 l1 t1 => q _ H' P R1 l1
/-- return, what is kept besides -/
def sRet (f : Rho → Option Rz) : Rho → Option Fl := fun ρ => (f ρ).bind fun r => match r with
  | .ok d ρ1 => some (.rx d ρ1)
  | .ex x => some (.ex x)
theorem sm_ret {o' : List Nat} {f : Rho → Option Rz} (h : EM X o e f) (hk : ∀ i ∈ OK.rk, i ∈ o := by decide) : SV X o o' ob' (.Return (some e) pos) (sRet f) := PS.imp (ps_ret h) fun D σ H ⟨H0, P0, P, ρ, fl, R, e, q⟩ => by
  unfold sRet at e
  cases ef : f ρ with
  | none => rw [ef] at e; cases e
  | some r =>
    rw [ef] at e
    refine ⟨H0, P0, P, ρ, r, R, ef, ?_⟩
    cases r with
    | ex x => cases e; exact q
    | ok d ρ1 => cases e; exact fun v H' R1 l1 t1 => q v σ H' P o hk R1 t1
def sApp (i : Nat) (f : Rho → Option Rz) : Rho → Option Fl := fun ρ => (f ρ).bind fun r => match r with
  | .ok d ρ1 => (match ρ1.getD i none with
    | some (.list ds) => if ds.length < sizeLine then some (.nx (ρ1.set i (some (.list (ds ++ [d]))))) else none
    | _ => none)
  | .ex x => some (.ex x)
def sAppL (i : Nat) (f : Rho → Option Rz) : Rho → Option Fl := fun ρ => match ρ.getD i none with
  | some (.list _) => sApp i f ρ
  | _ => none
theorem sm_append (i : Nat) {x : Str} {f : Rho → Option Rz} {px apos cpos pos : Pos} (hv : PE X (.Name x px) (tVar i)) (he : EM X o e f) (hi : i ∈ o := by decide)
    (hbase : attributeBase (.Name x px) "append" X.env (eval (.Name x px) X.env) = eval (.Name x px) X.env := by rfl)
    (hfew : ((backTo cpos (starEach [e] X.env)).all (fun x => !x.1) && (backToKw cpos (keywordEach [] X.env)).all (fun x => x.1.isSome)
      && decide (([e] : List Expr).length + ([] : List Keyword).length + (if ([] : List Keyword).isEmpty then 0 else 1) < 30)) = true := by rfl)
    (hline : (apos.endLine == cpos.line) = true := by rfl) (hs : starEach [e] X.env = (false, eval e X.env) :: starEach [] X.env := by rfl) (hplain : (backTo cpos (starEach [] X.env)).any (·.1) = false := by rfl)
    (hsw : swapsWith (.Call (.Attribute (.Name x px) "append" apos) [e] [] cpos) none pos.line X.env = pure false := by rfl) :
    SV X o o ob' (.Expr (.Call (.Attribute (.Name x px) "append" apos) [e] [] cpos) pos) (sAppL i f) :=
  PS.imp (ps_expr (pe_bm PySem.F.plainAttrs_list PySem.F.slot_list_append PySem.F.type_list_append mt_append hv (pa_cons he pa_nil hs) hbase hfew hline hs hplain) hsw) fun D σ H ⟨H0, P0, P, ρ, fl, R, e', q⟩ => by
    obtain ⟨a, u, d0, h1, h2, h3, h4, h5, h6⟩ := R.own i hi
    have eg : ρ.getD i none = some d0 := by rw [List.getD_eq_getElem?_getD, h2] <;> rfl
    unfold sAppL at e'
    rw [eg] at e'
    obtain ⟨ds, rfl⟩ : ∃ ds, d0 = .list ds := by
      cases d0 with
      | list ds => exact ⟨ds, rfl⟩
      | _ => cases e'
    obtain ⟨xs, eu, h7⟩ := h6.lst
    subst eu
    have e' : sApp i f ρ = some fl := e'
    unfold sApp at e'
    cases ef : f ρ with
    | none => rw [ef] at e'; cases e'
    | some r =>
    rw [ef] at e'
    refine ⟨.ref a, h1, .inl ⟨rfl, _, .inl (.inl h5)⟩, H0, P0, P, ρ, r, R, ef, ?_⟩
    cases r with
    | ex x => cases e'; exact q
    | ok d ρ1 =>
      intro v H1 R1 l1 t1
      have e' : (match ρ1.getD i none with
        | some (.list ds) => if ds.length < sizeLine then some (Fl.nx (ρ1.set i (some (.list (ds ++ [d]))))) else none
        | _ => none) = some fl := e'
      obtain ⟨a2, u2, d2, g1, g2, g3, g4, g5, g6⟩ := R1.own i hi
      rw [h1] at g1
      cases g1
      have eg : ρ1.getD i none = some d2 := by rw [List.getD_eq_getElem?_getD, g2] <;> rfl
      rw [eg] at e'
      obtain ⟨ds2, rfl⟩ : ∃ ds, d2 = .list ds := by
        cases d2 with
        | list ds => exact ⟨ds, rfl⟩
        | _ => cases e'
      obtain ⟨xs2, eu, g7⟩ := g6.lst
      subst eu
      have e' : (if ds2.length < sizeLine then some (Fl.nx (ρ1.set i (some (.list (ds2 ++ [d]))))) else none) = some fl := e'
      by_cases hz : ds2.length < sizeLine
      · rw [if_pos hz] at e'
        cases e'
        refine ⟨a, xs2, v, rfl, rfl, g5, by rw [g7.length]; exact hz, ?_⟩
        obtain ⟨R', l⟩ := R1.put hi h1 (.ofLst (g7.append (.cons t1 .nil)))
        exact q σ _ P R' (l1.trans l)
      · rw [if_neg hz] at e'; cases e'
/-- raise X('m') -/
def sRaise (x : Str) : Rho → Option Fl := fun _ => some (.ex x)
/-- what is known of an exception class of the text -/
structure ExcT (K : PySem.W.Frag) (mg : Str → Option Value) (x : Str) : Prop where
  ex : ∃ C, mg x = some (.ref C) ∧ PySem.W.excIn K C He.veBase "ValueError.__new__" = true ∧ PySem.W.keepIn K (.ref C) = true ∧ PySem.W.subIn K (.ref C) (.type "BaseException") = some true ∧ PySem.W.typeIn K (.ref C) = some (.type "type")
theorem sm_raise {x m : Str} {j : Nat} {p p2 p3 : Pos} {o' : List Nat} (T : ExcT X.K X.mg x) (hc : X.calm = true) (hg : Gl X x := by rfl) (hdb : (x == ("__debug__" : Str)) = false := by decide) :
    SV X o o' ob' (.Raise (some (.Call (.Name x p) [.Constant (.str m) j p2] [] p3)) none pos) (sRaise x) := by
  obtain ⟨C, h1, h2, h3, h4, h5⟩ := T.ex
  refine PS.imp (ps_raise hc takes_wst (pmk_own PySem.F.excBase_ValueError h2 h1 h3 (raises_own h4 h5) hg hdb)) fun D σ H ⟨H0, P0, P, ρ, fl, R, e, q⟩ => ?_
  cases e
  exact q C H h1 R.same σ
end
end TF

/-! TFt.lean -/
set_option Elab.async false
set_option linter.all false
set_option maxRecDepth 100000
/-! TF.t: fields, methods, defs that may raise -/
namespace TF
open PySem PySem.Spec PyProof.Rows L2

/-- what is known of a class of the text -/
structure ClsT (K : PySem.W.Frag) (mg : Str → Option Value) (c f : Str) : Prop where
  ex : ∃ C, mg c = some (.ref C) ∧ Cls K C ∧ NoAttr K C f
section
variable [OK : OwnK] {X : Cx} {o ob' : List Nat} {e : Expr} {es : List Expr} {fe : Rho → Option PyData} {pos : Pos} {pin : Addr → HO → Prop} {rk : List Nat}
/-! ### fields -/
def eFld (i : Nat) (c f : Str) : Rho → Option PyData := fun ρ => (ρ.getD i none).bind fun d => (asOb d).bind fun p => if p.1 = c then p.2.lookup f else none
theorem ev_fld {c f : Str} (hO : OK = mkO X.prog X.w X.mg pin rk) (T : ClsT X.K X.mg c f) (i : Nat) {x : Str} {px : Pos} (hv : PE X (.Name x px) (tVar i)) (hi : i ∈ o := by decide)
    (hb : attributeBase (.Name x px) f X.env (eval (.Name x px) X.env) = eval (.Name x px) X.env := by rfl) : EV X o (.Attribute (.Name x px) f pos) (eFld i c f) := by
  refine PE.imp (pe_fld hv hb) fun σ H Q ⟨H0, P0, P, ρ, d, R, e, q⟩ => ?_
  obtain ⟨C, hc, hC, hn⟩ := T.ex
  obtain ⟨a, u, d0, h1, h2, h3, h4, h5, h6⟩ := R.own i hi
  have eg : ρ.getD i none = some d0 := by rw [List.getD_eq_getElem?_getD, h2] <;> rfl
  unfold eFld at e
  rw [eg] at e
  simp only [Option.bind_some] at e
  cases ea : asOb d0 with
  | none => rw [ea] at e; cases e
  | some p =>
  obtain ⟨c', fs⟩ := p
  rw [ea] at e
  have e2 : (if c' = c then fs.lookup f else none) = some d := e
  clear e
  by_cases hcc : c' = c
  · rw [if_pos hcc] at e2
    subst hcc
    have ed := asOb_someX hO ea h6
    subst ed
    obtain ⟨_, C', dx, ns, vs, ds, g1, rfl, g3, rfl, g5, _, t⟩ := ow_obX hO h6
    rw [hc] at g1
    cases g1
    obtain ⟨v, l, qv⟩ := zip_lookup (ns := ns) t e2
    exact ⟨.ref a, h1, a, C, dx, _, v, rfl, h5, hC, hn, l, q v H (Same.refl H) qv⟩
  · rw [if_neg hcc] at e2; cases e2
def fFld (i : Nat) (c f : Str) (fe : Rho → Option PyData) : Rho → Option Fl := fun ρ => (fe ρ).bind fun v => (ρ.getD i none).bind fun d => (asOb d).bind fun p => if p.1 = c ∧ p.2.length < 50 then some (.nx (ρ.set i (some (.dict ((.str "", .none) :: (.str c, .none) :: (putD f v p.2).map fun p => (.str p.1, p.2)))))) else none
theorem sv_fld {c f : Str} (hO : OK = mkO X.prog X.w X.mg pin rk) (hpin : ∀ a u u', pin a u → pin a u') (T : ClsT X.K X.mg c f) (i : Nat) {x : Str} {px pos' : Pos} (hv : PE X (.Name x px) (tVar i)) (he : EV X o e fe) (hi : i ∈ o := by decide)
    (hs : swapsWith e (some (.Attribute (.Name x px) f pos')) pos.line X.env = pure false := by rfl) : SV X o o ob' (.Assign [.Attribute (.Name x px) f pos'] e pos) (fFld i c f fe) := by
  refine PS.imp (ps_fld hv he hs) fun D σ H ⟨H0, P0, P, ρ, fl, R, e, q⟩ => ?_
  obtain ⟨C, hc, hC, hn⟩ := T.ex
  unfold fFld at e
  cases ee : fe ρ with
  | none => rw [ee] at e; cases e
  | some v =>
  rw [ee] at e
  obtain ⟨a, u, d0, h1, h2, h3, h4, h5, h6⟩ := R.own i hi
  have eg : ρ.getD i none = some d0 := by rw [List.getD_eq_getElem?_getD, h2] <;> rfl
  rw [eg] at e
  simp only [Option.bind_some] at e
  cases ea : asOb d0 with
  | none => rw [ea] at e; cases e
  | some p =>
  obtain ⟨c', fs⟩ := p
  rw [ea] at e
  have e : (if c' = c ∧ fs.length < 50 then some (Fl.nx (ρ.set i (some (ob c (putD f v fs))))) else none) = some fl := e
  by_cases hcc : c' = c ∧ fs.length < 50
  · rw [if_pos hcc] at e
    obtain ⟨hcc, hl⟩ := hcc
    subst hcc
    cases e
    have ed := asOb_someX hO ea h6
    subst ed
    refine ⟨H0, P0, P, ρ, v, R, ee, fun y H1 s1 t1 => ⟨.ref a, h1, ?_⟩⟩
    obtain ⟨hp, C', dx, ns, vs, ds, g1, rfl, g3, rfl, g5, _, t⟩ := ow_obX hO h6
    rw [hc] at g1
    cases g1
    have hz1 : (List.zip ns vs).length = ns.length := by rw [List.length_zip, ← g3, Nat.min_self]
    have hz2 : (List.zip ns ds).length = ns.length := by rw [List.length_zip, ← g5, Nat.min_self]
    rw [hz2] at hl
    refine ⟨a, C, dx, _, rfl, s1 _ _ h5, hC, hn, by rw [hz1]; omega, ?_⟩
    obtain ⟨ns', vs', ds', a1, a2, a3, a4, a5, a6⟩ := zip_put (f := f) t1 g3 g5 (t.same s1)
    rw [a1]
    rw [a2] at q
    obtain ⟨R', l⟩ := (R.go s1).put hi h1 (ow_mkX hO (dx := dx) (a := a) hc a3 a4 (by omega) a6 (hpin _ _ _ hp))
    exact q σ _ P R' ((Lt.same P s1).trans l)
  · rw [if_neg hcc] at e; cases e

end
/-! ### what is promised -/
section
variable (P : Program) (w : World) (K : PySem.W.Frag) (mg : Str → Option Value)
/-- a method that may change its object, and may raise -/
def spM (n : Nat) (m : List PyData → Option Rm) : Sp := fun vs H Q E => vs.length = n + 1 ∧ ∃ (p : Addr) (vs' : List V) (u : HO) (d : PyData) (ds : List PyData) (r : Rm) (Pr : Addr → Prop), vs = .ref p :: vs' ∧ (∀ a, Pr a → ∃ u, H a = some u) ∧ Pr p ∧ H p = some u ∧ @Ow (mkA P w mg) K H Pr p u d ∧ DqA K H Pr vs' ds ∧ m (d :: ds) = some r ∧ match r with
  | .ok e y => ∀ v H' u', (∀ a w, a ≠ p → H a = some w → H' a = some w) → H' p = some u' → @Ow (mkA P w mg) K H' Pr p u' y → Dq K H' Pr v e → Q v H'
  | .ex x => ∀ C H', mg x = some (.ref C) → (∀ a w, a ≠ p → H a = some w → H' a = some w) → E (.ref C) none H'
/-- a method that only reads its object -/
def spP (n : Nat) (m : List PyData → Option PyData) : Sp := fun vs H Q _ => vs.length = n + 1 ∧ ∃ (p : Addr) (vs' : List V) (u : HO) (d : PyData) (ds : List PyData) (e : PyData) (Pr : Addr → Prop), vs = .ref p :: vs' ∧ (∀ a, Pr a → ∃ u, H a = some u) ∧ Pr p ∧ H p = some u ∧ @Ow (mkA P w mg) K H Pr p u d ∧ DqA K H Pr vs' ds ∧ m (d :: ds) = some e ∧
  ∀ v H', Same H H' → Dq K H' Pr v e → Q v H'
/-- a def that may raise -/
def spX (n : Nat) (m : List PyData → Option Rf) : Sp := fun vs H Q E => vs.length = n ∧ ∃ (Pr : Addr → Prop) (ds : List PyData) (r : Rf), (∀ a, Pr a → ∃ u, H a = some u) ∧ DqA K H Pr vs ds ∧ m ds = some r ∧ match r with
  | .ok e => ∀ v H', Same H H' → Dq K H' Pr v e → Q v H'
  | .ex x => ∀ C H', mg x = some (.ref C) → Same H H' → E (.ref C) none H'
variable (base : Heap) (k : Nat)
structure MCallee (c mn : Str) (n : Nat) (m : List PyData → Option Rm) : Prop where
  ex : ∃ (C f : Addr) (fd : FuncData) (ps : List Str), mg c = some (.ref C) ∧ Cls K C ∧ Meth K C mn f ∧ FnOk P w K mg base (L2.CX P w) k f fd ps (spM P w K mg n m) ∧ Binds K fd ps []
structure PCallee (c mn : Str) (n : Nat) (m : List PyData → Option PyData) : Prop where
  ex : ∃ (C f : Addr) (fd : FuncData) (ps : List Str), mg c = some (.ref C) ∧ Cls K C ∧ Meth K C mn f ∧ FnOk P w K mg base CX0 k f fd ps (spP P w K mg n m) ∧ Binds K fd ps []
structure KCallee (c : Str) (n : Nat) (m : List PyData → Option Rm) : Prop where
  ex : ∃ (C f : Addr) (fd : FuncData) (ps : List Str), mg c = some (.ref C) ∧ Mk K C f ∧ FnOk P w K mg base (L2.CX P w) k f fd ps (spM P w K mg n m) ∧ Binds K fd ps []
structure XCallee (x : Str) (n : Nat) (m : List PyData → Option Rf) : Prop where
  ex : ∃ (f : Addr) (fd : FuncData) (ps : List Str), FnOk P w K mg base (L2.CX P w) k f fd ps (spX K mg n m) ∧ mg x = some (.ref f) ∧ PySem.W.keepIn K (.ref f) = true ∧ Binds K fd ps []
end
section
variable {P : Program} {w : World} {K : PySem.W.Frag} {mg : Str → Option Value} {base : Heap} {k k' : Nat}
theorem MCallee.mono {c mn : Str} {n : Nat} {m : List PyData → Option Rm} (h : MCallee P w K mg base k c mn n m) (l : k ≤ k') : MCallee P w K mg base k' c mn n m := by
  obtain ⟨C, f, fd, ps, a, b, c, F, d⟩ := h.ex
  exact ⟨C, f, fd, ps, a, b, c, F.mono l, d⟩
theorem PCallee.mono {c mn : Str} {n : Nat} {m : List PyData → Option PyData} (h : PCallee P w K mg base k c mn n m) (l : k ≤ k') : PCallee P w K mg base k' c mn n m := by
  obtain ⟨C, f, fd, ps, a, b, c, F, d⟩ := h.ex
  exact ⟨C, f, fd, ps, a, b, c, F.mono l, d⟩
theorem KCallee.mono {c : Str} {n : Nat} {m : List PyData → Option Rm} (h : KCallee P w K mg base k c n m) (l : k ≤ k') : KCallee P w K mg base k' c n m := by
  obtain ⟨C, f, fd, ps, a, b, F, d⟩ := h.ex
  exact ⟨C, f, fd, ps, a, b, F.mono l, d⟩
theorem XCallee.mono {x : Str} {n : Nat} {m : List PyData → Option Rf} (h : XCallee P w K mg base k x n m) (l : k ≤ k') : XCallee P w K mg base k' x n m := by
  obtain ⟨f, fd, ps, F, d⟩ := h.ex
  exact ⟨f, fd, ps, F.mono l, d⟩
end
section
variable [OK : OwnK] {X : Cx} {o ob' : List Nat} {e : Expr} {es : List Expr} {fe : Rho → Option PyData} {pos : Pos} {pin : Addr → HO → Prop} {rk : List Nat} {k n : Nat}
/-! ### calls of methods -/
def okOb (c mn : Str) (d : PyData) : Bool := match asOb d with
  | some (c', fs) => decide (c' = c) && (fs.lookup mn).isNone
  | none => false
def mMeth (i : Nat) (c mn : Str) (m : List PyData → Option Rm) (g : Rho → Option (List PyData)) : Rho → Option Rz := fun ρ => (g ρ).bind fun ds => (ρ.getD i none).bind fun d => if okOb c mn d = true then (m (d :: ds)).bind fun r => (match r with
    | .ok e y => some (.ok e (ρ.set i (some y)))
    | .ex x => some (.ex x)) else none
theorem meth_of {C : Addr} {c mn : Str} {m : List PyData → Option Rm} {g : Rho → Option (List PyData)} {i n : Nat} {σ : St} {H : Hp} {Q : VK} (hO : OK = mkO X.prog X.w X.mg pin rk) (hpin : ∀ a u u', pin a u → pin a u') (hc : X.mg c = some (.ref C)) (hi : i ∈ o)
    (hn : ∀ ρ ds, g ρ = some ds → ds.length = n) (h : tM X o (mMeth i c mn m g) σ H Q) : tMeth C mn (spM X.prog X.w X.K X.mg n m) [] (ExX X) (tVar i) (tAs X.K o g) σ H Q := by
  obtain ⟨H0, P0, P, ρ, r, R, e, q⟩ := h
  unfold mMeth at e
  cases eg : g ρ with
  | none => rw [eg] at e; cases e
  | some ds =>
  rw [eg] at e
  obtain ⟨a, u, d0, h1, h2, h3, h4, h5, h6⟩ := R.own i hi
  have ed : ρ.getD i none = some d0 := by rw [List.getD_eq_getElem?_getD, h2] <;> rfl
  rw [ed] at e
  simp only [Option.bind_some] at e
  by_cases hok : okOb c mn d0 = true
  · rw [if_pos hok] at e
    unfold okOb at hok
    cases ea : asOb d0 with
    | none => rw [ea] at hok; cases hok
    | some p =>
    obtain ⟨c', fs⟩ := p
    rw [ea] at hok
    simp only [Bool.and_eq_true, decide_eq_true_eq, Option.isNone_iff_eq_none] at hok
    obtain ⟨rfl, hno⟩ := hok
    have ed0 := asOb_someX hO ea h6
    subst ed0
    obtain ⟨hp, C', dx, ns, vs, ds0, g1, rfl, g3, rfl, g5, _, t⟩ := ow_obX hO h6
    rw [hc] at g1
    cases g1
    refine ⟨.ref a, h1, a, dx, _, rfl, h5, zip_none g3 g5 hno, ?_⟩
    refine ⟨H0, P0, P, ρ, ds, R, eg, fun vs1 H1 s1 t1 => ?_⟩
    cases em : m (ob c' (List.zip ns ds0) :: ds) with
    | none => rw [em] at e; cases e
    | some rm =>
    rw [em] at e
    refine ⟨by simp [t1.length, hn _ _ eg], a, vs1 ++ [], _, _, ds, rm, P, rfl, (R.go s1).tr, h3, s1 _ _ h5, ow_anyX hO (h6.same s1), by rw [List.append_nil]; exact t1, em, ?_⟩
    cases rm with
    | ok y z =>
      cases e
      intro v H' u' hx hu ow dq
      obtain ⟨R', l⟩ := (R.go s1).putX hi h1 hx hu (ow_pinX hO ow (hpin _ _ _ hp))
      exact q v H' R' ((Lt.same P s1).trans l) dq
    | ex x =>
      cases e
      exact fun C2 H' hm hx => q C2 H' hm fun b w hb => hx b w (fun z => by rw [z, h4] at hb; cases hb) (s1 _ _ (R.same _ _ hb))
  · rw [if_neg hok] at e; cases e
theorem em_meth {c mn : Str} {m : List PyData → Option Rm} {g : Rho → Option (List PyData)} {x : Str} {px apos : Pos} {pl : Sem Bool} (hO : OK = mkO X.prog X.w X.mg pin rk) (hpin : ∀ a u u', pin a u → pin a u') (M : MCallee X.prog X.w X.K X.mg X.base k c mn n m) (hr : Room k X.A) (i : Nat) (hv : PE X (.Name x px) (tVar i)) (ha : EA X o (e :: es) g)
    (hn : ∀ ρ ds, g ρ = some ds → ds.length = n) (hi : i ∈ o := by decide)
    (hst : starEach (e :: es) X.env = (false, eval e X.env) :: starEach es X.env := by rfl) (hpl : (backTo pos (starEach es X.env)).any (·.1) = false := by rfl)
    (ht : eval (.Call (.Attribute (.Name x px) mn apos) (e :: es) [] pos) X.env = (do
      let ov ← eval (.Name x px) X.env
      standAt apos.atName
      let (f, first) ← holding [ov] (getMethod ov mn pl)
      callWith pos f first (backTo pos (starEach (e :: es) X.env)) (backToKw pos (keywordEach [] X.env))) := by rfl) : EM X o (.Call (.Attribute (.Name x px) mn apos) (e :: es) [] pos) (mMeth i c mn m g) := by
  obtain ⟨C, f, fd, ps, hc, hC, hm, F, hb⟩ := M.ex
  exact PE.imp (pe_meth hv hC hm F hr hb .nil passes_exX ha hst hpl ht) fun σ H Q h => meth_of hO hpin hc hi hn h
theorem tas_nil {i : Nat} {σ : St} {H : Hp} {C : Addr} {mn : Str} {sp : Sp} {E : XK} {Q : VK} (h : tMeth C mn sp [] E (tVar i) (tAs X.K o aNil) σ H Q) : tMeth C mn sp [] E (tVar i) tNil σ H Q := by
  obtain ⟨v, h1, a, dx, fs, e1, h2, h3, H0, P0, P, ρ, ds, R, e, q⟩ := h
  cases e
  exact ⟨v, h1, a, dx, fs, e1, h2, h3, q [] H (Same.refl H) .nil⟩
theorem em_meth0 {c mn : Str} {m : List PyData → Option Rm} {x : Str} {px apos : Pos} {pl : Sem Bool} (hO : OK = mkO X.prog X.w X.mg pin rk) (hpin : ∀ a u u', pin a u → pin a u') (M : MCallee X.prog X.w X.K X.mg X.base k c mn 0 m) (hr : Room k X.A) (i : Nat) (hv : PE X (.Name x px) (tVar i)) (hi : i ∈ o := by decide)
    (ht : eval (.Call (.Attribute (.Name x px) mn apos) [] [] pos) X.env = (do
      let ov ← eval (.Name x px) X.env
      standAt apos.atName
      let (f, first) ← holding [ov] (getMethod ov mn pl)
      callWith pos f first (backTo pos (starEach [] X.env)) (backToKw pos (keywordEach [] X.env))) := by rfl) : EM X o (.Call (.Attribute (.Name x px) mn apos) [] [] pos) (mMeth i c mn m aNil) := by
  obtain ⟨C, f, fd, ps, hc, hC, hm, F, hb⟩ := M.ex
  exact PE.imp (pe_meth0 hv hC hm F hr hb .nil passes_exX ht) fun σ H Q h => tas_nil (meth_of hO hpin hc hi (fun ρ ds e => by cases e; rfl) h)
/-- a method that only reads -/
def eMeth (i : Nat) (c mn : Str) (m : List PyData → Option PyData) (g : Rho → Option (List PyData)) : Rho → Option PyData := fun ρ => (g ρ).bind fun ds => (ρ.getD i none).bind fun d => if okOb c mn d = true then m (d :: ds) else none
theorem methP_of {C : Addr} {c mn : Str} {m : List PyData → Option PyData} {g : Rho → Option (List PyData)} {i n : Nat} {σ : St} {H : Hp} {Q : VK} (hO : OK = mkO X.prog X.w X.mg pin rk) (hc : X.mg c = some (.ref C)) (hi : i ∈ o)
    (hn : ∀ ρ ds, g ρ = some ds → ds.length = n) (h : tV X.K o (eMeth i c mn m g) σ H Q) : tMeth C mn (spP X.prog X.w X.K X.mg n m) [] E0 (tVar i) (tAs X.K o g) σ H Q := by
  obtain ⟨H0, P0, P, ρ, r, R, e, q⟩ := h
  unfold eMeth at e
  cases eg : g ρ with
  | none => rw [eg] at e; cases e
  | some ds =>
  rw [eg] at e
  obtain ⟨a, u, d0, h1, h2, h3, h4, h5, h6⟩ := R.own i hi
  have ed : ρ.getD i none = some d0 := by rw [List.getD_eq_getElem?_getD, h2] <;> rfl
  rw [ed] at e
  simp only [Option.bind_some] at e
  by_cases hok : okOb c mn d0 = true
  · rw [if_pos hok] at e
    unfold okOb at hok
    cases ea : asOb d0 with
    | none => rw [ea] at hok; cases hok
    | some p =>
    obtain ⟨c', fs⟩ := p
    rw [ea] at hok
    simp only [Bool.and_eq_true, decide_eq_true_eq, Option.isNone_iff_eq_none] at hok
    obtain ⟨rfl, hno⟩ := hok
    have ed0 := asOb_someX hO ea h6
    subst ed0
    obtain ⟨hp, C', dx, ns, vs, ds0, g1, rfl, g3, rfl, g5, _, t⟩ := ow_obX hO h6
    rw [hc] at g1
    cases g1
    refine ⟨.ref a, h1, a, dx, _, rfl, h5, zip_none g3 g5 hno, ?_⟩
    refine ⟨H0, P0, P, ρ, ds, R, eg, fun vs1 H1 s1 t1 => ?_⟩
    exact ⟨by simp [t1.length, hn _ _ eg], a, vs1 ++ [], _, _, ds, r, P, rfl, (R.go s1).tr, h3, s1 _ _ h5, ow_anyX hO (h6.same s1), by rw [List.append_nil]; exact t1, e, fun v H' s t => q v H' (s1.trans s) t⟩
  · rw [if_neg hok] at e; cases e
theorem ev_meth0 {c mn : Str} {m : List PyData → Option PyData} {x : Str} {px apos : Pos} {pl : Sem Bool} (hO : OK = mkO X.prog X.w X.mg pin rk) (M : PCallee X.prog X.w X.K X.mg X.base k c mn 0 m) (hr : Room k X.A) (i : Nat) (hv : PE X (.Name x px) (tVar i)) (hi : i ∈ o := by decide)
    (ht : eval (.Call (.Attribute (.Name x px) mn apos) [] [] pos) X.env = (do
      let ov ← eval (.Name x px) X.env
      standAt apos.atName
      let (f, first) ← holding [ov] (getMethod ov mn pl)
      callWith pos f first (backTo pos (starEach [] X.env)) (backToKw pos (keywordEach [] X.env))) := by rfl) : EV X o (.Call (.Attribute (.Name x px) mn apos) [] [] pos) (eMeth i c mn m aNil) := by
  obtain ⟨C, f, fd, ps, hc, hC, hm, F, hb⟩ := M.ex
  exact PE.imp (pe_meth0 hv hC hm F hr hb .nil pass0 ht) fun σ H Q h => tas_nil (methP_of hO hc hi (fun ρ ds e => by cases e; rfl) h)
/-! ### a def that may raise, called -/
def mFn (n : Nat) (m : List PyData → Option Rf) (g : Rho → Option Rzs) : Rho → Option Rz := fun ρ => (g ρ).bind fun s => match s with
  | .ok ds ρ1 => if ds.length = n then (m ds).bind fun r => (match r with
    | .ok d => some (.ok d ρ1)
    | .ex x => some (.ex x)) else none
  | .ex x => some (.ex x)
theorem em_fn {x : Str} {p : Pos} {m : List PyData → Option Rf} {g : Rho → Option Rzs} (c : XCallee X.prog X.w X.K X.mg X.base k x n m) (hr : Room k X.A)
    (ha : EMA X o (e :: es) g) (hg : Gl X x := by rfl) (hdb : (x == ("__debug__" : Str)) = false := by decide) (he : starEach (e :: es) X.env = (false, eval e X.env) :: starEach es X.env := by rfl) (hpl : (backTo pos (starEach es X.env)).any (·.1) = false := by rfl) :
    EM X o (.Call (.Name x p) (e :: es) [] pos) (mFn n m g) := by
  obtain ⟨f, fd, ps, F, hm, hk, hb⟩ := c.ex
  refine PE.imp (pe_call F hr hg hm hk hb .nil passes_exX ha hdb he hpl) fun σ H Q ⟨H0, P0, P, ρ, r, R, e, q⟩ => ?_
  unfold mFn at e
  cases eg : g ρ with
  | none => rw [eg] at e; cases e
  | some s =>
  rw [eg] at e
  refine ⟨H0, P0, P, ρ, s, R, eg, ?_⟩
  cases s with
  | ex x => cases e; exact q
  | ok ds ρ1 =>
    intro vs H1 R1 l1 t1
    have e : (if ds.length = n then (m ds).bind fun r => (match r with
      | .ok d => some (Rz.ok d ρ1)
      | .ex x => some (.ex x)) else none) = some r := e
    by_cases hn : ds.length = n
    · rw [if_pos hn] at e
      cases em : m ds with
      | none => rw [em] at e; cases e
      | some rm =>
      rw [em] at e
      show spX X.K X.mg n m (vs ++ []) H1 Q (ExX X)
      rw [List.append_nil]
      refine ⟨t1.length.trans hn, P, ds, rm, R1.tr, t1, em, ?_⟩
      cases rm with
      | ok d => cases e; exact fun v H' s t => q v H' (R1.go s) (l1.trans (Lt.same P s)) t
      | ex x => cases e; exact fun C H' hm hs => q C H' hm (R1.same.trans hs)
    · rw [if_neg hn] at e; cases e
/-! ### x = C(..) -/
def fMake (i : Nat) (c : Str) (m : List PyData → Option Rm) (g : Rho → Option (List PyData)) : Rho → Option Fl := fun ρ => (g ρ).bind fun ds => (m (ob c [] :: ds)).bind fun r => match r with
  | .ok .none y => if i < ρ.length then some (.nx (ρ.set i (some y))) else none
  | _ => none
theorem sv_make {c x : Str} {m : List PyData → Option Rm} {g : Rho → Option (List PyData)} {p px cpos : Pos} (hO : OK = mkO X.prog X.w X.mg pin rk) (hpin : ∀ a u, pin a u) (M : KCallee X.prog X.w X.K X.mg X.base k c n m) (hr : Room (k + 1) X.A) (i : Nat) (hN : X.N.Nodup) (ha : EA X o (e :: es) g)
    (hn : ∀ ρ ds, g ρ = some ds → ds.length = n) (hi : i ∉ o := by decide) (hx : X.N[i]? = some x := by rfl) (hl : Loc X.env.scope x := by first | exact Or.inl rfl | exact Or.inr rfl) (hs : swapsWith (.Call (.Name c p) (e :: es) [] cpos) (some (.Name x px)) pos.line X.env = pure false := by rfl)
    (hf : X.fn x = true ∨ X.env.scope.names.lookup x = some .local := by first | exact .inl rfl | exact .inr rfl) (hg : Gl X c := by rfl) (hdb : (c == ("__debug__" : Str)) = false := by decide) (he : starEach (e :: es) X.env = (false, eval e X.env) :: starEach es X.env := by rfl) (hpl : (backTo cpos (starEach es X.env)).any (·.1) = false := by rfl) :
    SV X o (i :: o) ob' (.Assign [.Name x px] (.Call (.Name c p) (e :: es) [] cpos) pos) (fMake i c m g) := by
  obtain ⟨C, f, fd, ps, hc, hM, F, hb⟩ := M.ex
  refine PS.imp (ps_set hN hx hl (pe_make hM F hr hg hc hb .nil passes_exX ha hdb he hpl) hs hf) fun D σ H ⟨H0, P0, P, ρ, fl, R, e, q⟩ => ?_
  unfold fMake at e
  cases eg : g ρ with
  | none => rw [eg] at e; cases e
  | some ds =>
  rw [eg] at e
  simp only [Option.bind_some] at e
  refine ⟨H0, P0, P, ρ, ds, R, eg, fun vs H1 s1 t1 y dx ny ndx ne => ?_⟩
  cases em : m (ob c [] :: ds) with
  | none => rw [em] at e; cases e
  | some r =>
  rw [em] at e
  have R1 := R.go s1
  have at1 : ∀ a u, H1 a = some u → upd (upd H1 dx (.own y)) y (.ins C dx []) a = some u := fun a u z => by
    rw [upd_ne (ne_of_none z ny), upd_ne (ne_of_none z ndx)]; exact z
  have lt1 : Lt H1 P (upd (upd H1 dx (.own y)) y (.ins C dx [])) (fun a => a = y ∨ P a) := fun a u z np _ => ⟨at1 a u z, by
    rintro (rfl | z')
    · rw [ny] at z; cases z
    · exact np z'⟩
  refine ⟨by simp [t1.length, hn _ _ eg], y, vs ++ [], .ins C dx [], ob c [], ds, r, fun a => a = y ∨ P a, rfl, ?_, .inl rfl, upd_same, ?_, by rw [List.append_nil]; exact t1.mono lt1, em, ?_⟩
  · rintro a (rfl | z)
    · exact ⟨_, upd_same⟩
    · obtain ⟨u, hu⟩ := R1.tr a z
      exact ⟨u, at1 a u hu⟩
  · exact ow_mk (ns := []) (vs := []) (ds := []) hc rfl rfl (by simp) .nil trivial
  · cases r with
    | ex z => cases e
    | ok d z =>
      cases d with
      | none =>
        have e : (if i < ρ.length then some (Fl.nx (ρ.set i (some z))) else none) = some fl := e
        by_cases hl : i < ρ.length
        · rw [if_pos hl] at e
          cases e
          intro v H' u' hx' hu ow dq
          refine ⟨Dr.non (.inl dq), ?_⟩
          have s' : Same H1 H' := fun a u z => hx' a u (ne_of_none z ny) (at1 a u z)
          obtain ⟨R', l⟩ := R1.take hi hl s' ny hu (ow_pinX hO ow (hpin _ _))
          exact q _ H' _ R' ((Lt.same P s1).trans l)
        · rw [if_neg hl] at e; cases e
      | _ => cases e
end
/-! ### defs by their bodies -/
def runM (n : Nat) (f : Rho → Option Fl) (ds : List PyData) : Option Rm := (f (ds.map some ++ List.replicate (n - ds.length) none)).bind fun fl => match fl with
  | .rx d ρ => (ρ.getD 0 none).bind fun y => (asOb y).bind fun _ => some (.ok d y)
  | .nx ρ => (ρ.getD 0 none).bind fun y => (asOb y).bind fun _ => some (.ok .none y)
  | .ex x => some (.ex x)
  | _ => none
def runP (n : Nat) (f : Rho → Option Fl) (ds : List PyData) : Option PyData := (f (ds.map some ++ List.replicate (n - ds.length) none)).bind fun fl => match fl with
  | .rx d ρ => (ρ.getD 0 none).bind fun y => (asOb y).bind fun _ => some d
  | _ => none
def runX (n : Nat) (f : Rho → Option Fl) (ds : List PyData) : Option Rf := (f (ds.map some ++ List.replicate (n - ds.length) none)).bind fun fl => match fl with
  | .rt d => some (.ok d)
  | .nx _ => some (.ok .none)
  | .ex x => some (.ex x)
  | _ => none
theorem exX_of {P : Program} {w : World} {K : PySem.W.Frag} {mg : Str → Option Value} {base : Heap} {N : List Str} {qual : Str} {scope : Scope} {f : Addr} {cdv : Value} {A : Around} {outer : List Env} {s : Shared} {H : Hp} {E : XK} {cls : Value} {d : Option Addr} {H' : Hp} (h : E cls d H') :
    ExX (cxOf (L2.CX P w) P w K mg base N qual scope f cdv A outer s H E) cls d H' := fun σ => wst_of (W := fun cls d _ H => E cls d H) (takes_of rfl rfl rfl rfl) h
theorem args_get {ds : List PyData} {N : Nat} {i : Nat} {d : PyData} (h : (ds.map some ++ List.replicate (N - ds.length) none)[i]? = some (some d)) : ds[i]? = some d := by
  have hi : i < ds.length := by
    by_cases hi : i < ds.length
    · exact hi
    · rw [List.getElem?_append_right (by simpa using hi), List.getElem?_replicate] at h
      split at h <;> cases h
  rw [List.getElem?_append_left (by simpa using hi), List.getElem?_map] at h
  cases z : ds[i]? with
  | none => rw [z] at h; cases h
  | some d2 => rw [z] at h; cases h; rfl
/-- at a method's entry -/
theorem Rel.entry {P : Program} {w : World} {K : PySem.W.Frag} {mg : Str → Option Value} {pin : Addr → HO → Prop} {H : Hp} {Pr : Addr → Prop} {p : Addr} {u : HO} {d : PyData} {vs : List V} {ds : List PyData} {N : List Str}
    (tr : ∀ a, Pr a → ∃ u, H a = some u) (hp : Pr p) (hu : H p = some u) (ow : @Ow (mkA P w mg) K H Pr p u d) (hpin : pin p u) (t : DqA K H Pr vs ds) :
    @Rel (mkO P w mg pin [0]) K (fun a => if a = p then none else H a) (fun a => Pr a ∧ a ≠ p) H Pr [0] (L2.start N (.ref p :: vs)) ((d :: ds).map some ++ List.replicate (N.length - (d :: ds).length) none) := by
  refine @Rel.mk (mkO P w mg pin [0]) K _ _ H Pr [0] _ _ (fun a z => z.1) (fun a z => ?_) tr (fun a u z => ?_) (fun i hi => ?_) (fun i j a b hi hj ne => ?_) (fun i e hi h => ?_) ?_ (tabs0 (OK := mkO P w mg pin [0]) rfl) (fun n => absurd rfl n)
  · obtain ⟨u, h⟩ := tr a z.1
    exact ⟨u, by rw [if_neg z.2]; exact h⟩
  · by_cases h : a = p
    · rw [if_pos h] at z; cases z
    · rw [if_neg h] at z; exact z
  · have e : i = 0 := by simpa using hi
    subst e
    exact ⟨p, u, d, start_get rfl, rfl, hp, if_pos rfl, hu, ow_pin ow hpin⟩
  · exact absurd ((by simpa using hi : i = 0).trans (by simpa using hj : j = 0).symm) ne
  · have h' := args_get h
    cases i with
    | zero => exact absurd (by simp) hi
    | succ i =>
      obtain ⟨v, h1, h2⟩ := t.get (i := i) (d := e) (by simpa using h')
      exact ⟨v, start_get (by simpa using h1), h2⟩
  · unfold L2.start
    simp only [List.length_append, List.length_map, List.length_cons, List.length_replicate, t.length]
section
variable {P : Program} {w : World} {K : PySem.W.Frag} {mg : Str → Option Value} {base : Heap} {k : Nat} {x qual : Str} {params : Arguments} {body : List Stmt} {scope : Scope} {f : Addr} {fd : FuncData} {N ps : List Str} {o' : List Nat} {fb : Rho → Option Fl}
theorem fn_M {n : Nat} (F : FunD K x qual params body scope [] [] f fd) (S : FnScope N ps scope) (hn : ps.length = n + 1) (h0 : 0 ∈ o')
    (hbody : ∀ (p : Addr) (cdv : Value) (A : Around) (outer : List Env) (s : Shared) (H : Hp) (E : XK), Room k (A.deeper (envOfC qual scope s.heap.objs.size f cdv)) → @SVs (mkO P w mg (fun a _ => a = p) [0]) (cxOf (L2.CX P w) P w K mg base N qual scope f cdv A outer s H E) [0] o' [] body fb) :
    FnOk P w K mg base (L2.CX P w) (k + 1) f fd ps (spM P w K mg n (runM N.length fb)) := by
  refine F.ok S (fun vs H Q E h => h.1.trans hn.symm) (fun cdv A outer s H vs Q E hr h => ?_)
  obtain ⟨hl, p, vs', u, d, ds, r, Pr, rfl, tr, hp, hu, ow, t, e, q⟩ := h
  have hb := hbody p cdv A outer s H E hr
  have Re := Rel.entry (N := N) (pin := fun a _ => a = p) tr hp hu ow rfl t
  generalize hO' : mkO P w mg (fun a _ => a = p) [0] = OK at hb Re
  have hO := hO'.symm
  clear hO'
  refine ⟨_, hb, ?_⟩
  unfold runM at e
  cases ef : fb ((d :: ds).map some ++ List.replicate (N.length - (d :: ds).length) none) with
  | none => rw [ef] at e; cases e
  | some fl =>
  rw [ef] at e
  simp only [Option.bind_some] at e
  refine ⟨_, _, Pr, _, fl, Re, ef, ?_⟩
  have sx : ∀ {H' : Hp}, Same (fun a => if a = p then none else H a) H' → ∀ a w, a ≠ p → H a = some w → H' a = some w := fun {H'} s a w ne z => s a w (by show (if a = p then none else H a) = some w; rw [if_neg ne]; exact z)
  -- the end with what is kept
  have fin : ∀ (v : V) (dv : PyData) (σ' : St) (H' : Hp) (P' : Addr → Prop) (o2 : List Nat) (ρ' : Rho) (y : PyData) (z), ρ'.getD 0 none = some y → asOb y = some z → 0 ∈ o2 →
      Rel K (fun a => if a = p then none else H a) (fun a => Pr a ∧ a ≠ p) H' P' o2 σ' ρ' → Dq K H' P' v dv → (∃ u', (∀ a w, a ≠ p → H a = some w → H' a = some w) ∧ H' p = some u' ∧ @Ow (mkA P w mg) K H' Pr p u' y ∧ Dq K H' Pr v dv) := by
    intro v dv σ' H' P' o2 ρ' y z ey ez h02 R' dq
    obtain ⟨a, u', d', h1, h2, h3, h4, h5, h6⟩ := R'.own 0 h02
    have ed : ρ'.getD 0 none = some d' := by rw [List.getD_eq_getElem?_getD, h2] <;> rfl
    rw [ed] at ey
    cases ey
    obtain ⟨c, fs⟩ := z
    have eo := asOb_someX hO ez h6
    subst eo
    have ea := ow_isPX hO h6
    subst ea
    have sub : ∀ b, Pr b → P' b := fun b hb => by
      by_cases hba : b = a
      · rw [hba]; exact h3
      · exact R'.sub b ⟨hb, hba⟩
    exact ⟨u', sx R'.same, h5, Ow.anti (OK := mkA P w mg) sub (ow_anyX hO h6), dq.anti sub⟩
  cases fl with
  | rx dv ρ' =>
    have e : (ρ'.getD 0 none).bind (fun y => (asOb y).bind fun _ => some (Rm.ok dv y)) = some r := e
    cases ey : ρ'.getD 0 none with
    | none => rw [ey] at e; cases e
    | some y =>
    rw [ey] at e
    have e : (asOb y).bind (fun _ => some (Rm.ok dv y)) = some r := e
    cases ez : asOb y with
    | none => rw [ez] at e; cases e
    | some z =>
    rw [ez] at e
    cases e
    intro v σ' H' P' o2 hk R' dq
    obtain ⟨u', a1, a2, a3, a4⟩ := fin v dv σ' H' P' o2 ρ' y z ey ez (hk 0 (by rw [rk_of hO]; simp)) R' dq
    exact q v H' u' a1 a2 a3 a4
  | nx ρ' =>
    have e : (ρ'.getD 0 none).bind (fun y => (asOb y).bind fun _ => some (Rm.ok .none y)) = some r := e
    cases ey : ρ'.getD 0 none with
    | none => rw [ey] at e; cases e
    | some y =>
    rw [ey] at e
    have e : (asOb y).bind (fun _ => some (Rm.ok .none y)) = some r := e
    cases ez : asOb y with
    | none => rw [ez] at e; cases e
    | some z =>
    rw [ez] at e
    cases e
    intro σ' H' P' R' l
    obtain ⟨u', a1, a2, a3, a4⟩ := fin .non .none σ' H' P' o' ρ' y z ey ez h0 R' .non
    exact q .non H' u' a1 a2 a3 a4
  | ex x =>
    cases e
    exact fun C H' hm hs => exX_of (q C H' hm (sx hs))
  | rt d => cases e
  | bk r => cases e
  | ct r => cases e
  | rl b => cases e
theorem fn_P {n : Nat} (F : FunD K x qual params body scope [] [] f fd) (S : FnScope N ps scope) (hn : ps.length = n + 1)
    (hbody : ∀ (p : Addr) (u : HO) (cdv : Value) (A : Around) (outer : List Env) (s : Shared) (H : Hp) (E : XK), Room k (A.deeper (envOfC qual scope s.heap.objs.size f cdv)) → @SVs (mkO P w mg (fun a u' => a = p ∧ u' = u) [0]) (cxOf CX0 P w K mg base N qual scope f cdv A outer s H E).nox [0] o' [] body fb) :
    FnOk P w K mg base CX0 (k + 1) f fd ps (spP P w K mg n (runP N.length fb)) := by
  refine F.ok S (fun vs H Q E h => h.1.trans hn.symm) (fun cdv A outer s H vs Q E hr h => ?_)
  obtain ⟨hl, p, vs', u, d, ds, r, Pr, rfl, tr, hp, hu, ow, t, e, q⟩ := h
  have hb := hbody p u cdv A outer s H E hr
  have Re := Rel.entry (N := N) (pin := fun a u' => a = p ∧ u' = u) tr hp hu ow ⟨rfl, rfl⟩ t
  generalize hO' : mkO P w mg (fun a u' => a = p ∧ u' = u) [0] = OK at hb Re
  have hO := hO'.symm
  clear hO'
  refine ⟨_, hb.nox, ?_⟩
  unfold runP at e
  cases ef : fb ((d :: ds).map some ++ List.replicate (N.length - (d :: ds).length) none) with
  | none => rw [ef] at e; cases e
  | some fl =>
  rw [ef] at e
  simp only [Option.bind_some] at e
  refine ⟨_, _, Pr, _, fl, Re, ef, ?_⟩
  cases fl with
  | rx dv ρ' =>
    have e : (ρ'.getD 0 none).bind (fun y => (asOb y).bind fun _ => some dv) = some r := e
    cases ey : ρ'.getD 0 none with
    | none => rw [ey] at e; cases e
    | some y =>
    rw [ey] at e
    have e : (asOb y).bind (fun _ => some dv) = some r := e
    cases ez : asOb y with
    | none => rw [ez] at e; cases e
    | some z =>
    rw [ez] at e
    cases e
    intro v σ' H' P' o2 hk R' dq
    obtain ⟨a, u', d', h1, h2, h3, h4, h5, h6⟩ := R'.own 0 (hk 0 (by rw [rk_of hO]; simp))
    have ed : ρ'.getD 0 none = some d' := by rw [List.getD_eq_getElem?_getD, h2] <;> rfl
    rw [ed] at ey
    cases ey
    obtain ⟨c, fs⟩ := z
    have eo := asOb_someX hO ez h6
    subst eo
    obtain ⟨ea, eu⟩ := ow_isPX hO h6
    subst ea eu
    have sub : ∀ b, Pr b → P' b := fun b hb => by
      by_cases hba : b = a
      · rw [hba]; exact h3
      · exact R'.sub b ⟨hb, hba⟩
    refine q v H' (fun b w hb => ?_) (dq.anti sub)
    by_cases hba : b = a
    · subst hba
      rw [hu] at hb
      cases hb
      exact h5
    · exact R'.same b w (by show (if b = a then none else H b) = some w; rw [if_neg hba]; exact hb)
  | nx r => cases e
  | ex x => cases e
  | rt d => cases e
  | bk r => cases e
  | ct r => cases e
  | rl b => cases e
theorem fn_X [OK : OwnK] (F : FunD K x qual params body scope [] [] f fd) (S : FnScope N ps scope) (hT : OK.T = [])
    (hbody : ∀ (cdv : Value) (A : Around) (outer : List Env) (s : Shared) (H : Hp) (E : XK), Room k (A.deeper (envOfC qual scope s.heap.objs.size f cdv)) → SVs (cxOf (L2.CX P w) P w K mg base N qual scope f cdv A outer s H E) [] o' [] body fb) :
    FnOk P w K mg base (L2.CX P w) (k + 1) f fd ps (spX K mg ps.length (runX N.length fb)) := by
  refine F.ok S (fun vs H Q E h => h.1) (fun cdv A outer s H vs Q E hr h => ?_)
  obtain ⟨hl, Pr, ds, r, tr, t, e, q⟩ := h
  refine ⟨_, hbody cdv A outer s H E hr, ?_⟩
  unfold runX at e
  cases ef : fb (ds.map some ++ List.replicate (N.length - ds.length) none) with
  | none => rw [ef] at e; cases e
  | some fl =>
  rw [ef] at e
  simp only [Option.bind_some] at e
  refine ⟨H, Pr, Pr, _, fl, ⟨fun a z => z, tr, tr, Same.refl H, fun i hi => absurd hi (by simp), fun i j a b hi => absurd hi (by simp), fun i d' _ h => ?_, ?_, tabs0 hT, fun n => absurd hT n⟩, ef, ?_⟩
  · obtain ⟨v, h1, h2⟩ := t.get (args_get h)
    exact ⟨v, start_get h1, h2⟩
  · unfold L2.start
    rw [List.length_append, List.length_append, List.length_map, List.length_map, List.length_replicate, List.length_replicate, t.length]
  · cases fl with
    | rt d' => cases e; exact fun v H' s t => q v H' s t
    | nx r => cases e; exact fun σ' H' P' R l => q .non H' R.same .non
    | ex x => cases e; exact fun C H' hm hs => exX_of (q C H' hm hs)
    | bk r => cases e
    | ct r => cases e
    | rx d r => cases e
    | rl b => cases e
end
end TF

/-! TFu.lean -/
set_option Elab.async false
set_option linter.all false
set_option maxRecDepth 100000
/-! TF.u: what may be called, by its body; a def that may raise where it does not -/
namespace TF
open PySem PySem.Spec PyProof.Rows L2
section
variable [OK : OwnK] {X : Cx} {o ob' : List Nat} {e : Expr} {es : List Expr} {pos : Pos} {k n : Nat}
/-- .. called where it does not raise -/
def eCallX (n : Nat) (m : List PyData → Option Rf) (g : Rho → Option (List PyData)) : Rho → Option PyData := fun ρ => (g ρ).bind fun ds => if ds.length = n then (m ds).bind fun r => (match r with
  | .ok d => some d
  | .ex _ => none) else none
theorem ev_xfn {x : Str} {p : Pos} {m : List PyData → Option Rf} {g : Rho → Option (List PyData)} (c : XCallee X.prog X.w X.K X.mg X.base k x n m) (hr : Room k X.A)
    (ha : EA X o (e :: es) g) (hg : Gl X x := by rfl) (hdb : (x == ("__debug__" : Str)) = false := by decide) (he : starEach (e :: es) X.env = (false, eval e X.env) :: starEach es X.env := by rfl) (hpl : (backTo pos (starEach es X.env)).any (·.1) = false := by rfl) :
    EV X o (.Call (.Name x p) (e :: es) [] pos) (eCallX n m g) := by
  obtain ⟨f, fd, ps, F, hm, hk, hb⟩ := c.ex
  refine PE.imp (pe_call F hr hg hm hk hb .nil passes_exX ha hdb he hpl) fun σ H Q ⟨H0, P0, P, ρ, d, R, e, q⟩ => ?_
  unfold eCallX at e
  cases eg : g ρ with
  | none => rw [eg] at e; cases e
  | some ds =>
  rw [eg] at e
  have e : (if ds.length = n then (m ds).bind fun r => (match r with
    | .ok d => some d
    | .ex _ => none) else none) = some d := e
  by_cases hn : ds.length = n
  · rw [if_pos hn] at e
    refine ⟨H0, P0, P, ρ, ds, R, eg, fun vs H1 s1 t1 => ?_⟩
    cases em : m ds with
    | none => rw [em] at e; cases e
    | some rm =>
    rw [em] at e
    show spX X.K X.mg n m (vs ++ []) H1 Q (ExX X)
    rw [List.append_nil]
    refine ⟨t1.length.trans hn, P, ds, rm, (R.go s1).tr, t1, em, ?_⟩
    cases rm with
    | ok d' => cases e; exact fun v H' s t => q v H' (s1.trans s) t
    | ex x => cases e
  · rw [if_neg hn] at e; cases e
end
section
variable {P : Program} {w : World} {K : PySem.W.Frag} {mg : Str → Option Value} {base : Heap} {k : Nat} {x qual c mn : Str} {params : Arguments} {body : List Stmt} {scope : Scope} {f C : Addr} {fd : FuncData} {N ps : List Str} {o' : List Nat} {fb : Rho → Option Fl} {n : Nat}
theorem fn_MC (F : FunD K x qual params body scope [] [] f fd) (S : FnScope N ps scope) (hC : mg c = some (.ref C)) (hc : Cls K C) (hm : Meth K C mn f) (hb : Binds K fd ps []) (hn : ps.length = n + 1) (h0 : 0 ∈ o')
    (hbody : ∀ (p : Addr) (cdv : Value) (A : Around) (outer : List Env) (s : Shared) (H : Hp) (E : XK), Room k (A.deeper (envOfC qual scope s.heap.objs.size f cdv)) → @SVs (mkO P w mg (fun a _ => a = p) [0]) (cxOf (L2.CX P w) P w K mg base N qual scope f cdv A outer s H E) [0] o' [] body fb) :
    MCallee P w K mg base (k + 1) c mn n (runM N.length fb) := ⟨C, f, fd, ps, hC, hc, hm, fn_M F S hn h0 hbody, hb⟩
theorem fn_KC (F : FunD K x qual params body scope [] [] f fd) (S : FnScope N ps scope) (hC : mg c = some (.ref C)) (hM : Mk K C f) (hb : Binds K fd ps []) (hn : ps.length = n + 1) (h0 : 0 ∈ o')
    (hbody : ∀ (p : Addr) (cdv : Value) (A : Around) (outer : List Env) (s : Shared) (H : Hp) (E : XK), Room k (A.deeper (envOfC qual scope s.heap.objs.size f cdv)) → @SVs (mkO P w mg (fun a _ => a = p) [0]) (cxOf (L2.CX P w) P w K mg base N qual scope f cdv A outer s H E) [0] o' [] body fb) :
    KCallee P w K mg base (k + 1) c n (runM N.length fb) := ⟨C, f, fd, ps, hC, hM, fn_M F S hn h0 hbody, hb⟩
theorem fn_PC (F : FunD K x qual params body scope [] [] f fd) (S : FnScope N ps scope) (hC : mg c = some (.ref C)) (hc : Cls K C) (hm : Meth K C mn f) (hb : Binds K fd ps []) (hn : ps.length = n + 1)
    (hbody : ∀ (p : Addr) (u : HO) (cdv : Value) (A : Around) (outer : List Env) (s : Shared) (H : Hp) (E : XK), Room k (A.deeper (envOfC qual scope s.heap.objs.size f cdv)) → @SVs (mkO P w mg (fun a u' => a = p ∧ u' = u) [0]) (cxOf CX0 P w K mg base N qual scope f cdv A outer s H E).nox [0] o' [] body fb) :
    PCallee P w K mg base (k + 1) c mn n (runP N.length fb) := ⟨C, f, fd, ps, hC, hc, hm, fn_P F S hn hbody, hb⟩
theorem fn_XC (F : FunD K x qual params body scope [] [] f fd) (S : FnScope N ps scope) (hm : mg x = some (.ref f)) (hb : Binds K fd ps [])
    (hbody : ∀ (cdv : Value) (A : Around) (outer : List Env) (s : Shared) (H : Hp) (E : XK), Room k (A.deeper (envOfC qual scope s.heap.objs.size f cdv)) → @SVs (mkA P w mg) (cxOf (L2.CX P w) P w K mg base N qual scope f cdv A outer s H E) [] o' [] body fb) :
    XCallee P w K mg base (k + 1) x ps.length (runX N.length fb) := ⟨f, fd, ps, @fn_X P w K mg base k x qual params body scope f fd N ps o' fb (mkA P w mg) F S rfl hbody, hm, F.kp, hb⟩
/-- nothing is promised without fuel -/
theorem MCallee.none {m : List PyData → Option Rm} (hC : mg c = some (.ref C)) (hc : Cls K C) (hm : Meth K C mn f) (hb : Binds K fd ps []) (hn : ∀ ds, m ds = Option.none) : MCallee P w K mg base k c mn n m := by
  have no : ∀ vs H Q E, ¬ spM P w K mg n m vs H Q E := fun vs H Q E h => by
    obtain ⟨_, p, vs', u, d, ds, r, Pr, _, _, _, _, _, _, e, _⟩ := h
    rw [hn] at e; cases e
  exact ⟨C, f, fd, ps, hC, hc, hm, ⟨fun vs H Q E h => (no vs H Q E h).elim, fun A outer s H args us vs Q E _ _ _ _ h => (no vs H Q E h).elim⟩, hb⟩
theorem XCallee.none {m : List PyData → Option Rf} (hm : mg x = some (.ref f)) (hk : PySem.W.keepIn K (.ref f) = true) (hb : Binds K fd ps []) (hn : ∀ ds, m ds = Option.none) : XCallee P w K mg base k x n m := by
  have no : ∀ vs H Q E, ¬ spX K mg n m vs H Q E := fun vs H Q E h => by
    obtain ⟨_, Pr, ds, r, _, _, e, _⟩ := h
    rw [hn] at e; cases e
  exact ⟨f, fd, ps, ⟨fun vs H Q E h => (no vs H Q E h).elim, fun A outer s H args us vs Q E _ _ _ _ h => (no vs H Q E h).elim⟩, hm, hk, hb⟩
end
theorem aLen_nil : ∀ ρ ds, aNil ρ = some ds → ds.length = 0 := fun ρ ds e => by cases e; rfl
theorem aLen_cons {f : Rho → Option PyData} {g : Rho → Option (List PyData)} {n : Nat} (h : ∀ ρ ds, g ρ = some ds → ds.length = n) : ∀ ρ ds, aCons f g ρ = some ds → ds.length = n + 1 := fun ρ ds e => by
  obtain ⟨x, xs, _, eg, rfl⟩ := aCons_some e
  rw [List.length_cons, h ρ xs eg]
end TF

/-! TFv.lean -/
set_option Elab.async false
set_option linter.all false
set_option maxRecDepth 100000
/-! TF.v: a < b < c < d; min, max of a tuple; x = ys.pop(); for x in ys, ys one's own, with a test alone -/
namespace TF
open PySem PySem.Spec PyProof.Rows L2
variable [OK : OwnK]
section
variable {X : Cx} {o o' ob' : List Nat} {a b c d e : Expr} {fa fb fc fd : Rho → Option PyData} {pos : Pos}
def eChain3 (fa fb fc fd : Rho → Option PyData) (g g' g2 : PyData → PyData → Option Bool) : Rho → Option Bool := fun ρ => (fa ρ).bind fun x => (fb ρ).bind fun y => (g x y).bind fun k => if k = true then (fc ρ).bind fun z => (g' y z).bind fun k' => if k' = true then (fd ρ).bind fun w => g2 z w else some false else some false
theorem et_chain3 {op op' op2 : CmpOp} {g g' g2 : PyData → PyData → Option Bool} (ho : OpR X (compareOp op) (rFB X.K g)) (ho' : OpR X (compareOp op') (rFB X.K g')) (ho2 : OpR X (compareOp op2) (rFB X.K g2)) (ha : ER X o a fa) (hb : ER X o b fb) (hc : ER X o c fc) (hd : ER X o d fd)
    (hm : lastMarks [op, op', op2] [b, c, d] = false := by with_unfolding_all rfl) : ET X o (.Compare a [op, op', op2] [b, c, d] pos) (eChain3 fa fb fc fd g g' g2) := by
  refine ⟨fun pins s σ H Q I h => ?_⟩
  obtain ⟨H0, P0, P, ρ, r, R, e, q⟩ := h
  unfold eChain3 at e
  cases ea : fa ρ with
  | none => rw [ea] at e; cases e
  | some x =>
  cases eb : fb ρ with
  | none => rw [ea, eb] at e; cases e
  | some y =>
  cases eg : g x y with
  | none => simp [ea, eb, eg] at e
  | some k =>
  rw [ea, eb] at e
  simp only [Option.bind_some, eg] at e
  refine isTrue_chain (thn (ha.run pins s σ H (fun v H1 => Same H H1 ∧ Dr X.K H1 P v x) I ⟨H0, P0, P, ρ, x, R, ea, fun v H1 s1 r1 => ⟨s1, r1⟩⟩) fun v s1 ⟨vx, H1, I1, r1, sm1, q1⟩ => test_link (thn (hb.run pins s1 σ H1 (fun v H2 => Same H1 H2 ∧ Dr X.K H2 P v y) I1 ⟨H0, P0, P, ρ, y, R.go sm1, eb, fun v H2 s2 r2 => ⟨s2, r2⟩⟩) fun u s2 ⟨vy, H2, I2, r2, sm2, q2⟩ =>
    thn (ho pins s2 σ H2 vx vy v u (fun z H3 => z = .bl k ∧ H3 = H2) I2 r1 r2 ⟨P, x, y, k, (R.go (sm1.trans sm2)).tr, q1.same sm2, q2, eg, rfl, rfl⟩) fun d s3 ⟨z, H3, I3, r3, ez, eH⟩ => ?_)) hm
  subst ez eH
  cases r3
  refine wpAny_truthy_bool ?_
  have sm := sm1.trans sm2
  cases k with
  | false => rw [if_neg (by decide)] at e; cases e; exact ite_ff ⟨_, I3, q _ sm⟩
  | true =>
    rw [if_pos rfl] at e
    cases ec : fc ρ with
    | none => rw [ec] at e; cases e
    | some z =>
    rw [ec] at e
    simp only [Option.bind_some] at e
    cases eg' : g' y z with
    | none => rw [eg'] at e; cases e
    | some k' =>
    rw [eg'] at e
    simp only [Option.bind_some] at e
    refine ite_tt (test_link (thn (hc.run pins s3 σ _ (fun v H4 => Same H3 H4 ∧ Dr X.K H4 P v z) I3 ⟨H0, P0, P, ρ, z, R.go sm, ec, fun v H4 s4 r4 => ⟨s4, r4⟩⟩) fun w' s4 ⟨vz, H4, I4, r4, sm4, q4⟩ =>
      thn (ho' pins s4 σ H4 vy vz u w' (fun z H5 => z = .bl k' ∧ H5 = H4) I4 r2 r4 ⟨P, y, z, k', (R.go (sm.trans sm4)).tr, q2.same sm4, q4, eg', rfl, rfl⟩) fun d' s5 ⟨z2, H5, I5, r5, e2, eH5⟩ => ?_))
    subst e2 eH5
    cases r5
    refine wpAny_truthy_bool ?_
    have smm := sm.trans sm4
    cases k' with
    | false => rw [if_neg (by decide)] at e; cases e; exact ite_ff ⟨_, I5, q _ smm⟩
    | true =>
      rw [if_pos rfl] at e
      cases ed : fd ρ with
      | none => rw [ed] at e; cases e
      | some wd =>
      rw [ed] at e
      have e : g2 z wd = some r := e
      refine ite_tt (test_last (thn (hd.run pins s5 σ _ (fun v H6 => Same H5 H6 ∧ Dr X.K H6 P v wd) I5 ⟨H0, P0, P, ρ, wd, R.go smm, ed, fun v H6 s6 r6 => ⟨s6, r6⟩⟩) fun w2 s6 ⟨vw, H6, I6, r6, sm6, q6⟩ =>
        thn (ho2 pins s6 σ H6 vz vw w' w2 (fun z H7 => z = .bl r ∧ H7 = H6) I6 r4 r6 ⟨P, z, wd, r, (R.go (smm.trans sm6)).tr, q4.same sm6, q6, e, rfl, rfl⟩) fun d2 s7 ⟨z3, H7, I7, r7, e3, eH7⟩ => ?_))
      subst e3 eH7
      cases r7
      exact wpAny_truthy_bool ⟨_, I7, q _ (smm.trans sm6)⟩
/-! ### min, max of a list or tuple -/
def dMinA : PyData → Option PyData
  | .list (x :: xs) => if alk (x :: xs) = true then some (PySem.W.minD x xs) else none
  | .tuple (x :: xs) => if alk (x :: xs) = true then some (PySem.W.minD x xs) else none
  | _ => none
def dMaxA : PyData → Option PyData
  | .list (x :: xs) => if alk (x :: xs) = true then some (PySem.W.maxD x xs) else none
  | .tuple (x :: xs) => if alk (x :: xs) = true then some (PySem.W.maxD x xs) else none
  | _ => none
theorem opF_minA (hc : X.calm = true) (hu : X.A.units + 66 < cLine) : CallR X (.builtin "min") (rC1 X.K dMinA) := by
  intro pins s σ H vs us Q I r h
  obtain ⟨P, x, dx, d, ev, tr, rx, e, q⟩ := h
  unfold dMinA at e
  split at e
  · exact opF_min hc hu pins s σ H vs us Q I r ⟨P, x, _, d, ev, tr, rx, e, q⟩
  · subst ev
    rename_i x0 xs
    by_cases hz : alk (x0 :: xs) = true
    · rw [if_pos hz] at e; cases e
      obtain ⟨a, ys, rfl, h, t⟩ := rx.tup
      obtain ⟨its, rv, hl, _⟩ := I.tuple h
      rw [Vals.ref1 r]
      have cp : ∀ d, d ∈ x0 :: xs → d.plain = true := fun d hd => pl_plain (alk_pl hz hd)
      obtain ⟨as, ra⟩ := dpA_reads I t cp rv
      refine PySem.W.min_tuple_data (I.ok.hd hc) (show s.heap.IsTuple a its.toArray from hl) ra (alk_all hz) (room_alk hu hz) fun i v h' tk bs hv r' k => ?_
      obtain ⟨z, rz, dz⟩ := pick_alk I (K := X.K) t rv cp (by simpa using hv) r' (cp _ (minD_mem x0 xs)) k
      exact ⟨z, H, I.kept (t' := tk) k, rz, q z H (Same.refl H) dz⟩
    · rw [if_neg hz] at e; cases e
  · cases e
theorem opF_maxA (hc : X.calm = true) (hu : X.A.units + 66 < cLine) : CallR X (.builtin "max") (rC1 X.K dMaxA) := by
  intro pins s σ H vs us Q I r h
  obtain ⟨P, x, dx, d, ev, tr, rx, e, q⟩ := h
  unfold dMaxA at e
  split at e
  · exact opF_max hc hu pins s σ H vs us Q I r ⟨P, x, _, d, ev, tr, rx, e, q⟩
  · subst ev
    rename_i x0 xs
    by_cases hz : alk (x0 :: xs) = true
    · rw [if_pos hz] at e; cases e
      obtain ⟨a, ys, rfl, h, t⟩ := rx.tup
      obtain ⟨its, rv, hl, _⟩ := I.tuple h
      rw [Vals.ref1 r]
      have cp : ∀ d, d ∈ x0 :: xs → d.plain = true := fun d hd => pl_plain (alk_pl hz hd)
      obtain ⟨as, ra⟩ := dpA_reads I t cp rv
      refine PySem.W.max_tuple_data (I.ok.hd hc) (show s.heap.IsTuple a its.toArray from hl) ra (alk_all hz) (room_alk hu hz) fun i v h' tk bs hv r' k => ?_
      obtain ⟨z, rz, dz⟩ := pick_alk I (K := X.K) t rv cp (by simpa using hv) r' (cp _ (maxD_mem x0 xs)) k
      exact ⟨z, H, I.kept (t' := tk) k, rz, q z H (Same.refl H) dz⟩
    · rw [if_neg hz] at e; cases e
  · cases e
/-! ### x = ys.pop() -/
def fPop (j i : Nat) : Rho → Option Fl := fun ρ => match ρ.getD i none with
  | some (.list ds) => (ds[ds.length - 1]?).bind fun d => some (.nx ((ρ.set i (some (.list ds.dropLast))).set j (some d)))
  | _ => none
theorem sv_pop (j i : Nat) {x y : Str} {px py apos cpos : Pos} (hN : X.N.Nodup) (hv : PE X (.Name y py) (tVar i)) (hi : i ∈ o := by decide) (hj : j ∉ o := by decide) (hx : X.N[j]? = some x := by rfl) (hl : Loc X.env.scope x := by first | exact Or.inl rfl | exact Or.inr rfl)
    (hbase : attributeBase (.Name y py) "pop" X.env (eval (.Name y py) X.env) = eval (.Name y py) X.env := by rfl)
    (hline : (apos.endLine == cpos.line) = true := by rfl)
    (hs : swapsWith (.Call (.Attribute (.Name y py) "pop" apos) [] [] cpos) (some (.Name x px)) pos.line X.env = pure false := by rfl)
    (hf : X.fn x = true ∨ X.env.scope.names.lookup x = some .local := by first | exact .inl rfl | exact .inr rfl) :
    SV X o o ob' (.Assign [.Name x px] (.Call (.Attribute (.Name y py) "pop" apos) [] [] cpos) pos) (fPop j i) :=
  PS.imp (ps_set hN hx hl (pe_bm0 PySem.F.plainAttrs_list PySem.F.slot_list_pop PySem.F.type_list_pop mt_pop hv hbase hline) hs hf) fun D σ H ⟨H0, P0, P, ρ, fl, R, e', q⟩ => by
    unfold fPop at e'
    obtain ⟨a, u, d0, h1, h2, h3, h4, h5, h6⟩ := R.own i hi
    have eg : ρ.getD i none = some d0 := by rw [List.getD_eq_getElem?_getD, h2] <;> rfl
    rw [eg] at e'
    obtain ⟨ds, rfl⟩ : ∃ ds, d0 = .list ds := by
      cases d0 with
      | list ds => exact ⟨ds, rfl⟩
      | _ => cases e'
    obtain ⟨xs, eu, h7⟩ := h6.lst
    subst eu
    have e' : (ds[ds.length - 1]?).bind (fun d => some (Fl.nx ((ρ.set i (some (.list ds.dropLast))).set j (some d)))) = some fl := e'
    cases ed : ds[ds.length - 1]? with
    | none => rw [ed] at e'; cases e'
    | some d =>
    rw [ed] at e'
    cases e'
    obtain ⟨v, hv1, hv2⟩ := h7.get ed
    refine ⟨.ref a, h1, .inl ⟨rfl, _, .inl (.inl h5)⟩, a, xs, v, rfl, rfl, h5, by rw [h7.length]; exact hv1, ?_⟩
    obtain ⟨R', l⟩ := R.put hi h1 (.ofLst h7.dropLast)
    exact q _ _ P (R'.set hj (hv2.mono l)) l
/-! ### a loop over a list of one's own that tests alone -/
theorem sv_forChk {tg : Expr} {x : Str} {px p1 p2 : Pos} {gt : PyData → Rho → Option Rho} {ft : Rho → Option Bool} {fe : Rho → Option PyData} (ks : List Nat) (i : Nat) (hc : X.calm = true) (hv : PE X (.Name x px) (tVar i)) (hg : TGt X o tg gt) (ht : ET X o c ft) (he : EV X o e fe) (hp : PassesOwn (model X.prog X.w) X.A X.env X.xe)
    (hi : i ∈ o := by decide) (hk : ∀ k ∈ ks, k ∉ o := by decide) (hs : ∀ y, foldedSetIterable (.Name x px) X.env y = pure y := by intro _; rfl) :
    SV X o o ob' (.For tg (.Name x px) [.If c [.Return (some e) p1] [] p2] [] pos) (fFor (e1 (eVar i) dSeqL) gt ks (fIf ft (fRet fe) fNil)) :=
  PS.imp (ps_for hp hc (pi_list hv) hg (pss_one (ps_if ht (pss_one (ps_ret he)) pss_nil)) hs) fun D σ H ⟨H0, P0, P, ρ, fl, R, e', q⟩ => by
    unfold fFor at e'
    obtain ⟨a, u, d0, h1, h2, h3, h4, h5, h6⟩ := R.own i hi
    have eg : eVar i ρ = some d0 := by unfold eVar; rw [List.getD_eq_getElem?_getD, h2] <;> rfl
    obtain ⟨ds, rfl⟩ : ∃ ds, d0 = .list ds := by
      cases d0 with
      | list ds => exact ⟨ds, rfl⟩
      | _ => rw [show e1 (eVar i) dSeqL ρ = none from by unfold e1; rw [eg]; rfl] at e'; cases e'
    have ei : e1 (eVar i) dSeqL ρ = some ds := by unfold e1; rw [eg]; rfl
    obtain ⟨vs, eu, ts⟩ := h6.lst
    subst eu
    rw [ei] at e'
    have e' : forGo gt (fIf ft (fRet fe) fNil) ks ds (clr ks ρ) = some fl := e'
    refine ⟨.ref a, h1, a, rfl, ⟨_, SqL.of h5⟩, ?_⟩
    refine ⟨fun j m σ H' => m = ds.length - j ∧ j ≤ ds.length ∧ ∃ ρ', Rel X.K H0 P0 H' P o σ ρ' ∧ Same H H' ∧ forGo gt (fIf ft (fRet fe) fNil) ks (ds.drop j) ρ' = some fl, ⟨_, rfl, Nat.zero_le _, _, R.clr hk, Same.refl _, e'⟩, ?_⟩
    rintro j m σ2 H2 ⟨rfl, hj2, ρ2, R2, s2, e2⟩
    have hl : SqL X.K H2 a vs := SqL.of (s2 _ _ h5)
    by_cases hlt : j < ds.length
    · have hlt' : j < vs.length := by rw [ts.length]; exact hlt
      refine .inr ⟨⟨vs, vs[j], hl, by simp [hlt']⟩, ?_⟩
      rw [List.drop_eq_getElem_cons hlt] at e2
      refine ⟨fun σ' H' => ∃ ρ', Rel X.K H0 P0 H' P o σ' ρ' ∧ Same H H' ∧ forGo gt (fIf ft (fRet fe) fNil) ks (ds.drop (j + 1)) ρ' = some fl, fun σ' H' ⟨ρ', r⟩ => ⟨_, (by omega : ds.length - (j + 1) < ds.length - j), rfl, hlt, ρ', r⟩, fun x H' y => ?_⟩
      obtain ⟨rfl, y⟩ := y
      obtain ⟨d, ed, dq⟩ := (ts.same s2).getV (y vs hl)
      rw [List.getElem?_eq_getElem hlt] at ed
      cases ed
      unfold forGo at e2
      cases et : gt ds[j] ρ2 with
      | none => rw [et] at e2; cases e2
      | some r =>
      rw [et] at e2
      simp only [Option.bind_some] at e2
      unfold fIf at e2
      cases eft : ft r with
      | none => rw [eft] at e2; cases e2
      | some k =>
      rw [eft] at e2
      simp only [Option.bind_some] at e2
      refine ⟨H0, P0, P, ρ2, ds[j], r, R2, dq, et, fun σ3 R3 => ⟨H0, P0, P, r, k, R3, eft, fun H3 s3 => ?_⟩⟩
      cases k with
      | true =>
        rw [if_pos rfl] at e2
        unfold fRet at e2
        cases ee : fe r with
        | none => rw [ee] at e2; cases e2
        | some dr =>
          rw [ee] at e2
          cases e2
          exact iteT ⟨H0, P0, P, r, dr, R3.go s3, ee, fun v H4 s4 t => q v H4 ((R3.go s3).same.trans s4) (t.anti R3.sub)⟩
      | false =>
        rw [if_neg (by decide)] at e2
        exact iteF ⟨_, (R3.go s3).clr hk, s2.trans s3, e2⟩
    · have ej2 : j = ds.length := by omega
      subst ej2
      refine .inl ⟨⟨vs, hl, by rw [ts.length]; exact Nat.le_refl _⟩, ?_⟩
      rw [List.drop_length] at e2
      cases e2
      exact q σ2 H2 P R2 (Lt.same P s2)
/-! ### list(range(n)) -/
theorem rgV_dq {K : PySem.W.Frag} {H : Hp} {P : Addr → Prop} (n : Nat) (lo : Int) : DqA K H P ((List.range n).map fun i => V.int (lo + (i : Nat))) (rints lo n) := by
  unfold rints
  have h : ∀ l : List Nat, DqA K H P (l.map fun i => V.int (lo + (i : Nat))) (l.map fun (i : Nat) => .int (lo + i)) := by
    intro l
    induction l with
    | nil => exact .nil
    | cons i l ih => exact .cons (.int _) ih
  exact h _
theorem en_listRange {f : Rho → Option PyData} {p1 p2 pos1 : Pos} (zl : X.mg "list" = none) (zr : X.mg "range" = none) (he : ER X o e f) (hc : X.calm = true := by rfl) (hg : Gl X "list" := by rfl) (hg2 : Gl X "range" := by rfl)
    (na : starEach [.Call (.Name "range" p2) [e] [] pos1] X.env = (false, eval (.Call (.Name "range" p2) [e] [] pos1) X.env) :: starEach [] X.env := by rfl) (na2 : starEach [e] X.env = (false, eval e X.env) :: starEach [] X.env := by rfl) :
    EN X o (.Call (.Name "list" p1) [.Call (.Name "range" p2) [e] [] pos1] [] pos) (e1 f dRng1) :=
  PE.imp (pe_listRg hc hg zl (prg_1 hg2 zr he na2) na) fun σ H Q ⟨H0, P0, P, ρ, ds, Re, e', q⟩ => by
    obtain ⟨d, ef, eg⟩ := e1_some e'
    refine ⟨H0, P0, P, ρ, _, Re, ef, fun v H1 s1 r1 => ?_⟩
    cases d with
    | int n =>
      have eg : (if -1000000 ≤ n ∧ n ≤ 1000000 then some (rints 0 n.toNat) else none) = some ds := eg
      by_cases hn : -1000000 ≤ n ∧ n ≤ 1000000
      · rw [if_pos hn] at eg
        cases eg
        have e1 := r1.int
        subst e1
        refine ⟨n, rfl, ⟨by omega, by omega, by omega, by omega, by omega⟩, fun p hp => ?_⟩
        refine q p _ _ (s1.trans (same_upd hp _)) (s1.free hp) upd_same ?_
        unfold rgV
        rw [Int.sub_zero]
        exact rgV_dq _ _
      · rw [if_neg hn] at eg; cases eg
    | _ => cases eg
end
end TF

/-! TFw.lean -/
set_option Elab.async false
set_option linter.all false
set_option maxRecDepth 100000
/-! TF.w: a dict of the module: text keys, values texts or tuples of texts -/
namespace TF
open PySem PySem.Spec PyProof.Rows L2
variable [OK : OwnK]
/-- a value of a table -/
inductive TV where
  | txt (x : Str) | tup (xs : List Str)
def TV.isIn (K : PySem.W.Frag) : TV → Value → Bool
  | .txt x, u => He.relB (.str x) u
  | .tup xs, .ref a => (match K.lookup a with
    | some ⟨.type c, _, .seq its _, _⟩ => decide (c = "tuple") && (decide (its.size ≤ sizeLine) && He.relAll (xs.map V.str) its.toList)
    | _ => false)
  | .tup _, _ => false
abbrev KV : Type := List (Str × TV)
def lookKV : KV → Str → Option TV
  | [], _ => none
  | (k, v) :: r, z => if k = z then some v else lookKV r z
def rowKV (K : PySem.W.Frag) (q : Str × TV) (e : DictEntry) : Bool := (match e.key with
  | .str x _ => decide (q.1 = x)
  | _ => false) && q.2.isIn K e.val
def rowsKV (K : PySem.W.Frag) : KV → List DictEntry → Bool
  | [], [] => true
  | q :: r, e :: es => rowKV K q e && rowsKV K r es
  | _, _ => false
def atKV (K : PySem.W.Frag) (a : Addr) (kvs : KV) : Bool := match K.lookup a with
  | some ⟨_, _, .dict es _, _⟩ => rowsKV K kvs es.toList
  | _ => false
theorem rowKV_ok {K : PySem.W.Frag} {q : Str × TV} {e : DictEntry} (h : rowKV K q e = true) : (∃ t, e.key = .str q.1 t) ∧ q.2.isIn K e.val = true := by
  obtain ⟨h1, h2⟩ := He.ba h
  refine ⟨?_, h2⟩
  cases k : e.key with
  | str x t => rw [k] at h1; exact ⟨t, by rw [of_decide_eq_true h1]⟩
  | _ => rw [k] at h1; cases h1
theorem rowsKV_find {K : PySem.W.Frag} (z : Str) : ∀ {r : KV} {es : List DictEntry}, rowsKV K r es = true → es.any (·.refKey) = false ∧ match lookKV r z with
    | some v => ∃ e, es.find? (·.key.isStr z) = some e ∧ v.isIn K e.val = true
    | none => es.find? (·.key.isStr z) = none
  | [], [], _ => ⟨rfl, rfl⟩
  | [], _ :: _, h => by cases h
  | _ :: _, [], h => by cases h
  | (k, v) :: r, e :: es, h => by
    obtain ⟨h1, h2⟩ := He.ba h
    obtain ⟨⟨t, hk⟩, hv⟩ := rowKV_ok h1
    obtain ⟨i1, i2⟩ := rowsKV_find z h2
    have hk : e.key = .str k t := hk
    refine ⟨?_, ?_⟩
    · rw [List.any_cons, i1, Bool.or_false]
      unfold DictEntry.refKey
      rw [hk]
    · unfold lookKV
      by_cases hz : k = z
      · subst hz
        rw [if_pos rfl]
        refine ⟨e, ?_, hv⟩
        rw [List.find?_cons]
        simp [hk, Value.isStr]
      · rw [if_neg hz]
        have hn : e.key.isStr z = false := by
          rw [hk]
          simp [Value.isStr, hz]
        rw [List.find?_cons]
        simp only [hn]
        exact i2
theorem nsIn_kv {K : PySem.W.Frag} {a : Addr} {kvs : KV} (h : atKV K a kvs = true) (z : Str) : match lookKV kvs z with
    | some v => ∃ u, PySem.W.nsIn K a z = some (some u) ∧ v.isIn K u = true
    | none => PySem.W.nsIn K a z = some none := by
  unfold atKV at h
  unfold PySem.W.nsIn
  split at h
  · rename_i es n sl e
    rw [e]
    obtain ⟨h1, h2⟩ := rowsKV_find z h
    split at h2
    · obtain ⟨e, q1, q2⟩ := h2
      simp only [q1]
      exact ⟨_, rfl, q2⟩
    · simp only [h2, h1]
      rfl
  · cases h
theorem isIn_tup {K : PySem.W.Frag} {xs : List Str} {u : Value} (h : TV.isIn K (.tup xs) u = true) : ∃ b, u = .ref b ∧ ∀ H, SqT K H b (xs.map V.str) := by
  cases u with
  | ref b =>
    refine ⟨b, rfl, fun H => ?_⟩
    have h : (match K.lookup b with
    | some ⟨.type c, _, .seq its _, _⟩ => decide (c = "tuple") && (decide (its.size ≤ sizeLine) && He.relAll (xs.map V.str) its.toList)
    | _ => false) = true := h
    split at h
    · rename_i c od its n sl q
      obtain ⟨h1, h2⟩ := He.ba h
      obtain ⟨h3, h4⟩ := He.ba h2
      exact .inr ⟨_, its, n, q, congrArg Value.type (of_decide_eq_true h1), rfl, of_decide_eq_true h3, He.relAll_ok h4⟩
    · cases h
  | _ => cases h
/-- the module's name x is such a table -/
structure TabG (K : PySem.W.Frag) (w : World) (mg : Str → Option Value) (x : Str) (kvs : KV) : Prop where
  ex : ∃ a es n, mg x = some (.ref a) ∧ KDict K w a es n ∧ atKV K a kvs = true

def dInG (kvs : KV) : PyData → Option Bool
  | .str z => some (lookKV kvs z).isSome
  | _ => none
def dNotInG (kvs : KV) : PyData → Option Bool
  | .str z => some (!(lookKV kvs z).isSome)
  | _ => none
def dIxG (kvs : KV) : PyData → Option PyData
  | .str z => (match lookKV kvs z with
    | some (.txt y) => some (.str y)
    | _ => none)
  | _ => none
def dTupG (kvs : KV) : PyData → Option (List Str)
  | .str z => (match lookKV kvs z with
    | some (.tup ys) => some ys
    | _ => none)
  | _ => none
section
variable {X : Cx} {o o1 o' ob : List Nat} {a b e : Expr} {es : List Expr} {f fe : Rho → Option PyData} {pos px : Pos} {x : Str} {kvs : KV}
theorem e1b_some {α : Type} {g : PyData → Option α} {ρ : Rho} {d : α} (h : e1 f g ρ = some d) : ∃ x, f ρ = some x ∧ g x = some d := by
  unfold e1 at h
  cases ef : f ρ with
  | none => rw [ef] at h; cases h
  | some x => rw [ef] at h; exact ⟨x, rfl, h⟩
theorem et_inG (T : TabG X.K X.w X.mg x kvs) (ha : ER X o a f) (hm : behindInMarks .In (.Name x px) = false) (hg : Gl X x := by rfl) (hd : (x == ("__debug__" : Str)) = false := by decide) : ET X o (.Compare a [.In] [.Name x px] pos) (e1 f (dInG kvs)) := by
  obtain ⟨t, tes, n, hmg, D, hk⟩ := T.ex
  refine PT.imp (pt_cmpR (op_in_kd D) ha (pe_glob hg hmg (v := .ref t) rfl hd) hm) fun σ H Q ⟨H0, P0, P, ρ, d, R, e, q⟩ => ?_
  obtain ⟨y, e1, e2⟩ := e1b_some e
  refine ⟨H0, P0, P, ρ, y, R, e1, fun v H1 s1 r1 => ?_⟩
  unfold dInG at e2
  split at e2
  · rename_i z
    cases e2
    have hs := r1.str
    subst hs
    have h2 := nsIn_kv hk z
    split at h2
    · rename_i u hu
      obtain ⟨u', h3, h4⟩ := h2
      exact ⟨z, _, rfl, rfl, h3, _, rfl, by rw [hu] at q; exact q H1 s1⟩
    · rename_i hu
      exact ⟨z, _, rfl, rfl, h2, _, rfl, by rw [hu] at q; exact q H1 s1⟩
  · cases e2
theorem et_notInG (T : TabG X.K X.w X.mg x kvs) (ha : ER X o a f) (hm : behindInMarks .NotIn (.Name x px) = false) (hg : Gl X x := by rfl) (hd : (x == ("__debug__" : Str)) = false := by decide) : ET X o (.Compare a [.NotIn] [.Name x px] pos) (e1 f (dNotInG kvs)) := by
  obtain ⟨t, tes, n, hmg, D, hk⟩ := T.ex
  refine PT.imp (pt_cmpR (op_notIn_kd D) ha (pe_glob hg hmg (v := .ref t) rfl hd) hm) fun σ H Q ⟨H0, P0, P, ρ, d, R, e, q⟩ => ?_
  obtain ⟨y, e1, e2⟩ := e1b_some e
  refine ⟨H0, P0, P, ρ, y, R, e1, fun v H1 s1 r1 => ?_⟩
  unfold dNotInG at e2
  split at e2
  · rename_i z
    cases e2
    have hs := r1.str
    subst hs
    have h2 := nsIn_kv hk z
    split at h2
    · rename_i u hu
      obtain ⟨u', h3, h4⟩ := h2
      exact ⟨z, _, rfl, rfl, h3, _, rfl, by rw [hu] at q; exact q H1 s1⟩
    · rename_i hu
      exact ⟨z, _, rfl, rfl, h2, _, rfl, by rw [hu] at q; exact q H1 s1⟩
  · cases e2
theorem ev_ixG (T : TabG X.K X.w X.mg x kvs) (hb : ER X o b f) (hs : PlainIx b) (hg : Gl X x := by rfl) (hd : (x == ("__debug__" : Str)) = false := by decide) : EV X o (.Subscript (.Name x px) b pos) (e1 f (dIxG kvs)) := by
  obtain ⟨t, tes, n, hmg, D, hk⟩ := T.ex
  refine PE.imp (pe_ix ix_kdict (pe_glob hg hmg (v := .ref t) rfl hd) hb hs) fun σ H Q ⟨H0, P0, P, ρ, d, R, e, q⟩ => ?_
  obtain ⟨y, e1, e2⟩ := e1b_some e
  refine ⟨H0, P0, P, ρ, y, R, e1, fun v H1 s1 r1 => ?_⟩
  unfold dIxG at e2
  split at e2
  · rename_i z
    split at e2
    · rename_i c hc
      cases e2
      have hs := r1.str
      subst hs
      have h2 := nsIn_kv hk z
      rw [hc] at h2
      obtain ⟨u, h3, h4⟩ := h2
      exact ⟨t, z, .str c, rfl, rfl, ⟨tes, n, u, D.at_, D.lit, h3, He.relB_ok h4⟩, q _ H1 s1 (.str c)⟩
    · cases e2
  · cases e2
/-- the three names of a row of a table -/
def fTab3 (kvs : KV) (i j k : Nat) (f : Rho → Option PyData) : Rho → Option Fl := fun ρ => (f ρ).bind fun d => (dTupG kvs d).bind fun ys => match ys with
  | [x, y, z] => some (.nx (((ρ.set i (some (.str x))).set j (some (.str y))).set k (some (.str z))))
  | _ => none
theorem sv_tab3 (i j k : Nat) {tg : Expr} {p2 : Pos} (T : TabG X.K X.w X.mg x kvs) (hb : ER X o b f) (hs : PlainIx b) (h : PG X tg (gTup X.K 3 (gCons (gName i) (gCons (gName j) (gCons (gName k) gNil)))))
    (hi : i ∉ o := by decide) (hj : j ∉ o := by decide) (hk : k ∉ o := by decide) (hgl : Gl X x := by rfl) (hd : (x == ("__debug__" : Str)) = false := by decide)
    (hsw : swapsWithSole [tg] (.Subscript (.Name x px) b p2) pos.line X.env = pure false := by rfl) (hw : swappedStores [tg] (.Subscript (.Name x px) b p2) X.env = pure none := by rfl)
    (h1 : (assignEach [tg] X.env).map (·.2) = [assign tg X.env] := by rfl) : SV X o o ob (.Assign [tg] (.Subscript (.Name x px) b p2) pos) (fTab3 kvs i j k f) := by
  obtain ⟨t, tes, n, hmg, D, hkv⟩ := T.ex
  refine PS.imp (ps_asg (pe_ix ix_kdict (pe_glob hgl hmg (v := .ref t) rfl hd) hb hs) h hsw hw h1) fun Dn σ H ⟨H0, P0, P, ρ, fl, R, e, q⟩ => ?_
  unfold fTab3 at e
  cases ef : f ρ with
  | none => rw [ef] at e; cases e
  | some d =>
    rw [ef] at e
    simp only [Option.bind_some] at e
    cases et : dTupG kvs d with
    | none => rw [et] at e; cases e
    | some ys =>
      rw [et] at e
      simp only [Option.bind_some] at e
      split at e
      · rename_i y1 y2 y3
        cases e
        refine ⟨H0, P0, P, ρ, d, R, ef, fun v H1 s1 r1 => ?_⟩
        unfold dTupG at et
        split at et
        · rename_i z
          split at et
          · rename_i c hc
            cases et
            have hs2 := r1.str
            subst hs2
            have h2 := nsIn_kv hkv z
            rw [hc] at h2
            obtain ⟨u, h3, h4⟩ := h2
            obtain ⟨b2, rfl, hq⟩ := isIn_tup h4
            refine ⟨t, z, .ref b2, rfl, rfl, ⟨tes, n, .ref b2, D.at_, D.lit, h3, rfl⟩, ?_⟩
            have R1 := R.go s1
            exact ⟨b2, [.str y1, .str y2, .str y3], rfl, hq H1, rfl, _, _, rfl, _, _, rfl, _, _, rfl, rfl, q _ H1 P (((R1.set hi (.str y1)).set hj (.str y2)).set hk (.str y3)) (Lt.same P s1)⟩
          · cases et
        · cases et
      · cases e
/-! ### text.split(sep), words.index(word) -/
def dSplit : PyData → PyData → Option (List PyData)
  | .str a, .str b => if (b.length == 0) = false ∧ a.length + 2 ≤ sizeLine then some ((Txt.split a b).map .str) else none
  | _, _ => none
theorem strs_dq {K : PySem.W.Frag} {H : Hp} {P : Addr → Prop} : ∀ ys : List Str, DqA K H P (ys.map V.str) (ys.map PyData.str)
  | [] => .nil
  | y :: ys => .cons (.str y) (strs_dq ys)
theorem en_split {fa fb : Rho → Option PyData} {apos : Pos} (ha : ER X o a fa) (hb : ER X o b fb) (hs : starEach [b] X.env = [(false, eval b X.env)] := by rfl) (hbase : attributeBase a "split" X.env (eval a X.env) = eval a X.env := by rfl) (hline : (apos.endLine == pos.line) = true := by rfl) :
    EN X o (.Call (.Attribute a "split" apos) [b] [] pos) (e2 fa fb dSplit) := PE.imp (pe_split ha hb hs hbase hline) fun σ H Q ⟨H0, P0, P, ρ, d, R, e', q⟩ => by
  obtain ⟨x, y, ea, eb, eg⟩ := e2_some e'
  unfold dSplit at eg
  split at eg
  · rename_i z s
    by_cases hz : (s.length == 0) = false ∧ z.length + 2 ≤ sizeLine
    · rw [if_pos hz] at eg
      cases eg
      refine ⟨H0, P0, P, ρ, _, R, ea, fun v H1 s1 r1 => ⟨⟨z, r1.str⟩, H0, P0, P, ρ, _, R.go s1, eb, fun u H2 s2 r2 => ?_⟩⟩
      exact ⟨z, s, r1.str, by rw [r2.str], hz.1, hz.2, fun p hp => q p _ _ ((s1.trans s2).trans (same_upd hp _)) ((s1.trans s2).free hp) upd_same (strs_dq _)⟩
    · rw [if_neg hz] at eg; cases eg
  · cases eg
def dIndexL : PyData → PyData → Option PyData
  | .list ds, .str z => (strsD ds).bind fun ys => (idxS z ys).map fun j => .int (j : Nat)
  | _, _ => none
theorem ev_indexL {fa fb : Rho → Option PyData} {apos : Pos} (ha : ER X o a fa) (hb : ER X o b fb)
    (hbase : attributeBase a "index" X.env (eval a X.env) = eval a X.env := by rfl)
    (hfew : ((backTo pos (starEach [b] X.env)).all (fun x => !x.1) && (backToKw pos (keywordEach [] X.env)).all (fun x => x.1.isSome)
      && decide (([b] : List Expr).length + ([] : List Keyword).length + (if ([] : List Keyword).isEmpty then 0 else 1) < 30)) = true := by rfl)
    (hline : (apos.endLine == pos.line) = true := by rfl) (hs : starEach [b] X.env = (false, eval b X.env) :: starEach [] X.env := by rfl) (hplain : (backTo pos (starEach [] X.env)).any (·.1) = false := by rfl) :
    EV X o (.Call (.Attribute a "index" apos) [b] [] pos) (e2 fa fb dIndexL) := PE.imp (pe_bm PySem.F.plainAttrs_list PySem.F.slot_list_index PySem.F.type_list_index mt_index ha (pa_cons hb pa_nil hs) hbase hfew hline hs hplain) fun σ H Q ⟨H0, P0, P, ρ, d, R, e', q⟩ => by
  obtain ⟨x, y, ea, eb, eg⟩ := e2_some e'
  unfold dIndexL at eg
  split at eg
  · rename_i ds z
    cases e3 : strsD ds with
    | none => rw [e3] at eg; cases eg
    | some ys =>
    rw [e3] at eg
    simp only [Option.bind_some] at eg
    cases e4 : idxS z ys with
    | none => rw [e4] at eg; cases eg
    | some j =>
    rw [e4] at eg; cases eg
    obtain ⟨h1, h2⟩ := idxS_at e4
    refine ⟨H0, P0, P, ρ, _, R, ea, fun v H1 s1 r1 => ?_⟩
    obtain ⟨l, xs, rfl, hl, ts⟩ := r1.lst
    refine ⟨.inl ⟨rfl, _, SqL.of hl⟩, H0, P0, P, ρ, _, R.go s1, eb, fun u H2 s2 r2 => ?_⟩
    have ex := strsD_rel ts e3
    subst ex
    refine ⟨l, ys.map V.str, .str z, j, .str z, rfl, by rw [r2.str], SqL.of (s2 _ _ hl), rfl, ?_, ?_, ?_, fun m z' hm hz' => ?_, q _ H2 (s1.trans s2) (.int _)⟩
    · rw [List.all_eq_true]
      intro w hw
      obtain ⟨c, _, rfl⟩ := List.mem_map.mp hw
      rfl
    · rw [List.getElem?_map, h1]; rfl
    · show (z == z) = true
      simp
    · rw [List.getElem?_map] at hz'
      cases hc : ys[m]? with
      | none => rw [hc] at hz'; cases hz'
      | some c =>
        rw [hc] at hz'
        cases hz'
        show (c == z) = false
        exact beq_eq_false_iff_ne.mpr fun e => h2 m hm (by rw [hc, e])
  · cases eg
end
end TF

/-! TFx.lean -/
set_option Elab.async false
set_option linter.all false
set_option maxRecDepth 100000
/-! TF.x: a lambda handed to a def that tries it -/
namespace TF
open PySem PySem.Spec PyProof.Rows L2
/-- the class C is raised, caught by the class L -/
structure Caught (K : PySem.W.Frag) (L C : Addr) : Prop where
  is : ExcC K C
  by_ : PySem.W.exmOne K (.ref C) (.ref L) = some true
  val : PySem.W.kitOne K (.ref C) (.type "ValueError") = some true
  self : PySem.W.kitOne K (.ref C) (.ref C) = some true
/-- try: y = ("told", a()) except L as n: y = ("refused", True) -/
def TTry (C : Addr) : (XK → Hp → VK → Prop) → Hp → VK → Prop := fun tl H Q =>
  tl (fun cls d H' => cls = .ref C ∧ d = none ∧ ∀ p its, H' p = none → Q (.ref p) (upd H' p (fz its [.str "refused", .bl true]))) H
    (fun v H' => ([V.str "told", v] : List V).length ≤ sizeLine ∧ ∀ p its, H' p = none → ∃ w, some (some (V.ref p)) = some (some w) ∧ Q w (upd H' p (fz its [.str "told", v])))
section
variable {X : Cx}
theorem try_gives {a y n x e c q : Str} {sg : Scope} {g L C : Addr} {cdg : Value} {j j2 k1 k2} {p1 p2 p3 p4 p5 p6 p7 p8 p9 p10 p11 p12 p13 p14 p15 p16 p17 p18 p19 p20 p21 p22 p23 p24 : Pos} (cc : Caught X.K L C)
    (hnd : ([a, y, n] : List Str).Nodup) (hy : sg.names.lookup y = some .local) (hn : sg.names.lookup n = some .local)
    (hge : sg.names.lookup e = some .globalImplicit) (hme : X.mg e = some (.ref L)) (hde : (e == ("__debug__" : Str)) = false)
    (hgc : sg.names.lookup c = some .globalImplicit) (hmc : X.mg c = some (.ref C)) (hdc : (c == ("__debug__" : Str)) = false)
    (hgi : sg.names.lookup ("isinstance" : Str) = some .globalImplicit) (hmi : X.mg "isinstance" = none) (hgv : sg.names.lookup ("ValueError" : Str) = some .globalImplicit) (hmv : X.mg "ValueError" = none)
    (hdy : (y == ("__debug__" : Str)) = false := by decide) (hcy : (y == ("__classdict__" : Str)) = false := by decide) (hdn : (n == ("__debug__" : Str)) = false := by decide) (hcn : (n == ("__classdict__" : Str)) = false := by decide) :
    LamX.GivesTo X [a, y, n] x sg g cdg [.Try [.Assign [.Name y p1] (.Tuple [.Constant (.str "told") j p2, .Call (.Name a p3) [] [] p4] k1 p5) p6]
      [.ExceptHandler (some (.Name e p7)) (some n) [.Assign [.Name y p8] (.Tuple [.Constant (.str "refused") j2 p9, .BoolOp .And [.Call (.Name "isinstance" p10) [.Name n p11, .Name "ValueError" p12] [] p13,
        .Call (.Name "isinstance" p14) [.Name n p15, .Name c p16] [] p17] p18] k2 p19) p20] p21] [] [] p22, .Return (some (.Name y p23)) p24] a q (TTry C) := by
  intro f c' s H Q tl act hc h
  have hgl : Gl (cxOf C8.CX0 X.prog X.w X.K X.mg X.base [a, y, n] x sg g cdg X.A X.stack s H C8.E0).nox e := hge
  let B : XK → TS := fun Ech => tAsg (tTupF (tCons (tC (.str "told")) (tCons (fun σZ HZ Q => σZ[0]? = some (some (.ref f)) ∧ HZ c' = some (LamX.CodeO c' q) ∧ tl Ech HZ Q) tNil))) (gName 1)
  let I1 : Addr → TE := fun a' => tCB (rIsE X.K C a') (tCons (tVar 2) (tCons (tC (.ty "ValueError")) tNil))
  let I2 : Addr → TE := fun a' => tCB (rIsE X.K C a') (tCons (tVar 2) (tCons (tC (.ref C)) tNil))
  let U : Addr → TS := fun a' => tAsg (tTupF (tCons (tC (.str "refused")) (tCons (tAndV (I1 a') (I2 a')) tNil))) (gName 1)
  refine ⟨_, pss_cons (ps_try_as (X := (cxOf C8.CX0 X.prog X.w X.K X.mg X.base [a, y, n] x sg g cdg X.A X.stack s H C8.E0).nox) (c := .ref L) (i := 2)
      (tb := fun W D σ H => ∃ Ech : XK, (∀ cls d σ' H', σ'.length = 3 → Ech cls d H' → W cls d σ' H') ∧ B Ech D σ H)
      (ts := fun a' cls d D σ H => cls = .ref C ∧ d = none ∧ U a' D σ H)
      rfl rfl hnd rfl hn ⟨hgl, hde, .inl hme⟩ LamX.takes0 (fun W pn xe tk _ => ?_) (fun a' oe cls d pn hz hf => ?_)) (pss_one (ps_ret (pe_var (i := 1) rfl (.inl hy) hdy hcy))), ?_⟩
  · refine ⟨fun pins s' σ H' D I h' => ?_⟩
    obtain ⟨Ech, hW, h1⟩ := h'
    have hp := act (fun cls d σ H => σ.length = 3 → W cls d σ H) pn xe Ech p3 p4 (fun u s' ⟨a, B, sI, pins, σ, H, cls, d, e, I, nb, up, sky, na, os, ag, w⟩ => tk u s' ⟨a, B, sI, pins, σ, H, cls, d, e, I, nb, up, sky, na, os, ag, w I.len⟩) fun cls d σ' H' z hl => hW cls d σ' H' hl z
    exact (pss_one (ps_set (pos := p6) (pos' := p1) (i := 1) hnd rfl (.inl hy) (pe_tupF (pa_cons pe_str (pa_cons hp pa_nil))) rfl (.inr hy))).run pins s' σ H' D I h1
  · refine ⟨fun pins s' σ H' D I h' => ?_⟩
    obtain ⟨ec, ed, h1⟩ := h'
    subst ec ed
    have r := call_isE (X := (cxOf C8.CX0 X.prog X.w X.K X.mg X.base [a, y, n] x sg g cdg X.A X.stack s H C8.E0).nox) (a := a') (pn := pn) cc.is hz hf
    have v1 : PE ((cxOf C8.CX0 X.prog X.w X.K X.mg X.base [a, y, n] x sg g cdg X.A X.stack s H C8.E0).nox.suite a' ((a', oe) :: pn)) (.Name n p11) (tVar 2) := pe_var rfl (.inl hn) hdn hcn
    have v2 : PE ((cxOf C8.CX0 X.prog X.w X.K X.mg X.base [a, y, n] x sg g cdg X.A X.stack s H C8.E0).nox.suite a' ((a', oe) :: pn)) (.Name n p15) (tVar 2) := pe_var rfl (.inl hn) hdn hcn
    have w1 : PE ((cxOf C8.CX0 X.prog X.w X.K X.mg X.base [a, y, n] x sg g cdg X.A X.stack s H C8.E0).nox.suite a' ((a', oe) :: pn)) (.Name "ValueError" p12) (tC (.ty "ValueError")) := pe_bltn (u := .type "ValueError") hgv hmv (by decide +kernel) rfl
    have w2 : PE ((cxOf C8.CX0 X.prog X.w X.K X.mg X.base [a, y, n] x sg g cdg X.A X.stack s H C8.E0).nox.suite a' ((a', oe) :: pn)) (.Name c p16) (tC (.ref C)) := pe_glob (u := .ref C) hgc hmc rfl hdc
    have i1 := pe_callB (pos := p13) (p := p10) (x := ("isinstance" : Str)) r hgi hmi (by decide +kernel) (pa_cons v1 (pa_cons w1 pa_nil))
    have i2 := pe_callB (pos := p17) (p := p14) (x := ("isinstance" : Str)) r hgi hmi (by decide +kernel) (pa_cons v2 (pa_cons w2 pa_nil))
    exact (pss_one (ps_set (pos := p20) (pos' := p8) (i := 1) hnd rfl (.inl hy) (pe_tupF (pa_cons pe_str (pa_cons (pe_and i1 (pe_one i2)) pa_nil))) rfl (.inr hy))).run pins s' σ H' D I h1
  · refine ⟨fun cls d H' => cls = .ref C ∧ d = none ∧ ∀ p its, H' p = none → Q (.ref p) (upd H' p (fz its [.str "refused", .bl true])), fun cls d σ' H' hl hE => ?_, ?_⟩
    · obtain ⟨e1, e2, q1⟩ := hE
      subst e1 e2
      refine ⟨true, cc.by_, fun _ a' ha => ⟨rfl, rfl, ?_⟩, fun z => by cases z⟩
      have h2 : (σ'.set 2 (some (V.ref a')))[2]? = some (some (.ref a')) := List.getElem?_set_self (by omega)
      refine ⟨.ref a', h2, .ty "ValueError", .type "ValueError", true, rfl, fun u r => r, cc.val, true, rfl, ?_⟩
      rw [if_pos rfl]
      refine ⟨.ref a', h2, .ref C, .ref C, true, rfl, fun u r => r, cc.self, ?_⟩
      refine ⟨by decide +kernel, fun p its hp => ⟨.ref p, ?_, q1 p its hp⟩⟩
      rw [List.getElem?_set_ne (by decide), List.getElem?_set_self (by rw [List.length_set]; omega)]
    · exact ⟨rfl, hc, h⟩
end
/-! ### the state when a table has grown -/
section
variable [OK : OwnK] {K : PySem.W.Frag} {H0 H H1 : Hp} {P0 P : Addr → Prop} {o : List Nat} {σ : St} {ρ : Rho}
theorem Rel.grow (R : Rel K H0 P0 H P o σ ρ) (n : OK.T ≠ []) (e : LamX.ExtN H H1) (t : LamX.Tabs OK.T H1) : Rel K H0 P0 H1 P o σ ρ ∧ Lt H P H1 P := by
  have lt : Lt H P H1 P := fun a u h np nt => ⟨e a u h nt, np⟩
  have pr : ∀ a u, P a → H a = some u → H1 a = some u := fun a u h q => e a u q fun ps z => (R.tp n).2 a h ps (by rw [q, z])
  refine ⟨⟨R.sub, R.tr0, fun a h => let ⟨u, q⟩ := R.tr a h; ⟨u, pr a u h q⟩, fun a u h => e a u (R.same a u h) fun ps z => (R.tp n).1 a ps (by rw [h, z]), fun i hi => ?_, R.dis, fun i d hi h => ?_, R.len, t, fun _ => ⟨(R.tp n).1, fun a h ps q => ?_⟩⟩, lt⟩
  · obtain ⟨a, u, d, h1, h2, h3, h4, h5, h6⟩ := R.own i hi
    exact ⟨a, u, d, h1, h2, h3, h4, pr a u h3 h5, h6.mono lt⟩
  · obtain ⟨v, h1, h2⟩ := R.dat i d hi h
    exact ⟨v, h1, h2.mono lt⟩
  · obtain ⟨u, hu⟩ := R.tr a h
    have := pr a u h hu
    rw [q] at this
    cases this
    exact (R.tp n).2 a h ps hu
end
/-- what is told of a def's own lambda: its code object, its table -/
structure LamAt (T : List (Addr × Str)) (X : Cx) : Prop where
  ex : ∃ c P, X.env.code = .ref c ∧ LamX.TabB X.base X.mg c P ∧ T = [(P, X.env.qual ++ "<lambda>")]
/-- ("told", f(..)), or ("refused", True) where cl is raised -/
def mTold (cl : Str) (n : Nat) (m : List PyData → Option Rf) (g : Rho → Option (List PyData)) : Rho → Option Rz := fun ρ => (g ρ).bind fun ds => if ds.length = n then (m ds).bind fun r => (match r with
  | .ok d => some (.ok (.tuple [.str "told", d]) ρ)
  | .ex x => if x = cl then some (.ok (.tuple [.str "refused", .bool true]) ρ) else none) else none
section
variable [OK : OwnK] {X : Cx} {o : List Nat}
theorem lam_body {scope : Scope} {fnm : Str} {e1 : Expr} {es : List Expr} {n k : Nat} {m : List PyData → Option Rf} {g : Rho → Option (List PyData)} {b1 b2 : Pos} {A : Around} {outer : List Env} {s : Shared} {H : Hp} {E : XK} {f c' : Addr}
    (c : XCallee X.prog X.w X.K X.mg X.base k fnm n m) (hr : Room k (LamX.lamCx X A outer s H E scope f c').A) (ha : EA (LamX.lamCx X A outer s H E scope f c') o (e1 :: es) g) (hg : Gl (LamX.lamCx X A outer s H E scope f c') fnm) (hdb : (fnm == ("__debug__" : Str)) = false)
    (he : starEach (e1 :: es) (LamX.lamCx X A outer s H E scope f c').env = (false, eval e1 (LamX.lamCx X A outer s H E scope f c').env) :: starEach es (LamX.lamCx X A outer s H E scope f c').env) (hpl : (backTo b2 (starEach es (LamX.lamCx X A outer s H E scope f c').env)).any (·.1) = false) :
    PE (LamX.lamCx X A outer s H E scope f c') (.Call (.Name fnm b1) (e1 :: es) [] b2) (tCall (spX X.K X.mg n m) [] E (tAs X.K o g)) := by
  obtain ⟨a, fd, ps, F, hm, hk, hb⟩ := c.ex
  have tk : Takes (LamX.lamCx X A outer s H E scope f c') (fun cls d _ H => E cls d H) := takes_of rfl rfl rfl rfl
  exact pe_call (X := LamX.lamCx X A outer s H E scope f c') F hr hg hm hk hb .nil (passes_call tk fun _ _ _ _ h => h) ha hdb he hpl
theorem em_told {x a y n e cl fnm : Str} {sg scope : Scope} {pg params : Arguments} {g0 L C : Addr} {fdg : FuncData} {nn k kk : Nat} {m : List PyData → Option Rf} {g : Rho → Option (List PyData)} {e1 : Expr} {es : List Expr}
    {j j2 k1 k2} {p1 p2 p3 p4 p5 p6 p7 p8 p9 p10 p11 p12 p13 p14 p15 p16 p17 p18 p19 p20 p21 p22 p23 p24 b1 b2 b3 b4 b5 : Pos}
    (F : FunD X.K x x pg [.Try [.Assign [.Name y p1] (.Tuple [.Constant (.str "told") j p2, .Call (.Name a p3) [] [] p4] k1 p5) p6]
      [.ExceptHandler (some (.Name e p7)) (some n) [.Assign [.Name y p8] (.Tuple [.Constant (.str "refused") j2 p9, .BoolOp .And [.Call (.Name "isinstance" p10) [.Name n p11, .Name "ValueError" p12] [] p13,
        .Call (.Name "isinstance" p14) [.Name n p15, .Name cl p16] [] p17] p18] k2 p19) p20] p21] [] [] p22, .Return (some (.Name y p23)) p24] sg [] [] g0 fdg)
    (Sg : FnScope [a, y, n] [a] sg) (gm : X.mg x = some (.ref g0)) (hb : Binds X.K fdg [a] [])
    (hme : X.mg e = some (.ref L)) (hmc : X.mg cl = some (.ref C)) (cc : Caught X.K L C) (hmi : X.mg "isinstance" = none) (hmv : X.mg "ValueError" = none)
    (hL : LamAt OK.T X) (hr : Room kk X.A) (hk : k + 2 ≤ kk) (c : XCallee X.prog X.w X.K X.mg X.base k fnm nn m) (LS : LamX.LamS X.env.scope scope)
    (hy : sg.names.lookup y = some .local) (hn : sg.names.lookup n = some .local) (hva : Vis sg a) (hge : sg.names.lookup e = some .globalImplicit) (hgc : sg.names.lookup cl = some .globalImplicit) (hgi : sg.names.lookup ("isinstance" : Str) = some .globalImplicit) (hgv : sg.names.lookup ("ValueError" : Str) = some .globalImplicit)
    (hea : ∀ (A : Around) (outer : List Env) (s : Shared) (H : Hp) (E : XK) (f c' : Addr), EA (LamX.lamCx X A outer s H E scope f c') o (e1 :: es) g)
    (hg : Gl X x) (hdef : defaultsOf params X.env = ([], []))
    (hbind : ∀ (q : Str) (cl : List (Str × Addr)) (pm cv ctv : Value), bindArgs (PySem.W.kla_fn "<lambda>" q params (.Call (.Name fnm b1) (e1 :: es) [] b2) scope cl pm cv ctv) ⟨[], []⟩ = pure [])
    (hgf : scope.names.lookup fnm = some .globalImplicit)
    (he : ∀ env, starEach (e1 :: es) env = (false, eval e1 env) :: starEach es env) (hpl : ∀ env, (backTo b2 (starEach es env)).any (·.1) = false)
    (hdx : (x == ("__debug__" : Str)) = false := by decide) (hdf : (fnm == ("__debug__" : Str)) = false := by decide) (hde : (e == ("__debug__" : Str)) = false := by decide) (hdc : (cl == ("__debug__" : Str)) = false := by decide)
    (hda : (a == ("__debug__" : Str)) = false := by decide) (hca : (a == ("__classdict__" : Str)) = false := by decide)
    (hdy : (y == ("__debug__" : Str)) = false := by decide) (hcy : (y == ("__classdict__" : Str)) = false := by decide) (hdn : (n == ("__debug__" : Str)) = false := by decide) (hcn : (n == ("__classdict__" : Str)) = false := by decide) :
    EM X o (.Call (.Name x b3) [.Lambda params (.Call (.Name fnm b1) (e1 :: es) [] b2) scope b4] [] b5) (mTold cl nn m g) := by
  obtain ⟨oc, od, dV, kV, doc, pm, an, cdv, ct, osl, efd, lk, hcd, _, _⟩ := F.ex
  obtain ⟨cP, tP, hcode, TB, hT⟩ := hL.ex
  subst efd
  have nT : OK.T ≠ [] := by rw [hT]; simp
  refine PE.imp (LamX.pe_lamcall (T := OK.T) (TT := TTry C) (c := cP) (P := tP) (k := k) (t := fun E => tCall (spX X.K X.mg nn m) [] E (tAs X.K o g)) hg gm F.kp lk hcd hb Sg rfl hva
    (try_gives cc Sg.nd hy hn hge hme hde hgc hmc hdc hgi hmi hgv hmv hdy hcy hdn hcn) TB hcode (by rw [hT]; simp) (fun p hp _ => by rw [hT] at hp; simp at hp; rw [hp]) (hr.mono hk) LS hdef hbind
    (fun A outer s H E f c' hr2 => lam_body c hr2 (hea A outer s H E f c') hgf hdf (he _) (hpl _)) hdx hda hca) fun σ H Q ⟨H0, P0, P, ρ, r, R, e, q⟩ => ?_
  refine ⟨R.tab, fun H1 eN t1 => ?_⟩
  obtain ⟨R1, l1⟩ := R.grow nT eN t1
  unfold mTold at e
  cases eg : g ρ with
  | none => rw [eg] at e; cases e
  | some ds =>
  rw [eg] at e
  simp only [Option.bind_some] at e
  by_cases hz : ds.length = nn
  · rw [if_pos hz] at e
    cases em : m ds with
    | none => rw [em] at e; cases e
    | some rm =>
    rw [em] at e
    simp only [Option.bind_some] at e
    refine ⟨H0, P0, P, ρ, ds, R1, eg, fun vs H2 s2 t2 => ?_⟩
    show spX X.K X.mg nn m (vs ++ []) H2 _ _
    rw [List.append_nil]
    refine ⟨t2.length.trans hz, P, ds, rm, (R1.go s2).tr, t2, em, ?_⟩
    cases rm with
    | ok d =>
      cases e
      intro v H3 s3 dq
      refine ⟨(by rw [List.length_cons, List.length_singleton, sizeLine_eq]; decide), fun p its hp => ⟨.ref p, rfl, ?_⟩⟩
      have R3 := R1.go (s2.trans s3)
      exact q _ _ (R3.go (same_upd hp _)) (l1.trans (Lt.same P ((s2.trans s3).trans (same_upd hp _)))) (.tup upd_same (R3.newP hp) (.cons (.str _) (.cons (dq.same (same_upd hp _)) .nil)))
    | ex z =>
      have e : (if z = cl then some (Rz.ok (PyData.tuple [.str "refused", .bool true]) ρ) else none) = some r := e
      by_cases hzc : z = cl
      · rw [if_pos hzc] at e
        cases e
        intro C' H3 hmC s3
        subst hzc
        have eC : C' = C := Value.ref.inj (Option.some.inj (hmC.symm.trans hmc))
        subst eC
        refine ⟨rfl, rfl, fun p its hp => ?_⟩
        have R3 := R1.go (s2.trans s3)
        exact q _ _ (R3.go (same_upd hp _)) (l1.trans (Lt.same P ((s2.trans s3).trans (same_upd hp _)))) (.tup upd_same (R3.newP hp) (.cons (.str _) (.cons (.bl _) .nil)))
      · rw [if_neg hzc] at e; cases e
  · rw [if_neg hz] at e; cases e
end
end TF

/-! TF2.lean -/
set_option Elab.async false
set_option linter.all false
set_option maxRecDepth 100000
/-! TF.2: a law that makes a lambda -/
namespace TF
open PySem PySem.Spec PyProof.Rows L2
/-- Caught, told by a Bool of the frag -/
def caughtB (K : PySem.W.Frag) (L C : Addr) : Bool :=
  He.eqO (PySem.W.findIn K (.ref C) "__getattribute__") (some (some (.builtin "BaseException.__getattribute__"))) && (He.eqO (PySem.W.findIn K (.ref C) "__getattr__") (some none) && (decide (PySem.W.subIn K (.ref C) (.type "BaseException") = some true) && (PySem.W.hasDictIn K C &&
  (He.eqO (PySem.W.findIn K (.ref C) "__class__") (some (some (.builtin "object.__class__"))) && (He.eqO (PySem.W.specialIn K (.builtin "object.__class__") "__get__") (some (some (.builtin "getset_descriptor.__get__"))) && (decide (PySem.W.takesIn K (.builtin "object.__class__") = some true) &&
  (decide (PySem.W.mroIn K C (.type "object") = some true) && (decide (PySem.W.exmOne K (.ref C) (.ref L) = some true) && (decide (PySem.W.kitOne K (.ref C) (.type "ValueError") = some true) && decide (PySem.W.kitOne K (.ref C) (.ref C) = some true))))))))))
theorem caught_of {K : PySem.W.Frag} {L C : Addr} (h : caughtB K L C = true) : Caught K L C := by
  obtain ⟨a1, h⟩ := He.ba h
  obtain ⟨a2, h⟩ := He.ba h
  obtain ⟨a3, h⟩ := He.ba h
  obtain ⟨a4, h⟩ := He.ba h
  obtain ⟨a5, h⟩ := He.ba h
  obtain ⟨a6, h⟩ := He.ba h
  obtain ⟨a7, h⟩ := He.ba h
  obtain ⟨a8, h⟩ := He.ba h
  obtain ⟨a9, h⟩ := He.ba h
  obtain ⟨a10, a11⟩ := He.ba h
  exact ⟨⟨He.eqO_ok a1, He.eqO_ok a2, of_decide_eq_true a3, a4, He.eqO_ok a5, He.eqO_ok a6, of_decide_eq_true a7, of_decide_eq_true a8⟩, of_decide_eq_true a9, of_decide_eq_true a10, of_decide_eq_true a11⟩
/-- nothing of one's own but lists; the tables T -/
abbrev mkL (T : List (Addr × Str)) : OwnK := ⟨fun _ _ _ _ _ => False, [], T, fun h => h.elim⟩
def noTab (H : Hp) : Hp := fun a => match H a with
  | some (.tbl _) => none
  | u => u
theorem noTab_same (H : Hp) : Same (noTab H) H := fun a u h => by
  unfold noTab at h
  split at h
  · cases h
  · exact h
theorem noTab_no (H : Hp) (a : Addr) (ps : Array Value) : noTab H a ≠ some (.tbl ps) := fun h => by
  unfold noTab at h
  split at h
  · cases h
  · rename_i hn
    exact hn ps h
def runL (n : Nat) (f : Rho → Option Fl) (ds : List PyData) : Option PyData := (f (ds.map some ++ List.replicate (n - ds.length) none)).bind fun fl => match fl with
  | .rt (.bool b) => some (.bool b)
  | .rx (.bool b) _ => some (.bool b)
  | _ => none
/-- what such a law promises: a truth -/
def spL (K : PySem.W.Frag) (T : List (Addr × Str)) (n : Nat) (m : List PyData → Option PyData) : Sp := fun vs H Q E => vs.length = n ∧ ∃ ds b, DqA K H (fun _ => False) vs ds ∧ LamX.Tabs T H ∧ m ds = some (.bool b) ∧ ∀ H', Q (.bl b) H'
section
variable {P : Program} {w : World} {K : PySem.W.Frag} {mg : Str → Option Value} {base : Heap} {k : Nat} {x qual : Str} {params : Arguments} {body : List Stmt} {scope : Scope} {f : Addr} {fd : FuncData} {N ps : List Str} {o' : List Nat} {fb : Rho → Option Fl}
theorem code_at {p : Str × Option Str} (F : FunD K x qual params body scope [] [] (He.fAd K p) fd) : fd.code = .ref (He.codeOf K p) := by
  obtain ⟨oc, od, dV, kV, doc, pm, an, cdv, ct, osl, rfl, lk, hcd, _, _⟩ := F.ex
  obtain ⟨c, rfl⟩ := He.codeIn_ref hcd
  show Value.ref c = _
  rw [He.codeOf_eq lk rfl]
theorem fn_L {T : List (Addr × Str)} {c tP : Addr} (F : FunD K x qual params body scope [] [] f fd) (S : FnScope N ps scope) (hc : fd.code = .ref c) (TB : LamX.TabB base mg c tP)
    (hT : ∀ (cdv : Value) (A : Around) (outer : List Env) (s : Shared) (H : Hp) (E : XK), T = [(tP, (cxOf CX0 P w K mg base N qual scope f cdv A outer s H E).env.qual ++ "<lambda>")])
    (hbody : ∀ (cdv : Value) (A : Around) (outer : List Env) (s : Shared) (H : Hp) (E : XK), Room k (A.deeper (envOfC qual scope s.heap.objs.size f cdv)) → LamAt T (cxOf CX0 P w K mg base N qual scope f cdv A outer s H E).nox →
      @SVs (mkL T) (cxOf CX0 P w K mg base N qual scope f cdv A outer s H E).nox [] o' [] body fb) :
    FnOk P w K mg base CX0 (k + 1) f fd ps (spL K T ps.length (runL N.length fb)) := by
  obtain ⟨oc, od, dV, kV, doc, pm, an, cdv, ct, osl, rfl, lk, hcd, _, _⟩ := F.ex
  obtain rfl : cdv = .ref c := hc
  refine fn_of lk hcd S (fun vs H Q E h => h.1) fun A outer s H vs Q E hr h => ?_
  obtain ⟨hl, ds, b, t, tb, e, q⟩ := h
  have hT1 := hT (.ref c) A outer s H E
  have hb := hbody (.ref c) A outer s H E hr ⟨c, tP, rfl, TB, hT1⟩
  refine ⟨_, hb.nox, ?_⟩
  unfold runL at e
  cases ef : fb (ds.map some ++ List.replicate (N.length - ds.length) none) with
  | none => rw [ef] at e; cases e
  | some fl =>
  rw [ef] at e
  simp only [Option.bind_some] at e
  letI : OwnK := mkL T
  refine ⟨noTab H, fun _ => False, fun _ => False, _, fl, ⟨fun a z => z, fun a z => z.elim, fun a z => z.elim, noTab_same H, fun i hi => absurd hi (by simp), fun i j a b hi => absurd hi (by simp), fun i d' _ h => ?_, ?_, tb, fun _ => ⟨noTab_no H, fun a z => z.elim⟩⟩, ef, ?_⟩
  · obtain ⟨v, h1, h2⟩ := t.get (args_get h)
    exact ⟨v, start_get h1, h2⟩
  · unfold L2.start
    rw [List.length_append, List.length_append, List.length_map, List.length_map, List.length_replicate, List.length_replicate, t.length]
  · cases fl with
    | rt d' =>
      cases d' with
      | bool b' => cases e; exact fun v H' s t => by cases t; exact q H'
      | _ => cases e
    | rx d' r =>
      cases d' with
      | bool b' => cases e; exact fun v σ' H' P' o2 _ _ t => by cases t; exact q H'
      | _ => cases e
    | nx r => cases e
    | bk r => cases e
    | ct r => cases e
    | ex x => cases e
    | rl b => cases e
/-- the same for a law of tables only -/
theorem law_spT {m : List PyData → Option PyData} (h : ∀ ns : List Int, ns.length ≤ 63 → m [scr ns] = some (.bool true)) (H : Hp) (a : Addr) (ns : List Int) (hl : ns.length ≤ 63) (hS : SqL K H a (ns.map V.int)) :
    spF K 1 m [.ref a] H (fun v _ => v = .bl true) fun _ _ _ => False := by
  refine ⟨rfl, fun _ => False, [scr ns], .bool true, fun a z => z.elim, .cons ?_ .nil, h ns hl, fun v H' s t => by cases t; rfl⟩
  rcases hS with (hS | ⟨o, hS⟩) | hS
  · exact .scl hS (fun z => z)
  · exact .scf hS (fun z => z)
  · exact .sck (.inr hS)
theorem law_spL {T : List (Addr × Str)} {m : List PyData → Option PyData} (h : ∀ ns : List Int, ns.length ≤ 63 → m [scr ns] = some (.bool true)) (H : Hp) (a : Addr) (ns : List Int) (hl : ns.length ≤ 63) (hS : SqL K H a (ns.map V.int)) (hT : ∀ p ∈ T, H p.1 = some (.tbl #[])) :
    spL K T 1 m [.ref a] H (fun v _ => v = .bl true) fun _ _ _ => False := by
  refine ⟨rfl, [scr ns], true, .cons ?_ .nil, fun p hp => .nil (hT p hp), h ns hl, fun H' => rfl⟩
  rcases hS with (hS | ⟨o, hS⟩) | hS
  · exact .scl hS (fun z => z)
  · exact .scf hS (fun z => z)
  · exact .sck (.inr hS)
end
end TF

/-! TF3.lean -/
set_option Elab.async false
set_option linter.all false
set_option maxRecDepth 100000
/-! TF.3: {text: text, ..}[k] -/
namespace TF
open PySem PySem.Spec PyProof.Rows L2
variable [OK : OwnK] {X : Cx} {o : List Nat} {b : Expr} {fb : Rho → Option PyData}
def kvsS (ps : List (Str × Str)) : List (Key × V) := ps.map fun p => (Sum.inr p.1, V.str p.2)
def trsS (ps : List (Str × Str)) : List (TE × TE) := ps.map fun p => (tC (.str p.1), tC (.str p.2))
theorem tPairs_S : ∀ (ps : List (Str × Str)) (σ : St) (H : Hp) (Q : List (V × V) → Hp → Prop), Q (ps.map fun p => (V.str p.1, V.str p.2)) H → tPairs (trsS ps) σ H Q
  | [], _, _, _, q => q
  | p :: ps, σ, H, Q, q => by
    show tPairs (trsS ps) σ H fun xs H3 => Q ((V.str p.1, V.str p.2) :: xs) H3
    exact tPairs_S ps σ H _ q
def dIxS (ps : List (Str × Str)) : PyData → Option PyData
  | .str z => match valV (mergeK [] (kvsS ps)) (Sum.inr z) with
    | some (.str i) => some (.str i)
    | _ => none
  | _ => none
theorem ev_dixS {ps : List (Str × Str)} {dpos pos : Pos} {keys : List (Option Expr)} {values : List Expr} (hu : X.A.units + 1 < cLine) (hp : PPs X dpos keys values (trsS ps)) (hall : keys.all (·.isSome) = true) (hl : keys.length = values.length) (h0 : keys ≠ []) (h15 : keys.length ≤ 15) (hps : ps.length ≤ 15)
    (he : ER X o b fb) (hs : NoSl b) : EV X o (.Subscript (.Dict keys values dpos) b pos) (e1 fb (dIxS ps)) := PE.imp (pe_dget hu (pe_disp hp hall hl h0 h15) he hs) fun σ H Q ⟨H0, P0, P, ρ, r, R, e', q⟩ => by
  obtain ⟨y, ef, eg⟩ := e1_some e'
  unfold dIxS at eg
  split at eg
  · rename_i z
    intro p hn
    refine tPairs_S ps σ _ _ ⟨upd_same, kvsS ps, by unfold kvsS; rw [List.map_map]; rfl, by unfold kvsS; rw [List.length_map]; exact hps, ?_⟩
    have s1 := same_upd2 hn (.dK []) (.dK (mergeK [] (kvsS ps)))
    refine ⟨H0, P0, P, ρ, _, R.go s1, ef, fun v H2 s2 r2 => ?_⟩
    rw [r2.str]
    have h2 : H2 p = some (.dK (mergeK [] (kvsS ps))) := s2 _ _ upd_same
    split at eg
    · rename_i i hv
      cases eg
      exact ⟨p, .str i, rfl, .inl ⟨_, .inr z, .inl h2, rfl, hv.symm⟩, q _ H2 (s1.trans s2) (.str _)⟩
    · cases eg
  · cases eg
/-! ### {text: (int, ..), ..}[k] -/
/-- tuples of whole numbers that stand at new places -/
inductive TA (H0 H : Hp) : List (Str × List Int) → List V → Prop
  | nil : TA H0 H [] []
  | cons {a : Addr} {its : List Value} {ns : List Int} {x : Str} {ps : List (Str × List Int)} {vs : List V} : H a = some (fz its (ns.map V.int)) → H0 a = none → TA H0 H ps vs → TA H0 H ((x, ns) :: ps) (.ref a :: vs)
theorem TA.go {H0 H H' : Hp} (e : Same H H') : ∀ {ps : List (Str × List Int)} {vs : List V}, TA H0 H ps vs → TA H0 H' ps vs
  | _, _, .nil => .nil
  | _, _, .cons h n t => .cons (e _ _ h) n (TA.go e t)
theorem TA.back {H0 H1 H : Hp} (e : Same H0 H1) : ∀ {ps : List (Str × List Int)} {vs : List V}, TA H1 H ps vs → TA H0 H ps vs
  | _, _, .nil => .nil
  | _, _, .cons h n t => .cons h (e.free n) (TA.back e t)
def tInts : List Int → L2.TA
  | [] => tNil
  | i :: is => tCons (tC (.int i)) (tInts is)
theorem tInts_of : ∀ (ns : List Int) (σ : St) (H : Hp) (Q : List V → Hp → Prop), Q (ns.map V.int) H → tInts ns σ H Q
  | [], _, _, _, q => q
  | n :: ns, σ, H, Q, q => by
    show tInts ns σ H fun xs H2 => Q (V.int n :: xs) H2
    exact tInts_of ns σ H _ q
def kz : List (Str × List Int) → List V → List (Key × V)
  | (x, _) :: ps, v :: vs => (Sum.inr x, v) :: kz ps vs
  | _, _ => []
def pz : List (Str × List Int) → List V → List (V × V)
  | (x, _) :: ps, v :: vs => (V.str x, v) :: pz ps vs
  | _, _ => []
theorem kz_map : ∀ (ps : List (Str × List Int)) (vs : List V), (kz ps vs).map (fun kv => (kV kv.1, kv.2)) = pz ps vs
  | (x, ns) :: ps, v :: vs => by
    show (V.str x, v) :: (kz ps vs).map _ = (V.str x, v) :: pz ps vs
    rw [kz_map ps vs]
  | [], _ => rfl
  | _ :: _, [] => rfl
theorem kz_len : ∀ (ps : List (Str × List Int)) (vs : List V), (kz ps vs).length ≤ ps.length
  | (x, ns) :: ps, v :: vs => Nat.succ_le_succ (kz_len ps vs)
  | [], _ => Nat.le_refl _
  | _ :: _, [] => Nat.zero_le _
def trsT (ps : List (Str × List Int)) : List (TE × TE) := ps.map fun p => (tC (.str p.1), tTupF (tInts p.2))
theorem tPairs_T : ∀ (ps : List (Str × List Int)) (_ : ∀ p ∈ ps, p.2.length ≤ 1000) (σ : St) (H : Hp) (Q : List (V × V) → Hp → Prop), (∀ vs H', Same H H' → TA H H' ps vs → Q (pz ps vs) H') → tPairs (trsT ps) σ H Q
  | [], _, _, _, _, q => q [] _ (Same.refl _) .nil
  | (x, ns) :: ps, hp, σ, H, Q, q => by
    show tInts ns σ H fun xs H1 => xs.length ≤ sizeLine ∧ ∀ p its, H1 p = none → tPairs (trsT ps) σ (upd H1 p (fz its xs)) fun ys H3 => Q ((V.str x, V.ref p) :: ys) H3
    refine tInts_of ns σ H _ ⟨by rw [List.length_map, sizeLine_eq]; have := hp (x, ns) (by simp); simp at this; omega, fun p its hn => ?_⟩
    have s1 : Same H (upd H p (fz its (ns.map V.int))) := same_upd hn _
    refine tPairs_T ps (fun q hq => hp q (by simp [hq])) σ _ _ fun vs H' s2 t => ?_
    exact q (.ref p :: vs) H' (s1.trans s2) (.cons (s2 _ _ upd_same) hn (TA.back s1 t))
def lookT : List (Str × List Int) → Str → Option (List Int)
  | [], _ => none
  | (x, ns) :: r, z => if x = z then some ns else lookT r z
def dIxT (ps : List (Str × List Int)) : PyData → Option PyData
  | .str z => (lookT ps z).map fun ns => .tuple (ns.map .int)
  | _ => none
theorem ints_dq {K : PySem.W.Frag} {H : Hp} {P : Addr → Prop} : ∀ ns : List Int, DqA K H P (ns.map V.int) (ns.map PyData.int)
  | [] => .nil
  | n :: ns => .cons (.int n) (ints_dq ns)
theorem merge_out {z : Str} : ∀ (ps : List (Str × List Int)) (vs : List V) (acc : List (Key × V)), z ∉ ps.map (·.1) → valV (mergeK acc (kz ps vs)) (Sum.inr z) = valV acc (Sum.inr z)
  | [], vs, acc, _ => rfl
  | (x, ns) :: ps, [], acc, _ => rfl
  | (x, ns) :: ps, v :: vs, acc, h => by
    rw [List.map_cons, List.mem_cons, not_or] at h
    have hx : ¬ (Sum.inr z : Key) = Sum.inr x := fun e => h.1 (Sum.inr.inj e)
    have ih := merge_out (z := z) ps vs (putK acc (Sum.inr x) v) h.2
    show valV (mergeK (putK acc (Sum.inr x) v) (kz ps vs)) (Sum.inr z) = _
    rw [ih, valV_put, if_neg hx]
theorem merge_in {H0 H : Hp} {z : Str} {ns : List Int} : ∀ {ps : List (Str × List Int)} {vs : List V} (acc : List (Key × V)), TA H0 H ps vs → (ps.map (·.1)).Nodup → lookT ps z = some ns → ∃ a its, valV (mergeK acc (kz ps vs)) (Sum.inr z) = some (.ref a) ∧ H a = some (fz its (ns.map V.int)) ∧ H0 a = none
  | _, _, acc, .nil, _, e => by cases e
  | _, _, acc, .cons (a := a) (its := its) (ns := ms) (x := x) (ps := ps) (vs := vs) h n t, hd, e => by
    rw [List.map_cons, List.nodup_cons] at hd
    unfold lookT at e
    by_cases hx : x = z
    · rw [if_pos hx] at e
      cases e
      subst hx
      refine ⟨a, its, ?_, h, n⟩
      show valV (mergeK (putK acc (Sum.inr x) (.ref a)) (kz ps vs)) (Sum.inr x) = _
      rw [merge_out (z := x) ps vs _ hd.1, valV_put, if_pos rfl]
    · rw [if_neg hx] at e
      exact merge_in (putK acc (Sum.inr x) (.ref a)) t hd.2 e
theorem TA.len {H0 H : Hp} : ∀ {ps : List (Str × List Int)} {vs : List V}, TA H0 H ps vs → vs.length = ps.length
  | _, _, .nil => rfl
  | _, _, .cons _ _ t => congrArg (· + 1) (TA.len t)
theorem ev_dixT {ps : List (Str × List Int)} {dpos pos : Pos} {keys : List (Option Expr)} {values : List Expr} (hu : X.A.units + 1 < cLine) (hp : PPs X dpos keys values (trsT ps)) (hall : keys.all (·.isSome) = true) (hl : keys.length = values.length) (h0 : keys ≠ []) (h15 : keys.length ≤ 15) (hps : ps.length ≤ 15) (hsz : ∀ p ∈ ps, p.2.length ≤ 1000) (hnd : (ps.map (·.1)).Nodup)
    (he : ER X o b fb) (hs : NoSl b) : EV X o (.Subscript (.Dict keys values dpos) b pos) (e1 fb (dIxT ps)) := PE.imp (pe_dget hu (pe_disp hp hall hl h0 h15) he hs) fun σ H Q ⟨H0, P0, P, ρ, r, R, e', q⟩ => by
  obtain ⟨y, ef, eg⟩ := e1_some e'
  unfold dIxT at eg
  split at eg
  · rename_i z
    cases el : lookT ps z with
    | none => rw [el] at eg; cases eg
    | some ns =>
    rw [el] at eg
    cases eg
    intro p hn
    have sp : Same H (upd H p (.dK [])) := same_upd hn _
    refine tPairs_T ps hsz σ _ _ fun vs H2 s2 t2 => ?_
    have hp2 : H2 p = some (.dK []) := s2 _ _ upd_same
    refine ⟨hp2, kz ps vs, (kz_map ps vs).symm, Nat.le_trans (kz_len ps vs) hps, ?_⟩
    have s3 : Same H (upd H2 p (.dK (mergeK [] (kz ps vs)))) := fun c w hc => by
      rw [upd_ne (ne_of_none hc hn)]
      exact s2 _ _ (sp _ _ hc)
    refine ⟨H0, P0, P, ρ, _, R.go s3, ef, fun v H3 s4 r3 => ?_⟩
    rw [r3.str]
    obtain ⟨a, its, hv, ha, hna⟩ := merge_in [] t2 hnd el
    have hap : a ≠ p := fun e => by rw [e, upd_same] at hna; cases hna
    have ha3 : H3 a = some (fz its (ns.map V.int)) := s4 _ _ (by rw [upd_ne hap]; exact ha)
    have h3 : H3 p = some (.dK (mergeK [] (kz ps vs))) := s4 _ _ upd_same
    have hnH : H a = none := by rw [upd_ne hap] at hna; exact hna
    exact ⟨p, .ref a, rfl, .inl ⟨_, .inr z, .inl h3, rfl, hv.symm⟩, q _ H3 (s3.trans s4) (.tup ha3 (R.newP hnH) (ints_dq ns))⟩
  · cases eg
/-! ### int(x) of a truth, a whole number -/
def dInt : PyData → Option PyData
  | .int i => some (.int i)
  | .bool b => some (.int (if b then 1 else 0))
  | _ => none
theorem opF_int : CallR X (.type "int") (rC1 X.K dInt) := CallR.imp call_int1 fun vs H Q ⟨P, x, dx, d, ev, tr, rx, e, q⟩ => by
  subst ev
  unfold dInt at e
  split at e
  · cases e
    exact .inl ⟨_, by rw [rx.int], q _ H (Same.refl H) (.int _)⟩
  · cases e
    exact .inr ⟨_, by rw [rx.bl], q _ H (Same.refl H) (.int _)⟩
  · cases e
end TF

/-! TF4.lean -/
set_option Elab.async false
set_option linter.all false
set_option maxRecDepth 100000
/-! TF.4: x not in range(n) -/
namespace TF
open PySem PySem.Spec PyProof.Rows L2
variable [OK : OwnK] {X : Cx} {o : List Nat} {a b : Expr} {fa fb : Rho → Option PyData}
theorem op_outRng : OpR X (compareOp .NotIn) (fun x y H Q => ∃ z r lo hi, x = V.int z ∧ y = V.ref r ∧ H r = some (.rng lo hi) ∧ Q (.bl (!decide (lo ≤ z ∧ z < hi))) H) := by
  intro pins s σ H x y v u Q I rx ry h
  obtain ⟨z, r, lo, hi, ex, ey, hr, q⟩ := h
  subst ex ey
  obtain ⟨tz, rfl⟩ := rx
  obtain rfl : u = Value.ref r := ry
  obtain ⟨ta, tb, tc, obj⟩ := I.hok r _ hr
  show wpAny _ _ (do return Value.bool (!(← contains (Value.ref r) (Value.int z tz)))) _ _ s
  have m := q_contains r lo hi z ta tb tc tz
  refine wpAny_bind (wpAny_contains_slot (T := "range") ⟨_, obj, rfl⟩ PySem.F.slot_range_contains ?_)
  refine call_meets PySem.F.slot_range_contains ⟨_, obj, rfl⟩ PySem.F.entry_range_contains (PySem.F.args_range_contains_2 _ _) m ⟨obj, ?_⟩
  refine wpAny_truthy_bool (wpAny_pure ⟨.bl _, H, I, rfl, ?_⟩)
  rw [place1]
  exact q
theorem cr_rng1 : CallR X (.type "range") (fun vs H Q => ∃ n, vs = [V.int n] ∧ ∀ p, H p = none → Q (.ref p) (upd H p (.rng 0 n))) := by
  intro pins s σ H vs us Q I r h
  obtain ⟨n, ev, q⟩ := h
  subst ev
  obtain ⟨u, rfl, ru⟩ := vals1 r
  obtain ⟨tn, rfl⟩ := ru
  refine PySem.call_range_1 ⟨.ref s.heap.objs.size, upd H s.heap.objs.size (.rng 0 n), I.laid (t' := s.toks + 1 + 1) (fun _ _ e => Heap.get?_push_of_some _ e) (Nat.le_refl _) ?_, rfl, q _ (I.hok.fresh (Nat.le_refl _))⟩
  exact ⟨s.toks, tn, s.toks + 1, Heap.get?_push_size _ rfl⟩
def dOutRng : PyData → PyData → Option Bool
  | .int z, .int n => some (!decide (0 ≤ z ∧ z < n))
  | _, _ => none
theorem et_outRng {p p2 pos : Pos} (hm : X.mg "range" = none) (ha : ER X o a fa) (hb : ER X o b fb) (hg : Gl X "range" := by rfl)
    (he : starEach [b] X.env = (false, eval b X.env) :: starEach [] X.env := by rfl) (hpl : (backTo p2 (starEach [] X.env)).any (·.1) = false := by rfl) (hmk : behindInMarks .NotIn (.Call (.Name "range" p) [b] [] p2) = false := by rfl) :
    ET X o (.Compare a [.NotIn] [.Call (.Name "range" p) [b] [] p2] pos) (e2 fa fb dOutRng) := by
  refine PT.imp (pt_cmpR op_outRng ha (pe_callTy cr_rng1 hg hm (by decide +kernel) (pa_cons hb pa_nil he) (by decide) (by decide) he hpl) hmk) fun σ H Q ⟨H0, P0, P, ρ, d, R, e, q⟩ => ?_
  obtain ⟨x, y, h1, h2, h3⟩ := e2_some e
  unfold dOutRng at h3
  split at h3
  · rename_i z n
    cases h3
    refine ⟨H0, P0, P, ρ, _, R, h1, fun v H1 s1 r1 => ?_⟩
    refine ⟨H0, P0, P, ρ, _, R.go s1, h2, fun w H2 s2 r2 => ⟨n, by rw [r2.int], fun r hn => ?_⟩⟩
    exact ⟨z, r, 0, n, r1.int, rfl, upd_same, _, rfl, q _ (s1.trans (s2.trans (same_upd hn _)))⟩
  · cases h3
end TF

/-! TF5.lean -/
set_option Elab.async false
set_option linter.all false
set_option maxRecDepth 100000
/-! TF.5: xs[::-1] of lists too -/
namespace TF
open PySem PySem.Spec PyProof.Rows L2
variable [OK : OwnK]
section
variable {X : Cx} {o : List Nat} {e : Expr} {f : Rho → Option PyData} {pos : Pos}
theorem PE.either {t1 t2 : TE} (h1 : PE X e t1) (h2 : PE X e t2) : PE X e (fun σ H Q => t1 σ H Q ∨ t2 σ H Q) := ⟨fun pins s σ H Q I q => by
  rcases q with q | q
  · exact h1.run pins s σ H Q I q
  · exact h2.run pins s σ H Q I q⟩
def dRevA : PyData → Option PyData
  | .tuple ds => some (.tuple ds.reverse)
  | .list ds => some (.list ds.reverse)
  | _ => none
theorem ev_revA {k : Nat} {p1 p2 p3 : Pos} (h : ER X o e f) : EV X o (.Subscript e (.Slice none none (some (.UnaryOp .USub (.Constant (.int 1) k p1) p2)) p3) pos) (e1 f dRevA) := PE.imp (PE.either (pe_revT h) (pe_revL h)) fun σ H Q ⟨H0, P0, P, ρ, d, R, e', q⟩ => by
  obtain ⟨x, ef, eg⟩ := e1_some e'
  unfold dRevA at eg
  split at eg
  · cases eg
    refine .inl ⟨H0, P0, P, ρ, _, R, ef, fun v H1 s1 r1 => ?_⟩
    obtain ⟨a, xs, rfl, h, t⟩ := r1.tup
    exact ⟨a, xs, rfl, h, fun p its hp => q _ _ (s1.trans (same_upd hp _)) (.tup upd_same ((R.go s1).newP hp) (t.reverse.same (same_upd hp _)))⟩
  · cases eg
    refine .inr ⟨H0, P0, P, ρ, _, R, ef, fun v H1 s1 r1 => ?_⟩
    obtain ⟨a, xs, rfl, h, t⟩ := r1.lst
    exact ⟨a, xs, rfl, SqL.of h, fun p hp => q _ _ (s1.trans (same_upd hp _)) (.lst upd_same ((R.go s1).newP hp) (t.reverse.same (same_upd hp _)))⟩
  · cases eg
/-- a list, so many times -/
def dMulL : PyData → PyData → Option PyData
  | .list ds, .int k => if 0 ≤ k ∧ k ≤ 1000 ∧ ds.length ≤ 1000 then some (.list (List.replicate k.toNat ds).flatten) else none
  | _, _ => none
theorem opF_mulL : OpR X (binaryOp .Mult) (rF X.K dMulL) := OpR.imp op_rep fun x y H Q ⟨P, dx, dy, d, tr, rx, ry, e, q⟩ => by
  have np : ∀ {p : Addr}, H p = none → ¬ P p := fun h z => by obtain ⟨u, hu⟩ := tr _ z; rw [h] at hu; cases hu
  unfold dMulL at e
  split at e
  · rename_i ds k
    by_cases hz : 0 ≤ k ∧ k ≤ 1000 ∧ ds.length ≤ 1000
    · rw [if_pos hz] at e
      cases e
      obtain ⟨a, xs, rfl, h, t⟩ := rx.lst
      refine ⟨a, k, xs, rfl, ry.int, h, by omega, by omega, ?_, fun p hp => q _ _ (same_upd hp _) (.lst upd_same (np hp) ((t.rep k.toNat).same (same_upd hp _)))⟩
      rw [t.length, sizeLine_eq]
      have h1 : k.toNat ≤ 1000 := by omega
      exact Nat.le_trans (Nat.mul_le_mul hz.2.2 h1) (by decide)
    · rw [if_neg hz] at e; cases e
  · cases e
@[simp] theorem dMulL_ev {ds : List PyData} {k : Int} : dMulL (.list ds) (.int k) = if 0 ≤ k ∧ k ≤ 1000 ∧ ds.length ≤ 1000 then some (.list (List.replicate k.toNat ds).flatten) else none := rfl
@[simp] theorem dRevA_tup {ds : List PyData} : dRevA (.tuple ds) = some (.tuple ds.reverse) := rfl
@[simp] theorem dRevA_lst {ds : List PyData} : dRevA (.list ds) = some (.list ds.reverse) := rfl
end
end TF

/-! TF6.lean -/
set_option Elab.async false
set_option linter.all false
set_option maxRecDepth 100000
/-! TF.6: a dict of one's own whose keys are nested tuples of texts: {}, d[k] = True, list(d) -/
namespace TF
open PySem PySem.Spec PyProof.Rows L2

mutual
/-- as a Bool: a tuple, nested, of texts -/
def ntb : PyData → Bool
  | .str _ => true
  | .tuple ds => ntbs ds
  | _ => false
def ntbs : List PyData → Bool
  | [] => true
  | d :: ds => ntb d && ntbs ds
end
mutual
theorem ntb_ntx : ∀ {d : PyData}, ntb d = true → NTx d
  | .str x, _ => by rw [NTx]; trivial
  | .tuple ds, h => by rw [ntb] at h; rw [NTx]; exact ntbs_ntxs h
  | .none, h | .bool _, h | .int _, h | .list _, h | .dict _, h => by simp [ntb] at h
theorem ntbs_ntxs : ∀ {ds : List PyData}, ntbs ds = true → NTxs ds
  | [], _ => by rw [NTxs]; trivial
  | d :: ds, h => by
    rw [ntbs, Bool.and_eq_true] at h
    rw [NTxs]
    exact ⟨ntb_ntx h.1, ntbs_ntxs h.2⟩
end
def isTup : PyData → Bool
  | .tuple _ => true
  | _ => false
/-- put in, once -/
def dput (ks : List PyData) (d : PyData) : List PyData := if ks.any (fun e => decide (nk e = nk d)) = true then ks else ks ++ [d]
/-- fit to be a key -/
def kyb (d : PyData) : Bool := isTup d && (ntb d && decide ((nk d).depth ≤ 8))
theorem ntxs_mem : ∀ {ds : List PyData}, NTxs ds → ∀ d ∈ ds, NTx d
  | [], _, d, h => by cases h
  | e :: ds, n, d, h => by
    rw [NTxs] at n
    rcases List.mem_cons.mp h with rfl | h
    · exact n.1
    · exact ntxs_mem n.2 d h
theorem ntxs_all : ∀ {ds : List PyData}, (∀ d ∈ ds, NTx d) → NTxs ds
  | [], _ => by rw [NTxs]; trivial
  | e :: ds, h => by rw [NTxs]; exact ⟨h e (by simp), ntxs_all fun d hd => h d (by simp [hd])⟩
theorem kyb_ntx {d : PyData} (h : kyb d = true) : NTx d ∧ (nk d).depth ≤ 8 := by
  unfold kyb at h
  simp only [Bool.and_eq_true, decide_eq_true_eq] at h
  exact ⟨ntb_ntx h.2.1, h.2.2⟩

section
variable {X : Cx} {pins : List (Addr × Obj)} {σ : St} {H : Hp} {s : Shared} {a b : Addr} {P : Addr → Prop}
theorem fz_at (I : Inv X pins σ H s) {its : List Value} {xs : List V} (h : H a = some (fz its xs)) : Vals xs its ∧ s.heap.get? a = some (tobj its) := by
  obtain ⟨e, z, its', r, o, e1, e2, n, e3⟩ := I.hok a _ h
  have e1' : s.heap.get? a = some (tobj its) := e
  rw [e1'] at e1
  cases e1
  have e4 : Data.seq its.toArray 0 = .seq its'.toArray n := e3
  injection e4 with e5 e6
  have e7 : its = its' := by simpa using e5
  subst e7
  exact ⟨r, e1'⟩
theorem key_is (I : Inv X pins σ H s) {d : PyData} (n : NTx d) (hd : (nk d).depth ≤ 8) (t : Dq X.K H P (.ref b) d) : (nestedKind X.prog X.w).is s.heap (nk d) b :=
  ⟨nk_is (fun a its xs h => fz_at I h) n t rfl, hd⟩
/-- the keys of a dict, in the heap -/
structure Kyd (K : PySem.W.Frag) (H : Hp) (P : Addr → Prop) (ks : List PyData) (bs : List Addr) : Prop where
  t : DqA K H P (bs.map V.ref) ks
  n : NTxs ks
  nd : ks.Nodup
  dp : ∀ d ∈ ks, (nk d).depth ≤ 8
  sz : ks.length ≤ sizeLine
theorem Kyd.len {K : PySem.W.Frag} {ks : List PyData} {bs : List Addr} (y : Kyd K H P ks bs) : bs.length = ks.length := by
  have := y.t.length
  rwa [List.length_map] at this
theorem xs_keys : ∀ {ks : List PyData} {bs : List Addr}, bs.length = ks.length → (xsOf ks bs).map (·.1) = ks.map nk
  | [], [], _ => rfl
  | k :: ks, b :: bs, h => by
    have := xs_keys (ks := ks) (bs := bs) (by simpa using h)
    unfold xsOf at this ⊢
    rw [List.zip_cons_cons, List.map_cons, List.map_cons, this]; rfl
theorem nk_nodup : ∀ {ks : List PyData}, NTxs ks → ks.Nodup → (ks.map nk).Nodup
  | [], _, _ => List.nodup_nil
  | k :: ks, n, h => by
    rw [NTxs] at n
    rw [List.nodup_cons] at h
    rw [List.map_cons, List.nodup_cons]
    refine ⟨fun hm => ?_, nk_nodup n.2 h.2⟩
    obtain ⟨d, hd, e⟩ := List.mem_map.mp hm
    rw [nk_inj (ntxs_mem n.2 d hd) n.1 e] at hd
    exact h.1 hd
theorem xs_mem : ∀ {ks : List PyData} {bs : List Addr} {K : PySem.W.Frag}, DqA K H P (bs.map V.ref) ks → ∀ x ∈ xsOf ks bs, ∃ d, d ∈ ks ∧ x.1 = nk d ∧ x.2.2 = .bool true ∧ Dq K H P (.ref x.2.1) d
  | [], _, _, _, x, h => by simp [xsOf] at h
  | k :: ks, [], _, _, x, h => by simp [xsOf] at h
  | k :: ks, b :: bs, K, .cons t1 t, x, h => by
    unfold xsOf at h
    rw [List.zip_cons_cons, List.map_cons] at h
    rcases List.mem_cons.mp h with rfl | h
    · exact ⟨k, by simp, rfl, rfl, t1⟩
    · obtain ⟨d, h1, h2⟩ := xs_mem (ks := ks) (bs := bs) t x h
      exact ⟨d, by simp [h1], h2⟩
theorem kyd_dict (I : Inv X pins σ H s) {ks : List PyData} {bs : List Addr} (ha : H a = some (rawK X.prog X.w a (xsOf ks bs))) (y : Kyd X.K H P ks bs) : (a == sysModules) = false ∧ s.heap.DictOfH (nestedKind X.prog X.w) a (xsOf ks bs) := by
  refine rawK_get (I.hok a _ ha) (fun x hx => ?_) (by rw [xs_keys y.len]; exact nk_nodup y.n y.nd)
  obtain ⟨d, h1, h2, h3, h4⟩ := xs_mem y.t x hx
  rw [h2]
  exact key_is I (ntxs_mem y.n d h1) (y.dp d h1) h4
theorem xs_len {ks : List PyData} {bs : List Addr} (h : bs.length = ks.length) : (xsOf ks bs).length = ks.length := by
  unfold xsOf
  rw [List.length_map, List.length_zip, h, Nat.min_self]
/-- one more -/
theorem Kyd.put {K : PySem.W.Frag} {ks : List PyData} {bs : List Addr} {d : PyData} (y : Kyd K H P ks bs) (n : NTx d) (hd : (nk d).depth ≤ 8) (t : Dq K H P (.ref b) d) (hz : ks.length < sizeLine) :
    ∃ bs', storedH (xsOf ks bs) (nk d) b (.bool true) = xsOf (dput ks d) bs' ∧ Kyd K H P (dput ks d) bs' := by
  have hat : ∀ {ks : List PyData} {bs : List Addr}, bs.length = ks.length → NTxs ks → ((atKey (xsOf ks bs) (nk d)).isSome = true ↔ d ∈ ks) := by
    intro ks bs hl hn
    unfold atKey
    rw [Option.isSome_map, List.find?_isSome]
    constructor
    · rintro ⟨x, hx, e⟩
      have e := of_decide_eq_true e
      have hx' : x.1 ∈ (xsOf ks bs).map (·.1) := List.mem_map_of_mem hx
      rw [xs_keys hl] at hx'
      obtain ⟨d', h1, h2⟩ := List.mem_map.mp hx'
      rw [nk_inj (ntxs_mem hn d' h1) n (h2.trans e)] at h1
      exact h1
    · intro hm
      have h1 : nk d ∈ (xsOf ks bs).map (·.1) := by rw [xs_keys hl]; exact List.mem_map_of_mem hm
      obtain ⟨x, hx, e⟩ := List.mem_map.mp h1
      exact ⟨x, hx, decide_eq_true e⟩
  have hany : ks.any (fun e => decide (nk e = nk d)) = true ↔ d ∈ ks := by
    rw [List.any_eq_true]
    exact ⟨fun ⟨e, h1, h2⟩ => nk_inj (ntxs_mem y.n e h1) n (of_decide_eq_true h2) ▸ h1, fun h => ⟨d, h, decide_eq_true rfl⟩⟩
  unfold dput
  by_cases hm : d ∈ ks
  · rw [if_pos (hany.mpr hm)]
    refine ⟨bs, ?_, y⟩
    unfold storedH
    rw [if_pos ((hat y.len y.n).mpr hm)]
    have : ∀ x ∈ xsOf ks bs, putAt (nk d) (.bool true) x = x := fun x hx => by
      obtain ⟨d', _, _, h3, _⟩ := xs_mem y.t x hx
      unfold putAt
      split
      · rw [← h3]
      · rfl
    rw [List.map_congr_left this, List.map_id']
  · rw [if_neg (fun z => hm (hany.mp z))]
    refine ⟨bs ++ [b], ?_, ?_, ?_, ?_, ?_, ?_⟩
    · unfold storedH
      rw [if_neg (fun z => hm ((hat y.len y.n).mp z))]
      unfold xsOf
      rw [List.zip_append y.len.symm, List.map_append]; rfl
    · rw [List.map_append]
      exact y.t.append (.cons t .nil)
    · exact ntxs_all fun e he => by
        rcases List.mem_append.mp he with he | he
        · exact ntxs_mem y.n e he
        · rw [List.mem_singleton.mp he]; exact n
    · rw [List.nodup_append]
      refine ⟨y.nd, by simp, fun a ha b' hb e => ?_⟩
      rw [List.mem_singleton.mp hb] at e
      exact hm (e ▸ ha)
    · intro e he
      rcases List.mem_append.mp he with he | he
      · exact y.dp e he
      · rw [List.mem_singleton.mp he]; exact hd
    · rw [List.length_append]; show ks.length + 1 ≤ _; omega
end

/-! ### the three deeds -/
section
variable {X : Cx} {o i e value : Expr} {pos pos' : Pos} {td ty tv ta : TE}
theorem pe_dnewR : PE X (.Dict [] [] pos) (fun _ H Q => ∀ p, H p = none → Q (.ref p) (upd H p (rawK X.prog X.w p []))) := ⟨fun pins s σ H Q I h =>
  wpAny_Dict_empty ⟨.ref s.heap.objs.size, _, I.laid (a := s.heap.objs.size) (o := rawK X.prog X.w s.heap.objs.size []) (t' := s.toks) (fun _ _ q => Heap.get?_push_of_some _ q) (Nat.le_refl _)
    (rawK_ok (beq_eq_false_iff_ne.mpr (Ne.symm (Nat.ne_of_lt I.big))) (Heap.DictOfH.new s.heap)), rfl, h _ (I.hok.fresh (Nat.le_refl _))⟩⟩
theorem ps_dputR (hu : X.A.units + 64 < cLine) (ho : PE X o td) (hi : PE X i ty) (hv : PE X value tv) (hs : swapsWith value (some (.Subscript o i pos')) pos.line X.env = pure false) :
    PS X (.Assign [.Subscript o i pos'] value pos) (fun D σ H => tv σ H fun v H1 => v = .bl true ∧ td σ H1 fun x H2 => ty σ H2 fun y H3 => ∃ a b ks bs d P, x = .ref a ∧ y = .ref b ∧ H3 a = some (rawK X.prog X.w a (xsOf ks bs)) ∧
      Kyd X.K H3 P ks bs ∧ NTx d ∧ (nk d).depth ≤ 8 ∧ Dq X.K H3 P (.ref b) d ∧ D.nx σ (upd H3 a (rawK X.prog X.w a (storedH (xsOf ks bs) (nk d) b (.bool true))))) := by
  refine ⟨fun pins s σ H D I h => ?_⟩
  refine wpAny_Assign_Subscript (thn (hv.run pins s σ H _ I h) fun r s1 ⟨v, H1, I1, rv, ev, q1⟩ => thn (ho.run pins s1 σ H1 _ I1 q1) fun u s2 ⟨x, H2, I2, rx, q2⟩ => thn (hi.run pins s2 σ H2 _ I2 q2) fun iv s3 ⟨y, H3, I3, ry, a, b, ks, bs, d, P, ex, ey, ha, ky, nd, dp, t, q3⟩ => ?_) hs
  subst ex ey ev
  obtain rfl : u = Value.ref a := rx
  obtain rfl : iv = Value.ref b := ry
  obtain rfl : r = Value.bool true := rv
  obtain ⟨hsy, dd⟩ := kyd_dict I3 ha ky
  refine wpAny_setItem_heap (hsz := by rw [xs_len ky.len]; exact ky.sz) (show X.A.units + 1 + 8 < cLine by omega) (key_is I3 nd dp t) dd fun h' dd' hs' => ?_
  have he : ∃ q, h'.get? a = some q := let ⟨q, _, _, hq, _⟩ := dd'; ⟨q, hq⟩
  exact ⟨σ, _, d_write (t' := s3.toks + _) I3 (by rw [ha]; exact True.intro) hs' he (rawK_ok hsy dd'), q3⟩
/-- list(d) -/
theorem cr_listR (hc : X.calm = true) : CallR X (.type "list") (fun xs H Q => ∃ a ks bs P, xs = [.ref a] ∧ H a = some (rawK X.prog X.w a (xsOf ks bs)) ∧ Kyd X.K H P ks bs ∧ ∀ p, H p = none → Q (.ref p) (upd H p (.lst (bs.map V.ref)))) := by
  intro pins s σ H xs us Q I r h
  obtain ⟨a, ks, bs, P, rfl, ha, ky, q⟩ := h
  obtain rfl := Vals.ref1 r
  obtain ⟨hsy, dd⟩ := kyd_dict I ha ky
  obtain ⟨es, ep, raw, hsz, hk⟩ := dd.raw
  rw [xs_len ky.len] at hsz
  refine PySem.W.kdl_call (KdlSrc.rawDict hsy) (I.ok.hd hc) raw (by rw [hsz]; exact ky.sz) fun h' tk acc c kp hg ia => ?_
  have hacc : acc.toList = bs.map Value.ref := by
    refine List.ext_getElem? fun j => ?_
    by_cases hj : j < es.size
    · obtain ⟨y, h1, h2, _⟩ := hk j hj
      have hj' : j < acc.size := by rw [ia.1]; exact hj
      have e1 : acc[j]? = some acc[j] := Array.getElem?_eq_getElem hj'
      obtain ⟨_, e2⟩ := ia.2 j _ e1
      rw [Array.getElem?_toList, e1, e2, h2]
      unfold xsOf at h1
      rw [List.getElem?_map] at h1
      cases hz : (ks.zip bs)[j]? with
      | none => rw [hz] at h1; cases h1
      | some pr =>
        rw [hz] at h1
        cases h1
        obtain ⟨_, h4⟩ := List.getElem?_zip_eq_some.mp hz
        rw [List.getElem?_map, h4]; rfl
    · rw [List.getElem?_eq_none (by rw [Array.length_toList, ia.1]; omega), List.getElem?_eq_none (by rw [List.length_map, ky.len, ← hsz]; omega)]
  have hv : Vals (bs.map V.ref) acc.toList := by
    rw [hacc]
    clear ky ha hk hacc q dd
    induction bs with
    | nil => exact .nil
    | cons b bs ih => exact .cons rfl ih
  refine ⟨.ref s.heap.objs.size, upd H s.heap.objs.size (.lst (bs.map V.ref)), I.laid (t' := tk) kp (Nat.le_refl _) ⟨by rw [List.length_map, ky.len]; exact ky.sz, acc.toList, c, hv, by rw [Array.toArray_toList]; exact hg⟩, rfl, q _ (I.hok.fresh (Nat.le_refl _))⟩
end

/-! ### as statements and expressions of the layer -/
def asDc : PyData → Option (List PyData)
  | .dict [(.str _, .none), (.none, .list ks)] => some ks
  | _ => none
@[simp] theorem asDc_dc (ks : List PyData) : asDc (dc ks) = some ks := rfl
def keysOk (ks : List PyData) : Bool := ks.all kyb && decide (ks.length ≤ sizeLine)
theorem kyd_of {K : PySem.W.Frag} {H : Hp} {P : Addr → Prop} {ks : List PyData} {bs : List Addr} (t : DqA K H P (bs.map V.ref) ks) (nd : ks.Nodup) (h : keysOk ks = true) : Kyd K H P ks bs := by
  unfold keysOk at h
  simp only [Bool.and_eq_true, List.all_eq_true, decide_eq_true_eq] at h
  exact ⟨t, ntxs_all fun d hd => (kyb_ntx (h.1 d hd)).1, nd, fun d hd => (kyb_ntx (h.1 d hd)).2, h.2⟩
section
variable [OK : OwnK] {P : Program} {w : World} {mg : Str → Option Value} {pin : Addr → HO → Prop} {rk : List Nat} {K : PySem.W.Frag} {H : Hp} {Pr : Addr → Prop} {a : Addr} {u : HO}
theorem ow_dc (hO : OK = mkO P w mg pin rk) {ks : List PyData} {bs : List Addr} (hp : pin a (rawK P w a (xsOf ks bs))) (t : DqA K H Pr (bs.map V.ref) ks) (n : NTxs ks) (nd : ks.Nodup) : Ow K H Pr a (rawK P w a (xsOf ks bs)) (dc ks) := by
  subst hO
  exact ⟨bs.map V.ref, ks, @Gk.ext (mkO P w mg pin rk) a _ _ ks _ ⟨hp, .inr ⟨bs, rfl, rfl, rfl, n, nd⟩⟩, t⟩
theorem ow_dcI (hO : OK = mkO P w mg pin rk) {d : PyData} {ks : List PyData} (h : Ow K H Pr a u d) (e : asDc d = some ks) : pin a u ∧ ∃ bs, u = rawK P w a (xsOf ks bs) ∧ DqA K H Pr (bs.map V.ref) ks ∧ ks.Nodup := by
  subst hO
  obtain ⟨vs, ds, g, t⟩ := h
  cases g with
  | lst => cases e
  | ext g =>
    rcases g.2 with ⟨c', C, dx, ns, h1, h2, h3, h4, h5, _⟩ | ⟨bs, h1, h2, h3, h4, h5⟩
    · rw [h5] at e
      unfold ob spc asDc at e
      split at e
      · rename_i he
        injection he with he
        injection he with _ he
        injection he with he _
        injection he with he _
        cases he
      · cases e
    · rw [h3] at e
      rw [asDc_dc] at e
      cases e
      rw [h2] at t
      exact ⟨g.1, bs, h1, t, h5⟩
end
def fDNew (i : Nat) : Rho → Option Fl := fun ρ => if i < ρ.length then some (.nx (ρ.set i (some (dc [])))) else none
def fDPut (i : Nat) (f : Rho → Option PyData) : Rho → Option Fl := fun ρ => (f ρ).bind fun d => (ρ.getD i none).bind fun t => (asDc t).bind fun ks => if (kyb d && (keysOk ks && decide (ks.length < sizeLine))) = true then some (.nx (ρ.set i (some (dc (dput ks d))))) else none
def eDKeys (i : Nat) : Rho → Option (List PyData) := fun ρ => (ρ.getD i none).bind fun t => (asDc t).bind fun ks => if keysOk ks = true then some ks else none
section
variable [OK : OwnK] {X : Cx} {pin : Addr → HO → Prop} {rk o ob' : List Nat} {e : Expr} {f : Rho → Option PyData} {pos : Pos}
theorem sv_dnew (hO : OK = mkO X.prog X.w X.mg pin rk) (hpin : ∀ a u, pin a u) (i : Nat) {x : Str} {pos' p2 : Pos} (hN : X.N.Nodup) (hi : i ∉ o := by decide) (hx : X.N[i]? = some x := by rfl) (hl : Loc X.env.scope x := by first | exact Or.inl rfl | exact Or.inr rfl) (hs : swapsWith (.Dict [] [] p2) (some (.Name x pos')) pos.line X.env = pure false := by rfl)
    (hf : X.fn x = true ∨ X.env.scope.names.lookup x = some .local := by first | exact .inl rfl | exact .inr rfl) : SV X o (i :: o) ob' (.Assign [.Name x pos'] (.Dict [] [] p2) pos) (fDNew i) := PS.imp (ps_set hN hx hl pe_dnewR hs hf) fun D σ H ⟨H0, P0, P, ρ, fl, R, e, q⟩ => by
  unfold fDNew at e
  by_cases hl : i < ρ.length
  · rw [if_pos hl] at e
    cases e
    intro p hp
    obtain ⟨R', l⟩ := R.take hi hl (same_upd hp _) hp upd_same (ow_dc (ks := []) (bs := []) hO (hpin _ _) .nil (by rw [NTxs]; trivial) List.nodup_nil)
    exact q _ _ _ R' l
  · rw [if_neg hl] at e; cases e
theorem sv_dput (hO : OK = mkO X.prog X.w X.mg pin rk) (hpin : ∀ a u, pin a u) (hu : X.A.units + 64 < cLine) (i : Nat) {x : Str} {px pos' p2 : Pos} {j : Nat} (hv : PE X (.Name x px) (tVar i)) (he : EV X o e f) (hi : i ∈ o := by decide)
    (hs : swapsWith (.Constant (.bool true) j p2) (some (.Subscript (.Name x px) e pos')) pos.line X.env = pure false := by rfl) : SV X o o ob' (.Assign [.Subscript (.Name x px) e pos'] (.Constant (.bool true) j p2) pos) (fDPut i f) :=
  PS.imp (ps_dputR hu hv he pe_bl hs) fun D σ H ⟨H0, P0, P, ρ, fl, R, e, q⟩ => by
    unfold fDPut at e
    cases ef : f ρ with
    | none => rw [ef] at e; cases e
    | some d =>
    rw [ef] at e
    simp only [Option.bind_some] at e
    obtain ⟨a, u, d0, h1, h2, h3, h4, h5, h6⟩ := R.own i hi
    have eg : ρ.getD i none = some d0 := by rw [List.getD_eq_getElem?_getD, h2] <;> rfl
    rw [eg] at e
    simp only [Option.bind_some] at e
    cases ek : asDc d0 with
    | none => rw [ek] at e; cases e
    | some ks =>
    rw [ek] at e
    simp only [Option.bind_some] at e
    by_cases hz : (kyb d && (keysOk ks && decide (ks.length < sizeLine))) = true
    · rw [if_pos hz] at e
      cases e
      simp only [Bool.and_eq_true, decide_eq_true_eq] at hz
      obtain ⟨z1, z2, z3⟩ := hz
      obtain ⟨bs, eu, t, nd⟩ := (ow_dcI hO h6 ek).2
      subst eu
      refine ⟨rfl, .ref a, h1, H0, P0, P, ρ, d, R, ef, fun y H1 s1 t1 => ?_⟩
      obtain ⟨c, rfl⟩ : ∃ c, y = .ref c := by
        unfold kyb at z1
        simp only [Bool.and_eq_true] at z1
        cases t1 with
        | tup _ _ _ => exact ⟨_, rfl⟩
        | _ => simp [isTup, TF.scr, spc] at z1
      have ky : Kyd X.K H1 P ks bs := kyd_of (t.same s1) nd z2
      obtain ⟨n1, n2⟩ := kyb_ntx z1
      refine ⟨a, c, ks, bs, d, P, rfl, rfl, s1 _ _ h5, ky, n1, n2, t1, ?_⟩
      obtain ⟨bs', es, ky'⟩ := ky.put n1 n2 t1 z3
      rw [es]
      obtain ⟨R', l⟩ := (R.go s1).putX (H' := upd H1 a (rawK X.prog X.w a (xsOf (dput ks d) bs'))) hi h1 (fun b w hb hw => by rw [upd_ne hb]; exact hw) upd_same
        (ow_dc hO (hpin _ _) (ky'.t.mono fun b w hb hn _ => ⟨by rw [upd_ne (fun z => hn (by rw [z]; exact h3))]; exact hb, hn⟩) ky'.n ky'.nd)
      exact q _ _ _ R' ((Lt.same P s1).trans l)
    · rw [if_neg hz] at e; cases e
theorem en_dlist (hO : OK = mkO X.prog X.w X.mg pin rk) (hc : X.calm = true) (hm : X.mg "list" = none) (i : Nat) {x : Str} {px p : Pos} (hv : PE X (.Name x px) (tVar i)) (hi : i ∈ o := by decide) (hg : Gl X "list" := by rfl)
    (hs : starEach [.Name x px] X.env = (false, eval (.Name x px) X.env) :: starEach [] X.env := by rfl) : EN X o (.Call (.Name "list" p) [.Name x px] [] pos) (eDKeys i) :=
  PE.imp (pe_callTy (cr_listR hc) hg hm (by decide +kernel) (pa_cons hv pa_nil hs) (by decide) (by decide) hs (by rfl)) fun σ H Q ⟨H0, P0, P, ρ, ks, R, e, q⟩ => by
    unfold eDKeys at e
    obtain ⟨a, u, d0, h1, h2, h3, h4, h5, h6⟩ := R.own i hi
    have eg : ρ.getD i none = some d0 := by rw [List.getD_eq_getElem?_getD, h2] <;> rfl
    rw [eg] at e
    simp only [Option.bind_some] at e
    cases ek : asDc d0 with
    | none => rw [ek] at e; cases e
    | some ks' =>
    rw [ek] at e
    simp only [Option.bind_some] at e
    by_cases hz : keysOk ks' = true
    · rw [if_pos hz] at e
      cases e
      obtain ⟨bs, eu, t, nd⟩ := (ow_dcI hO h6 ek).2
      subst eu
      refine ⟨.ref a, h1, a, ks, bs, P, rfl, h5, kyd_of t nd hz, fun p hp => ?_⟩
      exact q p _ _ (same_upd hp _) hp upd_same (newDq hp t)
    · rw [if_neg hz] at e; cases e
end
end TF

/-! TF7.lean -/
set_option Elab.async false
set_option linter.all false
set_option maxRecDepth 100000
/-! TF.7: sorted(d, key=str), d a dict of one's own -/
namespace TF
open PySem PySem.Spec PyProof.Rows L2
/-- by their writing -/
def shk (d : PyData) : PyData := .str d.shown
def byStr (ks : List PyData) : List PyData := ks.mergeSort (PySem.W.dataLe false shk)
theorem byStr_perm (ks : List PyData) : (byStr ks).Perm ks := List.mergeSort_perm _ _
mutual
theorem ntx_sh : ∀ {d : PyData}, NTx d → d.showable = true ∧ d.hasDict = false ∧ d.plain = true
  | .str x, _ => by simp [PyData.showable, PyData.hasDict, PyData.plain]
  | .tuple ds, h => by
    rw [NTx] at h
    obtain ⟨h1, h2, h3⟩ := ntxs_sh h
    rw [PyData.showable, PyData.hasDict, PyData.plain]
    exact ⟨h1, h2, h3⟩
theorem ntxs_sh : ∀ {ds : List PyData}, NTxs ds → PyData.showableAll ds = true ∧ PyData.hasDictAll ds = false ∧ PyData.plainAll ds = true
  | [], _ => by simp [PyData.showableAll, PyData.hasDictAll, PyData.plainAll]
  | d :: ds, h => by
    rw [NTxs] at h
    obtain ⟨a1, a2, a3⟩ := ntx_sh h.1
    obtain ⟨b1, b2, b3⟩ := ntxs_sh h.2
    rw [PyData.showableAll, PyData.hasDictAll, PyData.plainAll, a1, a2, a3, b1, b2, b3]
    exact ⟨rfl, rfl, rfl⟩
end
section
variable {X : Cx}
theorem cr_sortedStr (hc : X.calm = true) (hg : X.A.guards = some []) (hu : X.A.units + 100 < cLine) : CallRK X (.builtin "sorted") [Str.ofString "key"] (fun xs zs H Q => ∃ a ks bs P, xs = [.ref a] ∧ zs = [.ty "str"] ∧ H a = some (rawK X.prog X.w a (xsOf ks bs)) ∧ Kyd X.K H P ks bs ∧
    (∀ d ∈ ks, d.shown.length ≤ sizeLine ∧ d.depth ≤ 64) ∧ ∀ p vs, H p = none → DqA X.K H P vs (byStr ks) → Q (.ref p) (upd H p (.lst vs))) := by
  intro pins s σ H xs zs us ws Q I r rz h
  obtain ⟨a, ks, bs, P, rfl, rfl, ha, ky, hsz, q⟩ := h
  obtain rfl := Vals.ref1 r
  obtain ⟨w1, rfl, e1⟩ := vals1 rz
  obtain rfl : w1 = Value.type "str" := e1
  obtain ⟨hsy, dd⟩ := kyd_dict I ha ky
  obtain ⟨es, ep, raw, hes, hk⟩ := dd.raw
  rw [xs_len ky.len] at hes
  have hh := I.ok.hd hc
  show wpAny _ _ (call (.builtin "sorted") [.ref a] [(Str.ofString "key", .type "str")]) _ _ s
  refine call_function_entry_kw kind_sorted plain_sorted entry_sorted (PyProof.Rows.ksk_s1 _ _) ?_
  unfold Builtin.«sorted»
  refine wpAny_bind (m := checkCount "sorted" 1 1 _) (wpAny_pure ?_)
  refine wpAny_bind (PySem.W.kdu_collect (A := X.A.in1) (KdlSrc.rawDict hsy) hh raw (by rw [hes]; exact ky.sz) fun h' tk acc kp ia => ?_)
  have hal : acc.size = ks.length := by rw [ia.1, hes]
  refine wpAny_bind (wpAny_newList ?_ (by rw [Array.length_toList, hal]; exact ky.sz))
  have hacc : acc.toList = bs.map Value.ref := by
    refine List.ext_getElem? fun j => ?_
    by_cases hj : j < es.size
    · obtain ⟨y, h1, h2, _⟩ := hk j hj
      have hj' : j < acc.size := by rw [ia.1]; exact hj
      have e1 : acc[j]? = some acc[j] := Array.getElem?_eq_getElem hj'
      obtain ⟨_, e2⟩ := ia.2 j _ e1
      rw [Array.getElem?_toList, e1, e2, h2]
      unfold xsOf at h1
      rw [List.getElem?_map] at h1
      cases hz : (ks.zip bs)[j]? with
      | none => rw [hz] at h1; cases h1
      | some pr =>
        rw [hz] at h1
        cases h1
        obtain ⟨_, h4⟩ := List.getElem?_zip_eq_some.mp hz
        rw [List.getElem?_map, h4]; rfl
    · rw [List.getElem?_eq_none (by rw [Array.length_toList, ia.1]; omega), List.getElem?_eq_none (by rw [List.length_map, ky.len, ← hes]; omega)]
  -- what each is
  have I1 : Inv X pins σ H { s with heap := h', toks := tk } := I.kept kp
  have e1 : PySem.W.EachIs (fun u d => ∃ z, RelV z u ∧ Dq X.K H P z d ∧ ∃ b as, u = .ref b ∧ Reads h' u d as) acc.toList ks := by
    refine each_of (by rw [Array.length_toList, hal]) fun i u d hu hd => ?_
    rw [hacc, List.getElem?_map] at hu
    cases hb : bs[i]? with
    | none => rw [hb] at hu; cases hu
    | some b =>
      rw [hb] at hu
      cases hu
      obtain ⟨v, h1, h2⟩ := ky.t.get hd
      rw [List.getElem?_map, hb] at h1
      cases h1
      have hm := List.mem_of_getElem? hd
      obtain ⟨as, hr⟩ := Dp.reads I1 _ _ _ (h2.dp (ntx_sh (ntxs_mem ky.n d hm)).2.2) (rfl : RelV (.ref b) (.ref b))
      exact ⟨.ref b, rfl, h2, b, as, rfl, hr⟩
  have hD : (h'.push { cls := .type "list", data := .seq acc.toList.toArray }).get? h'.objs.size = some (seqObj "list" acc.toList.toArray 0) := Heap.get?_push_size _ rfl
  have hup : ∀ b o, h'.get? b = some o → (h'.push { cls := .type "list", data := .seq acc.toList.toArray }).get? b = some o := fun b o e => Heap.get?_push_of_some _ e
  refine wpAny_bind (wpAny_holding ?_)
  refine PySem.W.list_sort_key_data (A := X.A.in1) (b := false) (vs := acc.toList) (bs := ks) shk hD e1 (PySem.W.AllAlike.of fun _ _ => by simp [shk, PySem.W.alike]) (PySem.W.Sortable.others fun _ => ⟨by simp [shk], fun _ => by simp [shk]⟩) ky.sz
    (fun x hx => by show X.A.units + 1 + 1 + (shk x).depth < cLine; simp only [shk, PyData.depth]; omega) (PyProof.Rows.ksk_l1 _ _) rfl ?_ ?_
  · rintro v x ⟨z, rz', dz, b, as, rfl, hr⟩ hx h2 tk2 kb
    have kb' : ∀ c o, h'.get? c = some o → h2.get? c = some o := fun c o e => kb c o (Nat.ne_of_lt (Heap.lt_size e)) (hup c o e)
    obtain ⟨s1, s2⟩ := hsz x hx
    refine str_of_reads (h₀ := h') (as := as) hr (ntx_sh (ntxs_mem ky.n x hx)).1 (PyData.noDict_hsm (ntx_sh (ntxs_mem ky.n x hx)).2.1) hg (by show X.A.units + 1 + 1 + (x.depth + 3) < cLine; omega) kb' (fun h3 u tk3 k3 => ⟨h3, tk3, rfl, k3, ?_⟩) s1
    exact .str _ _
  · intro out c h3 tk3 k3 ho hlen eo
    obtain ⟨vs, hv, hd⟩ := each_dq (eo.mono fun u d ⟨z, a1, a2, _⟩ => ⟨z, a1, a2⟩)
    have kp3 : ∀ b o, h'.get? b = some o → h3.get? b = some o := fun b o e => k3 b o (Nat.ne_of_lt (Heap.lt_size e)) (hup b o e)
    refine wpAny_pure ⟨_, rfl, ?_⟩
    refine ⟨.ref h'.objs.size, upd H h'.objs.size (.lst vs), I1.laid (t' := tk3) kp3 (Nat.le_refl _) ⟨by rw [hv.length, hlen]; exact ky.sz, out, c, hv, ho⟩, rfl, q _ _ (I1.hok.fresh (Nat.le_refl _)) hd⟩
end
def eSrtS (i : Nat) : Rho → Option (List PyData) := fun ρ => (ρ.getD i none).bind fun t => (asDc t).bind fun ks => if (keysOk ks && ks.all fun d => decide (d.shown.length ≤ sizeLine ∧ d.depth ≤ 64)) = true then some (byStr ks) else none
section
variable [OK : OwnK] {X : Cx} {pin : Addr → HO → Prop} {rk o ob' : List Nat} {e : Expr} {f : Rho → Option PyData} {pos : Pos}
theorem en_sortedStr (hO : OK = mkO X.prog X.w X.mg pin rk) (hc : X.calm = true) (hgd : X.A.guards = some []) (hu : X.A.units + 100 < cLine) (hm : X.mg "sorted" = none) (hms : X.mg "str" = none) (i : Nat) {x : Str} {px p p2 kp : Pos} (hv : PE X (.Name x px) (tVar i)) (hi : i ∈ o := by decide)
    (hg : Gl X "sorted" := by rfl) (hgs : Gl X "str" := by rfl)
    (he : backTo pos (starEach [.Name x px] X.env) = (false, eval (.Name x px) X.env) :: backTo pos (starEach [] X.env) := by rfl) (hpl : (backTo pos (starEach [.Name x px] X.env)).any (·.1) = false := by rfl)
    (hall : (backToKw pos (keywordEach [⟨some "key", .Name "str" p2, kp⟩] X.env)).all (·.1.isSome) = true := by rfl) (hnone : (backToKw pos (keywordEach [⟨some "key", .Name "str" p2, kp⟩] X.env)).any (·.1.isNone) = false := by rfl) (hks : (backToKw pos (keywordEach [⟨some "key", .Name "str" p2, kp⟩] X.env)).filterMap (·.1) = [Str.ofString "key"] := by rfl)
    (hs : starEach [.Name x px] X.env = (false, eval (.Name x px) X.env) :: starEach [] X.env := by rfl) : EN X o (.Call (.Name "sorted" p) [.Name x px] [⟨some "key", .Name "str" p2, kp⟩] pos) (eSrtS i) :=
  PE.imp (pe_callBK (cr_sortedStr hc hgd hu) hg hm (by decide +kernel) (pa_cons hv pa_nil hs) (pk_cons (pe_bltn (v := .ty "str") hgs hms (by decide +kernel) rfl) pk_nil) (by decide) (by decide) he hpl hall hnone hks) fun σ H Q ⟨H0, P0, P, ρ, ks, R, e, q⟩ => by
    unfold eSrtS at e
    obtain ⟨a, u, d0, h1, h2, h3, h4, h5, h6⟩ := R.own i hi
    have eg : ρ.getD i none = some d0 := by rw [List.getD_eq_getElem?_getD, h2] <;> rfl
    rw [eg] at e
    simp only [Option.bind_some] at e
    cases ek : asDc d0 with
    | none => rw [ek] at e; cases e
    | some ks' =>
    rw [ek] at e
    simp only [Option.bind_some] at e
    by_cases hz : (keysOk ks' && ks'.all fun d => decide (d.shown.length ≤ sizeLine ∧ d.depth ≤ 64)) = true
    · rw [if_pos hz] at e
      cases e
      simp only [Bool.and_eq_true, List.all_eq_true, decide_eq_true_eq] at hz
      obtain ⟨bs, eu, t, nd⟩ := (ow_dcI hO h6 ek).2
      subst eu
      refine ⟨.ref a, h1, a, ks', bs, P, rfl, rfl, h5, kyd_of t nd hz.1, hz.2, fun p vs hp hd => ?_⟩
      exact q p _ _ (same_upd hp _) hp upd_same (newDq hp hd)
    · rw [if_neg hz] at e; cases e
end
end TF

/-! TF8.lean -/
set_option Elab.async false
set_option linter.all false
set_option maxRecDepth 100000
/-! TF.8: defs that are called where nothing is being written (no repr is under way) -/
namespace TF
open PySem PySem.Spec PyProof.Rows L2
/-- a promise kept where no guard is up -/
structure FnG (P : Program) (w : World) (K : PySem.W.Frag) (mg : Str → Option Value) (base : Heap) (k : Nat) (f : Addr) (fd : FuncData) (ps : List Str) (sp : Sp) : Prop where
  len : ∀ vs H Q E, sp vs H Q E → vs.length = ps.length
  go : ∀ {A : Around} {outer : List Env} {s : Shared} {H : Hp} {args : Args} {us : List Value} {vs : List V} {Q : VK} {E : XK}, A.guards = some [] → Room k A → Env0 P w K mg base A outer s H → BindsTo s fd args (ps.zip us) → Vals vs us → sp vs H Q E →
    codeAny (model P w) A (.call (.ref f) args) (CR CX0 outer P w H s Q E) s
section
variable {P : Program} {w : World} {K : PySem.W.Frag} {mg : Str → Option Value} {base : Heap} {j k : Nat} {f : Addr} {fd : FuncData} {ps : List Str} {sp : Sp}
theorem FnG.mono (F : FnG P w K mg base j f fd ps sp) (h : j ≤ k) : FnG P w K mg base k f fd ps sp := ⟨F.len, fun hg hr => F.go hg (hr.mono h)⟩
theorem FnG.of (F : FnOk P w K mg base CX0 k f fd ps sp) : FnG P w K mg base k f fd ps sp := ⟨F.len, fun _ hr e b v h => F.run _ _ _ _ _ _ _ _ _ hr e b v h⟩
end
section
variable {X : Cx} {k : Nat} {f : Addr} {fd : FuncData} {ps : List Str} {sp : Sp} {x : Str} {p pos : Pos} {e : Expr} {es : List Expr} {t : L2.TA}
/-- a call by name -/
theorem pe_callG (F : FnG X.prog X.w X.K X.mg X.base k f fd ps sp) (hgd : X.A.guards = some []) (hr : Room k X.A) (hg : Gl X x) (hm : X.mg x = some (.ref f)) (hk : PySem.W.keepIn X.K (.ref f) = true) (hb : Binds X.K fd ps [])
    (ha : PA X (e :: es) t) (hdb : (x == ("__debug__" : Str)) = false := by decide) (he : starEach (e :: es) X.env = (false, eval e X.env) :: starEach es X.env := by rfl) (hpl : (backTo pos (starEach es X.env)).any (·.1) = false := by rfl) :
    PE X (.Call (.Name x p) (e :: es) [] pos) (fun σ H Q => t σ H fun vs H1 => sp vs H1 Q E0) := ⟨fun pins s σ H Q I h => by
  refine wpAny_Call_Name_kw (ld_glob I hg hm (PySem.W.callWith_K (h₀ := X.base) I.ok.mod.kin hk (wpAny_mono (ha.run pos pins s σ H _ I h) (fun us s1 hq => ?_) fun _ _ z => z) he hpl) hdb)
  obtain ⟨vs, H1, J, rv, q⟩ := hq
  refine ⟨J.kIn, wpAny_call ?_⟩
  have bd : BindsTo s1 fd ⟨us, []⟩ (ps.zip us) := by
    have := hb s1 us J.kIn (by rw [List.append_nil, ← rv.length]; exact F.len _ _ _ _ q)
    rwa [List.append_nil] at this
  refine codeAny_mono (F.go hgd hr J.env0 bd rv q) fun r s2 hr2 => ?_
  match r, hr2 with
  | .ok (.ret u), z => exact J.after z
  | .ok .next, z => exact (show False from z).elim
  | .ok .brk, z => exact (show False from z).elim
  | .ok .cont, z => exact (show False from z).elim
  | .error _, z => exact pass0 pins σ H1 s1 _ s2 J z⟩
/-- what may be called there -/
structure CalleeG (P : Program) (w : World) (K : PySem.W.Frag) (mg : Str → Option Value) (base : Heap) (k : Nat) (x : Str) (n : Nat) (m : List PyData → Option PyData) : Prop where
  ex : ∃ (f : Addr) (fd : FuncData) (ps : List Str), FnG P w K mg base k f fd ps (spF K n m) ∧ mg x = some (.ref f) ∧ PySem.W.keepIn K (.ref f) = true ∧ Binds K fd ps []
theorem CalleeG.mono {P : Program} {w : World} {K : PySem.W.Frag} {mg : Str → Option Value} {base : Heap} {k k' : Nat} {x : Str} {n : Nat} {m : List PyData → Option PyData} (c : CalleeG P w K mg base k x n m) (h : k ≤ k') : CalleeG P w K mg base k' x n m := by
  obtain ⟨f, fd, ps, F, r⟩ := c.ex
  exact ⟨f, fd, ps, F.mono h, r⟩
end
section
variable [OK : OwnK]
theorem ev_fnG {X : Cx} {o : List Nat} {e : Expr} {es : List Expr} {x : Str} {p pos : Pos} {k n : Nat} {m : List PyData → Option PyData} {g : Rho → Option (List PyData)} (c : CalleeG X.prog X.w X.K X.mg X.base k x n m) (hgd : X.A.guards = some []) (hr : Room k X.A)
    (ha : EA X o (e :: es) g) (hg : Gl X x := by rfl) (hdb : (x == ("__debug__" : Str)) = false := by decide) (he : starEach (e :: es) X.env = (false, eval e X.env) :: starEach es X.env := by rfl) (hpl : (backTo pos (starEach es X.env)).any (·.1) = false := by rfl) :
    EV X o (.Call (.Name x p) (e :: es) [] pos) (eCall n m g) := by
  obtain ⟨f, fd, ps, F, hm, hk, hb⟩ := c.ex
  refine PE.imp (pe_callG F hgd hr hg hm hk hb ha hdb he hpl) fun σ H Q ⟨H0, P0, P, ρ, d, R, e, q⟩ => ?_
  unfold eCall at e
  cases eg : g ρ with
  | none => rw [eg] at e; cases e
  | some ds =>
    rw [eg] at e
    have e : (if ds.length = n then m ds else none) = some d := e
    by_cases hn : ds.length = n
    · rw [if_pos hn] at e
      exact ⟨H0, P0, P, ρ, ds, R, eg, fun vs H1 s1 r1 => ⟨by rw [r1.length]; exact hn, P, ds, d, (R.go s1).tr, r1, e, fun v H' s2 t => q v H' (s1.trans s2) t⟩⟩
    · rw [if_neg hn] at e; cases e
/-- a def, by its body, told where no guard is up -/
theorem fn_G {P : Program} {w : World} {K : PySem.W.Frag} {mg : Str → Option Value} {base : Heap} {k : Nat} {x qual : Str} {params : Arguments} {body : List Stmt} {scope : Scope} {f : Addr} {fd : FuncData} {N ps : List Str} {o' : List Nat} {fb : Rho → Option Fl} (F : FunD K x qual params body scope [] [] f fd) (S : FnScope N ps scope) (hT : OK.T = [])
    (hbody : ∀ (cdv : Value) (A : Around) (outer : List Env) (s : Shared) (H : Hp) (E : XK), A.guards = some [] → Room k (A.deeper (envOfC qual scope s.heap.objs.size f cdv)) → SVs (cxOf CX0 P w K mg base N qual scope f cdv A outer s H E).nox [] o' [] body fb) :
    FnG P w K mg base (k + 1) f fd ps (spF K ps.length (runF N.length fb)) := by
  obtain ⟨oc, od, dV, kV, doc, pm, an, cdv, ct, osl, rfl, lk, hcd, _, _⟩ := F.ex
  refine ⟨fun vs H Q E h => h.1, fun {A outer s H args us vs Q E} hgd hr e0 hb rv h => LamX.run_ofS (N := N) lk hcd S hr e0 hb rv h.1 fun hr' => ?_⟩
  obtain ⟨hl, Pr, ds, d, tr, t, e, q⟩ := h
  refine ⟨_, (hbody cdv A outer s H E hgd hr').nox, ?_⟩
  unfold runF at e
  cases ef : fb (ds.map some ++ List.replicate (N.length - ds.length) none) with
  | none => rw [ef] at e; cases e
  | some fl =>
  rw [ef] at e
  simp only [Option.bind_some] at e
  refine ⟨H, Pr, Pr, _, fl, ⟨fun a z => z, tr, tr, Same.refl H, fun i hi => absurd hi (by simp), fun i j a b hi => absurd hi (by simp), fun i d' _ h => ?_, ?_, tabs0 hT, fun n => absurd hT n⟩, ef, ?_⟩
  · obtain ⟨v, h1, h2⟩ := t.get (args_get h)
    exact ⟨v, start_get h1, h2⟩
  · unfold L2.start
    rw [List.length_append, List.length_append, List.length_map, List.length_map, List.length_replicate, List.length_replicate, t.length]
  · cases fl with
    | rt d' => cases e; exact fun v H' s t => q v H' s t
    | nx r => cases e; exact fun σ' H' P' R l => q .non H' R.same .non
    | bk r => cases e
    | ct r => cases e
    | rx d r => cases e
    | ex x => cases e
    | rl b => cases e
theorem fn_CG {P : Program} {w : World} {K : PySem.W.Frag} {mg : Str → Option Value} {base : Heap} {k : Nat} {x qual : Str} {params : Arguments} {body : List Stmt} {scope : Scope} {f : Addr} {fd : FuncData} {N ps : List Str} {o' : List Nat} {fb : Rho → Option Fl} (F : FunD K x qual params body scope [] [] f fd) (S : FnScope N ps scope)
    (hT : OK.T = []) (hm : mg x = some (.ref f)) (hb : Binds K fd ps [])
    (hbody : ∀ (cdv : Value) (A : Around) (outer : List Env) (s : Shared) (H : Hp) (E : XK), A.guards = some [] → Room k (A.deeper (envOfC qual scope s.heap.objs.size f cdv)) → SVs (cxOf CX0 P w K mg base N qual scope f cdv A outer s H E).nox [] o' [] body fb) :
    CalleeG P w K mg base (k + 1) x ps.length (runF N.length fb) := ⟨f, fd, ps, fn_G F S hT hbody, hm, F.kp, hb⟩
end

/-! ### the head -/
section
variable {P : Program} {w : World} {K : PySem.W.Frag} {mg mb : Str → Option Value} {k : Nat} {fa a : Addr} {fd : FuncData} {x : Str} {sp : Sp} {s₁ : Shared} {vs : List Value} {ns : List Int}
/-- what is tracked at the start: at most the script, as it lies -/
def scrHp (K : PySem.W.Frag) (a : Addr) (vs : List Value) (ns : List Int) : Hp := fun b =>
  if b = a ∧ (K.lookup a).isNone = true then some (.frz { cls := .type "list", data := .seq vs.toArray } (.lst (ns.map V.int))) else none
theorem scrHp_some {b : Addr} {u : HO} (h : scrHp K a vs ns b = some u) : b = a ∧ K.lookup a = none ∧ u = .frz { cls := .type "list", data := .seq vs.toArray } (.lst (ns.map V.int)) := by
  unfold scrHp at h
  by_cases c : b = a ∧ (K.lookup a).isNone = true
  · rw [if_pos c] at h
    cases h
    exact ⟨c.1, by simpa using c.2, rfl⟩
  · rw [if_neg c] at h; cases h
theorem law_callG (KX : K.In s₁.heap) (hns : s₁.heap.Ns mainGlobals mg) (hb : s₁.heap.Ns builtinsNs mb) (hbb : ∀ y : Str, y ≠ "__name__" → mb y = bootBuiltins y) (hlim : s₁.heap.NoLimit) (hgn : s₁.gens = #[])
    (ha : s₁.heap.get? a = some { cls := .type "list", data := .seq vs.toArray }) (hi : IntsAre vs ns) (hl : ns.length ≤ sizeLine) (hr : Room k callerA)
    (F : ∀ base : Heap, K.In base → base.Ns mainGlobals mg → FnG P w K mg base k fa fd [x] sp) (hbind : ∀ (s : Shared) (u : Value), BindsTo s fd ⟨[u], []⟩ [(x, u)])
    (hsp : ∀ H : Hp, SqL K H a (ns.map V.int) → sp [.ref a] H (fun v _ => v = .bl true) fun _ _ _ => False) :
    codeAny (model P w) callerA (.call (.ref fa) ⟨[.ref a], []⟩) (fun r s' => r = .ok (.ret (.bool true)) ∧ OldK s₁.heap s'.heap ∧ s'.os = s₁.os ∧ AllBare s'.gens) s₁ := by
  generalize hH : scrHp K a vs ns = H
  have hsome : ∀ {b : Addr} {u : HO}, H b = some u → b = a ∧ K.lookup a = none ∧ u = .frz { cls := .type "list", data := .seq vs.toArray } (.lst (ns.map V.int)) := fun {b u} z => by
    rw [← hH] at z
    exact scrHp_some z
  -- what is no list is not tracked
  have free : ∀ {b : Addr} {o : Obj}, s₁.heap.get? b = some o → (b = a → K.lookup a = none → False) → (hidT s₁.heap H).get? b = some o := fun {b o} e n => by
    refine hidT_get e ?_
    rcases hq : H b with _ | u
    · rfl
    · obtain ⟨h1, h2, _⟩ := hsome hq
      exact (n h1 h2).elim
  have frees : ∀ {b : Addr} {m : Str → Option Value}, s₁.heap.Ns b m → (hidT s₁.heap H).Ns b m := by
    rintro b m ⟨o, es, ep, e, d, r⟩
    refine ⟨o, es, ep, free e fun h _ => ?_, d, r⟩
    rw [h, ha] at e
    cases e
    exact absurd d (fun z => by cases z)
  have kin : K.In (hidT s₁.heap H) := fun b o e => free (KX b o e) fun h1 h2 => by rw [h1, h2] at e; cases e
  have md : Mod K mg (hidT s₁.heap H) := by
    obtain ⟨mc, c1, c2⟩ := hlim
    exact ⟨kin, frees hns, ⟨mb, frees hb, hbb⟩, ⟨mc, frees c1, c2⟩⟩
  have hz : (ns.map V.int).length ≤ sizeLine := by rw [List.length_map]; exact hl
  have hok : HOk P w H s₁.heap := fun b u z => by
    obtain ⟨rfl, _, rfl⟩ := hsome z
    exact ⟨ha, hz, vs, _, vals_ints hi, ha⟩
  have sq : SqL K H a (ns.map V.int) := by
    rcases hk : K.lookup a with _ | o
    · refine .inl (.inr ⟨{ cls := .type "list", data := .seq vs.toArray }, ?_⟩)
      rw [← hH]
      exact if_pos ⟨rfl, by rw [hk]; rfl⟩
    · have e := KX a o hk
      rw [ha] at e
      cases e
      exact .inr ⟨_, vs.toArray, _, hk, rfl, rfl, rfl, by rw [List.size_toArray, hi.length]; exact hl, by simpa using vals_ints hi⟩
  have e0 : Env0 P w K mg (hidT s₁.heap H) callerA [] s₁ H := ⟨rfl, md, fun b o e => of_hidT e, by rw [hidT_size]; exact Nat.le_refl _, trivial, fun b hb => (by cases hb), hok, .of_eq hgn⟩
  refine codeAny_mono ((F _ kin (frees hns)).go rfl hr e0 (hbind s₁ (.ref a)) (us := [.ref a]) (vs := [.ref a]) (.cons rfl .nil) (hsp H sq)) fun r s' h => ?_
  match r, h with
  | .error e, z => exact (show False from z).elim
  | .ok .next, z => exact (show False from z).elim
  | .ok .brk, z => exact (show False from z).elim
  | .ok .cont, z => exact (show False from z).elim
  | .ok (.ret u), ⟨v, H', os, bare, un, hok', rv, q⟩ =>
    obtain rfl : v = .bl true := q
    cases (show u = Value.bool true from rv)
    refine ⟨rfl, OldK.of_keep fun b o e => ?_, os, bare⟩
    rcases hq : H b with _ | u2
    · exact un.keep b o e hq (fun z => by cases z) (by simp)
    · obtain ⟨rfl, _, rfl⟩ := hsome hq
      have e2 := (hok' b _ (un.frzs b _ _ hq)).1
      rw [ha] at e
      cases e
      exact e2
end
theorem walk_ofG {l : PySem.W.OpenLaw} {n k : Nat} {q : Program} {loose : List Str} {XP : (Str → Option Value) → Heap → Prop} {YP : World → Heap → Prop} {d : DefRec} {x : Str}
    (hn : l.most = some n) (hn2 : n ≤ sizeLine) (hdf : d.params.defaults = []) (hr : Room k callerA)
    (F : ∀ (w : World) (mg : Str → Option Value) (fa : Addr) (h : Heap), YP w h → h.Ns mainGlobals mg → mg d.name = some (.ref fa) → ∃ (K : PySem.W.Frag) (fd : FuncData) (sp : Sp), K.In h ∧ (∀ (s : Shared) (u : Value), BindsTo s fd ⟨[u], []⟩ [(x, u)]) ∧
      (∀ (H : Hp) (a : Addr) (ns : List Int), ns.length ≤ n → SqL K H a (ns.map V.int) → sp [.ref a] H (fun v _ => v = .bl true) fun _ _ _ => False) ∧
      ∀ base : Heap, K.In base → base.Ns mainGlobals mg → FnG l.prog w K mg base k fa fd [x] sp) :
    PySem.W.WalkO q loose XP YP l.row.toRowW d [] (fun f vs => PySem.call f vs) := by
  refine Att.attach_call hn hdf fun w s₀ s₁ mg mb fa o pm cd doc a vs ns G Y _ _ _ hmg hobj hints hlen hg => ?_
  obtain ⟨K, fd, sp, KX, hb, hsp, hF⟩ := F w mg fa _ Y G.T.g hmg
  exact law_callG KX G.T.g G.T.b G.T.builtins G.T.nolimit hg hobj hints (Nat.le_trans hlen hn2) hr hF hb fun H hS => hsp H a ns hlen hS
end TF

/-! TF9.lean -/
set_option Elab.async false
set_option linter.all false
set_option maxRecDepth 100000
/-! TF.9: sets of nested tuples of texts -/
namespace TF
open PySem PySem.Spec PyProof.Rows L2
abbrev KeyAt (P : Program) (w : World) (h : Heap) (p : Addr × NestedKey) : Prop := (nestedKind P w).is h p.2 p.1
section
variable {P : Program} {w : World} {A : Around} {E : Value → Shared → Prop} {s : Shared}
/-! ### what is asked of a key -/
mutual
theorem cls_no : ∀ (k : NestedKey) (v : Value) (n : Nat) {Q : Bool → Shared → Prop}, NestedIs s.heap k v → k.depth ≤ n → Q false s → wpAny (model P w) A (ofAClassStatement n v) Q E s
  | .none, _, n, Q, x, _, q => by cases x; cases n <;> exact wpAny_pure q
  | .num _, _, n, Q, x, _, q => by cases x <;> cases n <;> exact wpAny_pure q
  | .text _, _, n, Q, x, _, q => by cases x; cases n <;> exact wpAny_pure q
  | .tup ks, _, 0, Q, x, d, q => by simp only [NestedKey.depth] at d; omega
  | .tup ks, _, n + 1, Q, x, d, q => by
    simp only [NestedKey.depth] at d
    cases x with
    | @tup a o vs m _ hg hc hd hk =>
      have all := cls_nos ks vs.toList n hk (by omega)
      unfold ofAClassStatement
      refine wpAny_bind (wpAny_typeOf (T := "tuple") ⟨_, hg, hc⟩ ?_)
      dsimp only
      have e : (("tuple" : String) == "tuple") = true := by decide
      simp only [e, if_true, Bool.not_true, Bool.false_eq_true, if_false]
      try refine wpAny_bind (wpAny_pure ?_)
      try simp only [Bool.not_true, Bool.false_eq_true, if_false]
      show wpAny _ _ (seqItems? (.ref a) >>= _) _ _ s
      refine wpAny_bind (wpAny_seqItems hg hd ?_)
      dsimp only
      refine wpAny_bind ?_
      show wpAny _ _ (forIn vs _ _) _ _ s
      rw [← Array.forIn_toList]
      refine wpAny_forIn_list _ (fun rest r s' => r.1 = none ∧ s' = s ∧ ∀ v ∈ rest, v ∈ vs.toList) _ ?_ ?_ _ _ ⟨rfl, rfl, fun v h => h⟩
      · rintro v rest r s' ⟨hr, rfl, hm⟩
        refine wpAny_bind (all v (hm v (by simp)) ?_)
        simp only [Bool.false_eq_true, if_false]
        exact wpAny_pure ⟨rfl, rfl, fun u hu => hm u (List.mem_cons_of_mem _ hu)⟩
      · rintro ⟨r1, r2⟩ s' ⟨hr, rfl, _⟩
        obtain rfl : r1 = none := hr
        exact wpAny_pure q
theorem cls_nos : ∀ (ks : List NestedKey) (vs : List Value) (n : Nat), NestedAll s.heap ks vs → NestedKey.depthAll ks ≤ n → ∀ v ∈ vs, ∀ {Q : Bool → Shared → Prop}, Q false s → wpAny (model P w) A (ofAClassStatement n v) Q E s
  | [], _, n, x, _, v, hv => by cases x; cases hv
  | k :: ks, _, n, x, d, v, hv => by
    simp only [NestedKey.depthAll] at d
    cases x with
    | cons x1 x2 =>
      rcases List.mem_cons.mp hv with rfl | hv
      · exact fun q => cls_no k _ n x1 (by omega) q
      · exact cls_nos ks _ n x2 (by omega) v hv
end
mutual
theorem byv_any : ∀ (k : NestedKey) (v : Value) (n : Nat) {Q : Bool → Shared → Prop}, NestedIs s.heap k v → (∀ b, Q b s) → wpAny (model P w) A (hashByValue n v) Q E s
  | .none, _, n, Q, x, q => by cases x; cases n <;> exact wpAny_pure (q _)
  | .num _, _, n, Q, x, q => by cases x <;> cases n <;> exact wpAny_pure (q _)
  | .text _, _, n, Q, x, q => by cases x; cases n <;> exact wpAny_pure (q _)
  | .tup ks, _, 0, Q, x, q => by cases x; exact wpAny_pure (q _)
  | .tup ks, _, n + 1, Q, x, q => by
    cases x with
    | @tup a o vs m _ hg hc hd hk =>
      have all := byv_anys ks vs.toList n hk
      unfold hashByValue
      refine wpAny_bind (wpAny_specialOf ⟨_, hg, hc⟩ F.slot_tuple_hash.lookup ?_)
      show wpAny _ _ (seqItems? (.ref a) >>= _) _ _ s
      refine wpAny_bind (wpAny_seqItems hg hd ?_)
      refine wpAny_bind ?_
      show wpAny _ _ (forIn vs _ _) _ _ s
      rw [← Array.forIn_toList]
      refine wpAny_forIn_list _ (fun rest r s' => s' = s ∧ (∀ v ∈ rest, v ∈ vs.toList)) _ ?_ ?_ _ _ ⟨rfl, fun v h => h⟩
      · rintro v rest r s' ⟨rfl, hm⟩
        refine wpAny_bind (all v (hm v (by simp)) fun b => ?_)
        cases b
        · simp only [Bool.not_false, if_true]
          exact wpAny_pure (show wpAny _ _ (pure false) Q E _ from wpAny_pure (q _))
        · simp only [Bool.not_true, Bool.false_eq_true, if_false]
          exact wpAny_pure ⟨rfl, fun u hu => hm u (List.mem_cons_of_mem _ hu)⟩
      · rintro ⟨r1, r2⟩ s' ⟨rfl, _⟩
        cases r1 <;> exact wpAny_pure (q _)
theorem byv_anys : ∀ (ks : List NestedKey) (vs : List Value) (n : Nat), NestedAll s.heap ks vs → ∀ v ∈ vs, ∀ {Q : Bool → Shared → Prop}, (∀ b, Q b s) → wpAny (model P w) A (hashByValue n v) Q E s
  | [], _, n, x, v, hv => by cases x; cases hv
  | k :: ks, _, n, x, v, hv => by
    cases x with
    | cons x1 x2 =>
      rcases List.mem_cons.mp hv with rfl | hv
      · exact fun q => byv_any k _ n x1 q
      · exact byv_anys ks _ n x2 v hv
end
/-- a search among such keys is not seen -/
theorem unseen {p : Addr × NestedKey} (hp : KeyAt P w s.heap p) {ys : List Value} (hy : ∀ y ∈ ys, ∃ q : Addr × NestedKey, y = .ref q.1 ∧ KeyAt P w s.heap q) {Q : Bool → Shared → Prop} (h : Q false s) :
    wpAny (model P w) A (searchCouldBeSeen (.ref p.1) ys) Q E s := by
  unfold searchCouldBeSeen
  refine wpAny_bind (wpAny_forIn_list _ (fun rest r s' => (r.1 = none ∧ s' = s) ∧ ∀ y ∈ rest, y ∈ ys) _ ?_ ?_ _ _ ⟨⟨rfl, rfl⟩, fun y h => h⟩)
  · rintro y rest r s' ⟨⟨hr, rfl⟩, hm⟩
    have stay : ∀ u ∈ rest, u ∈ ys := fun u hu => hm u (List.mem_cons_of_mem _ hu)
    obtain ⟨q, rfl, hq⟩ := hy y (hm y (by simp))
    dsimp only
    by_cases hv : (p.1 == q.1 || (carriedByValue (.ref p.1) && carriedByValue (.ref q.1))) = true
    · exact wp_if_pos hv (wpAny_pure ⟨⟨rfl, rfl⟩, stay⟩)
    · refine wp_if_neg hv (wpAny_bind ((nestedKind P w).quiet hp ?_))
      simp only [Bool.not_true, Bool.false_eq_true, if_false]
      refine wpAny_bind ((nestedKind P w).quiet hq ?_)
      simp only [Bool.not_true, Bool.false_eq_true, if_false]
      refine wpAny_bind (cls_no _ _ 8 hp.1 hp.2 ?_)
      simp only [Bool.false_eq_true, if_false]
      refine wpAny_bind (cls_no _ _ 8 hq.1 hq.2 ?_)
      simp only [Bool.false_eq_true, if_false]
      exact wpAny_pure ⟨⟨rfl, rfl⟩, stay⟩
  · rintro ⟨r1, r2⟩ s' ⟨⟨hr, rfl⟩, _⟩
    obtain rfl : r1 = none := hr
    exact wpAny_pure h
end

/-! ### the set -/
abbrev hsh (w : World) (L : List (Addr × NestedKey)) : List Int := L.map fun p => p.2.hash w
def ent (w : World) (p : Addr × NestedKey) : Int × Value := (p.2.hash w, .ref p.1)
structure NSet (P : Program) (w : World) (h : Heap) (a : Addr) (L : List (Addr × NestedKey)) (es : Array (Int × Value)) (ep : Nat) (t : SetTable) : Prop where
  ob : ∃ o, h.get? a = some o ∧ o.ExactSet ∧ o.data = .set es ep t
  rows : es.toList = L.map (ent w)
  tab : TabOk t (hsh w L)
  nd : (L.map (·.2)).Nodup
  key : ∀ p ∈ L, KeyAt P w h p
  led : w.params.followText "set-order" = true ∨ t.led = true
  room : L.length * 5 < t.mask * 3
/-- where the way of h stands behind c steps -/
abbrev stp (m : Nat) (h : Int) (c : Nat) : SetTable.Probe := nth m (runAt m (SetTable.bits h % (m + 1)) (SetTable.bits h)) c
theorem nth_dm (m : Nat) : ∀ (n : Nat) (p : SetTable.Probe), (nth m p n).dummy = p.dummy
  | 0, p => rfl
  | n + 1, p => by
    show (nth m (adv m p) n).dummy = _
    rw [nth_dm m n]
    unfold adv
    split <;> rfl
section
variable {P : Program} {w : World} {A : Around} {E : Value → Shared → Prop} {s : Shared} {a : Addr} {L : List (Addr × NestedKey)} {es : Array (Int × Value)} {ep : Nat} {t : SetTable}
theorem NSet.size {h : Heap} (R : NSet P w h a L es ep t) : es.size = L.length := by
  rw [← Array.length_toList, R.rows, List.length_map]
theorem NSet.psz {h : Heap} (R : NSet P w h a L es ep t) : t.place.size = L.length := R.tab.sz.trans (List.length_map _)
theorem fits_of {n : Nat} (h1 : t.dummies = #[]) (h2 : t.place.size = n) (h3 : n ≤ t.mask) : t.fits n = true := by
  unfold SetTable.fits SetTable.fill
  rw [h1, h2]
  simpa using h3
theorem NSet.fit {h : Heap} (R : NSet P w h a L es ep t) : t.fits es.size = true := fits_of R.tab.dm (R.psz.trans R.size.symm) (by have := R.room; rw [R.size]; omega)
theorem NSet.at {h : Heap} (R : NSet P w h a L es ep t) {i : Nat} {p : Addr × NestedKey} (e : L[i]? = some p) : es[i]? = some (ent w p) := by
  rw [← Array.getElem?_toList, R.rows, List.getElem?_map, e]; rfl
/-- seeking x with the key k: hin where it is, hout where it would stand -/
theorem seek_go (R : NSet P w s.heap a L es ep t) {x : Addr} {k : NestedKey} (hx : KeyAt P w s.heap (x, k)) (hu : A.units + 8 < cLine) {K : Nat} (hf : K < 10 * SetTable.turns t.mask) (hK : way t.mask (k.hash w) K ∉ t.place.toList)
    (hB : ∀ c, c < K → way t.mask (k.hash w) c ∈ t.place.toList) {Q : SetFound → Shared → Prop} (hin : k ∈ L.map (·.2) → Q (.there none) s) (hout : k ∉ L.map (·.2) → Q (.free (way t.mask (k.hash w) K) false) s) :
    ∀ (n c f : Nat) (st : Option SetTable.Probe), K ≤ c + n → c ≤ K → n < f → st.getD (t.probeStart (k.hash w)) = stp t.mask (k.hash w) c →
      (∀ (i : Nat) (p : Addr × NestedKey), L[i]? = some p → p.2 = k → ∃ d, c ≤ d ∧ d < K ∧ t.place.toList[i]? = some (way t.mask (k.hash w) d)) → wpAny (model P w) A (setSearchFrom a (.ref x) (k.hash w) true f st) Q E s := by
  obtain ⟨o, ho, hex, hd⟩ := R.ob
  intro n
  induction n with
  | zero =>
    intro c f st h1 h2 h3 hst left
    obtain rfl : c = K := by omega
    obtain ⟨f, rfl⟩ : ∃ g, f = g + 1 := ⟨f - 1, by omega⟩
    have no : k ∉ L.map (·.2) := fun hm => by
      obtain ⟨p, hp, e⟩ := List.mem_map.mp hm
      obtain ⟨i, hi⟩ := List.mem_iff_getElem?.mp hp
      obtain ⟨d, d1, d2, _⟩ := left i p hi e
      omega
    rw [setSearchFrom_succ]
    refine wpAny_bind (wpAny_setState_of ho hd R.fit ?_)
    dsimp only
    refine wp_if_neg (by unfold SetTable.gaveWay; rw [mask_odd R.tab.mok]; decide) ?_
    try refine wpAny_bind (wpAny_pure ?_)
    have g := go_spec t R.tab.ris R.tab.dm (fun i => (es[i]?.map (·.1)).getD 0) (k.hash w) (10 * SetTable.turns t.mask) 0 (stp t.mask (k.hash w) c) (nth_dm _ _ _) (by omega) (fun q hq => absurd hq (Nat.not_lt_zero _)) hK
    have pr : t.probe (fun i => (es[i]?.map (·.1)).getD 0) (k.hash w) (st.getD (t.probeStart (k.hash w))) = some (.empty (way t.mask (k.hash w) c) none) := by
      rw [hst]
      rcases g with ⟨_, _, z, _⟩ | ⟨_, z⟩
      · exact absurd z (Nat.not_lt_zero _)
      · exact z
    rw [pr]
    exact wpAny_pure (hout no)
  | succ n ih =>
    intro c f st h1 h2 h3 hst left
    obtain ⟨f, rfl⟩ : ∃ g, f = g + 1 := ⟨f - 1, by omega⟩
    rw [setSearchFrom_succ]
    refine wpAny_bind (wpAny_setState_of ho hd R.fit ?_)
    dsimp only
    refine wp_if_neg (by unfold SetTable.gaveWay; rw [mask_odd R.tab.mok]; decide) ?_
    try refine wpAny_bind (wpAny_pure ?_)
    have wy : ∀ q, (nth t.mask (stp t.mask (k.hash w) c) q).j = way t.mask (k.hash w) (c + q) := fun q => congrArg SetTable.Probe.j (nth_add t.mask c _ q).symm
    have g := go_spec t R.tab.ris R.tab.dm (fun i => (es[i]?.map (·.1)).getD 0) (k.hash w) (10 * SetTable.turns t.mask) (K - c) (stp t.mask (k.hash w) c) (nth_dm _ _ _) (by omega) (fun q hq => by rw [wy]; exact hB _ (by omega))
      (by rw [wy, Nat.add_sub_cancel' h2]; exact hK)
    have hat : ∀ (i : Nat) (p : Addr × NestedKey), L[i]? = some p → (es[i]?.map (·.1)).getD 0 = p.2.hash w := fun i p e => by rw [R.at e]; rfl
    rcases g with ⟨q, i, hq, hi, he, hno, hp⟩ | ⟨hno, hp⟩
    · rw [wy] at hi hp
      have pr : t.probe (fun i => (es[i]?.map (·.1)).getD 0) (k.hash w) (st.getD (t.probeStart (k.hash w))) = some (.candidate (way t.mask (k.hash w) (c + q)) i (stp t.mask (k.hash w) (c + (q + 1)))) := by
        have e2 : nth t.mask (stp t.mask (k.hash w) c) (q + 1) = stp t.mask (k.hash w) (c + (q + 1)) := (nth_add t.mask c _ (q + 1)).symm
        rw [e2] at hp
        rw [hst]
        exact hp
      rw [pr]
      dsimp only
      have hil : i < L.length := by
        rw [← R.psz, ← Array.length_toList]
        exact (List.getElem?_eq_some_iff.mp hi).1
      obtain ⟨p, hpi⟩ : ∃ p, L[i]? = some p := ⟨_, List.getElem?_eq_getElem hil⟩
      have hpm := List.mem_of_getElem? hpi
      have body : wpAny (model P w) A (searchRest a (.ref x) (k.hash w) true f es t (way t.mask (k.hash w) (c + q)) i (stp t.mask (k.hash w) (c + (q + 1)))) Q E s := by
        unfold searchRest
        rw [R.at hpi]
        dsimp only [ent]
        refine wpAny_bind (wpAny_holding ((nestedKind P w).eqBool (show A.units + 8 < cLine from hu) (R.key p hpm) hx ?_))
        refine wpAny_bind (wpAny_setState_of ho hd R.fit ?_)
        dsimp only
        by_cases same : p.2 = k
        · refine wp_if_pos (by simp [same]) (wpAny_pure (hin (List.mem_map.mpr ⟨p, hpm, same⟩)))
        · refine wp_if_neg (by simp [same]) ?_
          try refine wpAny_bind (wpAny_pure ?_)
          rw [sameMem]
          dsimp only
          have sl : t.slot (way t.mask (k.hash w) (c + q)) = .live i := slot_live R.tab.ris hi
          simp only [if_true, sl, R.at hpi, ent]
          refine wpAny_bind (wpAny_isSame_ref_self (wpAny_bind (wpAny_pure ?_)))
          simp only [if_true]
          refine wp_if_neg (by simp [same]) (ih (c + (q + 1)) f _ (by omega) (by omega) (by omega) rfl fun i2 p2 e2 k2 => ?_)
          obtain ⟨d, d1, d2, d3⟩ := left i2 p2 e2 k2
          refine ⟨d, Nat.lt_of_not_le fun d4 => ?_, d2, d3⟩
          rcases Nat.lt_or_eq_of_le (show d ≤ c + q by omega) with z | z
          · exact hno (d - c) i2 (by omega) (by rw [wy, Nat.add_sub_cancel' d1]; exact d3) (by show (es[i2]?.map (·.1)).getD 0 = _; rw [hat i2 p2 e2, k2])
          · rw [z] at d3
            have := slot_live R.tab.ris d3
            rw [sl] at this
            injection this with this
            subst this
            rw [hpi] at e2
            cases e2
            exact same k2
      by_cases hl : t.led = true
      · refine wp_if_neg (by simp [hl]) ?_
        try refine wpAny_bind (wpAny_pure ?_)
        exact body
      · refine wp_if_pos (by simp [hl]) (wpAny_bind (unseen hx (fun y hy => ?_) ?_))
        · obtain ⟨e, h1, rfl⟩ := List.mem_map.mp hy
          have h2 : e ∈ es.toList := by
            have : e ∈ es ∧ e.1 = k.hash w := by simpa using h1
            simpa using this.1
          rw [R.rows] at h2
          obtain ⟨p2, h3, rfl⟩ := List.mem_map.mp h2
          exact ⟨p2, rfl, R.key p2 h3⟩
        · refine wp_if_neg (by decide) ?_
          try refine wpAny_bind (wpAny_pure ?_)
          exact body
    · have pr : t.probe (fun i => (es[i]?.map (·.1)).getD 0) (k.hash w) (st.getD (t.probeStart (k.hash w))) = some (.empty (way t.mask (k.hash w) K) none) := by
        rw [wy, Nat.add_sub_cancel' h2] at hp
        rw [hst]
        exact hp
      rw [pr]
      refine wpAny_pure (hout fun hm => ?_)
      obtain ⟨p, hp', e⟩ := List.mem_map.mp hm
      obtain ⟨i, hi⟩ := List.mem_iff_getElem?.mp hp'
      obtain ⟨d, d1, d2, d3⟩ := left i p hi e
      exact hno (d - c) i (by omega) (by rw [wy, Nat.add_sub_cancel' d1]; exact d3) (by show (es[i]?.map (·.1)).getD 0 = _; rw [hat i p hi, e])
theorem seek (R : NSet P w s.heap a L es ep t) {x : Addr} {k : NestedKey} (hx : KeyAt P w s.heap (x, k)) (hu : A.units + 8 < cLine) {Q : SetFound → Shared → Prop} (hin : k ∈ L.map (·.2) → Q (.there none) s)
    (hout : ∀ K, k ∉ L.map (·.2) → way t.mask (k.hash w) K ∉ t.place.toList → (∀ c, c < K → way t.mask (k.hash w) c ∈ t.place.toList) → Q (.free (way t.mask (k.hash w) K) false) s) :
    wpAny (model P w) A (setSearch a (.ref x) (k.hash w) true) Q E s := by
  obtain ⟨K, h1, h2, h3⟩ := R.tab.first (by rw [List.length_map]; have := R.room; omega) (k.hash w)
  have hK : K < 10000 := by
    refine Nat.lt_of_lt_of_le h1 ?_
    unfold SetTable.turns
    rcases R.tab.mok with e | e | e <;> omega
  refine seek_go R hx hu h1 h2 h3 hin (fun hn => hout K hn h2 h3) K 0 100000 none (by omega) (Nat.zero_le _) (by omega) rfl fun i p hi hk => ?_
  have hj : i < t.place.toList.length := by rw [Array.length_toList, R.psz]; exact (List.getElem?_eq_some_iff.mp hi).1
  obtain ⟨d, d1, d2⟩ := R.tab.before (h := k.hash w) (i := i) h2 (by rw [List.getElem?_map, hi, ← hk]; rfl) (List.getElem?_eq_getElem hj)
  exact ⟨d, Nat.zero_le _, d1, by rw [List.getElem?_eq_getElem hj, d2]⟩
/-! ### laying anew, putting in -/
theorem fm_some {α β : Type} {f : α → Option β} {g : α → β} : ∀ {l : List α}, (∀ a ∈ l, f a = some (g a)) → l.filterMap f = l.map g
  | [], _ => rfl
  | a :: l, h => by rw [List.filterMap_cons_some (h a (by simp)), fm_some fun b hb => h b (by simp [hb])]; rfl
theorem fm_range {α : Type} : ∀ l : List α, (List.range l.length).filterMap (fun i => l[i]?) = l
  | [] => rfl
  | x :: l => by
    have e : (List.range (x :: l).length) = 0 :: (List.range l.length).map (· + 1) := by rw [List.length_cons, List.range_succ_eq_map]
    rw [e, List.filterMap_cons_some (f := fun i => (x :: l)[i]?) (b := x) rfl, List.filterMap_map]
    congr 1
    exact fm_range l
theorem key_kept {h h' : Heap} {p : Addr × NestedKey} {o : Obj} (hp : KeyAt P w h p) (ho : h.get? a = some o) (hd : o.data = .set es ep t) (hs : Heap.SameBut a h h') : KeyAt P w h' p :=
  nestedKind_stays.stays (fun b ob vs n e d => (hs.2 b fun z => by rw [z, ho] at e; cases e; rw [hd] at d; cases d).trans e) hp
theorem relay (ob : ∃ o, s.heap.get? a = some o ∧ o.ExactSet ∧ o.data = .set es ep t) (rows : es.toList = L.map (ent w)) (T : TabOk t (hsh w L)) (hfl : L.length ≤ t.mask) (nd : (L.map (·.2)).Nodup) (key : ∀ p ∈ L, KeyAt P w s.heap p)
    (led : w.params.followText "set-order" = true ∨ t.led = true) {wanted M : Nat} (hw : SetTable.sizeAbove wanted - 1 = M) (hM : MaskOk M) (hw2 : SetTable.sizeAbove wanted ≤ 128) (hn : L.length * 5 < M * 3) {Q : Unit → Shared → Prop}
    (hQ : ∀ h' L' es' ep' t', Heap.SameBut a s.heap h' → NSet P w h' a L' es' ep' t' → L'.Perm L → Q () { s with heap := h' }) : wpAny (model P w) A (setRelay a wanted) Q E s := by
  obtain ⟨o, ho, hex, hd⟩ := ob
  have hl : es.size = L.length := by rw [← Array.length_toList, rows, List.length_map]
  have hp := T.sz.trans (List.length_map (as := L) _)
  obtain ⟨t', od, e, pm, T', em, el, _, _⟩ := relaid_ok t (hs := es.map (·.1)) (wanted := wanted) hw hM (by rw [Array.size_map, hl]; omega)
  rw [Array.size_map, hl] at pm
  have inL : ∀ i ∈ od.toList, i < L.length := fun i hi => List.mem_range.mp (pm.mem_iff.mp hi)
  have at' : ∀ i, es[i]? = (L[i]?).map (ent w) := fun i => by rw [← Array.getElem?_toList, rows, List.getElem?_map]
  have r1 : (od.filterMap (es[·]?)).toList = (od.toList.filterMap (fun i => L[i]?)).map (ent w) := by
    rw [Array.toList_filterMap, List.map_filterMap]
    congr 1
    funext i
    exact at' i
  have r2 : (od.toList.filterMap (fun i => L[i]?)).Perm L := by
    have := pm.filterMap fun i => L[i]?
    rwa [fm_range] at this
  have r3 : hsh w (od.toList.filterMap (fun i => L[i]?)) = od.toList.map fun i => (es.map (·.1)).getD i 0 := by
    show (od.toList.filterMap (fun i => L[i]?)).map _ = _
    rw [List.map_filterMap]
    refine fm_some fun i hi => ?_
    have e1 : (es.map (·.1))[i]? = (L[i]?).map fun p => p.2.hash w := by rw [Array.getElem?_map, at', Option.map_map]; rfl
    rw [Array.getD_eq_getD_getElem?, e1, List.getElem?_eq_getElem (inL i hi)]; rfl
  rw [← r3] at T'
  have hs2 : (od.filterMap (es[·]?)).size = L.length := by rw [← Array.length_toList, r1, List.length_map, r2.length_eq]
  rw [setRelay_eq]
  refine wpAny_bind (wpAny_setState_of ho hd (fits_of T.dm (hp.trans hl.symm) (by omega)) ?_)
  dsimp only
  refine wp_if_neg (by rw [sizeLine_eq]; omega) ?_
  try refine wpAny_bind (wpAny_pure ?_)
  rw [e]
  dsimp only
  refine wpAny_bind (wp_if_neg (by rw [hs2, hl]; simp) ?_)
  try refine wpAny_bind (wpAny_pure ?_)
  refine wpAny_pure ?_
  dsimp only
  have small : L.length ≤ sizeLine := by rw [sizeLine_eq]; rcases hM with z | z | z <;> omega
  refine wpAny_storeSet_of ho hd ?_ (by rw [hs2]; exact small)
  have sb : Heap.SameBut a s.heap (s.heap.update a (Obj.putSet (od.filterMap (es[·]?)) t')) := Heap.SameBut.update ..
  exact hQ _ _ _ (ep + 1) t' sb ⟨⟨_, store_at ho hd, ⟨hex.1, hex.2.1, hex.2.2⟩, rfl⟩, r1, T', (r2.map (·.2)).nodup_iff.mpr nd, fun p hp => key_kept (key p (r2.mem_iff.mp hp)) ho hd sb, by rw [el]; exact led, by rw [r2.length_eq, em]; exact hn⟩ r2
theorem put_in (R : NSet P w s.heap a L es ep t) {x : Addr} {k : NestedKey} (hx : KeyAt P w s.heap (x, k)) (hu : A.units + 8 < cLine) (hfew : k ∉ L.map (·.2) → L.length + 1 ≤ 76) {Q : Bool → Shared → Prop}
    (hQ : ∀ b h' L' es' ep' t', Heap.SameBut a s.heap h' → NSet P w h' a L' es' ep' t' → (k ∈ L.map (·.2) → L' = L) → (k ∉ L.map (·.2) → L'.Perm ((x, k) :: L)) → Q b { s with heap := h' }) :
    wpAny (model P w) A (setAddHashed a (.ref x) (k.hash w)) Q E s := by
  obtain ⟨o, ho, hex, hd⟩ := R.ob
  unfold setAddHashed
  refine wpAny_holding ?_
  rw [show (100000 : Nat) = 99999 + 1 from rfl, setAddHashedIn_succ]
  refine wpAny_bind (wpAny_setState_of ho hd R.fit ?_)
  dsimp only
  refine wp_if_neg (by simp [byScan, Value.scannable]) ?_
  try refine wpAny_bind (wpAny_pure ?_)
  refine wpAny_bind (seek R hx hu (fun hm => ?_) fun K hm hK hB => ?_)
  · exact wpAny_pure (hQ false s.heap L es ep t (Heap.SameBut.refl a s.heap) R (fun _ => rfl) fun z => absurd hm z)
  dsimp only
  have few := hfew hm
  refine wpAny_bind (wpAny_setState_of ho hd R.fit ?_)
  dsimp only
  obtain ⟨q1, q2, T1, q4, q5, _, _, _, q9⟩ := R.tab.put hK hB
  generalize hpt : t.put (way t.mask (k.hash w) K) = pt at q1 T1 q4 q5 q9 ⊢
  obtain ⟨t1, p⟩ := pt
  dsimp only at q1 T1 q4 q5 q9 ⊢
  rw [← q1] at q2 T1
  -- whether it is carried by value does not matter
  suffices rest : ∀ bv : Bool, wpAny (model P w) A ((do
      storeSet a (SetTable.insertAt es p (k.hash w, Value.ref x)) (if bv = true then t1 else { t1 with plain := false })
      if (!false && (if bv = true then t1 else { t1 with plain := false }).tooFull) = true then do
        setRelay a (SetTable.grown (es.size + 1))
        pure true
      else pure true : Sem Bool)) Q E s by
    by_cases hpl : t1.plain = true
    · rw [if_pos hpl]
      exact wpAny_bind (byv_any _ _ 8 hx.1 rest)
    · rw [if_neg hpl]
      exact wpAny_bind (wpAny_pure (rest true))
  intro bv
  have pm : (L.take p ++ (x, k) :: L.drop p).Perm ((x, k) :: L) := by
    have z : (L.take p ++ (x, k) :: L.drop p).Perm ((x, k) :: (L.take p ++ L.drop p)) := List.perm_middle
    rwa [List.take_append_drop] at z
  have hl1 : (L.take p ++ (x, k) :: L.drop p).length = L.length + 1 := pm.length_eq
  have rows1 : (SetTable.insertAt es p (k.hash w, .ref x)).toList = (L.take p ++ (x, k) :: L.drop p).map (ent w) := by
    rw [SetTable.toList_insertAt, R.rows, List.map_append, List.map_cons, List.map_take, List.map_drop]; rfl
  have T2 : TabOk t1 (hsh w (L.take p ++ (x, k) :: L.drop p)) := by
    have z : hsh w (L.take p ++ (x, k) :: L.drop p) = (hsh w L).take p ++ k.hash w :: (hsh w L).drop p := by
      show (L.take p ++ (x, k) :: L.drop p).map _ = _
      rw [List.map_append, List.map_cons, List.map_take, List.map_drop]
    rw [z]
    exact T1
  have nd1 : ((L.take p ++ (x, k) :: L.drop p).map (·.2)).Nodup := (pm.map (·.2)).nodup_iff.mpr (by rw [List.map_cons]; exact List.nodup_cons.mpr ⟨hm, R.nd⟩)
  have hes : (SetTable.insertAt es p (k.hash w, Value.ref x)).size = L.length + 1 := by rw [← Array.length_toList, rows1, List.length_map, hl1]
  have key1 : ∀ q ∈ L.take p ++ (x, k) :: L.drop p, KeyAt P w s.heap q := fun q hq => by
    rcases List.mem_cons.mp (pm.mem_iff.mp hq) with rfl | z
    · exact hx
    · exact R.key q z
  generalize SetTable.insertAt es p (k.hash w, Value.ref x) = es1 at rows1 hes ⊢
  generalize L.take p ++ (x, k) :: L.drop p = L1 at pm hl1 rows1 T2 nd1 key1
  -- the flag
  have T3 : ∀ t2 : SetTable, t2 = (if bv = true then t1 else { t1 with plain := false }) → TabOk t2 (hsh w L1) ∧ t2.mask = t.mask ∧ t2.led = t.led ∧ t2.fill = L.length + 1 := fun t2 e => by
    have hf : t1.fill = L.length + 1 := by rw [q9, List.length_map]
    cases bv
    · subst e
      exact ⟨⟨T2.ris, T2.dm, T2.sz, T2.mok, T2.bd, T2.reach⟩, q4, q5, hf⟩
    · subst e
      exact ⟨T2, q4, q5, hf⟩
  generalize h2 : (if bv = true then t1 else { t1 with plain := false }) = t2 at ⊢
  obtain ⟨T4, m4, l4, f4⟩ := T3 t2 h2.symm
  have led2 : w.params.followText "set-order" = true ∨ t2.led = true := by rw [l4]; exact R.led
  have room := R.room
  refine wpAny_bind (wpAny_storeSet_of ho hd ?_ (by rw [hes, sizeLine_eq]; omega))
  have sb : Heap.SameBut a s.heap (s.heap.update a (Obj.putSet es1 t2)) := Heap.SameBut.update ..
  have ho1 := store_at (es' := es1) (t' := t2) ho hd
  have key2 : ∀ q ∈ L1, KeyAt P w (s.heap.update a (Obj.putSet es1 t2)) q := fun q hq => key_kept (key1 q hq) ho hd sb
  generalize s.heap.update a (Obj.putSet es1 t2) = h1 at sb ho1 key2 ⊢
  have full : t2.tooFull = true ↔ t.mask * 3 ≤ (L.length + 1) * 5 := by
    unfold SetTable.tooFull
    rw [decide_eq_true_eq, f4, m4]
  by_cases hf : t2.tooFull = true
  · have hfull := full.mp hf
    have two : (t.mask = 7 ∧ L.length = 4) ∨ (t.mask = 31 ∧ L.length = 18) := by rcases R.tab.mok with e | e | e <;> rw [e] at hfull room <;> first | exact .inl ⟨e, by omega⟩ | exact .inr ⟨e, by omega⟩ | omega
    have go : ∀ M, SetTable.sizeAbove (SetTable.grown (L.length + 1)) - 1 = M → MaskOk M → SetTable.sizeAbove (SetTable.grown (L.length + 1)) ≤ 128 → (L.length + 1) * 5 < M * 3 →
        wpAny (model P w) A (setRelay a (SetTable.grown (L.length + 1))) (fun _ s' => wpAny (model P w) A (pure true) Q E s') E { s with heap := h1 } := fun M m1 m2 m3 m4' => by
      refine relay (s := { s with heap := h1 }) ⟨_, ho1, ⟨hex.1, hex.2.1, hex.2.2⟩, rfl⟩ rows1 T4 (by rw [hl1, m4]; rcases two with ⟨e, e2⟩ | ⟨e, e2⟩ <;> omega) nd1 key2 led2 m1 m2 m3 (by rw [hl1]; exact m4') fun h3 L3 es3 ep3 t3 sb3 R3 pm3 => ?_
      exact wpAny_pure (hQ true h3 L3 es3 ep3 t3 (sb.trans sb3) R3 (fun z => absurd z hm) fun _ => pm3.trans pm)
    rw [R.size]
    have fin : wpAny (model P w) A (setRelay a (SetTable.grown (L.length + 1))) (fun _ s' => wpAny (model P w) A (pure true) Q E s') E { s with heap := h1 } := by
      rcases two with ⟨_, e2⟩ | ⟨_, e2⟩
      · exact go 31 (by rw [e2, size_20]) (.inr (.inl rfl)) (by rw [e2, size_20]; decide) (by omega)
      · exact go 127 (by rw [e2, size_76]) (.inr (.inr rfl)) (by rw [e2, size_76]; decide) (by omega)
    first
      | exact wpAny_bind (wp_if_pos (by simp [hf]) fin)
      | exact wp_if_pos (by simp [hf]) (wpAny_bind fin)
  · have nf : ¬ (t.mask * 3 ≤ (L.length + 1) * 5) := fun z => hf (full.mpr z)
    have fin : wpAny (model P w) A (pure true) Q E { s with heap := h1 } := wpAny_pure (hQ true h1 L1 es1 (ep + 1) t2 sb ⟨⟨_, ho1, ⟨hex.1, hex.2.1, hex.2.2⟩, rfl⟩, rows1, T4, nd1, key2, led2, by rw [hl1, m4]; omega⟩ (fun z => absurd z hm) fun _ => pm)
    first
      | exact wp_if_neg (by simp [hf]) fin
      | exact wpAny_bind (wp_if_neg (by simp [hf]) (wpAny_pure fin))
end
end TF

/-! TFA.lean -/
set_option Elab.async false
set_option linter.all false
set_option maxRecDepth 100000
/-! TF.A: sorted(set(xs)) of nested tuples of texts -/
namespace TF
open PySem PySem.Spec PyProof.Rows L2
/-- the set holds just what stands among the first i -/
structure Has (ks : List (Addr × NestedKey)) (i : Nat) (L : List (Addr × NestedKey)) : Prop where
  sub : ∀ p ∈ L, p ∈ ks.take i
  all : ∀ p ∈ ks.take i, p.2 ∈ L.map (·.2)
theorem take_snoc {α : Type} {l : List α} {i : Nat} {x : α} (h : l[i]? = some x) : l.take (i + 1) = l.take i ++ [x] := by rw [List.take_add_one, h]; rfl
section
variable {P : Program} {w : World} {A : Around} {R : Result → Shared → Prop} {I : Addr} {fp wr : List Addr} {G : Array GenState → Array GenState → Prop} {n : Nat} {Pv : Nat → Value → Prop} {St : Nat → Shared → Prop}
theorem loopN (W : WalksS P w A.in1 I fp wr G n Pv St) (S : Addr) (hSf : S ∉ fp) (ks : List (Addr × NestedKey)) (hn : n = ks.length) (hval : ∀ i v, Pv i v → ∃ p, ks[i]? = some p ∧ v = .ref p.1)
    (hfew : ∀ L : List (Addr × NestedKey), (L.map (·.2)).Nodup → (∀ p ∈ L, p ∈ ks) → L.length ≤ 76) (h0 : Heap) (hk : ∀ p ∈ ks, KeyAt P w h0 p) (hS0 : h0.get? S = none) (hw0 : ∀ b ∈ wr, h0.get? b = none) (hu : A.in1.units + 8 < cLine) :
    ∀ (m i : Nat) (s : Shared), i + m = n → St i s → (∀ b o, h0.get? b = some o → s.heap.get? b = some o) → (∃ L es ep t, NSet P w s.heap S L es ep t ∧ Has ks i L) →
      (∀ s' L es ep t, Moved (S :: wr) G s s' → NSet P w s'.heap S L es ep t → Has ks n L → (∀ b o, h0.get? b = some o → s'.heap.get? b = some o) → R (.ok (.ret .none)) s') →
      codeAny (model P w) A (.builtin "set.update.loop" ⟨[.ref S, .ref I], []⟩) R s := by
  have out : S ∉ wr := fun h => hSf (W.sub _ h)
  have more : ∀ b ∈ wr, b ∈ S :: wr := fun b hb => by simp [hb]
  have stay : ∀ {s s' : Shared}, Moved wr G s s' → (∀ b o, h0.get? b = some o → s.heap.get? b = some o) → ∀ b o, h0.get? b = some o → s'.heap.get? b = some o := fun mv kp b o e => mv.heap b o (fun hb => by have := hw0 b hb; rw [e] at this; cases this) (kp b o e)
  have keyK : ∀ {h : Heap} {p : Addr × NestedKey}, p ∈ ks → (∀ b o, h0.get? b = some o → h.get? b = some o) → KeyAt P w h p := fun hp kp => nestedKind_stays.stays (fun b o _ _ e _ => kp b o e) (hk _ hp)
  have moved : ∀ {s s' : Shared} {i : Nat} {L es ep t}, Moved wr G s s' → NSet P w s.heap S L es ep t → Has ks i L → (∀ b o, h0.get? b = some o → s'.heap.get? b = some o) → NSet P w s'.heap S L es ep t := fun mv N g kp => by
    obtain ⟨o, ho, r⟩ := N.ob
    exact ⟨⟨o, mv.heap S o out ho, r⟩, N.rows, N.tab, N.nd, fun p hp => keyK (List.mem_of_mem_take (g.sub p hp)) kp, N.led, N.room⟩
  intro m
  induction m with
  | zero =>
    rintro i s hi hst kp ⟨L, es, ep, t, N, g⟩ hR
    obtain rfl : i = n := by omega
    refine codeAny_builtin PyProof.Rows.F.entry_set_update_loop ?_
    rw [Around.under_plainId PyProof.Rows.F.plain_set_update_loop _]
    show wpAny _ A.in1 (pyNext (.ref I) >>= _) _ _ s
    refine wpAny_bind (W.done s _ _ hst fun s' mv => ?_)
    have kp' := stay mv kp
    show wpAny _ A.in1 (ret Value.none) _ _ s'
    exact wpAny_pure (hR s' L es ep t (mv.mono more) (moved mv N g kp') g kp')
  | succ m ih =>
    rintro i s hi hst kp ⟨L, es, ep, t, N, g⟩ hR
    refine codeAny_builtin PyProof.Rows.F.entry_set_update_loop ?_
    rw [Around.under_plainId PyProof.Rows.F.plain_set_update_loop _]
    show wpAny _ A.in1 (pyNext (.ref I) >>= _) _ _ s
    refine wpAny_bind (W.item i s _ _ (by omega) hst fun v s' hP hst' mv => ?_)
    obtain ⟨⟨x, k⟩, hp, rfl⟩ := hval i v hP
    have kp' := stay mv kp
    have hx : KeyAt P w s'.heap (x, k) := keyK (List.mem_of_getElem? hp) kp'
    have N1 := moved mv N g kp'
    show wpAny _ A.in1 (holding [Value.ref x] (setAdd S (.ref x)) >>= _) _ _ s'
    refine wpAny_bind (wpAny_holding ?_)
    unfold setAdd
    refine wpAny_holding (wpAny_bind ((nestedKind P w).pyHash (show A.in1.units + 8 < cLine from hu) hx ?_))
    refine put_in (s := { s' with toks := s'.toks + (nestedKind P w).draws k }) N1 hx hu (fun hm => ?_) fun b h' L' es' ep' t' sb N' c1 c2 => ?_
    · refine hfew ((x, k) :: L) (by rw [List.map_cons]; exact List.nodup_cons.mpr ⟨hm, N.nd⟩) fun p hpm => ?_
      rcases List.mem_cons.mp hpm with rfl | z
      · exact List.mem_of_getElem? hp
      · exact List.mem_of_mem_take (g.sub p z)
    have g' : Has ks (i + 1) L' := by
      refine ⟨fun p hpm => ?_, fun p hpm => ?_⟩
      · rw [take_snoc hp, List.mem_append, List.mem_singleton]
        by_cases hm : k ∈ L.map (·.2)
        · rw [c1 hm] at hpm; exact .inl (g.sub p hpm)
        · rcases List.mem_cons.mp ((c2 hm).mem_iff.mp hpm) with z | z
          · exact .inr z
          · exact .inl (g.sub p z)
      · rw [take_snoc hp, List.mem_append, List.mem_singleton] at hpm
        by_cases hm : k ∈ L.map (·.2)
        · rw [c1 hm]
          rcases hpm with z | rfl
          · exact g.all p z
          · exact hm
        · rw [((c2 hm).map (·.2)).mem_iff, List.map_cons, List.mem_cons]
          rcases hpm with z | rfl
          · exact .inr (g.all p z)
          · exact .inl rfl
    have kp2 : ∀ b o, h0.get? b = some o → h'.get? b = some o := fun b o e => (sb.2 b fun z => by rw [z, hS0] at e; cases e).trans (kp' b o e)
    refine wpAny_pure ⟨plainId_quiet PyProof.Rows.F.plain_set_update_loop _, ih (i + 1) _ (by omega) (W.frame _ s' _ _ hst' (Nat.le_add_right _ _) fun b hb o e => ?_) kp2 ⟨L', es', ep', t', N', g'⟩ fun s2 L2 es2 ep2 t2 mv2 N2 g2 kp3 => ?_⟩
    · rw [sb.2 b fun z => hSf (by rw [← z]; exact hb)]; exact e
    · refine hR s2 L2 es2 ep2 t2 (Moved.trans W.gtrans ((mv.mono more).then_heap (Nat.le_add_right _ _) fun b o hb e => ?_) mv2) N2 g2 kp3
      rw [sb.2 b fun z => hb (by rw [z]; exact List.mem_cons_self)]; exact e
end
section
variable {P : Program} {w : World} {A : Around} {E : Value → Shared → Prop} {s : Shared}
theorem nset_new {h : Heap} {a : Addr} (ho : h.get? a = some { cls := .type "set", dict := none, data := .set #[] 0 (.fresh 0 0 (!w.params.followText "set-order")) }) : NSet P w h a [] #[] 0 (.fresh 0 0 (!w.params.followText "set-order")) where
  ob := ⟨_, ho, ⟨rfl, rfl, rfl⟩, rfl⟩
  rows := rfl
  tab := ⟨List.Pairwise.nil, rfl, rfl, .inl rfl, fun x hx => (by cases hx), fun i h j hi => (by simp [hsh] at hi)⟩
  nd := List.nodup_nil
  key := fun p hp => (by cases hp)
  led := by
    show _ ∨ (!w.params.followText "set-order") = true
    cases w.params.followText "set-order"
    · exact .inr rfl
    · exact .inl rfl
  room := by
    show 0 * 5 < 7 * 3
    decide
set_option maxHeartbeats 3200000 in
/-- set(xs) -/
theorem call_setN {l : Addr} {items : Array Value} {T : String} (hT : T = "list" ∨ T = "tuple") (ks : List (Addr × NestedKey)) {Q : Value → Shared → Prop} (hh : A.handled = none) (hl : ∃ o n, s.heap.get? l = some o ∧ o.cls = .type T ∧ o.data = .seq items n) (hit : items.toList = ks.map fun p => Value.ref p.1)
    (hk : ∀ p ∈ ks, KeyAt P w s.heap p) (hfew : ∀ L : List (Addr × NestedKey), (L.map (·.2)).Nodup → (∀ p ∈ L, p ∈ ks) → L.length ≤ 76) (hu : A.units + 16 < cLine)
    (h : ∀ (h' : Heap) (tk : Nat) L es ep t, NSet P w h' s.heap.objs.size L es ep t → Has ks ks.length L → (∀ b o, s.heap.get? b = some o → h'.get? b = some o) → Q (.ref s.heap.objs.size) { s with heap := h', toks := tk }) :
    wpAny (model P w) A (call (.type "set") [.ref l]) Q E s := by
  have isz : items.size = ks.length := by rw [← Array.length_toList, hit, List.length_map]
  obtain ⟨c, tl, hmro⟩ := PySem.F.called_set.mro
  have hmade := PySem.F.called_set.made
  have hsub := PySem.F.called_set.sub
  refine wpAny_call (codeAny_of_tree ?_)
  show wpAny _ _ (callAny (.type "set") _) _ _ _
  refine wpAny_pure ⟨Code.quiet_builtin _ (by decide +kernel), codeAny_builtin PySem.F.entry_type_call ?_⟩
  rw [Around.under_plain (weight_type_call_type "set" [.ref l] []) rfl]
  have h1 := PySem.F.called_set.notType
  have h2 := PySem.F.called_set.canCreate
  have hct := PySem.F.typeCall_set_1 (.ref l)
  repeat (any_goals (first | assumption | wp_step))
  generalize hld : (!w.params.followText "set-order") = led
  refine codeAny_mono (code_set_led1 (.ref l) (E := E) (Q₁ := fun obj s₁ => obj = .ref s.heap.objs.size ∧ s₁ = { s with heap := s.heap.push { cls := .type "set", dict := none, data := .set #[] 0 (.fresh 0 0 led) } }) ⟨rfl, by rw [hld]⟩) fun r s₁ hr => ?_
  cases r with
  | error e => exact hr
  | ok fl =>
    cases fl with
    | ret obj =>
      obtain ⟨rfl, rfl⟩ := hr
      have hS : (s.heap.push { cls := .type "set", dict := none, data := .set #[] 0 (.fresh 0 0 led) }).get? s.heap.objs.size = some { cls := .type "set", dict := none, data := .set #[] 0 (.fresh 0 0 led) } := Heap.get?_push_size _ rfl
      have hTy : Shared.TypeIs { s with heap := s.heap.push { cls := .type "set", dict := none, data := .set #[] 0 (.fresh 0 0 led) } } (.ref s.heap.objs.size) "set" := ⟨_, hS, rfl⟩
      have hli := PySem.F.called_set.init.lookup
      have hbi := PySem.F.called_set.init.bind (.ref s.heap.objs.size)
      repeat (any_goals (first | assumption | wp_step))
      refine codeAny_mono (codeAny_call_builtin (R := wants (fun r s₂ => r = .none ∧ ∃ h' tk L es ep t, s₂ = { s with heap := h', toks := tk } ∧ NSet P w h' s.heap.objs.size L es ep t ∧ Has ks ks.length L ∧ (∀ b o, s.heap.get? b = some o → h'.get? b = some o)) E)
        PySem.F.called_set.init.plain PySem.F.entry_set_init (check_set_init_1 hTy ?_)) fun r₂ s₂ hr₂ => ?_
      · obtain ⟨ol, nl, hol, hcl, hdl⟩ := hl
        have hlS : l < s.heap.objs.size := Heap.lt_size hol
        have hh3 : A.in1.in1.in1.handled = none := by simp [hh]
        have hz : (s.heap.push { cls := .type "set", dict := none, data := .set #[] 0 (.fresh 0 0 led) }).objs.size = s.heap.objs.size + 1 := Heap.size_push ..
        have hneI : l ≠ (s.heap.push { cls := .type "set", dict := none, data := .set #[] 0 (.fresh 0 0 led) }).objs.size := by rw [hz]; exact Nat.ne_of_lt (Nat.lt_succ_of_lt hlS)
        have hSf : s.heap.objs.size ∉ [(s.heap.push { cls := .type "set", dict := none, data := .set #[] 0 (.fresh 0 0 led) }).objs.size, l] := by
          rw [hz]
          simp only [List.mem_cons, List.not_mem_nil, or_false, not_or]
          exact ⟨Nat.ne_of_lt (Nat.lt_succ_self _), Nat.ne_of_gt hlS⟩
        have nn : ∀ b, s.heap.objs.size ≤ b → s.heap.get? b = none := fun b hb => Heap.get?_none_of_le hb
        have hval : ∀ (i : Nat) (v : Value), items[i]? = some v → ∃ p, ks[i]? = some p ∧ v = .ref p.1 := fun i v hv => by
          rw [← Array.getElem?_toList, hit, List.getElem?_map] at hv
          obtain ⟨p, hp, e⟩ := Option.map_eq_some_iff.mp hv
          exact ⟨p, hp, e.symm⟩
        rcases hT with rfl | rfl
        · obtain ⟨ocls, odict, odata, oslots⟩ := ol
          simp only at hcl hdl
          subst hcl; subst hdl
          have hol' : (s.heap.push { cls := .type "set", dict := none, data := .set #[] 0 (.fresh 0 0 led) }).get? l = some { cls := .type "list", dict := odict, data := .seq items nl, slots := oslots } := Heap.get?_push_of_some _ hol
          have hsls := PySem.F.sub_list_set
          have hslf := PySem.F.sub_list_frozenset
          have hne : (Value.type "list" == Value.type "dict") = false := by decide
          have hl1 : (s.heap.push { cls := .type "set", dict := none, data := .set #[] 0 (.fresh 0 0 led) }).IsList l items := ⟨_, hol', rfl, nl, rfl⟩
          unfold Builtin.«set.__init__» noKeywords Builtin.Frozenset.updateFrom
          generalize hPI : pyIter = PI
          wp_walk
          subst hPI
          refine wpAny_pyIter_list hl1 ?_
          refine wpAny_bind (wpAny_runValue ?_)
          refine loopN ((Walks.list hh3 _ l hneI items).toS) s.heap.objs.size hSf ks isz hval hfew s.heap hk (nn _ (Nat.le_refl _)) (fun b hb => nn b (by rw [List.mem_singleton.mp hb, hz]; exact Nat.le_succ _)) (by show A.units + 1 + 1 + 1 + 8 < cLine; omega)
            items.size 0 _ (by omega) ⟨⟨_, Heap.get?_push_size _ rfl, rfl, rfl⟩, (hl1.push _)⟩ (fun b o e => Heap.get?_push_of_some _ (Heap.get?_push_of_some _ e)) ?_ ?_
          · refine ⟨[], #[], 0, _, nset_new (Heap.get?_push_of_some _ (by rw [hld]; exact hS)), ⟨fun p hp => (by cases hp), fun p hp => (by simp at hp)⟩⟩
          · intro s' L es ep t mv N g kp
            obtain ⟨h', g2, d', tk', os'⟩ := s'
            have eg : g2 = s.gens := mv.gens
            have ed : d' = s.drawn := mv.drawn
            have eo : os' = s.os := mv.os
            subst eg; subst ed; subst eo
            show wpAny _ _ _ _ _ _
            refine wpAny_pure ?_
            show wpAny _ _ (ret Value.none) _ _ _
            rw [isz] at g
            exact wpAny_pure ⟨rfl, h', tk', L, es, ep, t, rfl, N, g, kp⟩
        · obtain ⟨ocls, odict, odata, oslots⟩ := ol
          simp only at hcl hdl
          subst hcl; subst hdl
          have hol' : (s.heap.push { cls := .type "set", dict := none, data := .set #[] 0 (.fresh 0 0 led) }).get? l = some { cls := .type "tuple", dict := odict, data := .seq items nl, slots := oslots } := Heap.get?_push_of_some _ hol
          have hsls := PySem.F.sub_tuple_set
          have hslf := PySem.F.sub_tuple_frozenset
          have hne : (Value.type "tuple" == Value.type "dict") = false := by decide
          have hl1 : (s.heap.push { cls := .type "set", dict := none, data := .set #[] 0 (.fresh 0 0 led) }).IsTuple l items := ⟨_, hol', rfl, nl, rfl⟩
          unfold Builtin.«set.__init__» noKeywords Builtin.Frozenset.updateFrom
          generalize hPI : pyIter = PI
          wp_walk
          subst hPI
          refine wpAny_pyIter_tuple hl1 ?_
          refine wpAny_bind (wpAny_runValue ?_)
          refine loopN ((Walks.tuple hh3 _ l hneI items).toS) s.heap.objs.size hSf ks isz hval hfew s.heap hk (nn _ (Nat.le_refl _)) (fun b hb => nn b (by rw [List.mem_singleton.mp hb, hz]; exact Nat.le_succ _)) (by show A.units + 1 + 1 + 1 + 8 < cLine; omega)
            items.size 0 _ (by omega) ⟨⟨_, Heap.get?_push_size _ rfl, rfl, rfl⟩, (hl1.push _)⟩ (fun b o e => Heap.get?_push_of_some _ (Heap.get?_push_of_some _ e)) ?_ ?_
          · refine ⟨[], #[], 0, _, nset_new (Heap.get?_push_of_some _ (by rw [hld]; exact hS)), ⟨fun p hp => (by cases hp), fun p hp => (by simp at hp)⟩⟩
          · intro s' L es ep t mv N g kp
            obtain ⟨h', g2, d', tk', os'⟩ := s'
            have eg : g2 = s.gens := mv.gens
            have ed : d' = s.drawn := mv.drawn
            have eo : os' = s.os := mv.os
            subst eg; subst ed; subst eo
            show wpAny _ _ _ _ _ _
            refine wpAny_pure ?_
            show wpAny _ _ (ret Value.none) _ _ _
            rw [isz] at g
            exact wpAny_pure ⟨rfl, h', tk', L, es, ep, t, rfl, N, g, kp⟩
      · cases r₂ with
        | error e => exact hr₂
        | ok fl₂ =>
          cases fl₂ with
          | ret r =>
            obtain ⟨rfl, h', tk, L, es, ep, t, rfl, N, g, kp⟩ := hr₂
            repeat (any_goals (first | assumption | wp_step))
            exact h _ _ _ _ _ _ N g kp
          | _ => exact hr₂.elim
    | _ => exact hr.elim
end
end TF

/-! TFB.lean -/
set_option Elab.async false
set_option linter.all false
set_option maxRecDepth 100000
/-! TF.B: sorted of tuples, empty ones among them -/
namespace TF
open PySem PySem.Spec PyProof.Rows L2 PySem.SeqAt
section
variable {prog : Program} {w : World} {A : Around} {E : Value → Shared → Prop} {s : Shared}
def nonE : PyData → Bool
  | .tuple (_ :: _) => true
  | _ => false
/-- one tuple against another, both ways of asking -/
theorem oneLt_tup {f : Bool} {xs ys : List PyData} {a b : Value} {as bs : List Addr} {Q : Bool → Shared → Prop} (ra : Reads s.heap a (.tuple xs) as) (rb : Reads s.heap b (.tuple ys) bs) (h : PySem.W.alikeAll xs ys = true)
    (hu : A.units + min (PyData.tuple xs).depth (PyData.tuple ys).depth < cLine) (hq : Q (PySem.W.dataLt (.tuple xs) (.tuple ys)) s) : wpAny (model prog w) A (oneLt' f a b) Q E s := by
  cases f with
  | false => exact PySem.W.oneLt_alike (fun z => by cases z) ra rb (by simpa [PySem.W.alike] using h) (by simp) hu hq
  | true =>
    cases ra with
    | @tuple l o vs n _ _ h1 h2 h3 h4 =>
    cases rb with
    | @tuple l' o' vs' n' _ _ k1 k2 k3 k4 =>
    have e1 : vs.size = xs.length := by simpa using ReadsAll.length _ _ _ h4
    have e2 : vs'.size = ys.length := by simpa using ReadsAll.length _ _ _ k4
    rw [PySem.W.dataLt_tuple, ← PySem.W.firstLt_toks xs ys h, ← e1, ← e2] at hq
    obtain ⟨cls, dd, data, sl⟩ := o
    obtain ⟨cls', dd', data', sl'⟩ := o'
    simp only at h2 h3 k2 k3
    subst h2; subst h3; subst k2; subst k3
    rw [oneLt'_eq]
    simp only [if_true]
    refine wpAny_bind (wpAny_cRoomFor (room_here hu) (wpAny_bind (wpAny_callSpecialIfBound?_slot (T := "tuple") ⟨_, h1, rfl⟩ PySem.F.slot_tuple_lt ?_)))
    refine call_meets PySem.F.slot_tuple_lt ⟨_, h1, rfl⟩ PySem.F.entry_tuple_lt (PySem.F.args_tuple_lt_2 _ _) (tuple_ltAt l l' vs vs' n n' dd dd' sl sl' (pairEq xs ys) (fun j => PySem.W.dataLt (xs.getD j .none) (ys.getD j .none))) ⟨h1, k1, fun j j1 j2 => ?_, fun j j1 j2 hj => ?_, wpAny_truthy_bool hq⟩
    · have z := PySem.W.eqAt_alikeAll xs ys A.in1 s vs.toList vs'.toList _ _ h4 k4 h (room_in hu) j (by simpa using j1) (by simpa using j2)
      rwa [Array.getElem_toList, Array.getElem_toList] at z
    · have z := PySem.W.rcLt_alikeAll xs ys A.in1 s vs.toList vs'.toList _ _ h4 k4 h (room_in hu) j (by simpa using j1) (by simpa using j2) hj
      rwa [Array.getElem_toList, Array.getElem_toList] at z
/-- the first items, where they are -/
theorem firsts_any : ∀ {vs : List Value} {ds : List PyData} {Q : List (Option Value) → Shared → Prop}, PySem.W.EachIs (fun v d => ∃ as, Reads s.heap v d as) vs ds → (∀ d ∈ ds, ∃ xs, d = .tuple xs) →
    (∀ l : List (Option Value), l.map (·.isSome) = ds.map nonE → Q l s) → wpAny (model prog w) A (vs.mapM firstOfTuple') Q E s
  | _, _, Q, .nil, _, q => by rw [List.mapM_nil]; exact wpAny_pure (q [] rfl)
  | _, _, Q, .cons (b := d) ⟨as, r⟩ t, ht, q => by
    obtain ⟨xs, rfl⟩ := ht d (by simp)
    rw [List.mapM_cons]
    refine wpAny_bind ?_
    cases r with
    | @tuple a o its n _ _ ho hc hd hr =>
      rw [PySem.W.kas_first_eq]
      refine wpAny_bind (PySem.W.Looks.here (show PySem.W.Looks (model prog w) s.heap (typeOf (.ref a)) o.cls from (PySem.W.Looks.ld ho).andThen .now) ?_)
      rw [hc, if_neg (by first | decide | simp)]
      refine wpAny_bind (listItems_at ho hd (wpAny_pure ?_))
      refine wpAny_bind (firsts_any t (fun d hd => ht d (by simp [hd])) fun l hl => wpAny_pure (q _ ?_))
      rw [List.map_cons, List.map_cons, hl]
      congr 1
      have e : its.size = xs.length := by simpa using ReadsAll.length _ _ _ hr
      cases xs with
      | nil => rw [Array.getElem?_eq_none (by rw [e]; exact Nat.le_refl _)]; rfl
      | cons x xs => rw [Array.getElem?_eq_getElem (by rw [e]; exact Nat.succ_pos _)]; rfl
/-- tuples, one of them empty, can be sorted -/
theorem sorts_tups {vs : List Value} {ds : List PyData} (e : PySem.W.EachIs (fun v d => ∃ as, Reads s.heap v d as) vs ds) (hal : PySem.W.AllAlike ds) (ht : ∀ d ∈ ds, ∃ xs, d = .tuple xs) (hz : PyData.tuple [] ∈ ds) (hu : ∀ d, d ∈ ds → A.units + d.depth < cLine) :
    PySem.W.SortsAt prog w A s (PySem.W.dataKind s.heap ds) vs := by
  have lt : ∀ (f : Bool) (E : Value → Shared → Prop) (x y : Value) (a b : (PySem.W.dataKind s.heap ds).α) {Q : Bool → Shared → Prop}, (PySem.W.dataKind s.heap ds).keyOf x = some a → (PySem.W.dataKind s.heap ds).keyOf y = some b → Q ((PySem.W.dataKind s.heap ds).blt a b) s → wpAny (model prog w) A (oneLt' f x y) Q E s := by
    intro f E x y a b Q ha hb hq
    obtain ⟨d, as, hd, ra, rfl⟩ := PySem.W.dataKind_inv ha
    obtain ⟨d', as', hd', rb, rfl⟩ := PySem.W.dataKind_inv hb
    have hdd := hal d hd d' hd'
    obtain ⟨xs, rfl⟩ := ht d hd
    obtain ⟨ys, rfl⟩ := ht d' hd'
    exact oneLt_tup ra rb (by simpa [PySem.W.alike] using hdd) (Nat.lt_of_le_of_lt (Nat.add_le_add_left (Nat.min_le_left _ _) _) (hu _ hd)) hq
  refine ⟨fun v hv => ?_, ?_⟩
  · obtain ⟨d, hd, as, r⟩ := e.left v hv
    exact ⟨_, PySem.W.dataKind_some hal hd r⟩
  · -- whether the first has an item
    cases ds with
    | nil => cases hz
    | cons d₀ ds₀ =>
    have key : ∀ (b : Bool), nonE d₀ = b → ∀ (E : Value → Shared → Prop) {Q : SortKind → Shared → Prop}, Q (if b = true then general' else oneType') s → wpAny (model prog w) A (keyKind' vs.toArray) Q E s := by
      intro b hb E Q hq
      rw [keyKind'_eq, List.mapM_toArray, map_eq_pure_bind]
      refine wpAny_bind (wpAny_bind (firsts_any e ht fun l hl => wpAny_pure ?_))
      have hall : (l.toArray.all fun x => x.isSome) = false := by
        have h1 : (l.map (·.isSome)).all id = false := by
          rw [hl]
          refine Bool.eq_false_iff.mpr fun z => ?_
          have := List.all_eq_true.mp z _ (List.mem_map_of_mem hz)
          exact absurd this (by decide)
        rw [List.all_map] at h1
        simpa using h1
      rw [if_neg (by rw [hall]; exact Bool.false_ne_true)]
      have h0 : ((l.toArray[0]?).bind id).isSome = b := by
        rw [List.map_cons] at hl
        cases l with
        | nil => cases hl
        | cons x l =>
          rw [List.map_cons] at hl
          injection hl with h1 _
          rw [hb] at h1
          show ((some x).bind id).isSome = b
          cases x <;> exact h1
      rw [h0]
      cases b with
      | true => rw [if_pos rfl]; exact wpAny_pure hq
      | false =>
        rw [if_neg Bool.false_ne_true]
        rw [oneTypeOnly'_eq, List.mapM_toArray, map_eq_pure_bind]
        refine wpAny_bind (wpAny_bind (wpAny_bind (PySem.W.kas_mapM (r := Value.type "tuple") _ (fun v hv Q' hq' => ?_) (wpAny_pure ?_))))
        · obtain ⟨d, hd, as, r⟩ := e.left v hv
          obtain ⟨xs, rfl⟩ := ht d hd
          exact (PySem.W.looks_reads r).here hq'
        · cases vs with
          | nil => cases e
          | cons v vs =>
            have h0 : (List.map (fun _ => Value.type "tuple") (v :: vs)).toArray[0]? = some (Value.type "tuple") := by simp
            rw [h0]
            have hall2 : ((List.map (fun _ => Value.type "tuple") (v :: vs)).toArray.all fun x => x == Value.type "tuple") = true := by
              simp only [List.all_toArray, List.all_map, List.all_eq_true]
              intro _ _
              rfl
            simp only [hall2, if_true]
            exact wpAny_pure (wpAny_pure hq)
    generalize hb : nonE d₀ = b at key
    refine ⟨if b = true then general' else oneType', ?_, fun _ E Q hq => key b rfl E hq⟩
    cases b with
    | true => exact fun E x y a b Q ha hb hq => lt false E x y a b ha hb hq
    | false => exact fun E x y a b Q ha hb hq => lt true E x y a b ha hb hq
/-- fit to be sorted: alike, tuples or none -/
def srtB (ds : List PyData) : Bool := alk ds && (ds.all isTup || ds.all fun d => !isTup d)
theorem srtB_alk {ds : List PyData} (h : srtB ds = true) : alk ds = true := (Bool.and_eq_true_iff.mp h).1
theorem isTup_ex {d : PyData} (h : isTup d = true) : ∃ xs, d = .tuple xs := by
  cases d with
  | tuple xs => exact ⟨xs, rfl⟩
  | _ => cases h
theorem sorts_B {vs : List Value} {ds : List PyData} (e : PySem.W.EachIs (fun v d => ∃ as, Reads s.heap v d as) vs ds) (h : srtB ds = true) (hu : ∀ d, d ∈ ds → A.units + d.depth < cLine) : PySem.W.SortsAt prog w A s (PySem.W.dataKind s.heap ds) vs := by
  have ha := alk_all (srtB_alk h)
  rcases Bool.or_eq_true_iff.mp (Bool.and_eq_true_iff.mp h).2 with h2 | h2
  · have ht : ∀ d ∈ ds, ∃ xs, d = .tuple xs := fun d hd => isTup_ex (List.all_eq_true.mp h2 d hd)
    by_cases hz : PyData.tuple [] ∈ ds
    · exact sorts_tups e ha.1 ht hz hu
    · refine PySem.W.SortsAt.data e ha.1 (.inl fun d hd => ?_) hu
      obtain ⟨xs, rfl⟩ := ht d hd
      cases xs with
      | nil => exact absurd hd hz
      | cons x xs => exact ⟨x, xs, rfl⟩
  · refine PySem.W.SortsAt.data e ha.1 (.inr fun d hd => ⟨ha.2 d hd, fun xs z => ?_⟩) hu
    have := List.all_eq_true.mp h2 d hd
    rw [z] at this
    cases this
/-- a new list, sorted -/
theorem sort_new {h' : Heap} {tk : Nat} {vs : List Value} {R : Value → PyData → Prop} {ds : List PyData} {Q : Value → Shared → Prop} (e : PySem.W.EachIs R vs ds) (er : PySem.W.EachIs (fun v d => ∃ as, Reads h' v d as) vs ds) (h : srtB ds = true) (hL : ds.length ≤ sizeLine)
    (hu : ∀ d, d ∈ ds → A.units + 1 + d.depth < cLine)
    (q : ∀ out c h3, (∀ b o, h'.get? b = some o → h3.get? b = some o) → h3.get? h'.objs.size = some (seqObj "list" (List.toArray out) c) → out.length = ds.length → PySem.W.EachIs R out (ds.mergeSort (PySem.W.dataLe false id)) → Q .none { s with heap := h3, toks := tk }) :
    wpAny (model prog w) A (call (.builtin "list.sort") [.ref h'.objs.size]) Q E { s with heap := h'.push { cls := .type "list", data := .seq vs.toArray }, toks := tk } := by
  have hD : (h'.push { cls := .type "list", data := .seq vs.toArray }).get? h'.objs.size = some (seqObj "list" vs.toArray 0) := Heap.get?_push_size _ rfl
  have old : ∀ b o, h'.get? b = some o → (PySem.W.sortingHeap (h'.push { cls := .type "list", data := .seq vs.toArray }) h'.objs.size vs).get? b = some o := fun b o z => PySem.W.sortingHeap_old (Nat.ne_of_lt (Heap.lt_size z)) (Heap.get?_push_of_some _ z)
  have e2 : PySem.W.EachIs (fun v d => ∃ as, Reads (PySem.W.sortingHeap (h'.push { cls := .type "list", data := .seq vs.toArray }) h'.objs.size vs) v (id d) as) vs ds := er.mono fun _ _ ⟨as, r⟩ => ⟨as, PyProof.Rows.Reads.keeps old r⟩
  refine wpAny_call_entry slot_list_sort ⟨_, hD, rfl⟩ entry_list_sort ?_ (args_list_sort _)
  refine PySem.W.list_sort_vals (s := { s with heap := h'.push { cls := .type "list", data := .seq vs.toArray }, toks := tk }) hD (sorts_B (s := { s with heap := PySem.W.sortingHeap (h'.push { cls := .type "list", data := .seq vs.toArray }) h'.objs.size vs, toks := tk }) e2 h hu) (by rw [e.length]; exact hL) ⟨.none, rfl, ?_⟩
  obtain ⟨c, hc⟩ := sortedHeap_at (out := (PySem.W.sortVals (PySem.W.dataKind (PySem.W.sortingHeap (h'.push { cls := .type "list", data := .seq vs.toArray }) h'.objs.size vs) ds) false vs vs).toArray) hD
  have ed : PySem.W.EachIs R (PySem.W.sortVals (PySem.W.dataKind (PySem.W.sortingHeap (h'.push { cls := .type "list", data := .seq vs.toArray }) h'.objs.size vs) ds) false vs vs) (ds.mergeSort (PySem.W.dataLe false id)) := by
    have := PySem.W.sortVals_data (enc := id) false e e2 (by rw [List.map_id]; exact (alk_all (srtB_alk h)).1)
    rwa [List.map_id] at this
  refine q _ c _ (fun b o z => ?_) hc (by rw [PySem.W.sortVals_length false rfl]; exact e.length) ed
  have hb := Heap.lt_size z
  rw [sortedHeap_old (Nat.ne_of_lt hb) (by rw [Heap.size_push]; exact Nat.lt_succ_of_lt hb)]
  exact Heap.get?_push_of_some _ z
end
end TF

/-! TFC.lean -/
set_option Elab.async false
set_option linter.all false
set_option maxRecDepth 100000
/-! TF.C: sorted(xs), sorted(set(xs)) as rules of the layer -/
namespace TF
open PySem PySem.Spec PyProof.Rows L2 PySem.SeqAt
section
variable {prog : Program} {w : World} {A : Around} {E : Value → Shared → Prop} {s : Shared} {Q : Value → Shared → Prop}
theorem sorted_by {x : Value} (hc : wpAny (model prog w) A.in1 (collect x) (fun out s' => out.length ≤ sizeLine ∧ ∃ h' tk, s' = { s with heap := h', toks := tk } ∧
      wpAny (model prog w) A.in1 (call (.builtin "list.sort") [.ref h'.objs.size]) (fun _ s2 => Q (.ref h'.objs.size) s2) E { s with heap := h'.push { cls := .type "list", data := .seq out.toArray }, toks := tk }) E s) :
    wpAny (model prog w) A (call (.builtin "sorted") [x]) Q E s := by
  refine call_function_entry_kw kind_sorted plain_sorted entry_sorted (args_sorted1 _) ?_
  unfold Builtin.«sorted»
  refine wpAny_bind (m := checkCount "sorted" 1 1 _) (wpAny_pure ?_)
  refine wpAny_bind (wpAny_mono hc (fun out s' h => ?_) fun _ _ z => z)
  obtain ⟨hl, h', tk, rfl, hs⟩ := h
  refine wpAny_bind (wpAny_newList ?_ hl)
  exact wpAny_bind (wpAny_holding (wpAny_mono hs (fun _ s2 z => wpAny_pure ⟨_, rfl, z⟩) fun _ _ z => z))
end
def dSortedB : PyData → Option (List PyData)
  | .list ds => if srtB ds = true then some (ds.mergeSort (PySem.W.dataLe false id)) else none
  | .tuple ds => if srtB ds = true then some (ds.mergeSort (PySem.W.dataLe false id)) else none
  | _ => none
section
variable {X : Cx} {pins : List (Addr × Obj)} {σ : L2.St} {H : Hp} {s : Shared} {P : Addr → Prop}
/-- behind list.sort of a new list -/
theorem sort_end {Q : VK} (I : Inv X pins σ H s) {h' : Heap} {tk : Nat} {out : List Value} {ds : List PyData} (kp : ∀ b o, s.heap.get? b = some o → h'.get? b = some o) (hu : X.A.units + 66 < cLine) (hz : srtB ds = true) (hL : ds.length ≤ sizeLine)
    (e1 : PySem.W.EachIs (fun u d => ∃ z, RelV z u ∧ Dq X.K H P z d) out ds) (q : ∀ p vs, H p = none → DqA X.K H P vs (ds.mergeSort (PySem.W.dataLe false id)) → Q (.ref p) (upd H p (.lst vs))) :
    wpAny (model X.prog X.w) X.A.in1 (call (.builtin "list.sort") [.ref h'.objs.size]) (fun _ s2 => EP X pins σ Q (.ref h'.objs.size) s2) X.xe { s with heap := h'.push { cls := .type "list", data := .seq out.toArray }, toks := tk } := by
  have I1 : Inv X pins σ H { s with heap := h', toks := tk } := I.kept kp
  have hal := srtB_alk hz
  have er : PySem.W.EachIs (fun u d => ∃ as, Reads h' u d as) out ds := by
    refine (each_mem' e1).mono fun u d ⟨⟨z, rz, dz⟩, hd⟩ => ?_
    exact Dp.reads I1 _ _ _ (dz.dp (pl_plain (alk_pl hal hd))) rz
  refine sort_new e1 er hz hL (fun d hd => by have := pl_depth (alk_pl hal hd); show X.A.units + 1 + 1 + d.depth < cLine; omega) fun out2 c h3 k3 ho hlen eo => ?_
  obtain ⟨vs', hv', hd'⟩ := each_dq eo
  refine ⟨.ref h'.objs.size, upd H h'.objs.size (.lst vs'), I1.laid (t' := tk) k3 (Nat.le_refl _) ⟨by rw [hv'.length, hlen]; exact hL, out2, c, hv', ho⟩, rfl, q _ _ (I1.hok.fresh (Nat.le_refl _)) hd'⟩
where each_mem' {α β : Type} {R : α → β → Prop} : ∀ {as : List α} {bs : List β}, PySem.W.EachIs R as bs → PySem.W.EachIs (fun a b => R a b ∧ b ∈ bs) as bs := fun h => PySem.W.each_mem h
theorem opF_sortedB (hu : X.A.units + 66 < cLine) : CallR X (.builtin "sorted") (rC1N X.K dSortedB) := by
  intro pins s σ H vs us Q I r h
  obtain ⟨P, x, dx, d, ev, tr, rx, e, q⟩ := h
  subst ev
  have each : ∀ {ds : List PyData} {ys : List V} {its : List Value}, DqA X.K H P ys ds → Vals ys its → PySem.W.EachIs (fun u d => ∃ z, RelV z u ∧ Dq X.K H P z d) its ds := fun {ds ys its} t rv => by
    refine each_of (by rw [← rv.length, t.length]) fun i u d hu hd => ?_
    obtain ⟨z, h1, h2⟩ := vals_getU rv hu
    obtain ⟨d', h3, h4⟩ := t.getV h1
    rw [hd] at h3; cases h3
    exact ⟨z, h2, h4⟩
  have grow : ∀ (its : List Value) (b : Addr) (o : Obj), s.heap.get? b = some o → ((s.heap.push (seqObj "list" #[] 0)).update s.heap.objs.size (Obj.mapSeq (· ++ its.toArray))).get? b = some o := fun its b o z => by
    rw [Heap.get?_update_ne _ _ _ _ (Nat.ne_of_lt (Heap.lt_size z))]
    exact Heap.get?_push_of_some _ z
  have fin : ∀ {ds : List PyData} {ys : List V} {its : List Value} {a : Addr}, srtB ds = true → x = .ref a → d = ds.mergeSort (PySem.W.dataLe false id) → DqA X.K H P ys ds → Vals ys its → ys.length ≤ sizeLine → (IsTup s.heap a its.toArray ∨ s.heap.IsList a its.toArray) → wpAny (model X.prog X.w) X.A (call (.builtin "sorted") us) (EP X pins σ Q) X.xe s := by
    intro ds ys its a hz ex ed t rv hsz hl
    subst ex ed
    rw [Vals.ref1 r]
    have el : its.length ≤ sizeLine := by rw [← rv.length]; exact hsz
    have go := sort_end (tk := s.toks) (h' := (s.heap.push (seqObj "list" #[] 0)).update s.heap.objs.size (Obj.mapSeq (· ++ its.toArray))) (Q := Q) I (grow its) hu hz (by rw [← t.length]; exact hsz) (each t rv) fun p vs hp hd => q p vs _ (same_upd hp _) hp upd_same (newDq hp hd)
    rcases hl with hl | hl
    · exact sorted_by (collect_tup hl ⟨el, _, s.toks, rfl, go⟩ el)
    · exact sorted_by (collect_list hl ⟨el, _, s.toks, rfl, go⟩ el)
  unfold dSortedB at e
  split at e
  · rename_i ds
    by_cases hz : srtB ds = true
    · rw [if_pos hz] at e; cases e
      obtain ⟨a, ys, rfl, h, t⟩ := rx.lst
      obtain ⟨its, rv, hl, hsz⟩ := I.list (SqL.of h)
      exact fin hz rfl rfl t rv hsz (.inr hl.isList)
    · rw [if_neg hz] at e; cases e
  · rename_i ds
    by_cases hz : srtB ds = true
    · rw [if_pos hz] at e; cases e
      obtain ⟨a, ys, rfl, h, t⟩ := rx.tup
      obtain ⟨its, rv, hl, hsz⟩ := I.tuple h
      exact fin hz rfl rfl t rv hsz (.inl hl)
    · rw [if_neg hz] at e; cases e
  · cases e
end

/-! ### sorted(set(xs)) -/
def ddk (ds : List PyData) : List PyData := ds.foldl dput []
mutual
theorem nk_data : ∀ {d : PyData}, NTx d → (nk d).data = d
  | .str x, _ => by rw [nk, NestedKey.data]
  | .tuple ds, h => by rw [NTx] at h; rw [nk, NestedKey.data, nks_datas h]
theorem nks_datas : ∀ {ds : List PyData}, NTxs ds → NestedKey.datas (nks ds) = ds
  | [], _ => by rw [nks, NestedKey.datas]
  | d :: ds, h => by rw [NTxs] at h; rw [nks, NestedKey.datas, nk_data h.1, nks_datas h.2]
end
theorem dput_mem {ks : List PyData} {d : PyData} (hk : ∀ e ∈ ks, NTx e) (hd : NTx d) : (∀ e, e ∈ dput ks d ↔ e ∈ ks ∨ e = d) ∧ (ks.Nodup → (dput ks d).Nodup) := by
  have hany : ks.any (fun e => decide (nk e = nk d)) = true ↔ d ∈ ks := by
    rw [List.any_eq_true]
    exact ⟨fun ⟨e, h1, h2⟩ => nk_inj (hk e h1) hd (of_decide_eq_true h2) ▸ h1, fun h => ⟨d, h, decide_eq_true rfl⟩⟩
  unfold dput
  by_cases h : d ∈ ks
  · rw [if_pos (hany.mpr h)]
    exact ⟨fun e => ⟨.inl, fun z => z.elim id fun z => z ▸ h⟩, id⟩
  · rw [if_neg fun z => h (hany.mp z)]
    refine ⟨fun e => by simp, fun n => ?_⟩
    rw [List.nodup_append]
    exact ⟨n, by simp, fun a ha b hb e => h (by rw [List.mem_singleton.mp hb] at e; exact e ▸ ha)⟩
theorem ddk_go : ∀ {ds acc : List PyData}, (∀ e ∈ ds, NTx e) → (∀ e ∈ acc, NTx e) → acc.Nodup → (∀ e, e ∈ ds.foldl dput acc ↔ e ∈ acc ∨ e ∈ ds) ∧ (ds.foldl dput acc).Nodup
  | [], acc, _, _, n => ⟨fun e => by simp, n⟩
  | d :: ds, acc, h, ha, n => by
    obtain ⟨m1, m2⟩ := dput_mem ha (h d (by simp))
    obtain ⟨i1, i2⟩ := ddk_go (ds := ds) (acc := dput acc d) (fun e he => h e (by simp [he])) (fun e he => by rcases (m1 e).mp he with z | z; exact ha e z; exact z ▸ h d (by simp)) (m2 n)
    refine ⟨fun e => ?_, i2⟩
    rw [List.foldl_cons, i1, m1, List.mem_cons, or_assoc]
theorem ddk_mem {ds : List PyData} (h : ∀ e ∈ ds, NTx e) : (∀ e, e ∈ ddk ds ↔ e ∈ ds) ∧ (ddk ds).Nodup := by
  obtain ⟨a, b⟩ := ddk_go (ds := ds) (acc := []) h (fun e he => by cases he) List.nodup_nil
  exact ⟨fun e => by rw [ddk, a]; simp, b⟩
theorem nodup_le {α : Type} [DecidableEq α] : ∀ {l m : List α}, l.Nodup → (∀ x ∈ l, x ∈ m) → l.length ≤ m.length
  | [], _, _, _ => Nat.zero_le _
  | a :: l, m, n, h => by
    rw [List.nodup_cons] at n
    have h1 := h a (by simp)
    have := nodup_le (l := l) (m := m.erase a) n.2 fun x hx => by
      have ne : x ≠ a := fun z => n.1 (z ▸ hx)
      exact (List.mem_erase_of_ne ne).mpr (h x (by simp [hx]))
    rw [List.length_erase_of_mem h1] at this
    have : 0 < m.length := List.length_pos_of_mem h1
    rw [List.length_cons]; omega

/-- the same without a decision -/
theorem nodup_le' {α : Type} {l m : List α} (n : l.Nodup) (h : ∀ x ∈ l, x ∈ m) : l.length ≤ m.length := by
  classical
  exact nodup_le n h
mutual
theorem toks_inj : ∀ {a b : PyData} {l m : List (Int ⊕ List Nat)}, NTx a → NTx b → PySem.W.keyToks a ++ l = PySem.W.keyToks b ++ m → a = b ∧ l = m
  | .str x, .str y, l, m, _, _, h => by
    rw [PySem.W.keyToks, PySem.W.keyToks] at h
    injection h with h1 h2
    injection h1 with h1
    exact ⟨by rw [PySem.W.str_of_cps h1], h2⟩
  | .str x, .tuple [], l, m, _, _, h => by rw [PySem.W.keyToks, PySem.W.keyToks, PySem.W.keyToksAll] at h; injection h with h1 _; cases h1
  | .str x, .tuple (d :: ds), l, m, _, _, h => by rw [PySem.W.keyToks, PySem.W.keyToks, PySem.W.keyToksAll] at h; injection h with h1 _; cases h1
  | .tuple [], .str x, l, m, _, _, h => by rw [PySem.W.keyToks, PySem.W.keyToks, PySem.W.keyToksAll] at h; injection h with h1 _; cases h1
  | .tuple (d :: ds), .str x, l, m, _, _, h => by rw [PySem.W.keyToks, PySem.W.keyToks, PySem.W.keyToksAll] at h; injection h with h1 _; cases h1
  | .tuple ds, .tuple es, l, m, n1, n2, h => by
    rw [NTx] at n1 n2
    rw [PySem.W.keyToks, PySem.W.keyToks] at h
    obtain ⟨e, e2⟩ := tokss_inj n1 n2 h
    exact ⟨by rw [e], e2⟩
theorem tokss_inj : ∀ {as bs : List PyData} {l m : List (Int ⊕ List Nat)}, NTxs as → NTxs bs → PySem.W.keyToksAll as ++ l = PySem.W.keyToksAll bs ++ m → as = bs ∧ l = m
  | [], [], l, m, _, _, h => by
    rw [PySem.W.keyToksAll] at h
    injection h with _ h
    exact ⟨rfl, h⟩
  | [], b :: bs, l, m, _, _, h => by
    rw [PySem.W.keyToksAll, PySem.W.keyToksAll] at h
    injection h with h1 _
    injection h1 with h1
    cases h1
  | a :: as, [], l, m, _, _, h => by
    rw [PySem.W.keyToksAll, PySem.W.keyToksAll] at h
    injection h with h1 _
    injection h1 with h1
    cases h1
  | a :: as, b :: bs, l, m, n1, n2, h => by
    rw [NTxs] at n1 n2
    rw [PySem.W.keyToksAll, PySem.W.keyToksAll, List.cons_append, List.cons_append] at h
    injection h with _ h
    rw [List.append_assoc, List.append_assoc] at h
    obtain ⟨e1, h⟩ := toks_inj n1.1 n2.1 h
    obtain ⟨e2, h⟩ := tokss_inj n1.2 n2.2 h
    exact ⟨by rw [e1, e2], h⟩
end
theorem le_anti {a b : PyData} (ha : NTx a) (hb : NTx b) (h1 : PySem.W.dataLe false id a b = true) (h2 : PySem.W.dataLe false id b a = true) : a = b := by
  have e : PySem.W.keyToks a = PySem.W.keyToks b := by
    have h1 : (!PySem.W.dataLt b a) = true := h1
    have h2 : (!PySem.W.dataLt a b) = true := h2
    exact PyProof.Rows.lex_total (O := PyProof.Rows.itemOrd) _ _ (by simpa [PySem.W.dataLt] using h2) (by simpa [PySem.W.dataLt] using h1)
  exact (toks_inj (l := []) (m := []) ha hb (by rw [e])).1
/-- sorted once, whatever the order was -/
theorem sort_same {l m : List PyData} (hn : ∀ d ∈ l, NTx d) (n1 : l.Nodup) (n2 : m.Nodup) (h : ∀ d, d ∈ l ↔ d ∈ m) : l.mergeSort (PySem.W.dataLe false id) = m.mergeSort (PySem.W.dataLe false id) := by
  have key : ∀ {l m : List PyData}, (∀ d ∈ l, NTx d) → l.Nodup → m.Nodup → (∀ d, d ∈ l ↔ d ∈ m) → l.Pairwise (fun a b => PySem.W.dataLe false id a b = true) → m.Pairwise (fun a b => PySem.W.dataLe false id a b = true) → l = m := by
    intro l
    induction l with
    | nil =>
      intro m _ _ _ h _ _
      cases m with
      | nil => rfl
      | cons b m => exact absurd ((h b).mpr (by simp)) (by simp)
    | cons a l ih =>
      intro m hn n1 n2 h p1 p2
      cases m with
      | nil => exact absurd ((h a).mp (by simp)) (by simp)
      | cons b m =>
        rw [List.pairwise_cons] at p1 p2
        rw [List.nodup_cons] at n1 n2
        have hb : b ∈ a :: l := (h b).mpr (by simp)
        have e : a = b := by
          rcases List.mem_cons.mp ((h a).mp (by simp)) with z | z
          · exact z
          · rcases List.mem_cons.mp hb with y | y
            · exact y.symm
            · exact le_anti (hn a (by simp)) (hn b hb) (p1.1 b y) (p2.1 a z)
        subst e
        congr 1
        refine ih (fun d hd => hn d (by simp [hd])) n1.2 n2.2 (fun d => ⟨fun hd => ?_, fun hd => ?_⟩) p1.2 p2.2
        · rcases List.mem_cons.mp ((h d).mp (by simp [hd])) with rfl | z
          · exact absurd hd n1.1
          · exact z
        · rcases List.mem_cons.mp ((h d).mpr (by simp [hd])) with rfl | z
          · exact absurd hd n2.1
          · exact z
  have q1 := List.mergeSort_perm l (PySem.W.dataLe false id)
  have q2 := List.mergeSort_perm m (PySem.W.dataLe false id)
  have tot := PySem.W.sortLe_total (α := PyData) (PyProof.Rows.listOrd PyProof.Rows.itemOrd) false fun b => PySem.W.keyToks (id b)
  exact key (fun d hd => hn d (q1.mem_iff.mp hd)) (q1.nodup_iff.mpr n1) (q2.nodup_iff.mpr n2) (fun d => by rw [q1.mem_iff, q2.mem_iff]; exact h d) (PySem.W.sort_pairwise tot l) (PySem.W.sort_pairwise tot m)
theorem srtB_congr {l m : List PyData} (h : ∀ d, d ∈ l ↔ d ∈ m) (z : srtB l = true) : srtB m = true := by
  unfold srtB alk at z ⊢
  simp only [Bool.and_eq_true, Bool.or_eq_true, List.all_eq_true] at z ⊢
  obtain ⟨z1, z2⟩ := z
  refine ⟨fun d hd => ⟨(z1 d ((h d).mpr hd)).1, fun e he => (z1 d ((h d).mpr hd)).2 e ((h e).mpr he)⟩, ?_⟩
  rcases z2 with z2 | z2
  · exact .inl fun d hd => z2 d ((h d).mpr hd)
  · exact .inr fun d hd => z2 d ((h d).mpr hd)
def dSetS : PyData → Option (List PyData)
  | .list ds => if (ds.all kyb && (srtB (ddk ds) && decide ((ddk ds).length ≤ 76))) = true then some ((ddk ds).mergeSort (PySem.W.dataLe false id)) else none
  | .tuple ds => if (ds.all kyb && (srtB (ddk ds) && decide ((ddk ds).length ≤ 76))) = true then some ((ddk ds).mergeSort (PySem.W.dataLe false id)) else none
  | _ => none
section
variable {K : PySem.W.Frag} {H : Hp} {P : Addr → Prop}
theorem refs_of : ∀ {vs : List V} {ds : List PyData}, DqA K H P vs ds → (∀ d ∈ ds, isTup d = true) → ∃ bs : List Addr, vs = bs.map V.ref
  | _, _, .nil, _ => ⟨[], rfl⟩
  | _, _, .cons (d := d) t ts, h => by
    obtain ⟨bs, rfl⟩ := refs_of ts fun e he => h e (by simp [he])
    have hd := h d (by simp)
    cases t with
    | tup _ _ _ => exact ⟨_ :: bs, rfl⟩
    | _ => simp [isTup, TF.scr, spc] at hd
theorem vals_bs : ∀ {bs : List Addr} {us : List Value}, Vals (bs.map V.ref) us → us = bs.map Value.ref
  | [], _, .nil => rfl
  | b :: bs, _, .cons r rs => by
    cases r
    rw [vals_bs rs]; rfl
def zk (bs : List Addr) (ds : List PyData) : List (Addr × NestedKey) := bs.zip (ds.map nk)
theorem zk_mem : ∀ {bs : List Addr} {ds : List PyData} {p : Addr × NestedKey}, DqA K H P (bs.map V.ref) ds → p ∈ zk bs ds → ∃ d, d ∈ ds ∧ p.2 = nk d ∧ Dq K H P (.ref p.1) d
  | [], ds, p, _, h => by simp [zk] at h
  | b :: bs, [], p, _, h => by simp [zk] at h
  | b :: bs, d :: ds, p, .cons t ts, h => by
    unfold zk at h
    rw [List.map_cons, List.zip_cons_cons] at h
    rcases List.mem_cons.mp h with rfl | h
    · exact ⟨d, by simp, rfl, t⟩
    · obtain ⟨e, h1, h2⟩ := zk_mem (bs := bs) (ds := ds) ts h
      exact ⟨e, by simp [h1], h2⟩
theorem zk_fst : ∀ {bs : List Addr} {ds : List PyData}, bs.length = ds.length → (zk bs ds).map (fun p => Value.ref p.1) = bs.map Value.ref ∧ (zk bs ds).map (·.2) = ds.map nk
  | [], [], _ => ⟨rfl, rfl⟩
  | b :: bs, d :: ds, h => by
    obtain ⟨h1, h2⟩ := zk_fst (bs := bs) (ds := ds) (by simpa using h)
    unfold zk at h1 h2 ⊢
    simp only [List.map_cons, List.zip_cons_cons]
    exact ⟨by rw [h1], by rw [h2]⟩
theorem each_map2 {α β γ : Type} {R : β → γ → Prop} (f : α → β) (g : α → γ) : ∀ {l : List α}, (∀ a ∈ l, R (f a) (g a)) → PySem.W.EachIs R (l.map f) (l.map g)
  | [], _ => .nil
  | a :: l, h => .cons (h a (by simp)) (each_map2 f g fun b hb => h b (by simp [hb]))
end
theorem inv_moved {X : Cx} {pins : List (Addr × Obj)} {σ : L2.St} {H : Hp} {s s' : Shared} (I : Inv X pins σ H s) (kp : ∀ b o, s.heap.get? b = some o → s'.heap.get? b = some o) (g : s'.gens = s.gens) (e : s'.os = s.os) : Inv X pins σ H s' := by
  have J : Inv X pins σ H { s with heap := s'.heap, gens := s'.gens, drawn := s'.drawn, toks := s'.toks } := I.call (ch := []) (Un.kept kp) (I.hok.kept kp) (by rw [g]; exact I.bare) (fun _ z => nomatch z)
  have e2 : ({ s with heap := s'.heap, gens := s'.gens, drawn := s'.drawn, toks := s'.toks } : Shared) = s' := by
    obtain ⟨h, g1, d, t, os⟩ := s'
    cases e
    rfl
  rwa [e2] at J
theorem sorted_by2 {prog : Program} {w : World} {A : Around} {E : Value → Shared → Prop} {s : Shared} {Q : Value → Shared → Prop} {x : Value} (hc : wpAny (model prog w) A.in1 (collect x) (fun out s' => out.length ≤ sizeLine ∧
      wpAny (model prog w) A.in1 (call (.builtin "list.sort") [.ref s'.heap.objs.size]) (fun _ s2 => Q (.ref s'.heap.objs.size) s2) E { s' with heap := s'.heap.push { cls := .type "list", data := .seq out.toArray } }) E s) :
    wpAny (model prog w) A (call (.builtin "sorted") [x]) Q E s := by
  refine call_function_entry_kw kind_sorted plain_sorted entry_sorted (args_sorted1 _) ?_
  unfold Builtin.«sorted»
  refine wpAny_bind (m := checkCount "sorted" 1 1 _) (wpAny_pure ?_)
  refine wpAny_bind (wpAny_mono hc (fun out s' h => ?_) fun _ _ z => z)
  refine wpAny_bind (wpAny_newList ?_ h.1)
  exact wpAny_bind (wpAny_holding (wpAny_mono h.2 (fun _ s2 z => wpAny_pure ⟨_, rfl, z⟩) fun _ _ z => z))
section
variable {X : Cx} {o : List Nat} {a : Expr} {f : Rho → Option PyData} {pos : Pos}
theorem pe_sortSet {ta : TE} {p p2 q : Pos} (hc : X.calm = true) (hu : X.A.units + 66 < cLine) (hg : Gl X "sorted") (hm : X.mg "sorted" = none) (hg2 : Gl X "set") (hm2 : X.mg "set" = none) (ha : PE X a ta)
    (na : starEach [a] X.env = (false, eval a X.env) :: starEach [] X.env := by rfl) : PE X (.Call (.Name "sorted" p) [.Call (.Name "set" p2) [a] [] q] [] pos) (fun σ H Q => ta σ H fun x H1 => ∃ l vs ds P, x = .ref l ∧ (SqL X.K H1 l vs ∨ SqT X.K H1 l vs) ∧ DqA X.K H1 P vs ds ∧
      (∀ d ∈ ds, kyb d = true) ∧ srtB (ddk ds) = true ∧ (ddk ds).length ≤ 76 ∧ ∀ p vs', H1 p = none → DqA X.K H1 P vs' ((ddk ds).mergeSort (PySem.W.dataLe false id)) → Q (.ref p) (upd H1 p (.lst vs'))) := by
  refine ⟨fun pins s σ H Q I h => ?_⟩
  refine Call_ (ld_blt I hg hm (show bootBuiltins "sorted" = some (.builtin "sorted") by decide +kernel) ?_)
  refine PyProof.Rows.callWith_builtin1 (PyProof.Rows.args_cons ?_ rfl) rfl rfl
  refine Call_ (ld_blt I hg2 hm2 (show bootBuiltins "set" = some (.type "set") by decide +kernel) ?_)
  refine PyProof.Rows.callWith_type1 (PyProof.Rows.args_cons (thn (ha.run pins s σ H _ I h) fun v s1 ⟨x, H1, I1, r1, q1⟩ => PyProof.Rows.args_nil ?_) na) na rfl
  obtain ⟨l, vs, ds, P, rfl, hq, t, kb, sb, few, q1⟩ := q1
  cases r1
  have ntx : ∀ d ∈ ds, NTx d := fun d hd => (kyb_ntx (kb d hd)).1
  obtain ⟨bs, rfl⟩ := refs_of t fun d hd => by
    have := kb d hd
    unfold kyb at this
    exact (Bool.and_eq_true_iff.mp this).1
  have hlen : bs.length = ds.length := by have := t.length; rwa [List.length_map] at this
  obtain ⟨its, T, hT, rv, hl⟩ : ∃ (its : List Value) (T : String), (T = "list" ∨ T = "tuple") ∧ Vals (bs.map V.ref) its ∧ ∃ o n, s1.heap.get? l = some o ∧ o.cls = .type T ∧ o.data = .seq its.toArray n := by
    rcases hq with hq | hq
    · obtain ⟨its, r, pl, _⟩ := I1.list hq
      obtain ⟨o, h1, h2, n, h3⟩ := pl.isList
      exact ⟨its, "list", .inl rfl, r, o, n, h1, h2, h3⟩
    · obtain ⟨its, r, pl, _⟩ := I1.tuple hq
      obtain ⟨o, h1, h2, n, h3⟩ := pl
      exact ⟨its, "tuple", .inr rfl, r, o, n, h1, h2, h3⟩
  obtain rfl := vals_bs rv
  obtain ⟨z1, z2⟩ := zk_fst hlen
  have hk : ∀ p ∈ zk bs ds, KeyAt X.prog X.w s1.heap p := fun p hp => by
    obtain ⟨d, h1, h2, h3⟩ := zk_mem t hp
    show (nestedKind X.prog X.w).is s1.heap p.2 p.1
    rw [h2]
    exact key_is I1 (ntx d h1) (kyb_ntx (kb d h1)).2 h3
  obtain ⟨dm, dn⟩ := ddk_mem ntx
  refine call_setN hT (zk bs ds) (I1.ok.hd hc) hl (by simpa using z1.symm) hk (fun L nd sub => ?_) (by omega) fun h' tk L es ep tt N g kp => PyProof.Rows.args_nil ?_
  · refine Nat.le_trans ?_ few
    rw [← List.length_map (f := (·.2)) (as := L), ← List.length_map (f := nk) (as := ddk ds)]
    refine nodup_le nd fun k hkm => ?_
    obtain ⟨p, hp, rfl⟩ := List.mem_map.mp hkm
    obtain ⟨d, h1, h2, _⟩ := zk_mem t (sub p hp)
    rw [h2]
    exact List.mem_map_of_mem ((dm d).mpr h1)
  · have g1 := g.sub
    have g2 := g.all
    rw [List.take_length] at g1 g2
    obtain ⟨o, ho, hex, hd⟩ := N.ob
    refine sorted_by2 (collect_set (I1.ok.hd hc) ⟨o, ho, hex.1, hd⟩ N.fit (by rw [N.size]; unfold scanBound; have := N.room; rcases N.tab.mok with e | e | e <;> rw [e] at this <;> omega) N.tab.ris N.led fun s' out kp2 _ gens os pm => ?_)
    have er : es.toList.map (·.2) = L.map fun p => Value.ref p.1 := by rw [N.rows, List.map_map]; rfl
    rw [er] at pm
    obtain ⟨L', pL, rfl⟩ := perm_lift (fun p : Addr × NestedKey => Value.ref p.1) pm L rfl
    have I3 : Inv X pins σ H1 s' := inv_moved I1 (fun b o e => kp2 b o (kp b o e)) gens os
    have inks : ∀ p ∈ L', ∃ d, d ∈ ds ∧ p.2 = nk d ∧ Dq X.K H1 P (.ref p.1) d := fun p hp => zk_mem t (g1 p (pL.mem_iff.mp hp))
    have back : ∀ p ∈ L', nk p.2.data = p.2 ∧ p.2.data ∈ ds := fun p hp => by
      obtain ⟨d, h1, h2, _⟩ := inks p hp
      rw [h2, nk_data (ntx d h1)]
      exact ⟨rfl, h1⟩
    have same : ∀ d, d ∈ ddk ds ↔ d ∈ L'.map fun p => p.2.data := fun d => by
      rw [dm d, List.mem_map]
      constructor
      · intro h1
        have h2 : nk d ∈ (zk bs ds).map (·.2) := by rw [z2]; exact List.mem_map_of_mem h1
        obtain ⟨p, hp, e⟩ := List.mem_map.mp h2
        obtain ⟨q', hq', e2⟩ := List.mem_map.mp (g2 p hp)
        exact ⟨q', pL.mem_iff.mpr hq', by rw [e2, e, nk_data (ntx d h1)]⟩
      · rintro ⟨p, hp, rfl⟩
        exact (back p hp).2
    have ndL : (L'.map fun p => p.2.data).Nodup := by
      have h1 : (L'.map (·.2)).Nodup := (pL.map (·.2)).nodup_iff.mpr N.nd
      have h2 : ((L'.map fun p => p.2.data).map nk).Nodup := by
        have e3 : (L'.map fun p => p.2.data).map nk = L'.map (·.2) := by
          rw [List.map_map]
          exact List.map_congr_left fun p hp => (back p hp).1
        rw [e3]
        exact h1
      exact List.Pairwise.of_map nk (fun _ _ hne e => hne (congrArg nk e)) h2
    have sb' : srtB (L'.map fun p => p.2.data) = true := srtB_congr same sb
    have few' : (L'.map fun p => p.2.data).length ≤ 76 := Nat.le_trans (nodup_le' ndL fun d hd => (same d).mpr hd) few
    have small : (L'.map fun p => p.2.data).length ≤ sizeLine := by rw [sizeLine_eq]; omega
    refine ⟨by rw [List.length_map] at small ⊢; exact small, sort_end (P := P) (tk := s'.toks) (h' := s'.heap) I3 (fun _ _ e => e) hu sb' small (each_map2 _ _ fun p hp => ?_) fun p vs' hp hd => ?_⟩
    · obtain ⟨d, h1, h2, h3⟩ := inks p hp
      refine ⟨.ref p.1, rfl, ?_⟩
      rw [h2, nk_data (ntx d h1)]
      exact h3
    · refine q1 p vs' hp ?_
      rw [sort_same (fun d hd => ntx d ((dm d).mp hd)) dn ndL same]
      exact hd
variable [OK : OwnK]
theorem en_sortSet {p p2 q : Pos} (hc : X.calm = true) (hu : X.A.units + 66 < cLine) (hm : X.mg "sorted" = none) (hm2 : X.mg "set" = none) (ha : ER X o a f) (hg : Gl X "sorted" := by rfl) (hg2 : Gl X "set" := by rfl)
    (na : starEach [a] X.env = (false, eval a X.env) :: starEach [] X.env := by rfl) : EN X o (.Call (.Name "sorted" p) [.Call (.Name "set" p2) [a] [] q] [] pos) (e1 f dSetS) := PE.imp (pe_sortSet hc hu hg hm hg2 hm2 ha na) fun σ H Q ⟨H0, P0, P, ρ, us, R, e', q⟩ => by
  obtain ⟨x, ef, eg⟩ := e1_some e'
  obtain ⟨ds, hx, hz, rfl⟩ : ∃ ds, (x = .list ds ∨ x = .tuple ds) ∧ (ds.all kyb && (srtB (ddk ds) && decide ((ddk ds).length ≤ 76))) = true ∧ us = (ddk ds).mergeSort (PySem.W.dataLe false id) := by
    unfold dSetS at eg
    split at eg
    · rename_i ds
      by_cases hz : (ds.all kyb && (srtB (ddk ds) && decide ((ddk ds).length ≤ 76))) = true
      · rw [if_pos hz] at eg; cases eg; exact ⟨ds, .inl rfl, hz, rfl⟩
      · rw [if_neg hz] at eg; cases eg
    · rename_i ds
      by_cases hz : (ds.all kyb && (srtB (ddk ds) && decide ((ddk ds).length ≤ 76))) = true
      · rw [if_pos hz] at eg; cases eg; exact ⟨ds, .inr rfl, hz, rfl⟩
      · rw [if_neg hz] at eg; cases eg
    · cases eg
  simp only [Bool.and_eq_true, decide_eq_true_eq, List.all_eq_true] at hz
  refine ⟨H0, P0, P, ρ, x, R, ef, fun v H1 s1 r1 => ?_⟩
  obtain ⟨l, vs, rfl, h, t⟩ : ∃ l vs, v = .ref l ∧ (SqL X.K H1 l vs ∨ SqT X.K H1 l vs) ∧ DqA X.K H1 P vs ds := by
    rcases hx with rfl | rfl
    · obtain ⟨l, vs, h1, h2, h3⟩ := r1.lst
      exact ⟨l, vs, h1, .inl (SqL.of h2), h3⟩
    · obtain ⟨l, vs, h1, h2, h3⟩ := r1.tup
      exact ⟨l, vs, h1, .inr h2, h3⟩
  exact ⟨l, vs, ds, P, rfl, h, t, hz.1, hz.2.1, hz.2.2, fun p vs' hp hd => q p vs' _ (s1.trans (same_upd hp _)) (s1.free hp) upd_same (newDq hp hd)⟩
end
theorem hu100 {k : Nat} {A : Around} (hr : Room k A) : A.units + 100 < cLine := by have := hr.un; omega
theorem blk_names {N : List Str} {sc1 sc2 scope : Scope} {own : List (Str × Nat)} (h : BlkOk N sc1 scope own) (e : sc2.names = sc1.names) : BlkOk N sc2 scope own := ⟨h.kind, h.uniq, h.ix, by rw [e]; exact h.free, h.own⟩
end TF

/-! TFz.lean -/
set_option Elab.async false
set_option linter.all false
set_option maxRecDepth 100000
/-! TF.z: reckoning with the functions: rows for simp -/
namespace TF
open PySem PySem.Spec PyProof.Rows L2
section
variable {α : Type} {f fa fb fc : Rho → Option PyData} {g h : Rho → Option Fl} {ρ : Rho} {d x y : PyData} {i j : Nat}
@[simp] theorem fSeq_ev : fSeq g h ρ = (g ρ).bind fun fl => fThen fl h := rfl
@[simp] theorem fThen_nx : fThen (.nx ρ) g = g ρ := rfl
@[simp] theorem fThen_rt : fThen (.rt d) g = some (.rt d) := rfl
@[simp] theorem fThen_bk : fThen (.bk ρ) g = some (.bk ρ) := rfl
@[simp] theorem fThen_ct : fThen (.ct ρ) g = some (.ct ρ) := rfl
@[simp] theorem fThen_rx {ρ' : Rho} : fThen (.rx d ρ') g = some (.rx d ρ') := rfl
@[simp] theorem fThen_ex {x : Str} : fThen (.ex x) g = some (.ex x) := rfl
@[simp] theorem fThen_rl {b : Bool} : fThen (.rl b) g = some (.rl b) := rfl
@[simp] theorem fNil_ev : fNil ρ = some (.nx ρ) := rfl
@[simp] theorem fRet_ev : fRet f ρ = (f ρ).bind fun d => some (.rt d) := rfl
@[simp] theorem fBk_ev : fBk ρ = some (.bk ρ) := rfl
@[simp] theorem fCt_ev : fCt ρ = some (.ct ρ) := rfl
@[simp] theorem fIf_ev {t : Rho → Option Bool} : fIf t g h ρ = (t ρ).bind fun c => if c = true then g ρ else h ρ := rfl
@[simp] theorem fSet_ev : fSet i f ρ = (f ρ).bind fun d => some (.nx (ρ.set i (some d))) := rfl
@[simp] theorem fOwn_ev {l : Rho → Option (List PyData)} : fOwn i l ρ = (l ρ).bind fun d => if i < ρ.length then some (.nx (ρ.set i (some (.list d)))) else none := rfl
@[simp] theorem fPar_ev {l : Rho → Option (List PyData)} : fPar i j l ρ = (l ρ).bind fun ds => match ds with
  | [x, y] => some (.nx ((ρ.set i (some x)).set j (some y)))
  | _ => none := rfl
@[simp] theorem fAsg_ev {gt : PyData → Rho → Option Rho} : fAsg gt f ρ = (f ρ).bind fun d => (gt d ρ).bind fun r => some (.nx r) := rfl
@[simp] theorem fApp_ev : fApp i f ρ = (f ρ).bind fun d => match ρ.getD i none with
  | some (.list ds) => if ds.length < sizeLine then some (.nx (ρ.set i (some (.list (ds ++ [d]))))) else none
  | _ => none := rfl
@[simp] theorem fExt_ev : fExt i f ρ = (f ρ).bind fun d => match ρ.getD i none, d with
  | some (.list ds), .list es => if ds.length + es.length ≤ sizeLine then some (.nx (ρ.set i (some (.list (ds ++ es))))) else none
  | _, _ => none := rfl
@[simp] theorem fFor_ev {it : Rho → Option (List PyData)} {tg : PyData → Rho → Option Rho} {ks : List Nat} : fFor it tg ks g ρ = (it ρ).bind fun ds => forGo tg g ks ds (clr ks ρ) := rfl
@[simp] theorem fWhile_ev {n : Nat} {t : Rho → Option Bool} {ks : List Nat} : fWhile n t ks g ρ = whGo t g ks n (clr ks ρ) := rfl
@[simp] theorem clr_nil : clr [] ρ = ρ := rfl
@[simp] theorem clr_cons {k : Nat} {ks : List Nat} : clr (k :: ks) ρ = clr ks (ρ.set k none) := rfl
@[simp] theorem g1_ev : g1 i d ρ = some (ρ.set i (some d)) := rfl
@[simp] theorem g2_ev : g2 i j (.tuple [x, y]) ρ = some ((ρ.set i (some x)).set j (some y)) := rfl
@[simp] theorem g3_ev {k : Nat} {z : PyData} : g3 i j k (.tuple [x, y, z]) ρ = some (((ρ.set i (some x)).set j (some y)).set k (some z)) := rfl
@[simp] theorem eVar_ev : eVar i ρ = ρ.getD i none := rfl
@[simp] theorem eC_ev : eC d ρ = some d := rfl
@[simp] theorem eL_ev {l : Rho → Option (List PyData)} : eL l ρ = (l ρ).map PyData.list := rfl
@[simp] theorem e1_ev {k : PyData → Option α} : e1 f k ρ = (f ρ).bind k := rfl
@[simp] theorem e2_ev {k : PyData → PyData → Option α} : e2 fa fb k ρ = (fa ρ).bind fun x => (fb ρ).bind fun y => k x y := rfl
@[simp] theorem eB_ev {t : Rho → Option Bool} : eB t ρ = (t ρ).map PyData.bool := rfl
@[simp] theorem eT_ev : eT f ρ = (f ρ).bind dB := rfl
@[simp] theorem dB_ev {b : Bool} : dB (.bool b) = some b := rfl
@[simp] theorem eChain_ev {k k' : PyData → PyData → Option Bool} : eChain fa fb fc k k' ρ = (fa ρ).bind fun x => (fb ρ).bind fun y => (k x y).bind fun b => if b = true then (fc ρ).bind fun z => k' y z else some false := rfl
@[simp] theorem eNoPart_ev : eNoPart ρ = some none := rfl
@[simp] theorem ePart_ev : ePart f ρ = (f ρ).bind fun d => match d with
  | .int i => some (some i)
  | _ => none := rfl
@[simp] theorem eSl_ev {l u : Rho → Option (Option Int)} {k : PyData → Option Int → Option Int → Option PyData} : eSl f l u k ρ = (f ρ).bind fun x => (l ρ).bind fun i => (u ρ).bind fun j => k x i j := rfl
@[simp] theorem aNil_ev : aNil ρ = some [] := rfl
@[simp] theorem aCons_ev {l : Rho → Option (List PyData)} : aCons f l ρ = (f ρ).bind fun x => (l ρ).bind fun xs => some (x :: xs) := rfl
@[simp] theorem eTup_ev {l : Rho → Option (List PyData)} : eTup l ρ = (l ρ).bind fun ds => if ds.length ≤ 1000 then some (.tuple ds) else none := rfl
@[simp] theorem eLst_ev {l : Rho → Option (List PyData)} : eLst l ρ = (l ρ).bind fun ds => if ds.length ≤ 1000 then some ds else none := rfl
@[simp] theorem tAnd_ev {s t : Rho → Option Bool} : tAnd s t ρ = (s ρ).bind fun c => if c = true then t ρ else some false := rfl
@[simp] theorem tOr_ev {s t : Rho → Option Bool} : tOr s t ρ = (s ρ).bind fun c => if c = true then some true else t ρ := rfl
@[simp] theorem tNot_ev {s : Rho → Option Bool} : tNot s ρ = (s ρ).bind fun c => some (!c) := rfl
@[simp] theorem vAnd_ev : vAnd fa fb ρ = ((fa ρ).bind dB).bind fun c => if c = true then fb ρ else some (.bool false) := rfl
@[simp] theorem vOr_ev : vOr fa fb ρ = ((fa ρ).bind dB).bind fun c => if c = true then some (.bool true) else fb ρ := rfl
@[simp] theorem vNot_ev : vNot fa ρ = ((fa ρ).bind dB).bind fun c => some (.bool (!c)) := rfl
@[simp] theorem eIf_ev {t : Rho → Option Bool} : eIf t fa fb ρ = (t ρ).bind fun c => if c = true then fa ρ else fb ρ := rfl
@[simp] theorem eCall_ev {n : Nat} {m : List PyData → Option PyData} {l : Rho → Option (List PyData)} : eCall n m l ρ = (l ρ).bind fun ds => if ds.length = n then m ds else none := rfl
@[simp] theorem eLc_ev {it : Rho → Option (List PyData)} {tg : PyData → Rho → Option Rho} {tt : Rho → Option Bool} : eLc it tg tt f ρ = (it ρ).bind fun ds => lcGo tg tt f ρ ds := rfl
@[simp] theorem tYs_ev : tYs ρ = some true := rfl
@[simp] theorem lcGo_nil {tg : PyData → Rho → Option Rho} {tt : Rho → Option Bool} : lcGo tg tt f ρ [] = some [] := rfl
@[simp] theorem forGo_nil {tg : PyData → Rho → Option Rho} {ks : List Nat} : forGo tg g ks [] ρ = some (.nx ρ) := rfl
end
/-! ### operators on data -/
section
variable {d e x y : PyData} {ds es : List PyData} {a b : Str} {i j : Int}
@[simp] theorem dAddA_int : dAddA (.int i) (.int j) = some (.int (i + j)) := rfl
@[simp] theorem dAddA_str : dAddA (.str a) (.str b) = if a.length + b.length ≤ sizeLine then some (.str (a ++ b)) else none := rfl
@[simp] theorem dAddA_tup : dAddA (.tuple ds) (.tuple es) = if ds.length + es.length ≤ sizeLine then some (.tuple (ds ++ es)) else none := rfl
@[simp] theorem dAddA_lst : dAddA (.list ds) (.list es) = if ds.length + es.length ≤ sizeLine then some (.list (ds ++ es)) else none := rfl
@[simp] theorem dAddL_ev : dAddL (.list ds) (.list es) = if ds.length + es.length ≤ sizeLine then some (ds ++ es) else none := rfl
@[simp] theorem dSub_ev : dSub (.int i) (.int j) = some (.int (i - j)) := rfl
@[simp] theorem dDiv_ev : dDiv (.int i) (.int j) = if 0 < j ∧ j < 1073741824 then some (.int (i / j)) else none := rfl
@[simp] theorem dMod_ev : dMod (.int i) (.int j) = if 0 < j then some (.int (i % j)) else none := rfl
@[simp] theorem dMulA_int : dMulA (.int i) (.int j) = if (-(2 ^ 64) < i ∧ i < 2 ^ 64) ∨ (-(2 ^ 64) < j ∧ j < 2 ^ 64) then some (.int (i * j)) else none := rfl
@[simp] theorem dLtA_int : dLtA (.int i) (.int j) = some (decide (i < j)) := rfl
@[simp] theorem dLe_int : dLe (.int i) (.int j) = some (decide (i ≤ j)) := rfl
@[simp] theorem dGt_int : dGt (.int i) (.int j) = some (decide (j < i)) := rfl
@[simp] theorem dGe_int : dGe (.int i) (.int j) = some (decide (j ≤ i)) := rfl
@[simp] theorem dSl_tup {lo hi : Option Int} : dSl (.tuple ds) lo hi = some (.tuple (cutD ds lo hi)) := rfl
@[simp] theorem dSl_lst {lo hi : Option Int} : dSl (.list ds) lo hi = some (.list (cutD ds lo hi)) := rfl
@[simp] theorem dLen_tup : dLen (.tuple ds) = some (.int ds.length) := rfl
@[simp] theorem dLen_lst : dLen (.list ds) = some (.int ds.length) := rfl
@[simp] theorem dTuple_tup : dTuple (.tuple ds) = some (.tuple ds) := rfl
@[simp] theorem dTuple_lst : dTuple (.list ds) = some (.tuple ds) := rfl
@[simp] theorem dSeqs_tup : dSeqs (.tuple ds) = some ds := rfl
@[simp] theorem dSeqs_lst : dSeqs (.list ds) = some ds := rfl
@[simp] theorem dWalk_tup : dWalk (.tuple ds) = some ds := rfl
@[simp] theorem dWalk_lst : dWalk (.list ds) = some ds := rfl
@[simp] theorem dRng1_ev : dRng1 (.int i) = if -1000000 ≤ i ∧ i ≤ 1000000 then some (rints 0 i.toNat) else none := rfl
@[simp] theorem dRng2_ev : dRng2 (.int i) (.int j) = if -1000000 ≤ i ∧ i ≤ 1000000 ∧ j ≤ 1000000 ∧ -1000000 ≤ j then some (rints i (j - i).toNat) else none := rfl
@[simp] theorem dNotIn_ev : dNotIn x y = (dIn x y).map (!·) := rfl
@[simp] theorem dIs_none : dIs .none .none = some true := rfl
@[simp] theorem dIs_tup : dIs (.tuple ds) .none = some false := rfl
@[simp] theorem dIsNot_ev : dIsNot x y = (dIs x y).map (!·) := rfl
@[simp] theorem dIx_tup0 : dIx (.tuple (x :: ds)) (.int 0) = some x := by
  show atI (x :: ds) 0 = some x
  exact atI_nat (j := 0) rfl
@[simp] theorem dIx_tup1 : dIx (.tuple (x :: y :: ds)) (.int 1) = some y := by
  show atI (x :: y :: ds) 1 = some y
  exact atI_nat (j := 1) rfl
@[simp] theorem dIx_tup2 : dIx (.tuple (x :: y :: d :: ds)) (.int 2) = some d := by
  show atI (x :: y :: d :: ds) 2 = some d
  exact atI_nat (j := 2) rfl
@[simp] theorem dIx_tup3 : dIx (.tuple (x :: y :: d :: e :: ds)) (.int 3) = some e := by
  show atI (x :: y :: d :: e :: ds) 3 = some e
  exact atI_nat (j := 3) rfl
theorem cutD_from1 : cutD (x :: ds) (some 1) none = ds := by
  unfold cutD HT.sIx
  simp
theorem cutD_to2 : cutD (x :: y :: ds) none (some 2) = [x, y] := by
  unfold cutD HT.sIx
  simp
end
/-! ### == of told data -/
@[simp] theorem sz0 : 0 ≤ sizeLine := Nat.zero_le _
@[simp] theorem sz1 : 1 ≤ sizeLine := by rw [sizeLine_eq]; decide
@[simp] theorem sz2 : 2 ≤ sizeLine := by rw [sizeLine_eq]; decide
@[simp] theorem sz3 : 3 ≤ sizeLine := by rw [sizeLine_eq]; decide
@[simp] theorem sz4 : 4 ≤ sizeLine := by rw [sizeLine_eq]; decide
@[simp] theorem sz5 : 5 ≤ sizeLine := by rw [sizeLine_eq]; decide
@[simp] theorem sz6 : 6 ≤ sizeLine := by rw [sizeLine_eq]; decide
@[simp] theorem szl : 0 < sizeLine := by rw [sizeLine_eq]; decide
theorem pl_str {a : Str} : pl (.str a) = true := rfl
theorem pl_int {a : Int} : pl (.int a) = true := rfl
theorem dEq_str {a b : Str} : dEq (.str a) (.str b) = some (a == b) := rfl
theorem dEq_int {a b : Int} : dEq (.int a) (.int b) = some (a == b) := rfl
end TF

/-! TFy.lean -/
set_option Elab.async false
set_option linter.all false
set_option maxRecDepth 100000
/-! TF.y: evaluation of what TF.j, TF.k bring -/
namespace TF
open PySem PySem.Spec PyProof.Rows L2
section
variable {i j : Int} {ds es : List PyData} {d : PyData}
@[simp] theorem dAbs_ev : dAbs (.int i) = some (.int (if i < 0 then -i else i)) := rfl
@[simp] theorem dEnum_tup : dEnum (.tuple ds) = some (enumD 0 ds) := rfl
@[simp] theorem dEnum_lst : dEnum (.list ds) = some (enumD 0 ds) := rfl
@[simp] theorem dMax2_ev : dMax2 (.int i) (.int j) = some (.int (if j > i then j else i)) := rfl
@[simp] theorem dMin2_ev : dMin2 (.int i) (.int j) = some (.int (if j < i then j else i)) := rfl
theorem dSum_ints (ns : List Int) : dSum (.list (ns.map PyData.int)) = some (.int ns.sum) := by
  show (intsD _).map _ = _
  rw [intsD_map]; rfl
theorem dIndexT_strs {ys : List Str} {z : Str} {k : Nat} (h : idxS z ys = some k) : dIndexT (.tuple (ys.map PyData.str)) (.str z) = some (.int k) := by
  have e : strsD (ys.map PyData.str) = some ys := by
    clear h
    induction ys with
    | nil => rfl
    | cons y ys ih => simp only [List.map_cons, strsD, ih]; rfl
  show (strsD _).bind _ = _
  rw [e]
  simp [h]
theorem idxS_mem {z : Str} : ∀ {ys : List Str}, z ∈ ys → idxS z ys = some (ys.idxOf z)
  | [], h => by cases h
  | y :: ys, h => by
    unfold idxS
    by_cases e : y = z
    · rw [if_pos e]; simp [e]
    · rw [if_neg e]
      have h' : z ∈ ys := by
        rcases List.mem_cons.mp h with h | h
        · exact absurd h.symm e
        · exact h
      have eb : (y == z) = false := beq_eq_false_iff_ne.mpr e
      rw [idxS_mem h', List.idxOf_cons, eb]; rfl
theorem dIndex_mem {z : Str} {ys : List Str} (h : z ∈ ys) : dIndexT (.tuple (ys.map PyData.str)) (.str z) = some (.int (ys.idxOf z : Nat)) := dIndexT_strs (idxS_mem h)
end
end TF

/-! Tk.lean -/
set_option Elab.async false
set_option linter.all false
set_option maxRecDepth 100000
/-! TK: talks as Lean data; what they are as PyData -/
namespace TK
open PySem PySem.Spec PyProof.Rows L2 TF
inductive Step where
  | tell (a b w : Str)
  | choice (bs : List (List Step))
  | round (s : List Step)
  | both (s t : List Step)
abbrev Steps := List Step
theorem Step.ind {P : Step → Prop} (h1 : ∀ a b w, P (.tell a b w)) (h2 : ∀ bs, (∀ b ∈ bs, ∀ s ∈ b, P s) → P (.choice bs)) (h3 : ∀ l, (∀ s ∈ l, P s) → P (.round l)) (h4 : ∀ l r, (∀ s ∈ l, P s) → (∀ s ∈ r, P s) → P (.both l r)) : ∀ s, P s
  | .tell a b w => h1 a b w
  | .choice bs => h2 bs fun b hb s hs => Step.ind h1 h2 h3 h4 s
  | .round l => h3 l fun s hs => Step.ind h1 h2 h3 h4 s
  | .both l r => h4 l r (fun s hs => Step.ind h1 h2 h3 h4 s) (fun s hs => Step.ind h1 h2 h3 h4 s)
termination_by s => sizeOf s
decreasing_by
  all_goals simp_wf
  · have := List.sizeOf_lt_of_mem hb; have := List.sizeOf_lt_of_mem hs; omega
  · have := List.sizeOf_lt_of_mem hs; omega
  · have := List.sizeOf_lt_of_mem hs; omega
  · have := List.sizeOf_lt_of_mem hs; omega
/-- as data -/
def sD : Step → PyData
  | .tell a b w => .tuple [.str "tell", .str a, .str b, .str w]
  | .choice bs => .tuple [.str "choice", .tuple (bs.map fun b => .tuple (b.map sD))]
  | .round s => .tuple [.str "round", .tuple (s.map sD)]
  | .both s t => .tuple [.str "both", .tuple (s.map sD), .tuple (t.map sD)]
termination_by s => sizeOf s
decreasing_by
  all_goals simp_wf
  all_goals first
    | (have h1 := List.sizeOf_lt_of_mem ‹b ∈ bs›; have h2 := List.sizeOf_lt_of_mem ‹_ ∈ b›; omega)
    | (have h2 := List.sizeOf_lt_of_mem ‹_ ∈ _›; omega)
/-- steps as data -/
def ssD (s : Steps) : PyData := .tuple (s.map sD)
theorem sD_tell (a b w : Str) : sD (.tell a b w) = .tuple [.str "tell", .str a, .str b, .str w] := by rw [sD]
theorem sD_choice (bs : List Steps) : sD (.choice bs) = .tuple [.str "choice", .tuple (bs.map ssD)] := by rw [sD]; rfl
theorem sD_round (s : Steps) : sD (.round s) = .tuple [.str "round", ssD s] := by rw [sD]; rfl
theorem sD_both (s t : Steps) : sD (.both s t) = .tuple [.str "both", ssD s, ssD t] := by rw [sD]; rfl
/-- how deep -/
def dep : Step → Nat
  | .tell _ _ _ => 0
  | .choice bs => 1 + (bs.map fun b => (b.map dep).foldr max 0).foldr max 0
  | .round s => 1 + (s.map dep).foldr max 0
  | .both s t => 1 + max ((s.map dep).foldr max 0) ((t.map dep).foldr max 0)
termination_by s => sizeOf s
decreasing_by
  all_goals simp_wf
  all_goals first
    | (have h1 := List.sizeOf_lt_of_mem ‹b ∈ bs›; have h2 := List.sizeOf_lt_of_mem ‹_ ∈ b›; omega)
    | (have h2 := List.sizeOf_lt_of_mem ‹_ ∈ _›; omega)
def deps (s : Steps) : Nat := (s.map dep).foldr max 0
theorem max_le {l : List Nat} {n : Nat} : l.foldr max 0 ≤ n ↔ ∀ x ∈ l, x ≤ n := by
  induction l with
  | nil => simp
  | cons a l ih => rw [List.foldr_cons, Nat.max_le, ih]; simp
theorem deps_le {s : Steps} {n : Nat} : deps s ≤ n ↔ ∀ x ∈ s, dep x ≤ n := by
  unfold deps
  rw [max_le]; simp
theorem dep_tell (a b w : Str) : dep (.tell a b w) = 0 := by rw [dep]
theorem dep_choice (bs : List Steps) : dep (.choice bs) = 1 + (bs.map deps).foldr max 0 := by rw [dep]; rfl
theorem dep_round (s : Steps) : dep (.round s) = 1 + deps s := by rw [dep]; rfl
theorem dep_both (s t : Steps) : dep (.both s t) = 1 + max (deps s) (deps t) := by rw [dep]; rfl
theorem dep_choice_le {bs : List Steps} {n : Nat} (h : dep (.choice bs) ≤ n + 1) : ∀ b ∈ bs, deps b ≤ n := by
  rw [dep_choice] at h
  have : (bs.map deps).foldr max 0 ≤ n := by omega
  rw [max_le] at this
  intro b hb
  exact this _ (List.mem_map_of_mem hb)
/-- how many rows -/
def hgt : Step → Nat
  | .tell _ _ _ => 1
  | .choice bs => 1 + (bs.map fun b => (b.map hgt).sum).sum + bs.length
  | .round s => 2 + (s.map hgt).sum
  | .both s t => 3 + ((s.map hgt).sum + (t.map hgt).sum)
termination_by s => sizeOf s
decreasing_by
  all_goals simp_wf
  all_goals first
    | (have h1 := List.sizeOf_lt_of_mem ‹b ∈ bs›; have h2 := List.sizeOf_lt_of_mem ‹_ ∈ b›; omega)
    | (have h2 := List.sizeOf_lt_of_mem ‹_ ∈ _›; omega)
def hgts (s : Steps) : Nat := (s.map hgt).sum
theorem hgt_tell (a b w : Str) : hgt (.tell a b w) = 1 := by rw [hgt]
theorem hgt_choice (bs : List Steps) : hgt (.choice bs) = 1 + (bs.map hgts).sum + bs.length := by rw [hgt]; rfl
theorem hgt_round (s : Steps) : hgt (.round s) = 2 + hgts s := by rw [hgt]; rfl
theorem hgt_both (s t : Steps) : hgt (.both s t) = 3 + (hgts s + hgts t) := by rw [hgt]; rfl
theorem hgts_nil : hgts [] = 0 := rfl
theorem hgts_cons (x : Step) (s : Steps) : hgts (x :: s) = hgt x + hgts s := by simp [hgts]
theorem hgts_append (s t : Steps) : hgts (s ++ t) = hgts s + hgts t := by simp [hgts]
theorem hgt_pos (s : Step) : 1 ≤ hgt s := by
  cases s
  · rw [hgt_tell]; exact Nat.le_refl _
  · rw [hgt_choice]; omega
  · rw [hgt_round]; omega
  · rw [hgt_both]; omega
theorem len_hgts (s : Steps) : s.length ≤ hgts s := by
  induction s with
  | nil => exact Nat.zero_le _
  | cons x s ih => rw [hgts_cons, List.length_cons]; have := hgt_pos x; omega
theorem sum_mem {l : List Nat} {x : Nat} (h : x ∈ l) : x ≤ l.sum := by
  induction l with
  | nil => cases h
  | cons a l ih =>
    rw [List.sum_cons]
    rcases List.mem_cons.mp h with rfl | h
    · omega
    · have := ih h; omega
theorem hgts_mem {x : Step} {s : Steps} (h : x ∈ s) : hgt x ≤ hgts s := sum_mem (List.mem_map_of_mem h)
theorem hgts_memB {b : Steps} {bs : List Steps} (h : b ∈ bs) : hgts b ≤ (bs.map hgts).sum := sum_mem (List.mem_map_of_mem h)

/-! ### plain, depth -/
theorem depthAll_le {ds : List PyData} {n : Nat} : PyData.depthAll ds ≤ n ↔ ∀ d ∈ ds, d.depth ≤ n := by
  induction ds with
  | nil => simp [PyData.depthAll]
  | cons a l ih => rw [PyData.depthAll, Nat.max_le, ih]; simp
theorem plainAll_iff {ds : List PyData} : PyData.plainAll ds = true ↔ ∀ d ∈ ds, d.plain = true := by
  induction ds with
  | nil => simp [PyData.plainAll]
  | cons a l ih => rw [PyData.plainAll, Bool.and_eq_true, ih]; simp
theorem plain_tup {ds : List PyData} : (PyData.tuple ds).plain = true ↔ ∀ d ∈ ds, d.plain = true := by rw [PyData.plain, plainAll_iff]
theorem plain_lst {ds : List PyData} : (PyData.list ds).plain = true ↔ ∀ d ∈ ds, d.plain = true := by rw [PyData.plain, plainAll_iff]
theorem depth_tup {ds : List PyData} {n : Nat} : (PyData.tuple ds).depth ≤ n + 1 ↔ ∀ d ∈ ds, d.depth ≤ n := by rw [PyData.depth, ← depthAll_le]; omega
theorem depth_lst {ds : List PyData} {n : Nat} : (PyData.list ds).depth ≤ n + 1 ↔ ∀ d ∈ ds, d.depth ≤ n := by rw [PyData.depth, ← depthAll_le]; omega
theorem depth_str {a : Str} : (PyData.str a).depth = 0 := by rw [PyData.depth]
theorem depth_int {a : Int} : (PyData.int a).depth = 0 := by rw [PyData.depth]
theorem plain_str {a : Str} : (PyData.str a).plain = true := by rw [PyData.plain]
theorem plain_int {a : Int} : (PyData.int a).plain = true := by rw [PyData.plain]
theorem sD_plain (s : Step) : (sD s).plain = true := by
  induction s using Step.ind with
  | h1 a b w => rw [sD_tell, plain_tup]; simp [plain_str]
  | h2 bs ih =>
    rw [sD_choice, plain_tup]
    simp only [List.mem_cons, List.not_mem_nil, or_false, forall_eq_or_imp, forall_eq, plain_str, true_and, plain_tup, List.mem_map, forall_exists_index, and_imp, forall_apply_eq_imp_iff₂]
    intro b hb
    unfold ssD
    rw [plain_tup]
    simp only [List.mem_map, forall_exists_index, and_imp, forall_apply_eq_imp_iff₂]
    exact ih b hb
  | h3 l ih =>
    rw [sD_round, plain_tup]
    simp only [List.mem_cons, List.not_mem_nil, or_false, forall_eq_or_imp, forall_eq, plain_str, true_and]
    unfold ssD
    rw [plain_tup]
    simp only [List.mem_map, forall_exists_index, and_imp, forall_apply_eq_imp_iff₂]
    exact ih
  | h4 l r ih ih2 =>
    rw [sD_both, plain_tup]
    simp only [List.mem_cons, List.not_mem_nil, or_false, forall_eq_or_imp, forall_eq, plain_str, true_and]
    unfold ssD
    rw [plain_tup, plain_tup]
    simp only [List.mem_map, forall_exists_index, and_imp, forall_apply_eq_imp_iff₂]
    exact ⟨ih, ih2⟩
theorem ssD_plain (s : Steps) : (ssD s).plain = true := by
  unfold ssD
  rw [plain_tup]
  simp only [List.mem_map, forall_exists_index, and_imp, forall_apply_eq_imp_iff₂]
  exact fun s _ => sD_plain s
theorem ssD_depth_of {s : Steps} {n : Nat} (h : ∀ x ∈ s, (sD x).depth ≤ n) : (ssD s).depth ≤ n + 1 := by
  unfold ssD
  rw [depth_tup]
  simp only [List.mem_map, forall_exists_index, and_imp, forall_apply_eq_imp_iff₂]
  exact h
theorem sD_depth : ∀ (n : Nat) (s : Step), dep s ≤ n → (sD s).depth ≤ 3 * n + 1
  | n, .tell a b w, h => by
    rw [sD_tell, depth_tup]
    simp [depth_str]
  | 0, .choice bs, h => by rw [dep_choice] at h; omega
  | 0, .round s, h => by rw [dep_round] at h; omega
  | 0, .both s t, h => by rw [dep_both] at h; omega
  | n + 1, .choice bs, h => by
    have hb := dep_choice_le h
    have e : 3 * (n + 1) + 1 = (3 * n + 3) + 1 := by omega
    rw [sD_choice, e, depth_tup]
    simp only [List.mem_cons, List.not_mem_nil, or_false, forall_eq_or_imp, forall_eq, depth_str]
    refine ⟨by omega, ?_⟩
    rw [depth_tup]
    simp only [List.mem_map, forall_exists_index, and_imp, forall_apply_eq_imp_iff₂]
    exact fun b hbm => ssD_depth_of fun x hx => sD_depth n x (deps_le.mp (hb b hbm) x hx)
  | n + 1, .round s, h => by
    rw [dep_round] at h
    have e : 3 * (n + 1) + 1 = (3 * n + 3) + 1 := by omega
    rw [sD_round, e, depth_tup]
    simp only [List.mem_cons, List.not_mem_nil, or_false, forall_eq_or_imp, forall_eq, depth_str]
    refine ⟨by omega, ?_⟩
    exact Nat.le_succ_of_le (ssD_depth_of fun x hx => sD_depth n x (deps_le.mp (by omega) x hx))
  | n + 1, .both s t, h => by
    rw [dep_both] at h
    have e : 3 * (n + 1) + 1 = (3 * n + 3) + 1 := by omega
    rw [sD_both, e, depth_tup]
    simp only [List.mem_cons, List.not_mem_nil, or_false, forall_eq_or_imp, forall_eq, depth_str]
    exact ⟨by omega, Nat.le_succ_of_le (ssD_depth_of fun x hx => sD_depth n x (deps_le.mp (by omega) x hx)), Nat.le_succ_of_le (ssD_depth_of fun x hx => sD_depth n x (deps_le.mp (by omega) x hx))⟩
theorem ssD_depth {n : Nat} {s : Steps} (h : deps s ≤ n) : (ssD s).depth ≤ 3 * n + 2 := ssD_depth_of fun x hx => sD_depth n x (deps_le.mp h x hx)
theorem pl_of {d : PyData} (h : d.plain = true) (h2 : d.depth ≤ 64) : pl d = true := by
  unfold pl
  rw [h, decide_eq_true h2] <;> rfl
theorem pl_sD {s : Step} (h : dep s ≤ 20) : pl (sD s) = true := pl_of (sD_plain s) (by have := sD_depth 20 s h; omega)
theorem pl_ssD {s : Steps} (h : deps s ≤ 20) : pl (ssD s) = true := pl_of (ssD_plain s) (by have := ssD_depth h; omega)

/-! ### == is equality -/
mutual
/-- no truths, no dicts -/
def nb : PyData → Bool
  | .none | .int _ | .str _ => true
  | .bool _ | .dict _ => false
  | .list xs | .tuple xs => nbA xs
def nbA : List PyData → Bool
  | [] => true
  | x :: xs => nb x && nbA xs
end
mutual
theorem eqv_iff : ∀ d e : PyData, nb d = true → nb e = true → (PyData.eqv d e = true ↔ d = e)
  | .none, e, _, h => by cases e <;> simp_all [PyData.eqv, nb]
  | .int i, e, _, h => by cases e <;> simp_all [PyData.eqv, nb]
  | .str x, e, _, h => by cases e <;> simp_all [PyData.eqv, nb]
  | .bool _, _, h, _ => by simp [nb] at h
  | .dict _, _, h, _ => by simp [nb] at h
  | .list xs, e, h, h' => by
    cases e with
    | list ys =>
      simp only [nb] at h h'
      simp only [PyData.eqv, PyData.list.injEq]
      exact eqvA_iff xs ys h h'
    | _ => simp_all [PyData.eqv, nb]
  | .tuple xs, e, h, h' => by
    cases e with
    | tuple ys =>
      simp only [nb] at h h'
      simp only [PyData.eqv, PyData.tuple.injEq]
      exact eqvA_iff xs ys h h'
    | _ => simp_all [PyData.eqv, nb]
theorem eqvA_iff : ∀ d e : List PyData, nbA d = true → nbA e = true → (PyData.eqvAll d e = true ↔ d = e)
  | [], [], _, _ => by simp [PyData.eqvAll]
  | [], _ :: _, _, _ => by simp [PyData.eqvAll]
  | _ :: _, [], _, _ => by simp [PyData.eqvAll]
  | x :: xs, y :: ys, h, h' => by
    simp only [nbA, Bool.and_eq_true] at h h'
    simp only [PyData.eqvAll, Bool.and_eq_true, List.cons.injEq, eqv_iff x y h.1 h'.1, eqvA_iff xs ys h.2 h'.2]
end
theorem nbA_iff {ds : List PyData} : nbA ds = true ↔ ∀ d ∈ ds, nb d = true := by
  induction ds with
  | nil => simp [nbA]
  | cons a l ih => rw [nbA, Bool.and_eq_true, ih]; simp
theorem nb_tup {ds : List PyData} : nb (PyData.tuple ds) = true ↔ ∀ d ∈ ds, nb d = true := by rw [nb, nbA_iff]
theorem nb_lst {ds : List PyData} : nb (PyData.list ds) = true ↔ ∀ d ∈ ds, nb d = true := by rw [nb, nbA_iff]
theorem nb_str {a : Str} : nb (.str a) = true := by rw [nb]
theorem nb_int {a : Int} : nb (.int a) = true := by rw [nb]
theorem sD_nb (s : Step) : nb (sD s) = true := by
  induction s using Step.ind with
  | h1 a b w => rw [sD_tell, nb_tup]; simp [nb_str]
  | h2 bs ih =>
    rw [sD_choice, nb_tup]
    simp only [List.mem_cons, List.not_mem_nil, or_false, forall_eq_or_imp, forall_eq, nb_str, true_and, nb_tup, List.mem_map, forall_exists_index, and_imp, forall_apply_eq_imp_iff₂]
    intro b hb
    unfold ssD
    rw [nb_tup]
    simp only [List.mem_map, forall_exists_index, and_imp, forall_apply_eq_imp_iff₂]
    exact ih b hb
  | h3 l ih =>
    rw [sD_round, nb_tup]
    simp only [List.mem_cons, List.not_mem_nil, or_false, forall_eq_or_imp, forall_eq, nb_str, true_and]
    unfold ssD
    rw [nb_tup]
    simp only [List.mem_map, forall_exists_index, and_imp, forall_apply_eq_imp_iff₂]
    exact ih
  | h4 l r ih ih2 =>
    rw [sD_both, nb_tup]
    simp only [List.mem_cons, List.not_mem_nil, or_false, forall_eq_or_imp, forall_eq, nb_str, true_and]
    unfold ssD
    rw [nb_tup, nb_tup]
    simp only [List.mem_map, forall_exists_index, and_imp, forall_apply_eq_imp_iff₂]
    exact ⟨ih, ih2⟩
theorem ssD_nb (s : Steps) : nb (ssD s) = true := by
  unfold ssD
  rw [nb_tup]
  simp only [List.mem_map, forall_exists_index, and_imp, forall_apply_eq_imp_iff₂]
  exact fun s _ => sD_nb s
theorem map_inj_on {α β : Type} {f : α → β} : ∀ {l m : List α}, (∀ a ∈ l, ∀ b, f a = f b → a = b) → l.map f = m.map f → l = m
  | [], [], _, _ => rfl
  | [], _ :: _, _, h => by simp at h
  | _ :: _, [], _, h => by simp at h
  | a :: l, b :: m, i, h => by
    simp only [List.map_cons, List.cons.injEq] at h
    rw [i a (by simp) b h.1, map_inj_on (fun x hx => i x (by simp [hx])) h.2]
theorem sD_inj (s : Step) : ∀ t, sD s = sD t → s = t := by
  have d1 : ("tell" : Str) ≠ "choice" := by decide
  have d2 : ("tell" : Str) ≠ "round" := by decide
  have d3 : ("tell" : Str) ≠ "both" := by decide
  have d4 : ("choice" : Str) ≠ "round" := by decide
  induction s using Step.ind with
  | h1 a b w =>
    intro t h
    cases t with
    | tell a' b' w' => rw [sD_tell, sD_tell] at h; simp at h; obtain ⟨rfl, rfl, rfl⟩ := h; rfl
    | choice bs => rw [sD_tell, sD_choice] at h; simp at h
    | round l => rw [sD_tell, sD_round] at h; simp at h
    | both l r => rw [sD_tell, sD_both] at h; simp at h
  | h2 bs ih =>
    intro t h
    cases t with
    | tell a' b' w' => rw [sD_tell, sD_choice] at h; simp at h
    | choice bs' =>
      rw [sD_choice, sD_choice] at h
      simp only [PyData.tuple.injEq, List.cons.injEq, and_true, true_and] at h
      congr 1
      refine map_inj_on (f := ssD) (fun b hb c e => ?_) h
      unfold ssD at e
      exact map_inj_on (fun x hx y e2 => ih b hb x hx y e2) (PyData.tuple.inj e)
    | round l => rw [sD_choice, sD_round] at h; simp only [PyData.tuple.injEq, List.cons.injEq, PyData.str.injEq] at h; exact absurd h.1 d4
    | both l r => rw [sD_choice, sD_both] at h; simp at h
  | h3 l ih =>
    intro t h
    cases t with
    | tell a' b' w' => rw [sD_tell, sD_round] at h; simp at h
    | choice bs => rw [sD_choice, sD_round] at h; simp only [PyData.tuple.injEq, List.cons.injEq, PyData.str.injEq] at h; exact absurd h.1.symm d4
    | round l' =>
      rw [sD_round, sD_round] at h
      simp only [PyData.tuple.injEq, List.cons.injEq, and_true, true_and] at h
      congr 1
      unfold ssD at h
      exact map_inj_on (fun x hx y e2 => ih x hx y e2) (PyData.tuple.inj h)
    | both l r => rw [sD_round, sD_both] at h; simp at h
  | h4 l r ih ih2 =>
    intro t h
    cases t with
    | tell a' b' w' => rw [sD_tell, sD_both] at h; simp at h
    | choice bs => rw [sD_choice, sD_both] at h; simp at h
    | round l' => rw [sD_round, sD_both] at h; simp at h
    | both l' r' =>
      rw [sD_both, sD_both] at h
      simp only [PyData.tuple.injEq, List.cons.injEq, and_true, true_and] at h
      unfold ssD at h
      rw [map_inj_on (fun x hx y e2 => ih x hx y e2) (PyData.tuple.inj h.1), map_inj_on (fun x hx y e2 => ih2 x hx y e2) (PyData.tuple.inj h.2)]
theorem ssD_inj {s t : Steps} (h : ssD s = ssD t) : s = t := map_inj_on (fun x _ y e => sD_inj x y e) (PyData.tuple.inj h)
noncomputable instance : DecidableEq Step := fun a b => Classical.propDecidable (a = b)
theorem bool_iff {a : Bool} {p : Prop} [Decidable p] (h : a = true ↔ p) : a = decide p := by
  by_cases q : p
  · rw [decide_eq_true q]; exact h.mpr q
  · rw [decide_eq_false q]
    cases a
    · rfl
    · exact absurd (h.mp rfl) q
theorem eqv_ssD (s t : Steps) : PyData.eqv (ssD s) (ssD t) = decide (s = t) :=
  bool_iff ((eqv_iff _ _ (ssD_nb s) (ssD_nb t)).trans ⟨ssD_inj, fun e => by rw [e]⟩)
theorem dEq_ssD {s t : Steps} (h : deps s ≤ 20) (h' : deps t ≤ 20) : dEq (ssD s) (ssD t) = some (decide (s = t)) := by
  unfold dEq
  rw [if_pos ⟨pl_ssD h, pl_ssD h'⟩, eqv_ssD]
theorem dNe_ssD {s t : Steps} (h : deps s ≤ 20) (h' : deps t ≤ 20) : dNe (ssD s) (ssD t) = some (!decide (s = t)) := by
  unfold dNe
  rw [if_pos ⟨pl_ssD h, pl_ssD h'⟩, eqv_ssD]
end TK

/-! Tl.lean -/
set_option Elab.async false
set_option linter.all false
set_option maxRecDepth 100000
/-! TK, on: loops over told lists; letters, views -/
namespace TK
open PySem PySem.Spec PyProof.Rows L2 TF
theorem forGo_from {α : Type} {e : α → PyData} {tg : PyData → Rho → Option Rho} {body : Rho → Option Fl} {ks : List Nat} (I : List α → Rho) (xs : List α)
    (h : ∀ pre x post, xs = pre ++ x :: post → ∃ r r', tg (e x) (I pre) = some r ∧ (body r = some (.nx r') ∨ body r = some (.ct r')) ∧ clr ks r' = I (pre ++ [x])) :
    ∀ post pre, xs = pre ++ post → forGo tg body ks (post.map e) (I pre) = some (.nx (I xs))
  | [], pre, hx => by rw [List.append_nil] at hx; subst hx; rfl
  | x :: post, pre, hx => by
    obtain ⟨r, r', h1, h2, h3⟩ := h pre x post hx
    have ih := forGo_from I xs h post (pre ++ [x]) (by rw [hx, List.append_assoc]; rfl)
    rw [List.map_cons]
    unfold forGo
    rw [h1]
    simp only [Option.bind_some]
    rcases h2 with h2 | h2
    · rw [h2]; simp only [Option.bind_some]; rw [h3]; exact ih
    · rw [h2]; simp only [Option.bind_some]; rw [h3]; exact ih
theorem forGo_map {α : Type} {e : α → PyData} {tg : PyData → Rho → Option Rho} {body : Rho → Option Fl} {ks : List Nat} (I : List α → Rho) (xs : List α)
    (h : ∀ pre x post, xs = pre ++ x :: post → ∃ r r', tg (e x) (I pre) = some r ∧ (body r = some (.nx r') ∨ body r = some (.ct r')) ∧ clr ks r' = I (pre ++ [x])) :
    forGo tg body ks (xs.map e) (I []) = some (.nx (I xs)) := forGo_from I xs h xs [] rfl
theorem lcGo_filter {α : Type} {e : α → PyData} {tg : PyData → Rho → Option Rho} {tt : Rho → Option Bool} {el : Rho → Option PyData} {ρ : Rho} (p : α → Bool) (f : α → PyData) : ∀ (xs : List α),
    (∀ x ∈ xs, ∃ r, tg (e x) ρ = some r ∧ tt r = some (p x) ∧ (p x = true → el r = some (f x))) → lcGo tg tt el ρ (xs.map e) = some ((xs.filter p).map f)
  | [], _ => rfl
  | x :: xs, h => by
    obtain ⟨r, h1, h2, h3⟩ := h x (by simp)
    have ih := lcGo_filter p f xs fun y hy => h y (by simp [hy])
    rw [List.map_cons]
    unfold lcGo
    rw [h1]
    simp only [Option.bind_some, h2]
    cases hp : p x with
    | true => rw [if_pos rfl, h3 hp, ih, List.filter_cons_of_pos hp]; rfl
    | false => rw [if_neg (by decide), ih, List.filter_cons_of_neg (by simp [hp])]
theorem lcGo_map {α : Type} {e : α → PyData} {tg : PyData → Rho → Option Rho} {el : Rho → Option PyData} {ρ : Rho} (f : α → PyData) (xs : List α)
    (h : ∀ x ∈ xs, ∃ r, tg (e x) ρ = some r ∧ el r = some (f x)) : lcGo tg tYs el ρ (xs.map e) = some (xs.map f) := by
  have := lcGo_filter (tt := tYs) (fun _ => true) f xs fun x hx => let ⟨r, h1, h2⟩ := h x hx; ⟨r, h1, rfl, fun _ => h2⟩
  rw [this, List.filter_eq_self.mpr (fun _ _ => rfl)]
theorem eqv_self {d : PyData} (h : nb d = true) : PyData.eqv d d = true := (eqv_iff d d h h).mpr rfl
theorem dEq_self {d : PyData} (h : nb d = true) (h2 : pl d = true) : dEq d d = some true := by unfold dEq; rw [if_pos ⟨h2, h2⟩, eqv_self h]
theorem dNe_self {d : PyData} (h : nb d = true) (h2 : pl d = true) : dNe d d = some false := by unfold dNe; rw [if_pos ⟨h2, h2⟩, eqv_self h]; rfl
theorem dEq_iff {d e : PyData} (h : nb d = true) (h2 : pl d = true) (h' : nb e = true) (h2' : pl e = true) [Decidable (d = e)] : dEq d e = some (decide (d = e)) := by
  unfold dEq; rw [if_pos ⟨h2, h2'⟩, bool_iff (eqv_iff d e h h')]
theorem dNe_iff {d e : PyData} (h : nb d = true) (h2 : pl d = true) (h' : nb e = true) (h2' : pl e = true) [Decidable (d = e)] : dNe d e = some (!decide (d = e)) := by
  unfold dNe; rw [if_pos ⟨h2, h2'⟩, bool_iff (eqv_iff d e h h')]
/-! ### letters -/
abbrev Lt := Str × Str × Str
def ltD (l : Lt) : PyData := .tuple [.str l.1, .str l.2.1, .str l.2.2]
def lts1 : Step → List Lt
  | .tell a b w => [(a, b, w)]
  | .choice bs => (bs.map fun b => (b.map lts1).flatten).flatten
  | .round s => (s.map lts1).flatten
  | .both s t => (s.map lts1).flatten ++ (t.map lts1).flatten
termination_by s => sizeOf s
decreasing_by
  all_goals simp_wf
  all_goals first
    | (have h1 := List.sizeOf_lt_of_mem ‹b ∈ bs›; have h2 := List.sizeOf_lt_of_mem ‹_ ∈ b›; omega)
    | (have h2 := List.sizeOf_lt_of_mem ‹_ ∈ _›; omega)
def lts (s : Steps) : List Lt := (s.map lts1).flatten
theorem lts1_tell (a b w : Str) : lts1 (.tell a b w) = [(a, b, w)] := by rw [lts1]
theorem lts1_choice (bs : List Steps) : lts1 (.choice bs) = (bs.map lts).flatten := by rw [lts1]; rfl
theorem lts1_round (s : Steps) : lts1 (.round s) = lts s := by rw [lts1]; rfl
theorem lts1_both (s t : Steps) : lts1 (.both s t) = lts s ++ lts t := by rw [lts1]; rfl
theorem lts_nil : lts [] = [] := rfl
theorem lts_cons (x : Step) (s : Steps) : lts (x :: s) = lts1 x ++ lts s := by simp [lts]
theorem lts_append (s t : Steps) : lts (s ++ t) = lts s ++ lts t := by simp [lts]
theorem len_sum_le {α : Type} {f : α → List Lt} {g : α → Nat} : ∀ (l : List α), (∀ x ∈ l, (f x).length ≤ g x) → (l.map f).flatten.length ≤ (l.map g).sum
  | [], _ => Nat.le_refl _
  | x :: l, h => by
    have h1 := h x (by simp)
    have h2 := len_sum_le l fun y hy => h y (by simp [hy])
    simp only [List.map_cons, List.flatten_cons, List.length_append, List.sum_cons]
    omega
theorem lts1_len (s : Step) : (lts1 s).length ≤ hgt s := by
  induction s using Step.ind with
  | h1 a b w => rw [lts1_tell, hgt_tell]; exact Nat.le_refl _
  | h2 bs ih =>
    rw [lts1_choice, hgt_choice]
    have : (bs.map lts).flatten.length ≤ (bs.map hgts).sum := len_sum_le bs fun b hb => len_sum_le b fun x hx => ih b hb x hx
    omega
  | h3 l ih =>
    rw [lts1_round, hgt_round]
    have : (lts l).length ≤ hgts l := len_sum_le l ih
    omega
  | h4 l r ih ih2 =>
    rw [lts1_both, hgt_both, List.length_append]
    have h1 : (lts l).length ≤ hgts l := len_sum_le l ih
    have h2 : (lts r).length ≤ hgts r := len_sum_le r ih2
    omega
theorem lts_len (s : Steps) : (lts s).length ≤ hgts s := len_sum_le s fun x _ => lts1_len x
/-! ### what a hand sees -/
def vw (h : Str) : Step → Steps
  | .tell a b w => if h ∈ [a, b] then [.tell a b w] else []
  | .choice bs => [.choice (bs.map fun b => (b.map (vw h)).flatten)]
  | .round s => [.round (s.map (vw h)).flatten]
  | .both s t => [.both (s.map (vw h)).flatten (t.map (vw h)).flatten]
termination_by s => sizeOf s
decreasing_by
  all_goals simp_wf
  all_goals first
    | (have h1 := List.sizeOf_lt_of_mem ‹b ∈ bs›; have h2 := List.sizeOf_lt_of_mem ‹_ ∈ b›; omega)
    | (have h2 := List.sizeOf_lt_of_mem ‹_ ∈ _›; omega)
def vws (h : Str) (s : Steps) : Steps := (s.map (vw h)).flatten
theorem vw_tell (h a b w : Str) : vw h (.tell a b w) = if h ∈ [a, b] then [.tell a b w] else [] := by rw [vw]
theorem vw_choice (h : Str) (bs : List Steps) : vw h (.choice bs) = [.choice (bs.map (vws h))] := by rw [vw]; rfl
theorem vw_round (h : Str) (s : Steps) : vw h (.round s) = [.round (vws h s)] := by rw [vw]; rfl
theorem vw_both (h : Str) (s t : Steps) : vw h (.both s t) = [.both (vws h s) (vws h t)] := by rw [vw]; rfl
theorem vws_nil (h : Str) : vws h [] = [] := rfl
theorem vws_cons (h : Str) (x : Step) (s : Steps) : vws h (x :: s) = vw h x ++ vws h s := by simp [vws]
theorem vws_append (h : Str) (s t : Steps) : vws h (s ++ t) = vws h s ++ vws h t := by simp [vws]
theorem vw_len (h : Str) (s : Step) : (vw h s).length ≤ 1 := by
  cases s
  · rw [vw_tell]; split <;> simp
  · rw [vw_choice]; simp
  · rw [vw_round]; simp
  · rw [vw_both]; simp
theorem vws_len (h : Str) (s : Steps) : (vws h s).length ≤ s.length := by
  induction s with
  | nil => exact Nat.le_refl _
  | cons x s ih => rw [vws_cons, List.length_append, List.length_cons]; have := vw_len h x; omega
theorem vw_dep (h : Str) (s : Step) : ∀ x ∈ vw h s, dep x ≤ dep s := by
  induction s using Step.ind with
  | h1 a b w =>
    intro x hx
    rw [vw_tell] at hx
    split at hx
    · simp at hx; subst hx; exact Nat.le_refl _
    · cases hx
  | h2 bs ih =>
    intro x hx
    rw [vw_choice, List.mem_singleton] at hx
    subst hx
    rw [dep_choice, dep_choice]
    refine Nat.add_le_add_left (max_le.mpr ?_) 1
    simp only [List.mem_map, forall_exists_index, and_imp, forall_apply_eq_imp_iff₂]
    intro b hb
    have hb2 : deps b ≤ (bs.map deps).foldr max 0 := max_le.mp (Nat.le_refl _) _ (List.mem_map_of_mem hb)
    rw [deps_le]
    intro y hy
    unfold vws at hy
    simp only [List.mem_flatten, List.mem_map] at hy
    obtain ⟨l, ⟨z, hz, rfl⟩, hy⟩ := hy
    have h3 := ih b hb z hz y hy
    have h4 := deps_le.mp (Nat.le_refl (deps b)) z hz
    omega
  | h3 l ih =>
    intro x hx
    rw [vw_round, List.mem_singleton] at hx
    subst hx
    rw [dep_round, dep_round]
    refine Nat.add_le_add_left (deps_le.mpr fun y hy => ?_) 1
    unfold vws at hy
    simp only [List.mem_flatten, List.mem_map] at hy
    obtain ⟨l', ⟨z, hz, rfl⟩, hy⟩ := hy
    have h3 := ih z hz y hy
    have h4 := deps_le.mp (Nat.le_refl (deps l)) z hz
    omega
  | h4 l r ih ih2 =>
    intro x hx
    rw [vw_both, List.mem_singleton] at hx
    subst hx
    rw [dep_both, dep_both]
    have q : ∀ (l : Steps), (∀ z ∈ l, ∀ y ∈ vw h z, dep y ≤ dep z) → deps (vws h l) ≤ deps l := fun l ih => deps_le.mpr fun y hy => by
      unfold vws at hy
      simp only [List.mem_flatten, List.mem_map] at hy
      obtain ⟨l', ⟨z, hz, rfl⟩, hy⟩ := hy
      have h3 := ih z hz y hy
      have h4 := deps_le.mp (Nat.le_refl (deps l)) z hz
      omega
    have h1 := q l ih
    have h2 := q r ih2
    omega
theorem vws_dep (h : Str) (s : Steps) : deps (vws h s) ≤ deps s := deps_le.mpr fun y hy => by
  unfold vws at hy
  simp only [List.mem_flatten, List.mem_map] at hy
  obtain ⟨l', ⟨z, hz, rfl⟩, hy⟩ := hy
  exact Nat.le_trans (vw_dep h z y hy) (deps_le.mp (Nat.le_refl _) z hz)
/-! ### places of slices -/
theorem cutD_1_3 {x y z w : PyData} : TF.cutD [x, y, z, w] (some 1) (some 3) = [y, z] := by unfold TF.cutD HT.sIx; simp
theorem cutD_1_ {x : PyData} {l : List PyData} : TF.cutD (x :: l) (some 1) none = l := cutD_from1
theorem cutD__1 {x : PyData} {l : List PyData} : TF.cutD (x :: l) none (some 1) = [x] := by unfold TF.cutD HT.sIx; simp
theorem cutD__2 {x y : PyData} {l : List PyData} : TF.cutD (x :: y :: l) none (some 2) = [x, y] := cutD_to2
end TK

/-! F_lanerows_k10_runs.lean -/
set_option Elab.async false
set_option linter.all false
set_option maxRecDepth 100000
namespace Lr
open PySem PySem.Spec PyProof.Rows L2 TF

def fu_behind_step : Nat := 30
def fu_can_stop : Nat := 30
def fu_law_goes : Nat := 30
def fu_law_letters : Nat := 30
def fu_law_step : Nat := 30
def fu_letters_in : Nat := 30
def f_parts_of : Rho → Option Fl :=
    (fSeq (fIf (e2 (e2 (eVar 0) (eC (.int 0)) dIx) (eC (.str "choice")) dEq) (fRet (e2 (eVar 0) (eC (.int 1)) dIx)) fNil)
    (fSeq (fIf (e2 (e2 (eVar 0) (eC (.int 0)) dIx) (eC (.str "tell")) dEq) (fRet (eTup aNil)) fNil)
    (fRet (eSl (eVar 0) (ePart (eC (.int 1))) eNoPart dSl))))
def m_parts_of : List PyData → Option PyData := runF 1 f_parts_of
def b_letters_in_1 (r_letters_in : List PyData → Option PyData) : Rho → Option Fl :=
    (fExt 1 (eCall 1 r_letters_in (aCons (eVar 3) aNil)))
def b_letters_in_2 (r_letters_in : List PyData → Option PyData) : Rho → Option Fl :=
    (fSeq (fIf (e2 (e2 (eVar 2) (eC (.int 0)) dIx) (eC (.str "tell")) dEq) (fApp 1 (eSl (eVar 2) (ePart (eC (.int 1))) eNoPart dSl)) fNil)
    (fFor (e1 (eCall 1 m_parts_of (aCons (eVar 2) aNil)) dWalk) (g1 3) [3] (b_letters_in_1 r_letters_in)))
def f_letters_in (r_letters_in : List PyData → Option PyData) : Rho → Option Fl :=
    (fSeq (fOwn 1 (eLst aNil))
    (fSeq (fFor (e1 (eVar 0) dWalk) (g1 2) [2, 3] (b_letters_in_2 r_letters_in))
    (fRet (eVar 1))))
def m_letters_in : Nat → List PyData → Option PyData
  | 0 => fun _ => none
  | n + 1 => runF 4 (f_letters_in (m_letters_in n))
theorem u_letters_in (n : Nat) : m_letters_in (n + 1) = runF 4 (f_letters_in (m_letters_in n)) := rfl
def e_can_stop_1 (r_can_stop : List PyData → Option PyData) : Rho → Option PyData :=
    (eCall 1 r_can_stop (aCons (eVar 3) aNil))
def b_can_stop_1 (r_can_stop : List PyData → Option PyData) : Rho → Option Fl :=
    (fSeq (fSet 2 (e2 (eVar 1) (eC (.int 0)) dIx))
    (fSeq (fIf (e2 (eVar 2) (eC (.str "tell")) dEq) (fRet (eC (.bool false))) fNil)
    (fSeq (fIf (tAnd (e2 (eVar 2) (eC (.str "choice")) dEq) (tNot (eT (e1 (eL (eLc (e1 (e2 (eVar 1) (eC (.int 1)) dIx) dWalk) (g1 3) tYs (e_can_stop_1 r_can_stop))) dAny)))) (fRet (eC (.bool false))) fNil)
    (fIf (tAnd (e2 (eVar 2) (eC (.str "both")) dEq) (tNot (tAnd (eT (eCall 1 r_can_stop (aCons (e2 (eVar 1) (eC (.int 1)) dIx) aNil))) (eT (eCall 1 r_can_stop (aCons (e2 (eVar 1) (eC (.int 2)) dIx) aNil)))))) (fRet (eC (.bool false))) fNil))))
def f_can_stop (r_can_stop : List PyData → Option PyData) : Rho → Option Fl :=
    (fSeq (fFor (e1 (eVar 0) dWalk) (g1 1) [1, 2] (b_can_stop_1 r_can_stop))
    (fRet (eC (.bool true))))
def m_can_stop : Nat → List PyData → Option PyData
  | 0 => fun _ => none
  | n + 1 => runF 4 (f_can_stop (m_can_stop n))
theorem u_can_stop (n : Nat) : m_can_stop (n + 1) = runF 4 (f_can_stop (m_can_stop n)) := rfl
def f_mixed : Rho → Option Fl :=
    (fSeq (fIf (e2 (e1 (eVar 0) dLen) (eC (.int 0)) dEq) (fRet (eVar 1)) fNil)
    (fSeq (fIf (e2 (e1 (eVar 1) dLen) (eC (.int 0)) dEq) (fRet (eVar 0)) fNil)
    (fRet (eTup (aCons (eTup (aCons (eC (.str "both")) (aCons (eVar 0) (aCons (eVar 1) aNil)))) aNil)))))
def m_mixed : List PyData → Option PyData := runF 2 f_mixed
def b_behind_step_1 (r_behind_step : List PyData → Option PyData) (r_behind : List PyData → Option PyData) : Rho → Option Fl :=
    (fExt 3 (eCall 2 r_behind (aCons (eVar 4) (aCons (eVar 1) aNil))))
def e_behind_step_1 (r_behind_step : List PyData → Option PyData) (r_behind : List PyData → Option PyData) : Rho → Option PyData :=
    (e2 (eVar 5) (eTup (aCons (eVar 0) aNil)) dAddA)
def e_behind_step_2 (r_behind_step : List PyData → Option PyData) (r_behind : List PyData → Option PyData) : Rho → Option PyData :=
    (eCall 2 m_mixed (aCons (eVar 5) (aCons (e2 (eVar 0) (eC (.int 2)) dIx) aNil)))
def e_behind_step_3 (r_behind_step : List PyData → Option PyData) (r_behind : List PyData → Option PyData) : Rho → Option PyData :=
    (eCall 2 m_mixed (aCons (e2 (eVar 0) (eC (.int 1)) dIx) (aCons (eVar 5) aNil)))
def f_behind_step (r_behind_step : List PyData → Option PyData) (r_behind : List PyData → Option PyData) : Rho → Option Fl :=
    (fSeq (fSet 2 (e2 (eVar 0) (eC (.int 0)) dIx))
    (fSeq (fIf (e2 (eVar 2) (eC (.str "tell")) dEq) (fRet (e2 (eL (eLst (aCons (eTup aNil) aNil))) (e1 (eB (e2 (eSl (eVar 0) (ePart (eC (.int 1))) eNoPart dSl) (eVar 1) dEq)) dInt) dMulL)) fNil)
    (fSeq (fIf (e2 (eVar 2) (eC (.str "choice")) dEq) (fSeq (fOwn 3 (eLst aNil))
    (fSeq (fFor (e1 (e2 (eVar 0) (eC (.int 1)) dIx) dWalk) (g1 4) [4] (b_behind_step_1 r_behind_step r_behind))
    (fRet (eVar 3)))) fNil)
    (fSeq (fIf (e2 (eVar 2) (eC (.str "round")) dEq) (fRet (eL (eLc (e1 (eCall 2 r_behind (aCons (e2 (eVar 0) (eC (.int 1)) dIx) (aCons (eVar 1) aNil))) dWalk) (g1 5) tYs (e_behind_step_1 r_behind_step r_behind)))) fNil)
    (fSeq (fOwn 3 (eLc (e1 (eCall 2 r_behind (aCons (e2 (eVar 0) (eC (.int 1)) dIx) (aCons (eVar 1) aNil))) dWalk) (g1 5) tYs (e_behind_step_2 r_behind_step r_behind)))
    (fRet (eL (e2 (eVar 3) (eL (eLc (e1 (eCall 2 r_behind (aCons (e2 (eVar 0) (eC (.int 2)) dIx) (aCons (eVar 1) aNil))) dWalk) (g1 5) tYs (e_behind_step_3 r_behind_step r_behind))) dAddL))))))))
def b_behind_1 (r_behind_step : List PyData → Option PyData) (r_behind : List PyData → Option PyData) : Rho → Option Fl :=
    (fDPut 2 (e2 (eVar 5) (eSl (eVar 0) (ePart (e2 (eVar 3) (eC (.int 1)) dAddA)) eNoPart dSl) dAddA))
def b_behind_2 (r_behind_step : List PyData → Option PyData) (r_behind : List PyData → Option PyData) : Rho → Option Fl :=
    (fSeq (fFor (e1 (eCall 2 r_behind_step (aCons (eVar 4) (aCons (eVar 1) aNil))) dWalk) (g1 5) [5] (b_behind_1 r_behind_step r_behind))
    (fIf (tNot (eT (eCall 1 (m_can_stop fu_can_stop) (aCons (eTup (aCons (eVar 4) aNil)) aNil)))) (fRet (eL (eDKeys 2))) fNil))
def f_behind (r_behind_step : List PyData → Option PyData) (r_behind : List PyData → Option PyData) : Rho → Option Fl :=
    (fSeq (fDNew 2)
    (fSeq (fFor (e1 (eVar 0) dEnum) (g2 3 4) [3, 4, 5] (b_behind_2 r_behind_step r_behind))
    (fRet (eL (eDKeys 2)))))
mutual
def m_behind_step : Nat → List PyData → Option PyData
  | 0 => fun _ => none
  | n + 1 => runF 6 (f_behind_step (m_behind_step n) (m_behind n))
def m_behind : Nat → List PyData → Option PyData
  | 0 => fun _ => none
  | n + 1 => runF 6 (f_behind (m_behind_step n) (m_behind n))
end
theorem u_behind_step (n : Nat) : m_behind_step (n + 1) = runF 6 (f_behind_step (m_behind_step n) (m_behind n)) := rfl
theorem u_behind (n : Nat) : m_behind (n + 1) = runF 6 (f_behind (m_behind_step n) (m_behind n)) := rfl
def b_all_behind_1 : Rho → Option Fl :=
    (fDPut 2 (eVar 4))
def b_all_behind_2 : Rho → Option Fl :=
    (fFor (e1 (eCall 2 (m_behind fu_behind_step) (aCons (eVar 3) (aCons (eVar 1) aNil))) dWalk) (g1 4) [4] b_all_behind_1)
def f_all_behind : Rho → Option Fl :=
    (fSeq (fDNew 2)
    (fSeq (fFor (e1 (eVar 0) dWalk) (g1 3) [3, 4] b_all_behind_2)
    (fRet (e1 (eL (eSrtS 2)) dTuple))))
def m_all_behind : List PyData → Option PyData := runF 5 f_all_behind
def b_gone_1 : Rho → Option Fl :=
    (fSet 2 (eCall 2 m_all_behind (aCons (eVar 2) (aCons (eVar 3) aNil))))
def f_gone : Rho → Option Fl :=
    (fSeq (fSet 2 (eTup (aCons (e2 (eVar 0) (eC (.int 1)) dIx) aNil)))
    (fSeq (fFor (e1 (eVar 1) dWalk) (g1 3) [3] b_gone_1)
    (fRet (eVar 2))))
def m_gone : List PyData → Option PyData := runF 4 f_gone
def e_is_run_1 : Rho → Option PyData :=
    (eCall 1 (m_can_stop fu_can_stop) (aCons (eVar 2) aNil))
def f_is_run : Rho → Option Fl :=
    (fRet (e1 (eL (eLc (e1 (eCall 2 m_gone (aCons (eVar 0) (aCons (eVar 1) aNil))) dWalk) (g1 2) tYs e_is_run_1)) dAny))
def m_is_run : List PyData → Option PyData := runF 3 f_is_run
def f_letters_of : Rho → Option Fl :=
    (fRet (eL (e1 (eCall 1 (m_letters_in fu_letters_in) (aCons (e2 (eVar 0) (eC (.int 1)) dIx) aNil)) dSetS)))
def m_letters_of : List PyData → Option PyData := runF 1 f_letters_of
def e_runs_1 : Rho → Option PyData :=
    (eCall 1 (m_can_stop fu_can_stop) (aCons (eVar 10) aNil))
def e_runs_2 : Rho → Option PyData :=
    (eVar 6)
def t_runs_1 : Rho → Option Bool :=
    (eT (e1 (eL (eLc (e1 (eVar 7) dWalk) (g1 10) tYs e_runs_1)) dAny))
def b_runs_1 : Rho → Option Fl :=
    (fSeq (fSet 9 (eCall 2 m_all_behind (aCons (eVar 7) (aCons (eVar 8) aNil))))
    (fIf (e2 (e1 (eVar 9) dLen) (eC (.int 0)) dGt) (fApp 5 (eTup (aCons (e2 (eVar 6) (eTup (aCons (eVar 8) aNil)) dAddA) (aCons (eVar 9) aNil)))) fNil))
def b_runs_2 : Rho → Option Fl :=
    (fFor (e1 (eCall 1 m_letters_of (aCons (eVar 0) aNil)) dWalk) (g1 8) [8, 9] b_runs_1)
def b_runs_3 : Rho → Option Fl :=
    (fSeq (fExt 2 (eL (eLc (e1 (eVar 3) dWalk) (g2 6 7) t_runs_1 e_runs_2)))
    (fSeq (fOwn 5 (eLst aNil))
    (fSeq (fFor (e1 (eVar 3) dWalk) (g2 6 7) [6, 7, 8, 9] b_runs_2)
    (fSet 3 (eVar 5)))))
def f_runs : Rho → Option Fl :=
    (fSeq (fOwn 2 (eLst aNil))
    (fSeq (fSet 3 (eL (eLst (aCons (eTup (aCons (eTup aNil) (aCons (eTup (aCons (e2 (eVar 0) (eC (.int 1)) dIx) aNil)) aNil))) aNil))))
    (fSeq (fFor (e1 (e2 (eVar 1) (eC (.int 1)) dAddA) dRng1) (g1 4) [4, 5, 6, 7, 8, 9] b_runs_3)
    (fRet (e1 (eL (e1 (eVar 2) dSortedB)) dTuple)))))
def m_runs : List PyData → Option PyData := runF 11 f_runs
def f_law_cell_at : Rho → Option Fl :=
    (fSeq (fIf (e2 (eVar 1) (e1 (eVar 0) dLen) dLtA) (fRet (e2 (eVar 0) (eVar 1) dIx)) fNil)
    (fRet (eC (.int 0))))
def m_law_cell_at : List PyData → Option PyData := runF 2 f_law_cell_at
def f_law_mixed : Rho → Option Fl :=
    (fSeq (fSet 2 (e2 (e2 (e2 (e2 (eCall 2 m_law_cell_at (aCons (eVar 0) (aCons (eVar 1) aNil))) (e2 (eC (.int 7919)) (eVar 1) dMulA) dAddA) (eC (.int 1)) dAddA) (eC (.int 48271)) dMulA) (eC (.int 2147483647)) dMod))
    (fRet (e2 (e2 (e2 (e2 (eVar 2) (eVar 2) dMulA) (e2 (eC (.int 7)) (eVar 2) dMulA) dAddA) (eVar 1) dAddA) (eC (.int 2147483629)) dMod)))
def m_law_mixed : List PyData → Option PyData := runF 3 f_law_mixed
def f_law_drawn : Rho → Option Fl :=
    (fSeq (fSet 2 (e2 (e2 (e2 (e2 (eVar 0) (e2 (eC (.int 104729)) (eVar 1) dMulA) dAddA) (eC (.int 17)) dAddA) (eC (.int 69621)) dMulA) (eC (.int 2147483647)) dMod))
    (fRet (e2 (e2 (e2 (e2 (eVar 2) (eVar 2) dMulA) (e2 (eC (.int 3)) (eVar 2) dMulA) dAddA) (eVar 1) dAddA) (eC (.int 2147483629)) dMod)))
def m_law_drawn : List PyData → Option PyData := runF 3 f_law_drawn
def e_law_word_1 : Rho → Option PyData :=
    (e2 (eVar 1) (e2 (e2 (eCall 2 m_law_drawn (aCons (eVar 0) (aCons (eVar 2) aNil))) (eC (.int 4)) dDiv) (eC (.int 26)) dMod) dIx)
def f_law_word : Rho → Option Fl :=
    (fSeq (fIf (e2 (e2 (eVar 0) (eC (.int 6)) dMod) (eC (.int 0)) dGt) (fRet (e2 (eTup (aCons (eC (.str "hi")) (aCons (eC (.str "go")) (aCons (eC (.str "hi")) (aCons (eC (.str "later")) (aCons (eC (.str "go")) aNil)))))) (e2 (e2 (eVar 0) (eC (.int 6)) dMod) (eC (.int 1)) dSub) dIx)) fNil)
    (fSeq (fSet 1 (eC (.str "abcdefghijklmnopqrstuvwxyz")))
    (fRet (e2 (eC (.str "")) (eL (eLc (e1 (e2 (eC (.int 1)) (e2 (e2 (eVar 0) (eC (.int 6)) dDiv) (eC (.int 5)) dMod) dAddA) dRng1) (g1 2) tYs e_law_word_1)) dJoin))))
def m_law_word : List PyData → Option PyData := runF 3 f_law_word
def e_law_step_1 (r_law_step : List PyData → Option PyData) (r_law_steps : List PyData → Option PyData) : Rho → Option PyData :=
    (eCall 4 r_law_steps (aCons (e2 (eCall 2 m_law_drawn (aCons (eVar 0) (aCons (eVar 9) aNil))) (eC (.int 4)) dDiv) (aCons (eVar 1) (aCons (e2 (eVar 2) (eC (.int 1)) dSub) (aCons (eC (.int 2)) aNil)))))
def f_law_step (r_law_step : List PyData → Option PyData) (r_law_steps : List PyData → Option PyData) : Rho → Option Fl :=
    (fSeq (fSet 3 (e2 (eVar 0) (eC (.int 7)) dMod))
    (fSeq (fIf (tOr (e2 (eVar 2) (eC (.int 0)) dEq) (e2 (eVar 3) (eC (.int 3)) dLtA)) (fSeq (fSet 5 (e2 (eVar 1) (e2 (e2 (eVar 0) (eC (.int 8)) dDiv) (e1 (eVar 1) dLen) dMod) dIx))
    (fSeq (fSet 6 (e2 (eVar 1) (e2 (e2 (eVar 0) (eC (.int 64)) dDiv) (e1 (eVar 1) dLen) dMod) dIx))
    (fRet (eTup (aCons (eC (.str "tell")) (aCons (eVar 5) (aCons (eVar 6) (aCons (eCall 1 m_law_word (aCons (e2 (eVar 0) (eC (.int 512)) dDiv) aNil)) aNil)))))))) fNil)
    (fSeq (fIf (e2 (eVar 3) (eC (.int 5)) dLtA) (fSeq (fSet 7 (e2 (eC (.int 1)) (e2 (e2 (eVar 0) (eC (.int 8)) dDiv) (eC (.int 3)) dMod) dAddA))
    (fSeq (fOwn 8 (eLc (e1 (eVar 7) dRng1) (g1 9) tYs (e_law_step_1 r_law_step r_law_steps)))
    (fRet (eTup (aCons (eC (.str "choice")) (aCons (e1 (eVar 8) dTuple) aNil)))))) fNil)
    (fSeq (fSet 4 (eCall 4 r_law_steps (aCons (e2 (eCall 2 m_law_drawn (aCons (eVar 0) (aCons (eC (.int 4)) aNil))) (eC (.int 4)) dDiv) (aCons (eVar 1) (aCons (e2 (eVar 2) (eC (.int 1)) dSub) (aCons (eC (.int 2)) aNil))))))
    (fSeq (fIf (e2 (eVar 3) (eC (.int 5)) dEq) (fRet (eTup (aCons (eC (.str "round")) (aCons (eVar 4) aNil)))) fNil)
    (fRet (eTup (aCons (eC (.str "both")) (aCons (eVar 4) (aCons (eCall 4 r_law_steps (aCons (e2 (eCall 2 m_law_drawn (aCons (eVar 0) (aCons (eC (.int 5)) aNil))) (eC (.int 4)) dDiv) (aCons (eVar 1) (aCons (e2 (eVar 2) (eC (.int 1)) dSub) (aCons (eC (.int 2)) aNil))))) aNil))))))))))
def e_law_steps_1 (r_law_step : List PyData → Option PyData) (r_law_steps : List PyData → Option PyData) : Rho → Option PyData :=
    (eCall 3 r_law_step (aCons (e2 (eCall 2 m_law_drawn (aCons (eVar 0) (aCons (e2 (eC (.int 10)) (eVar 4) dAddA) aNil))) (eC (.int 4)) dDiv) (aCons (eVar 1) (aCons (eVar 2) aNil))))
def f_law_steps (r_law_step : List PyData → Option PyData) (r_law_steps : List PyData → Option PyData) : Rho → Option Fl :=
    (fRet (e1 (eL (eLc (e1 (e2 (eVar 0) (e2 (eVar 3) (eC (.int 1)) dAddA) dMod) dRng1) (g1 4) tYs (e_law_steps_1 r_law_step r_law_steps))) dTuple))
mutual
def m_law_step : Nat → List PyData → Option PyData
  | 0 => fun _ => none
  | n + 1 => runF 10 (f_law_step (m_law_step n) (m_law_steps n))
def m_law_steps : Nat → List PyData → Option PyData
  | 0 => fun _ => none
  | n + 1 => runF 5 (f_law_steps (m_law_step n) (m_law_steps n))
end
theorem u_law_step (n : Nat) : m_law_step (n + 1) = runF 10 (f_law_step (m_law_step n) (m_law_steps n)) := rfl
theorem u_law_steps (n : Nat) : m_law_steps (n + 1) = runF 5 (f_law_steps (m_law_step n) (m_law_steps n)) := rfl
def f_law_talk : Rho → Option Fl :=
    (fSeq (fSet 3 (e2 (eTup (aCons (eTup (aCons (eC (.str "a")) aNil)) (aCons (eTup (aCons (eC (.str "a")) (aCons (eC (.str "bob")) aNil))) (aCons (eTup (aCons (eC (.str "c")) (aCons (eC (.str "a")) (aCons (eC (.str "bob")) aNil)))) (aCons (eTup (aCons (eC (.str "d")) (aCons (eC (.str "bob")) (aCons (eC (.str "a")) (aCons (eC (.str "c")) aNil))))) aNil))))) (e2 (eVar 0) (eC (.int 4)) dMod) dIx))
    (fSeq (fSet 4 (eCall 1 m_law_word (aCons (e2 (e2 (eVar 0) (eC (.int 8)) dDiv) (eC (.int 6)) dMulA) aNil)))
    (fSeq (fIf (tAnd (e2 (e2 (e2 (eVar 0) (eC (.int 16)) dDiv) (eC (.int 3)) dMod) (eC (.int 0)) dEq) (e2 (eVar 4) (eVar 3) dNotIn)) (fSet 3 (e2 (eTup (aCons (eVar 4) aNil)) (eSl (eVar 3) (ePart (eC (.int 1))) eNoPart dSl) dAddA)) fNil)
    (fRet (eTup (aCons (eVar 3) (aCons (eCall 4 (m_law_steps fu_law_step) (aCons (e2 (eVar 0) (eC (.int 4)) dDiv) (aCons (eVar 3) (aCons (eVar 1) (aCons (eVar 2) aNil))))) aNil)))))))
def m_law_talk : List PyData → Option PyData := runF 5 f_law_talk
def b_law_letters_1 (r_law_letters : List PyData → Option PyData) : Rho → Option Fl :=
    (fOwn 1 (e2 (eVar 1) (eCall 1 r_law_letters (aCons (eVar 3) aNil)) dAddL))
def b_law_letters_2 (r_law_letters : List PyData → Option PyData) : Rho → Option Fl :=
    (fIf (e2 (e2 (eVar 2) (eC (.int 0)) dIx) (eC (.str "tell")) dEq) (fApp 1 (eSl (eVar 2) (ePart (eC (.int 1))) eNoPart dSl)) (fIf (e2 (e2 (eVar 2) (eC (.int 0)) dIx) (eC (.str "choice")) dEq) (fFor (e1 (e2 (eVar 2) (eC (.int 1)) dIx) dWalk) (g1 3) [3] (b_law_letters_1 r_law_letters)) (fFor (e1 (eSl (eVar 2) (ePart (eC (.int 1))) eNoPart dSl) dWalk) (g1 3) [3] (b_law_letters_1 r_law_letters))))
def f_law_letters (r_law_letters : List PyData → Option PyData) : Rho → Option Fl :=
    (fSeq (fOwn 1 (eLst aNil))
    (fSeq (fFor (e1 (eVar 0) dWalk) (g1 2) [2, 3] (b_law_letters_2 r_law_letters))
    (fRet (eVar 1))))
def m_law_letters : Nat → List PyData → Option PyData
  | 0 => fun _ => none
  | n + 1 => runF 4 (f_law_letters (m_law_letters n))
theorem u_law_letters (n : Nat) : m_law_letters (n + 1) = runF 4 (f_law_letters (m_law_letters n)) := rfl
def b_law_goes_1 (r_law_goes : List PyData → Option PyData) (r_law_step_goes : List PyData → Option PyData) : Rho → Option Fl :=
    (fIf (tAnd (eT (eCall 2 r_law_step_goes (aCons (eVar 2) (aCons (eSl (eVar 1) eNoPart (ePart (eVar 4)) dSl) aNil)))) (eT (eCall 2 r_law_goes (aCons (eVar 3) (aCons (eSl (eVar 1) (ePart (eVar 4)) eNoPart dSl) aNil))))) (fRet (eC (.bool true))) fNil)
def f_law_goes (r_law_goes : List PyData → Option PyData) (r_law_step_goes : List PyData → Option PyData) : Rho → Option Fl :=
    (fSeq (fIf (e2 (eVar 0) (eTup aNil) dEq) (fRet (eB (e2 (eVar 1) (eTup aNil) dEq))) fNil)
    (fSeq (fSet 2 (e2 (eVar 0) (eC (.int 0)) dIx))
    (fSeq (fSet 3 (eSl (eVar 0) (ePart (eC (.int 1))) eNoPart dSl))
    (fSeq (fFor (e1 (e2 (e1 (eVar 1) dLen) (eC (.int 1)) dAddA) dRng1) (g1 4) [4] (b_law_goes_1 r_law_goes r_law_step_goes))
    (fRet (eC (.bool false)))))))
def e_law_step_goes_1 (r_law_goes : List PyData → Option PyData) (r_law_step_goes : List PyData → Option PyData) : Rho → Option PyData :=
    (eVar 8)
def t_law_step_goes_1 (r_law_goes : List PyData → Option PyData) (r_law_step_goes : List PyData → Option PyData) : Rho → Option Bool :=
    (eT (eCall 2 r_law_goes (aCons (eVar 8) (aCons (eVar 1) aNil))))
def b_law_step_goes_1 (r_law_goes : List PyData → Option PyData) (r_law_step_goes : List PyData → Option PyData) : Rho → Option Fl :=
    (fIf (tAnd (eT (eCall 2 r_law_goes (aCons (e2 (eVar 0) (eC (.int 1)) dIx) (aCons (eSl (eVar 1) eNoPart (ePart (eVar 6)) dSl) aNil)))) (eT (eCall 2 r_law_step_goes (aCons (eVar 0) (aCons (eSl (eVar 1) (ePart (eVar 6)) eNoPart dSl) aNil))))) (fRet (eC (.bool true))) fNil)
def b_law_step_goes_2 (r_law_goes : List PyData → Option PyData) (r_law_step_goes : List PyData → Option PyData) : Rho → Option Fl :=
    (fSet 7 (eL (e2 (eVar 7) (eL (eLst (aCons (eTup (aCons (e2 (eVar 4) (eTup (aCons (eVar 3) aNil)) dAddA) (aCons (eVar 5) aNil))) (aCons (eTup (aCons (eVar 4) (aCons (e2 (eVar 5) (eTup (aCons (eVar 3) aNil)) dAddA) aNil))) aNil)))) dAddL)))
def b_law_step_goes_3 (r_law_goes : List PyData → Option PyData) (r_law_step_goes : List PyData → Option PyData) : Rho → Option Fl :=
    (fSeq (fSet 7 (eL (eLst aNil)))
    (fSeq (fFor (e1 (eVar 2) dWalk) (g2 4 5) [4, 5] (b_law_step_goes_2 r_law_goes r_law_step_goes))
    (fSet 2 (eVar 7))))
def b_law_step_goes_4 (r_law_goes : List PyData → Option PyData) (r_law_step_goes : List PyData → Option PyData) : Rho → Option Fl :=
    (fIf (tAnd (eT (eCall 2 r_law_goes (aCons (e2 (eVar 0) (eC (.int 1)) dIx) (aCons (eVar 4) aNil)))) (eT (eCall 2 r_law_goes (aCons (e2 (eVar 0) (eC (.int 2)) dIx) (aCons (eVar 5) aNil))))) (fRet (eC (.bool true))) fNil)
def f_law_step_goes (r_law_goes : List PyData → Option PyData) (r_law_step_goes : List PyData → Option PyData) : Rho → Option Fl :=
    (fSeq (fIf (e2 (e2 (eVar 0) (eC (.int 0)) dIx) (eC (.str "tell")) dEq) (fRet (eB (e2 (eVar 1) (eTup (aCons (eSl (eVar 0) (ePart (eC (.int 1))) eNoPart dSl) aNil)) dEq))) fNil)
    (fSeq (fIf (e2 (e2 (eVar 0) (eC (.int 0)) dIx) (eC (.str "choice")) dEq) (fRet (eB (e2 (eL (eLc (e1 (e2 (eVar 0) (eC (.int 1)) dIx) dWalk) (g1 8) (t_law_step_goes_1 r_law_goes r_law_step_goes) (e_law_step_goes_1 r_law_goes r_law_step_goes))) (eL (eLst aNil)) dNe))) fNil)
    (fSeq (fIf (e2 (e2 (eVar 0) (eC (.int 0)) dIx) (eC (.str "round")) dEq) (fSeq (fIf (e2 (eVar 1) (eTup aNil) dEq) (fRet (eC (.bool true))) fNil)
    (fSeq (fFor (e2 (eC (.int 1)) (e2 (e1 (eVar 1) dLen) (eC (.int 1)) dAddA) dRng2) (g1 6) [6] (b_law_step_goes_1 r_law_goes r_law_step_goes))
    (fRet (eC (.bool false))))) fNil)
    (fSeq (fSet 2 (eL (eLst (aCons (eTup (aCons (eTup aNil) (aCons (eTup aNil) aNil))) aNil))))
    (fSeq (fFor (e1 (eVar 1) dWalk) (g1 3) [3, 4, 5, 7] (b_law_step_goes_3 r_law_goes r_law_step_goes))
    (fSeq (fFor (e1 (eVar 2) dWalk) (g2 4 5) [4, 5] (b_law_step_goes_4 r_law_goes r_law_step_goes))
    (fRet (eC (.bool false)))))))))
mutual
def m_law_goes : Nat → List PyData → Option PyData
  | 0 => fun _ => none
  | n + 1 => runF 5 (f_law_goes (m_law_goes n) (m_law_step_goes n))
def m_law_step_goes : Nat → List PyData → Option PyData
  | 0 => fun _ => none
  | n + 1 => runF 9 (f_law_step_goes (m_law_goes n) (m_law_step_goes n))
end
theorem u_law_goes (n : Nat) : m_law_goes (n + 1) = runF 5 (f_law_goes (m_law_goes n) (m_law_step_goes n)) := rfl
theorem u_law_step_goes (n : Nat) : m_law_step_goes (n + 1) = runF 9 (f_law_step_goes (m_law_goes n) (m_law_step_goes n)) := rfl
def e_law_rows_1 : Rho → Option PyData :=
    (e2 (eVar 6) (eTup (aCons (eVar 7) aNil)) dAddA)
def b_law_rows_1 : Rho → Option Fl :=
    (fSet 5 (eL (e2 (eVar 5) (eL (eLc (e1 (eVar 0) dWalk) (g1 7) tYs e_law_rows_1)) dAddL)))
def b_law_rows_2 : Rho → Option Fl :=
    (fSeq (fSet 5 (eL (eLst aNil)))
    (fSeq (fFor (e1 (eVar 3) dWalk) (g1 6) [6] b_law_rows_1)
    (fSeq (fSet 3 (eVar 5))
    (fSet 2 (e2 (eVar 2) (eVar 3) dAddA)))))
def f_law_rows : Rho → Option Fl :=
    (fSeq (fSet 2 (eL (eLst (aCons (eTup aNil) aNil))))
    (fSeq (fSet 3 (eL (eLst (aCons (eTup aNil) aNil))))
    (fSeq (fFor (e1 (eVar 1) dRng1) (g1 4) [4, 5, 6] b_law_rows_2)
    (fRet (eVar 2)))))
def m_law_rows : List PyData → Option PyData := runF 8 f_law_rows
def e_law_1 : Rho → Option PyData :=
    (eVar 9)
def t_law_1 : Rho → Option Bool :=
    (e2 (eVar 9) (eCall 1 (m_law_letters fu_law_letters) (aCons (e2 (eVar 1) (eC (.int 1)) dIx) aNil)) dNotIn)
def b_law_1 : Rho → Option Fl :=
    (fSeq (fSet 8 (eCall 2 m_is_run (aCons (eVar 1) (aCons (eVar 5) aNil))))
    (fSeq (fSet 10 (eCall 2 (m_law_goes fu_law_goes) (aCons (e2 (eVar 1) (eC (.int 1)) dIx) (aCons (eVar 5) aNil))))
    (fSeq (fIf (tOr (tNot (eT (e1 (eVar 8) (dIsa "bool")))) (e2 (eVar 8) (eVar 10) dNe)) (fRet (eC (.bool false))) fNil)
    (fIf (eT (eVar 10)) (fApp 4 (eVar 5)) fNil))))
def e_law_2 : Rho → Option PyData :=
    (eVar 5)
def t_law_2 : Rho → Option Bool :=
    (e2 (e1 (eVar 5) dLen) (eVar 6) dLe)
def t_law_3 : Rho → Option Bool :=
    (e2 (eVar 9) (eVar 2) dNotIn)
def t_law_4 : Rho → Option Bool :=
    (e2 (eL (eLc (e1 (eVar 5) dWalk) (g1 9) t_law_3 e_law_1)) (eL (eLst aNil)) dEq)
def f_law : Rho → Option Fl :=
    (fSeq (fSet 1 (eCall 3 m_law_talk (aCons (eCall 2 m_law_mixed (aCons (eVar 0) (aCons (eC (.int 0)) aNil))) (aCons (e2 (eCall 2 m_law_mixed (aCons (eVar 0) (aCons (eC (.int 1)) aNil))) (eC (.int 3)) dMod) (aCons (eC (.int 2)) aNil)))))
    (fSeq (fSet 2 (eSl (eL (e1 (eCall 1 (m_law_letters fu_law_letters) (aCons (e2 (eVar 1) (eC (.int 1)) dIx) aNil)) dSetS)) eNoPart (ePart (eC (.int 4))) dSl))
    (fSeq (fOwn 3 (eLc (e1 (eL (eLst (aCons (eTup (aCons (eC (.str "a")) (aCons (eC (.str "a")) (aCons (eC (.str "none")) aNil)))) aNil))) dWalk) (g1 9) t_law_1 e_law_1))
    (fSeq (fOwn 4 (eLst aNil))
    (fSeq (fFor (e1 (eCall 2 m_law_rows (aCons (e2 (eVar 2) (eVar 3) dAddA) (aCons (eC (.int 3)) aNil))) dWalk) (g1 5) [5, 8, 10] b_law_1)
    (fSeq (fSet 6 (e2 (eCall 2 m_law_mixed (aCons (eVar 0) (aCons (eC (.int 2)) aNil))) (eC (.int 4)) dMod))
    (fSeq (fSet 7 (eL (e1 (eL (eLc (e1 (eVar 4) dWalk) (g1 5) t_law_2 e_law_2)) dSortedB)))
    (fSeq (fOwn 8 (eLc (e1 (eCall 2 m_runs (aCons (eVar 1) (aCons (eVar 6) aNil))) dWalk) (g1 5) t_law_4 e_law_2))
    (fRet (eB (e2 (eVar 8) (eVar 7) dEq)))))))))))
def m_law : List PyData → Option PyData := runF 11 f_law
end Lr

/-! MA_k10-runs.lean -/
set_option Elab.async false
set_option linter.all false
set_option maxRecDepth 100000
namespace Lr
open PySem PySem.Spec PyProof.Rows L2 TF TK
/-! ### runs of steps, and what is left of steps behind a letter -/
abbrev Row := List Lt
inductive Shuf : Row → Row → Row → Prop
  | nil : Shuf [] [] []
  | left {l r s t} : Shuf r s t → Shuf (l :: r) s (l :: t)
  | right {l r s t} : Shuf r s t → Shuf r (l :: s) (l :: t)
mutual
inductive Run1 : TK.Step → Row → Prop
  | tell {a b w} : Run1 (.tell a b w) [(a, b, w)]
  | choice {bs b r} : b ∈ bs → Runs b r → Run1 (.choice bs) r
  | stop {s} : Run1 (.round s) []
  | more {s l r t} : Runs s (l :: r) → Run1 (.round s) t → Run1 (.round s) (l :: r ++ t)
  | both {a b r s t} : Runs a r → Runs b s → Shuf r s t → Run1 (.both a b) t
inductive Runs : List TK.Step → Row → Prop
  | nil : Runs [] []
  | cons {x t r s} : Run1 x r → Runs t s → Runs (x :: t) (r ++ s)
end
def cs1 : TK.Step → Bool
  | .tell _ _ _ => false
  | .choice bs => (bs.map fun b => (b.map cs1).all id).any id
  | .round _ => true
  | .both s t => (s.map cs1).all id && (t.map cs1).all id
termination_by s => sizeOf s
decreasing_by
  all_goals simp_wf
  all_goals first
    | (have h1 := List.sizeOf_lt_of_mem ‹b ∈ bs›; have h2 := List.sizeOf_lt_of_mem ‹_ ∈ b›; omega)
    | (have h2 := List.sizeOf_lt_of_mem ‹_ ∈ _›; omega)
def css (s : Steps) : Bool := (s.map cs1).all id
theorem cs1_tell (a b w : Str) : cs1 (.tell a b w) = false := by rw [cs1]
theorem cs1_choice (bs : List Steps) : cs1 (.choice bs) = (bs.map css).any id := by rw [cs1]; rfl
theorem cs1_round (s : Steps) : cs1 (.round s) = true := by rw [cs1]
theorem cs1_both (s t : Steps) : cs1 (.both s t) = (css s && css t) := by rw [cs1]; rfl
theorem css_cons (x : TK.Step) (s : Steps) : css (x :: s) = (cs1 x && css s) := rfl
/-- side by side -/
def mix : Steps → Steps → Steps
  | [], b => b
  | a, [] => a
  | a, b => [.both a b]
theorem mix_ne {a b : Steps} (ha : a ≠ []) (hb : b ≠ []) : mix a b = [.both a b] := by
  cases a with
  | nil => exact absurd rfl ha
  | cons x a => cases b with
    | nil => exact absurd rfl hb
    | cons y b => rfl
theorem mix_nil_right (a : Steps) : mix a [] = a := by cases a <;> rfl
/-- each once, in the order of first standing -/
noncomputable def adds {α : Type} (acc : List α) (x : α) : List α := open Classical in if x ∈ acc then acc else acc ++ [x]
noncomputable def dd {α : Type} (l : List α) : List α := l.foldl adds []
theorem adds_mem {α : Type} {acc : List α} {x y : α} : y ∈ adds acc x ↔ y ∈ acc ∨ y = x := by
  unfold adds
  split
  · rename_i h
    exact ⟨.inl, fun z => z.elim id fun z => z ▸ h⟩
  · simp
theorem adds_nodup {α : Type} {acc : List α} {x : α} (h : acc.Nodup) : (adds acc x).Nodup := by
  unfold adds
  split
  · exact h
  · rename_i hx
    rw [List.nodup_append]
    exact ⟨h, by simp, fun a ha b hb e => hx (by rw [List.mem_singleton.mp hb] at e; exact e ▸ ha)⟩
theorem dd_go {α : Type} : ∀ (l acc : List α), acc.Nodup → (∀ y, y ∈ l.foldl adds acc ↔ y ∈ acc ∨ y ∈ l) ∧ (l.foldl adds acc).Nodup
  | [], acc, h => ⟨fun y => by simp, h⟩
  | x :: l, acc, h => by
    obtain ⟨a, b⟩ := dd_go l (adds acc x) (adds_nodup h)
    exact ⟨fun y => by rw [List.foldl_cons, a, adds_mem, List.mem_cons, or_assoc], b⟩
theorem dd_mem {α : Type} {l : List α} {y : α} : y ∈ dd l ↔ y ∈ l := by rw [dd, (dd_go l [] List.nodup_nil).1]; simp
theorem dd_nodup {α : Type} (l : List α) : (dd l).Nodup := (dd_go l [] List.nodup_nil).2
/-- steps, each with what is left of it -/
def bhl : List (TK.Step × List Steps) → List Steps
  | [] => []
  | (x, ds) :: t => ds.map (· ++ t.map (·.1)) ++ if cs1 x = true then bhl t else []
open Classical in
/-- what is left of a step behind the letter l -/
noncomputable def bh1 (l : Lt) : TK.Step → List Steps
  | .tell a b w => if (a, b, w) = l then [[]] else []
  | .choice bs => (bs.map fun b => dd (bhl (b.map fun x => (x, bh1 l x)))).flatten
  | .round s => (dd (bhl (s.map fun x => (x, bh1 l x)))).map (· ++ [.round s])
  | .both s t => (dd (bhl (s.map fun x => (x, bh1 l x)))).map (mix · t) ++ (dd (bhl (t.map fun x => (x, bh1 l x)))).map (mix s ·)
termination_by s => sizeOf s
decreasing_by
  all_goals simp_wf
  all_goals first
    | (have h1 := List.sizeOf_lt_of_mem ‹b ∈ bs›; have h2 := List.sizeOf_lt_of_mem ‹_ ∈ b›; omega)
    | (have h2 := List.sizeOf_lt_of_mem ‹_ ∈ _›; omega)
noncomputable def bhr (l : Lt) (s : Steps) : List Steps := bhl (s.map fun x => (x, bh1 l x))
noncomputable def bhs (l : Lt) (s : Steps) : List Steps := dd (bhr l s)
open Classical in
theorem bh1_tell (l : Lt) (a b w : Str) : bh1 l (.tell a b w) = if (a, b, w) = l then [[]] else [] := by rw [bh1]
theorem bh1_choice (l : Lt) (bs : List Steps) : bh1 l (.choice bs) = (bs.map (bhs l)).flatten := by rw [bh1]; rfl
theorem bh1_round (l : Lt) (s : Steps) : bh1 l (.round s) = (bhs l s).map (· ++ [.round s]) := by rw [bh1]; rfl
theorem bh1_both (l : Lt) (s t : Steps) : bh1 l (.both s t) = (bhs l s).map (mix · t) ++ (bhs l t).map (mix s ·) := by rw [bh1]; rfl
theorem bhr_nil (l : Lt) : bhr l [] = [] := rfl
theorem bhr_cons (l : Lt) (x : TK.Step) (t : Steps) : bhr l (x :: t) = (bh1 l x).map (· ++ t) ++ if cs1 x = true then bhr l t else [] := by
  unfold bhr
  rw [List.map_cons, bhl]
  congr 2
  rw [List.map_map]
  funext d
  congr 1
  exact List.map_id' t
theorem runs_append {s t : Steps} {r : Row} : Runs (s ++ t) r ↔ ∃ r1 r2, r = r1 ++ r2 ∧ Runs s r1 ∧ Runs t r2 := by
  induction s generalizing r with
  | nil =>
    constructor
    · exact fun h => ⟨[], r, rfl, .nil, h⟩
    · rintro ⟨r1, r2, rfl, h1, h2⟩
      cases h1
      exact h2
  | cons x s ih =>
    constructor
    · intro h
      cases h with
      | cons h1 h2 =>
        obtain ⟨a, b, rfl, h3, h4⟩ := ih.mp h2
        exact ⟨_, b, by rw [List.append_assoc], .cons h1 h3, h4⟩
    · rintro ⟨r1, r2, rfl, h1, h2⟩
      cases h1 with
      | cons h3 h4 =>
        rw [List.append_assoc]
        exact .cons h3 (ih.mpr ⟨_, r2, rfl, h4, h2⟩)
theorem runs_one {x : TK.Step} {r : Row} : Runs [x] r ↔ Run1 x r := by
  constructor
  · intro h
    cases h with
    | cons h1 h2 => cases h2; rwa [List.append_nil]
  · intro h
    have := Runs.cons h .nil
    rwa [List.append_nil] at this
theorem shuf_nil_l : ∀ {s t : Row}, Shuf [] s t ↔ s = t := by
  intro s t
  constructor
  · intro h
    induction t generalizing s with
    | nil => cases h; rfl
    | cons l t ih => cases h with | right h => rw [ih h]
  · rintro rfl
    induction s with
    | nil => exact .nil
    | cons l s ih => exact .right ih
theorem shuf_nil_r : ∀ {s t : Row}, Shuf s [] t ↔ s = t := by
  intro s t
  constructor
  · intro h
    induction t generalizing s with
    | nil => cases h; rfl
    | cons l t ih => cases h with | left h => rw [ih h]
  · rintro rfl
    induction s with
    | nil => exact .nil
    | cons l s ih => exact .left ih
theorem runs_nil {r : Row} : Runs [] r ↔ r = [] := ⟨fun h => by cases h; rfl, fun h => h ▸ .nil⟩
theorem runs_mix {a b : Steps} {t : Row} : Runs (mix a b) t ↔ ∃ r s, Runs a r ∧ Runs b s ∧ Shuf r s t := by
  by_cases ha : a = []
  · subst ha
    show Runs b t ↔ _
    constructor
    · exact fun h => ⟨[], t, .nil, h, shuf_nil_l.mpr rfl⟩
    · rintro ⟨r, s, h1, h2, h3⟩
      rw [runs_nil] at h1
      subst h1
      rw [← shuf_nil_l.mp h3]
      exact h2
  · by_cases hb : b = []
    · subst hb
      rw [mix_nil_right]
      constructor
      · exact fun h => ⟨t, [], h, .nil, shuf_nil_r.mpr rfl⟩
      · rintro ⟨r, s, h1, h2, h3⟩
        rw [runs_nil] at h2
        subst h2
        rw [← shuf_nil_r.mp h3]
        exact h1
    · rw [mix_ne ha hb, runs_one]
      constructor
      · intro h
        cases h with
        | both h1 h2 h3 => exact ⟨_, _, h1, h2, h3⟩
      · rintro ⟨r, s, h1, h2, h3⟩
        exact .both h1 h2 h3
/-- nothing more is needed -/
theorem css_of {s : Steps} (h : ∀ x ∈ s, (cs1 x = true ↔ Run1 x [])) : css s = true ↔ Runs s [] := by
  induction s with
  | nil => exact ⟨fun _ => .nil, fun _ => rfl⟩
  | cons x s ih =>
    rw [css_cons, Bool.and_eq_true, h x (by simp), ih fun y hy => h y (by simp [hy])]
    constructor
    · rintro ⟨h1, h2⟩
      exact Runs.cons h1 h2
    · intro h0
      generalize e : ([] : Row) = r at h0
      cases h0 with
      | @cons _ _ r1 r2 h1 h2 =>
        obtain ⟨rfl, rfl⟩ := List.append_eq_nil_iff.mp e.symm
        exact ⟨h1, h2⟩
theorem cs1_iff (x : TK.Step) : cs1 x = true ↔ Run1 x [] := by
  induction x using TK.Step.ind with
  | h1 a b w =>
    rw [cs1_tell]
    constructor
    · intro z; cases z
    · intro z; cases z
  | h2 bs ih =>
    rw [cs1_choice, List.any_eq_true]
    constructor
    · rintro ⟨c, hc, h⟩
      obtain ⟨b, hb, rfl⟩ := List.mem_map.mp hc
      exact .choice hb ((css_of (ih b hb)).mp h)
    · intro h
      cases h with
      | choice hb h => exact ⟨_, List.mem_map_of_mem hb, (css_of (ih _ hb)).mpr h⟩
  | h3 s _ =>
    rw [cs1_round]
    exact ⟨fun _ => .stop, fun _ => rfl⟩
  | h4 s t ih1 ih2 =>
    rw [cs1_both, Bool.and_eq_true, css_of ih1, css_of ih2]
    constructor
    · rintro ⟨h1, h2⟩
      exact .both h1 h2 .nil
    · intro h
      cases h with
      | both h1 h2 h3 => cases h3; exact ⟨h1, h2⟩
theorem css_iff (s : Steps) : css s = true ↔ Runs s [] := css_of fun x _ => cs1_iff x
/-- a letter more -/
theorem bhr_of {l : Lt} {s : Steps} (h : ∀ x ∈ s, ∀ r, (Run1 x (l :: r) ↔ ∃ d ∈ bh1 l x, Runs d r)) (r : Row) : Runs s (l :: r) ↔ ∃ d ∈ bhr l s, Runs d r := by
  induction s generalizing r with
  | nil =>
    rw [bhr_nil]
    constructor
    · intro z; cases z
    · rintro ⟨d, hd, _⟩; cases hd
  | cons x s ih =>
    have ih := ih fun y hy => h y (by simp [hy])
    rw [bhr_cons]
    constructor
    · intro h0
      generalize e : l :: r = q at h0
      cases h0 with
      | @cons _ _ r1 r2 h1 h2 =>
        cases r1 with
        | nil =>
          rw [List.nil_append] at e
          subst e
          have hc := (cs1_iff x).mpr h1
          obtain ⟨d, hd, hr⟩ := (ih r).mp h2
          exact ⟨d, by rw [if_pos hc]; exact List.mem_append_right _ hd, hr⟩
        | cons l' r1 =>
          rw [List.cons_append] at e
          injection e with e1 e2
          subst e1 e2
          obtain ⟨d, hd, hr⟩ := (h x (by simp) r1).mp h1
          exact ⟨d ++ s, List.mem_append_left _ (List.mem_map_of_mem hd), runs_append.mpr ⟨r1, r2, rfl, hr, h2⟩⟩
    · rintro ⟨d, hd, hr⟩
      rcases List.mem_append.mp hd with hd | hd
      · obtain ⟨e, he, rfl⟩ := List.mem_map.mp hd
        obtain ⟨r1, r2, rfl, h1, h2⟩ := runs_append.mp hr
        have := Runs.cons ((h x (by simp) r1).mpr ⟨e, he, h1⟩) h2
        rwa [List.cons_append] at this
      · by_cases hc : cs1 x = true
        · rw [if_pos hc] at hd
          exact Runs.cons ((cs1_iff x).mp hc) ((ih r).mpr ⟨d, hd, hr⟩)
        · rw [if_neg hc] at hd; cases hd
theorem bhs_of {l : Lt} {s : Steps} (h : ∀ x ∈ s, ∀ r, (Run1 x (l :: r) ↔ ∃ d ∈ bh1 l x, Runs d r)) (r : Row) : Runs s (l :: r) ↔ ∃ d ∈ bhs l s, Runs d r := by
  rw [bhr_of h]
  exact ⟨fun ⟨d, h1, h2⟩ => ⟨d, dd_mem.mpr h1, h2⟩, fun ⟨d, h1, h2⟩ => ⟨d, dd_mem.mp h1, h2⟩⟩
theorem bh1_iff (l : Lt) (x : TK.Step) : ∀ r, Run1 x (l :: r) ↔ ∃ d ∈ bh1 l x, Runs d r := by
  induction x using TK.Step.ind with
  | h1 a b w =>
    intro r
    rw [bh1_tell]
    by_cases e : (a, b, w) = l
    · subst e
      rw [if_pos rfl]
      constructor
      · intro h
        cases h
        exact ⟨[], by simp, .nil⟩
      · rintro ⟨d, hd, hr⟩
        rw [List.mem_singleton.mp hd, runs_nil] at hr
        subst hr
        exact .tell
    · rw [if_neg e]
      constructor
      · intro h
        cases h
        exact absurd rfl e
      · rintro ⟨d, hd, _⟩; cases hd
  | h2 bs ih =>
    intro r
    rw [bh1_choice]
    constructor
    · intro h
      cases h with
      | @choice _ b _ hb h =>
        obtain ⟨d, hd, hr⟩ := (bhs_of (ih b hb) r).mp h
        exact ⟨d, List.mem_flatten.mpr ⟨_, List.mem_map_of_mem hb, hd⟩, hr⟩
    · rintro ⟨d, hd, hr⟩
      obtain ⟨q, hq, hd⟩ := List.mem_flatten.mp hd
      obtain ⟨b, hb, rfl⟩ := List.mem_map.mp hq
      exact .choice hb ((bhs_of (ih b hb) r).mpr ⟨d, hd, hr⟩)
  | h3 s ih =>
    intro r
    rw [bh1_round]
    constructor
    · intro h
      generalize e : l :: r = q at h
      cases h with
      | stop => cases e
      | @more _ l' r1 t h1 h2 =>
        rw [List.cons_append] at e
        injection e with e1 e2
        subst e1 e2
        obtain ⟨d, hd, hr⟩ := (bhs_of ih r1).mp h1
        exact ⟨_, List.mem_map_of_mem hd, runs_append.mpr ⟨r1, t, rfl, hr, runs_one.mpr h2⟩⟩
    · rintro ⟨d, hd, hr⟩
      obtain ⟨e, he, rfl⟩ := List.mem_map.mp hd
      obtain ⟨r1, r2, rfl, h1, h2⟩ := runs_append.mp hr
      exact .more ((bhs_of ih r1).mpr ⟨e, he, h1⟩) (runs_one.mp h2)
  | h4 s t ih1 ih2 =>
    intro r
    rw [bh1_both]
    constructor
    · intro h
      cases h with
      | both h1 h2 h3 =>
        cases h3 with
        | left h3 =>
          obtain ⟨d, hd, hr⟩ := (bhs_of ih1 _).mp h1
          exact ⟨mix d t, List.mem_append_left _ (List.mem_map_of_mem hd), runs_mix.mpr ⟨_, _, hr, h2, h3⟩⟩
        | right h3 =>
          obtain ⟨d, hd, hr⟩ := (bhs_of ih2 _).mp h2
          exact ⟨mix s d, List.mem_append_right _ (List.mem_map_of_mem hd), runs_mix.mpr ⟨_, _, h1, hr, h3⟩⟩
    · rintro ⟨d, hd, hr⟩
      rcases List.mem_append.mp hd with hd | hd
      · obtain ⟨e, he, rfl⟩ := List.mem_map.mp hd
        obtain ⟨r1, r2, h1, h2, h3⟩ := runs_mix.mp hr
        exact .both ((bhs_of ih1 _).mpr ⟨e, he, h1⟩) h2 (.left h3)
      · obtain ⟨e, he, rfl⟩ := List.mem_map.mp hd
        obtain ⟨r1, r2, h1, h2, h3⟩ := runs_mix.mp hr
        exact .both h1 ((bhs_of ih2 _).mpr ⟨e, he, h2⟩) (.right h3)
theorem bhs_iff (l : Lt) (s : Steps) (r : Row) : Runs s (l :: r) ↔ ∃ d ∈ bhs l s, Runs d r := bhs_of (fun x _ => bh1_iff l x) r
/-! ### all that can be left: not too much, not too deep -/
def pdl : List (TK.Step × List Steps) → List Steps
  | [] => []
  | (x, ds) :: t => ds.map (· ++ t.map (·.1)) ++ pdl t
def mixes (as bs : List Steps) : List Steps := (as.map fun a => bs.map fun b => mix a b).flatten
def pd1 : TK.Step → List Steps
  | .tell _ _ _ => [[]]
  | .choice bs => (bs.map fun b => pdl (b.map fun x => (x, pd1 x))).flatten
  | .round s => (pdl (s.map fun x => (x, pd1 x))).map (· ++ [.round s])
  | .both s t => mixes (s :: pdl (s.map fun x => (x, pd1 x))) (t :: pdl (t.map fun x => (x, pd1 x)))
termination_by s => sizeOf s
decreasing_by
  all_goals simp_wf
  all_goals first
    | (have h1 := List.sizeOf_lt_of_mem ‹b ∈ bs›; have h2 := List.sizeOf_lt_of_mem ‹_ ∈ b›; omega)
    | (have h2 := List.sizeOf_lt_of_mem ‹_ ∈ _›; omega)
def pds (s : Steps) : List Steps := pdl (s.map fun x => (x, pd1 x))
theorem pd1_tell (a b w : Str) : pd1 (.tell a b w) = [[]] := by rw [pd1]
theorem pd1_choice (bs : List Steps) : pd1 (.choice bs) = (bs.map pds).flatten := by rw [pd1]; rfl
theorem pd1_round (s : Steps) : pd1 (.round s) = (pds s).map (· ++ [.round s]) := by rw [pd1]; rfl
theorem pd1_both (s t : Steps) : pd1 (.both s t) = mixes (s :: pds s) (t :: pds t) := by rw [pd1]; rfl
theorem pds_nil : pds [] = [] := rfl
theorem pds_cons (x : TK.Step) (t : Steps) : pds (x :: t) = (pd1 x).map (· ++ t) ++ pds t := by
  unfold pds
  rw [List.map_cons, pdl]
  congr 2
  rw [List.map_map]
  funext d
  congr 1
  exact List.map_id' t
theorem mixes_mem {as bs : List Steps} {d : Steps} : d ∈ mixes as bs ↔ ∃ a ∈ as, ∃ b ∈ bs, d = mix a b := by
  unfold mixes
  rw [List.mem_flatten]
  constructor
  · rintro ⟨q, hq, hd⟩
    obtain ⟨a, ha, rfl⟩ := List.mem_map.mp hq
    obtain ⟨b, hb, rfl⟩ := List.mem_map.mp hd
    exact ⟨a, ha, b, hb, rfl⟩
  · rintro ⟨a, ha, b, hb, rfl⟩
    exact ⟨_, List.mem_map_of_mem ha, List.mem_map_of_mem hb⟩
theorem bhr_append {l : Lt} {u t : Steps} {d : Steps} (h : d ∈ bhr l (u ++ t)) : (∃ e ∈ bhr l u, d = e ++ t) ∨ d ∈ bhr l t := by
  induction u with
  | nil => exact .inr h
  | cons x u ih =>
    rw [List.cons_append, bhr_cons] at h
    rcases List.mem_append.mp h with h | h
    · obtain ⟨e, he, rfl⟩ := List.mem_map.mp h
      exact .inl ⟨e ++ u, by rw [bhr_cons]; exact List.mem_append_left _ (List.mem_map_of_mem he), by rw [List.append_assoc]⟩
    · by_cases hc : cs1 x = true
      · rw [if_pos hc] at h
        rcases ih h with ⟨e, he, rfl⟩ | h
        · exact .inl ⟨e, by rw [bhr_cons, if_pos hc]; exact List.mem_append_right _ he, rfl⟩
        · exact .inr h
      · rw [if_neg hc] at h; cases h
theorem bhr_one {l : Lt} {x : TK.Step} {d : Steps} : d ∈ bhr l [x] ↔ d ∈ bh1 l x := by
  rw [bhr_cons, bhr_nil]
  simp
/-- closed: what is left of what is left -/
def ClP (x : TK.Step) : Prop := (∀ l, ∀ d ∈ bh1 l x, d ∈ pd1 x) ∧ ∀ l, ∀ e ∈ pd1 x, ∀ d ∈ bhr l e, d ∈ pd1 x
theorem pds_of {s : Steps} (h : ∀ x ∈ s, ClP x) : (∀ l, ∀ d ∈ bhr l s, d ∈ pds s) ∧ ∀ l, ∀ e ∈ pds s, ∀ d ∈ bhr l e, d ∈ pds s := by
  induction s with
  | nil =>
    refine ⟨fun l d hd => ?_, fun l e he => ?_⟩
    · rw [bhr_nil] at hd; cases hd
    · rw [pds_nil] at he; cases he
  | cons x s ih =>
    obtain ⟨i1, i2⟩ := ih fun y hy => h y (by simp [hy])
    obtain ⟨p1, p2⟩ := h x (by simp)
    have left : ∀ {d}, d ∈ pd1 x → d ++ s ∈ pds (x :: s) := fun hd => by rw [pds_cons]; exact List.mem_append_left _ (List.mem_map_of_mem hd)
    have right : ∀ {d}, d ∈ pds s → d ∈ pds (x :: s) := fun hd => by rw [pds_cons]; exact List.mem_append_right _ hd
    refine ⟨fun l d hd => ?_, fun l e he d hd => ?_⟩
    · rw [bhr_cons] at hd
      rcases List.mem_append.mp hd with hd | hd
      · obtain ⟨e, he, rfl⟩ := List.mem_map.mp hd
        exact left (p1 l e he)
      · by_cases hc : cs1 x = true
        · rw [if_pos hc] at hd; exact right (i1 l d hd)
        · rw [if_neg hc] at hd; cases hd
    · rw [pds_cons] at he
      rcases List.mem_append.mp he with he | he
      · obtain ⟨e1, he1, rfl⟩ := List.mem_map.mp he
        rcases bhr_append hd with ⟨d1, hd1, rfl⟩ | hd
        · exact left (p2 l e1 he1 d1 hd1)
        · exact right (i1 l d hd)
      · exact right (i2 l e he d hd)
theorem clP (x : TK.Step) : ClP x := by
  induction x using TK.Step.ind with
  | h1 a b w =>
    refine ⟨fun l d hd => ?_, fun l e he d hd => ?_⟩
    · rw [bh1_tell] at hd
      rw [pd1_tell]
      split at hd
      · exact hd
      · cases hd
    · rw [pd1_tell] at he
      rw [List.mem_singleton.mp he, bhr_nil] at hd
      cases hd
  | h2 bs ih =>
    refine ⟨fun l d hd => ?_, fun l e he d hd => ?_⟩
    · rw [bh1_choice] at hd
      rw [pd1_choice]
      obtain ⟨q, hq, hd⟩ := List.mem_flatten.mp hd
      obtain ⟨b, hb, rfl⟩ := List.mem_map.mp hq
      exact List.mem_flatten.mpr ⟨_, List.mem_map_of_mem hb, (pds_of (ih b hb)).1 l d (dd_mem.mp hd)⟩
    · rw [pd1_choice] at he ⊢
      obtain ⟨q, hq, he⟩ := List.mem_flatten.mp he
      obtain ⟨b, hb, rfl⟩ := List.mem_map.mp hq
      exact List.mem_flatten.mpr ⟨_, List.mem_map_of_mem hb, (pds_of (ih b hb)).2 l e he d hd⟩
  | h3 s ih =>
    obtain ⟨i1, i2⟩ := pds_of ih
    have a : ∀ l, ∀ d ∈ bh1 l (.round s), d ∈ pd1 (.round s) := fun l d hd => by
      rw [bh1_round] at hd
      rw [pd1_round]
      obtain ⟨e, he, rfl⟩ := List.mem_map.mp hd
      exact List.mem_map_of_mem (i1 l e (dd_mem.mp he))
    refine ⟨a, fun l e he d hd => ?_⟩
    rw [pd1_round] at he
    obtain ⟨e1, he1, rfl⟩ := List.mem_map.mp he
    rcases bhr_append hd with ⟨d1, hd1, rfl⟩ | hd
    · rw [pd1_round]
      exact List.mem_map_of_mem (i2 l e1 he1 d1 hd1)
    · exact a l d (bhr_one.mp hd)
  | h4 s t ih1 ih2 =>
    obtain ⟨i1, i2⟩ := pds_of ih1
    obtain ⟨j1, j2⟩ := pds_of ih2
    have ca : ∀ l, ∀ x ∈ s :: pds s, ∀ d ∈ bhr l x, d ∈ pds s := fun l x hx d hd => by
      rcases List.mem_cons.mp hx with rfl | hx
      · exact i1 l d hd
      · exact i2 l x hx d hd
    have cb : ∀ l, ∀ x ∈ t :: pds t, ∀ d ∈ bhr l x, d ∈ pds t := fun l x hx d hd => by
      rcases List.mem_cons.mp hx with rfl | hx
      · exact j1 l d hd
      · exact j2 l x hx d hd
    have key : ∀ l, ∀ x ∈ s :: pds s, ∀ y ∈ t :: pds t, ∀ d ∈ bh1 l (.both x y), d ∈ pd1 (.both s t) := fun l x hx y hy d hd => by
      rw [bh1_both] at hd
      rw [pd1_both, mixes_mem]
      rcases List.mem_append.mp hd with hd | hd
      · obtain ⟨e, he, rfl⟩ := List.mem_map.mp hd
        exact ⟨e, List.mem_cons_of_mem _ (ca l x hx e (dd_mem.mp he)), y, hy, rfl⟩
      · obtain ⟨e, he, rfl⟩ := List.mem_map.mp hd
        exact ⟨x, hx, e, List.mem_cons_of_mem _ (cb l y hy e (dd_mem.mp he)), rfl⟩
    refine ⟨fun l d hd => key l s (by simp) t (by simp) d hd, fun l e he d hd => ?_⟩
    rw [pd1_both, mixes_mem] at he
    obtain ⟨x, hx, y, hy, rfl⟩ := he
    by_cases ex : x = []
    · subst ex
      rw [pd1_both, mixes_mem]
      exact ⟨[], hx, d, List.mem_cons_of_mem _ (cb l y hy d hd), rfl⟩
    · by_cases ey : y = []
      · subst ey
        rw [mix_nil_right] at hd
        rw [pd1_both, mixes_mem]
        exact ⟨d, List.mem_cons_of_mem _ (ca l x hx d hd), [], hy, (mix_nil_right d).symm⟩
      · rw [mix_ne ex ey, bhr_one] at hd
        exact key l x hx y hy d hd
/-- all that may be left of s, s itself too -/
def cl (s : Steps) : List Steps := s :: pds s
theorem cl_self (s : Steps) : s ∈ cl s := by simp [cl]
theorem cl_bhs {l : Lt} {s e d : Steps} (he : e ∈ cl s) (hd : d ∈ bhs l e) : d ∈ cl s := by
  obtain ⟨a, b⟩ := pds_of (s := s) fun x _ => clP x
  have hd := dd_mem.mp hd
  rcases List.mem_cons.mp he with rfl | he
  · exact List.mem_cons_of_mem _ (a l d hd)
  · exact List.mem_cons_of_mem _ (b l e he d hd)
/-! what each of them is -/
structure Sml (s : Steps) (D : Nat) (d : Steps) : Prop where
  dep : deps d ≤ deps s
  hgt : hgts d ≤ D * hgts s
  lts : ∀ l ∈ lts d, l ∈ lts s
theorem deps_append (s t : Steps) : deps (s ++ t) = max (deps s) (deps t) := by
  have h1 : deps (s ++ t) ≤ max (deps s) (deps t) := deps_le.mpr fun x hx => by
    rcases List.mem_append.mp hx with h | h
    · have := deps_le.mp (Nat.le_refl (deps s)) x h; omega
    · have := deps_le.mp (Nat.le_refl (deps t)) x h; omega
  have h2 : deps s ≤ deps (s ++ t) := deps_le.mpr fun x hx => deps_le.mp (Nat.le_refl _) x (by simp [hx])
  have h3 : deps t ≤ deps (s ++ t) := deps_le.mpr fun x hx => deps_le.mp (Nat.le_refl _) x (by simp [hx])
  omega
theorem deps_one (x : TK.Step) : deps [x] = dep x := by simp [deps]
theorem deps_cons (x : TK.Step) (s : Steps) : deps (x :: s) = max (dep x) (deps s) := by simp [deps]
def SmP (x : TK.Step) : Prop := ∀ d ∈ pd1 x, Sml [x] (dep x + 1) d
theorem sml_pds {s : Steps} (h : ∀ x ∈ s, SmP x) : ∀ d ∈ pds s, Sml s (deps s + 1) d := by
  induction s with
  | nil => intro d hd; cases hd
  | cons x s ih =>
    intro d hd
    rw [pds_cons] at hd
    rw [deps_cons]
    rcases List.mem_append.mp hd with hd | hd
    · obtain ⟨e, he, rfl⟩ := List.mem_map.mp hd
      obtain ⟨a, b, c⟩ := h x (by simp) e he
      rw [deps_one] at a
      rw [hgts_cons, hgts_nil] at b
      refine ⟨by rw [deps_append, deps_cons]; omega, ?_, fun l hl => ?_⟩
      · rw [hgts_append, hgts_cons]
        have h1 : (dep x + 1) * (hgt x + 0) ≤ (max (dep x) (deps s) + 1) * hgt x := Nat.mul_le_mul_right _ (by omega)
        have h2 : 1 * hgts s ≤ (max (dep x) (deps s) + 1) * hgts s := Nat.mul_le_mul_right _ (by omega)
        rw [Nat.mul_add]
        omega
      · rw [lts_append] at hl
        rw [lts_cons]
        rcases List.mem_append.mp hl with hl | hl
        · have := c l hl
          rw [lts_cons, lts_nil, List.append_nil] at this
          exact List.mem_append_left _ this
        · exact List.mem_append_right _ hl
    · obtain ⟨a, b, c⟩ := ih (fun y hy => h y (by simp [hy])) d hd
      refine ⟨by rw [deps_cons]; omega, ?_, fun l hl => by rw [lts_cons]; exact List.mem_append_right _ (c l hl)⟩
      rw [hgts_cons]
      refine Nat.le_trans b (Nat.mul_le_mul (by omega) (by omega))
theorem sml_self (s : Steps) {D : Nat} (h : 1 ≤ D) : Sml s D s := ⟨Nat.le_refl _, by have := Nat.mul_le_mul_right (hgts s) h; omega, fun l h => h⟩
theorem lts_one (x : TK.Step) : lts [x] = lts1 x := by rw [lts_cons, lts_nil, List.append_nil]
theorem hgts_one (x : TK.Step) : hgts [x] = hgt x := by rw [hgts_cons, hgts_nil]; rfl
theorem smP (x : TK.Step) : SmP x := by
  induction x using TK.Step.ind with
  | h1 a b w =>
    intro d hd
    rw [pd1_tell] at hd
    rw [List.mem_singleton.mp hd]
    exact ⟨Nat.zero_le _, Nat.zero_le _, fun l h => by cases h⟩
  | h2 bs ih =>
    intro d hd
    rw [pd1_choice] at hd
    obtain ⟨q, hq, hd⟩ := List.mem_flatten.mp hd
    obtain ⟨b, hb, rfl⟩ := List.mem_map.mp hq
    obtain ⟨a1, a2, a3⟩ := sml_pds (ih b hb) d hd
    have hdb : deps b + 1 ≤ dep (.choice bs) := by
      rw [dep_choice]
      have : deps b ≤ (bs.map deps).foldr max 0 := max_le.mp (Nat.le_refl _) _ (List.mem_map_of_mem hb)
      omega
    have hgb := hgts_memB hb
    refine ⟨by rw [deps_one]; omega, ?_, fun l hl => ?_⟩
    · rw [hgts_one, hgt_choice]
      refine Nat.le_trans a2 (Nat.mul_le_mul (by omega) (by omega))
    · rw [lts_one, lts1_choice]
      exact List.mem_flatten.mpr ⟨_, List.mem_map_of_mem hb, a3 l hl⟩
  | h3 s ih =>
    intro d hd
    rw [pd1_round] at hd
    obtain ⟨e, he, rfl⟩ := List.mem_map.mp hd
    obtain ⟨a1, a2, a3⟩ := sml_pds ih e he
    refine ⟨by rw [deps_append, deps_one, dep_round]; omega, ?_, fun l hl => ?_⟩
    · rw [hgts_append, hgts_one, hgt_round, dep_round]
      have : (1 + deps s + 1) * (2 + hgts s) = (deps s + 1) * hgts s + hgts s + 2 * (deps s + 2) := by
        simp only [Nat.mul_add, Nat.add_mul]; omega
      omega
    · rw [lts_one, lts1_round]
      rw [lts_append, lts_one, lts1_round] at hl
      rcases List.mem_append.mp hl with hl | hl
      · exact a3 l hl
      · exact hl
  | h4 s t ih1 ih2 =>
    intro d hd
    rw [pd1_both, mixes_mem] at hd
    obtain ⟨x, hx, y, hy, rfl⟩ := hd
    have sx : Sml s (deps s + 1) x := by
      rcases List.mem_cons.mp hx with rfl | hx
      · exact sml_self _ (by omega)
      · exact sml_pds ih1 x hx
    have sy : Sml t (deps t + 1) y := by
      rcases List.mem_cons.mp hy with rfl | hy
      · exact sml_self _ (by omega)
      · exact sml_pds ih2 y hy
    have m : deps (mix x y) ≤ 1 + max (deps x) (deps y) ∧ hgts (mix x y) ≤ 3 + (hgts x + hgts y) ∧ ∀ l ∈ lts (mix x y), l ∈ lts x ++ lts y := by
      by_cases ex : x = []
      · subst ex
        exact ⟨by show deps y ≤ _; omega, by show hgts y ≤ _; omega, fun l hl => List.mem_append_right _ hl⟩
      · by_cases ey : y = []
        · subst ey
          rw [mix_nil_right]
          exact ⟨by omega, by omega, fun l hl => List.mem_append_left _ hl⟩
        · rw [mix_ne ex ey, deps_one, dep_both, hgts_one, hgt_both, lts_one, lts1_both]
          exact ⟨Nat.le_refl _, Nat.le_refl _, fun l hl => hl⟩
    obtain ⟨m1, m2, m3⟩ := m
    obtain ⟨x1, x2, x3⟩ := sx
    obtain ⟨y1, y2, y3⟩ := sy
    refine ⟨by rw [deps_one, dep_both]; omega, ?_, fun l hl => ?_⟩
    · rw [hgts_one, hgt_both, dep_both]
      have e1 : (deps s + 1) * hgts s ≤ (1 + max (deps s) (deps t) + 1) * hgts s := Nat.mul_le_mul_right _ (by omega)
      have e2 : (deps t + 1) * hgts t ≤ (1 + max (deps s) (deps t) + 1) * hgts t := Nat.mul_le_mul_right _ (by omega)
      rw [Nat.mul_add, Nat.mul_add]
      omega
    · rw [lts_one, lts1_both]
      rcases List.mem_append.mp (m3 l hl) with hl | hl
      · exact List.mem_append_left _ (x3 l hl)
      · exact List.mem_append_right _ (y3 l hl)
theorem sml_cl {s d : Steps} (h : d ∈ cl s) : Sml s (deps s + 1) d := by
  rcases List.mem_cons.mp h with rfl | h
  · exact sml_self _ (by omega)
  · exact sml_pds (fun x _ => smP x) d h
theorem scr_len : ∀ ns : List Int, dLen (scr ns) = some (.int ns.length)
  | [] => rfl
  | n :: ns => by
    show some (PyData.int (((PyData.int n, PyData.none) :: ns.map fun n => (PyData.int n, PyData.none)).length : Nat)) = _
    rw [List.length_cons, List.length_map]; rfl
theorem scr_ix0 : ∀ (ns : List Int) (i : Int), dIx (scr ns) (.int i) = atI ((ns.map fun n => (PyData.int n, PyData.none)).map (·.1)) i
  | [], _ => rfl
  | _ :: _, _ => rfl
theorem scr_ix (ns : List Int) (k : Nat) (h : k < ns.length) : ∃ c : Int, dIx (scr ns) (.int k) = some (.int c) := by
  refine ⟨ns[k], ?_⟩
  rw [scr_ix0, scr_fst]
  exact atI_nat (by rw [List.getElem?_map, List.getElem?_eq_getElem h]; rfl)
theorem cell_ok (ns : List Int) (k : Nat) : ∃ c : Int, m_law_cell_at [scr ns, .int k] = some (.int c) := by
  by_cases h : k < ns.length
  · obtain ⟨c, hc⟩ := scr_ix ns k h
    refine ⟨c, ?_⟩
    have h' : (k : Int) < (ns.length : Int) := by omega
    simp [m_law_cell_at, runF, f_law_cell_at, scr_len, hc, h']
  · refine ⟨0, ?_⟩
    have h' : ¬ (k : Int) < (ns.length : Int) := by omega
    simp [m_law_cell_at, runF, f_law_cell_at, scr_len, h']

theorem mod_lt' (a : Int) {b : Int} (h : 0 < b) : 0 ≤ a % b ∧ a % b < b := ⟨Int.emod_nonneg a (by omega), Int.emod_lt_of_pos a h⟩
theorem mixed_ok (ns : List Int) (k : Nat) (hk : k ≤ 100) : ∃ r : Int, m_law_mixed [scr ns, .int k] = some (.int r) ∧ 0 ≤ r ∧ r < 2147483629 := by
  obtain ⟨c, hc⟩ := cell_ok ns k
  obtain ⟨h0, h1⟩ := mod_lt' ((c + 7919 * (k : Int) + 1) * 48271) (b := 2147483647) (by decide)
  have q := mod_lt' ((c + 7919 * (k : Int) + 1) * 48271 % 2147483647 * ((c + 7919 * (k : Int) + 1) * 48271 % 2147483647) + 7 * ((c + 7919 * (k : Int) + 1) * 48271 % 2147483647) + k) (b := 2147483629) (by decide)
  refine ⟨_, ?_, q⟩
  have h2 : -18446744073709551616 < (c + 7919 * (k : Int) + 1) * 48271 % 2147483647 ∧ (c + 7919 * (k : Int) + 1) * 48271 % 2147483647 < 18446744073709551616 := ⟨by omega, by omega⟩
  simp [m_law_mixed, runF, f_law_mixed, hc, h2]
theorem drawn_ok (n k : Int) : ∃ r : Int, m_law_drawn [.int n, .int k] = some (.int r) ∧ 0 ≤ r ∧ r < 2147483629 := by
  obtain ⟨h0, h1⟩ := mod_lt' ((n + 104729 * k + 17) * 69621) (b := 2147483647) (by decide)
  have q := mod_lt' ((n + 104729 * k + 17) * 69621 % 2147483647 * ((n + 104729 * k + 17) * 69621 % 2147483647) + 3 * ((n + 104729 * k + 17) * 69621 % 2147483647) + k) (b := 2147483629) (by decide)
  refine ⟨_, ?_, q⟩
  have h2 : -18446744073709551616 < (n + 104729 * k + 17) * 69621 % 2147483647 ∧ (n + 104729 * k + 17) * 69621 % 2147483647 < 18446744073709551616 := ⟨by omega, by omega⟩
  simp [m_law_drawn, runF, f_law_drawn, h2]
/-- a name -/
def IsNm (w : Str) : Prop := 1 ≤ w.cps.size ∧ w.cps.size ≤ 5 ∧ ∀ c ∈ w.cps.toList, 97 ≤ c ∧ c ≤ 122
theorem nm_of {w : Str} (h : (decide (1 ≤ w.cps.size) && decide (w.cps.size ≤ 5) && w.cps.toList.all fun c => decide (97 ≤ c) && decide (c ≤ 122)) = true) : IsNm w := by
  simp only [Bool.and_eq_true, decide_eq_true_eq, List.all_eq_true] at h
  exact ⟨h.1.1, h.1.2, h.2⟩
theorem div_nn {a b : Int} (h : 0 ≤ a) (hb : 0 < b) : 0 ≤ a / b := Int.ediv_nonneg h (by omega)
theorem nat_of {a : Int} (h : 0 ≤ a) : ∃ n : Nat, a = n := ⟨a.toNat, by omega⟩
/-- a comprehension over a range whose elements are all told -/
theorem lc_rng {tg : PyData → Rho → Option Rho} {el : Rho → Option PyData} {ρ : Rho} (P : PyData → Prop) : ∀ (ds : List PyData), (∀ d ∈ ds, ∃ r y, tg d ρ = some r ∧ el r = some y ∧ P y) → ∃ ys, lcGo tg tYs el ρ ds = some ys ∧ ys.length = ds.length ∧ ∀ y ∈ ys, P y
  | [], _ => ⟨[], rfl, rfl, by simp⟩
  | d :: ds, h => by
    obtain ⟨r, y, h1, h2, h3⟩ := h d (by simp)
    obtain ⟨ys, h4, h5, h6⟩ := lc_rng P ds fun e he => h e (by simp [he])
    refine ⟨y :: ys, ?_, by simp [h5], by simpa using ⟨h3, h6⟩⟩
    unfold lcGo
    simp [h1, h2, h4]
theorem strs_one : ∀ (ys : List PyData), (∀ y ∈ ys, ∃ c : Nat, y = .str ⟨#[c]⟩ ∧ 97 ≤ c ∧ c ≤ 122) → ∃ cs : List Nat, strsD ys = some (cs.map fun c => ⟨#[c]⟩) ∧ cs.length = ys.length ∧ ∀ c ∈ cs, 97 ≤ c ∧ c ≤ 122
  | [], _ => ⟨[], rfl, rfl, by simp⟩
  | y :: ys, h => by
    obtain ⟨c, rfl, h1⟩ := h y (by simp)
    obtain ⟨cs, h2, h3, h4⟩ := strs_one ys fun z hz => h z (by simp [hz])
    exact ⟨c :: cs, by simp [strsD, h2], by simp [h3], by simpa using ⟨h1, h4⟩⟩
theorem dJoin_lst {a : Str} {ds : List PyData} {ys : List Str} (h : strsD ds = some ys) (hz : (ys.map (·.length)).sum + ys.length * a.length ≤ 16777216) : dJoin (.str a) (.list ds) = some (.str (Txt.join a ys)) := by
  show ((strsD ds).bind fun ys => if (ys.map (·.length)).sum + ys.length * a.length ≤ 16777216 then some (PyData.str (Txt.join a ys)) else none) = _
  rw [h]
  exact if_pos hz
theorem joinL_nil' : ∀ (ls : List (List Nat)), TL.joinL [] ls = ls.flatten
  | [] => rfl
  | [l] => by simp [TL.joinL]
  | l :: m :: r => by
    have := joinL_nil' (m :: r)
    simp only [TL.joinL, List.nil_append, List.flatten_cons] at this ⊢
    rw [this]
theorem join_signs (cs : List Nat) : (Txt.join ("" : Str) (cs.map fun c => ⟨#[c]⟩)).cps.toList = cs := by
  rw [TL.join_eq]
  have h := TL.tl_join ("" : Str) (cs.map fun c => ⟨#[c]⟩)
  have e : TL.tl ("" : Str) = [] := by decide
  rw [e, joinL_nil', List.map_map] at h
  have h2 : (cs.map (TL.tl ∘ fun c => (⟨#[c]⟩ : Str))).flatten = cs := by
    clear h
    induction cs with
    | nil => rfl
    | cons c cs ih => rw [List.map_cons, List.flatten_cons, ih]; rfl
  rw [h2] at h
  exact h
theorem word_ok (n : Int) (hn : 0 ≤ n) : ∃ w : Str, m_law_word [.int n] = some (.str w) ∧ IsNm w := by
  obtain ⟨h0, h1⟩ := mod_lt' n (b := 6) (by decide)
  by_cases hz : 0 < n % 6
  · have hc : n % 6 = 1 ∨ n % 6 = 2 ∨ n % 6 = 3 ∨ n % 6 = 4 ∨ n % 6 = 5 := by omega
    rcases hc with e | e | e | e | e
    · exact ⟨"hi", by simp [m_law_word, runF, f_law_word, e], nm_of (by decide)⟩
    · exact ⟨"go", by simp [m_law_word, runF, f_law_word, e], nm_of (by decide)⟩
    · exact ⟨"hi", by simp [m_law_word, runF, f_law_word, e], nm_of (by decide)⟩
    · exact ⟨"later", by simp [m_law_word, runF, f_law_word, e], nm_of (by decide)⟩
    · refine ⟨"go", ?_, nm_of (by decide)⟩
      simp [m_law_word, runF, f_law_word, e]
      rfl
  · have e : n % 6 = 0 := by omega
    obtain ⟨h2, h3⟩ := mod_lt' (n / 6) (b := 5) (by decide)
    obtain ⟨m, hm⟩ := nat_of (show 0 ≤ 1 + n / 6 % 5 by omega)
    have el : ∀ d ∈ rints 0 m, ∃ r y, g1 2 d [some (.int n), some (.str "abcdefghijklmnopqrstuvwxyz"), none] = some r ∧
        e_law_word_1 r = some y ∧ ∃ c : Nat, y = .str ⟨#[c]⟩ ∧ 97 ≤ c ∧ c ≤ 122 := by
      intro d hd
      unfold rints at hd
      rw [List.mem_map] at hd
      obtain ⟨i, _, rfl⟩ := hd
      obtain ⟨r, hr, hr0, _⟩ := drawn_ok n (i : Nat)
      obtain ⟨h4, h5⟩ := mod_lt' (r / 4) (b := 26) (by decide)
      obtain ⟨j, hj⟩ := nat_of h4
      have hj26 : j < 26 := by omega
      have hl : ("abcdefghijklmnopqrstuvwxyz" : Str).length ≤ sizeLine := by decide
      have hat : L2.atI ("abcdefghijklmnopqrstuvwxyz" : Str).cps.toList (j : Int) = some (97 + j) := by
        refine atI_nat ?_
        have : ∀ j < 26, ("abcdefghijklmnopqrstuvwxyz" : Str).cps.toList[j]? = some (97 + j) := by decide
        exact this j hj26
      refine ⟨_, .str ⟨#[97 + j]⟩, rfl, ?_, 97 + j, rfl, by omega, by omega⟩
      simp [e_law_word_1, hr, hj]
      simp [dIx, hl, hat]
    obtain ⟨ys, hy, hyl, hyp⟩ := lc_rng _ _ el
    obtain ⟨cs, hcs, hcl, hcp⟩ := strs_one ys hyp
    rw [rints_length] at hyl
    have hlen : cs.length ≤ 5 ∧ 1 ≤ cs.length := by omega
    refine ⟨Txt.join ("" : Str) (cs.map fun c => ⟨#[c]⟩), ?_, ?_⟩
    · have hs : ((cs.map fun c => (⟨#[c]⟩ : Str)).map (·.length)).sum = cs.length := by
        clear hcs hcl hcp hlen
        induction cs with
        | nil => rfl
        | cons c cs ih => simp only [List.map_cons, List.sum_cons, List.length_cons, ih]; show 1 + _ = _; omega
      have hz : ("" : Str).length = 0 := by decide
      have hm2 : -1000000 ≤ (m : Int) ∧ (m : Int) ≤ 1000000 := by omega
      simp [m_law_word, runF, f_law_word, e, hm, hm2]
      rw [hy]
      have hj : dJoin (.str "") (.list ys) = some (.str (Txt.join ("" : Str) (cs.map fun c => ⟨#[c]⟩))) := dJoin_lst hcs (by rw [hs, hz]; omega)
      simp [hj]
    · have ht := join_signs cs
      have hsz : (Txt.join ("" : Str) (cs.map fun c => ⟨#[c]⟩)).cps.size = cs.length := by rw [← Array.length_toList, ht]
      exact ⟨by omega, by omega, fun c hc => hcp c (by rw [ht] at hc; exact hc)⟩

/-- names as data -/
def hsD (hs : List Str) : PyData := .tuple (hs.map PyData.str)
/-- what is drawn: up to so deep -/
def WS (hs : List Str) : Nat → TK.Step → Prop
  | _, .tell a b w => a ∈ hs ∧ b ∈ hs ∧ IsNm w
  | d + 1, .choice bs => 1 ≤ bs.length ∧ bs.length ≤ 3 ∧ ∀ b ∈ bs, b.length ≤ 2 ∧ ∀ s ∈ b, WS hs d s
  | d + 1, .round s => s.length ≤ 2 ∧ ∀ x ∈ s, WS hs d x
  | d + 1, .both s t => (s.length ≤ 2 ∧ ∀ x ∈ s, WS hs d x) ∧ t.length ≤ 2 ∧ ∀ x ∈ t, WS hs d x
  | 0, .choice _ => False
  | 0, .round _ => False
  | 0, .both _ _ => False
theorem hs_ix {hs : List Str} (hne : hs ≠ []) (i : Int) : ∃ h, h ∈ hs ∧ dIx (hsD hs) (.int (i % (hs.length : Int))) = some (.str h) := by
  have hl : 0 < hs.length := List.length_pos_iff.mpr hne
  obtain ⟨h0, h1⟩ := mod_lt' i (b := (hs.length : Int)) (by omega)
  obtain ⟨j, hj⟩ := nat_of h0
  have hjl : j < hs.length := by omega
  refine ⟨hs[j], List.getElem_mem _, ?_⟩
  rw [hj]
  show atI (hs.map PyData.str) j = _
  exact atI_nat (by rw [List.getElem?_map, List.getElem?_eq_getElem hjl] <;> rfl)
theorem all_steps : ∀ {ys : List PyData} {P : TK.Step → Prop}, (∀ y ∈ ys, ∃ s, y = sD s ∧ P s) → ∃ ss : Steps, ys = ss.map sD ∧ ∀ s ∈ ss, P s
  | [], _, _ => ⟨[], rfl, by simp⟩
  | y :: ys, P, h => by
    obtain ⟨s, rfl, hs⟩ := h y (by simp)
    obtain ⟨ss, rfl, hss⟩ := all_steps (ys := ys) (P := P) fun z hz => h z (by simp [hz])
    exact ⟨s :: ss, rfl, by simpa using ⟨hs, hss⟩⟩
theorem all_stepss : ∀ {ys : List PyData} {P : Steps → Prop}, (∀ y ∈ ys, ∃ s, y = ssD s ∧ P s) → ∃ ss : List Steps, ys = ss.map ssD ∧ ∀ s ∈ ss, P s
  | [], _, _ => ⟨[], rfl, by simp⟩
  | y :: ys, P, h => by
    obtain ⟨s, rfl, hs⟩ := h y (by simp)
    obtain ⟨ss, rfl, hss⟩ := all_stepss (ys := ys) (P := P) fun z hz => h z (by simp [hz])
    exact ⟨s :: ss, rfl, by simpa using ⟨hs, hss⟩⟩
theorem rints_mem {n : Nat} {d : PyData} (h : d ∈ rints 0 n) : ∃ i : Nat, i < n ∧ d = .int (i : Int) := by
  unfold rints at h
  rw [List.mem_map] at h
  obtain ⟨i, hi, rfl⟩ := h
  exact ⟨i, List.mem_range.mp hi, by rw [Int.zero_add]⟩
theorem steps_of {hs : List Str} {d n : Nat} (S : ∀ num, 0 ≤ num → ∃ s, m_law_step n [.int num, hsD hs, .int d] = some (sD s) ∧ WS hs d s) (num most : Int) (hn : 0 ≤ num) (hm : 0 ≤ most) (hm2 : most ≤ 100) :
    ∃ ss : Steps, m_law_steps (n + 1) [.int num, hsD hs, .int d, .int most] = some (ssD ss) ∧ (ss.length : Int) ≤ most ∧ ∀ s ∈ ss, WS hs d s := by
  obtain ⟨h0, h1⟩ := mod_lt' num (b := most + 1) (by omega)
  obtain ⟨m, hm3⟩ := nat_of h0
  have el : ∀ e ∈ rints 0 m, ∃ r y, g1 4 e [some (.int num), some (hsD hs), some (.int d), some (.int most), none] = some r ∧
      e_law_steps_1 (m_law_step n) (m_law_steps n) r = some y ∧ ∃ s, y = sD s ∧ WS hs d s := by
    intro e he
    obtain ⟨i, _, rfl⟩ := rints_mem he
    obtain ⟨r, hr, hr0, _⟩ := drawn_ok num (10 + (i : Nat))
    obtain ⟨s, hs1, hs2⟩ := S (r / 4) (div_nn hr0 (by decide))
    exact ⟨_, sD s, rfl, by simp [e_law_steps_1, hr, hs1], s, rfl, hs2⟩
  obtain ⟨ys, hy, hyl, hyp⟩ := lc_rng _ _ el
  obtain ⟨ss, rfl, hss⟩ := all_steps hyp
  rw [rints_length, List.length_map] at hyl
  refine ⟨ss, ?_, by omega, hss⟩
  have hm4 : -1000000 ≤ (m : Int) ∧ (m : Int) ≤ 1000000 := by omega
  have hp : 0 < most + 1 := by omega
  simp [m_law_steps, runF, f_law_steps, hm3, hm4, hp]
  rw [hy]
  rfl
theorem dEq_int' (i j : Int) : dEq (.int i) (.int j) = some (decide (i = j)) := by rw [dEq_int, Bool.beq_eq_decide_eq]
theorem dLen_hs (hs : List Str) : dLen (hsD hs) = some (.int hs.length) := by
  show some (PyData.int _) = _
  rw [List.length_map]
theorem tell_of {hs : List Str} (hne : hs ≠ []) {n : Nat} (num : Int) (hn : 0 ≤ num) (d : Nat) (h : d = 0 ∨ num % 7 < 3) : ∃ s, m_law_step (n + 1) [.int num, hsD hs, .int d] = some (sD s) ∧ WS hs d s := by
  obtain ⟨a, ha, ea⟩ := hs_ix hne (num / 8)
  obtain ⟨b, hb, eb⟩ := hs_ix hne (num / 64)
  obtain ⟨w, ew, hw⟩ := word_ok (num / 512) (div_nn hn (by decide))
  refine ⟨.tell a b w, ?_, by unfold WS; exact ⟨ha, hb, hw⟩⟩
  have hl : 0 < hs.length := List.length_pos_iff.mpr hne
  have ht : (if decide ((d : Int) = 0) = true then some true else some (decide (num % 7 < 3))) = some true := by
    rcases h with h | h
    · subst h; rfl
    · rw [decide_eq_true h]; split <;> rfl
  rw [sD_tell]
  simp [m_law_step, runF, f_law_step, dEq_int', dLen_hs, hl, ea, eb, ew]
  simp at ht
  rcases h with h | h
  · simp [h]
  · simp [h]
theorem step_ok {hs : List Str} (hne : hs ≠ []) : ∀ d n : Nat, (∀ num, 0 ≤ num → ∃ s, m_law_step (n + 2 * d + 1) [.int num, hsD hs, .int d] = some (sD s) ∧ WS hs d s)
  | 0, n => fun num hn => tell_of hne num hn 0 (.inl rfl)
  | d + 1, n => fun num hn => by
    by_cases h3 : num % 7 < 3
    · exact tell_of hne num hn (d + 1) (.inr h3)
    have en : n + 2 * (d + 1) + 1 = (n + 2 * d + 1 + 1) + 1 := by omega
    rw [en]
    have T := fun (nu : Int) (h : 0 ≤ nu) => steps_of (step_ok hne d n) nu 2 h (by decide) (by decide)
    generalize n + 2 * d + 1 + 1 = N at T ⊢
    have ed : ((d + 1 : Nat) : Int) - 1 = d := by omega
    have hd0 : ¬ ((d : Int) + 1 = 0) := by omega
    by_cases h5 : num % 7 < 5
    · obtain ⟨h0, h1⟩ := mod_lt' (num / 8) (b := 3) (by decide)
      obtain ⟨m, hm⟩ := nat_of (show 0 ≤ 1 + num / 8 % 3 by omega)
      have el : ∀ e ∈ rints 0 m, ∃ r y, g1 9 e [some (.int num), some (hsD hs), some (.int ((d : Int) + 1)), some (.int (num % 7)), none, none, none, some (.int m), none, none] = some r ∧
          e_law_step_1 (m_law_step N) (m_law_steps N) r = some y ∧ ∃ s, y = ssD s ∧ ((s.length : Int) ≤ 2 ∧ ∀ x ∈ s, WS hs d x) := by
        intro e he
        obtain ⟨i, _, rfl⟩ := rints_mem he
        obtain ⟨r, hr, hr0, _⟩ := drawn_ok num (i : Nat)
        obtain ⟨ss, h7, h8, h9⟩ := T (r / 4) (div_nn hr0 (by decide))
        have e3 : (d : Int) + 1 - 1 = d := by omega
        refine ⟨_, ssD ss, rfl, ?_, ss, rfl, h8, h9⟩
        simp [e_law_step_1, hr, e3, h7]
      obtain ⟨ys, hy, hyl, hyp⟩ := lc_rng _ _ el
      obtain ⟨bs, rfl, hbs⟩ := all_stepss hyp
      rw [rints_length, List.length_map] at hyl
      refine ⟨.choice bs, ?_, ?_⟩
      · have hm4 : -1000000 ≤ (m : Int) ∧ (m : Int) ≤ 1000000 := by omega
        rw [sD_choice]
        simp [m_law_step, runF, f_law_step, dEq_int', hd0, h3, h5, hm, hm4]
        rw [hy]
        simp
      · unfold WS
        exact ⟨by omega, by omega, fun b hb => ⟨by have := (hbs b hb).1; omega, (hbs b hb).2⟩⟩
    · obtain ⟨r, hr, hr0, _⟩ := drawn_ok num 4
      obtain ⟨s1, h7, h8, h9⟩ := T (r / 4) (div_nn hr0 (by decide))
      have e3 : (d : Int) + 1 - 1 = d := by omega
      by_cases he : num % 7 = 5
      · refine ⟨.round s1, ?_, by unfold WS; exact ⟨by omega, h9⟩⟩
        rw [sD_round]
        simp [m_law_step, runF, f_law_step, dEq_int', hd0, he, hr, e3, h7]
      · obtain ⟨r2, hr2, hr20, _⟩ := drawn_ok num 5
        obtain ⟨s2, h10, h11, h12⟩ := T (r2 / 4) (div_nn hr20 (by decide))
        refine ⟨.both s1 s2, ?_, by unfold WS; exact ⟨⟨by omega, h9⟩, by omega, h12⟩⟩
        rw [sD_both]
        simp [m_law_step, runF, f_law_step, dEq_int', hd0, he, h3, h5, hr, hr2, e3, h7, h10]
theorem steps_ok {hs : List Str} (hne : hs ≠ []) (d n : Nat) (num most : Int) (hn : 0 ≤ num) (hm : 0 ≤ most) (hm2 : most ≤ 100) :
    ∃ ss : Steps, m_law_steps (n + 2 * d + 2) [.int num, hsD hs, .int d, .int most] = some (ssD ss) ∧ (ss.length : Int) ≤ most ∧ ∀ s ∈ ss, WS hs d s := steps_of (step_ok hne d n) num most hn hm hm2
/-- hands -/
def HsOk (hs : List Str) : Prop := 1 ≤ hs.length ∧ hs.length ≤ 4 ∧ hs.Nodup ∧ ∀ h ∈ hs, IsNm h
theorem HsOk.ne {hs : List Str} (h : HsOk hs) : hs ≠ [] := fun e => by have := h.1; rw [e] at this; simp at this
theorem pl_hs (hs : List Str) : pl (hsD hs) = true := pl_of (by unfold hsD; rw [plain_tup]; simp [plain_str]) (by
  unfold hsD
  exact Nat.le_trans (depth_tup (n := 0).mpr (by simp [depth_str])) (by decide))
theorem eqv_str (a b : Str) : PyData.eqv (.str a) (.str b) = decide (a = b) := by rw [PyData.eqv, Bool.beq_eq_decide_eq]
theorem any_str (a : Str) (hs : List Str) : ((hs.map PyData.str).any fun z => PyData.eqv z (.str a)) = decide (a ∈ hs) := by
  induction hs with
  | nil => rfl
  | cons h hs ih =>
    rw [List.map_cons, List.any_cons, ih, eqv_str]
    by_cases e : h = a
    · subst e; simp
    · have e' : ¬ a = h := fun z => e z.symm
      simp [e, e']
theorem dIn_hs (a : Str) (hs : List Str) : dIn (.str a) (hsD hs) = some (decide (a ∈ hs)) := by
  have := pl_hs hs
  unfold hsD at this ⊢
  show (if pl (.str a) = true ∧ pl (.tuple (hs.map PyData.str)) = true then some ((hs.map PyData.str).any fun z => PyData.eqv z (.str a)) else none) = _
  rw [if_pos ⟨rfl, this⟩, any_str]
theorem hands0 (num : Int) : ∃ hs : List Str, HsOk hs ∧ dIx (.tuple [.tuple [.str "a"], .tuple [.str "a", .str "bob"], .tuple [.str "c", .str "a", .str "bob"], .tuple [.str "d", .str "bob", .str "a", .str "c"]]) (.int (num % 4)) = some (hsD hs) := by
  obtain ⟨h0, h1⟩ := mod_lt' num (b := 4) (by decide)
  have hc : num % 4 = 0 ∨ num % 4 = 1 ∨ num % 4 = 2 ∨ num % 4 = 3 := by omega
  have n1 : IsNm "a" := nm_of (by decide)
  have n2 : IsNm "bob" := nm_of (by decide)
  have n3 : IsNm "c" := nm_of (by decide)
  have n4 : IsNm "d" := nm_of (by decide)
  rcases hc with e | e | e | e <;> rw [e]
  · exact ⟨["a"], ⟨by decide, by decide, by decide, by simpa using n1⟩, dIx_tup0⟩
  · exact ⟨["a", "bob"], ⟨by decide, by decide, by decide, by simpa using ⟨n1, n2⟩⟩, dIx_tup1⟩
  · exact ⟨["c", "a", "bob"], ⟨by decide, by decide, by decide, by simpa using ⟨n3, n1, n2⟩⟩, dIx_tup2⟩
  · exact ⟨["d", "bob", "a", "c"], ⟨by decide, by decide, by decide, by simpa using ⟨n4, n2, n1, n3⟩⟩, dIx_tup3⟩
theorem cut_tl {α : Type} (x : PyData) (l : List PyData) : cutD (x :: l) (some 1) none = l := cutD_from1
theorem talk_ok (num most : Int) (d : Nat) (hn : 0 ≤ num) (hm : 0 ≤ most) (hm2 : most ≤ 100) (hd : d ≤ 10) :
    ∃ (hs : List Str) (ss : Steps), m_law_talk [.int num, .int d, .int most] = some (.tuple [hsD hs, ssD ss]) ∧ HsOk hs ∧ (ss.length : Int) ≤ most ∧ ∀ s ∈ ss, WS hs d s := by
  obtain ⟨hs0, h1, h2⟩ := hands0 num
  obtain ⟨w, hw, hwn⟩ := word_ok (num / 8 * 6) (by have := div_nn hn (b := 8) (by decide); omega)
  by_cases hc : num / 16 % 3 = 0 ∧ w ∉ hs0
  · obtain ⟨x, r, rfl⟩ : ∃ x r, hs0 = x :: r := by
      cases hs0 with
      | nil => exact absurd rfl h1.ne
      | cons x r => exact ⟨x, r, rfl⟩
    have hok : HsOk (w :: r) := by
      obtain ⟨a1, a2, a3, a4⟩ := h1
      refine ⟨by simp, by simpa using a2, ?_, ?_⟩
      · rw [List.nodup_cons] at a3 ⊢
        exact ⟨fun z => hc.2 (by simp [z]), a3.2⟩
      · intro h hh
        rcases List.mem_cons.mp hh with rfl | hh
        · exact hwn
        · exact a4 h (by simp [hh])
    obtain ⟨ss, h3, h4, h5⟩ := steps_ok hok.ne d (30 - 2 * d - 2) (num / 4) most (div_nn hn (by decide)) hm hm2
    have ef : 30 - 2 * d - 2 + 2 * d + 2 = fu_law_step := by unfold fu_law_step; omega
    rw [ef] at h3
    refine ⟨w :: r, ss, ?_, hok, h4, h5⟩
    have hin := dIn_hs w (x :: r)
    rw [decide_eq_false hc.2] at hin
    have hl : r.length + 1 ≤ sizeLine := by have := h1.2.1; rw [List.length_cons] at this; rw [sizeLine_eq]; omega
    unfold hsD at h2 hin h3 ⊢
    simp only [List.map_cons] at h2 hin h3 ⊢
    simp [m_law_talk, runF, f_law_talk, h2, hw, dEq_int', hc.1, hin, cutD_from1, h3]
    simp [Nat.add_comm 1 r.length, hl, h3]
  · obtain ⟨ss, h3, h4, h5⟩ := steps_ok h1.ne d (30 - 2 * d - 2) (num / 4) most (div_nn hn (by decide)) hm hm2
    have ef : 30 - 2 * d - 2 + 2 * d + 2 = fu_law_step := by unfold fu_law_step; omega
    rw [ef] at h3
    refine ⟨hs0, ss, ?_, h1, h4, h5⟩
    have hin := dIn_hs w hs0
    by_cases h6 : num / 16 % 3 = 0
    · have h7 : w ∈ hs0 := by
        by_cases h7 : w ∈ hs0
        · exact h7
        · exact absurd ⟨h6, h7⟩ hc
      rw [decide_eq_true h7] at hin
      simp [m_law_talk, runF, f_law_talk, h2, hw, dEq_int', h6, hin, h3]
    · simp [m_law_talk, runF, f_law_talk, h2, hw, dEq_int', h6, h3]
theorem WS.dep {hs : List Str} : ∀ {d : Nat} {s : TK.Step}, WS hs d s → TK.dep s ≤ d
  | d, .tell a b w, _ => by rw [dep_tell]; exact Nat.zero_le _
  | d + 1, .choice bs, h => by
    unfold WS at h
    rw [dep_choice]
    have : (bs.map deps).foldr max 0 ≤ d := max_le.mpr (by
      simp only [List.mem_map, forall_exists_index, and_imp, forall_apply_eq_imp_iff₂]
      exact fun b hb => deps_le.mpr fun x hx => WS.dep ((h.2.2 b hb).2 x hx))
    omega
  | d + 1, .round s, h => by
    unfold WS at h
    rw [dep_round]
    have : deps s ≤ d := deps_le.mpr fun x hx => WS.dep (h.2 x hx)
    omega
  | d + 1, .both s t, h => by
    unfold WS at h
    rw [dep_both]
    have h1 : deps s ≤ d := deps_le.mpr fun x hx => WS.dep (h.1.2 x hx)
    have h2 : deps t ≤ d := deps_le.mpr fun x hx => WS.dep (h.2.2 x hx)
    omega
  | 0, .choice bs, h => by unfold WS at h; exact h.elim
  | 0, .round bs, h => by unfold WS at h; exact h.elim
  | 0, .both _ _, h => by unfold WS at h; exact h.elim
/-- the most rows of a step so deep -/
def HM : Nat → Nat
  | 0 => 1
  | d + 1 => 6 * HM d + 4
theorem sum_le_mul {α : Type} {f : α → Nat} {k : Nat} : ∀ (l : List α), (∀ x ∈ l, f x ≤ k) → (l.map f).sum ≤ l.length * k
  | [], _ => by simp
  | x :: l, h => by
    have h1 := h x (by simp)
    have h2 := sum_le_mul l fun y hy => h y (by simp [hy])
    simp only [List.map_cons, List.sum_cons, List.length_cons, Nat.add_mul]
    omega
theorem WS.hgt {hs : List Str} : ∀ {d : Nat} {s : TK.Step}, WS hs d s → TK.hgt s ≤ HM d
  | d, .tell a b w, _ => by
    rw [hgt_tell]
    cases d <;> (unfold HM; omega)
  | d + 1, .choice bs, h => by
    unfold WS at h
    rw [hgt_choice]
    have h1 : (bs.map hgts).sum ≤ bs.length * (2 * HM d) := sum_le_mul bs fun b hb => by
      have h2 : hgts b ≤ b.length * HM d := sum_le_mul b fun x hx => WS.hgt ((h.2.2 b hb).2 x hx)
      have h3 := (h.2.2 b hb).1
      exact Nat.le_trans h2 (Nat.mul_le_mul_right _ h3)
    have h4 : bs.length * (2 * HM d) ≤ 3 * (2 * HM d) := Nat.mul_le_mul_right _ h.2.1
    unfold HM
    omega
  | d + 1, .round s, h => by
    unfold WS at h
    rw [hgt_round]
    have h2 : hgts s ≤ s.length * HM d := sum_le_mul s fun x hx => WS.hgt (h.2 x hx)
    have h3 : s.length * HM d ≤ 2 * HM d := Nat.mul_le_mul_right _ h.1
    unfold HM
    omega
  | d + 1, .both s t, h => by
    unfold WS at h
    rw [hgt_both]
    have h2 : hgts s ≤ s.length * HM d := sum_le_mul s fun x hx => WS.hgt (h.1.2 x hx)
    have h3 : s.length * HM d ≤ 2 * HM d := Nat.mul_le_mul_right _ h.1.1
    have h4 : hgts t ≤ t.length * HM d := sum_le_mul t fun x hx => WS.hgt (h.2.2 x hx)
    have h5 : t.length * HM d ≤ 2 * HM d := Nat.mul_le_mul_right _ h.2.1
    unfold HM
    omega
  | 0, .choice bs, h => by unfold WS at h; exact h.elim
  | 0, .round bs, h => by unfold WS at h; exact h.elim
  | 0, .both _ _, h => by unfold WS at h; exact h.elim
theorem sl : sizeLine = 16777216 := sizeLine_eq
theorem s_ct : (("choice" : Str) == "tell") = false := by decide
theorem s_rt : (("round" : Str) == "tell") = false := by decide
theorem s_bt : (("both" : Str) == "tell") = false := by decide
theorem s_rc : (("round" : Str) == "choice") = false := by decide
theorem s_bc : (("both" : Str) == "choice") = false := by decide
theorem s_tc : (("tell" : Str) == "choice") = false := by decide
theorem dNe_str (a b : Str) : dNe (.str a) (.str b) = some (!(a == b)) := rfl
theorem ssD_eq (s : Steps) : ssD s = .tuple (s.map sD) := rfl
theorem dWalk_ss (s : Steps) : dWalk (ssD s) = some (s.map sD) := rfl
/-! ### can_stop, mixed, behind, as they are computed -/
theorem s_rb : (("round" : Str) == "both") = false := by decide
theorem s_br : (("both" : Str) == "round") = false := by decide
theorem s_cb : (("choice" : Str) == "both") = false := by decide
theorem run_of' {n : Nat} {f : Rho → Option Fl} {ds : List PyData} {d : PyData} (h : f (ds.map some ++ List.replicate (n - ds.length) none) = some (.rt d)) : runF n f ds = some d := by
  unfold runF; rw [h]; rfl
def wdn : TK.Step → Str
  | .tell _ _ _ => "tell"
  | .choice _ => "choice"
  | .round _ => "round"
  | .both _ _ => "both"
theorem dAny_bs {α : Type} (f : α → Bool) (l : List α) : dAny (.list (l.map fun a => .bool (f a))) = some (.bool ((l.map f).any id)) := by
  have : l.map (fun a => PyData.bool (f a)) = (l.map f).map PyData.bool := by rw [List.map_map]; rfl
  rw [this]
  show (boolsD _).map _ = _
  rw [boolsD_map]; rfl
theorem can_body {r : List PyData → Option PyData} {n : Nat} (hr : ∀ s : Steps, deps s < n → r [ssD s] = some (.bool (css s))) (x : TK.Step) (hd : dep x ≤ n) (d : Option PyData) :
    b_can_stop_1 r [d, some (sD x), none, none] = some (if cs1 x = true then .nx [d, some (sD x), some (.str (wdn x)), none] else .rt (.bool false)) := by
  cases x with
  | tell a b w => rw [sD_tell, cs1_tell]; simp [b_can_stop_1, dEq_str]
  | choice bs =>
    rw [sD_choice, cs1_choice]
    have hl : lcGo (g1 3) tYs (e_can_stop_1 r) [d, some (.tuple [.str "choice", .tuple (bs.map ssD)]), some (.str "choice"), none] (bs.map ssD) = some (bs.map fun b => .bool (css b)) := lcGo_map (fun b => .bool (css b)) bs fun b hb => ⟨_, rfl, by
      have := hr b (by have := dep_choice_le (n := n - 1) (by rw [dep_choice] at hd ⊢; omega) b hb; rw [dep_choice] at hd; omega)
      simp [e_can_stop_1, this]⟩
    have ha := dAny_bs css bs
    simp [b_can_stop_1, dEq_str, s_ct, hl, ha]
    cases h : (bs.map css).any id with
    | true =>
      have h' : ∃ x, x ∈ bs ∧ css x = true := by simpa using h
      have h2 : ¬ ∀ x, x ∈ bs → css x = false := fun z => by
        obtain ⟨b, h1, h2⟩ := h'
        rw [z b h1] at h2; cases h2
      rw [if_neg h2, if_pos h']
      simp [dEq_str, s_cb, wdn]
    | false =>
      have h' : ∀ x, x ∈ bs → css x = false := by simpa using h
      have h2 : ¬ ∃ x, x ∈ bs ∧ css x = true := fun ⟨b, h1, h2⟩ => by rw [h' b h1] at h2; cases h2
      rw [if_pos h', if_neg h2]
      rfl
  | round l => rw [sD_round, cs1_round]; simp [b_can_stop_1, dEq_str, s_rt, s_rc, s_rb, wdn]
  | both l m =>
    rw [sD_both, cs1_both]
    rw [dep_both] at hd
    have h1 := hr l (by omega)
    have h2 := hr m (by omega)
    simp [b_can_stop_1, dEq_str, s_bt, s_bc, h1, h2]
    cases css l <;> cases css m <;> simp [wdn]
theorem can_loop {r : List PyData → Option PyData} {n : Nat} (hr : ∀ s : Steps, deps s < n → r [ssD s] = some (.bool (css s))) (d : Option PyData) : ∀ s : Steps, deps s ≤ n →
    forGo (g1 1) (b_can_stop_1 r) [1, 2] (s.map sD) [d, none, none, none] = some (if css s = true then .nx [d, none, none, none] else .rt (.bool false))
  | [], _ => rfl
  | x :: s, hd => by
    rw [deps_cons] at hd
    have ih := can_loop hr d s (by omega)
    have hb := can_body hr x (by omega) d
    rw [List.map_cons, css_cons]
    unfold forGo
    simp only [g1_ev, Option.bind_some, List.set_cons_succ, List.set_cons_zero, hb]
    cases cs1 x with
    | true =>
      simp only [if_true, Bool.true_and]
      exact ih
    | false => rfl
theorem can_stop_ok : ∀ (n : Nat) (s : Steps), deps s ≤ n → m_can_stop (n + 1) [ssD s] = some (.bool (css s))
  | n, s, hd => by
    rw [u_can_stop]
    have hr : ∀ t : Steps, deps t < n → m_can_stop n [ssD t] = some (.bool (css t)) := fun t ht => by
      cases n with
      | zero => omega
      | succ n => exact can_stop_ok n t (by omega)
    have h := can_loop hr (some (ssD s)) s hd
    refine run_of' ?_
    show f_can_stop _ [some (ssD s), none, none, none] = _
    have h0 : fFor (e1 (eVar 0) dWalk) (g1 1) [1, 2] (b_can_stop_1 (m_can_stop n)) [some (ssD s), none, none, none] = some (if css s = true then .nx [some (ssD s), none, none, none] else .rt (.bool false)) := h
    rw [f_can_stop, fSeq_ev, h0]
    cases css s <;> rfl
theorem can_top {s : Steps} (hd : deps s ≤ 20) : m_can_stop fu_can_stop [ssD s] = some (.bool (css s)) := can_stop_ok 29 s (by omega)
theorem mixed_ok' (a b : Steps) : m_mixed [ssD a, ssD b] = some (ssD (mix a b)) := by
  have l0 : ∀ s : Steps, dLen (ssD s) = some (.int s.length) := fun s => by
    show some (PyData.int _) = _
    rw [List.length_map]
  by_cases ha : a = []
  · subst ha
    simp [m_mixed, runF, f_mixed, l0, dEq_int, mix]
  · by_cases hb : b = []
    · subst hb
      have h1 : ¬ ((a.length : Int) = 0) := by
        have := List.length_pos_iff.mpr ha
        omega
      simp [m_mixed, runF, f_mixed, l0, dEq_int, h1, ha, mix_nil_right]
    · have h1 : ¬ ((a.length : Int) = 0) := by have := List.length_pos_iff.mpr ha; omega
      have h2 : ¬ ((b.length : Int) = 0) := by have := List.length_pos_iff.mpr hb; omega
      simp [m_mixed, runF, f_mixed, l0, dEq_int, h1, h2, ha, hb, mix_ne ha hb]
      rw [ssD_eq [TK.Step.both a b], List.map_cons, List.map_nil, sD_both]
/-! keys -/
theorem nk_str (x : Str) : nk (.str x) = .text x := by rw [nk]
theorem nk_tup (ds : List PyData) : nk (.tuple ds) = .tup (nks ds) := by rw [nk]
theorem nks_le {ds : List PyData} {n : Nat} : NestedKey.depthAll (nks ds) ≤ n ↔ ∀ d ∈ ds, (nk d).depth ≤ n := by
  induction ds with
  | nil => rw [nks, NestedKey.depthAll]; simp
  | cons d ds ih => rw [nks, NestedKey.depthAll, Nat.max_le, ih]; simp
theorem nkd_tup (ds : List PyData) : (nk (.tuple ds)).depth = NestedKey.depthAll (nks ds) + 1 := by rw [nk_tup, NestedKey.depth]
theorem nkd_str (x : Str) : (nk (.str x)).depth = 0 := by rw [nk_str, NestedKey.depth]
theorem sD_nkd (x : TK.Step) : (nk (sD x)).depth ≤ 3 * dep x + 1 := by
  have lst : ∀ {s : Steps} {n : Nat}, (∀ x ∈ s, (nk (sD x)).depth ≤ n) → (nk (ssD s)).depth ≤ n + 1 := fun {s n} h => by
    rw [ssD_eq, nkd_tup]
    have := (nks_le (ds := s.map sD) (n := n)).mpr fun d hd => by
      obtain ⟨x, hx, rfl⟩ := List.mem_map.mp hd
      exact h x hx
    omega
  induction x using TK.Step.ind with
  | h1 a b w =>
    rw [sD_tell, nkd_tup]
    have := (nks_le (ds := [.str "tell", .str a, .str b, .str w]) (n := 0)).mpr (by simp [nkd_str])
    omega
  | h2 bs ih =>
    rw [sD_choice, nkd_tup, dep_choice]
    have h1 := (nks_le (ds := bs.map ssD) (n := 3 * (bs.map deps).foldr max 0 + 2)).mpr fun d hd => by
      obtain ⟨b, hb, rfl⟩ := List.mem_map.mp hd
      have hm : deps b ≤ (bs.map deps).foldr max 0 := max_le.mp (Nat.le_refl _) _ (List.mem_map_of_mem hb)
      exact lst fun x hx => by
        have h2 := ih b hb x hx
        have h3 := deps_le.mp (Nat.le_refl (deps b)) x hx
        omega
    have := (nks_le (ds := [.str "choice", .tuple (bs.map ssD)]) (n := 3 * (bs.map deps).foldr max 0 + 3)).mpr (by
      simp only [List.mem_cons, List.not_mem_nil, or_false, forall_eq_or_imp, forall_eq, nkd_str, nkd_tup]
      omega)
    omega
  | h3 s ih =>
    rw [sD_round, nkd_tup, dep_round]
    have h1 := lst (s := s) (n := 3 * deps s + 1) fun x hx => by
      have h2 := ih x hx
      have h3 := deps_le.mp (Nat.le_refl (deps s)) x hx
      omega
    have := (nks_le (ds := [.str "round", ssD s]) (n := 3 * deps s + 2)).mpr (by
      simp only [List.mem_cons, List.not_mem_nil, or_false, forall_eq_or_imp, forall_eq, nkd_str]
      omega)
    omega
  | h4 s t ih1 ih2 =>
    rw [sD_both, nkd_tup, dep_both]
    have h1 := lst (s := s) (n := 3 * deps s + 1) fun x hx => by
      have h2 := ih1 x hx
      have h3 := deps_le.mp (Nat.le_refl (deps s)) x hx
      omega
    have h2 := lst (s := t) (n := 3 * deps t + 1) fun x hx => by
      have h2 := ih2 x hx
      have h3 := deps_le.mp (Nat.le_refl (deps t)) x hx
      omega
    have := (nks_le (ds := [.str "both", ssD s, ssD t]) (n := 3 * max (deps s) (deps t) + 2)).mpr (by
      simp only [List.mem_cons, List.not_mem_nil, or_false, forall_eq_or_imp, forall_eq, nkd_str]
      omega)
    omega
theorem ssD_nkd (s : Steps) : (nk (ssD s)).depth ≤ 3 * deps s + 2 := by
  rw [ssD_eq, nkd_tup]
  have := (nks_le (ds := s.map sD) (n := 3 * deps s + 1)).mpr fun d hd => by
    obtain ⟨x, hx, rfl⟩ := List.mem_map.mp hd
    have h1 := sD_nkd x
    have h2 := deps_le.mp (Nat.le_refl (deps s)) x hx
    omega
  omega
theorem ntbs_all {ds : List PyData} : ntbs ds = true ↔ ∀ d ∈ ds, ntb d = true := by
  induction ds with
  | nil => simp [ntbs]
  | cons d ds ih => rw [ntbs, Bool.and_eq_true, ih]; simp
theorem ntb_str (x : Str) : ntb (.str x) = true := by rw [ntb]
theorem ntb_tup {ds : List PyData} : ntb (.tuple ds) = true ↔ ∀ d ∈ ds, ntb d = true := by rw [ntb, ntbs_all]
theorem sD_ntb (x : TK.Step) : ntb (sD x) = true := by
  have lst : ∀ {s : Steps}, (∀ x ∈ s, ntb (sD x) = true) → ntb (ssD s) = true := fun {s} h => by
    rw [ssD_eq, ntb_tup]
    intro d hd
    obtain ⟨x, hx, rfl⟩ := List.mem_map.mp hd
    exact h x hx
  induction x using TK.Step.ind with
  | h1 a b w => rw [sD_tell, ntb_tup]; simp [ntb_str]
  | h2 bs ih =>
    rw [sD_choice, ntb_tup]
    simp only [List.mem_cons, List.not_mem_nil, or_false, forall_eq_or_imp, forall_eq, ntb_str, true_and, ntb_tup]
    intro d hd
    obtain ⟨b, hb, rfl⟩ := List.mem_map.mp hd
    exact lst (ih b hb)
  | h3 s ih => rw [sD_round, ntb_tup]; simp [ntb_str, lst ih]
  | h4 s t ih1 ih2 => rw [sD_both, ntb_tup]; simp [ntb_str, lst ih1, lst ih2]
theorem ssD_ntb (s : Steps) : ntb (ssD s) = true := by
  rw [ssD_eq, ntb_tup]
  intro d hd
  obtain ⟨x, _, rfl⟩ := List.mem_map.mp hd
  exact sD_ntb x
theorem ssD_kyb {s : Steps} (h : deps s ≤ 2) : kyb (ssD s) = true := by
  have h1 := ssD_nkd s
  have h2 : isTup (ssD s) = true := rfl
  unfold kyb
  rw [h2, ssD_ntb s]
  simp
  omega
theorem keys_ok {es : List Steps} (h : ∀ e ∈ es, deps e ≤ 2) (hl : es.length ≤ 16777216) : keysOk (es.map ssD) = true := by
  unfold keysOk
  rw [Bool.and_eq_true, List.all_eq_true, decide_eq_true_eq, List.length_map, sl]
  refine ⟨fun d hd => ?_, hl⟩
  obtain ⟨e, he, rfl⟩ := List.mem_map.mp hd
  exact ssD_kyb (h e he)
theorem dput_adds (es : List Steps) (e : Steps) : dput (es.map ssD) (ssD e) = (adds es e).map ssD := by
  unfold dput adds
  have hany : (es.map ssD).any (fun k => decide (nk k = nk (ssD e))) = true ↔ e ∈ es := by
    rw [List.any_eq_true]
    constructor
    · rintro ⟨k, hk, h⟩
      obtain ⟨e', he, rfl⟩ := List.mem_map.mp hk
      have := ssD_inj (nk_inj (ntb_ntx (ssD_ntb e')) (ntb_ntx (ssD_ntb e)) (of_decide_eq_true h))
      exact this ▸ he
    · exact fun h => ⟨_, List.mem_map_of_mem h, decide_eq_true rfl⟩
  by_cases h : e ∈ es
  · rw [if_pos (hany.mpr h), if_pos h]
  · rw [if_neg (fun z => h (hany.mp z)), if_neg h, List.map_append]; rfl
/-! ### behind_step, behind -/
theorem dEq_ltD (x y : Lt) : dEq (ltD x) (ltD y) = some (decide (x = y)) := by
  have hp : ∀ l : Lt, nb (ltD l) = true ∧ pl (ltD l) = true := fun l => by
    unfold ltD
    exact ⟨by rw [nb_tup]; simp [nb_str], pl_of (by rw [plain_tup]; simp [plain_str]) (Nat.le_trans (depth_tup (n := 0).mpr (by simp [depth_str])) (by decide))⟩
  haveI : Decidable (ltD x = ltD y) := Classical.propDecidable _
  rw [dEq_iff (hp x).1 (hp x).2 (hp y).1 (hp y).2]
  congr 1
  have : ltD x = ltD y ↔ x = y := ⟨fun h => by
    unfold ltD at h
    simp only [PyData.tuple.injEq, List.cons.injEq, PyData.str.injEq, and_true] at h
    obtain ⟨a, b, c⟩ := x
    obtain ⟨a', b', c'⟩ := y
    obtain ⟨rfl, rfl, rfl⟩ := h
    rfl, fun h => by rw [h]⟩
  exact decide_eq_decide.mpr this
theorem adds_len {α : Type} (acc : List α) (x : α) : (adds acc x).length ≤ acc.length + 1 := by
  unfold adds
  split
  · omega
  · simp
theorem foldl_adds_len {α : Type} : ∀ (l acc : List α), (l.foldl adds acc).length ≤ acc.length + l.length
  | [], acc => by simp
  | x :: l, acc => by
    have h1 := foldl_adds_len l (adds acc x)
    have h2 := adds_len acc x
    rw [List.foldl_cons, List.length_cons]
    omega
theorem dd_len {α : Type} (l : List α) : (dd l).length ≤ l.length := by
  have := foldl_adds_len l []
  simpa [dd] using this
theorem bhr_len_of {l : Lt} : ∀ {s : Steps}, (∀ x ∈ s, (bh1 l x).length ≤ hgt x) → (bhr l s).length ≤ hgts s
  | [], _ => by rw [bhr_nil]; exact Nat.zero_le _
  | x :: s, h => by
    have h1 := h x (by simp)
    have h2 := bhr_len_of (s := s) fun y hy => h y (by simp [hy])
    rw [bhr_cons, List.length_append, List.length_map, hgts_cons]
    split
    · omega
    · simp only [List.length_nil]; omega
theorem bhs_len_of {l : Lt} {s : Steps} (h : ∀ x ∈ s, (bh1 l x).length ≤ hgt x) : (bhs l s).length ≤ hgts s := Nat.le_trans (dd_len _) (bhr_len_of h)
theorem bh1_len (l : Lt) (x : TK.Step) : (bh1 l x).length ≤ hgt x := by
  induction x using TK.Step.ind with
  | h1 a b w =>
    rw [bh1_tell, hgt_tell]
    split <;> simp
  | h2 bs ih =>
    rw [bh1_choice, hgt_choice]
    have : ((bs.map (bhs l)).flatten).length ≤ (bs.map hgts).sum := by
      induction bs with
      | nil => exact Nat.zero_le _
      | cons b bs ih2 =>
        rw [List.map_cons, List.flatten_cons, List.length_append, List.map_cons, List.sum_cons]
        have h1 := bhs_len_of (l := l) (ih b (by simp))
        have h2 := ih2 fun b hb => ih b (by simp [hb])
        omega
    omega
  | h3 s ih =>
    rw [bh1_round, hgt_round, List.length_map]
    have := bhs_len_of ih
    omega
  | h4 s t ih1 ih2 =>
    rw [bh1_both, hgt_both, List.length_append, List.length_map, List.length_map]
    have h1 := bhs_len_of ih1
    have h2 := bhs_len_of ih2
    omega
theorem bhr_len (l : Lt) (s : Steps) : (bhr l s).length ≤ hgts s := bhr_len_of fun x _ => bh1_len l x
theorem bhs_len (l : Lt) (s : Steps) : (bhs l s).length ≤ hgts s := bhs_len_of fun x _ => bh1_len l x
/-- small enough -/
def Oks (s : Steps) : Prop := deps s ≤ 2 ∧ hgts s ≤ 100000
theorem bhs_sml {l : Lt} {s d : Steps} (h : d ∈ bhs l s) : Sml s (deps s + 1) d := sml_cl (cl_bhs (cl_self s) h)
theorem bhs_hgt {l : Lt} {s d : Steps} (h : d ∈ bhs l s) (o : Oks s) : hgts d ≤ 300000 := by
  obtain ⟨a, b, c⟩ := bhs_sml h
  have h1 : (deps s + 1) * hgts s ≤ 3 * 100000 := Nat.mul_le_mul (by have := o.1; omega) o.2
  omega
/-- behind, as it should be -/
def BhOk (r : List PyData → Option PyData) (l : Lt) (n : Nat) : Prop := ∀ s : Steps, deps s < n → Oks s → r [ssD s, ltD l] = some (.list ((bhs l s).map ssD))
theorem bstep_choice {r : List PyData → Option PyData} {l : Lt} (x0 x2 : Option PyData) (bs : List Steps) (hr : ∀ b ∈ bs, r [ssD b, ltD l] = some (.list ((bhs l b).map ssD))) (hl : (bs.map hgts).sum ≤ 100000) (rs : List PyData → Option PyData) :
    forGo (g1 4) (b_behind_step_1 rs r) [4] (bs.map ssD) [x0, some (ltD l), x2, some (.list []), none, none] = some (.nx [x0, some (ltD l), x2, some (.list ((bs.map (bhs l)).flatten.map ssD)), none, none]) := by
  have h := forGo_map (e := ssD) (tg := g1 4) (body := b_behind_step_1 rs r) (ks := [4]) (fun pre => [x0, some (ltD l), x2, some (.list ((pre.map (bhs l)).flatten.map ssD)), none, none]) bs (fun pre x post hx => by
    have hlen : ∀ q : List Steps, ((q.map (bhs l)).flatten).length ≤ (q.map hgts).sum := fun q => by
      induction q with
      | nil => exact Nat.zero_le _
      | cons b q ih2 =>
        rw [List.map_cons, List.flatten_cons, List.length_append, List.map_cons, List.sum_cons]
        have h1 := bhs_len l b
        omega
    have h1 := hlen pre
    have h2 := bhs_len l x
    have hs : (pre.map hgts).sum + hgts x ≤ 100000 := by
      rw [hx, List.map_append, List.sum_append, List.map_cons, List.sum_cons] at hl
      omega
    have hrx := hr x (by rw [hx]; simp)
    have hz : ((pre.map (bhs l)).flatten.map ssD).length + ((bhs l x).map ssD).length ≤ sizeLine := by
      rw [List.length_map, List.length_map, sl]
      omega
    refine ⟨_, [x0, some (ltD l), x2, some (.list (((pre ++ [x]).map (bhs l)).flatten.map ssD)), some (ssD x), none], rfl, .inl ?_, rfl⟩
    simp only [b_behind_step_1, fExt_ev, eCall_ev, aCons_ev, aNil_ev, eVar_ev, List.getD_cons_succ, List.getD_cons_zero, Option.bind_some, List.length_cons, List.length_nil, hrx, if_true, g1_ev, List.set_cons_succ, List.set_cons_zero]
    rw [if_pos hz]
    simp)
  exact h
theorem bstep_ok {r rs : List PyData → Option PyData} {l : Lt} {n : Nat} (hr : BhOk r l n) (x : TK.Step) (hd : dep x ≤ n) (hd2 : dep x ≤ 2) (hg : hgt x ≤ 100000) : runF 6 (f_behind_step rs r) [sD x, ltD l] = some (.list ((bh1 l x).map ssD)) := by
  cases x with
  | tell a b w =>
    rw [sD_tell, bh1_tell]
    have he := dEq_ltD (a, b, w) l
    have he' : dEq (.tuple [.str a, .str b, .str w]) (ltD l) = some (decide ((a, b, w) = l)) := he
    by_cases e : (a, b, w) = l
    · rw [decide_eq_true e] at he'
      rw [if_pos e]
      simp [runF, f_behind_step, dEq_str, cutD_1_, he', dInt, dMulL, ssD]
    · rw [decide_eq_false e] at he'
      rw [if_neg e]
      simp [runF, f_behind_step, dEq_str, cutD_1_, he', dInt, dMulL]
  | choice bs =>
    rw [dep_choice] at hd hd2
    rw [hgt_choice] at hg
    have hb : ∀ b ∈ bs, r [ssD b, ltD l] = some (.list ((bhs l b).map ssD)) := fun b hb => by
      have h1 : deps b ≤ (bs.map deps).foldr max 0 := max_le.mp (Nat.le_refl _) _ (List.mem_map_of_mem hb)
      have h2 := hgts_memB hb
      exact hr b (by omega) ⟨by omega, by omega⟩
    have h := bstep_choice (rs := rs) (some (sD (.choice bs))) (some (.str "choice")) bs hb (by omega)
    rw [sD_choice] at h ⊢
    rw [bh1_choice]
    simp [runF, f_behind_step, dEq_str, s_ct, h]
  | round s =>
    rw [dep_round] at hd hd2
    rw [hgt_round] at hg
    have ho : Oks s := ⟨by omega, by omega⟩
    have hb := hr s (by omega) ho
    have hl : lcGo (g1 5) tYs (e_behind_step_1 rs r) [some (sD (.round s)), some (ltD l), some (.str "round"), none, none, none] ((bhs l s).map ssD) = some ((bhs l s).map fun d => ssD (d ++ [.round s])) := lcGo_map (fun d => ssD (d ++ [.round s])) _ fun d hd => ⟨_, rfl, by
      have h1 := bhs_hgt hd ho
      have h2 := len_hgts d
      have hz : d.length + 1 ≤ sizeLine := by rw [sl]; omega
      simp [e_behind_step_1, ssD, hz]⟩
    rw [sD_round] at hl ⊢
    rw [bh1_round, List.map_map]
    simp [runF, f_behind_step, dEq_str, s_rt, s_rc, hb, hl]
  | both s t =>
    rw [dep_both] at hd hd2
    rw [hgt_both] at hg
    have h1 := hr s (by omega) ⟨by omega, by omega⟩
    have h2 := hr t (by omega) ⟨by omega, by omega⟩
    have l1 : ∀ x3 : Option PyData, lcGo (g1 5) tYs (e_behind_step_2 rs r) [some (sD (.both s t)), some (ltD l), some (.str "both"), x3, none, none] ((bhs l s).map ssD) = some ((bhs l s).map fun d => ssD (mix d t)) := fun x3 => lcGo_map (fun d => ssD (mix d t)) _ fun d hd => ⟨_, rfl, by
      have := mixed_ok' d t
      rw [sD_both]
      simp [e_behind_step_2, this]⟩
    have l2 : ∀ x3 : Option PyData, lcGo (g1 5) tYs (e_behind_step_3 rs r) [some (sD (.both s t)), some (ltD l), some (.str "both"), x3, none, none] ((bhs l t).map ssD) = some ((bhs l t).map fun d => ssD (mix s d)) := fun x3 => lcGo_map (fun d => ssD (mix s d)) _ fun d hd => ⟨_, rfl, by
      have := mixed_ok' s d
      rw [sD_both]
      simp [e_behind_step_3, this]⟩
    have b1 := bhs_len l s
    have b2 := bhs_len l t
    have hz : (bhs l s).length + (bhs l t).length ≤ sizeLine := by rw [sl]; omega
    rw [sD_both] at l1 l2 ⊢
    rw [bh1_both, List.map_append, List.map_map, List.map_map]
    simp [runF, f_behind_step, dEq_str, s_bt, s_bc, s_br, h1, h2, l1, l2, hz]
    rfl
theorem cutD_from (ds : List PyData) (n : Nat) : TF.cutD ds (some (n : Int)) none = ds.drop n := by
  unfold TF.cutD
  rw [HT.sIx_nat, HT.sIx_none]
  rcases Nat.le_total n ds.length with h | h
  · rw [Nat.min_eq_left h, List.take_of_length_le (by rw [List.length_drop]; exact Nat.le_refl _)]
  · rw [Nat.min_eq_right h, List.drop_length, List.drop_of_length_le h]; simp
theorem cutD_to (ds : List PyData) (n : Nat) : TF.cutD ds none (some (n : Int)) = ds.take n := by
  unfold TF.cutD
  rw [HT.sIx_nat, HT.sIx_none, List.drop_zero, Nat.sub_zero]
  rcases Nat.le_total n ds.length with h | h
  · rw [Nat.min_eq_left h]
  · rw [Nat.min_eq_right h, List.take_length, List.take_of_length_le h]
/-! ### behind -/
theorem bh_in {rs rb : List PyData → Option PyData} {l : Lt} {s t : Steps} {i : Nat} (x4 : Option PyData) (ht : TF.cutD (s.map sD) (some ((i + 1 : Nat) : Int)) none = t.map sD) (dt : deps t ≤ 2) (lt : t.length ≤ 1000000) : ∀ (ds acc : List Steps), (∀ d ∈ ds, deps d ≤ 2 ∧ d.length ≤ 1000000) → (∀ e ∈ acc, deps e ≤ 2) → acc.length + ds.length ≤ 1000000 →
    forGo (g1 5) (b_behind_1 rs rb) [5] (ds.map ssD) [some (ssD s), some (ltD l), some (dc (acc.map ssD)), some (.int (i : Nat)), x4, none] =
      some (.nx [some (ssD s), some (ltD l), some (dc (((ds.map (· ++ t)).foldl adds acc).map ssD)), some (.int (i : Nat)), x4, none])
  | [], acc, _, _, _ => rfl
  | d :: ds, acc, hd, ha, hl => by
    obtain ⟨d1, d2⟩ := hd d (by simp)
    rw [List.length_cons] at hl
    have dd1 : deps (d ++ t) ≤ 2 := by rw [deps_append]; omega
    have hz : (d.map sD).length + (t.map sD).length ≤ sizeLine := by rw [List.length_map, List.length_map, sl]; omega
    have hk : (kyb (ssD (d ++ t)) && (keysOk (acc.map ssD) && decide ((acc.map ssD).length < sizeLine))) = true := by
      rw [ssD_kyb dd1, keys_ok ha (by omega), List.length_map, sl]
      simp
      omega
    have ih := bh_in (rs := rs) (rb := rb) (l := l) (s := s) (i := i) x4 ht dt lt ds (adds acc (d ++ t)) (fun e he => hd e (by simp [he])) (fun e he => by
      rcases adds_mem.mp he with h | rfl
      · exact ha e h
      · exact dd1) (by have := adds_len acc (d ++ t); omega)
    rw [List.map_cons, List.map_cons, List.foldl_cons]
    unfold forGo
    have hb : b_behind_1 rs rb [some (ssD s), some (ltD l), some (dc (acc.map ssD)), some (.int (i : Nat)), x4, some (ssD d)] = some (.nx [some (ssD s), some (ltD l), some (dc ((adds acc (d ++ t)).map ssD)), some (.int (i : Nat)), x4, some (ssD d)]) := by
      have e1 : (e2 (eVar 5) (eSl (eVar 0) (ePart (e2 (eVar 3) (eC (.int 1)) dAddA)) eNoPart dSl) dAddA) [some (ssD s), some (ltD l), some (dc (acc.map ssD)), some (.int (i : Nat)), x4, some (ssD d)] = some (ssD (d ++ t)) := by
        have ht' : TF.cutD (s.map sD) (some ((i : Int) + 1)) none = t.map sD := by rw [← ht]; rfl
        simp [ssD_eq, ht']
        simpa using hz
      unfold b_behind_1 fDPut
      rw [e1]
      simp only [Option.bind_some, List.getD_cons_succ, List.getD_cons_zero, asDc_dc]
      rw [if_pos hk, dput_adds]; rfl
    rw [g1_ev]
    simp only [Option.bind_some, List.set_cons_succ, List.set_cons_zero, hb]
    exact ih
theorem bh_out {rs rb : List PyData → Option PyData} {l : Lt} {s : Steps} (ho : Oks s) (hs : ∀ x ∈ s, rs [sD x, ltD l] = some (.list ((bh1 l x).map ssD))) : ∀ (post pre : Steps) (acc : List Steps), s = pre ++ post → (∀ e ∈ acc, deps e ≤ 2) → acc.length + hgts post ≤ 200000 →
    forGo (g2 3 4) (b_behind_2 rs rb) [3, 4, 5] (enumD pre.length (post.map sD)) [some (ssD s), some (ltD l), some (dc (acc.map ssD)), none, none, none] =
      some (if css post = true then .nx [some (ssD s), some (ltD l), some (dc (((bhr l post).foldl adds acc).map ssD)), none, none, none] else .rt (.list (((bhr l post).foldl adds acc).map ssD)))
  | [], pre, acc, _, _, _ => rfl
  | x :: t, pre, acc, hx, ha, hl => by
    rw [hgts_cons] at hl
    have hxs : x ∈ s := by rw [hx]; simp
    have dx : dep x ≤ 2 := Nat.le_trans (deps_le.mp (Nat.le_refl _) x hxs) ho.1
    have dt : deps t ≤ 2 := deps_le.mpr fun y hy => Nat.le_trans (deps_le.mp (Nat.le_refl _) y (by rw [hx]; simp [hy])) ho.1
    have gx := hgts_mem hxs
    have gs := ho.2
    have lt : t.length ≤ 1000000 := by
      have h1 := len_hgts s
      rw [hx, List.length_append, List.length_cons] at h1
      rw [← hx] at h1
      omega
    have hds : ∀ d ∈ bh1 l x, deps d ≤ 2 ∧ d.length ≤ 1000000 := fun d hd => by
      obtain ⟨a, b, _⟩ := smP x d ((clP x).1 l d hd)
      rw [deps_one] at a
      rw [hgts_one] at b
      have h1 := len_hgts d
      have h2 : (dep x + 1) * hgt x ≤ 3 * 100000 := Nat.mul_le_mul (by omega) (by omega)
      exact ⟨by omega, by omega⟩
    have hlen := bh1_len l x
    have ht : TF.cutD (s.map sD) (some ((pre.length + 1 : Nat) : Int)) none = t.map sD := by
      rw [cutD_from, hx, List.map_append, List.map_cons]
      have e : pre.map sD ++ sD x :: t.map sD = (pre.map sD ++ [sD x]) ++ t.map sD := by simp
      rw [e, List.drop_left' (by simp)]
    have inner := bh_in (rs := rs) (rb := rb) (l := l) (s := s) (t := t) (i := pre.length) (some (sD x)) ht dt lt (bh1 l x) acc hds ha (by omega)
    have hacc : ∀ e ∈ ((bh1 l x).map (· ++ t)).foldl adds acc, deps e ≤ 2 := fun e he => by
      have go : ∀ (q acc : List Steps), (∀ e ∈ acc, deps e ≤ 2) → (∀ e ∈ q, deps e ≤ 2) → ∀ e ∈ q.foldl adds acc, deps e ≤ 2 := fun q => by
        induction q with
        | nil => exact fun acc h _ => h
        | cons a q ih => exact fun acc h h2 => ih _ (fun e he => by
            rcases adds_mem.mp he with z | rfl
            · exact h e z
            · exact h2 _ (by simp)) fun e he => h2 e (by simp [he])
      refine go _ acc ha (fun e he => ?_) e he
      obtain ⟨d, hd, rfl⟩ := List.mem_map.mp he
      rw [deps_append]
      have := (hds d hd).1
      omega
    have hlen2 : (((bh1 l x).map (· ++ t)).foldl adds acc).length ≤ acc.length + hgt x := by
      have := foldl_adds_len ((bh1 l x).map (· ++ t)) acc
      rw [List.length_map] at this
      omega
    have hcan : m_can_stop fu_can_stop [ssD [x]] = some (.bool (cs1 x)) := by
      have := can_top (s := [x]) (by rw [deps_one]; omega)
      rw [css_cons] at this
      simpa [css] using this
    have hcan' : m_can_stop fu_can_stop [.tuple [sD x]] = some (.bool (cs1 x)) := hcan
    have body : b_behind_2 rs rb [some (ssD s), some (ltD l), some (dc (acc.map ssD)), some (.int (pre.length : Nat)), some (sD x), none] =
        some (if cs1 x = true then .nx [some (ssD s), some (ltD l), some (dc ((((bh1 l x).map (· ++ t)).foldl adds acc).map ssD)), some (.int (pre.length : Nat)), some (sD x), none] else .rt (.list ((((bh1 l x).map (· ++ t)).foldl adds acc).map ssD))) := by
      have hsx := hs x hxs
      unfold b_behind_2
      have e1 : fFor (e1 (eCall 2 rs (aCons (eVar 4) (aCons (eVar 1) aNil))) dWalk) (g1 5) [5] (b_behind_1 rs rb) [some (ssD s), some (ltD l), some (dc (acc.map ssD)), some (.int (pre.length : Nat)), some (sD x), none] = some (.nx [some (ssD s), some (ltD l), some (dc ((((bh1 l x).map (· ++ t)).foldl adds acc).map ssD)), some (.int (pre.length : Nat)), some (sD x), none]) := by
        simp only [fFor_ev, e1_ev, eCall_ev, aCons_ev, aNil_ev, eVar_ev, List.getD_cons_succ, List.getD_cons_zero, Option.bind_some, List.length_cons, List.length_nil, hsx, if_true, dWalk_lst, clr_cons, clr_nil, List.set_cons_succ, List.set_cons_zero]
        exact inner
      rw [fSeq_ev, e1]
      have hko := keys_ok hacc (by omega)
      cases hc : cs1 x with
      | true => simp [hcan', hc]
      | false => simp [hcan', hc, eDKeys, hko]
    have ih := bh_out (rs := rs) (rb := rb) ho hs t (pre ++ [x]) (((bh1 l x).map (· ++ t)).foldl adds acc) (by rw [hx]; simp) hacc (by omega)
    rw [List.length_append, List.length_singleton] at ih
    rw [List.map_cons, css_cons, bhr_cons]
    unfold enumD forGo
    simp only [g2_ev, Option.bind_some, List.set_cons_succ, List.set_cons_zero, body]
    cases hc : cs1 x with
    | true =>
      simp only [if_true, Bool.true_and, List.foldl_append]
      exact ih
    | false => simp
theorem behind_body {rs rb : List PyData → Option PyData} {l : Lt} {s : Steps} (ho : Oks s) (hs : ∀ x ∈ s, rs [sD x, ltD l] = some (.list ((bh1 l x).map ssD))) : runF 6 (f_behind rs rb) [ssD s, ltD l] = some (.list ((bhs l s).map ssD)) := by
  have h := bh_out (rb := rb) ho hs s [] [] rfl (fun e he => by cases he) (by have := ho.2; simp only [List.length_nil]; omega)
  refine run_of' ?_
  show f_behind rs rb [some (ssD s), some (ltD l), none, none, none, none] = _
  have h0 : fFor (e1 (eVar 0) dEnum) (g2 3 4) [3, 4, 5] (b_behind_2 rs rb) [some (ssD s), some (ltD l), some (dc []), none, none, none] = _ := h
  unfold f_behind
  rw [fSeq_ev]
  have hn : fDNew 2 [some (ssD s), some (ltD l), none, none, none, none] = some (.nx [some (ssD s), some (ltD l), some (dc []), none, none, none]) := rfl
  rw [hn, Option.bind_some, fThen_nx, fSeq_ev, h0]
  by_cases hc : css s = true
  · rw [if_pos hc]
    have hdep : ∀ e ∈ bhs l s, deps e ≤ 2 := fun e he => Nat.le_trans (bhs_sml he).dep ho.1
    have hlen := bhs_len l s
    have hk := keys_ok hdep (by have := ho.2; omega)
    have hk' : keysOk ((List.foldl adds [] (bhr l s)).map ssD) = true := hk
    simp [eDKeys, hk', bhs, dd]
  · rw [if_neg hc]; rfl
theorem behind_ok (l : Lt) : ∀ (n : Nat), (∀ s : Steps, 2 * deps s + 2 ≤ n → Oks s → m_behind n [ssD s, ltD l] = some (.list ((bhs l s).map ssD))) ∧ ∀ x : TK.Step, 2 * dep x + 1 ≤ n → dep x ≤ 2 → hgt x ≤ 100000 → m_behind_step n [sD x, ltD l] = some (.list ((bh1 l x).map ssD))
  | 0 => ⟨fun s h => by omega, fun x h => by omega⟩
  | n + 1 => by
    obtain ⟨i1, i2⟩ := behind_ok l n
    refine ⟨fun s h ho => ?_, fun x h h2 hg => ?_⟩
    · rw [u_behind]
      refine behind_body ho fun x hx => i2 x ?_ ?_ ?_
      · have := deps_le.mp (Nat.le_refl (deps s)) x hx; omega
      · exact Nat.le_trans (deps_le.mp (Nat.le_refl (deps s)) x hx) ho.1
      · exact Nat.le_trans (hgts_mem hx) ho.2
    · rw [u_behind_step]
      exact bstep_ok (n := dep x) (fun s hs ho => i1 s (by omega) ho) x (Nat.le_refl _) h2 hg
theorem behind_top {l : Lt} {s : Steps} (ho : Oks s) : m_behind fu_behind_step [ssD s, ltD l] = some (.list ((bhs l s).map ssD)) := (behind_ok l 30).1 s (by have := ho.1; omega) ho
/-! ### how long it is written -/
mutual
def shb : PyData → Nat
  | .str x => 10 * x.length + 2
  | .tuple ds => shbs ds + 3
  | _ => 0
def shbs : List PyData → Nat
  | [] => 0
  | d :: ds => shb d + 2 + shbs ds
end
mutual
def okCh : PyData → Prop
  | .str x => ∀ c ∈ x.cps.toList, c < 16 ^ 8
  | .tuple ds => okChs ds
  | _ => False
def okChs : List PyData → Prop
  | [] => True
  | d :: ds => okCh d ∧ okChs ds
end
theorem piled_cons (x : Str) (l : List Str) : piled (x :: l) = x.length + 2 + piled l := by
  unfold piled
  first | rfl | (simp; omega)
theorem tupleText_len (ts : List Str) : (tupleText ts).length ≤ piled ts + 3 := by
  have hl : ∀ a b : Str, (a ++ b).length = a.length + b.length := fun a b => Str.length_append a b
  unfold tupleText
  rw [hl, hl]
  have h1 : (("(" : Str)).length = 1 := by decide
  have h2 : ((if ts.length == 1 then ",)" else ")" : String) : Str).length ≤ 2 := by split <;> decide
  by_cases h : ts = []
  · subst h
    have : (Str.join ", " ([] : List Str)).length = 0 := by decide
    omega
  · have := join_length_add ts h
    omega
mutual
theorem shown_le : ∀ {d : PyData}, okCh d → d.shown.length ≤ shb d
  | .str x, h => by rw [okCh] at h; rw [PyData.shown, shb]; exact StrLaws.reprText_len x h
  | .tuple ds, h => by
    rw [okCh] at h
    rw [PyData.shown, shb]
    have h1 := tupleText_len (PyData.shownAll ds)
    have h2 := shownAll_le h
    omega
theorem shownAll_le : ∀ {ds : List PyData}, okChs ds → piled (PyData.shownAll ds) ≤ shbs ds
  | [], _ => Nat.le_refl _
  | d :: ds, h => by
    rw [okChs] at h
    have h1 := shown_le h.1
    have h2 := shownAll_le h.2
    rw [PyData.shownAll, piled_cons, shbs]
    omega
end
theorem okChs_all {ds : List PyData} : okChs ds ↔ ∀ d ∈ ds, okCh d := by
  induction ds with
  | nil => simp [okChs]
  | cons d ds ih => rw [okChs, ih]; simp
theorem okCh_tup {ds : List PyData} : okCh (.tuple ds) ↔ ∀ d ∈ ds, okCh d := by rw [okCh, okChs_all]
theorem okCh_str {x : Str} : okCh (.str x) ↔ ∀ c ∈ x.cps.toList, c < 16 ^ 8 := by rw [okCh]
theorem shb_tup (ds : List PyData) : shb (.tuple ds) = shbs ds + 3 := by rw [shb]
theorem shb_str (x : Str) : shb (.str x) = 10 * x.length + 2 := by rw [shb]
theorem shbs_nil : shbs [] = 0 := by rw [shbs]
theorem shbs_cons (d : PyData) (ds : List PyData) : shbs (d :: ds) = shb d + 2 + shbs ds := by rw [shbs]
/-- all names of steps are short, of small signs -/
def Nms (s : Steps) : Prop := ∀ l ∈ lts s, (l.1.length ≤ 20 ∧ l.2.1.length ≤ 20 ∧ l.2.2.length ≤ 20) ∧ (∀ c ∈ l.1.cps.toList, c < 16 ^ 8) ∧ (∀ c ∈ l.2.1.cps.toList, c < 16 ^ 8) ∧ ∀ c ∈ l.2.2.cps.toList, c < 16 ^ 8
theorem shbs_le {s : Steps} {k : Nat} (h : ∀ x ∈ s, shb (sD x) + 2 ≤ k * hgt x) : shbs (s.map sD) ≤ k * hgts s := by
  induction s with
  | nil => rw [List.map_nil, shbs_nil]; exact Nat.zero_le _
  | cons x s ih =>
    rw [List.map_cons, shbs_cons, hgts_cons, Nat.mul_add]
    have h1 := h x (by simp)
    have h2 := ih fun y hy => h y (by simp [hy])
    omega
theorem sD_shb (x : TK.Step) : Nms [x] → shb (sD x) + 2 ≤ 1000 * hgt x ∧ okCh (sD x) := by
  have w1 : shb (.str "choice") = 62 := by rw [shb]; decide
  have w2 : shb (.str "round") = 52 := by rw [shb]; decide
  have w3 : shb (.str "both") = 42 := by rw [shb]; decide
  have w4 : shb (.str "tell") = 42 := by rw [shb]; decide
  have c1 : okCh (.str "choice") := by rw [okCh]; decide
  have c2 : okCh (.str "round") := by rw [okCh]; decide
  have c3 : okCh (.str "both") := by rw [okCh]; decide
  have c4 : okCh (.str "tell") := by rw [okCh]; decide
  have lst : ∀ {s : Steps}, (∀ x ∈ s, shb (sD x) + 2 ≤ 1000 * hgt x ∧ okCh (sD x)) → shb (ssD s) ≤ 1000 * hgts s + 3 ∧ okCh (ssD s) := fun {s} h => by
    rw [ssD_eq, shb_tup, okCh_tup]
    refine ⟨by have := shbs_le fun x hx => (h x hx).1; omega, fun d hd => ?_⟩
    obtain ⟨x, hx, rfl⟩ := List.mem_map.mp hd
    exact (h x hx).2
  have sub : ∀ {s : Steps} {y : TK.Step} {x : TK.Step}, (∀ l ∈ lts s, l ∈ lts [x]) → y ∈ s → Nms [x] → Nms [y] := fun {s y x} h hy hn l hl => hn l (h l (by
    rw [lts_one] at hl
    exact List.mem_flatten.mpr ⟨_, List.mem_map_of_mem hy, hl⟩))
  induction x using TK.Step.ind with
  | h1 a b w =>
    intro h
    have := h (a, b, w) (by rw [lts_one, lts1_tell]; simp)
    have h20 : a.length ≤ 20 ∧ b.length ≤ 20 ∧ w.length ≤ 20 := this.1
    rw [sD_tell, hgt_tell, okCh_tup]
    simp only [shb_tup, shbs_cons, shbs_nil, w4, shb_str a, shb_str b, shb_str w]
    refine ⟨by omega, ?_⟩
    simp only [List.mem_cons, List.not_mem_nil, or_false, forall_eq_or_imp, forall_eq]
    exact ⟨c4, okCh_str.mpr this.2.1, okCh_str.mpr this.2.2.1, okCh_str.mpr this.2.2.2⟩
  | h2 bs ih =>
    intro h
    have hb : ∀ b ∈ bs, shb (ssD b) ≤ 1000 * hgts b + 3 ∧ okCh (ssD b) := fun b hb => lst fun x hx => ih b hb x hx (sub (s := b) (fun l hl => by
      rw [lts_one, lts1_choice]
      exact List.mem_flatten.mpr ⟨_, List.mem_map_of_mem hb, hl⟩) hx h)
    rw [sD_choice, hgt_choice, okCh_tup]
    simp only [shb_tup, shbs_cons, shbs_nil, w1]
    have hsum : shbs (bs.map ssD) ≤ 1000 * (bs.map hgts).sum + 5 * bs.length := by
      clear ih h
      induction bs with
      | nil => exact Nat.le_of_eq shbs_nil
      | cons b bs ih2 =>
        rw [List.map_cons, shbs_cons, List.map_cons, List.sum_cons, List.length_cons, Nat.mul_add]
        have h1 := (hb b (by simp)).1
        have h2 := ih2 fun c hc => hb c (by simp [hc])
        omega
    refine ⟨by omega, ?_⟩
    simp only [List.mem_cons, List.not_mem_nil, or_false, forall_eq_or_imp, forall_eq]
    refine ⟨c1, okCh_tup.mpr fun d hd => ?_⟩
    obtain ⟨b, hb', rfl⟩ := List.mem_map.mp hd
    exact (hb b hb').2
  | h3 s ih =>
    intro h
    have h1 := lst fun x hx => ih x hx (sub (s := s) (fun l hl => by rw [lts_one, lts1_round]; exact hl) hx h)
    rw [sD_round, hgt_round, okCh_tup]
    simp only [shb_tup, shbs_cons, shbs_nil, w2]
    refine ⟨by omega, ?_⟩
    simp only [List.mem_cons, List.not_mem_nil, or_false, forall_eq_or_imp, forall_eq]
    exact ⟨c2, h1.2⟩
  | h4 s t ih1 ih2 =>
    intro h
    have h1 := lst fun x hx => ih1 x hx (sub (s := s) (fun l hl => by rw [lts_one, lts1_both]; exact List.mem_append_left _ hl) hx h)
    have h2 := lst fun x hx => ih2 x hx (sub (s := t) (fun l hl => by rw [lts_one, lts1_both]; exact List.mem_append_right _ hl) hx h)
    rw [sD_both, hgt_both, okCh_tup]
    simp only [shb_tup, shbs_cons, shbs_nil, w3]
    refine ⟨by omega, ?_⟩
    simp only [List.mem_cons, List.not_mem_nil, or_false, forall_eq_or_imp, forall_eq]
    exact ⟨c3, h1.2, h2.2⟩
theorem ssD_shown {s : Steps} (h : Nms s) : (ssD s).shown.length ≤ 1000 * hgts s + 3 := by
  have hx : ∀ x ∈ s, shb (sD x) + 2 ≤ 1000 * hgt x ∧ okCh (sD x) := fun x hx => sD_shb x fun l hl => h l (by
    rw [lts_one] at hl
    exact List.mem_flatten.mpr ⟨_, List.mem_map_of_mem hx, hl⟩)
  have h1 : okCh (ssD s) := by
    rw [ssD_eq, okCh_tup]
    intro d hd
    obtain ⟨x, hx', rfl⟩ := List.mem_map.mp hd
    exact (hx x hx').2
  refine Nat.le_trans (shown_le h1) ?_
  rw [ssD_eq, shb_tup]
  have := shbs_le fun x h => (hx x h).1
  omega
/-! ### all_behind, gone, is_run -/
/-- a talk's steps, small enough for all that follows -/
structure Gd (s0 : Steps) : Prop where
  dep : deps s0 ≤ 2
  hgt : hgts s0 ≤ 2000
  nm : Nms s0
  cln : (cl s0).length ≤ 1000
theorem Gd.of {s0 e : Steps} (g : Gd s0) (h : e ∈ cl s0) : deps e ≤ 2 ∧ Oks e ∧ (ssD e).shown.length ≤ 16777216 ∧ (ssD e).depth ≤ 64 ∧ hgts e ≤ 6000 := by
  obtain ⟨a, b, c⟩ := sml_cl h
  have h1 : (deps s0 + 1) * hgts s0 ≤ 3 * 2000 := Nat.mul_le_mul (by have := g.dep; omega) g.hgt
  have h2 : deps e ≤ 2 := Nat.le_trans a g.dep
  have h3 : hgts e ≤ 6000 := by omega
  have h4 := ssD_shown (s := e) fun l hl => g.nm l (c l hl)
  exact ⟨h2, ⟨h2, by omega⟩, by omega, Nat.le_trans (ssD_depth h2) (by decide), h3⟩
theorem Gd.len {s0 : Steps} (g : Gd s0) {es : List Steps} (n : es.Nodup) (h : ∀ e ∈ es, e ∈ cl s0) : es.length ≤ 1000 := Nat.le_trans (nodup_le' n h) g.cln
/-- in the order of how they are written -/
noncomputable def byS (es : List Steps) : List Steps := es.mergeSort fun a b => PySem.W.dataLe false shk (ssD a) (ssD b)
theorem byS_mem {es : List Steps} {e : Steps} : e ∈ byS es ↔ e ∈ es := (List.mergeSort_perm es _).mem_iff
theorem byS_nodup {es : List Steps} : (byS es).Nodup ↔ es.Nodup := (List.mergeSort_perm es _).nodup_iff
theorem byStr_byS (es : List Steps) : byStr (es.map ssD) = (byS es).map ssD := (PySem.W.sort_maps ssD fun _ _ _ _ => rfl).symm
noncomputable def abd (l : Lt) (ss : List Steps) : List Steps := dd (ss.map (bhs l)).flatten
noncomputable def ab (l : Lt) (ss : List Steps) : List Steps := byS (abd l ss)
theorem ab_mem {l : Lt} {ss : List Steps} {d : Steps} : d ∈ ab l ss ↔ ∃ e ∈ ss, d ∈ bhs l e := by
  unfold ab abd
  rw [byS_mem, dd_mem, List.mem_flatten]
  constructor
  · rintro ⟨q, hq, hd⟩
    obtain ⟨e, he, rfl⟩ := List.mem_map.mp hq
    exact ⟨e, he, hd⟩
  · rintro ⟨e, he, hd⟩
    exact ⟨_, List.mem_map_of_mem he, hd⟩
theorem ab_nodup (l : Lt) (ss : List Steps) : (ab l ss).Nodup := byS_nodup.mpr (dd_nodup _)
theorem ab_cl {s0 : Steps} {l : Lt} {ss : List Steps} (h : ∀ e ∈ ss, e ∈ cl s0) : ∀ d ∈ ab l ss, d ∈ cl s0 := fun d hd => by
  obtain ⟨e, he, hd⟩ := ab_mem.mp hd
  exact cl_bhs (h e he) hd
theorem foldl_adds_cl {s0 : Steps} : ∀ (es acc : List Steps), (∀ e ∈ es, e ∈ cl s0) → (∀ e ∈ acc, e ∈ cl s0) → ∀ e ∈ es.foldl adds acc, e ∈ cl s0
  | [], _, _, h => h
  | x :: es, acc, h1, h2 => foldl_adds_cl es (adds acc x) (fun e he => h1 e (by simp [he])) fun e he => by
    rcases adds_mem.mp he with z | z
    · exact h2 e z
    · exact z ▸ h1 x (by simp)
theorem foldl_adds_nodup {α : Type} : ∀ (es acc : List α), acc.Nodup → (es.foldl adds acc).Nodup
  | [], _, h => h
  | x :: es, acc, h => foldl_adds_nodup es (adds acc x) (adds_nodup h)
theorem ab_in {s0 : Steps} (g : Gd s0) {x0 x1 x3 : Option PyData} : ∀ (es acc : List Steps), (∀ e ∈ es, e ∈ cl s0) → (∀ e ∈ acc, e ∈ cl s0) → acc.Nodup →
    forGo (g1 4) b_all_behind_1 [4] (es.map ssD) [x0, x1, some (dc (acc.map ssD)), x3, none] = some (.nx [x0, x1, some (dc ((es.foldl adds acc).map ssD)), x3, none])
  | [], acc, _, _, _ => rfl
  | d :: es, acc, h1, h2, n => by
    have hl := g.len n h2
    have hk : (kyb (ssD d) && (keysOk (acc.map ssD) && decide ((acc.map ssD).length < sizeLine))) = true := by
      rw [ssD_kyb (g.of (h1 d (by simp))).1, keys_ok (fun e he => (g.of (h2 e he)).1) (by omega), List.length_map, sl]
      simp
      omega
    have ih := ab_in g (x0 := x0) (x1 := x1) (x3 := x3) es (adds acc d) (fun e he => h1 e (by simp [he])) (fun e he => by
      rcases adds_mem.mp he with z | z
      · exact h2 e z
      · exact z ▸ h1 d (by simp)) (adds_nodup n)
    rw [List.map_cons, List.foldl_cons]
    unfold forGo
    have hb : b_all_behind_1 [x0, x1, some (dc (acc.map ssD)), x3, some (ssD d)] = some (.nx [x0, x1, some (dc ((adds acc d).map ssD)), x3, some (ssD d)]) := by
      unfold b_all_behind_1 fDPut
      simp only [eVar_ev, Option.bind_some, List.getD_cons_succ, List.getD_cons_zero, asDc_dc]
      rw [if_pos hk, dput_adds]; rfl
    rw [g1_ev]
    simp only [Option.bind_some, List.set_cons_succ, List.set_cons_zero, hb]
    exact ih
theorem ab_out {s0 : Steps} (g : Gd s0) {x0 : Option PyData} {l : Lt} : ∀ (ss acc : List Steps), (∀ e ∈ ss, e ∈ cl s0) → (∀ e ∈ acc, e ∈ cl s0) → acc.Nodup →
    forGo (g1 3) b_all_behind_2 [3, 4] (ss.map ssD) [x0, some (ltD l), some (dc (acc.map ssD)), none, none] = some (.nx [x0, some (ltD l), some (dc (((ss.map (bhs l)).flatten.foldl adds acc).map ssD)), none, none])
  | [], acc, _, _, _ => rfl
  | e :: ss, acc, h1, h2, n => by
    have he := h1 e (by simp)
    have hb : ∀ d ∈ bhs l e, d ∈ cl s0 := fun d hd => cl_bhs he hd
    have hin := ab_in g (x0 := x0) (x1 := some (ltD l)) (x3 := some (ssD e)) (bhs l e) acc hb h2 n
    have htop := behind_top (l := l) (g.of he).2.1
    have ih := ab_out g (x0 := x0) (l := l) ss ((bhs l e).foldl adds acc) (fun d hd => h1 d (by simp [hd])) (foldl_adds_cl _ _ hb h2) (foldl_adds_nodup _ _ n)
    have body : b_all_behind_2 [x0, some (ltD l), some (dc (acc.map ssD)), some (ssD e), none] = some (.nx [x0, some (ltD l), some (dc (((bhs l e).foldl adds acc).map ssD)), some (ssD e), none]) := by
      unfold b_all_behind_2
      simp only [fFor_ev, e1_ev, eCall_ev, aCons_ev, aNil_ev, eVar_ev, List.getD_cons_succ, List.getD_cons_zero, Option.bind_some, List.length_cons, List.length_nil, htop, if_true, dWalk_lst, clr_cons, clr_nil, List.set_cons_succ, List.set_cons_zero]
      exact hin
    rw [List.map_cons, List.map_cons, List.flatten_cons, List.foldl_append]
    unfold forGo
    rw [g1_ev]
    simp only [Option.bind_some, List.set_cons_succ, List.set_cons_zero, body]
    exact ih
theorem all_behind_ok {s0 : Steps} (g : Gd s0) (l : Lt) {ss : List Steps} (h : ∀ e ∈ ss, e ∈ cl s0) : m_all_behind [.tuple (ss.map ssD), ltD l] = some (.tuple ((ab l ss).map ssD)) := by
  have h0 := ab_out g (x0 := some (.tuple (ss.map ssD))) (l := l) ss [] h (fun e he => by cases he) List.nodup_nil
  have h1 : fFor (e1 (eVar 0) dWalk) (g1 3) [3, 4] b_all_behind_2 [some (.tuple (ss.map ssD)), some (ltD l), some (dc []), none, none] = _ := h0
  refine run_of' ?_
  show f_all_behind [some (.tuple (ss.map ssD)), some (ltD l), none, none, none] = _
  have hn : fDNew 2 [some (.tuple (ss.map ssD)), some (ltD l), none, none, none] = some (.nx [some (.tuple (ss.map ssD)), some (ltD l), some (dc []), none, none]) := rfl
  unfold f_all_behind
  rw [fSeq_ev, hn, Option.bind_some, fThen_nx, fSeq_ev, h1]
  have hc : ∀ e ∈ abd l ss, e ∈ cl s0 := fun d hd => ab_cl h d (byS_mem.mpr hd)
  have hk := keys_ok (fun e he => (g.of (hc e he)).1) (Nat.le_trans (g.len (dd_nodup _) hc) (by decide))
  have hs : ((abd l ss).map ssD).all (fun d => decide (d.shown.length ≤ sizeLine ∧ d.depth ≤ 64)) = true := by
    rw [List.all_eq_true]
    intro d hd
    obtain ⟨e, he, rfl⟩ := List.mem_map.mp hd
    have := g.of (hc e he)
    rw [decide_eq_true_eq, sl]
    exact ⟨this.2.2.1, this.2.2.2.1⟩
  have hsort : eSrtS 2 [some (.tuple (ss.map ssD)), some (ltD l), some (dc ((abd l ss).map ssD)), none, none] = some ((ab l ss).map ssD) := by
    unfold eSrtS
    simp only [List.getD_cons_succ, List.getD_cons_zero, Option.bind_some, asDc_dc]
    rw [hk, hs]
    simp only [Bool.and_self, if_true]
    rw [byStr_byS]; rfl
  have hsort' : eSrtS 2 [some (.tuple (ss.map ssD)), some (ltD l), some (dc (((ss.map (bhs l)).flatten.foldl adds []).map ssD)), none, none] = some ((ab l ss).map ssD) := hsort
  rw [Option.bind_some, fThen_nx]
  simp [hsort']
/-- what is left behind a row -/
noncomputable def abr (ss : List Steps) (r : Row) : List Steps := r.foldl (fun s l => ab l s) ss
theorem abr_cl {s0 : Steps} : ∀ (r : Row) {ss : List Steps}, (∀ e ∈ ss, e ∈ cl s0) → ∀ d ∈ abr ss r, d ∈ cl s0
  | [], _, h => h
  | _ :: r, _, h => abr_cl r (ab_cl h)
theorem abr_runs : ∀ (r q : Row) (ss : List Steps), (∃ d ∈ abr ss r, Runs d q) ↔ ∃ e ∈ ss, Runs e (r ++ q)
  | [], q, ss => Iff.rfl
  | l :: r, q, ss => by
    show (∃ d ∈ abr (ab l ss) r, Runs d q) ↔ _
    rw [abr_runs r q]
    constructor
    · rintro ⟨d, hd, h⟩
      obtain ⟨e, he, hd⟩ := ab_mem.mp hd
      exact ⟨e, he, (bhs_iff l e _).mpr ⟨d, hd, h⟩⟩
    · rintro ⟨e, he, h⟩
      obtain ⟨d, hd, h⟩ := (bhs_iff l e _).mp h
      exact ⟨d, ab_mem.mpr ⟨e, he, hd⟩, h⟩
def rowD (r : Row) : PyData := .tuple (r.map ltD)
theorem gone_ok {s0 : Steps} (g : Gd s0) {h0 : PyData} (r : Row) : m_gone [.tuple [h0, ssD s0], rowD r] = some (.tuple ((abr [s0] r).map ssD)) := by
  have h := forGo_map (e := ltD) (tg := g1 3) (body := b_gone_1) (ks := [3]) (fun pre => [some (.tuple [h0, ssD s0]), some (rowD r), some (.tuple ((abr [s0] pre).map ssD)), none]) r (fun pre l post hx => by
    have hc : ∀ e ∈ abr [s0] pre, e ∈ cl s0 := abr_cl pre (by intro e he; rw [List.mem_singleton.mp he]; exact cl_self s0)
    have ha := all_behind_ok g l hc
    refine ⟨_, [some (.tuple [h0, ssD s0]), some (rowD r), some (.tuple ((abr [s0] (pre ++ [l])).map ssD)), some (ltD l)], rfl, .inl ?_, rfl⟩
    have e : abr [s0] (pre ++ [l]) = ab l (abr [s0] pre) := by unfold abr; rw [List.foldl_append]; rfl
    rw [e]
    simp [b_gone_1, ha])
  have h' : forGo (g1 3) b_gone_1 [3] (r.map ltD) [some (.tuple [h0, ssD s0]), some (.tuple (r.map ltD)), some (.tuple [ssD s0]), none] = some (.nx [some (.tuple [h0, ssD s0]), some (.tuple (r.map ltD)), some (.tuple ((abr [s0] r).map ssD)), none]) := h
  simp [m_gone, runF, f_gone, rowD, h']
/-- can it be done -/
noncomputable def isR (s0 : Steps) (r : Row) : Bool := ((abr [s0] r).map css).any id
theorem isR_iff {s0 : Steps} {r : Row} : isR s0 r = true ↔ Runs s0 r := by
  unfold isR
  rw [List.any_eq_true]
  have h := abr_runs r [] [s0]
  rw [List.append_nil] at h
  constructor
  · rintro ⟨b, hb, e⟩
    obtain ⟨d, hd, rfl⟩ := List.mem_map.mp hb
    obtain ⟨e, he, h⟩ := h.mp ⟨d, hd, (css_iff d).mp e⟩
    rw [List.mem_singleton.mp he] at h
    exact h
  · intro z
    obtain ⟨d, hd, z⟩ := h.mpr ⟨s0, by simp, z⟩
    exact ⟨_, List.mem_map_of_mem hd, (css_iff d).mpr z⟩
theorem any_can {s0 : Steps} (g : Gd s0) {ss : List Steps} (h : ∀ e ∈ ss, e ∈ cl s0) : ∀ (tg : PyData → Rho → Option Rho) (el : Rho → Option PyData) (ρ : Rho), (∀ e ∈ ss, ∃ r, tg (ssD e) ρ = some r ∧ el r = m_can_stop fu_can_stop [ssD e]) →
    (lcGo tg tYs el ρ (ss.map ssD)).bind (fun ds => dAny (.list ds)) = some (.bool ((ss.map css).any id)) := fun tg el ρ hr => by
  rw [lcGo_map (fun e => .bool (css e)) ss fun e he => by
    obtain ⟨r, h1, h2⟩ := hr e he
    exact ⟨r, h1, by rw [h2]; exact can_top (by have := (g.of (h e he)).1; omega)⟩]
  exact dAny_bs css ss
theorem is_run_ok {s0 : Steps} (g : Gd s0) {h0 : PyData} (r : Row) : m_is_run [.tuple [h0, ssD s0], rowD r] = some (.bool (isR s0 r)) := by
  have hg := gone_ok g (h0 := h0) r
  have hc : ∀ e ∈ abr [s0] r, e ∈ cl s0 := abr_cl r (by intro e he; rw [List.mem_singleton.mp he]; exact cl_self s0)
  have hl : lcGo (g1 2) tYs e_is_run_1 [some (.tuple [h0, ssD s0]), some (rowD r), none] ((abr [s0] r).map ssD) = some ((abr [s0] r).map fun e => .bool (css e)) := lcGo_map (fun e => .bool (css e)) (abr [s0] r) fun e he => ⟨_, rfl, by
    have := can_top (s := e) (by have := (g.of (hc e he)).1; omega)
    simp [e_is_run_1, this]⟩
  have ha := dAny_bs css (abr [s0] r)
  simp [m_is_run, runF, f_is_run, hg, hl, ha, isR]
/-! .. by the program -/
theorem parts_choice (d : PyData) : m_parts_of [.tuple [.str "choice", d]] = some d := by kernel_rfl
theorem parts_round (d : PyData) : m_parts_of [.tuple [.str "round", d]] = some (.tuple [d]) := by kernel_rfl
theorem parts_both (d e : PyData) : m_parts_of [.tuple [.str "both", d, e]] = some (.tuple [d, e]) := by kernel_rfl
theorem parts_tell (a b c : PyData) : m_parts_of [.tuple [.str "tell", a, b, c]] = some (.tuple []) := by kernel_rfl
/-! the parts of a step -/
def pts : TK.Step → List Steps
  | .tell _ _ _ => []
  | .choice bs => bs
  | .round l => [l]
  | .both l m => [l, m]
theorem parts_ok (x : TK.Step) : m_parts_of [sD x] = some (.tuple ((pts x).map ssD)) := by
  cases x with
  | tell a b w => rw [sD_tell]; exact parts_tell _ _ _
  | choice bs => rw [sD_choice]; exact parts_choice _
  | round l => rw [sD_round]; exact parts_round _
  | both l m => rw [sD_both]; exact parts_both _ _
theorem pts_dep {x : TK.Step} {n : Nat} (h : dep x ≤ n) : ∀ b ∈ pts x, deps b < n := fun b hb => by
  cases x with
  | tell a c w => cases hb
  | choice bs => have := dep_choice_le (bs := bs) (n := n - 1) (by rw [dep_choice] at h ⊢; omega) b hb; rw [dep_choice] at h; omega
  | round l => simp [pts] at hb; subst hb; rw [dep_round] at h; omega
  | both l m =>
    simp [pts] at hb
    rw [dep_both] at h
    rcases hb with rfl | rfl <;> omega
theorem pts_hgt (x : TK.Step) : ((pts x).map hgts).sum + (pts x).length + 1 ≤ hgt x := by
  cases x with
  | tell a c w => simp [pts, hgt_tell]
  | choice bs => rw [hgt_choice]; simp [pts]; omega
  | round l => rw [hgt_round]; simp [pts]; omega
  | both l m => rw [hgt_both]; simp [pts]; omega
theorem pts_hgt' {x : TK.Step} {b : Steps} (h : b ∈ pts x) : hgts b + 2 ≤ hgt x := by
  have h1 := hgts_memB h
  have h2 := pts_hgt x
  have h3 : 1 ≤ (pts x).length := List.length_pos_iff.mpr fun e => by rw [e] at h; cases h
  omega
/-- the letter of a step itself -/
def own1 : TK.Step → List Lt
  | .tell a b w => [(a, b, w)]
  | _ => []
theorem lts1_pts (x : TK.Step) : lts1 x = own1 x ++ ((pts x).map lts).flatten := by
  cases x with
  | tell a b w => simp [own1, pts, lts1_tell]
  | choice bs => simp [own1, pts, lts1_choice]
  | round l => simp [own1, pts, lts1_round]
  | both l m => simp [own1, pts, lts1_both]
/-- the kind -/
def isTell : TK.Step → Bool
  | .tell _ _ _ => true
  | _ => false
theorem kind_tell (x : TK.Step) : ((dIx (sD x) (.int 0)).bind fun d => dEq d (.str "tell")) = some (isTell x) := by
  cases x with
  | tell a b w => rw [sD_tell]; simp [dEq_str, isTell]
  | choice bs => rw [sD_choice]; simp [dEq_str, isTell, s_ct]
  | round l => rw [sD_round]; simp [dEq_str, isTell, s_rt]
  | both l m => rw [sD_both]; simp [dEq_str, isTell, s_bt]
def InH (hs : List Str) (s : Steps) : Prop := ∀ l ∈ lts s, l.1 ∈ hs ∧ l.2.1 ∈ hs
/-! letters_in -/
theorem letters_ext {r : List PyData → Option PyData} {x0 x2 : Option PyData} (acc : List Lt) (bs : List Steps) (hr : ∀ b ∈ bs, r [ssD b] = some (.list ((lts b).map ltD))) (hl : acc.length + (bs.map lts).flatten.length ≤ 16777216) :
    forGo (g1 3) (b_letters_in_1 r) [3] (bs.map ssD) [x0, some (.list (acc.map ltD)), x2, none] = some (.nx [x0, some (.list ((acc ++ (bs.map lts).flatten).map ltD)), x2, none]) := by
  have h := forGo_map (e := ssD) (tg := g1 3) (body := b_letters_in_1 r) (ks := [3]) (fun pre => [x0, some (.list ((acc ++ (pre.map lts).flatten).map ltD)), x2, none]) bs (fun pre x post hx => by
    have hlen : acc.length + (pre.map lts).flatten.length + (lts x).length ≤ sizeLine := by
      rw [sl]
      rw [hx] at hl
      simp only [List.map_append, List.flatten_append, List.length_append, List.map_cons, List.flatten_cons] at hl
      omega
    have hrx := hr x (by rw [hx]; simp)
    refine ⟨_, [x0, some (.list ((acc ++ ((pre ++ [x]).map lts).flatten).map ltD)), x2, some (ssD x)], rfl, .inl ?_, rfl⟩
    have e : ((acc ++ (pre.map lts).flatten).map ltD).length + ((lts x).map ltD).length ≤ sizeLine := by
      rw [List.length_map, List.length_map, List.length_append]; exact hlen
    simp [b_letters_in_1, hrx]
    simp at e
    simp [e])
  rw [List.map_nil, List.flatten_nil, List.append_nil] at h
  exact h
theorem letters_in_body {r : List PyData → Option PyData} {n : Nat} (hr : ∀ s : Steps, deps s < n → hgts s ≤ 100000 → r [ssD s] = some (.list ((lts s).map ltD))) (s : Steps) (hd : deps s ≤ n) (hh : hgts s ≤ 100000) :
    runF 4 (f_letters_in r) [ssD s] = some (.list ((lts s).map ltD)) := by
  have h := forGo_map (e := sD) (tg := g1 2) (body := b_letters_in_2 r) (ks := [2, 3]) (fun pre => [some (ssD s), some (.list ((lts pre).map ltD)), none, none]) s (fun pre x post hx => by
    have hl : (lts pre).length + (lts1 x).length ≤ 100000 := by
      have := lts_len s
      rw [hx, lts_append, lts_cons] at this
      simp only [List.length_append] at this
      rw [← hx] at this
      omega
    have hdx : dep x ≤ n := deps_le.mp hd x (by rw [hx]; simp)
    have hgx : hgt x ≤ 100000 := Nat.le_trans (hgts_mem (by rw [hx]; simp)) hh
    have hap : lts (pre ++ [x]) = lts pre ++ own1 x ++ ((pts x).map lts).flatten := by rw [lts_append, lts_cons, lts_nil, List.append_nil, lts1_pts, List.append_assoc]
    rw [lts1_pts, List.length_append] at hl
    refine ⟨_, [some (ssD s), some (.list ((lts (pre ++ [x])).map ltD)), some (sD x), none], rfl, .inl ?_, rfl⟩
    rw [hap]
    have hx2 := letters_ext (r := r) (x0 := some (ssD s)) (x2 := some (sD x)) (lts pre ++ own1 x) (pts x) (fun b hb => hr b (pts_dep hdx b hb) (by have := pts_hgt' hb; omega)) (by rw [List.length_append]; omega)
    have hk := kind_tell x
    have hp := parts_ok x
    cases x with
    | tell a b w =>
      have hl2 : (lts pre).length < sizeLine := by rw [sl]; simp [own1] at hl; omega
      simp only [sD_tell] at hk hp hx2 ⊢
      simp [b_letters_in_2, dEq_str, cutD_1_, hl2, hp, isTell, own1, ltD, pts]
    | choice bs =>
      simp only [own1, List.append_nil] at hx2 ⊢
      simp [isTell] at hk
      simp [b_letters_in_2, hp, hk, hx2]
    | round l =>
      simp only [own1, List.append_nil] at hx2 ⊢
      simp [isTell] at hk
      simp [b_letters_in_2, hp, hk, hx2]
    | both l m =>
      simp only [own1, List.append_nil] at hx2 ⊢
      simp [isTell] at hk
      simp [b_letters_in_2, hp, hk, hx2])
  have h' : forGo (g1 2) (b_letters_in_2 r) [2, 3] (s.map sD) [some (ssD s), some (.list []), none, none] = some (.nx [some (ssD s), some (.list ((lts s).map ltD)), none, none]) := h
  simp [runF, f_letters_in, dWalk_ss, h']
theorem letters_in_ok : ∀ (n : Nat) (s : Steps), deps s ≤ n → hgts s ≤ 100000 → m_letters_in (n + 1) [ssD s] = some (.list ((lts s).map ltD))
  | 0, s, hd, hh => by rw [u_letters_in]; exact letters_in_body (n := 0) (fun s h => by omega) s hd hh
  | n + 1, s, hd, hh => by rw [u_letters_in]; exact letters_in_body (n := n + 1) (fun s h hh => letters_in_ok n s (by omega) hh) s hd hh
theorem letters_in_top {s : Steps} (hd : deps s ≤ 20) (hh : hgts s ≤ 100000) : m_letters_in fu_letters_in [ssD s] = some (.list ((lts s).map ltD)) := letters_in_ok 29 s (by omega) hh
/-! ### rows and letters as data; sorted -/
theorem ltD_inj {x y : Lt} (h : ltD x = ltD y) : x = y := by
  unfold ltD at h
  simp only [PyData.tuple.injEq, List.cons.injEq, PyData.str.injEq, and_true] at h
  obtain ⟨a, b, c⟩ := x
  obtain ⟨a', b', c'⟩ := y
  obtain ⟨rfl, rfl, rfl⟩ := h
  rfl
theorem ltD_depth (l : Lt) : (ltD l).depth ≤ 1 := by unfold ltD; exact depth_tup.mpr (by simp [depth_str])
theorem ltD_plain (l : Lt) : (ltD l).plain = true := by unfold ltD; rw [plain_tup]; simp [plain_str]
theorem ltD_nb (l : Lt) : nb (ltD l) = true := by unfold ltD; rw [nb_tup]; simp [nb_str]
theorem ltD_pl (l : Lt) : pl (ltD l) = true := pl_of (ltD_plain l) (Nat.le_trans (ltD_depth l) (by decide))
theorem ltD_ntb (l : Lt) : ntb (ltD l) = true := by unfold ltD; rw [ntb_tup]; simp [ntb_str]
theorem ltD_nkd (l : Lt) : (nk (ltD l)).depth ≤ 1 := by
  unfold ltD
  rw [nkd_tup]
  have := (nks_le (ds := [.str l.1, .str l.2.1, .str l.2.2]) (n := 0)).mpr (by simp [nkd_str])
  omega
theorem ltD_kyb (l : Lt) : kyb (ltD l) = true := by
  have h1 := ltD_nkd l
  have h2 : isTup (ltD l) = true := rfl
  unfold kyb
  rw [h2, ltD_ntb l]
  simp
  omega
theorem ltD_alike (x y : Lt) : PySem.W.alike (ltD x) (ltD y) = true := by
  unfold ltD
  simp [PySem.W.alike, PySem.W.alikeAll]
theorem map_inj' {α β : Type} {f : α → β} (hf : ∀ {x y}, f x = f y → x = y) : ∀ {l m : List α}, l.map f = m.map f → l = m
  | [], [], _ => rfl
  | [], _ :: _, h => by cases h
  | _ :: _, [], h => by cases h
  | a :: l, b :: m, h => by
    rw [List.map_cons, List.map_cons] at h
    injection h with h1 h2
    rw [hf h1, map_inj' hf h2]
theorem rowD_inj {x y : Row} (h : rowD x = rowD y) : x = y := by
  unfold rowD at h
  injection h with h
  exact map_inj' ltD_inj h
theorem rowD_pl (r : Row) : pl (rowD r) = true := pl_of (by
  unfold rowD
  rw [plain_tup]
  intro d hd
  obtain ⟨l, _, rfl⟩ := List.mem_map.mp hd
  exact ltD_plain l) (Nat.le_trans (by
  unfold rowD
  exact (depth_tup (n := 1)).mpr fun d hd => by
    obtain ⟨l, _, rfl⟩ := List.mem_map.mp hd
    exact ltD_depth l) (by decide))
theorem rowD_nb (r : Row) : nb (rowD r) = true := by
  unfold rowD
  rw [nb_tup]
  intro d hd
  obtain ⟨l, _, rfl⟩ := List.mem_map.mp hd
  exact ltD_nb l
theorem rowD_ntb (r : Row) : ntb (rowD r) = true := by
  unfold rowD
  rw [ntb_tup]
  intro d hd
  obtain ⟨l, _, rfl⟩ := List.mem_map.mp hd
  exact ltD_ntb l
theorem alikeAll_row : ∀ a b : Row, PySem.W.alikeAll (a.map ltD) (b.map ltD) = true
  | [], b => by cases b <;> simp [PySem.W.alikeAll]
  | x :: a, [] => by simp [PySem.W.alikeAll]
  | x :: a, y :: b => by simp [PySem.W.alikeAll, ltD_alike x y, alikeAll_row a b]
theorem rowD_alike (x y : Row) : PySem.W.alike (rowD x) (rowD y) = true := alikeAll_row x y
theorem alk_of {α : Type} {e : α → PyData} (h1 : ∀ x, pl (e x) = true) (h2 : ∀ x, isTup (e x) = true) (h3 : ∀ x y, PySem.W.alike (e x) (e y) = true) (ls : List α) : srtB (ls.map e) = true := by
  unfold srtB alk
  rw [Bool.and_eq_true, Bool.or_eq_true]
  refine ⟨List.all_eq_true.mpr fun d hd => ?_, .inl (List.all_eq_true.mpr fun d hd => ?_)⟩
  · obtain ⟨x, _, rfl⟩ := List.mem_map.mp hd
    rw [Bool.and_eq_true, Bool.and_eq_true]
    refine ⟨⟨h1 x, ?_⟩, List.all_eq_true.mpr fun d hd => ?_⟩
    · obtain ⟨xs, hx⟩ := isTup_ex (h2 x)
      rw [hx]; rfl
    · obtain ⟨y, _, rfl⟩ := List.mem_map.mp hd
      exact h3 x y
  · obtain ⟨x, _, rfl⟩ := List.mem_map.mp hd
    exact h2 x
theorem srtB_ltD (ls : List Lt) : srtB (ls.map ltD) = true := alk_of ltD_pl (fun _ => rfl) ltD_alike ls
theorem srtB_rowD (rs : List Row) : srtB (rs.map rowD) = true := alk_of rowD_pl (fun _ => rfl) rowD_alike rs
/-- sorted by their data -/
def srt {α : Type} (e : α → PyData) (l : List α) : List α := l.mergeSort fun a b => PySem.W.dataLe false id (e a) (e b)
theorem srt_mem {α : Type} {e : α → PyData} {l : List α} {x : α} : x ∈ srt e l ↔ x ∈ l := (List.mergeSort_perm l _).mem_iff
theorem srt_nodup {α : Type} {e : α → PyData} {l : List α} : (srt e l).Nodup ↔ l.Nodup := (List.mergeSort_perm l _).nodup_iff
theorem srt_len {α : Type} {e : α → PyData} {l : List α} : (srt e l).length = l.length := (List.mergeSort_perm l _).length_eq
theorem srt_map {α : Type} (e : α → PyData) (l : List α) : (l.map e).mergeSort (PySem.W.dataLe false id) = (srt e l).map e := (PySem.W.sort_maps e fun _ _ _ _ => rfl).symm
theorem nodup_map {α β : Type} {f : α → β} (hf : ∀ {x y}, f x = f y → x = y) : ∀ {l : List α}, l.Nodup → (l.map f).Nodup
  | [], _ => by simp
  | a :: l, h => by
    rw [List.nodup_cons] at h
    rw [List.map_cons, List.nodup_cons]
    refine ⟨fun z => ?_, nodup_map hf h.2⟩
    obtain ⟨b, hb, e⟩ := List.mem_map.mp z
    exact h.1 (hf e ▸ hb)
theorem srt_same {α : Type} {e : α → PyData} (he : ∀ {x y}, e x = e y → x = y) (hn : ∀ x, ntb (e x) = true) {l m : List α} (n1 : l.Nodup) (n2 : m.Nodup) (h : ∀ x, x ∈ l ↔ x ∈ m) : srt e l = srt e m := by
  refine map_inj' he ?_
  rw [← srt_map, ← srt_map]
  refine sort_same (fun d hd => ?_) (nodup_map he n1) (nodup_map he n2) fun d => ?_
  · obtain ⟨x, _, rfl⟩ := List.mem_map.mp hd
    exact ntb_ntx (hn x)
  · constructor
    · intro hd
      obtain ⟨x, hx, rfl⟩ := List.mem_map.mp hd
      exact List.mem_map_of_mem ((h x).mp hx)
    · intro hd
      obtain ⟨x, hx, rfl⟩ := List.mem_map.mp hd
      exact List.mem_map_of_mem ((h x).mpr hx)
theorem dput_ltD (es : List Lt) (e : Lt) : dput (es.map ltD) (ltD e) = (adds es e).map ltD := by
  unfold dput adds
  have hany : (es.map ltD).any (fun k => decide (nk k = nk (ltD e))) = true ↔ e ∈ es := by
    rw [List.any_eq_true]
    constructor
    · rintro ⟨k, hk, h⟩
      obtain ⟨e', he, rfl⟩ := List.mem_map.mp hk
      have := ltD_inj (nk_inj (ntb_ntx (ltD_ntb e')) (ntb_ntx (ltD_ntb e)) (of_decide_eq_true h))
      exact this ▸ he
    · exact fun h => ⟨_, List.mem_map_of_mem h, decide_eq_true rfl⟩
  by_cases h : e ∈ es
  · rw [if_pos (hany.mpr h), if_pos h]
  · rw [if_neg (fun z => h (hany.mp z)), if_neg h, List.map_append]; rfl
theorem ddk_ltD (es : List Lt) : ddk (es.map ltD) = (dd es).map ltD := by
  have : ∀ (es acc : List Lt), (es.map ltD).foldl dput (acc.map ltD) = (es.foldl adds acc).map ltD := by
    intro es
    induction es with
    | nil => intro acc; rfl
    | cons x es ih =>
      intro acc
      rw [List.map_cons, List.foldl_cons, List.foldl_cons, dput_ltD, ih]
  exact this es []
/-- the letters, sorted -/
noncomputable def lso (s : Steps) : List Lt := srt ltD (dd (lts s))
theorem lso_mem {s : Steps} {l : Lt} : l ∈ lso s ↔ l ∈ lts s := by unfold lso; rw [srt_mem, dd_mem]
theorem lso_nodup (s : Steps) : (lso s).Nodup := by unfold lso; rw [srt_nodup]; exact dd_nodup _
theorem lso_len (s : Steps) : (lso s).length ≤ (lts s).length := by unfold lso; rw [srt_len]; exact dd_len _
theorem dSetS_lts {s : Steps} (h : (lts s).length ≤ 76) : dSetS (.list ((lts s).map ltD)) = some ((lso s).map ltD) := by
  unfold dSetS
  have h1 : ((lts s).map ltD).all kyb = true := List.all_eq_true.mpr fun d hd => by
    obtain ⟨l, _, rfl⟩ := List.mem_map.mp hd
    exact ltD_kyb l
  have h2 : srtB (ddk ((lts s).map ltD)) = true := by rw [ddk_ltD]; exact srtB_ltD _
  have h3 : (ddk ((lts s).map ltD)).length ≤ 76 := by rw [ddk_ltD, List.length_map]; exact Nat.le_trans (dd_len _) h
  dsimp only
  rw [h1, h2, decide_eq_true h3]
  simp only [Bool.and_self, if_true]
  rw [ddk_ltD, srt_map] <;> rfl
theorem letters_of_ok {s : Steps} {h0 : PyData} (hd : deps s ≤ 20) (hh : hgts s ≤ 100000) (h : (lts s).length ≤ 76) : m_letters_of [.tuple [h0, ssD s]] = some (.list ((lso s).map ltD)) := by
  have h1 := letters_in_top hd hh
  have h2 := dSetS_lts h
  simp [m_letters_of, runF, f_letters_of, h1, h2]
/-! ### runs -/
/-- one more letter -/
noncomputable def nxr (s0 : Steps) (r : Row) (ls : List Lt) : List Row := (ls.filter fun l => !(ab l (abr [s0] r)).isEmpty).map fun l => r ++ [l]
noncomputable def lay (s0 : Steps) : Nat → List Row
  | 0 => [[]]
  | n + 1 => ((lay s0 n).map fun r => nxr s0 r (lso s0)).flatten
structure Gr (s0 : Steps) : Prop extends Gd s0 where
  lt : (lts s0).length ≤ 72
  fs : ∀ ls : List Lt, ls.Nodup → (∀ l ∈ ls, bhs l s0 ≠ []) → ls.length ≤ 36
def pD (s0 : Steps) (r : Row) (ss : List Steps) : PyData := .tuple [rowD r, .tuple (ss.map ssD)]
noncomputable def pR (s0 : Steps) (r : Row) : PyData := pD s0 r (abr [s0] r)
theorem abr_snoc (ss : List Steps) (r : Row) (l : Lt) : abr ss (r ++ [l]) = ab l (abr ss r) := by unfold abr; rw [List.foldl_append]; rfl
theorem abr_self {s0 : Steps} (r : Row) : ∀ e ∈ abr [s0] r, e ∈ cl s0 := abr_cl r (by intro e he; rw [List.mem_singleton.mp he]; exact cl_self s0)
theorem nxr_len (s0 : Steps) (r : Row) (ls : List Lt) : (nxr s0 r ls).length ≤ ls.length := by
  unfold nxr
  rw [List.length_map]
  exact List.length_filter_le _ _
theorem lay_mem {s0 : Steps} : ∀ {n : Nat} {r : Row}, r ∈ lay s0 n → r.length = n ∧ abr [s0] r ≠ []
  | 0, r, h => by
    rw [List.mem_singleton.mp h]
    exact ⟨rfl, by simp [abr]⟩
  | n + 1, r, h => by
    unfold lay at h
    obtain ⟨q, hq, hr⟩ := List.mem_flatten.mp h
    obtain ⟨r0, h0, rfl⟩ := List.mem_map.mp hq
    unfold nxr at hr
    obtain ⟨l, hl, rfl⟩ := List.mem_map.mp hr
    rw [List.mem_filter] at hl
    have := lay_mem h0
    refine ⟨by rw [List.length_append, this.1]; rfl, ?_⟩
    rw [abr_snoc]
    intro z
    have h2 := hl.2
    rw [z] at h2
    cases h2
theorem run_lts {s0 : Steps} {r q : Row} (h : ∃ d ∈ abr [s0] r, Runs d q) : Runs s0 (r ++ q) := by
  obtain ⟨e, he, h⟩ := (abr_runs r q [s0]).mp h
  rw [List.mem_singleton.mp he] at h
  exact h
theorem mem_lay {s0 : Steps} : ∀ (n : Nat) (r : Row), r.length = n → (∀ l ∈ r, l ∈ lts s0) → abr [s0] r ≠ [] → r ∈ lay s0 n
  | 0, r, h, _, _ => by
    rw [List.length_eq_zero_iff.mp h]
    exact List.mem_singleton.mpr rfl
  | n + 1, r, h, hl, hne => by
    obtain ⟨r0, l, rfl⟩ : ∃ r0 l, r = r0 ++ [l] := ⟨r.dropLast, r.getLast (by intro z; rw [z] at h; cases h), (List.dropLast_concat_getLast _).symm⟩
    rw [List.length_append] at h
    have h0 : r0.length = n := by simp at h; omega
    rw [abr_snoc] at hne
    have hne0 : abr [s0] r0 ≠ [] := fun z => by
      rw [z] at hne
      apply hne
      cases e : ab l [] with
      | nil => rfl
      | cons d t =>
        obtain ⟨x, hx, _⟩ := ab_mem.mp (show d ∈ ab l [] by rw [e]; simp)
        cases hx
    have i := mem_lay n r0 h0 (fun x hx => hl x (by simp [hx])) hne0
    unfold lay
    refine List.mem_flatten.mpr ⟨_, List.mem_map_of_mem i, ?_⟩
    unfold nxr
    refine List.mem_map.mpr ⟨l, List.mem_filter.mpr ⟨lso_mem.mpr (hl l (by simp)), ?_⟩, rfl⟩
    cases e : ab l (abr [s0] r0) with
    | nil => exact absurd e hne
    | cons d t => rfl
theorem flat_nodup {α β : Type} {f : α → List β} : ∀ {l : List α}, l.Nodup → (∀ a ∈ l, (f a).Nodup) → (∀ a ∈ l, ∀ b ∈ l, ∀ x, x ∈ f a → x ∈ f b → a = b) → (l.map f).flatten.Nodup
  | [], _, _, _ => by simp
  | a :: l, n, h1, h2 => by
    rw [List.nodup_cons] at n
    rw [List.map_cons, List.flatten_cons, List.nodup_append]
    refine ⟨h1 a (by simp), flat_nodup n.2 (fun b hb => h1 b (by simp [hb])) (fun b hb c hc => h2 b (by simp [hb]) c (by simp [hc])), fun x hx y hy e => ?_⟩
    subst e
    obtain ⟨q, hq, hy⟩ := List.mem_flatten.mp hy
    obtain ⟨b, hb, rfl⟩ := List.mem_map.mp hq
    have := h2 a (by simp) b (by simp [hb]) x hx hy
    exact n.1 (this ▸ hb)
theorem snoc_inj {α : Type} {a b : List α} {x y : α} (h : a ++ [x] = b ++ [y]) : a = b ∧ x = y := by
  have := List.append_inj' h rfl
  exact ⟨this.1, by simpa using this.2⟩
theorem lay_nodup (s0 : Steps) : ∀ n, (lay s0 n).Nodup
  | 0 => by simp [lay]
  | n + 1 => by
    unfold lay
    refine flat_nodup (lay_nodup s0 n) (fun r _ => ?_) fun a _ b _ x ha hb => ?_
    · unfold nxr
      exact nodup_map (fun h => (snoc_inj h).2) ((lso_nodup s0).filter _)
    · unfold nxr at ha hb
      obtain ⟨l, _, rfl⟩ := List.mem_map.mp ha
      obtain ⟨m, _, e⟩ := List.mem_map.mp hb
      exact (snoc_inj e).1.symm
theorem lay_one {s0 : Steps} (g : Gr s0) : (lay s0 1).length ≤ 36 := by
  have e : lay s0 1 = nxr s0 [] (lso s0) := by simp [lay]
  rw [e]
  unfold nxr
  rw [List.length_map]
  refine g.fs _ ((lso_nodup s0).filter _) fun l hl => ?_
  rw [List.mem_filter] at hl
  have h2 := hl.2
  intro z
  cases e : ab l (abr [s0] []) with
  | nil => rw [e] at h2; cases h2
  | cons d t =>
    obtain ⟨x, hx, hd⟩ := ab_mem.mp (show d ∈ ab l (abr [s0] []) by rw [e]; simp)
    have hx' : x ∈ [s0] := hx
    rw [List.mem_singleton.mp hx', z] at hd
    cases hd
theorem flat_len {α β : Type} {f : α → List β} {k : Nat} : ∀ (l : List α), (∀ a ∈ l, (f a).length ≤ k) → (l.map f).flatten.length ≤ l.length * k
  | [], _ => by simp
  | a :: l, h => by
    have h1 := h a (by simp)
    have h2 := flat_len l fun b hb => h b (by simp [hb])
    rw [List.map_cons, List.flatten_cons, List.length_append, List.length_cons, Nat.add_mul]
    omega
theorem lay_succ {s0 : Steps} (g : Gr s0) (n : Nat) : (lay s0 (n + 1)).length ≤ (lay s0 n).length * 72 := by
  rw [lay]
  refine flat_len _ fun r _ => Nat.le_trans (nxr_len _ _ _) (Nat.le_trans (lso_len _) g.lt)
theorem lay_bound {s0 : Steps} (g : Gr s0) : (lay s0 0).length = 1 ∧ (lay s0 1).length ≤ 36 ∧ (lay s0 2).length ≤ 2592 ∧ (lay s0 3).length ≤ 186624 ∧ (lay s0 4).length ≤ 13436928 := by
  have h1 := lay_one g
  have h2 : (lay s0 2).length ≤ (lay s0 1).length * 72 := lay_succ g 1
  have h3 : (lay s0 3).length ≤ (lay s0 2).length * 72 := lay_succ g 2
  have h4 : (lay s0 4).length ≤ (lay s0 3).length * 72 := lay_succ g 3
  exact ⟨rfl, h1, by omega, by omega, by omega⟩
/-- all rows so long -/
noncomputable def whl (s0 : Steps) : Nat → List Row
  | 0 => []
  | n + 1 => whl s0 n ++ (lay s0 n).filter (isR s0)
theorem whl_mem {s0 : Steps} : ∀ {n : Nat} {r : Row}, r ∈ whl s0 n ↔ r.length < n ∧ isR s0 r = true ∧ r ∈ lay s0 r.length
  | 0, r => by simp [whl]
  | n + 1, r => by
    unfold whl
    rw [List.mem_append, whl_mem, List.mem_filter]
    constructor
    · rintro (⟨h1, h2, h3⟩ | ⟨h1, h2⟩)
      · exact ⟨by omega, h2, h3⟩
      · have := (lay_mem h1).1
        exact ⟨by omega, h2, this ▸ h1⟩
    · rintro ⟨h1, h2, h3⟩
      by_cases e : r.length = n
      · exact .inr ⟨e ▸ h3, h2⟩
      · exact .inl ⟨by omega, h2, h3⟩
theorem whl_nodup (s0 : Steps) : ∀ n, (whl s0 n).Nodup
  | 0 => by simp [whl]
  | n + 1 => by
    unfold whl
    rw [List.nodup_append]
    refine ⟨whl_nodup s0 n, (lay_nodup s0 n).filter _, fun a ha b hb e => ?_⟩
    subst e
    have h1 := (whl_mem.mp ha).1
    have h2 := (lay_mem (List.mem_filter.mp hb).1).1
    omega
theorem runs_in {s0 : Steps} (g : Gr s0) {x0 x1 x2 x3 x4 : Option PyData} (r : Row) (acc : List Row) : ∀ (ls : List Lt), acc.length + ls.length ≤ 16777216 → r.length < 16777216 →
    forGo (g1 8) b_runs_1 [8, 9] (ls.map ltD) [x0, x1, x2, x3, x4, some (.list (acc.map (pR s0))), some (rowD r), some (.tuple ((abr [s0] r).map ssD)), none, none, none] =
      some (.nx [x0, x1, x2, x3, x4, some (.list ((acc ++ nxr s0 r ls).map (pR s0))), some (rowD r), some (.tuple ((abr [s0] r).map ssD)), none, none, none]) := fun ls hl hr => by
  have h := forGo_map (e := ltD) (tg := g1 8) (body := b_runs_1) (ks := [8, 9]) (fun pre => [x0, x1, x2, x3, x4, some (.list ((acc ++ nxr s0 r pre).map (pR s0))), some (rowD r), some (.tuple ((abr [s0] r).map ssD)), none, none, none]) ls (fun pre l post hx => by
    have ha := all_behind_ok g.toGd l (abr_self r)
    have hlen : (acc ++ nxr s0 r pre).length < 16777216 := by
      have h1 := nxr_len s0 r pre
      rw [hx] at hl
      rw [List.length_append] at hl ⊢
      rw [List.length_cons] at hl
      omega
    by_cases hz : ab l (abr [s0] r) = []
    · have e : nxr s0 r (pre ++ [l]) = nxr s0 r pre := by
        unfold nxr
        rw [List.filter_append, List.map_append]
        simp [hz]
      rw [hz] at ha
      rw [e]
      refine ⟨_, [x0, x1, x2, x3, x4, some (.list ((acc ++ nxr s0 r pre).map (pR s0))), some (rowD r), some (.tuple ((abr [s0] r).map ssD)), some (ltD l), some (.tuple []), none], rfl, .inl ?_, rfl⟩
      simp [b_runs_1, ha, dGt]
    · have e : nxr s0 r (pre ++ [l]) = nxr s0 r pre ++ [r ++ [l]] := by
        unfold nxr
        rw [List.filter_append, List.map_append]
        simp [hz]
      rw [e, ← List.append_assoc]
      refine ⟨_, [x0, x1, x2, x3, x4, some (.list (((acc ++ nxr s0 r pre) ++ [r ++ [l]]).map (pR s0))), some (rowD r), some (.tuple ((abr [s0] r).map ssD)), some (ltD l), some (.tuple ((ab l (abr [s0] r)).map ssD)), none], rfl, .inl ?_, rfl⟩
      have hpos : 0 < (ab l (abr [s0] r)).length := List.length_pos_iff.mpr hz
      have hgt : (0 : Int) < ((ab l (abr [s0] r)).length : Int) := by omega
      have hp : pR s0 (r ++ [l]) = .tuple [.tuple (r.map ltD ++ [ltD l]), .tuple ((ab l (abr [s0] r)).map ssD)] := by
        unfold pR pD rowD
        rw [abr_snoc, List.map_append]; rfl
      have hl2 : ((acc ++ nxr s0 r pre).map (pR s0)).length < sizeLine := by rw [List.length_map, sl]; exact hlen
      have hr2 : (r.map ltD).length + 1 ≤ sizeLine := by rw [List.length_map, sl]; omega
      have em : ((acc ++ nxr s0 r pre) ++ [r ++ [l]]).map (pR s0) = (acc ++ nxr s0 r pre).map (pR s0) ++ [pR s0 (r ++ [l])] := by
        rw [List.map_append (l₁ := acc ++ nxr s0 r pre)] <;> rfl
      rw [em, hp]
      generalize (acc ++ nxr s0 r pre).map (pR s0) = Z at hl2 ⊢
      simp [b_runs_1, ha, hgt, rowD]
      simp at hr2
      simp [hr2, hl2, hz])
  have e0 : nxr s0 r [] = [] := rfl
  rw [e0, List.append_nil] at h
  exact h

theorem rintsS (lo : Int) (n : Nat) : rints lo (n + 1) = .int lo :: rints (lo + 1) n := by
  unfold rints
  rw [List.range_succ_eq_map, List.map_cons, List.map_map]
  congr 1
  · simp
  · apply List.map_congr_left
    intro i _
    show PyData.int (lo + ((i + 1 : Nat) : Int)) = .int (lo + 1 + i)
    congr 1; push_cast; omega
theorem runs_mid {s0 : Steps} (g : Gr s0) {h0 : PyData} {x1 x2 x3 x4 : Option PyData} (n : Nat) (hn : n < 16777216) : ∀ (rs : List Row) (acc : List Row), acc.length + rs.length * 72 ≤ 16777216 → (∀ r ∈ rs, r.length = n) →
    forGo (g2 6 7) b_runs_2 [6, 7, 8, 9] (rs.map (pR s0)) [some (.tuple [h0, ssD s0]), x1, x2, x3, x4, some (.list (acc.map (pR s0))), none, none, none, none, none] =
      some (.nx [some (.tuple [h0, ssD s0]), x1, x2, x3, x4, some (.list ((acc ++ (rs.map fun r => nxr s0 r (lso s0)).flatten).map (pR s0))), none, none, none, none, none])
  | [], acc, _, _ => by rw [List.map_nil, List.map_nil, List.flatten_nil, List.append_nil]; rfl
  | r :: rs, acc, hl, hr => by
    have hls : (lso s0).length ≤ 72 := Nat.le_trans (lso_len _) g.lt
    rw [List.length_cons, Nat.add_mul] at hl
    have hin := runs_in g (x0 := some (.tuple [h0, ssD s0])) (x1 := x1) (x2 := x2) (x3 := x3) (x4 := x4) r acc (lso s0) (by omega) (by rw [hr r (by simp)]; exact hn)
    have hlo := letters_of_ok (s := s0) (h0 := h0) (by have := g.dep; omega) (by have := g.hgt; omega) (by have := g.lt; omega)
    have ih := runs_mid g (h0 := h0) (x1 := x1) (x2 := x2) (x3 := x3) (x4 := x4) n hn rs (acc ++ nxr s0 r (lso s0)) (by
      have := nxr_len s0 r (lso s0)
      rw [List.length_append]; omega) (fun q hq => hr q (by simp [hq]))
    have body : b_runs_2 [some (.tuple [h0, ssD s0]), x1, x2, x3, x4, some (.list (acc.map (pR s0))), some (rowD r), some (.tuple ((abr [s0] r).map ssD)), none, none, none] = some (.nx [some (.tuple [h0, ssD s0]), x1, x2, x3, x4, some (.list ((acc ++ nxr s0 r (lso s0)).map (pR s0))), some (rowD r), some (.tuple ((abr [s0] r).map ssD)), none, none, none]) := by
      unfold b_runs_2
      simp only [fFor_ev, e1_ev, eCall_ev, aCons_ev, aNil_ev, eVar_ev, List.getD_cons_succ, List.getD_cons_zero, Option.bind_some, List.length_cons, List.length_nil, hlo, if_true, dWalk_lst, clr_cons, clr_nil, List.set_cons_succ, List.set_cons_zero]
      exact hin
    rw [List.map_cons, List.map_cons, List.flatten_cons, ← List.append_assoc]
    unfold forGo
    have ht : g2 6 7 (pR s0 r) [some (.tuple [h0, ssD s0]), x1, x2, x3, x4, some (.list (acc.map (pR s0))), none, none, none, none, none] = some [some (.tuple [h0, ssD s0]), x1, x2, x3, x4, some (.list (acc.map (pR s0))), some (rowD r), some (.tuple ((abr [s0] r).map ssD)), none, none, none] := rfl
    rw [ht, Option.bind_some, body]
    exact ih
theorem runs_out {s0 : Steps} (g : Gr s0) {h0 x1 : PyData} (n : Nat) (hn : n ≤ 3) : ∀ (k m : Nat), m + k = n + 1 →
    forGo (g1 4) b_runs_3 [4, 5, 6, 7, 8, 9] (rints m k) [some (.tuple [h0, ssD s0]), some x1, some (.list ((whl s0 m).map rowD)), some (.list ((lay s0 m).map (pR s0))), none, none, none, none, none, none, none] =
      some (.nx [some (.tuple [h0, ssD s0]), some x1, some (.list ((whl s0 (n + 1)).map rowD)), some (.list ((lay s0 (n + 1)).map (pR s0))), none, none, none, none, none, none, none])
  | 0, m, h => by
    have : m = n + 1 := by omega
    subst this
    rfl
  | k + 1, m, h => by
    have ih := runs_out g (h0 := h0) (x1 := x1) n hn k (m + 1) (by omega)
    obtain ⟨b0, b1, b2, b3, b4⟩ := lay_bound g
    have hlm : (lay s0 m).length ≤ 186624 := by
      have : m = 0 ∨ m = 1 ∨ m = 2 ∨ m = 3 := by omega
      rcases this with rfl | rfl | rfl | rfl <;> omega
    have hwm : (whl s0 m).length ≤ 189253 := by
      have hf : ∀ i, ((lay s0 i).filter (isR s0)).length ≤ (lay s0 i).length := fun i => List.length_filter_le _ _
      have h0 := hf 0
      have h1 := hf 1
      have h2 := hf 2
      have : m = 0 ∨ m = 1 ∨ m = 2 ∨ m = 3 := by omega
      rcases this with rfl | rfl | rfl | rfl <;> simp only [whl, List.length_append, List.length_nil] <;> omega
    have hmid := runs_mid g (h0 := h0) (x1 := some x1) (x2 := some (.list ((whl s0 (m + 1)).map rowD))) (x3 := some (.list ((lay s0 m).map (pR s0)))) (x4 := some (.int (m : Nat))) m (by omega) (lay s0 m) [] (by rw [List.length_nil]; omega) (fun r hr => (lay_mem hr).1)
    have hlc : lcGo (g2 6 7) t_runs_1 e_runs_2 [some (.tuple [h0, ssD s0]), some x1, some (.list ((whl s0 m).map rowD)), some (.list ((lay s0 m).map (pR s0))), some (.int (m : Nat)), none, none, none, none, none, none] ((lay s0 m).map (pR s0)) = some (((lay s0 m).filter (isR s0)).map rowD) := lcGo_filter (isR s0) rowD (lay s0 m) fun r hr => by
      refine ⟨_, rfl, ?_, fun _ => rfl⟩
      have hl : lcGo (g1 10) tYs e_runs_1 [some (.tuple [h0, ssD s0]), some x1, some (.list ((whl s0 m).map rowD)), some (.list ((lay s0 m).map (pR s0))), some (.int (m : Nat)), none, some (rowD r), some (.tuple ((abr [s0] r).map ssD)), none, none, none] ((abr [s0] r).map ssD) = some ((abr [s0] r).map fun e => .bool (css e)) := lcGo_map (fun e => .bool (css e)) (abr [s0] r) fun e he => ⟨_, rfl, by
        have := can_top (s := e) (by have := (g.toGd.of (abr_self r e he)).1; omega)
        simp [e_runs_1, this]⟩
      have ha := dAny_bs css (abr [s0] r)
      show t_runs_1 [some (.tuple [h0, ssD s0]), some x1, some (.list ((whl s0 m).map rowD)), some (.list ((lay s0 m).map (pR s0))), some (.int (m : Nat)), none, some (rowD r), some (.tuple ((abr [s0] r).map ssD)), none, none, none] = _
      simp [t_runs_1, hl, ha, isR]
    have hext : ((whl s0 m).map rowD).length + (((lay s0 m).filter (isR s0)).map rowD).length ≤ sizeLine := by
      have := List.length_filter_le (isR s0) (lay s0 m)
      rw [List.length_map, List.length_map, sl]; omega
    have body : b_runs_3 [some (.tuple [h0, ssD s0]), some x1, some (.list ((whl s0 m).map rowD)), some (.list ((lay s0 m).map (pR s0))), some (.int (m : Nat)), none, none, none, none, none, none] = some (.nx [some (.tuple [h0, ssD s0]), some x1, some (.list ((whl s0 (m + 1)).map rowD)), some (.list ((lay s0 (m + 1)).map (pR s0))), some (.int (m : Nat)), some (.list ((lay s0 (m + 1)).map (pR s0))), none, none, none, none, none]) := by
      have q1 : fExt 2 (eL (eLc (e1 (eVar 3) dWalk) (g2 6 7) t_runs_1 e_runs_2)) [some (.tuple [h0, ssD s0]), some x1, some (.list ((whl s0 m).map rowD)), some (.list ((lay s0 m).map (pR s0))), some (.int (m : Nat)), none, none, none, none, none, none] = some (.nx [some (.tuple [h0, ssD s0]), some x1, some (.list ((whl s0 (m + 1)).map rowD)), some (.list ((lay s0 m).map (pR s0))), some (.int (m : Nat)), none, none, none, none, none, none]) := by
        simp [hlc]
        simp at hext
        exact ⟨hext, by rw [whl, List.map_append]⟩
      have q2 : fFor (e1 (eVar 3) dWalk) (g2 6 7) [6, 7, 8, 9] b_runs_2 [some (.tuple [h0, ssD s0]), some x1, some (.list ((whl s0 (m + 1)).map rowD)), some (.list ((lay s0 m).map (pR s0))), some (.int (m : Nat)), some (.list []), none, none, none, none, none] = some (.nx [some (.tuple [h0, ssD s0]), some x1, some (.list ((whl s0 (m + 1)).map rowD)), some (.list ((lay s0 m).map (pR s0))), some (.int (m : Nat)), some (.list ((lay s0 (m + 1)).map (pR s0))), none, none, none, none, none]) := hmid
      unfold b_runs_3
      rw [fSeq_ev, q1, Option.bind_some, fThen_nx, fSeq_ev]
      have q3 : fOwn 5 (eLst aNil) [some (.tuple [h0, ssD s0]), some x1, some (.list ((whl s0 (m + 1)).map rowD)), some (.list ((lay s0 m).map (pR s0))), some (.int (m : Nat)), none, none, none, none, none, none] = some (.nx [some (.tuple [h0, ssD s0]), some x1, some (.list ((whl s0 (m + 1)).map rowD)), some (.list ((lay s0 m).map (pR s0))), some (.int (m : Nat)), some (.list []), none, none, none, none, none]) := rfl
      rw [q3, Option.bind_some, fThen_nx, fSeq_ev, q2]
      rfl
    have er : rints m (k + 1) = .int m :: rints (m + 1 : Nat) k := rintsS m k
    rw [er]
    unfold forGo
    rw [g1_ev]
    simp only [Option.bind_some, List.set_cons_succ, List.set_cons_zero, body]
    exact ih
/-- the runs, as the program tells them -/
noncomputable def rws (s0 : Steps) (n : Nat) : List Row := srt rowD (whl s0 (n + 1))
theorem rws_mem {s0 : Steps} {n : Nat} {r : Row} (hl : ∀ r : Row, Runs s0 r → ∀ l ∈ r, l ∈ lts s0) : r ∈ rws s0 n ↔ r.length ≤ n ∧ Runs s0 r := by
  unfold rws
  rw [srt_mem, whl_mem, isR_iff]
  constructor
  · rintro ⟨h1, h2, _⟩
    exact ⟨by omega, h2⟩
  · rintro ⟨h1, h2⟩
    refine ⟨by omega, h2, mem_lay _ r rfl (hl r h2) fun z => ?_⟩
    have := (isR_iff (s0 := s0) (r := r)).mpr h2
    unfold isR at this
    rw [z] at this
    cases this
theorem rws_nodup (s0 : Steps) (n : Nat) : (rws s0 n).Nodup := srt_nodup.mpr (whl_nodup s0 _)
theorem rng_ok (n : Nat) (hn : n ≤ 100) : dRng1 (.int ((n : Int) + 1)) = some (rints 0 (n + 1)) := by
  have e : ((n : Int) + 1).toNat = n + 1 := by omega
  have e2 : -1000000 ≤ (n : Int) + 1 ∧ (n : Int) + 1 ≤ 1000000 := ⟨by omega, by omega⟩
  rw [dRng1_ev, if_pos e2, e]
theorem rws_sort (s0 : Steps) (n : Nat) : dSortedB (.list ((whl s0 (n + 1)).map rowD)) = some ((rws s0 n).map rowD) := by
  unfold dSortedB
  dsimp only
  rw [if_pos (srtB_rowD _), srt_map] <;> rfl
theorem runs_h1 {s0 : Steps} (g : Gr s0) {h0 : PyData} (n : Nat) (hn : n ≤ 3) : forGo (g1 4) b_runs_3 [4, 5, 6, 7, 8, 9] (rints 0 (n + 1)) [some (.tuple [h0, ssD s0]), some (.int n), some (.list []), some (.list [.tuple [.tuple [], .tuple [ssD s0]]]), none, none, none, none, none, none, none] = some (.nx [some (.tuple [h0, ssD s0]), some (.int n), some (.list ((whl s0 (n + 1)).map rowD)), some (.list ((lay s0 (n + 1)).map (pR s0))), none, none, none, none, none, none, none]) := runs_out g (h0 := h0) (x1 := .int n) n hn (n + 1) 0 (by omega)
theorem runs_ok {s0 : Steps} (g : Gr s0) {h0 : PyData} (n : Nat) (hn : n ≤ 3) : m_runs [.tuple [h0, ssD s0], .int n] = some (.tuple ((rws s0 n).map rowD)) := by
  have h1 := runs_h1 g (h0 := h0) n hn
  have hr := rng_ok n (by omega)
  have hs := rws_sort s0 n
  refine run_of' ?_
  show f_runs [some (.tuple [h0, ssD s0]), some (.int n), none, none, none, none, none, none, none, none, none] = _
  have q1 : fOwn 2 (eLst aNil) [some (.tuple [h0, ssD s0]), some (.int n), none, none, none, none, none, none, none, none, none] = some (.nx [some (.tuple [h0, ssD s0]), some (.int n), some (.list []), none, none, none, none, none, none, none, none]) := rfl
  have q2 : fSet 3 (eL (eLst (aCons (eTup (aCons (eTup aNil) (aCons (eTup (aCons (e2 (eVar 0) (eC (.int 1)) dIx) aNil)) aNil))) aNil))) [some (.tuple [h0, ssD s0]), some (.int n), some (.list []), none, none, none, none, none, none, none, none] = some (.nx [some (.tuple [h0, ssD s0]), some (.int n), some (.list []), some (.list [.tuple [.tuple [], .tuple [ssD s0]]]), none, none, none, none, none, none, none]) := rfl
  have q3 : fFor (e1 (e2 (eVar 1) (eC (.int 1)) dAddA) dRng1) (g1 4) [4, 5, 6, 7, 8, 9] b_runs_3 [some (.tuple [h0, ssD s0]), some (.int n), some (.list []), some (.list [.tuple [.tuple [], .tuple [ssD s0]]]), none, none, none, none, none, none, none] = some (.nx [some (.tuple [h0, ssD s0]), some (.int n), some (.list ((whl s0 (n + 1)).map rowD)), some (.list ((lay s0 (n + 1)).map (pR s0))), none, none, none, none, none, none, none]) := by
    have e : (TF.e1 (e2 (eVar 1) (eC (.int 1)) dAddA) dRng1) [some (.tuple [h0, ssD s0]), some (.int n), some (.list []), some (.list [.tuple [.tuple [], .tuple [ssD s0]]]), none, none, none, none, none, none, none] = some (rints 0 (n + 1)) := by
      rw [e1_ev, e2_ev, eVar_ev, eC_ev, List.getD_cons_succ, List.getD_cons_zero, Option.bind_some, Option.bind_some, dAddA_int, Option.bind_some]
      exact hr
    rw [fFor_ev, e]
    exact h1
  have q4 : fRet (TF.e1 (eL (TF.e1 (eVar 2) dSortedB)) dTuple) [some (.tuple [h0, ssD s0]), some (.int n), some (.list ((whl s0 (n + 1)).map rowD)), some (.list ((lay s0 (n + 1)).map (pR s0))), none, none, none, none, none, none, none] = some (.rt (.tuple ((rws s0 n).map rowD))) := by
    have e : (TF.e1 (eVar 2) dSortedB) [some (.tuple [h0, ssD s0]), some (.int n), some (.list ((whl s0 (n + 1)).map rowD)), some (.list ((lay s0 (n + 1)).map (pR s0))), none, none, none, none, none, none, none] = some ((rws s0 n).map rowD) := hs
    have e' : (eL (TF.e1 (eVar 2) dSortedB)) [some (.tuple [h0, ssD s0]), some (.int n), some (.list ((whl s0 (n + 1)).map rowD)), some (.list ((lay s0 (n + 1)).map (pR s0))), none, none, none, none, none, none, none] = some (.list ((rws s0 n).map rowD)) := by
      unfold eL; rw [e]; rfl
    rw [fRet_ev, e1_ev, e']; rfl
  unfold f_runs
  rw [fSeq_ev, q1, Option.bind_some, fThen_nx, fSeq_ev, q2, Option.bind_some, fThen_nx, fSeq_ev, q3, Option.bind_some, fThen_nx, q4]
/-! ### a drawn talk is small enough -/
/-- so deep at most, so wide at most -/
def WB : Nat → TK.Step → Prop
  | _, .tell _ _ _ => True
  | d + 1, .choice bs => bs.length ≤ 3 ∧ ∀ b ∈ bs, b.length ≤ 2 ∧ ∀ s ∈ b, WB d s
  | d + 1, .round s => s.length ≤ 2 ∧ ∀ x ∈ s, WB d x
  | d + 1, .both s t => (s.length ≤ 2 ∧ ∀ x ∈ s, WB d x) ∧ t.length ≤ 2 ∧ ∀ x ∈ t, WB d x
  | 0, .choice _ => False
  | 0, .round _ => False
  | 0, .both _ _ => False
theorem WB.of {hs : List Str} : ∀ {d : Nat} {s : TK.Step}, WS hs d s → WB d s
  | d, .tell a b w, _ => by unfold WB; trivial
  | d + 1, .choice bs, h => by
    unfold WS at h
    unfold WB
    exact ⟨h.2.1, fun b hb => ⟨(h.2.2 b hb).1, fun s hs => WB.of ((h.2.2 b hb).2 s hs)⟩⟩
  | d + 1, .round s, h => by
    unfold WS at h
    unfold WB
    exact ⟨h.1, fun x hx => WB.of (h.2 x hx)⟩
  | d + 1, .both s t, h => by
    unfold WS at h
    unfold WB
    exact ⟨⟨h.1.1, fun x hx => WB.of (h.1.2 x hx)⟩, h.2.1, fun x hx => WB.of (h.2.2 x hx)⟩
  | 0, .choice bs, h => by unfold WS at h; exact h.elim
  | 0, .round bs, h => by unfold WS at h; exact h.elim
  | 0, .both _ _, h => by unfold WS at h; exact h.elim
theorem WB.up : ∀ {d : Nat} {s : TK.Step}, WB d s → WB (d + 1) s
  | _, .tell a b w, _ => by unfold WB; trivial
  | d + 1, .choice bs, h => by
    unfold WB at h ⊢
    exact ⟨h.1, fun b hb => ⟨(h.2 b hb).1, fun s hs => WB.up ((h.2 b hb).2 s hs)⟩⟩
  | d + 1, .round s, h => by
    unfold WB at h ⊢
    exact ⟨h.1, fun x hx => WB.up (h.2 x hx)⟩
  | d + 1, .both s t, h => by
    unfold WB at h ⊢
    exact ⟨⟨h.1.1, fun x hx => WB.up (h.1.2 x hx)⟩, h.2.1, fun x hx => WB.up (h.2.2 x hx)⟩
  | 0, .choice bs, h => by unfold WB at h; exact h.elim
  | 0, .round bs, h => by unfold WB at h; exact h.elim
  | 0, .both _ _, h => by unfold WB at h; exact h.elim
theorem WB.le {n d : Nat} {s : TK.Step} (h : WB n s) (hd : n ≤ d) : WB d s := by
  induction d with
  | zero =>
    have : n = 0 := by omega
    exact this ▸ h
  | succ d ih =>
    by_cases e : n = d + 1
    · exact e ▸ h
    · exact (ih (by omega)).up
theorem WB.dep : ∀ {d : Nat} {s : TK.Step}, WB d s → TK.dep s ≤ d
  | d, .tell a b w, _ => by
    rw [dep_tell]
    exact Nat.zero_le _
  | d + 1, .choice bs, h => by
    unfold WB at h
    rw [dep_choice]
    have : (bs.map deps).foldr max 0 ≤ d := max_le.mpr (by
      simp only [List.mem_map, forall_exists_index, and_imp, forall_apply_eq_imp_iff₂]
      exact fun b hb => deps_le.mpr fun x hx => WB.dep ((h.2 b hb).2 x hx))
    omega
  | d + 1, .round s, h => by
    unfold WB at h
    rw [dep_round]
    have := deps_le.mpr fun x hx => WB.dep (h.2 x hx)
    omega
  | d + 1, .both s t, h => by
    unfold WB at h
    rw [dep_both]
    have h1 := deps_le.mpr fun x hx => WB.dep (h.1.2 x hx)
    have h2 := deps_le.mpr fun x hx => WB.dep (h.2.2 x hx)
    omega
  | 0, .choice bs, h => by unfold WB at h; exact h.elim
  | 0, .round bs, h => by unfold WB at h; exact h.elim
  | 0, .both _ _, h => by unfold WB at h; exact h.elim
theorem len_flat {α β : Type} {f : α → List β} {k n : Nat} (l : List α) (hn : l.length ≤ n) (h : ∀ a ∈ l, (f a).length ≤ k) : (l.map f).flatten.length ≤ n * k :=
  Nat.le_trans (flat_len l h) (Nat.mul_le_mul_right _ hn)
theorem sum_le' {α : Type} {f : α → Nat} {k n : Nat} (l : List α) (hn : l.length ≤ n) (h : ∀ a ∈ l, f a ≤ k) : (l.map f).sum ≤ n * k :=
  Nat.le_trans (sum_le_mul l h) (Nat.mul_le_mul_right _ hn)
theorem WB.hgt : ∀ {d : Nat} {s : TK.Step}, WB d s → TK.hgt s ≤ HM d
  | d, .tell a b w, _ => by
    rw [hgt_tell]
    cases d <;> (unfold HM; omega)
  | d + 1, .choice bs, h => by
    unfold WB at h
    rw [hgt_choice]
    have h1 : (bs.map hgts).sum ≤ 3 * (2 * HM d) := sum_le' bs h.1 fun b hb => sum_le' b (h.2 b hb).1 fun x hx => WB.hgt ((h.2 b hb).2 x hx)
    have := h.1
    unfold HM
    omega
  | d + 1, .round s, h => by
    unfold WB at h
    rw [hgt_round]
    have h2 : hgts s ≤ 2 * HM d := sum_le' s h.1 fun x hx => WB.hgt (h.2 x hx)
    unfold HM
    omega
  | d + 1, .both s t, h => by
    unfold WB at h
    rw [hgt_both]
    have h2 : hgts s ≤ 2 * HM d := sum_le' s h.1.1 fun x hx => WB.hgt (h.1.2 x hx)
    have h4 : hgts t ≤ 2 * HM d := sum_le' t h.2.1 fun x hx => WB.hgt (h.2.2 x hx)
    unfold HM
    omega
  | 0, .choice bs, h => by unfold WB at h; exact h.elim
  | 0, .round bs, h => by unfold WB at h; exact h.elim
  | 0, .both _ _, h => by unfold WB at h; exact h.elim
def PM1 : Nat → Nat
  | 0 => 1
  | d + 1 => (1 + 2 * PM1 d) * (1 + 2 * PM1 d)
theorem pds_len {k : Nat} : ∀ (s : Steps), (∀ x ∈ s, (pd1 x).length ≤ k) → (pds s).length ≤ s.length * k
  | [], _ => by rw [pds_nil]; exact Nat.zero_le _
  | x :: s, h => by
    have h1 := h x (by simp)
    have h2 := pds_len s fun y hy => h y (by simp [hy])
    rw [pds_cons, List.length_append, List.length_map, List.length_cons, Nat.add_mul]
    omega
theorem pds_len' {k n : Nat} {s : Steps} (hn : s.length ≤ n) (h : ∀ x ∈ s, (pd1 x).length ≤ k) : (pds s).length ≤ n * k := Nat.le_trans (pds_len s h) (Nat.mul_le_mul_right _ hn)
theorem mixes_len (as bs : List Steps) : (mixes as bs).length ≤ as.length * bs.length := by
  unfold mixes
  exact flat_len as fun a _ => by rw [List.length_map]; exact Nat.le_refl _
theorem pm_ge (k : Nat) : 6 * k ≤ (1 + 2 * k) * (1 + 2 * k) ∨ k = 0 := by
  rcases k with _ | k
  · exact .inr rfl
  · refine .inl ?_
    have h1 : (1 + 2 * (k + 1)) * 3 ≤ (1 + 2 * (k + 1)) * (1 + 2 * (k + 1)) := Nat.mul_le_mul_left _ (by omega)
    omega
theorem pm_pos : ∀ d, 1 ≤ PM1 d
  | 0 => Nat.le_refl _
  | d + 1 => by
    unfold PM1
    exact Nat.mul_pos (by omega) (by omega)
theorem WB.pd : ∀ {d : Nat} {s : TK.Step}, WB d s → (pd1 s).length ≤ PM1 d
  | d, .tell a b w, _ => by
    rw [pd1_tell]
    exact pm_pos d
  | d + 1, .choice bs, h => by
    unfold WB at h
    rw [pd1_choice]
    have h1 : ((bs.map pds).flatten).length ≤ 3 * (2 * PM1 d) := len_flat bs h.1 fun b hb => pds_len' (h.2 b hb).1 fun x hx => WB.pd ((h.2 b hb).2 x hx)
    have h2 := pm_ge (PM1 d)
    have h3 := pm_pos d
    unfold PM1
    omega
  | d + 1, .round s, h => by
    unfold WB at h
    rw [pd1_round, List.length_map]
    have h1 : (pds s).length ≤ 2 * PM1 d := pds_len' h.1 fun x hx => WB.pd (h.2 x hx)
    have h2 := pm_ge (PM1 d)
    have h3 := pm_pos d
    unfold PM1
    omega
  | d + 1, .both s t, h => by
    unfold WB at h
    rw [pd1_both]
    have h1 : (pds s).length ≤ 2 * PM1 d := pds_len' h.1.1 fun x hx => WB.pd (h.1.2 x hx)
    have h2 : (pds t).length ≤ 2 * PM1 d := pds_len' h.2.1 fun x hx => WB.pd (h.2.2 x hx)
    refine Nat.le_trans (mixes_len _ _) ?_
    rw [List.length_cons, List.length_cons]
    unfold PM1
    exact Nat.mul_le_mul (by omega) (by omega)
  | 0, .choice bs, h => by unfold WB at h; exact h.elim
  | 0, .round bs, h => by unfold WB at h; exact h.elim
  | 0, .both _ _, h => by unfold WB at h; exact h.elim
theorem lts_flat (s : Steps) : lts s = (s.map lts1).flatten := rfl
theorem WB.lts : ∀ {d : Nat} {s : TK.Step}, WB d s → (lts1 s).length ≤ 6 ^ d
  | d, .tell a b w, _ => by
    rw [lts1_tell]
    exact Nat.pos_of_ne_zero (by have := Nat.pow_pos (n := d) (show 0 < 6 by decide); omega)
  | d + 1, .choice bs, h => by
    unfold WB at h
    rw [lts1_choice]
    have h1 : ((bs.map TK.lts).flatten).length ≤ 3 * (2 * 6 ^ d) := len_flat bs h.1 fun b hb => len_flat b (h.2 b hb).1 fun x hx => WB.lts ((h.2 b hb).2 x hx)
    rw [Nat.pow_succ]
    omega
  | d + 1, .round s, h => by
    unfold WB at h
    rw [lts1_round]
    have h1 : (TK.lts s).length ≤ 2 * 6 ^ d := len_flat s h.1 fun x hx => WB.lts (h.2 x hx)
    rw [Nat.pow_succ]
    omega
  | d + 1, .both s t, h => by
    unfold WB at h
    rw [lts1_both, List.length_append]
    have h1 : (TK.lts s).length ≤ 2 * 6 ^ d := len_flat s h.1.1 fun x hx => WB.lts (h.1.2 x hx)
    have h2 : (TK.lts t).length ≤ 2 * 6 ^ d := len_flat t h.2.1 fun x hx => WB.lts (h.2.2 x hx)
    rw [Nat.pow_succ]
    omega
  | 0, .choice bs, h => by unfold WB at h; exact h.elim
  | 0, .round bs, h => by unfold WB at h; exact h.elim
  | 0, .both _ _, h => by unfold WB at h; exact h.elim
/-- few letters can be the first -/
theorem ex_lts {α : Type} {P : Lt → α → Prop} {k : Nat} : ∀ (bs : List α), (∀ b ∈ bs, ∃ F : List Lt, F.length ≤ k ∧ ∀ l, P l b → l ∈ F) → ∃ F : List Lt, F.length ≤ bs.length * k ∧ ∀ l, (∃ b ∈ bs, P l b) → l ∈ F
  | [], _ => ⟨[], by simp, fun l ⟨b, hb, _⟩ => by cases hb⟩
  | b :: bs, h => by
    obtain ⟨F, h1, h2⟩ := h b (by simp)
    obtain ⟨G, h3, h4⟩ := ex_lts bs fun c hc => h c (by simp [hc])
    refine ⟨F ++ G, by rw [List.length_append, List.length_cons, Nat.add_mul]; omega, fun l ⟨c, hc, hp⟩ => ?_⟩
    rcases List.mem_cons.mp hc with rfl | hc
    · exact List.mem_append_left _ (h2 l hp)
    · exact List.mem_append_right _ (h4 l ⟨c, hc, hp⟩)
theorem bhs_ne {l : Lt} {s : Steps} (h : bhs l s ≠ []) : ∃ d, d ∈ bhr l s := by
  cases e : bhs l s with
  | nil => exact absurd e h
  | cons d t => exact ⟨d, dd_mem.mp (show d ∈ bhs l s by rw [e]; simp)⟩
theorem bhr_first {l : Lt} : ∀ {s : Steps} {d : Steps}, d ∈ bhr l s → ∃ x ∈ s, bh1 l x ≠ []
  | [], d, h => by rw [bhr_nil] at h; cases h
  | x :: s, d, h => by
    rw [bhr_cons] at h
    rcases List.mem_append.mp h with h | h
    · obtain ⟨e, he, _⟩ := List.mem_map.mp h
      exact ⟨x, by simp, List.ne_nil_of_mem he⟩
    · by_cases hc : cs1 x = true
      · rw [if_pos hc] at h
        obtain ⟨y, hy, hn⟩ := bhr_first h
        exact ⟨y, by simp [hy], hn⟩
      · rw [if_neg hc] at h; cases h
def FB : Nat → Nat
  | 0 => 1
  | 1 => 3
  | d + 2 => 6 * FB (d + 1)
def BB : Nat → Nat
  | 0 => 1
  | d + 1 => 2 * FB (d + 1)
theorem fb_bb (d : Nat) : FB (d + 1) = 3 * BB d := by
  cases d with
  | zero => rfl
  | succ d =>
    show 6 * FB (d + 1) = 3 * (2 * FB (d + 1))
    omega
theorem fb_pos : ∀ d, 1 ≤ FB d
  | 0 => Nat.le_refl _
  | 1 => by decide
  | d + 2 => by
    have := fb_pos (d + 1)
    show 1 ≤ 6 * FB (d + 1)
    omega
theorem fs_body {d : Nat} {s : Steps} (hl : s.length ≤ 2) (hw : ∀ x ∈ s, WB d x) (h : ∀ x ∈ s, ∃ F : List Lt, F.length ≤ FB d ∧ ∀ l, bh1 l x ≠ [] → l ∈ F) : ∃ F : List Lt, F.length ≤ BB d ∧ ∀ l, bhs l s ≠ [] → l ∈ F := by
  cases d with
  | zero =>
    cases s with
    | nil => exact ⟨[], by simp, fun l z => by obtain ⟨d, hd⟩ := bhs_ne z; rw [bhr_nil] at hd; cases hd⟩
    | cons x t =>
      obtain ⟨F, h1, h2⟩ := h x (by simp)
      refine ⟨F, h1, fun l z => h2 l ?_⟩
      obtain ⟨d, hd⟩ := bhs_ne z
      have hx := hw x (by simp)
      cases x with
      | tell a b w =>
        rw [bhr_cons, cs1_tell] at hd
        simp only [Bool.false_eq_true, if_false, List.append_nil] at hd
        obtain ⟨e, he, _⟩ := List.mem_map.mp hd
        exact List.ne_nil_of_mem he
      | choice bs => unfold WB at hx; exact hx.elim
      | round bs => unfold WB at hx; exact hx.elim
      | both b c => unfold WB at hx; exact hx.elim
  | succ d =>
    obtain ⟨F, h1, h2⟩ := ex_lts s h
    refine ⟨F, Nat.le_trans h1 (Nat.mul_le_mul_right _ hl), fun l z => ?_⟩
    obtain ⟨d, hd⟩ := bhs_ne z
    exact h2 l (bhr_first hd)
theorem fs_ex : ∀ {d : Nat} {x : TK.Step}, WB d x → ∃ F : List Lt, F.length ≤ FB d ∧ ∀ l, bh1 l x ≠ [] → l ∈ F
  | d, .tell a b w, _ => ⟨[(a, b, w)], by
      exact fb_pos d, fun l z => by
      rw [bh1_tell] at z
      by_cases e : (a, b, w) = l
      · simp [e]
      · rw [if_neg e] at z; exact absurd rfl z⟩
  | d + 1, .choice bs, h => by
    unfold WB at h
    obtain ⟨F, h1, h2⟩ := ex_lts (P := fun l b => bhs l b ≠ []) (k := BB d) bs fun b hb => fs_body (h.2 b hb).1 (h.2 b hb).2 fun x hx => fs_ex ((h.2 b hb).2 x hx)
    refine ⟨F, by rw [fb_bb]; exact Nat.le_trans h1 (Nat.mul_le_mul_right _ h.1), fun l z => h2 l ?_⟩
    rw [bh1_choice] at z
    cases e : (bs.map (bhs l)).flatten with
    | nil => exact absurd e z
    | cons d t =>
      obtain ⟨q, hq, hd⟩ := List.mem_flatten.mp (show d ∈ (bs.map (bhs l)).flatten by rw [e]; simp)
      obtain ⟨b, hb, rfl⟩ := List.mem_map.mp hq
      exact ⟨b, hb, List.ne_nil_of_mem hd⟩
  | d + 1, .round s, h => by
    unfold WB at h
    obtain ⟨F, h1, h2⟩ := fs_body h.1 h.2 fun x hx => fs_ex (h.2 x hx)
    refine ⟨F, by rw [fb_bb]; omega, fun l z => h2 l fun e => ?_⟩
    rw [bh1_round, e] at z
    exact absurd rfl z
  | d + 1, .both s t, h => by
    unfold WB at h
    obtain ⟨F, h1, h2⟩ := fs_body h.1.1 h.1.2 fun x hx => fs_ex (h.1.2 x hx)
    obtain ⟨G, h3, h4⟩ := fs_body h.2.1 h.2.2 fun x hx => fs_ex (h.2.2 x hx)
    refine ⟨F ++ G, by rw [fb_bb, List.length_append]; omega, fun l z => ?_⟩
    rw [bh1_both] at z
    by_cases e : bhs l s = []
    · by_cases e2 : bhs l t = []
      · rw [e, e2] at z; exact absurd rfl z
      · exact List.mem_append_right _ (h4 l e2)
    · exact List.mem_append_left _ (h2 l e)
  | 0, .choice bs, h => by unfold WB at h; exact h.elim
  | 0, .round bs, h => by unfold WB at h; exact h.elim
  | 0, .both _ _, h => by unfold WB at h; exact h.elim
theorem gr_of {s : Steps} (hl : s.length ≤ 2) (hw : ∀ x ∈ s, WB 2 x) (hn : Nms s) : Gr s where
  dep := deps_le.mpr fun x hx => (hw x hx).dep
  hgt := Nat.le_trans (sum_le' s hl fun x hx => (hw x hx).hgt) (by decide)
  nm := hn
  cln := by
    have h : (pds s).length ≤ 2 * PM1 2 := pds_len' hl fun x hx => (hw x hx).pd
    have h2 : PM1 2 = 361 := by decide
    unfold cl
    rw [List.length_cons]
    omega
  lt := Nat.le_trans (len_flat s hl fun x hx => (hw x hx).lts) (by decide)
  fs := fun ls nd h => by
    obtain ⟨F, h1, h2⟩ := fs_body hl hw fun x hx => fs_ex (hw x hx)
    have h3 : BB 2 = 36 := by decide
    have := nodup_le' nd fun l hl => h2 l (h l hl)
    omega
theorem nm_ok {w : Str} (h : IsNm w) : w.length ≤ 20 ∧ ∀ c ∈ w.cps.toList, c < 16 ^ 8 := by
  obtain ⟨h1, h2, h3⟩ := h
  refine ⟨Nat.le_trans (show w.length ≤ 5 from h2) (by decide), fun c hc => Nat.lt_of_le_of_lt (h3 c hc).2 (by decide)⟩
theorem WS.lts {hs : List Str} : ∀ {d : Nat} {s : TK.Step}, WS hs d s → ∀ l ∈ lts1 s, l.1 ∈ hs ∧ l.2.1 ∈ hs ∧ IsNm l.2.2
  | d, .tell a b w, h => by
    unfold WS at h
    intro l hl
    rw [lts1_tell] at hl
    rw [List.mem_singleton.mp hl]
    exact h
  | d + 1, .choice bs, h => by
    unfold WS at h
    intro l hl
    rw [lts1_choice] at hl
    obtain ⟨q, hq, hl⟩ := List.mem_flatten.mp hl
    obtain ⟨b, hb, rfl⟩ := List.mem_map.mp hq
    obtain ⟨q, hq, hl⟩ := List.mem_flatten.mp hl
    obtain ⟨x, hx, rfl⟩ := List.mem_map.mp hq
    exact WS.lts ((h.2.2 b hb).2 x hx) l hl
  | d + 1, .round s, h => by
    unfold WS at h
    intro l hl
    rw [lts1_round] at hl
    obtain ⟨q, hq, hl⟩ := List.mem_flatten.mp hl
    obtain ⟨x, hx, rfl⟩ := List.mem_map.mp hq
    exact WS.lts (h.2 x hx) l hl
  | d + 1, .both s t, h => by
    unfold WS at h
    intro l hl
    rw [lts1_both] at hl
    rcases List.mem_append.mp hl with hl | hl
    · obtain ⟨q, hq, hl⟩ := List.mem_flatten.mp hl
      obtain ⟨x, hx, rfl⟩ := List.mem_map.mp hq
      exact WS.lts (h.1.2 x hx) l hl
    · obtain ⟨q, hq, hl⟩ := List.mem_flatten.mp hl
      obtain ⟨x, hx, rfl⟩ := List.mem_map.mp hq
      exact WS.lts (h.2.2 x hx) l hl
  | 0, .choice bs, h => by unfold WS at h; exact h.elim
  | 0, .round bs, h => by unfold WS at h; exact h.elim
  | 0, .both _ _, h => by unfold WS at h; exact h.elim
theorem nms_of {hs : List Str} (ho : HsOk hs) {d : Nat} {s : Steps} (h : ∀ x ∈ s, WS hs d x) : Nms s := fun l hl => by
  obtain ⟨q, hq, hl⟩ := List.mem_flatten.mp (show l ∈ (s.map lts1).flatten from hl)
  obtain ⟨x, hx, rfl⟩ := List.mem_map.mp hq
  obtain ⟨h1, h2, h3⟩ := WS.lts (h x hx) l hl
  have n1 := nm_ok (ho.2.2.2 _ h1)
  have n2 := nm_ok (ho.2.2.2 _ h2)
  have n3 := nm_ok h3
  exact ⟨⟨n1.1, n2.1, n3.1⟩, n1.2, n2.2, n3.2⟩
theorem gr_talk {hs : List Str} (ho : HsOk hs) {s : Steps} {d : Nat} (hd : d ≤ 2) (hl : s.length ≤ 2) (h : ∀ x ∈ s, WS hs d x) : Gr s := gr_of hl (fun x hx => (WB.of (h x hx)).le hd) (nms_of ho h)
/-! ### the law's own word of what goes -/
theorem forGo_any {α : Type} {e : α → PyData} {tg : PyData → Rho → Option Rho} {body : Rho → Option Fl} {ks : List Nat} {ρ : Rho} {d : PyData} (p : α → Bool) : ∀ (xs : List α), (∀ x ∈ xs, ∃ r r', tg (e x) ρ = some r ∧ clr ks r' = ρ ∧ body r = some (if p x = true then .rt d else .nx r')) → forGo tg body ks (xs.map e) ρ = some (if xs.any p = true then .rt d else .nx ρ)
  | [], _ => rfl
  | x :: xs, h => by
    obtain ⟨r, r', h1, h2, h3⟩ := h x (by simp)
    have ih := forGo_any (tg := tg) (body := body) (ks := ks) (ρ := ρ) (d := d) p xs fun y hy => h y (by simp [hy])
    rw [List.map_cons, List.any_cons]
    unfold forGo
    rw [h1, Option.bind_some, h3]
    cases hp : p x with
    | true => rfl
    | false =>
      simp only [Bool.false_or]
      have : forGo tg body ks (xs.map e) (clr ks r') = some (if xs.any p = true then .rt d else .nx ρ) := by rw [h2]; exact ih
      exact this
theorem row_to (r : Row) (k : Nat) : dSl (rowD r) none (some (k : Int)) = some (rowD (r.take k)) := by
  unfold rowD
  rw [dSl_tup, cutD_to, List.map_take]
theorem row_from (r : Row) (k : Nat) : dSl (rowD r) (some (k : Int)) none = some (rowD (r.drop k)) := by
  unfold rowD
  rw [dSl_tup, cutD_from, List.map_drop]
open Classical in
theorem dEq_row (x y : Row) : dEq (rowD x) (rowD y) = some (decide (x = y)) := by
  rw [dEq_iff (rowD_nb x) (rowD_pl x) (rowD_nb y) (rowD_pl y)]
  congr 1
  exact decide_eq_decide.mpr ⟨rowD_inj, fun h => by rw [h]⟩
theorem row_nil (x : Row) : dEq (rowD x) (.tuple []) = some (decide (x = [])) := by
  have := dEq_row x []
  rw [show rowD [] = .tuple [] from rfl] at this
  rw [this] <;> exact congrArg some (decide_eq_decide.mpr Iff.rfl)
theorem ss_nil {s : Steps} (h : deps s ≤ 20) : dEq (ssD s) (.tuple []) = some (decide (s = [])) := by
  have := dEq_ssD (t := []) h (by decide)
  exact this
theorem row_len (r : Row) : dLen (rowD r) = some (.int r.length) := by
  unfold rowD
  show some (PyData.int _) = _
  rw [List.length_map]
open Classical in
/-- is it a run -/
noncomputable def rBs (s : Steps) (r : Row) : Bool := decide (Runs s r)
open Classical in
noncomputable def rB1 (x : TK.Step) (r : Row) : Bool := decide (Run1 x r)
theorem rBs_iff {s : Steps} {r : Row} : rBs s r = true ↔ Runs s r := by unfold rBs; simp
theorem rB1_iff {x : TK.Step} {r : Row} : rB1 x r = true ↔ Run1 x r := by unfold rB1; simp
theorem rBs_nil (r : Row) : rBs [] r = decide (r = []) := by
  rw [Bool.eq_iff_iff, rBs_iff, runs_nil, decide_eq_true_iff]
theorem rBs_cons (x : TK.Step) (t : Steps) (r : Row) : rBs (x :: t) r = (List.range (r.length + 1)).any fun k => rB1 x (r.take k) && rBs t (r.drop k) := by
  rw [Bool.eq_iff_iff, rBs_iff, List.any_eq_true]
  constructor
  · intro h
    cases h with
    | @cons _ _ a b h1 h2 =>
      refine ⟨a.length, List.mem_range.mpr (by rw [List.length_append]; omega), ?_⟩
      rw [List.take_left', List.drop_left', Bool.and_eq_true, rB1_iff, rBs_iff]
      · exact ⟨h1, h2⟩
      · rfl
      · rfl
  · rintro ⟨k, _, h⟩
    rw [Bool.and_eq_true, rB1_iff, rBs_iff] at h
    have := Runs.cons h.1 h.2
    rwa [List.take_append_drop] at this
theorem rB1_round (s : Steps) (r : Row) (hr : r ≠ []) : rB1 (.round s) r = (List.range r.length).any fun k => rBs s (r.take (k + 1)) && rB1 (.round s) (r.drop (k + 1)) := by
  rw [Bool.eq_iff_iff, rB1_iff, List.any_eq_true]
  constructor
  · intro h
    cases h with
    | stop => exact absurd rfl hr
    | @more _ l a t h1 h2 =>
      refine ⟨a.length, List.mem_range.mpr (by rw [List.length_append, List.length_cons]; omega), ?_⟩
      have e1 : (l :: a ++ t).take (a.length + 1) = l :: a := List.take_left' rfl
      have e2 : (l :: a ++ t).drop (a.length + 1) = t := List.drop_left' rfl
      rw [e1, e2, Bool.and_eq_true, rB1_iff, rBs_iff]
      exact ⟨h1, h2⟩
  · rintro ⟨k, _, h⟩
    rw [Bool.and_eq_true, rB1_iff, rBs_iff] at h
    cases r with
    | nil => exact absurd rfl hr
    | cons l r =>
      have := Run1.more (t := r.drop k) (l := l) (r := r.take k) h.1 h.2
      rwa [List.cons_append, List.take_append_drop] at this
theorem rB1_choice (bs : List Steps) (r : Row) : rB1 (.choice bs) r = bs.any fun b => rBs b r := by
  rw [Bool.eq_iff_iff, rB1_iff, List.any_eq_true]
  constructor
  · intro h
    cases h with
    | choice hb h => exact ⟨_, hb, rBs_iff.mpr h⟩
  · rintro ⟨b, hb, h⟩
    exact .choice hb (rBs_iff.mp h)
theorem rB1_tell (a b w : Str) (r : Row) : rB1 (.tell a b w) r = decide (r = [(a, b, w)]) := by
  rw [Bool.eq_iff_iff, rB1_iff, decide_eq_true_iff]
  constructor
  · intro h; cases h; rfl
  · rintro rfl; exact .tell
/-- all ways to part a row in two that stand side by side -/
def spl (acc : List (Row × Row)) (r : Row) : List (Row × Row) := r.foldl (fun acc l => (acc.map fun p => [(p.1 ++ [l], p.2), (p.1, p.2 ++ [l])]).flatten) acc
theorem spl_mem : ∀ (r : Row) (acc : List (Row × Row)) (p q : Row), (p, q) ∈ spl acc r ↔ ∃ a b p' q', (a, b) ∈ acc ∧ Shuf p' q' r ∧ p = a ++ p' ∧ q = b ++ q'
  | [], acc, p, q => by
    constructor
    · exact fun h => ⟨p, q, [], [], h, .nil, by simp, by simp⟩
    · rintro ⟨a, b, p', q', h, hs, rfl, rfl⟩
      cases hs
      simpa [spl] using h
  | l :: r, acc, p, q => by
    show (p, q) ∈ spl _ r ↔ _
    rw [spl_mem r]
    constructor
    · rintro ⟨a, b, p', q', h, hs, rfl, rfl⟩
      obtain ⟨z, hz, h⟩ := List.mem_flatten.mp h
      obtain ⟨⟨a0, b0⟩, h0, rfl⟩ := List.mem_map.mp hz
      simp only [List.mem_cons, Prod.mk.injEq, List.not_mem_nil, or_false] at h
      rcases h with ⟨rfl, rfl⟩ | ⟨rfl, rfl⟩
      · exact ⟨a0, b, l :: p', q', h0, .left hs, by simp, rfl⟩
      · exact ⟨a, b0, p', l :: q', h0, .right hs, rfl, by simp⟩
    · rintro ⟨a, b, p', q', h, hs, rfl, rfl⟩
      cases hs with
      | left hs => exact ⟨a ++ [l], b, _, q', List.mem_flatten.mpr ⟨_, List.mem_map_of_mem h, by simp⟩, hs, by simp, rfl⟩
      | right hs => exact ⟨a, b ++ [l], p', _, List.mem_flatten.mpr ⟨_, List.mem_map_of_mem h, by simp⟩, hs, rfl, by simp⟩
theorem shuf_len {p q r : Row} (h : Shuf p q r) : p.length + q.length = r.length := by
  induction h with
  | nil => rfl
  | left _ ih => rw [List.length_cons, List.length_cons, ← ih]; omega
  | right _ ih => rw [List.length_cons, List.length_cons, ← ih]; omega
theorem spl_shuf {r p q : Row} : (p, q) ∈ spl [([], [])] r ↔ Shuf p q r := by
  rw [spl_mem]
  constructor
  · rintro ⟨a, b, p', q', h, hs, rfl, rfl⟩
    simp only [List.mem_cons, Prod.mk.injEq, List.not_mem_nil, or_false] at h
    obtain ⟨rfl, rfl⟩ := h
    exact hs
  · exact fun h => ⟨[], [], p, q, by simp, h, rfl, rfl⟩
theorem rB1_both (s t : Steps) (r : Row) : rB1 (.both s t) r = (spl [([], [])] r).any fun p => rBs s p.1 && rBs t p.2 := by
  rw [Bool.eq_iff_iff, rB1_iff, List.any_eq_true]
  constructor
  · intro h
    cases h with
    | both h1 h2 h3 => exact ⟨_, spl_shuf.mpr h3, by rw [Bool.and_eq_true, rBs_iff, rBs_iff]; exact ⟨h1, h2⟩⟩
  · rintro ⟨⟨p, q⟩, hp, h⟩
    rw [Bool.and_eq_true, rBs_iff, rBs_iff] at h
    exact .both h.1 h.2 (spl_shuf.mp hp)
/-! as it is computed -/
theorem rint_map (n : Nat) : rints 0 n = (List.range n).map fun k => PyData.int ((k : Nat) : Int) := by
  unfold rints
  exact List.map_congr_left fun i _ => by simp
theorem rint_map1 (n : Nat) : rints 1 n = (List.range n).map fun k => PyData.int ((k + 1 : Nat) : Int) := by
  unfold rints
  exact List.map_congr_left fun i _ => by congr 1; omega
theorem rng_row (r : Row) (h : r.length ≤ 3) : dRng1 (.int ((r.length : Int) + 1)) = some (rints 0 (r.length + 1)) := rng_ok r.length (by omega)
theorem rng_row2 (r : Row) (h : r.length ≤ 3) : dRng2 (.int 1) (.int ((r.length : Int) + 1)) = some (rints 1 r.length) := by
  have e : ((r.length : Int) + 1 - 1).toNat = r.length := by omega
  have e2 : -1000000 ≤ (1 : Int) ∧ (1 : Int) ≤ 1000000 ∧ (r.length : Int) + 1 ≤ 1000000 ∧ -1000000 ≤ (r.length : Int) + 1 := ⟨by omega, by omega, by omega, by omega⟩
  rw [dRng2_ev, if_pos e2, e]
theorem goes_body {rg rs : List PyData → Option PyData} {s : Steps} {r : Row} (hd : deps s ≤ 20) (hr : r.length ≤ 3) (h : ∀ x t, s = x :: t → (∀ k, rs [sD x, rowD (r.take k)] = some (.bool (rB1 x (r.take k)))) ∧ ∀ k, rg [ssD t, rowD (r.drop k)] = some (.bool (rBs t (r.drop k)))) :
    runF 5 (f_law_goes rg rs) [ssD s, rowD r] = some (.bool (rBs s r)) := by
  refine run_of' ?_
  show f_law_goes rg rs [some (ssD s), some (rowD r), none, none, none] = _
  cases s with
  | nil =>
    rw [rBs_nil]
    have h1 := ss_nil (s := []) (by decide)
    simp [f_law_goes, h1, row_nil]
  | cons x t =>
    obtain ⟨hx, ht⟩ := h x t rfl
    have h1 := ss_nil hd
    have hl : forGo (g1 4) (b_law_goes_1 rg rs) [4] ((List.range (r.length + 1)).map fun k => PyData.int ((k : Nat) : Int)) [some (ssD (x :: t)), some (rowD r), some (sD x), some (ssD t), none] = _ := forGo_any (e := fun k : Nat => PyData.int ((k : Nat) : Int)) (d := .bool true) (fun k => rB1 x (r.take k) && rBs t (r.drop k)) (List.range (r.length + 1)) fun k _ => by
      refine ⟨_, [some (ssD (x :: t)), some (rowD r), some (sD x), some (ssD t), some (.int (k : Nat))], rfl, rfl, ?_⟩
      simp [b_law_goes_1, row_to, row_from, hx, ht]
      cases rB1 x (r.take k) <;> cases rBs t (r.drop k) <;> simp
    have q0 : (e2 (eVar 0) (eTup aNil) dEq) [some (ssD (x :: t)), some (rowD r), none, none, none] = some false := by
      have : (e2 (eVar 0) (eTup aNil) dEq) [some (ssD (x :: t)), some (rowD r), none, none, none] = dEq (ssD (x :: t)) (.tuple []) := rfl
      rw [this, h1]; rfl
    have q3 : fFor (e1 (e2 (e1 (eVar 1) dLen) (eC (.int 1)) dAddA) dRng1) (g1 4) [4] (b_law_goes_1 rg rs) [some (ssD (x :: t)), some (rowD r), some (sD x), some (ssD t), none] = some (if ((List.range (r.length + 1)).any fun k => rB1 x (r.take k) && rBs t (r.drop k)) = true then .rt (.bool true) else .nx [some (ssD (x :: t)), some (rowD r), some (sD x), some (ssD t), none]) := by
      have e : (e1 (e2 (e1 (eVar 1) dLen) (eC (.int 1)) dAddA) dRng1) [some (ssD (x :: t)), some (rowD r), some (sD x), some (ssD t), none] = some (rints 0 (r.length + 1)) := by
        rw [e1_ev, e2_ev, e1_ev, eVar_ev, eC_ev, List.getD_cons_succ, List.getD_cons_zero, Option.bind_some, row_len, Option.bind_some, Option.bind_some, dAddA_int, Option.bind_some]
        exact rng_row r hr
      rw [fFor_ev, e, rint_map]
      exact hl
    have q1 : fSet 2 (e2 (eVar 0) (eC (.int 0)) dIx) [some (ssD (x :: t)), some (rowD r), none, none, none] = some (.nx [some (ssD (x :: t)), some (rowD r), some (sD x), none, none]) := by
      simp [ssD_eq]
    have q2 : fSet 3 (eSl (eVar 0) (ePart (eC (.int 1))) eNoPart dSl) [some (ssD (x :: t)), some (rowD r), some (sD x), none, none] = some (.nx [some (ssD (x :: t)), some (rowD r), some (sD x), some (ssD t), none]) := by
      simp [ssD_eq, cutD_1_]
    unfold f_law_goes
    rw [fSeq_ev, fIf_ev, q0, Option.bind_some, if_neg (by decide)]
    rw [show fNil [some (ssD (x :: t)), some (rowD r), none, none, none] = some (.nx [some (ssD (x :: t)), some (rowD r), none, none, none]) from rfl]
    rw [Option.bind_some, fThen_nx, fSeq_ev, q1, Option.bind_some, fThen_nx, fSeq_ev, q2, Option.bind_some, fThen_nx, fSeq_ev, q3]
    rw [rBs_cons]
    cases (List.range (r.length + 1)).any fun k => rB1 x (r.take k) && rBs t (r.drop k) <;> rfl
theorem sgoes_tell {rg rs : List PyData → Option PyData} {a b w : Str} {r : Row} : runF 9 (f_law_step_goes rg rs) [sD (.tell a b w), rowD r] = some (.bool (rB1 (.tell a b w) r)) := by
  rw [rB1_tell, sD_tell]
  have h : dEq (rowD r) (.tuple [.tuple [.str a, .str b, .str w]]) = some (decide (r = [(a, b, w)])) := by
    have := dEq_row r [(a, b, w)]
    rw [show rowD [(a, b, w)] = .tuple [.tuple [.str a, .str b, .str w]] from rfl] at this
    rw [this] <;> exact congrArg some (decide_eq_decide.mpr Iff.rfl)
  simp [runF, f_law_step_goes, dEq_str, cutD_1_, h]
theorem ne_nil_ss {bs : List Steps} (h : ∀ b ∈ bs, deps b ≤ 20) : dNe (.list (bs.map ssD)) (.list []) = some (!bs.isEmpty) := by
  unfold dNe
  have h1 : pl (.list (bs.map ssD)) = true := pl_of (by
    rw [plain_lst]
    intro d hd
    obtain ⟨b, _, rfl⟩ := List.mem_map.mp hd
    exact ssD_plain b) (Nat.le_trans ((depth_lst (n := 62)).mpr fun d hd => by
    obtain ⟨b, hb, rfl⟩ := List.mem_map.mp hd
    exact ssD_depth (h b hb)) (by decide))
  rw [if_pos ⟨h1, rfl⟩]
  cases bs with
  | nil => rfl
  | cons b bs => simp [PyData.eqv, PyData.eqvAll]
theorem sgoes_choice {rg rs : List PyData → Option PyData} {bs : List Steps} {r : Row} (hd : ∀ b ∈ bs, deps b ≤ 20) (h : ∀ b ∈ bs, rg [ssD b, rowD r] = some (.bool (rBs b r))) : runF 9 (f_law_step_goes rg rs) [sD (.choice bs), rowD r] = some (.bool (rB1 (.choice bs) r)) := by
  rw [rB1_choice, sD_choice]
  have hl : lcGo (g1 8) (t_law_step_goes_1 rg rs) (e_law_step_goes_1 rg rs) [some (.tuple [.str "choice", .tuple (bs.map ssD)]), some (rowD r), none, none, none, none, none, none, none] (bs.map ssD) = some ((bs.filter fun b => rBs b r).map ssD) := lcGo_filter (fun b => rBs b r) ssD bs fun b hb => ⟨_, rfl, by
    have := h b hb
    simp [t_law_step_goes_1, this], fun _ => rfl⟩
  have hn := ne_nil_ss (bs := bs.filter fun b => rBs b r) fun b hb => hd b (List.mem_filter.mp hb).1
  have e : (!(bs.filter fun b => rBs b r).isEmpty) = bs.any fun b => rBs b r := by
    rw [Bool.eq_iff_iff]
    simp
  simp [runF, f_law_step_goes, dEq_str, s_ct, hl]
  rw [hn, e]
  simp
theorem sgoes_round {rg rs : List PyData → Option PyData} {b : Steps} {r : Row} (hr : r.length ≤ 3) (h1 : ∀ k, rg [ssD b, rowD (r.take k)] = some (.bool (rBs b (r.take k)))) (h2 : r ≠ [] → ∀ k, rs [sD (.round b), rowD (r.drop (k + 1))] = some (.bool (rB1 (.round b) (r.drop (k + 1))))) :
    runF 9 (f_law_step_goes rg rs) [sD (.round b), rowD r] = some (.bool (rB1 (.round b) r)) := by
  by_cases e0 : r = []
  · subst e0
    have e : rB1 (.round b) [] = true := rB1_iff.mpr .stop
    rw [e, sD_round]
    simp [runF, f_law_step_goes, dEq_str, s_rt, s_rc, row_nil]
  · have h2 := h2 e0
    rw [sD_round] at h2 ⊢
    have hl : forGo (g1 6) (b_law_step_goes_1 rg rs) [6] ((List.range r.length).map fun k => PyData.int ((k + 1 : Nat) : Int)) [some (.tuple [.str "round", ssD b]), some (rowD r), none, none, none, none, none, none, none] = _ := forGo_any (e := fun k : Nat => PyData.int ((k + 1 : Nat) : Int)) (d := .bool true) (fun k => rBs b (r.take (k + 1)) && rB1 (.round b) (r.drop (k + 1))) (List.range r.length) fun k _ => by
      refine ⟨_, [some (.tuple [.str "round", ssD b]), some (rowD r), none, none, none, none, some (.int ((k + 1 : Nat) : Int)), none, none], rfl, rfl, ?_⟩
      have t1 := row_to r (k + 1)
      have t2 := row_from r (k + 1)
      have g1 := h1 (k + 1)
      have g2 := h2 k
      generalize hk : ((k + 1 : Nat) : Int) = K at t1 t2 ⊢
      simp [b_law_step_goes_1, t1, t2, g1, g2]
      cases rBs b (r.take (k + 1)) <;> cases rB1 (.round b) (r.drop (k + 1)) <;> simp
    have q3 : fFor (e2 (eC (.int 1)) (e2 (e1 (eVar 1) dLen) (eC (.int 1)) dAddA) dRng2) (g1 6) [6] (b_law_step_goes_1 rg rs) [some (.tuple [.str "round", ssD b]), some (rowD r), none, none, none, none, none, none, none] = some (if ((List.range r.length).any fun k => rBs b (r.take (k + 1)) && rB1 (.round b) (r.drop (k + 1))) = true then .rt (.bool true) else .nx [some (.tuple [.str "round", ssD b]), some (rowD r), none, none, none, none, none, none, none]) := by
      have e : (e2 (eC (.int 1)) (e2 (e1 (eVar 1) dLen) (eC (.int 1)) dAddA) dRng2) [some (.tuple [.str "round", ssD b]), some (rowD r), none, none, none, none, none, none, none] = some (rints 1 r.length) := by
        rw [e2_ev, e2_ev, e1_ev, eVar_ev, eC_ev, List.getD_cons_succ, List.getD_cons_zero, Option.bind_some, Option.bind_some, row_len, Option.bind_some, Option.bind_some, dAddA_int, Option.bind_some]
        exact rng_row2 r hr
      rw [fFor_ev, e, rint_map1]
      exact hl
    rw [rB1_round b r e0]
    generalize ((List.range r.length).any fun k => rBs b (r.take (k + 1)) && rB1 (.round b) (r.drop (k + 1))) = B at q3 ⊢
    refine run_of' ?_
    show f_law_step_goes rg rs [some (.tuple [.str "round", ssD b]), some (rowD r), none, none, none, none, none, none, none] = _
    have c1 : ∀ (w : Str) (f : Rho → Option Fl), (("round" : Str) == w) = false → fIf (e2 (e2 (eVar 0) (eC (.int 0)) dIx) (eC (.str w)) dEq) f fNil [some (.tuple [.str "round", ssD b]), some (rowD r), none, none, none, none, none, none, none] = some (.nx [some (.tuple [.str "round", ssD b]), some (rowD r), none, none, none, none, none, none, none]) := fun w f hw => by
      simp [dEq_str, hw]
    have c2 : (e2 (e2 (eVar 0) (eC (.int 0)) dIx) (eC (.str "round")) dEq) [some (.tuple [.str "round", ssD b]), some (rowD r), none, none, none, none, none, none, none] = some true := by
      simp [dEq_str]
    have c3 : fIf (e2 (eVar 1) (eTup aNil) dEq) (fRet (eC (.bool true))) fNil [some (.tuple [.str "round", ssD b]), some (rowD r), none, none, none, none, none, none, none] = some (.nx [some (.tuple [.str "round", ssD b]), some (rowD r), none, none, none, none, none, none, none]) := by
      simp [row_nil, e0]
    unfold f_law_step_goes
    rw [fSeq_ev, c1 _ _ s_rt, Option.bind_some, fThen_nx, fSeq_ev, c1 _ _ s_rc, Option.bind_some, fThen_nx, fSeq_ev, fIf_ev, c2, Option.bind_some, if_pos rfl, fSeq_ev, c3, Option.bind_some, fThen_nx, fSeq_ev, q3]
    cases B <;> rfl
theorem spl_len : ∀ (r : Row) (acc : List (Row × Row)), (spl acc r).length = acc.length * 2 ^ r.length
  | [], acc => by simp [spl]
  | l :: r, acc => by
    show (spl _ r).length = _
    rw [spl_len r, List.length_cons, Nat.pow_succ]
    have : ∀ a : List (Row × Row), ((a.map fun p : Row × Row => [(p.1 ++ [l], p.2), (p.1, p.2 ++ [l])]).flatten).length = a.length * 2 := by
      intro a
      induction a with
      | nil => rfl
      | cons p a ih => rw [List.map_cons, List.flatten_cons, List.length_append, ih, List.length_cons]; simp; omega
    rw [this, Nat.mul_assoc, Nat.mul_comm 2]
def ppD (p : Row × Row) : PyData := .tuple [rowD p.1, rowD p.2]
theorem ppD_add (p : Row) (l : Lt) (h : p.length < 1000) : dAddA (rowD p) (.tuple [ltD l]) = some (rowD (p ++ [l])) := by
  unfold rowD
  rw [dAddA_tup, if_pos (by rw [List.length_map, sl]; simp; omega), List.map_append]; rfl
theorem spl_in {rg rs : List PyData → Option PyData} {x0 x1 x2 : Option PyData} (l : Lt) : ∀ (ps acc : List (Row × Row)), (∀ p ∈ ps, p.1.length < 1000 ∧ p.2.length < 1000) → acc.length + 2 * ps.length ≤ 1000 →
    forGo (g2 4 5) (b_law_step_goes_2 rg rs) [4, 5] (ps.map ppD) [x0, x1, x2, some (ltD l), none, none, none, some (.list (acc.map ppD)), none] = some (.nx [x0, x1, x2, some (ltD l), none, none, none, some (.list ((acc ++ (ps.map fun p => [(p.1 ++ [l], p.2), (p.1, p.2 ++ [l])]).flatten).map ppD)), none])
  | [], acc, _, _ => by rw [List.map_nil, List.map_nil, List.flatten_nil, List.append_nil]; rfl
  | p :: ps, acc, h, hl => by
    obtain ⟨h1, h2⟩ := h p (by simp)
    rw [List.length_cons] at hl
    have ih := spl_in (rg := rg) (rs := rs) (x0 := x0) (x1 := x1) (x2 := x2) l ps (acc ++ [(p.1 ++ [l], p.2), (p.1, p.2 ++ [l])]) (fun q hq => h q (by simp [hq])) (by simp; omega)
    have a1 := ppD_add p.1 l h1
    have a2 := ppD_add p.2 l h2
    have body : b_law_step_goes_2 rg rs [x0, x1, x2, some (ltD l), some (rowD p.1), some (rowD p.2), none, some (.list (acc.map ppD)), none] = some (.nx [x0, x1, x2, some (ltD l), some (rowD p.1), some (rowD p.2), none, some (.list ((acc ++ [(p.1 ++ [l], p.2), (p.1, p.2 ++ [l])]).map ppD)), none]) := by
      have hz : (acc.map ppD).length + 2 ≤ sizeLine := by rw [List.length_map, sl]; omega
      rw [List.map_append]
      generalize acc.map ppD = Z at hz ⊢
      simp [b_law_step_goes_2, a1, a2, hz, ppD]
    rw [List.map_cons, List.map_cons, List.flatten_cons, ← List.append_assoc]
    unfold forGo
    have ht : g2 4 5 (ppD p) [x0, x1, x2, some (ltD l), none, none, none, some (.list (acc.map ppD)), none] = some [x0, x1, x2, some (ltD l), some (rowD p.1), some (rowD p.2), none, some (.list (acc.map ppD)), none] := rfl
    rw [ht, Option.bind_some, body]
    exact ih
theorem spl_lens {r : Row} {p : Row × Row} (h : p ∈ spl [([], [])] r) : p.1.length + p.2.length = r.length := shuf_len (spl_shuf.mp h)
theorem sgoes_both {rg rs : List PyData → Option PyData} {a b : Steps} {r : Row} (hr : r.length ≤ 3) (h : ∀ p ∈ spl [([], [])] r, rg [ssD a, rowD p.1] = some (.bool (rBs a p.1)) ∧ rg [ssD b, rowD p.2] = some (.bool (rBs b p.2))) :
    runF 9 (f_law_step_goes rg rs) [sD (.both a b), rowD r] = some (.bool (rB1 (.both a b) r)) := by
  rw [rB1_both, sD_both]
  have hsp : forGo (g1 3) (b_law_step_goes_3 rg rs) [3, 4, 5, 7] (r.map ltD) [some (.tuple [.str "both", ssD a, ssD b]), some (rowD r), some (.list ((spl [([], [])] []).map ppD)), none, none, none, none, none, none] = some (.nx [some (.tuple [.str "both", ssD a, ssD b]), some (rowD r), some (.list ((spl [([], [])] r).map ppD)), none, none, none, none, none, none]) :=
    forGo_map (e := ltD) (fun pre => [some (.tuple [.str "both", ssD a, ssD b]), some (rowD r), some (.list ((spl [([], [])] pre).map ppD)), none, none, none, none, none, none]) r fun pre l post hx => by
      have hpl : pre.length ≤ 3 := by rw [hx, List.length_append] at hr; omega
      have hsl := spl_len pre [([], [])]
      have h2 : 2 ^ pre.length ≤ 2 ^ 3 := Nat.pow_le_pow_right (by decide) hpl
      have hi := spl_in (rg := rg) (rs := rs) (x0 := some (.tuple [.str "both", ssD a, ssD b])) (x1 := some (rowD r)) (x2 := some (.list ((spl [([], [])] pre).map ppD))) l (spl [([], [])] pre) [] (fun p hp => by have := spl_lens hp; exact ⟨by omega, by omega⟩) (by rw [List.length_nil, hsl, List.length_singleton]; omega)
      refine ⟨_, [some (.tuple [.str "both", ssD a, ssD b]), some (rowD r), some (.list ((spl [([], [])] (pre ++ [l])).map ppD)), some (ltD l), none, none, none, some (.list ((spl [([], [])] (pre ++ [l])).map ppD)), none], rfl, .inl ?_, rfl⟩
      have e : spl [([], [])] (pre ++ [l]) = ((spl [([], [])] pre).map fun p => [(p.1 ++ [l], p.2), (p.1, p.2 ++ [l])]).flatten := by
        unfold spl; rw [List.foldl_append]; rfl
      rw [e]
      show b_law_step_goes_3 rg rs [some (.tuple [.str "both", ssD a, ssD b]), some (rowD r), some (.list ((spl [([], [])] pre).map ppD)), some (ltD l), none, none, none, none, none] = _
      unfold b_law_step_goes_3
      have q1 : fSet 7 (eL (eLst aNil)) [some (.tuple [.str "both", ssD a, ssD b]), some (rowD r), some (.list ((spl [([], [])] pre).map ppD)), some (ltD l), none, none, none, none, none] = some (.nx [some (.tuple [.str "both", ssD a, ssD b]), some (rowD r), some (.list ((spl [([], [])] pre).map ppD)), some (ltD l), none, none, none, some (.list []), none]) := rfl
      rw [fSeq_ev, q1, Option.bind_some, fThen_nx, fSeq_ev]
      have q2 : fFor (e1 (eVar 2) dWalk) (g2 4 5) [4, 5] (b_law_step_goes_2 rg rs) [some (.tuple [.str "both", ssD a, ssD b]), some (rowD r), some (.list ((spl [([], [])] pre).map ppD)), some (ltD l), none, none, none, some (.list []), none] = some (.nx [some (.tuple [.str "both", ssD a, ssD b]), some (rowD r), some (.list ((spl [([], [])] pre).map ppD)), some (ltD l), none, none, none, some (.list ((((spl [([], [])] pre).map fun p => [(p.1 ++ [l], p.2), (p.1, p.2 ++ [l])]).flatten).map ppD)), none]) := hi
      rw [q2]; rfl
  have hl : forGo (g2 4 5) (b_law_step_goes_4 rg rs) [4, 5] ((spl [([], [])] r).map ppD) [some (.tuple [.str "both", ssD a, ssD b]), some (rowD r), some (.list ((spl [([], [])] r).map ppD)), none, none, none, none, none, none] = _ := forGo_any (e := ppD) (d := .bool true) (fun p => rBs a p.1 && rBs b p.2) (spl [([], [])] r) fun p hp => by
    obtain ⟨g1, g2⟩ := h p hp
    refine ⟨_, [some (.tuple [.str "both", ssD a, ssD b]), some (rowD r), some (.list ((spl [([], [])] r).map ppD)), none, some (rowD p.1), some (rowD p.2), none, none, none], rfl, rfl, ?_⟩
    show b_law_step_goes_4 rg rs [some (.tuple [.str "both", ssD a, ssD b]), some (rowD r), some (.list ((spl [([], [])] r).map ppD)), none, some (rowD p.1), some (rowD p.2), none, none, none] = _
    generalize some (PyData.list ((spl [([], [])] r).map ppD)) = Z
    simp [b_law_step_goes_4, g1, g2]
    cases rBs a p.1 <;> cases rBs b p.2 <;> simp
  have q1 : fSet 2 (eL (eLst (aCons (eTup (aCons (eTup aNil) (aCons (eTup aNil) aNil))) aNil))) [some (.tuple [.str "both", ssD a, ssD b]), some (rowD r), none, none, none, none, none, none, none] = some (.nx [some (.tuple [.str "both", ssD a, ssD b]), some (rowD r), some (.list ((spl [([], [])] []).map ppD)), none, none, none, none, none, none]) := rfl
  have q2 : fFor (e1 (eVar 1) dWalk) (g1 3) [3, 4, 5, 7] (b_law_step_goes_3 rg rs) [some (.tuple [.str "both", ssD a, ssD b]), some (rowD r), some (.list ((spl [([], [])] []).map ppD)), none, none, none, none, none, none] = _ := hsp
  have q3 : fFor (e1 (eVar 2) dWalk) (g2 4 5) [4, 5] (b_law_step_goes_4 rg rs) [some (.tuple [.str "both", ssD a, ssD b]), some (rowD r), some (.list ((spl [([], [])] r).map ppD)), none, none, none, none, none, none] = _ := hl
  refine run_of' ?_
  show f_law_step_goes rg rs [some (.tuple [.str "both", ssD a, ssD b]), some (rowD r), none, none, none, none, none, none, none] = _
  have c1 : ∀ (w : Str) (f : Rho → Option Fl), (("both" : Str) == w) = false → fIf (e2 (e2 (eVar 0) (eC (.int 0)) dIx) (eC (.str w)) dEq) f fNil [some (.tuple [.str "both", ssD a, ssD b]), some (rowD r), none, none, none, none, none, none, none] = some (.nx [some (.tuple [.str "both", ssD a, ssD b]), some (rowD r), none, none, none, none, none, none, none]) := fun w f hw => by
    simp [dEq_str, hw]
  unfold f_law_step_goes
  rw [fSeq_ev, c1 _ _ s_bt, Option.bind_some, fThen_nx, fSeq_ev, c1 _ _ s_bc, Option.bind_some, fThen_nx, fSeq_ev, c1 _ _ s_br, Option.bind_some, fThen_nx, fSeq_ev, q1, Option.bind_some, fThen_nx, fSeq_ev, q2, Option.bind_some, fThen_nx, fSeq_ev, q3]
  cases (spl [([], [])] r).any fun p => rBs a p.1 && rBs b p.2 <;> rfl
/-! ### the law's word of what goes, with its depth -/
theorem goes_len {d : Nat} (S : ∀ x, WB d x → ∀ r : Row, r.length ≤ 3 → ∀ n, 6 * d + 1 ≤ n → m_law_step_goes n [sD x, rowD r] = some (.bool (rB1 x r))) (hd20 : d ≤ 20) : ∀ s : Steps, (∀ x ∈ s, WB d x) → ∀ r : Row, r.length ≤ 3 → ∀ n, 6 * d + 1 + s.length ≤ n → m_law_goes n [ssD s, rowD r] = some (.bool (rBs s r)) := by
  intro s
  induction s with
  | nil =>
    intro _ r hr n hn
    obtain ⟨n, rfl⟩ : ∃ m, n = m + 1 := ⟨n - 1, by omega⟩
    rw [u_law_goes]
    exact goes_body (by decide) hr fun x t h => by cases h
  | cons x t ih =>
    intro hw r hr n hn
    obtain ⟨n, rfl⟩ : ∃ m, n = m + 1 := ⟨n - 1, by omega⟩
    rw [List.length_cons] at hn
    rw [u_law_goes]
    refine goes_body (deps_le.mpr fun y hy => Nat.le_trans (hw y hy).dep hd20) hr fun x' t' h => ?_
    injection h with e1 e2
    subst e1 e2
    exact ⟨fun k => S x (hw x (by simp)) _ (by rw [List.length_take]; omega) n (by omega), fun k => ih (fun y hy => hw y (by simp [hy])) _ (by rw [List.length_drop]; omega) n (by omega)⟩
theorem goes_all : ∀ d, d ≤ 20 → ∀ x, WB d x → ∀ r : Row, r.length ≤ 3 → ∀ n, 6 * d + 1 ≤ n → m_law_step_goes n [sD x, rowD r] = some (.bool (rB1 x r))
  | d, _, .tell a b w, _, r, hr, n, hn => by
    obtain ⟨n, rfl⟩ : ∃ m, n = m + 1 := ⟨n - 1, by omega⟩
    rw [u_law_step_goes]
    exact sgoes_tell
  | d + 1, h20, .choice bs, hw, r, hr, n, hn => by
    have G := goes_len (goes_all d (by omega)) (by omega)
    unfold WB at hw
    obtain ⟨n, rfl⟩ : ∃ m, n = m + 1 := ⟨n - 1, by omega⟩
    rw [u_law_step_goes]
    exact sgoes_choice (fun b hb => deps_le.mpr fun y hy => Nat.le_trans ((hw.2 b hb).2 y hy).dep (by omega)) fun b hb => G b (hw.2 b hb).2 r hr n (by have := (hw.2 b hb).1; omega)
  | d + 1, h20, .both s t, hw, r, hr, n, hn => by
    have G := goes_len (goes_all d (by omega)) (by omega)
    unfold WB at hw
    obtain ⟨n, rfl⟩ : ∃ m, n = m + 1 := ⟨n - 1, by omega⟩
    rw [u_law_step_goes]
    refine sgoes_both hr fun p hp => ?_
    have := spl_lens hp
    exact ⟨G s hw.1.2 p.1 (by omega) n (by have := hw.1.1; omega), G t hw.2.2 p.2 (by omega) n (by have := hw.2.1; omega)⟩
  | d + 1, h20, .round s, hw, r, hr, n, hn => by
    have G := goes_len (goes_all d (by omega)) (by omega)
    unfold WB at hw
    have go : ∀ (m : Nat) (r : Row), r.length = m → m ≤ 3 → ∀ n, 6 * d + 4 + m ≤ n → m_law_step_goes n [sD (.round s), rowD r] = some (.bool (rB1 (.round s) r)) := by
      intro m
      induction m using Nat.strongRecOn with
      | _ m ih =>
        intro r hm h3 n hn
        obtain ⟨n, rfl⟩ : ∃ k, n = k + 1 := ⟨n - 1, by omega⟩
        rw [u_law_step_goes]
        refine sgoes_round (by omega) (fun k => G s hw.2 _ (by rw [List.length_take]; omega) n (by have := hw.1; omega)) fun hne k => ?_
        have hpos := List.length_pos_iff.mpr hne
        exact ih (r.drop (k + 1)).length (by rw [List.length_drop]; omega) _ rfl (by rw [List.length_drop]; omega) n (by rw [List.length_drop]; omega)
    exact go r.length r rfl hr n (by omega)
  | 0, _, .choice bs, h, _, _, _, _ => by unfold WB at h; exact h.elim
  | 0, _, .round bs, h, _, _, _, _ => by unfold WB at h; exact h.elim
  | 0, _, .both _ _, h, _, _, _, _ => by unfold WB at h; exact h.elim
theorem goes_top {s : Steps} (hl : s.length ≤ 2) (hw : ∀ x ∈ s, WB 2 x) {r : Row} (hr : r.length ≤ 3) : m_law_goes fu_law_goes [ssD s, rowD r] = some (.bool (rBs s r)) := goes_len (goes_all 2 (by decide)) (by decide) s hw r hr fu_law_goes (by
  have : fu_law_goes = 30 := rfl
  omega)
/-! ### all rows of few letters -/
def rwl (ls : List Lt) : Nat → List Row
  | 0 => [[]]
  | n + 1 => ((rwl ls n).map fun r => ls.map fun l => r ++ [l]).flatten
def rwa (ls : List Lt) : Nat → List Row
  | 0 => [[]]
  | n + 1 => rwa ls n ++ rwl ls (n + 1)
theorem rwl_mem {ls : List Lt} : ∀ {n : Nat} {r : Row}, r ∈ rwl ls n ↔ r.length = n ∧ ∀ l ∈ r, l ∈ ls
  | 0, r => by
    unfold rwl
    rw [List.mem_singleton]
    constructor
    · rintro rfl; exact ⟨rfl, fun l hl => by cases hl⟩
    · exact fun h => List.length_eq_zero_iff.mp h.1
  | n + 1, r => by
    unfold rwl
    rw [List.mem_flatten]
    constructor
    · rintro ⟨q, hq, hr⟩
      obtain ⟨r0, h0, rfl⟩ := List.mem_map.mp hq
      obtain ⟨l, hl, rfl⟩ := List.mem_map.mp hr
      have := rwl_mem.mp h0
      refine ⟨by rw [List.length_append, this.1]; rfl, fun x hx => ?_⟩
      rcases List.mem_append.mp hx with hx | hx
      · exact this.2 x hx
      · rw [List.mem_singleton.mp hx]; exact hl
    · rintro ⟨h1, h2⟩
      obtain ⟨r0, l, rfl⟩ : ∃ r0 l, r = r0 ++ [l] := ⟨r.dropLast, r.getLast (by intro z; rw [z] at h1; cases h1), (List.dropLast_concat_getLast _).symm⟩
      rw [List.length_append] at h1
      exact ⟨_, List.mem_map_of_mem (rwl_mem.mpr ⟨by simp at h1; omega, fun x hx => h2 x (by simp [hx])⟩), List.mem_map_of_mem (h2 l (by simp))⟩
theorem rwa_mem {ls : List Lt} : ∀ {n : Nat} {r : Row}, r ∈ rwa ls n ↔ r.length ≤ n ∧ ∀ l ∈ r, l ∈ ls
  | 0, r => by
    have := rwl_mem (ls := ls) (n := 0) (r := r)
    unfold rwl at this
    unfold rwa
    rw [this]
    constructor
    · exact fun h => ⟨by omega, h.2⟩
    · exact fun h => ⟨by omega, h.2⟩
  | n + 1, r => by
    unfold rwa
    rw [List.mem_append, rwa_mem, rwl_mem]
    constructor
    · rintro (⟨h1, h2⟩ | ⟨h1, h2⟩)
      · exact ⟨by omega, h2⟩
      · exact ⟨by omega, h2⟩
    · rintro ⟨h1, h2⟩
      by_cases e : r.length = n + 1
      · exact .inr ⟨e, h2⟩
      · exact .inl ⟨by omega, h2⟩
theorem rwl_nodup {ls : List Lt} (h : ls.Nodup) : ∀ n, (rwl ls n).Nodup
  | 0 => by simp [rwl]
  | n + 1 => by
    unfold rwl
    refine flat_nodup (rwl_nodup h n) (fun r _ => nodup_map (fun h => (snoc_inj h).2) h) fun a _ b _ x ha hb => ?_
    obtain ⟨l, _, rfl⟩ := List.mem_map.mp ha
    obtain ⟨m, _, e⟩ := List.mem_map.mp hb
    exact (snoc_inj e).1.symm
theorem rwa_nodup {ls : List Lt} (h : ls.Nodup) : ∀ n, (rwa ls n).Nodup
  | 0 => by simp [rwa]
  | n + 1 => by
    unfold rwa
    rw [List.nodup_append]
    refine ⟨rwa_nodup h n, rwl_nodup h _, fun a ha b hb e => ?_⟩
    subst e
    have h1 := (rwa_mem.mp ha).1
    have h2 := (rwl_mem.mp hb).1
    omega
theorem rwl_len (ls : List Lt) : ∀ n, (rwl ls n).length = ls.length ^ n
  | 0 => rfl
  | n + 1 => by
    unfold rwl
    have : ∀ q : List Row, ((q.map fun r => ls.map fun l => r ++ [l]).flatten).length = q.length * ls.length := by
      intro q
      induction q with
      | nil => simp
      | cons r q ih => rw [List.map_cons, List.flatten_cons, List.length_append, ih, List.length_map, List.length_cons, Nat.add_mul]; omega
    rw [this, rwl_len ls n, Nat.pow_succ]
theorem row_add (r : Row) (l : Lt) (h : r.length < 1000) : dAddA (rowD r) (.tuple [ltD l]) = some (rowD (r ++ [l])) := ppD_add r l h
theorem rows_in {x1 x2 x3 x4 : Option PyData} {ls : List Lt} (hls : ls.length ≤ 5) : ∀ (rs acc : List Row), (∀ r ∈ rs, r.length < 1000) → acc.length + rs.length * 5 ≤ 100000 →
    forGo (g1 6) b_law_rows_1 [6] (rs.map rowD) [some (.list (ls.map ltD)), x1, x2, x3, x4, some (.list (acc.map rowD)), none, none] = some (.nx [some (.list (ls.map ltD)), x1, x2, x3, x4, some (.list ((acc ++ (rs.map fun r => ls.map fun l => r ++ [l]).flatten).map rowD)), none, none])
  | [], acc, _, _ => by rw [List.map_nil, List.map_nil, List.flatten_nil, List.append_nil]; rfl
  | r :: rs, acc, h, hl => by
    rw [List.length_cons, Nat.add_mul] at hl
    have ih := rows_in (x1 := x1) (x2 := x2) (x3 := x3) (x4 := x4) hls rs (acc ++ ls.map fun l => r ++ [l]) (fun q hq => h q (by simp [hq])) (by rw [List.length_append, List.length_map]; omega)
    have hr := h r (by simp)
    have hlc : lcGo (g1 7) tYs e_law_rows_1 [some (.list (ls.map ltD)), x1, x2, x3, x4, some (.list (acc.map rowD)), some (rowD r), none] (ls.map ltD) = some (ls.map fun l => rowD (r ++ [l])) := lcGo_map (fun l => rowD (r ++ [l])) ls fun l _ => ⟨_, rfl, by
      have := row_add r l hr
      simp [e_law_rows_1, this]⟩
    have body : b_law_rows_1 [some (.list (ls.map ltD)), x1, x2, x3, x4, some (.list (acc.map rowD)), some (rowD r), none] = some (.nx [some (.list (ls.map ltD)), x1, x2, x3, x4, some (.list ((acc ++ ls.map fun l => r ++ [l]).map rowD)), some (rowD r), none]) := by
      have hz : (acc.map rowD).length + (ls.map fun l => rowD (r ++ [l])).length ≤ sizeLine := by rw [List.length_map, List.length_map, sl]; omega
      have e : (ls.map fun l => r ++ [l]).map rowD = ls.map fun l => rowD (r ++ [l]) := by rw [List.map_map]; rfl
      rw [List.map_append, e]
      generalize acc.map rowD = Z at hz hlc ⊢
      rw [List.length_map] at hz
      simp [b_law_rows_1, hlc, hz]
    rw [List.map_cons, List.map_cons, List.flatten_cons, ← List.append_assoc]
    unfold forGo
    rw [g1_ev]
    simp only [Option.bind_some, List.set_cons_succ, List.set_cons_zero, body]
    exact ih
theorem rows_out {ls : List Lt} (hls : ls.length ≤ 5) {x1 : Option PyData} (n : Nat) (hn : n ≤ 3) : ∀ (k m : Nat), m + k = n →
    forGo (g1 4) b_law_rows_2 [4, 5, 6] (rints m k) [some (.list (ls.map ltD)), x1, some (.list ((rwa ls m).map rowD)), some (.list ((rwl ls m).map rowD)), none, none, none, none] = some (.nx [some (.list (ls.map ltD)), x1, some (.list ((rwa ls n).map rowD)), some (.list ((rwl ls n).map rowD)), none, none, none, none])
  | 0, m, h => by
    have : m = n := by omega
    subst this
    rfl
  | k + 1, m, h => by
    have ih := rows_out hls (x1 := x1) n hn k (m + 1) (by omega)
    have l5 : ∀ i, i ≤ 3 → (rwl ls i).length ≤ 125 := fun i hi => by
      rw [rwl_len]
      exact Nat.le_trans (Nat.pow_le_pow_left hls i) (Nat.le_trans (Nat.pow_le_pow_right (by decide) hi) (by decide))
    have la : ∀ i, i ≤ 3 → (rwa ls i).length ≤ 1000 := fun i hi => by
      have h1 : (rwl ls (0 + 1)).length ≤ 125 := l5 1 (by decide)
      have h2 : (rwl ls (1 + 1)).length ≤ 125 := l5 2 (by decide)
      have h3 : (rwl ls (2 + 1)).length ≤ 125 := l5 3 (by decide)
      have : i = 0 ∨ i = 1 ∨ i = 2 ∨ i = 3 := by omega
      rcases this with rfl | rfl | rfl | rfl <;> simp only [rwa, List.length_append, List.length_singleton] <;> omega
    have hin := rows_in (x1 := x1) (x2 := some (.list ((rwa ls m).map rowD))) (x3 := some (.list ((rwl ls m).map rowD))) (x4 := some (.int (m : Nat))) hls (rwl ls m) [] (fun r hr => by have := (rwl_mem.mp hr).1; omega) (by have := l5 m (by omega); rw [List.length_nil]; omega)
    have body : b_law_rows_2 [some (.list (ls.map ltD)), x1, some (.list ((rwa ls m).map rowD)), some (.list ((rwl ls m).map rowD)), some (.int (m : Nat)), none, none, none] = some (.nx [some (.list (ls.map ltD)), x1, some (.list ((rwa ls (m + 1)).map rowD)), some (.list ((rwl ls (m + 1)).map rowD)), some (.int (m : Nat)), some (.list ((rwl ls (m + 1)).map rowD)), none, none]) := by
      unfold b_law_rows_2
      have q1 : fSet 5 (eL (eLst aNil)) [some (.list (ls.map ltD)), x1, some (.list ((rwa ls m).map rowD)), some (.list ((rwl ls m).map rowD)), some (.int (m : Nat)), none, none, none] = some (.nx [some (.list (ls.map ltD)), x1, some (.list ((rwa ls m).map rowD)), some (.list ((rwl ls m).map rowD)), some (.int (m : Nat)), some (.list []), none, none]) := rfl
      have q2 : fFor (TF.e1 (eVar 3) dWalk) (g1 6) [6] b_law_rows_1 [some (.list (ls.map ltD)), x1, some (.list ((rwa ls m).map rowD)), some (.list ((rwl ls m).map rowD)), some (.int (m : Nat)), some (.list []), none, none] = some (.nx [some (.list (ls.map ltD)), x1, some (.list ((rwa ls m).map rowD)), some (.list ((rwl ls m).map rowD)), some (.int (m : Nat)), some (.list ((rwl ls (m + 1)).map rowD)), none, none]) := hin
      have q3 : fSet 3 (eVar 5) [some (.list (ls.map ltD)), x1, some (.list ((rwa ls m).map rowD)), some (.list ((rwl ls m).map rowD)), some (.int (m : Nat)), some (.list ((rwl ls (m + 1)).map rowD)), none, none] = some (.nx [some (.list (ls.map ltD)), x1, some (.list ((rwa ls m).map rowD)), some (.list ((rwl ls (m + 1)).map rowD)), some (.int (m : Nat)), some (.list ((rwl ls (m + 1)).map rowD)), none, none]) := rfl
      have hz : ((rwa ls m).map rowD).length + ((rwl ls (m + 1)).map rowD).length ≤ sizeLine := by
        have h1 := la m (by omega)
        have h2 := l5 (m + 1) (by omega)
        rw [List.length_map, List.length_map, sl]; omega
      have q4 : fSet 2 (TF.e2 (eVar 2) (eVar 3) dAddA) [some (.list (ls.map ltD)), x1, some (.list ((rwa ls m).map rowD)), some (.list ((rwl ls (m + 1)).map rowD)), some (.int (m : Nat)), some (.list ((rwl ls (m + 1)).map rowD)), none, none] = some (.nx [some (.list (ls.map ltD)), x1, some (.list ((rwa ls (m + 1)).map rowD)), some (.list ((rwl ls (m + 1)).map rowD)), some (.int (m : Nat)), some (.list ((rwl ls (m + 1)).map rowD)), none, none]) := by
        have e : (rwa ls (m + 1)).map rowD = (rwa ls m).map rowD ++ (rwl ls (m + 1)).map rowD := by rw [rwa, List.map_append]
        rw [e]
        generalize (rwa ls m).map rowD = A at hz ⊢
        generalize (rwl ls (m + 1)).map rowD = B at hz ⊢
        simp [hz]
      rw [fSeq_ev, q1, Option.bind_some, fThen_nx, fSeq_ev, q2, Option.bind_some, fThen_nx, fSeq_ev, q3, Option.bind_some, fThen_nx, q4]
    rw [rintsS]
    unfold forGo
    rw [g1_ev]
    simp only [Option.bind_some, List.set_cons_succ, List.set_cons_zero, body]
    exact ih
theorem rows_ok {ls : List Lt} (hls : ls.length ≤ 5) : m_law_rows [.list (ls.map ltD), .int 3] = some (.list ((rwa ls 3).map rowD)) := by
  have h := rows_out hls (x1 := some (.int 3)) 3 (by decide) 3 0 rfl
  refine run_of' ?_
  show f_law_rows [some (.list (ls.map ltD)), some (.int 3), none, none, none, none, none, none] = _
  have q1 : fSet 2 (eL (eLst (aCons (eTup aNil) aNil))) [some (.list (ls.map ltD)), some (.int 3), none, none, none, none, none, none] = some (.nx [some (.list (ls.map ltD)), some (.int 3), some (.list [.tuple []]), none, none, none, none, none]) := rfl
  have q2 : fSet 3 (eL (eLst (aCons (eTup aNil) aNil))) [some (.list (ls.map ltD)), some (.int 3), some (.list [.tuple []]), none, none, none, none, none] = some (.nx [some (.list (ls.map ltD)), some (.int 3), some (.list [.tuple []]), some (.list [.tuple []]), none, none, none, none]) := rfl
  have q3 : fFor (TF.e1 (eVar 1) dRng1) (g1 4) [4, 5, 6] b_law_rows_2 [some (.list (ls.map ltD)), some (.int 3), some (.list [.tuple []]), some (.list [.tuple []]), none, none, none, none] = some (.nx [some (.list (ls.map ltD)), some (.int 3), some (.list ((rwa ls 3).map rowD)), some (.list ((rwl ls 3).map rowD)), none, none, none, none]) := by
    have e : (TF.e1 (eVar 1) dRng1) [some (.list (ls.map ltD)), some (.int 3), some (.list [.tuple []]), some (.list [.tuple []]), none, none, none, none] = some (rints 0 3) := by
      rw [e1_ev, eVar_ev, List.getD_cons_succ, List.getD_cons_zero, Option.bind_some]
      exact rng_ok 2 (by decide)
    rw [fFor_ev, e]
    exact h
  unfold f_law_rows
  rw [fSeq_ev, q1, Option.bind_some, fThen_nx, fSeq_ev, q2, Option.bind_some, fThen_nx, fSeq_ev, q3]
  rfl
/-! ### letters of runs; sorted twice -/
theorem dIn_lt (x : Lt) (ls : List Lt) : dIn (ltD x) (.list (ls.map ltD)) = some (ls.any fun y => decide (y = x)) := by
  have h1 : pl (.list (ls.map ltD)) = true := pl_of (by
    rw [plain_lst]
    intro d hd
    obtain ⟨b, _, rfl⟩ := List.mem_map.mp hd
    exact ltD_plain b) (Nat.le_trans ((depth_lst (n := 1)).mpr fun d hd => by
    obtain ⟨b, hb, rfl⟩ := List.mem_map.mp hd
    exact ltD_depth b) (by decide))
  show (if pl (ltD x) = true ∧ pl (.list (ls.map ltD)) = true then some ((ls.map ltD).any fun z => PyData.eqv z (ltD x)) else none) = _
  rw [if_pos ⟨ltD_pl x, h1⟩, List.any_map]
  congr 2
  funext y
  have := dEq_ltD y x
  unfold dEq at this
  rw [if_pos ⟨ltD_pl y, ltD_pl x⟩] at this
  injection this
theorem any_mem (x : Lt) (ls : List Lt) : (ls.any fun y => decide (y = x)) = decide (x ∈ ls) := by
  rw [Bool.eq_iff_iff, List.any_eq_true, decide_eq_true_iff]
  constructor
  · rintro ⟨y, hy, e⟩
    exact of_decide_eq_true e ▸ hy
  · exact fun h => ⟨x, h, decide_eq_true rfl⟩
theorem dIn_lt' (x : Lt) (ls : List Lt) : dIn (ltD x) (.list (ls.map ltD)) = some (decide (x ∈ ls)) := by rw [dIn_lt, any_mem]
theorem shuf_mem {r s t : Row} (h : Shuf r s t) : ∀ l ∈ t, l ∈ r ∨ l ∈ s := by
  induction h with
  | nil => intro l hl; cases hl
  | left _ ih =>
    intro x hx
    rcases List.mem_cons.mp hx with rfl | hx
    · exact .inl (by simp)
    · exact (ih x hx).imp (fun z => by simp [z]) id
  | right _ ih =>
    intro x hx
    rcases List.mem_cons.mp hx with rfl | hx
    · exact .inr (by simp)
    · exact (ih x hx).imp id fun z => by simp [z]
theorem runs_lts_of {s : Steps} (h : ∀ x ∈ s, ∀ r, Run1 x r → ∀ l ∈ r, l ∈ lts1 x) : ∀ r, Runs s r → ∀ l ∈ r, l ∈ lts s := by
  induction s with
  | nil =>
    intro r hr l hl
    cases hr
    cases hl
  | cons x s ih =>
    intro r hr l hl
    cases hr with
    | cons h1 h2 =>
      rw [lts_cons]
      rcases List.mem_append.mp hl with hl | hl
      · exact List.mem_append_left _ (h x (by simp) _ h1 l hl)
      · exact List.mem_append_right _ (ih (fun y hy => h y (by simp [hy])) _ h2 l hl)
theorem run1_lts (x : TK.Step) : ∀ r, Run1 x r → ∀ l ∈ r, l ∈ lts1 x := by
  induction x using TK.Step.ind with
  | h1 a b w =>
    intro r hr l hl
    cases hr
    rw [lts1_tell]
    exact hl
  | h2 bs ih =>
    intro r hr l hl
    cases hr with
    | choice hb h =>
      rw [lts1_choice]
      exact List.mem_flatten.mpr ⟨_, List.mem_map_of_mem hb, runs_lts_of (ih _ hb) _ h l hl⟩
  | h3 s ih =>
    have go : ∀ (n : Nat) (r : Row), r.length ≤ n → Run1 (.round s) r → ∀ l ∈ r, l ∈ lts s := by
      intro n
      induction n with
      | zero =>
        intro r hn _ l hl
        rw [List.length_eq_zero_iff.mp (by omega : r.length = 0)] at hl
        cases hl
      | succ n ihn =>
        intro r hn hr l hl
        cases hr with
        | stop => cases hl
        | @more _ a q t h1 h2 =>
          rcases List.mem_append.mp hl with hl | hl
          · exact runs_lts_of ih _ h1 l hl
          · exact ihn t (by rw [List.length_append, List.length_cons] at hn; omega) h2 l hl
    intro r hr l hl
    rw [lts1_round]
    exact go r.length r (Nat.le_refl _) hr l hl
  | h4 s t ih1 ih2 =>
    intro r hr l hl
    rw [lts1_both]
    cases hr with
    | both h1 h2 h3 =>
      rcases shuf_mem h3 l hl with z | z
      · exact List.mem_append_left _ (runs_lts_of ih1 _ h1 l z)
      · exact List.mem_append_right _ (runs_lts_of ih2 _ h2 l z)
theorem runs_lts {s : Steps} : ∀ r : Row, Runs s r → ∀ l ∈ r, l ∈ lts s := runs_lts_of fun x _ => run1_lts x
theorem srt_pair {α : Type} (e : α → PyData) (l : List α) : (srt e l).Pairwise fun a b => PySem.W.dataLe false id (e a) (e b) = true := by
  have tot := PySem.W.sortLe_total (α := PyData) (PyProof.Rows.listOrd PyProof.Rows.itemOrd) false fun b => PySem.W.keyToks (id b)
  have h := PySem.W.sort_pairwise tot (l.map e)
  have h2 : ((srt e l).map e).Pairwise fun a b => PySem.W.dataLe false id a b = true := by
    rw [← srt_map]; exact h
  exact List.pairwise_map.mp h2
theorem srt_id {α : Type} {e : α → PyData} {l : List α} (h : l.Pairwise fun a b => PySem.W.dataLe false id (e a) (e b) = true) : srt e l = l := by
  unfold srt
  exact List.mergeSort_of_pairwise h
/-- a part of what is sorted is sorted -/
theorem srt_filter {α : Type} {e : α → PyData} (he : ∀ {x y}, e x = e y → x = y) (hn : ∀ x, ntb (e x) = true) {l m : List α} (p : α → Bool) (n1 : l.Nodup) (n2 : m.Nodup) (h : ∀ x, (x ∈ l ∧ p x = true) ↔ x ∈ m) : (srt e l).filter p = srt e m := by
  have h1 : ((srt e l).filter p).Pairwise fun a b => PySem.W.dataLe false id (e a) (e b) = true := (srt_pair e l).filter p
  rw [← srt_id h1]
  refine srt_same he hn ((srt_nodup.mpr n1).filter p) n2 fun x => ?_
  rw [List.mem_filter, srt_mem]
  exact h x
theorem letters_in1 {r : List PyData → Option PyData} {x0 x2 : Option PyData} (acc : List Lt) (bs : List Steps) (hr : ∀ b ∈ bs, r [ssD b] = some (.list ((lts b).map ltD))) (hl : acc.length + (bs.map lts).flatten.length ≤ 16777216) :
    forGo (g1 3) (b_law_letters_1 r) [3] (bs.map ssD) [x0, some (.list (acc.map ltD)), x2, none] = some (.nx [x0, some (.list ((acc ++ (bs.map lts).flatten).map ltD)), x2, none]) := by
  have h := forGo_map (e := ssD) (tg := g1 3) (body := b_law_letters_1 r) (ks := [3]) (fun pre => [x0, some (.list ((acc ++ (pre.map lts).flatten).map ltD)), x2, none]) bs (fun pre x post hx => by
    have hlen : acc.length + (pre.map lts).flatten.length + (lts x).length ≤ sizeLine := by
      rw [sl]
      rw [hx] at hl
      simp only [List.map_append, List.flatten_append, List.length_append, List.map_cons, List.flatten_cons] at hl
      omega
    have hrx := hr x (by rw [hx]; simp)
    refine ⟨_, [x0, some (.list ((acc ++ ((pre ++ [x]).map lts).flatten).map ltD)), x2, some (ssD x)], rfl, .inl ?_, rfl⟩
    have e : ((acc ++ (pre.map lts).flatten).map ltD).length + ((lts x).map ltD).length ≤ sizeLine := by
      rw [List.length_map, List.length_map, List.length_append]; exact hlen
    simp [b_law_letters_1, hrx]
    simp at e
    simp [e])
  rw [List.map_nil, List.flatten_nil, List.append_nil] at h
  exact h
theorem letters_body {r : List PyData → Option PyData} {n : Nat} (hr : ∀ s : Steps, deps s < n → hgts s ≤ 100000 → r [ssD s] = some (.list ((lts s).map ltD))) (s : Steps) (hd : deps s ≤ n) (hh : hgts s ≤ 100000) :
    runF 4 (f_law_letters r) [ssD s] = some (.list ((lts s).map ltD)) := by
  have h := forGo_map (e := sD) (tg := g1 2) (body := b_law_letters_2 r) (ks := [2, 3]) (fun pre => [some (ssD s), some (.list ((lts pre).map ltD)), none, none]) s (fun pre x post hx => by
    have hl : (lts pre).length + (lts1 x).length ≤ 100000 := by
      have := lts_len s
      rw [hx, lts_append, lts_cons] at this
      simp only [List.length_append] at this
      rw [← hx] at this
      omega
    have hdx : dep x ≤ n := deps_le.mp hd x (by rw [hx]; simp)
    have hgx : hgt x ≤ 100000 := Nat.le_trans (hgts_mem (by rw [hx]; simp)) hh
    have hap : lts (pre ++ [x]) = lts pre ++ lts1 x := by rw [lts_append, lts_cons, lts_nil, List.append_nil]
    refine ⟨_, [some (ssD s), some (.list ((lts (pre ++ [x])).map ltD)), some (sD x), none], rfl, .inl ?_, rfl⟩
    rw [hap]
    cases x with
    | tell a b w =>
      rw [lts1_tell] at hl ⊢
      have hl2 : (lts pre).length < sizeLine := by rw [sl]; simp at hl; omega
      rw [sD_tell]
      simp [b_law_letters_2, dEq_str, cutD_1_, hl2]
      rfl
    | choice bs =>
      rw [lts1_choice] at hl ⊢
      rw [hgt_choice] at hgx
      rw [sD_choice]
      simp [b_law_letters_2, dEq_str, s_ct]
      have := letters_in1 (x0 := some (ssD s)) (x2 := some (.tuple [.str "choice", .tuple (bs.map ssD)])) (lts pre) bs (fun b hb => hr b (by have := dep_choice_le (n := n - 1) (by rw [dep_choice] at hdx ⊢; omega) b hb; rw [dep_choice] at hdx; omega) (by have := hgts_memB hb; omega)) (by omega)
      simpa using this
    | round l =>
      rw [lts1_round] at hl ⊢
      rw [hgt_round] at hgx
      rw [dep_round] at hdx
      rw [sD_round]
      simp [b_law_letters_2, dEq_str, s_rt, s_rc, cutD_1_]
      have := letters_in1 (x0 := some (ssD s)) (x2 := some (.tuple [.str "round", ssD l])) (lts pre) [l] (fun b hb => by simp at hb; subst hb; exact hr b (by omega) (by omega)) (by simp; omega)
      simpa using this
    | both l m =>
      rw [lts1_both] at hl ⊢
      rw [hgt_both] at hgx
      rw [dep_both] at hdx
      rw [sD_both]
      simp [b_law_letters_2, dEq_str, s_bt, s_bc, cutD_1_]
      have := letters_in1 (x0 := some (ssD s)) (x2 := some (.tuple [.str "both", ssD l, ssD m])) (lts pre) [l, m] (fun b hb => by
        simp at hb
        rcases hb with rfl | rfl
        · exact hr _ (by omega) (by omega)
        · exact hr _ (by omega) (by omega)) (by simp at hl ⊢; omega)
      simpa using this)
  have h' : forGo (g1 2) (b_law_letters_2 r) [2, 3] (s.map sD) [some (ssD s), some (.list []), none, none] = some (.nx [some (ssD s), some (.list ((lts s).map ltD)), none, none]) := h
  simp [runF, f_law_letters, dWalk_ss, h']
theorem law_letters_ok : ∀ (n : Nat) (s : Steps), deps s ≤ n → hgts s ≤ 100000 → m_law_letters (n + 1) [ssD s] = some (.list ((lts s).map ltD))
  | 0, s, hd, hh => by rw [u_law_letters]; exact letters_body (n := 0) (fun s h => by omega) s hd hh
  | n + 1, s, hd, hh => by rw [u_law_letters]; exact letters_body (n := n + 1) (fun s h hh => law_letters_ok n s (by omega) hh) s hd hh
theorem letters_top {s : Steps} (hd : deps s ≤ 20) (hh : hgts s ≤ 100000) : m_law_letters fu_law_letters [ssD s] = some (.list ((lts s).map ltD)) := law_letters_ok 29 s (by omega) hh
/-! a body, one statement at a time -/
theorem seq_nx {g h : Rho → Option Fl} {ρ ρ' : Rho} {r : Option Fl} (h1 : g ρ = some (.nx ρ')) (h2 : h ρ' = r) : fSeq g h ρ = r := by
  rw [fSeq_ev, h1]; exact h2
theorem seq_if {t : Rho → Option Bool} {g h : Rho → Option Fl} {ρ : Rho} {r : Option Fl} (h1 : t ρ = some false) (h2 : h ρ = r) : fSeq (fIf t g fNil) h ρ = r := seq_nx (by rw [fIf_ev, h1]; rfl) h2
theorem or_ff {s t : Rho → Option Bool} {ρ : Rho} (h1 : s ρ = some false) (h2 : t ρ = some false) : TF.tOr s t ρ = some false := by rw [tOr_ev, h1]; exact h2
theorem run_of {n : Nat} {f : Rho → Option Fl} {ds : List PyData} {d : PyData} (h : f (ds.map some ++ List.replicate (n - ds.length) none) = some (.rt d)) : runF n f ds = some d := by
  unfold runF; rw [h]; rfl
theorem call1 {m : List PyData → Option PyData} {f : Rho → Option PyData} {ρ : Rho} {x d : PyData} (h1 : f ρ = some x) (h2 : m [x] = some d) : eCall 1 m (aCons f aNil) ρ = some d := by
  rw [eCall_ev, aCons_ev, h1]; exact h2
theorem call2 {m : List PyData → Option PyData} {f g : Rho → Option PyData} {ρ : Rho} {x y d : PyData} (h1 : f ρ = some x) (h3 : g ρ = some y) (h2 : m [x, y] = some d) : eCall 2 m (aCons f (aCons g aNil)) ρ = some d := by
  rw [eCall_ev, aCons_ev, h1, Option.bind_some, aCons_ev, h3]; exact h2
theorem e2_of {α : Type} {f g : Rho → Option PyData} {k : PyData → PyData → Option α} {ρ : Rho} {x y : PyData} {d : Option α} (h1 : f ρ = some x) (h2 : g ρ = some y) (h3 : k x y = d) : TF.e2 f g k ρ = d := by
  rw [e2_ev, h1, Option.bind_some, h2]; exact h3
theorem e1_of {α : Type} {f : Rho → Option PyData} {k : PyData → Option α} {ρ : Rho} {x : PyData} {d : Option α} (h1 : f ρ = some x) (h3 : k x = d) : e1 f k ρ = d := by
  rw [e1_ev, h1]; exact h3
theorem tup1 {f : Rho → Option PyData} {ρ : Rho} {x : PyData} (h1 : f ρ = some x) : eTup (aCons f aNil) ρ = some (.tuple [x]) := by
  rw [eTup_ev, aCons_ev, h1]; rfl
theorem tup2 {f g : Rho → Option PyData} {ρ : Rho} {x y : PyData} (h1 : f ρ = some x) (h2 : g ρ = some y) : eTup (aCons f (aCons g aNil)) ρ = some (.tuple [x, y]) := by
  rw [eTup_ev, aCons_ev, h1, Option.bind_some, aCons_ev, h2]; rfl
/-! ### the law k10 -/
theorem pl_lts (ls : List Lt) : pl (.list (ls.map ltD)) = true := pl_of (by
  rw [plain_lst]
  intro d hd
  obtain ⟨b, _, rfl⟩ := List.mem_map.mp hd
  exact ltD_plain b) (Nat.le_trans ((depth_lst (n := 1)).mpr fun d hd => by
  obtain ⟨b, hb, rfl⟩ := List.mem_map.mp hd
  exact ltD_depth b) (by decide))
theorem eq_nil_lt (ls : List Lt) : dEq (.list (ls.map ltD)) (.list []) = some ls.isEmpty := by
  unfold dEq
  rw [if_pos ⟨pl_lts ls, rfl⟩]
  cases ls with
  | nil => rfl
  | cons b bs => simp [PyData.eqv, PyData.eqvAll]
theorem rows_self (rs : List Row) : dEq (.list (rs.map rowD)) (.list (rs.map rowD)) = some true := dEq_self (by
  rw [nb_lst]
  intro d hd
  obtain ⟨b, _, rfl⟩ := List.mem_map.mp hd
  exact rowD_nb b) (pl_of (by
  rw [plain_lst]
  intro d hd
  obtain ⟨b, _, rfl⟩ := List.mem_map.mp hd
  have := rowD_pl b
  unfold pl at this
  rw [Bool.and_eq_true] at this
  exact this.1) (Nat.le_trans ((depth_lst (n := 2)).mpr fun d hd => by
  obtain ⟨b, hb, rfl⟩ := List.mem_map.mp hd
  unfold rowD
  exact (depth_tup (n := 1)).mpr fun d hd => by
    obtain ⟨l, _, rfl⟩ := List.mem_map.mp hd
    exact ltD_depth l) (by decide)))
theorem dNotIn_lt (x : Lt) (ls : List Lt) : dNotIn (ltD x) (.list (ls.map ltD)) = some (!decide (x ∈ ls)) := by
  unfold dNotIn
  rw [dIn_lt']; rfl
def exl : Lt := ("a", "a", "none")
noncomputable def exs (s : Steps) : List Lt := [exl].filter fun l => !decide (l ∈ lts s)
theorem exs_mem {s : Steps} {l : Lt} : l ∈ exs s → l ∉ lts s := fun h => by
  have := (List.mem_filter.mp h).2
  simpa using this
noncomputable def f4 (s : Steps) : List Lt := (lso s).take 4
theorem f4_mem {s : Steps} {l : Lt} (h : l ∈ f4 s) : l ∈ lts s := lso_mem.mp (List.mem_of_mem_take h)
theorem dNe_bool (b : Bool) : dNe (.bool b) (.bool b) = some false := by cases b <;> rfl
theorem law_loop {s : Steps} (g : Gr s) (hl : s.length ≤ 2) (hw : ∀ x ∈ s, WB 2 x) {h0 : PyData} {x0 x2 x3 : Option PyData} (rs : List Row) (hr : ∀ r ∈ rs, r.length ≤ 3) (hz : rs.length ≤ 1000000) :
    forGo (g1 5) b_law_1 [5, 8, 10] (rs.map rowD) [x0, some (.tuple [h0, ssD s]), x2, x3, some (.list []), none, none, none, none, none, none] = some (.nx [x0, some (.tuple [h0, ssD s]), x2, x3, some (.list ((rs.filter (rBs s)).map rowD)), none, none, none, none, none, none]) := by
  have h := forGo_map (e := rowD) (tg := g1 5) (body := b_law_1) (ks := [5, 8, 10]) (fun pre => [x0, some (.tuple [h0, ssD s]), x2, x3, some (.list ((pre.filter (rBs s)).map rowD)), none, none, none, none, none, none]) rs (fun pre r post hx => by
    have hi := is_run_ok g.toGd (h0 := h0) r
    have hg := goes_top hl hw (hr r (by rw [hx]; simp))
    have hb : isR s r = rBs s r := by rw [Bool.eq_iff_iff, isR_iff, rBs_iff]
    rw [hb] at hi
    have hlen : ((pre.filter (rBs s)).map rowD).length < sizeLine := by
      have := List.length_filter_le (rBs s) pre
      rw [hx, List.length_append] at hz
      rw [List.length_map, sl]; omega
    have hne := dNe_bool (rBs s r)
    refine ⟨_, [x0, some (.tuple [h0, ssD s]), x2, x3, some (.list (((pre ++ [r]).filter (rBs s)).map rowD)), some (rowD r), none, none, some (.bool (rBs s r)), none, some (.bool (rBs s r))], rfl, .inl ?_, rfl⟩
    have e : ((pre ++ [r]).filter (rBs s)).map rowD = (pre.filter (rBs s)).map rowD ++ if rBs s r = true then [rowD r] else [] := by
      rw [List.filter_append, List.map_append]
      cases hc : rBs s r <;> simp [hc]
    rw [e]
    generalize (pre.filter (rBs s)).map rowD = Z at hlen ⊢
    have hisa : dIsa "bool" (.bool (rBs s r)) = some (.bool true) := rfl
    generalize rBs s r = B at hi hg hne hisa ⊢
    simp [b_law_1, hi, hg, hne, hisa]
    cases B <;> simp [hlen])
  exact h
theorem law_true (ns : List Int) : m_law [scr ns] = some (.bool true) := by
  obtain ⟨r0, e0, p0, _⟩ := mixed_ok ns 0 (by decide)
  obtain ⟨r1, e1, p1, _⟩ := mixed_ok ns 1 (by decide)
  obtain ⟨r2, e2', p2, _⟩ := mixed_ok ns 2 (by decide)
  have e0 : m_law_mixed [scr ns, .int 0] = some (.int r0) := e0
  have e1 : m_law_mixed [scr ns, .int 1] = some (.int r1) := e1
  have e2' : m_law_mixed [scr ns, .int 2] = some (.int r2) := e2'
  obtain ⟨m0, m1⟩ := mod_lt' r1 (b := 3) (by decide)
  obtain ⟨d, hd⟩ := nat_of m0
  obtain ⟨k0, k1⟩ := mod_lt' r2 (b := 4) (by decide)
  obtain ⟨lg, hlg⟩ := nat_of k0
  obtain ⟨hs, s, et, hok, hlen, hws⟩ := talk_ok r0 2 d p0 (by decide) (by decide) (by omega)
  have hl2 : s.length ≤ 2 := by omega
  have g : Gr s := gr_talk hok (d := d) (by omega) hl2 hws
  have hw : ∀ x ∈ s, WB 2 x := fun x hx => (WB.of (hws x hx)).le (by omega)
  have hlt := letters_top (s := s) (by have := g.dep; omega) (by have := g.hgt; omega)
  have hset := dSetS_lts (s := s) (by have := g.lt; omega)
  have hruns := runs_ok g (h0 := hsD hs) lg (by omega)
  refine run_of ?_
  show f_law [some (scr ns), none, none, none, none, none, none, none, none, none, none] = _
  refine seq_nx (ρ' := [some (scr ns), some (.tuple [hsD hs, ssD s]), none, none, none, none, none, none, none, none, none]) ?_ ?_
  · simp [e0, e1, hd, et]
  refine seq_nx (ρ' := [some (scr ns), some (.tuple [hsD hs, ssD s]), some (.list ((f4 s).map ltD)), none, none, none, none, none, none, none, none]) ?_ ?_
  · have hc : TF.cutD ((lso s).map ltD) none (some 4) = (f4 s).map ltD := by
      have := cutD_to ((lso s).map ltD) 4
      rw [← List.map_take] at this
      exact this
    simp [hlt, hset, hc]
  refine seq_nx (ρ' := [some (scr ns), some (.tuple [hsD hs, ssD s]), some (.list ((f4 s).map ltD)), some (.list ((exs s).map ltD)), none, none, none, none, none, none, none]) ?_ ?_
  · have hlc : lcGo (g1 9) t_law_1 e_law_1 [some (scr ns), some (.tuple [hsD hs, ssD s]), some (.list ((f4 s).map ltD)), none, none, none, none, none, none, none, none] ([exl].map ltD) = some ((exs s).map ltD) := lcGo_filter (fun l => !decide (l ∈ lts s)) ltD [exl] fun l _ => by
      refine ⟨_, rfl, ?_, fun _ => rfl⟩
      have hn := dNotIn_lt l (lts s)
      show t_law_1 [some (scr ns), some (.tuple [hsD hs, ssD s]), some (.list ((f4 s).map ltD)), none, none, none, none, none, none, some (ltD l), none] = _
      unfold t_law_1
      refine e2_of rfl (call1 rfl hlt) hn
    have hlc' : lcGo (g1 9) t_law_1 e_law_1 [some (scr ns), some (.tuple [hsD hs, ssD s]), some (.list ((f4 s).map ltD)), none, none, none, none, none, none, none, none] [.tuple [.str "a", .str "a", .str "none"]] = some ((exs s).map ltD) := hlc
    simp [hlc']
  refine seq_nx (ρ' := [some (scr ns), some (.tuple [hsD hs, ssD s]), some (.list ((f4 s).map ltD)), some (.list ((exs s).map ltD)), some (.list []), none, none, none, none, none, none]) rfl ?_
  have hfl : (f4 s).length ≤ 4 := List.length_take_le _ _
  have hel : (exs s).length ≤ 1 := List.length_filter_le _ _
  have hrows := rows_ok (ls := f4 s ++ exs s) (by rw [List.length_append]; omega)
  have hwlen : (rwa (f4 s ++ exs s) 3).length ≤ 1000000 := by
    have l5 : ∀ i, i ≤ 3 → (rwl (f4 s ++ exs s) i).length ≤ 125 := fun i hi => by
      rw [rwl_len]
      exact Nat.le_trans (Nat.pow_le_pow_left (show (f4 s ++ exs s).length ≤ 5 by rw [List.length_append]; omega) i) (Nat.le_trans (Nat.pow_le_pow_right (by decide) hi) (by decide))
    have h1 : (rwl (f4 s ++ exs s) (0 + 1)).length ≤ 125 := l5 1 (by decide)
    have h2 : (rwl (f4 s ++ exs s) (1 + 1)).length ≤ 125 := l5 2 (by decide)
    have h3 : (rwl (f4 s ++ exs s) (2 + 1)).length ≤ 125 := l5 3 (by decide)
    simp only [rwa, List.length_append, List.length_singleton]
    omega
  generalize hW : rwa (f4 s ++ exs s) 3 = W at hrows hwlen
  have hloop := law_loop g hl2 hw (h0 := hsD hs) (x0 := some (scr ns)) (x2 := some (.list ((f4 s).map ltD))) (x3 := some (.list ((exs s).map ltD))) W (fun r hr => by rw [← hW] at hr; exact (rwa_mem.mp hr).1) hwlen
  refine seq_nx (ρ' := [some (scr ns), some (.tuple [hsD hs, ssD s]), some (.list ((f4 s).map ltD)), some (.list ((exs s).map ltD)), some (.list ((W.filter (rBs s)).map rowD)), none, none, none, none, none, none]) ?_ ?_
  · rw [fFor_ev, e1_ev]
    have hadd : dAddA (.list ((f4 s).map ltD)) (.list ((exs s).map ltD)) = some (.list ((f4 s ++ exs s).map ltD)) := by
      rw [dAddA_lst, List.length_map, List.length_map, if_pos (by rw [sl]; omega), List.map_append]
    have hc : eCall 2 m_law_rows (aCons (TF.e2 (eVar 2) (eVar 3) dAddA) (aCons (eC (.int 3)) aNil)) [some (scr ns), some (.tuple [hsD hs, ssD s]), some (.list ((f4 s).map ltD)), some (.list ((exs s).map ltD)), some (.list []), none, none, none, none, none, none] = some (.list (W.map rowD)) := call2 (e2_of rfl rfl hadd) rfl hrows
    rw [hc, Option.bind_some, dWalk_lst, Option.bind_some]
    exact hloop
  refine seq_nx (ρ' := [some (scr ns), some (.tuple [hsD hs, ssD s]), some (.list ((f4 s).map ltD)), some (.list ((exs s).map ltD)), some (.list ((W.filter (rBs s)).map rowD)), none, some (.int lg), none, none, none, none]) ?_ ?_
  · simp [e2', hlg]
  refine seq_nx (ρ' := [some (scr ns), some (.tuple [hsD hs, ssD s]), some (.list ((f4 s).map ltD)), some (.list ((exs s).map ltD)), some (.list ((W.filter (rBs s)).map rowD)), none, some (.int lg), some (.list ((srt rowD ((W.filter (rBs s)).filter fun r => decide (r.length ≤ lg))).map rowD)), none, none, none]) ?_ ?_
  · have hlc : lcGo (g1 5) t_law_2 e_law_2 [some (scr ns), some (.tuple [hsD hs, ssD s]), some (.list ((f4 s).map ltD)), some (.list ((exs s).map ltD)), some (.list ((W.filter (rBs s)).map rowD)), none, some (.int lg), none, none, none, none] ((W.filter (rBs s)).map rowD) = some (((W.filter (rBs s)).filter fun r => decide (r.length ≤ lg)).map rowD) := lcGo_filter (fun r : Row => decide (r.length ≤ lg)) rowD (W.filter (rBs s)) fun r _ => by
      refine ⟨[some (scr ns), some (.tuple [hsD hs, ssD s]), some (.list ((f4 s).map ltD)), some (.list ((exs s).map ltD)), some (.list ((W.filter (rBs s)).map rowD)), some (rowD r), some (.int lg), none, none, none, none], rfl, ?_, fun _ => rfl⟩
      unfold t_law_2
      refine e2_of (x := .int (r.length : Int)) (y := .int (lg : Int)) (e1_of (x := rowD r) rfl (row_len r)) rfl ?_
      show dLe (.int (r.length : Int)) (.int (lg : Int)) = _
      rw [dLe_int]
      have : ((r.length : Int) ≤ (lg : Int)) ↔ r.length ≤ lg := by omega
      exact congrArg some (decide_eq_decide.mpr this)
    have hs2 : dSortedB (.list (((W.filter (rBs s)).filter fun r => decide (r.length ≤ lg)).map rowD)) = some ((srt rowD ((W.filter (rBs s)).filter fun r => decide (r.length ≤ lg))).map rowD) := by
      unfold dSortedB
      dsimp only
      rw [if_pos (srtB_rowD _), srt_map]
    have hwk : (TF.e1 (eVar 4) dWalk) [some (scr ns), some (.tuple [hsD hs, ssD s]), some (.list ((f4 s).map ltD)), some (.list ((exs s).map ltD)), some (.list ((W.filter (rBs s)).map rowD)), none, some (.int lg), none, none, none, none] = some ((W.filter (rBs s)).map rowD) := rfl
    have hq : (TF.e1 (eL (eLc (TF.e1 (eVar 4) dWalk) (g1 5) t_law_2 e_law_2)) dSortedB) [some (scr ns), some (.tuple [hsD hs, ssD s]), some (.list ((f4 s).map ltD)), some (.list ((exs s).map ltD)), some (.list ((W.filter (rBs s)).map rowD)), none, some (.int lg), none, none, none, none] = some ((srt rowD ((W.filter (rBs s)).filter fun r => decide (r.length ≤ lg))).map rowD) := e1_of (x := .list (((W.filter (rBs s)).filter fun r => decide (r.length ≤ lg)).map rowD)) (by rw [eL_ev, eLc_ev, hwk, Option.bind_some, hlc]; rfl) hs2
    generalize ((srt rowD ((W.filter (rBs s)).filter fun r => decide (r.length ≤ lg))).map rowD) = Z at hq ⊢
    rw [fSet_ev, eL_ev, hq]; rfl
  have hfin : (rws s lg).filter (fun r => r.all fun l => decide (l ∈ f4 s)) = srt rowD ((W.filter (rBs s)).filter fun r => decide (r.length ≤ lg)) := by
    have hn5 : (f4 s ++ exs s).Nodup := by
      rw [List.nodup_append]
      refine ⟨(List.take_sublist 4 (lso s)).nodup (lso_nodup s), (by simp : [exl].Nodup).filter _, fun a ha b hb e => ?_⟩
      subst e
      exact exs_mem hb (f4_mem ha)
    have hWn : W.Nodup := hW ▸ rwa_nodup hn5 3
    have key : ∀ r : Row, (r ∈ whl s (lg + 1) ∧ (r.all fun l => decide (l ∈ f4 s)) = true) ↔ r ∈ ((W.filter (rBs s)).filter fun r => decide (r.length ≤ lg)) := fun r => by
      have h1 : r ∈ whl s (lg + 1) ↔ r.length ≤ lg ∧ Runs s r := by
        have := rws_mem (s0 := s) (n := lg) (r := r) runs_lts
        unfold rws at this
        rwa [srt_mem] at this
      rw [h1, List.mem_filter, List.mem_filter, ← hW, rwa_mem, rBs_iff, List.all_eq_true, decide_eq_true_iff]
      constructor
      · rintro ⟨⟨a, b⟩, c⟩
        exact ⟨⟨⟨by omega, fun l hl => List.mem_append_left _ (of_decide_eq_true (c l hl))⟩, b⟩, a⟩
      · rintro ⟨⟨⟨_, c⟩, b⟩, a⟩
        refine ⟨⟨a, b⟩, fun l hl => decide_eq_true ?_⟩
        rcases List.mem_append.mp (c l hl) with z | z
        · exact z
        · exact absurd (runs_lts r b l hl) (exs_mem z)
    exact srt_filter rowD_inj rowD_ntb _ (whl_nodup s _) ((hWn.filter _).filter _) key
  refine seq_nx (ρ' := [some (scr ns), some (.tuple [hsD hs, ssD s]), some (.list ((f4 s).map ltD)), some (.list ((exs s).map ltD)), some (.list ((W.filter (rBs s)).map rowD)), none, some (.int lg), some (.list ((srt rowD ((W.filter (rBs s)).filter fun r => decide (r.length ≤ lg))).map rowD)), some (.list ((srt rowD ((W.filter (rBs s)).filter fun r => decide (r.length ≤ lg))).map rowD)), none, none]) ?_ ?_
  · rw [← hfin]
    generalize hZ : some (PyData.list (((rws s lg).filter (fun r => r.all fun l => decide (l ∈ f4 s))).map rowD)) = Z7
    generalize some (PyData.list ((W.filter (rBs s)).map rowD)) = Z4 at *
    generalize some (PyData.list ((exs s).map ltD)) = Z3 at *
    have hlc : lcGo (g1 5) t_law_4 e_law_2 [some (scr ns), some (.tuple [hsD hs, ssD s]), some (.list ((f4 s).map ltD)), Z3, Z4, none, some (.int lg), Z7, none, none, none] ((rws s lg).map rowD) = some (((rws s lg).filter (fun r => r.all fun l => decide (l ∈ f4 s))).map rowD) := lcGo_filter (fun r : Row => r.all fun l => decide (l ∈ f4 s)) rowD (rws s lg) fun r _ => by
      refine ⟨_, rfl, ?_, fun _ => rfl⟩
      have hin : lcGo (g1 9) t_law_3 e_law_1 [some (scr ns), some (.tuple [hsD hs, ssD s]), some (.list ((f4 s).map ltD)), Z3, Z4, some (rowD r), some (.int lg), Z7, none, none, none] (r.map ltD) = some ((r.filter fun l => !decide (l ∈ f4 s)).map ltD) := lcGo_filter (fun l : Lt => !decide (l ∈ f4 s)) ltD r fun l _ => ⟨_, rfl, e2_of rfl rfl (dNotIn_lt l (f4 s)), fun _ => rfl⟩
      have hq := eq_nil_lt (r.filter fun l => !decide (l ∈ f4 s))
      have hb : (r.filter fun l => !decide (l ∈ f4 s)).isEmpty = r.all fun l => decide (l ∈ f4 s) := by
        rw [Bool.eq_iff_iff]
        simp
      rw [hb] at hq
      show t_law_4 [some (scr ns), some (.tuple [hsD hs, ssD s]), some (.list ((f4 s).map ltD)), Z3, Z4, some (rowD r), some (.int lg), Z7, none, none, none] = _
      unfold t_law_4
      refine e2_of (x := .list ((r.filter fun l => !decide (l ∈ f4 s)).map ltD)) ?_ rfl hq
      rw [eL_ev, eLc_ev]
      have hwk : (TF.e1 (eVar 5) dWalk) [some (scr ns), some (.tuple [hsD hs, ssD s]), some (.list ((f4 s).map ltD)), Z3, Z4, some (rowD r), some (.int lg), Z7, none, none, none] = some (r.map ltD) := rfl
      rw [hwk, Option.bind_some, hin]; rfl
    have hc : eCall 2 m_runs (aCons (eVar 1) (aCons (eVar 6) aNil)) [some (scr ns), some (.tuple [hsD hs, ssD s]), some (.list ((f4 s).map ltD)), Z3, Z4, none, some (.int lg), Z7, none, none, none] = some (.tuple ((rws s lg).map rowD)) := call2 rfl rfl hruns
    rw [fOwn_ev, eLc_ev, e1_ev, hc, Option.bind_some]
    have hwk : dWalk (.tuple ((rws s lg).map rowD)) = some ((rws s lg).map rowD) := rfl
    rw [hwk, Option.bind_some, hlc]
    subst hZ
    rfl
  · have := rows_self (srt rowD ((W.filter (rBs s)).filter fun r => decide (r.length ≤ lg)))
    generalize ((srt rowD ((W.filter (rBs s)).filter fun r => decide (r.length ≤ lg))).map rowD) = Z at this ⊢
    simp [this]
end Lr

/-! W_lanerows_k10_runs.lean -/
set_option Elab.async false
set_option linter.all false
set_option maxRecDepth 100000
set_option maxHeartbeats 4000000
namespace Lr
open PySem PySem.Spec PyProof.Rows L2 TF

def top (i : Nat) : Stmt := PySem.Challenge.pw_lanerows_k10_runs.main.body.getD i (.Pass ⟨0, 0, 0, 0⟩)
section
variable {P : Program} {w : World} {K : PySem.W.Frag} {mg : Str → Option Value} {base : Heap} {f : Addr} {fd : FuncData} {k : Nat}
abbrev s_parts_of : Stmt := top 1
abbrev N_parts_of : List Str := ["step"]
theorem sc_parts_of : FnScope N_parts_of ["step"] (defScope s_parts_of) := ⟨rfl, rfl, rfl, by decide +kernel, rfl, by decide +kernel, by decide +kernel⟩
theorem ok_parts_of (F : FunD K "parts_of" "parts_of" (defArgs s_parts_of) (defBody s_parts_of) (defScope s_parts_of) [] [] f fd)  (g_parts_of : mg "parts_of" = some (.ref f))  : Callee P w K mg base (k + 1) "parts_of" 1 (runF 1 (f_parts_of)) :=
  fn_C (OK := OwnK.dflt) (o' := []) F sc_parts_of rfl g_parts_of (F.bindsN fun _ _ _ _ _ _ us hl => match us, hl with | [_], _ => rfl) fun cdv A outer s H E hr =>
    letI OKi : OwnK := OwnK.dflt
    (svs_cons (o1 := []) (sv_if (et_cmp (opF_eq (hu64 hr)) (EV.r (ev_ix opF_ix (er_var 0 (pv 0)) (EV.r ev_int) (fun _ _ => rfl))) (EV.r ev_str) (nomark _)) (svs_one (sv_ret (ev_ix opF_ix (er_var 0 (pv 0)) (EV.r ev_int) (fun _ _ => rfl)))) svs_nil)
    (svs_cons (o1 := []) (sv_if (et_cmp (opF_eq (hu64 hr)) (EV.r (ev_ix opF_ix (er_var 0 (pv 0)) (EV.r ev_int) (fun _ _ => rfl))) (EV.r ev_str) (nomark _)) (svs_one (sv_ret (ev_tup ea_nil))) svs_nil)
    (svs_one (sv_ret (ev_slice opF_sl (er_var 0 (pv 0)) (eo_some (EV.r ev_int)) eo_none)))))
abbrev s_letters_in : Stmt := top 2
abbrev N_letters_in : List Str := ["steps", "found", "step", "part"]
theorem sc_letters_in : FnScope N_letters_in ["steps"] (defScope s_letters_in) := ⟨rfl, rfl, rfl, by decide +kernel, rfl, by decide +kernel, by decide +kernel⟩
theorem ok_letters_in {r_letters_in : List PyData → Option PyData} (F : FunD K "letters_in" "letters_in" (defArgs s_letters_in) (defBody s_letters_in) (defScope s_letters_in) [] [] f fd)  (g_letters_in : mg "letters_in" = some (.ref f)) (c_letters_in : Callee P w K mg base k "letters_in" 1 r_letters_in) (c_parts_of : Callee P w K mg base k "parts_of" 1 m_parts_of) : Callee P w K mg base (k + 1) "letters_in" 1 (runF 4 (f_letters_in r_letters_in)) :=
  fn_C (OK := OwnK.dflt) (o' := []) F sc_letters_in rfl g_letters_in (F.bindsN fun _ _ _ _ _ _ us hl => match us, hl with | [_], _ => rfl) fun cdv A outer s H E hr =>
    letI OKi : OwnK := OwnK.dflt
    (svs_cons (o1 := [1]) (sv_own 1 sc_letters_in.nd (en_lst ea_nil))
    (svs_cons (o1 := [1]) (sv_for [2, 3] rfl (wi_any (ev_var 0 (pv 0))) (tg_1 2 (pg_name (i := 2) sc_letters_in.nd rfl (Or.inl rfl))) (svs_cons (o1 := [1]) (sv_if (et_cmp (opF_eq (hu64 hr)) (EV.r (ev_ix opF_ix (er_var 2 (pv 2)) (EV.r ev_int) (fun _ _ => rfl))) (EV.r ev_str) (nomark _)) (svs_one (sv_append 1 (pv 1) (ev_slice opF_sl (er_var 2 (pv 2)) (eo_some (EV.r ev_int)) eo_none))) svs_nil)
    (svs_one (sv_for [3] rfl (wi_any (ev_fn c_parts_of hr (ea_cons (ev_var 2 (pv 2)) ea_nil))) (tg_1 3 (pg_name (i := 3) sc_letters_in.nd rfl (Or.inl rfl))) (svs_one (sv_extend 1 (pv 1) (ev_fn c_letters_in hr (ea_cons (ev_var 3 (pv 3)) ea_nil)))) PassesOwn.never))) PassesOwn.never)
    (svs_one (sv_drop [] (sv_ret (ev_var 1 (pv 1)))))))
abbrev s_can_stop : Stmt := top 4
abbrev N_can_stop : List Str := ["steps", "step", "word", "part"]
theorem sc_can_stop : FnScope N_can_stop ["steps"] (defScope s_can_stop) := ⟨rfl, rfl, rfl, by decide +kernel, rfl, by decide +kernel, by decide +kernel⟩
theorem ok_can_stop {r_can_stop : List PyData → Option PyData} (F : FunD K "can_stop" "can_stop" (defArgs s_can_stop) (defBody s_can_stop) (defScope s_can_stop) [] [] f fd)  (g_can_stop : mg "can_stop" = some (.ref f)) (c_can_stop : Callee P w K mg base k "can_stop" 1 r_can_stop) (z_any : mg "any" = none) : Callee P w K mg base (k + 1) "can_stop" 1 (runF 4 (f_can_stop r_can_stop)) :=
  fn_C (OK := OwnK.dflt) (o' := []) F sc_can_stop rfl g_can_stop (F.bindsN fun _ _ _ _ _ _ us hl => match us, hl with | [_], _ => rfl) fun cdv A outer s H E hr =>
    letI OKi : OwnK := OwnK.dflt
    (svs_cons (o1 := []) (sv_for [1, 2] rfl (wi_any (ev_var 0 (pv 0))) (tg_1 1 (pg_name (i := 1) sc_can_stop.nd rfl (Or.inl rfl))) (svs_cons (o1 := []) (sv_set 2 sc_can_stop.nd (ev_ix opF_ix (er_var 1 (pv 1)) (EV.r ev_int) (fun _ _ => rfl)))
    (svs_cons (o1 := []) (sv_if (et_cmp (opF_eq (hu64 hr)) (er_var 2 (pv 2)) (EV.r ev_str) (nomark _)) (svs_one (sv_ret ev_bl)) svs_nil)
    (svs_cons (o1 := []) (sv_if (PW.pt (ew_and (et_cmp (opF_eq (hu64 hr)) (er_var 2 (pv 2)) (EV.r ev_str) (nomark _)) (ew_and1 (et_not (et_val (EV.r (ev_cb1 (opF_any rfl) z_any (by decide +kernel) (EV.r (EN.v (en_lc (own := [("part", 3)]) rfl sc_can_stop.nd (wi_any (ev_ix opF_ix (er_var 1 (pv 1)) (EV.r ev_int) (fun _ _ => rfl))) (ct_1 3) (blkOk_by (N := N_can_stop) (sc := defScope s_can_stop) (by decide +kernel)) (fun _ _ _ _ _ => (pg_name (i := 3) sc_can_stop.nd rfl (Or.inl rfl))) (fun _ _ _ _ _ => ets_nil) (fun _ _ _ _ _ => (ev_fn c_can_stop hr (ea_cons (ev_var 3 (pv 3)) ea_nil))))))))))))) (svs_one (sv_ret ev_bl)) svs_nil)
    (svs_one (sv_if (PW.pt (ew_and (et_cmp (opF_eq (hu64 hr)) (er_var 2 (pv 2)) (EV.r ev_str) (nomark _)) (ew_and1 (et_not (PW.pt (ew_and (et_val (EV.r (ev_fn c_can_stop hr (ea_cons (ev_ix opF_ix (er_var 1 (pv 1)) (EV.r ev_int) (fun _ _ => rfl)) ea_nil)))) (ew_and1 (et_val (EV.r (ev_fn c_can_stop hr (ea_cons (ev_ix opF_ix (er_var 1 (pv 1)) (EV.r ev_int) (fun _ _ => rfl)) ea_nil))))))))))) (svs_one (sv_ret ev_bl)) svs_nil))))) PassesOwn.never)
    (svs_one (sv_ret ev_bl)))
abbrev s_behind_step : Stmt := top 5
abbrev N_behind_step : List Str := ["step", "letter", "word", "found", "part", "rest"]
theorem sc_behind_step : FnScope N_behind_step ["step", "letter"] (defScope s_behind_step) := ⟨rfl, rfl, rfl, by decide +kernel, rfl, by decide +kernel, by decide +kernel⟩
theorem ok_behind_step {r_behind_step : List PyData → Option PyData} {r_behind : List PyData → Option PyData} (F : FunD K "behind_step" "behind_step" (defArgs s_behind_step) (defBody s_behind_step) (defScope s_behind_step) [] [] f fd)  (g_behind_step : mg "behind_step" = some (.ref f)) (c_behind : Callee P w K mg base k "behind" 2 r_behind) (c_mixed : Callee P w K mg base k "mixed" 2 m_mixed) (z_int : mg "int" = none) : Callee P w K mg base (k + 1) "behind_step" 2 (runF 6 (f_behind_step r_behind_step r_behind)) :=
  fn_C (OK := OwnK.dflt) (o' := []) F sc_behind_step rfl g_behind_step (F.bindsN fun _ _ _ _ _ _ us hl => match us, hl with | [_, _], _ => rfl) fun cdv A outer s H E hr =>
    letI OKi : OwnK := OwnK.dflt
    (svs_cons (o1 := []) (sv_set 2 sc_behind_step.nd (ev_ix opF_ix (er_var 0 (pv 0)) (EV.r ev_int) (fun _ _ => rfl)))
    (svs_cons (o1 := []) (sv_if (et_cmp (opF_eq (hu64 hr)) (er_var 2 (pv 2)) (EV.r ev_str) (nomark _)) (svs_one (sv_ret (ev_bin opF_mulL (EV.r (EN.v (en_lst (ea_cons (ev_tup ea_nil) ea_nil)))) (EV.r (ev_ct1 opF_int z_int (by decide +kernel) (EV.r (ev_cmp (opF_eq (hu64 hr)) (EV.r (ev_slice opF_sl (er_var 0 (pv 0)) (eo_some (EV.r ev_int)) eo_none)) (er_var 1 (pv 1)) (nomark _)))))))) svs_nil)
    (svs_cons (o1 := []) (sv_if (et_cmp (opF_eq (hu64 hr)) (er_var 2 (pv 2)) (EV.r ev_str) (nomark _)) (svs_cons (o1 := [3]) (sv_own 3 sc_behind_step.nd (en_lst ea_nil))
    (svs_cons (o1 := [3]) (sv_for [4] rfl (wi_any (ev_ix opF_ix (er_var 0 (pv 0)) (EV.r ev_int) (fun _ _ => rfl))) (tg_1 4 (pg_name (i := 4) sc_behind_step.nd rfl (Or.inl rfl))) (svs_one (sv_extend 3 (pv 3) (ev_fn c_behind hr (ea_cons (ev_var 4 (pv 4)) (ea_cons (ev_var 1 (pv 1)) ea_nil))))) PassesOwn.never)
    (svs_one (sv_drop [] (sv_ret (ev_var 3 (pv 3))))))) svs_nil)
    (svs_cons (o1 := []) (sv_if (et_cmp (opF_eq (hu64 hr)) (er_var 2 (pv 2)) (EV.r ev_str) (nomark _)) (svs_one (sv_ret (EN.v (en_lc (own := [("rest", 5)]) rfl sc_behind_step.nd (wi_any (ev_fn c_behind hr (ea_cons (ev_ix opF_ix (er_var 0 (pv 0)) (EV.r ev_int) (fun _ _ => rfl)) (ea_cons (ev_var 1 (pv 1)) ea_nil)))) (ct_1 5) (blkOk_by (N := N_behind_step) (sc := defScope s_behind_step) (by decide +kernel)) (fun _ _ _ _ _ => (pg_name (i := 5) sc_behind_step.nd rfl (Or.inl rfl))) (fun _ _ _ _ _ => ets_nil) (fun _ _ _ _ _ => (ev_bin opF_addA (er_var 5 (pv 5)) (EV.r (ev_tup (ea_cons (ev_var 0 (pv 0)) ea_nil))))))))) svs_nil)
    (svs_cons (o1 := [3]) (sv_ownLc 3 (own := [("rest", 5)]) rfl sc_behind_step.nd (wi_any (ev_fn c_behind hr (ea_cons (ev_ix opF_ix (er_var 0 (pv 0)) (EV.r ev_int) (fun _ _ => rfl)) (ea_cons (ev_var 1 (pv 1)) ea_nil)))) (ct_1 5) (blkOk_by (N := N_behind_step) (sc := defScope s_behind_step) (by decide +kernel)) (fun _ _ _ _ _ => (pg_name (i := 5) sc_behind_step.nd rfl (Or.inl rfl))) (fun _ _ _ _ _ => ets_nil) (fun _ _ _ _ _ => (ev_fn c_mixed hr (ea_cons (ev_var 5 (pv 5)) (ea_cons (ev_ix opF_ix (er_var 0 (pv 0)) (EV.r ev_int) (fun _ _ => rfl)) ea_nil)))) (sw_true rfl rfl rfl (by decide +kernel)))
    (svs_one (sv_ret (EN.v (en_bin opF_addL (er_var 3 (pv 3)) (EV.r (EN.v (en_lc (own := [("rest", 5)]) rfl sc_behind_step.nd (wi_any (ev_fn c_behind hr (ea_cons (ev_ix opF_ix (er_var 0 (pv 0)) (EV.r ev_int) (fun _ _ => rfl)) (ea_cons (ev_var 1 (pv 1)) ea_nil)))) (ct_1 5) (blkOk_by (N := N_behind_step) (sc := defScope s_behind_step) (by decide +kernel)) (fun _ _ _ _ _ => (pg_name (i := 5) sc_behind_step.nd rfl (Or.inl rfl))) (fun _ _ _ _ _ => ets_nil) (fun _ _ _ _ _ => (ev_fn c_mixed hr (ea_cons (ev_ix opF_ix (er_var 0 (pv 0)) (EV.r ev_int) (fun _ _ => rfl)) (ea_cons (ev_var 5 (pv 5)) ea_nil))))))))))))))))
abbrev s_mixed : Stmt := top 6
abbrev N_mixed : List Str := ["one", "other"]
theorem sc_mixed : FnScope N_mixed ["one", "other"] (defScope s_mixed) := ⟨rfl, rfl, rfl, by decide +kernel, rfl, by decide +kernel, by decide +kernel⟩
theorem ok_mixed (F : FunD K "mixed" "mixed" (defArgs s_mixed) (defBody s_mixed) (defScope s_mixed) [] [] f fd)  (g_mixed : mg "mixed" = some (.ref f)) (z_len : mg "len" = none) : Callee P w K mg base (k + 1) "mixed" 2 (runF 2 (f_mixed)) :=
  fn_C (OK := OwnK.dflt) (o' := []) F sc_mixed rfl g_mixed (F.bindsN fun _ _ _ _ _ _ us hl => match us, hl with | [_, _], _ => rfl) fun cdv A outer s H E hr =>
    letI OKi : OwnK := OwnK.dflt
    (svs_cons (o1 := []) (sv_if (et_cmp (opF_eq (hu64 hr)) (EV.r (ev_cb1 opF_len z_len (by decide +kernel) (er_var 0 (pv 0)))) (EV.r ev_int) (nomark _)) (svs_one (sv_ret (ev_var 1 (pv 1)))) svs_nil)
    (svs_cons (o1 := []) (sv_if (et_cmp (opF_eq (hu64 hr)) (EV.r (ev_cb1 opF_len z_len (by decide +kernel) (er_var 1 (pv 1)))) (EV.r ev_int) (nomark _)) (svs_one (sv_ret (ev_var 0 (pv 0)))) svs_nil)
    (svs_one (sv_ret (ev_tup (ea_cons (ev_tup (ea_cons ev_str (ea_cons (ev_var 0 (pv 0)) (ea_cons (ev_var 1 (pv 1)) ea_nil)))) ea_nil))))))
abbrev s_behind : Stmt := top 7
abbrev N_behind : List Str := ["steps", "letter", "found", "at", "step", "rest"]
theorem sc_behind : FnScope N_behind ["steps", "letter"] (defScope s_behind) := ⟨rfl, rfl, rfl, by decide +kernel, rfl, by decide +kernel, by decide +kernel⟩
theorem ok_behind {r_behind_step : List PyData → Option PyData} {r_behind : List PyData → Option PyData} (F : FunD K "behind" "behind" (defArgs s_behind) (defBody s_behind) (defScope s_behind) [] [] f fd)  (g_behind : mg "behind" = some (.ref f)) (c_behind_step : Callee P w K mg base k "behind_step" 2 r_behind_step) (c_can_stop : Callee P w K mg base k "can_stop" 1 (m_can_stop fu_can_stop)) (z_enumerate : mg "enumerate" = none) (z_list : mg "list" = none) : Callee P w K mg base (k + 1) "behind" 2 (runF 6 (f_behind r_behind_step r_behind)) :=
  fn_C (OK := (mkA P w mg)) (o' := []) F sc_behind rfl g_behind (F.bindsN fun _ _ _ _ _ _ us hl => match us, hl with | [_, _], _ => rfl) fun cdv A outer s H E hr =>
    letI OKi : OwnK := (mkA P w mg)
    (svs_cons (o1 := [2]) (sv_dnew rfl (fun _ _ => trivial) 2 sc_behind.nd)
    (svs_cons (o1 := [2]) (sv_for [3, 4, 5] rfl (wi_enum z_enumerate (ev_var 0 (pv 0))) (tg_2 3 4 (pg_tup rfl (pgs_cons (pg_name (i := 3) sc_behind.nd rfl (Or.inl rfl)) (pgs_cons (pg_name (i := 4) sc_behind.nd rfl (Or.inl rfl)) pgs_nil)))) (svs_cons (o1 := [2]) (sv_for [5] rfl (wi_any (ev_fn c_behind_step hr (ea_cons (ev_var 4 (pv 4)) (ea_cons (ev_var 1 (pv 1)) ea_nil)))) (tg_1 5 (pg_name (i := 5) sc_behind.nd rfl (Or.inl rfl))) (svs_one (sv_dput rfl (fun _ _ => trivial) (hu64 hr) 2 (pv 2) (ev_bin opF_addA (er_var 5 (pv 5)) (EV.r (ev_slice opF_sl (er_var 0 (pv 0)) (eo_some (EV.r (ev_bin opF_addA (er_var 3 (pv 3)) (EV.r ev_int)))) eo_none))))) PassesOwn.never)
    (svs_one (sv_if (et_not (et_val (EV.r (ev_fn c_can_stop hr (ea_cons (ev_tup (ea_cons (ev_var 4 (pv 4)) ea_nil)) ea_nil))))) (svs_one (sv_ret (EN.v (en_dlist rfl rfl z_list 2 (pv 2))))) svs_nil))) PassesOwn.never)
    (svs_one (sv_ret (EN.v (en_dlist rfl rfl z_list 2 (pv 2)))))))
abbrev s_all_behind : Stmt := top 8
abbrev N_all_behind : List Str := ["states", "letter", "found", "steps", "rest"]
theorem sc_all_behind : FnScope N_all_behind ["states", "letter"] (defScope s_all_behind) := ⟨rfl, rfl, rfl, by decide +kernel, rfl, by decide +kernel, by decide +kernel⟩
theorem ok_all_behind (F : FunD K "all_behind" "all_behind" (defArgs s_all_behind) (defBody s_all_behind) (defScope s_all_behind) [] [] f fd)  (g_all_behind : mg "all_behind" = some (.ref f)) (c_behind : Callee P w K mg base k "behind" 2 (m_behind fu_behind_step)) (z_sorted : mg "sorted" = none) (z_str : mg "str" = none) (z_tuple : mg "tuple" = none) : CalleeG P w K mg base (k + 1) "all_behind" 2 (runF 5 (f_all_behind)) :=
  fn_CG (OK := (mkA P w mg)) (o' := []) F sc_all_behind rfl g_all_behind (F.bindsN fun _ _ _ _ _ _ us hl => match us, hl with | [_, _], _ => rfl) fun cdv A outer s H E hgd hr =>
    letI OKi : OwnK := (mkA P w mg)
    (svs_cons (o1 := [2]) (sv_dnew rfl (fun _ _ => trivial) 2 sc_all_behind.nd)
    (svs_cons (o1 := [2]) (sv_for [3, 4] rfl (wi_any (ev_var 0 (pv 0))) (tg_1 3 (pg_name (i := 3) sc_all_behind.nd rfl (Or.inl rfl))) (svs_one (sv_for [4] rfl (wi_any (ev_fn c_behind hr (ea_cons (ev_var 3 (pv 3)) (ea_cons (ev_var 1 (pv 1)) ea_nil)))) (tg_1 4 (pg_name (i := 4) sc_all_behind.nd rfl (Or.inl rfl))) (svs_one (sv_dput rfl (fun _ _ => trivial) (hu64 hr) 2 (pv 2) (ev_var 4 (pv 4)))) PassesOwn.never)) PassesOwn.never)
    (svs_one (sv_ret (ev_ct1 opF_tuple z_tuple (by decide +kernel) (EV.r (EN.v (en_sortedStr rfl rfl hgd (hu100 hr) z_sorted z_str 2 (pv 2)))))))))
abbrev s_gone : Stmt := top 9
abbrev N_gone : List Str := ["talk", "row", "states", "letter"]
theorem sc_gone : FnScope N_gone ["talk", "row"] (defScope s_gone) := ⟨rfl, rfl, rfl, by decide +kernel, rfl, by decide +kernel, by decide +kernel⟩
theorem ok_gone (F : FunD K "gone" "gone" (defArgs s_gone) (defBody s_gone) (defScope s_gone) [] [] f fd)  (g_gone : mg "gone" = some (.ref f)) (c_all_behind : CalleeG P w K mg base k "all_behind" 2 m_all_behind) : CalleeG P w K mg base (k + 1) "gone" 2 (runF 4 (f_gone)) :=
  fn_CG (OK := OwnK.dflt) (o' := []) F sc_gone rfl g_gone (F.bindsN fun _ _ _ _ _ _ us hl => match us, hl with | [_, _], _ => rfl) fun cdv A outer s H E hgd hr =>
    letI OKi : OwnK := OwnK.dflt
    (svs_cons (o1 := []) (sv_set 2 sc_gone.nd (ev_tup (ea_cons (ev_ix opF_ix (er_var 0 (pv 0)) (EV.r ev_int) (fun _ _ => rfl)) ea_nil)))
    (svs_cons (o1 := []) (sv_for [3] rfl (wi_any (ev_var 1 (pv 1))) (tg_1 3 (pg_name (i := 3) sc_gone.nd rfl (Or.inl rfl))) (svs_one (sv_set 2 sc_gone.nd (ev_fnG c_all_behind hgd hr (ea_cons (ev_var 2 (pv 2)) (ea_cons (ev_var 3 (pv 3)) ea_nil))))) PassesOwn.never)
    (svs_one (sv_ret (ev_var 2 (pv 2))))))
abbrev s_is_run : Stmt := top 10
abbrev N_is_run : List Str := ["talk", "row", "steps"]
theorem sc_is_run : FnScope N_is_run ["talk", "row"] (defScope s_is_run) := ⟨rfl, rfl, rfl, by decide +kernel, rfl, by decide +kernel, by decide +kernel⟩
theorem ok_is_run (F : FunD K "is_run" "is_run" (defArgs s_is_run) (defBody s_is_run) (defScope s_is_run) [] [] f fd)  (g_is_run : mg "is_run" = some (.ref f)) (c_gone : CalleeG P w K mg base k "gone" 2 m_gone) (c_can_stop : Callee P w K mg base k "can_stop" 1 (m_can_stop fu_can_stop)) (z_any : mg "any" = none) : CalleeG P w K mg base (k + 1) "is_run" 2 (runF 3 (f_is_run)) :=
  fn_CG (OK := OwnK.dflt) (o' := []) F sc_is_run rfl g_is_run (F.bindsN fun _ _ _ _ _ _ us hl => match us, hl with | [_, _], _ => rfl) fun cdv A outer s H E hgd hr =>
    letI OKi : OwnK := OwnK.dflt
    (svs_one (sv_ret (ev_cb1 (opF_any rfl) z_any (by decide +kernel) (EV.r (EN.v (en_lc (own := [("steps", 2)]) rfl sc_is_run.nd (wi_any (ev_fnG c_gone hgd hr (ea_cons (ev_var 0 (pv 0)) (ea_cons (ev_var 1 (pv 1)) ea_nil)))) (ct_1 2) (blkOk_by (N := N_is_run) (sc := defScope s_is_run) (by decide +kernel)) (fun _ _ _ _ _ => (pg_name (i := 2) sc_is_run.nd rfl (Or.inl rfl))) (fun _ _ _ _ _ => ets_nil) (fun _ _ _ _ _ => (ev_fn c_can_stop hr (ea_cons (ev_var 2 (pv 2)) ea_nil)))))))))
abbrev s_letters_of : Stmt := top 11
abbrev N_letters_of : List Str := ["talk"]
theorem sc_letters_of : FnScope N_letters_of ["talk"] (defScope s_letters_of) := ⟨rfl, rfl, rfl, by decide +kernel, rfl, by decide +kernel, by decide +kernel⟩
theorem ok_letters_of (F : FunD K "letters_of" "letters_of" (defArgs s_letters_of) (defBody s_letters_of) (defScope s_letters_of) [] [] f fd)  (g_letters_of : mg "letters_of" = some (.ref f)) (c_letters_in : Callee P w K mg base k "letters_in" 1 (m_letters_in fu_letters_in)) (z_set : mg "set" = none) (z_sorted : mg "sorted" = none) : Callee P w K mg base (k + 1) "letters_of" 1 (runF 1 (f_letters_of)) :=
  fn_C (OK := OwnK.dflt) (o' := []) F sc_letters_of rfl g_letters_of (F.bindsN fun _ _ _ _ _ _ us hl => match us, hl with | [_], _ => rfl) fun cdv A outer s H E hr =>
    letI OKi : OwnK := OwnK.dflt
    (svs_one (sv_ret (EN.v (en_sortSet rfl (hu66 hr) z_sorted z_set (EV.r (ev_fn c_letters_in hr (ea_cons (ev_ix opF_ix (er_var 0 (pv 0)) (EV.r ev_int) (fun _ _ => rfl)) ea_nil)))))))
abbrev s_runs : Stmt := top 12
abbrev N_runs : List Str := ["talk", "most", "found", "layer", "many", "longer", "row", "states", "letter", "left", "steps"]
theorem sc_runs : FnScope N_runs ["talk", "most"] (defScope s_runs) := ⟨rfl, rfl, rfl, by decide +kernel, rfl, by decide +kernel, by decide +kernel⟩
theorem ok_runs (F : FunD K "runs" "runs" (defArgs s_runs) (defBody s_runs) (defScope s_runs) [] [] f fd)  (g_runs : mg "runs" = some (.ref f)) (c_can_stop : Callee P w K mg base k "can_stop" 1 (m_can_stop fu_can_stop)) (c_all_behind : CalleeG P w K mg base k "all_behind" 2 m_all_behind) (c_letters_of : Callee P w K mg base k "letters_of" 1 m_letters_of) (z_any : mg "any" = none) (z_len : mg "len" = none) (z_range : mg "range" = none) (z_sorted : mg "sorted" = none) (z_tuple : mg "tuple" = none) : CalleeG P w K mg base (k + 1) "runs" 2 (runF 11 (f_runs)) :=
  fn_CG (OK := OwnK.dflt) (o' := []) F sc_runs rfl g_runs (F.bindsN fun _ _ _ _ _ _ us hl => match us, hl with | [_, _], _ => rfl) fun cdv A outer s H E hgd hr =>
    letI OKi : OwnK := OwnK.dflt
    (svs_cons (o1 := [2]) (sv_own 2 sc_runs.nd (en_lst ea_nil))
    (svs_cons (o1 := [2]) (sv_set 3 sc_runs.nd (EN.v (en_lst (ea_cons (ev_tup (ea_cons (ev_tup ea_nil) (ea_cons (ev_tup (ea_cons (ev_ix opF_ix (er_var 0 (pv 0)) (EV.r ev_int) (fun _ _ => rfl)) ea_nil)) ea_nil))) ea_nil))))
    (svs_cons (o1 := [2]) (sv_for [4, 5, 6, 7, 8, 9] rfl (wi_range1 z_range (EV.r (ev_bin opF_addA (er_var 1 (pv 1)) (EV.r ev_int)))) (tg_1 4 (pg_name (i := 4) sc_runs.nd rfl (Or.inl rfl))) (svs_cons (o1 := [2]) (sv_extend 2 (pv 2) (EN.v (en_lc (own := [("row", 6), ("states", 7)]) rfl sc_runs.nd (wi_any (ev_var 3 (pv 3))) (ct_2 6 7) (blkOk_by (N := N_runs) (sc := defScope s_runs) (by decide +kernel)) (fun _ _ _ _ _ => (pg_tup rfl (pgs_cons (pg_name (i := 6) sc_runs.nd rfl (Or.inl rfl)) (pgs_cons (pg_name (i := 7) sc_runs.nd rfl (Or.inl rfl)) pgs_nil)))) (fun _ _ _ _ _ => ets_one (et_val (EV.r (ev_cb1 (opF_any rfl) z_any (by decide +kernel) (EV.r (EN.v (en_lc (own := [("steps", 10)]) rfl sc_runs.nd (wi_any (ev_var 7 (pv 7))) (ct_1 10) (blk_names (N := N_runs) (sc1 := ({ kind := .function, names := [(".0", .local), ("row", .local), ("states", .local), ("any", .globalImplicit)], isGenerator := false, isCoroutine := false } : Scope)) (blkOk_by (by decide +kernel)) rfl) (fun _ _ _ _ _ => (pg_name (i := 10) sc_runs.nd rfl (Or.inl rfl))) (fun _ _ _ _ _ => ets_nil) (fun _ _ _ _ _ => (ev_fn c_can_stop hr (ea_cons (ev_var 10 (pv 10)) ea_nil)))))))))) (fun _ _ _ _ _ => (ev_var 6 (pv 6))))))
    (svs_cons (o1 := [5, 2]) (sv_own 5 sc_runs.nd (en_lst ea_nil))
    (svs_cons (o1 := [5, 2]) (sv_for [6, 7, 8, 9] rfl (wi_any (ev_var 3 (pv 3))) (tg_2 6 7 (pg_tup rfl (pgs_cons (pg_name (i := 6) sc_runs.nd rfl (Or.inl rfl)) (pgs_cons (pg_name (i := 7) sc_runs.nd rfl (Or.inl rfl)) pgs_nil)))) (svs_one (sv_for [8, 9] rfl (wi_any (ev_fn c_letters_of hr (ea_cons (ev_var 0 (pv 0)) ea_nil))) (tg_1 8 (pg_name (i := 8) sc_runs.nd rfl (Or.inl rfl))) (svs_cons (o1 := [5, 2]) (sv_set 9 sc_runs.nd (ev_fnG c_all_behind hgd hr (ea_cons (ev_var 7 (pv 7)) (ea_cons (ev_var 8 (pv 8)) ea_nil))))
    (svs_one (sv_if (et_cmp opF_gt (EV.r (ev_cb1 opF_len z_len (by decide +kernel) (er_var 9 (pv 9)))) (EV.r ev_int) (nomark _)) (svs_one (sv_append 5 (pv 5) (ev_tup (ea_cons (ev_bin opF_addA (er_var 6 (pv 6)) (EV.r (ev_tup (ea_cons (ev_var 8 (pv 8)) ea_nil)))) (ea_cons (ev_var 9 (pv 9)) ea_nil))))) svs_nil))) PassesOwn.never)) PassesOwn.never)
    (svs_one (sv_drop [2] (sv_set 3 sc_runs.nd (ev_var 5 (pv 5)))))))) PassesOwn.never)
    (svs_one (sv_ret (ev_ct1 opF_tuple z_tuple (by decide +kernel) (EV.r (EN.v (en_cb1 (opF_sortedB (hu66 hr)) z_sorted (by decide +kernel) (er_var 2 (pv 2)))))))))))
abbrev s_law_cell_at : Stmt := top 14
abbrev N_law_cell_at : List Str := ["_law_script", "_law_k"]
theorem sc_law_cell_at : FnScope N_law_cell_at ["_law_script", "_law_k"] (defScope s_law_cell_at) := ⟨rfl, rfl, rfl, by decide +kernel, rfl, by decide +kernel, by decide +kernel⟩
theorem ok_law_cell_at (F : FunD K "_law_cell_at" "_law_cell_at" (defArgs s_law_cell_at) (defBody s_law_cell_at) (defScope s_law_cell_at) [] [] f fd)  (g_law_cell_at : mg "_law_cell_at" = some (.ref f)) (z_len : mg "len" = none) : Callee P w K mg base (k + 1) "_law_cell_at" 2 (runF 2 (f_law_cell_at)) :=
  fn_C (OK := OwnK.dflt) (o' := []) F sc_law_cell_at rfl g_law_cell_at (F.bindsN fun _ _ _ _ _ _ us hl => match us, hl with | [_, _], _ => rfl) fun cdv A outer s H E hr =>
    letI OKi : OwnK := OwnK.dflt
    (svs_cons (o1 := []) (sv_if (et_cmp (opF_ltA (hu64 hr)) (er_var 1 (pv 1)) (EV.r (ev_cb1 opF_len z_len (by decide +kernel) (er_var 0 (pv 0)))) (nomark _)) (svs_one (sv_ret (ev_ix opF_ix (er_var 0 (pv 0)) (er_var 1 (pv 1)) (fun _ _ => rfl)))) svs_nil)
    (svs_one (sv_ret ev_int)))
abbrev s_law_mixed : Stmt := top 15
abbrev N_law_mixed : List Str := ["_law_script", "_law_k", "_law_drawn_here"]
theorem sc_law_mixed : FnScope N_law_mixed ["_law_script", "_law_k"] (defScope s_law_mixed) := ⟨rfl, rfl, rfl, by decide +kernel, rfl, by decide +kernel, by decide +kernel⟩
theorem ok_law_mixed (F : FunD K "_law_mixed" "_law_mixed" (defArgs s_law_mixed) (defBody s_law_mixed) (defScope s_law_mixed) [] [] f fd)  (g_law_mixed : mg "_law_mixed" = some (.ref f)) (c_law_cell_at : Callee P w K mg base k "_law_cell_at" 2 m_law_cell_at) : Callee P w K mg base (k + 1) "_law_mixed" 2 (runF 3 (f_law_mixed)) :=
  fn_C (OK := OwnK.dflt) (o' := []) F sc_law_mixed rfl g_law_mixed (F.bindsN fun _ _ _ _ _ _ us hl => match us, hl with | [_, _], _ => rfl) fun cdv A outer s H E hr =>
    letI OKi : OwnK := OwnK.dflt
    (svs_cons (o1 := []) (sv_set 2 sc_law_mixed.nd (ev_bin opF_mod (EV.r (ev_bin opF_mulA (EV.r (ev_bin opF_addA (EV.r (ev_bin opF_addA (EV.r (ev_fn c_law_cell_at hr (ea_cons (ev_var 0 (pv 0)) (ea_cons (ev_var 1 (pv 1)) ea_nil)))) (EV.r (ev_bin opF_mulA (EV.r ev_int) (er_var 1 (pv 1)))))) (EV.r ev_int))) (EV.r ev_int))) (EV.r ev_int)))
    (svs_one (sv_ret (ev_bin opF_mod (EV.r (ev_bin opF_addA (EV.r (ev_bin opF_addA (EV.r (ev_bin opF_mulA (er_var 2 (pv 2)) (er_var 2 (pv 2)))) (EV.r (ev_bin opF_mulA (EV.r ev_int) (er_var 2 (pv 2)))))) (er_var 1 (pv 1)))) (EV.r ev_int)))))
abbrev s_law_drawn : Stmt := top 16
abbrev N_law_drawn : List Str := ["_law_number", "_law_k", "_law_drawn_here"]
theorem sc_law_drawn : FnScope N_law_drawn ["_law_number", "_law_k"] (defScope s_law_drawn) := ⟨rfl, rfl, rfl, by decide +kernel, rfl, by decide +kernel, by decide +kernel⟩
theorem ok_law_drawn (F : FunD K "_law_drawn" "_law_drawn" (defArgs s_law_drawn) (defBody s_law_drawn) (defScope s_law_drawn) [] [] f fd)  (g_law_drawn : mg "_law_drawn" = some (.ref f))  : Callee P w K mg base (k + 1) "_law_drawn" 2 (runF 3 (f_law_drawn)) :=
  fn_C (OK := OwnK.dflt) (o' := []) F sc_law_drawn rfl g_law_drawn (F.bindsN fun _ _ _ _ _ _ us hl => match us, hl with | [_, _], _ => rfl) fun cdv A outer s H E hr =>
    letI OKi : OwnK := OwnK.dflt
    (svs_cons (o1 := []) (sv_set 2 sc_law_drawn.nd (ev_bin opF_mod (EV.r (ev_bin opF_mulA (EV.r (ev_bin opF_addA (EV.r (ev_bin opF_addA (er_var 0 (pv 0)) (EV.r (ev_bin opF_mulA (EV.r ev_int) (er_var 1 (pv 1)))))) (EV.r ev_int))) (EV.r ev_int))) (EV.r ev_int)))
    (svs_one (sv_ret (ev_bin opF_mod (EV.r (ev_bin opF_addA (EV.r (ev_bin opF_addA (EV.r (ev_bin opF_mulA (er_var 2 (pv 2)) (er_var 2 (pv 2)))) (EV.r (ev_bin opF_mulA (EV.r ev_int) (er_var 2 (pv 2)))))) (er_var 1 (pv 1)))) (EV.r ev_int)))))
abbrev s_law_word : Stmt := top 17
abbrev N_law_word : List Str := ["_law_number", "_law_signs", "_law_k"]
theorem sc_law_word : FnScope N_law_word ["_law_number"] (defScope s_law_word) := ⟨rfl, rfl, rfl, by decide +kernel, rfl, by decide +kernel, by decide +kernel⟩
theorem ok_law_word (F : FunD K "_law_word" "_law_word" (defArgs s_law_word) (defBody s_law_word) (defScope s_law_word) [] [] f fd)  (g_law_word : mg "_law_word" = some (.ref f)) (c_law_drawn : Callee P w K mg base k "_law_drawn" 2 m_law_drawn) (z_range : mg "range" = none) : Callee P w K mg base (k + 1) "_law_word" 1 (runF 3 (f_law_word)) :=
  fn_C (OK := OwnK.dflt) (o' := []) F sc_law_word rfl g_law_word (F.bindsN fun _ _ _ _ _ _ us hl => match us, hl with | [_], _ => rfl) fun cdv A outer s H E hr =>
    letI OKi : OwnK := OwnK.dflt
    (svs_cons (o1 := []) (sv_if (et_cmp opF_gt (EV.r (ev_bin opF_mod (er_var 0 (pv 0)) (EV.r ev_int))) (EV.r ev_int) (nomark _)) (svs_one (sv_ret (ev_ix opF_ix (EV.r (ev_tup (ea_cons ev_str (ea_cons ev_str (ea_cons ev_str (ea_cons ev_str (ea_cons ev_str ea_nil))))))) (EV.r (ev_bin opF_sub (EV.r (ev_bin opF_mod (er_var 0 (pv 0)) (EV.r ev_int))) (EV.r ev_int))) (fun _ _ => rfl)))) svs_nil)
    (svs_cons (o1 := []) (sv_set 1 sc_law_word.nd ev_str)
    (svs_one (sv_ret (ev_join (EV.r ev_str) (EV.r (EN.v (en_lc (own := [("_law_k", 2)]) rfl sc_law_word.nd (wi_range1 z_range (EV.r (ev_bin opF_addA (EV.r ev_int) (EV.r (ev_bin opF_mod (EV.r (ev_bin opF_div (er_var 0 (pv 0)) (EV.r ev_int))) (EV.r ev_int)))))) (ct_1 2) (blkOk_by (N := N_law_word) (sc := defScope s_law_word) (by decide +kernel)) (fun _ _ _ _ _ => (pg_name (i := 2) sc_law_word.nd rfl (Or.inl rfl))) (fun _ _ _ _ _ => ets_nil) (fun _ _ _ _ _ => (ev_ix opF_ix (er_var 1 (pv 1)) (EV.r (ev_bin opF_mod (EV.r (ev_bin opF_div (EV.r (ev_fn c_law_drawn hr (ea_cons (ev_var 0 (pv 0)) (ea_cons (ev_var 2 (pv 2)) ea_nil)))) (EV.r ev_int))) (EV.r ev_int))) (fun _ _ => rfl)))))))))))
abbrev s_law_step : Stmt := top 18
abbrev N_law_step : List Str := ["_law_number", "_law_hands", "_law_deep", "_law_kind", "_law_one", "_law_begin", "_law_end", "_law_many", "_law_branches", "_law_k"]
theorem sc_law_step : FnScope N_law_step ["_law_number", "_law_hands", "_law_deep"] (defScope s_law_step) := ⟨rfl, rfl, rfl, by decide +kernel, rfl, by decide +kernel, by decide +kernel⟩
theorem ok_law_step {r_law_step : List PyData → Option PyData} {r_law_steps : List PyData → Option PyData} (F : FunD K "_law_step" "_law_step" (defArgs s_law_step) (defBody s_law_step) (defScope s_law_step) [] [] f fd)  (g_law_step : mg "_law_step" = some (.ref f)) (c_law_word : Callee P w K mg base k "_law_word" 1 m_law_word) (c_law_steps : Callee P w K mg base k "_law_steps" 4 r_law_steps) (c_law_drawn : Callee P w K mg base k "_law_drawn" 2 m_law_drawn) (z_len : mg "len" = none) (z_range : mg "range" = none) (z_tuple : mg "tuple" = none) : Callee P w K mg base (k + 1) "_law_step" 3 (runF 10 (f_law_step r_law_step r_law_steps)) :=
  fn_C (OK := OwnK.dflt) (o' := []) F sc_law_step rfl g_law_step (F.bindsN fun _ _ _ _ _ _ us hl => match us, hl with | [_, _, _], _ => rfl) fun cdv A outer s H E hr =>
    letI OKi : OwnK := OwnK.dflt
    (svs_cons (o1 := []) (sv_set 3 sc_law_step.nd (ev_bin opF_mod (er_var 0 (pv 0)) (EV.r ev_int)))
    (svs_cons (o1 := []) (sv_if (PW.pt (ew_or (et_cmp (opF_eq (hu64 hr)) (er_var 2 (pv 2)) (EV.r ev_int) (nomark _)) (ew_or1 (et_cmp (opF_ltA (hu64 hr)) (er_var 3 (pv 3)) (EV.r ev_int) (nomark _))))) (svs_cons (o1 := []) (sv_set 5 sc_law_step.nd (ev_ix opF_ix (er_var 1 (pv 1)) (EV.r (ev_bin opF_mod (EV.r (ev_bin opF_div (er_var 0 (pv 0)) (EV.r ev_int))) (EV.r (ev_cb1 opF_len z_len (by decide +kernel) (er_var 1 (pv 1)))))) (fun _ _ => rfl)))
    (svs_cons (o1 := []) (sv_set 6 sc_law_step.nd (ev_ix opF_ix (er_var 1 (pv 1)) (EV.r (ev_bin opF_mod (EV.r (ev_bin opF_div (er_var 0 (pv 0)) (EV.r ev_int))) (EV.r (ev_cb1 opF_len z_len (by decide +kernel) (er_var 1 (pv 1)))))) (fun _ _ => rfl)))
    (svs_one (sv_ret (ev_tup (ea_cons ev_str (ea_cons (ev_var 5 (pv 5)) (ea_cons (ev_var 6 (pv 6)) (ea_cons (ev_fn c_law_word hr (ea_cons (ev_bin opF_div (er_var 0 (pv 0)) (EV.r ev_int)) ea_nil)) ea_nil))))))))) svs_nil)
    (svs_cons (o1 := []) (sv_if (et_cmp (opF_ltA (hu64 hr)) (er_var 3 (pv 3)) (EV.r ev_int) (nomark _)) (svs_cons (o1 := []) (sv_set 7 sc_law_step.nd (ev_bin opF_addA (EV.r ev_int) (EV.r (ev_bin opF_mod (EV.r (ev_bin opF_div (er_var 0 (pv 0)) (EV.r ev_int))) (EV.r ev_int)))))
    (svs_cons (o1 := []) (sv_less [8] (sv_ownLc 8 (own := [("_law_k", 9)]) rfl sc_law_step.nd (wi_range1 z_range (er_var 7 (pv 7))) (ct_1 9) (blkOk_by (N := N_law_step) (sc := defScope s_law_step) (by decide +kernel)) (fun _ _ _ _ _ => (pg_name (i := 9) sc_law_step.nd rfl (Or.inl rfl))) (fun _ _ _ _ _ => ets_nil) (fun _ _ _ _ _ => (ev_fn c_law_steps hr (ea_cons (ev_bin opF_div (EV.r (ev_fn c_law_drawn hr (ea_cons (ev_var 0 (pv 0)) (ea_cons (ev_var 9 (pv 9)) ea_nil)))) (EV.r ev_int)) (ea_cons (ev_var 1 (pv 1)) (ea_cons (ev_bin opF_sub (er_var 2 (pv 2)) (EV.r ev_int)) (ea_cons ev_int ea_nil)))))) (sw_true rfl rfl rfl (by decide +kernel))))
    (svs_one (sv_ret (ev_tup (ea_cons ev_str (ea_cons (ev_ct1 opF_tuple z_tuple (by decide +kernel) (er_var 8 (pv 8))) ea_nil))))))) svs_nil)
    (svs_cons (o1 := []) (sv_set 4 sc_law_step.nd (ev_fn c_law_steps hr (ea_cons (ev_bin opF_div (EV.r (ev_fn c_law_drawn hr (ea_cons (ev_var 0 (pv 0)) (ea_cons ev_int ea_nil)))) (EV.r ev_int)) (ea_cons (ev_var 1 (pv 1)) (ea_cons (ev_bin opF_sub (er_var 2 (pv 2)) (EV.r ev_int)) (ea_cons ev_int ea_nil))))))
    (svs_cons (o1 := []) (sv_if (et_cmp (opF_eq (hu64 hr)) (er_var 3 (pv 3)) (EV.r ev_int) (nomark _)) (svs_one (sv_ret (ev_tup (ea_cons ev_str (ea_cons (ev_var 4 (pv 4)) ea_nil))))) svs_nil)
    (svs_one (sv_ret (ev_tup (ea_cons ev_str (ea_cons (ev_var 4 (pv 4)) (ea_cons (ev_fn c_law_steps hr (ea_cons (ev_bin opF_div (EV.r (ev_fn c_law_drawn hr (ea_cons (ev_var 0 (pv 0)) (ea_cons ev_int ea_nil)))) (EV.r ev_int)) (ea_cons (ev_var 1 (pv 1)) (ea_cons (ev_bin opF_sub (er_var 2 (pv 2)) (EV.r ev_int)) (ea_cons ev_int ea_nil))))) ea_nil)))))))))))
abbrev s_law_steps : Stmt := top 19
abbrev N_law_steps : List Str := ["_law_number", "_law_hands", "_law_deep", "_law_most", "_law_k"]
theorem sc_law_steps : FnScope N_law_steps ["_law_number", "_law_hands", "_law_deep", "_law_most"] (defScope s_law_steps) := ⟨rfl, rfl, rfl, by decide +kernel, rfl, by decide +kernel, by decide +kernel⟩
theorem ok_law_steps {r_law_step : List PyData → Option PyData} {r_law_steps : List PyData → Option PyData} (F : FunD K "_law_steps" "_law_steps" (defArgs s_law_steps) (defBody s_law_steps) (defScope s_law_steps) [] [] f fd)  (g_law_steps : mg "_law_steps" = some (.ref f)) (c_law_step : Callee P w K mg base k "_law_step" 3 r_law_step) (c_law_drawn : Callee P w K mg base k "_law_drawn" 2 m_law_drawn) (z_range : mg "range" = none) (z_tuple : mg "tuple" = none) : Callee P w K mg base (k + 1) "_law_steps" 4 (runF 5 (f_law_steps r_law_step r_law_steps)) :=
  fn_C (OK := OwnK.dflt) (o' := []) F sc_law_steps rfl g_law_steps (F.bindsN fun _ _ _ _ _ _ us hl => match us, hl with | [_, _, _, _], _ => rfl) fun cdv A outer s H E hr =>
    letI OKi : OwnK := OwnK.dflt
    (svs_one (sv_ret (ev_ct1 opF_tuple z_tuple (by decide +kernel) (EV.r (EN.v (en_lc (own := [("_law_k", 4)]) rfl sc_law_steps.nd (wi_range1 z_range (EV.r (ev_bin opF_mod (er_var 0 (pv 0)) (EV.r (ev_bin opF_addA (er_var 3 (pv 3)) (EV.r ev_int)))))) (ct_1 4) (blkOk_by (N := N_law_steps) (sc := defScope s_law_steps) (by decide +kernel)) (fun _ _ _ _ _ => (pg_name (i := 4) sc_law_steps.nd rfl (Or.inl rfl))) (fun _ _ _ _ _ => ets_nil) (fun _ _ _ _ _ => (ev_fn c_law_step hr (ea_cons (ev_bin opF_div (EV.r (ev_fn c_law_drawn hr (ea_cons (ev_var 0 (pv 0)) (ea_cons (ev_bin opF_addA (EV.r ev_int) (er_var 4 (pv 4))) ea_nil)))) (EV.r ev_int)) (ea_cons (ev_var 1 (pv 1)) (ea_cons (ev_var 2 (pv 2)) ea_nil)))))))))))
abbrev s_law_talk : Stmt := top 20
abbrev N_law_talk : List Str := ["_law_number", "_law_deep", "_law_most", "_law_hands", "_law_other"]
theorem sc_law_talk : FnScope N_law_talk ["_law_number", "_law_deep", "_law_most"] (defScope s_law_talk) := ⟨rfl, rfl, rfl, by decide +kernel, rfl, by decide +kernel, by decide +kernel⟩
theorem ok_law_talk (F : FunD K "_law_talk" "_law_talk" (defArgs s_law_talk) (defBody s_law_talk) (defScope s_law_talk) [] [] f fd)  (g_law_talk : mg "_law_talk" = some (.ref f)) (c_law_word : Callee P w K mg base k "_law_word" 1 m_law_word) (c_law_steps : Callee P w K mg base k "_law_steps" 4 (m_law_steps fu_law_step)) : Callee P w K mg base (k + 1) "_law_talk" 3 (runF 5 (f_law_talk)) :=
  fn_C (OK := OwnK.dflt) (o' := []) F sc_law_talk rfl g_law_talk (F.bindsN fun _ _ _ _ _ _ us hl => match us, hl with | [_, _, _], _ => rfl) fun cdv A outer s H E hr =>
    letI OKi : OwnK := OwnK.dflt
    (svs_cons (o1 := []) (sv_set 3 sc_law_talk.nd (ev_ix opF_ix (EV.r (ev_tup (ea_cons (ev_tup (ea_cons ev_str ea_nil)) (ea_cons (ev_tup (ea_cons ev_str (ea_cons ev_str ea_nil))) (ea_cons (ev_tup (ea_cons ev_str (ea_cons ev_str (ea_cons ev_str ea_nil)))) (ea_cons (ev_tup (ea_cons ev_str (ea_cons ev_str (ea_cons ev_str (ea_cons ev_str ea_nil))))) ea_nil)))))) (EV.r (ev_bin opF_mod (er_var 0 (pv 0)) (EV.r ev_int))) (fun _ _ => rfl)))
    (svs_cons (o1 := []) (sv_set 4 sc_law_talk.nd (ev_fn c_law_word hr (ea_cons (ev_bin opF_mulA (EV.r (ev_bin opF_div (er_var 0 (pv 0)) (EV.r ev_int))) (EV.r ev_int)) ea_nil)))
    (svs_cons (o1 := []) (sv_if (PW.pt (ew_and (et_cmp (opF_eq (hu64 hr)) (EV.r (ev_bin opF_mod (EV.r (ev_bin opF_div (er_var 0 (pv 0)) (EV.r ev_int))) (EV.r ev_int))) (EV.r ev_int) (nomark _)) (ew_and1 (et_cmp (opF_notIn (hu65 hr)) (er_var 4 (pv 4)) (er_var 3 (pv 3)) (by rfl))))) (svs_one (sv_set 3 sc_law_talk.nd (ev_bin opF_addA (EV.r (ev_tup (ea_cons (ev_var 4 (pv 4)) ea_nil))) (EV.r (ev_slice opF_sl (er_var 3 (pv 3)) (eo_some (EV.r ev_int)) eo_none))))) svs_nil)
    (svs_one (sv_ret (ev_tup (ea_cons (ev_var 3 (pv 3)) (ea_cons (ev_fn c_law_steps hr (ea_cons (ev_bin opF_div (er_var 0 (pv 0)) (EV.r ev_int)) (ea_cons (ev_var 3 (pv 3)) (ea_cons (ev_var 1 (pv 1)) (ea_cons (ev_var 2 (pv 2)) ea_nil))))) ea_nil))))))))
abbrev s_law_letters : Stmt := top 21
abbrev N_law_letters : List Str := ["_law_steps_here", "_law_found", "_law_step_here", "_law_part"]
theorem sc_law_letters : FnScope N_law_letters ["_law_steps_here"] (defScope s_law_letters) := ⟨rfl, rfl, rfl, by decide +kernel, rfl, by decide +kernel, by decide +kernel⟩
theorem ok_law_letters {r_law_letters : List PyData → Option PyData} (F : FunD K "_law_letters" "_law_letters" (defArgs s_law_letters) (defBody s_law_letters) (defScope s_law_letters) [] [] f fd)  (g_law_letters : mg "_law_letters" = some (.ref f)) (c_law_letters : Callee P w K mg base k "_law_letters" 1 r_law_letters) : Callee P w K mg base (k + 1) "_law_letters" 1 (runF 4 (f_law_letters r_law_letters)) :=
  fn_C (OK := OwnK.dflt) (o' := []) F sc_law_letters rfl g_law_letters (F.bindsN fun _ _ _ _ _ _ us hl => match us, hl with | [_], _ => rfl) fun cdv A outer s H E hr =>
    letI OKi : OwnK := OwnK.dflt
    (svs_cons (o1 := [1]) (sv_own 1 sc_law_letters.nd (en_lst ea_nil))
    (svs_cons (o1 := [1]) (sv_for [2, 3] rfl (wi_any (ev_var 0 (pv 0))) (tg_1 2 (pg_name (i := 2) sc_law_letters.nd rfl (Or.inl rfl))) (svs_one (sv_if (et_cmp (opF_eq (hu64 hr)) (EV.r (ev_ix opF_ix (er_var 2 (pv 2)) (EV.r ev_int) (fun _ _ => rfl))) (EV.r ev_str) (nomark _)) (svs_one (sv_append 1 (pv 1) (ev_slice opF_sl (er_var 2 (pv 2)) (eo_some (EV.r ev_int)) eo_none))) (svs_one (sv_if (et_cmp (opF_eq (hu64 hr)) (EV.r (ev_ix opF_ix (er_var 2 (pv 2)) (EV.r ev_int) (fun _ _ => rfl))) (EV.r ev_str) (nomark _)) (svs_one (sv_for [3] rfl (wi_any (ev_ix opF_ix (er_var 2 (pv 2)) (EV.r ev_int) (fun _ _ => rfl))) (tg_1 3 (pg_name (i := 3) sc_law_letters.nd rfl (Or.inl rfl))) (svs_one (sv_drop [] (sv_own 1 sc_law_letters.nd (en_bin opF_addL (er_var 1 (pv 1)) (EV.r (ev_fn c_law_letters hr (ea_cons (ev_var 3 (pv 3)) ea_nil))))))) PassesOwn.never)) (svs_one (sv_for [3] rfl (wi_any (ev_slice opF_sl (er_var 2 (pv 2)) (eo_some (EV.r ev_int)) eo_none)) (tg_1 3 (pg_name (i := 3) sc_law_letters.nd rfl (Or.inl rfl))) (svs_one (sv_drop [] (sv_own 1 sc_law_letters.nd (en_bin opF_addL (er_var 1 (pv 1)) (EV.r (ev_fn c_law_letters hr (ea_cons (ev_var 3 (pv 3)) ea_nil))))))) PassesOwn.never)))))) PassesOwn.never)
    (svs_one (sv_drop [] (sv_ret (ev_var 1 (pv 1)))))))
abbrev s_law_goes : Stmt := top 22
abbrev N_law_goes : List Str := ["_law_steps_here", "_law_row", "_law_step_here", "_law_rest", "_law_at"]
theorem sc_law_goes : FnScope N_law_goes ["_law_steps_here", "_law_row"] (defScope s_law_goes) := ⟨rfl, rfl, rfl, by decide +kernel, rfl, by decide +kernel, by decide +kernel⟩
theorem ok_law_goes {r_law_goes : List PyData → Option PyData} {r_law_step_goes : List PyData → Option PyData} (F : FunD K "_law_goes" "_law_goes" (defArgs s_law_goes) (defBody s_law_goes) (defScope s_law_goes) [] [] f fd)  (g_law_goes : mg "_law_goes" = some (.ref f)) (c_law_step_goes : Callee P w K mg base k "_law_step_goes" 2 r_law_step_goes) (c_law_goes : Callee P w K mg base k "_law_goes" 2 r_law_goes) (z_len : mg "len" = none) (z_range : mg "range" = none) : Callee P w K mg base (k + 1) "_law_goes" 2 (runF 5 (f_law_goes r_law_goes r_law_step_goes)) :=
  fn_C (OK := OwnK.dflt) (o' := []) F sc_law_goes rfl g_law_goes (F.bindsN fun _ _ _ _ _ _ us hl => match us, hl with | [_, _], _ => rfl) fun cdv A outer s H E hr =>
    letI OKi : OwnK := OwnK.dflt
    (svs_cons (o1 := []) (sv_if (et_cmp (opF_eq (hu64 hr)) (er_var 0 (pv 0)) (EV.r (ev_tup ea_nil)) (nomark _)) (svs_one (sv_ret (ev_cmp (opF_eq (hu64 hr)) (er_var 1 (pv 1)) (EV.r (ev_tup ea_nil)) (nomark _)))) svs_nil)
    (svs_cons (o1 := []) (sv_set 2 sc_law_goes.nd (ev_ix opF_ix (er_var 0 (pv 0)) (EV.r ev_int) (fun _ _ => rfl)))
    (svs_cons (o1 := []) (sv_set 3 sc_law_goes.nd (ev_slice opF_sl (er_var 0 (pv 0)) (eo_some (EV.r ev_int)) eo_none))
    (svs_cons (o1 := []) (sv_for [4] rfl (wi_range1 z_range (EV.r (ev_bin opF_addA (EV.r (ev_cb1 opF_len z_len (by decide +kernel) (er_var 1 (pv 1)))) (EV.r ev_int)))) (tg_1 4 (pg_name (i := 4) sc_law_goes.nd rfl (Or.inl rfl))) (svs_one (sv_if (PW.pt (ew_and (et_val (EV.r (ev_fn c_law_step_goes hr (ea_cons (ev_var 2 (pv 2)) (ea_cons (ev_slice opF_sl (er_var 1 (pv 1)) eo_none (eo_some (er_var 4 (pv 4)))) ea_nil))))) (ew_and1 (et_val (EV.r (ev_fn c_law_goes hr (ea_cons (ev_var 3 (pv 3)) (ea_cons (ev_slice opF_sl (er_var 1 (pv 1)) (eo_some (er_var 4 (pv 4))) eo_none) ea_nil)))))))) (svs_one (sv_ret ev_bl)) svs_nil)) PassesOwn.never)
    (svs_one (sv_ret ev_bl))))))
abbrev s_law_step_goes : Stmt := top 23
abbrev N_law_step_goes : List Str := ["_law_step_here", "_law_row", "_law_picks", "_law_letter", "_law_one", "_law_other", "_law_at", "_law_longer", "_law_part"]
theorem sc_law_step_goes : FnScope N_law_step_goes ["_law_step_here", "_law_row"] (defScope s_law_step_goes) := ⟨rfl, rfl, rfl, by decide +kernel, rfl, by decide +kernel, by decide +kernel⟩
theorem ok_law_step_goes {r_law_goes : List PyData → Option PyData} {r_law_step_goes : List PyData → Option PyData} (F : FunD K "_law_step_goes" "_law_step_goes" (defArgs s_law_step_goes) (defBody s_law_step_goes) (defScope s_law_step_goes) [] [] f fd)  (g_law_step_goes : mg "_law_step_goes" = some (.ref f)) (c_law_goes : Callee P w K mg base k "_law_goes" 2 r_law_goes) (c_law_step_goes : Callee P w K mg base k "_law_step_goes" 2 r_law_step_goes) (z_len : mg "len" = none) (z_range : mg "range" = none) : Callee P w K mg base (k + 1) "_law_step_goes" 2 (runF 9 (f_law_step_goes r_law_goes r_law_step_goes)) :=
  fn_C (OK := OwnK.dflt) (o' := []) F sc_law_step_goes rfl g_law_step_goes (F.bindsN fun _ _ _ _ _ _ us hl => match us, hl with | [_, _], _ => rfl) fun cdv A outer s H E hr =>
    letI OKi : OwnK := OwnK.dflt
    (svs_cons (o1 := []) (sv_if (et_cmp (opF_eq (hu64 hr)) (EV.r (ev_ix opF_ix (er_var 0 (pv 0)) (EV.r ev_int) (fun _ _ => rfl))) (EV.r ev_str) (nomark _)) (svs_one (sv_ret (ev_cmp (opF_eq (hu64 hr)) (er_var 1 (pv 1)) (EV.r (ev_tup (ea_cons (ev_slice opF_sl (er_var 0 (pv 0)) (eo_some (EV.r ev_int)) eo_none) ea_nil))) (nomark _)))) svs_nil)
    (svs_cons (o1 := []) (sv_if (et_cmp (opF_eq (hu64 hr)) (EV.r (ev_ix opF_ix (er_var 0 (pv 0)) (EV.r ev_int) (fun _ _ => rfl))) (EV.r ev_str) (nomark _)) (svs_one (sv_ret (ev_cmp (opF_ne (hu64 hr)) (EV.r (EN.v (en_lc (own := [("_law_part", 8)]) rfl sc_law_step_goes.nd (wi_any (ev_ix opF_ix (er_var 0 (pv 0)) (EV.r ev_int) (fun _ _ => rfl))) (ct_1 8) (blkOk_by (N := N_law_step_goes) (sc := defScope s_law_step_goes) (by decide +kernel)) (fun _ _ _ _ _ => (pg_name (i := 8) sc_law_step_goes.nd rfl (Or.inl rfl))) (fun _ _ _ _ _ => ets_one (et_val (EV.r (ev_fn c_law_goes hr (ea_cons (ev_var 8 (pv 8)) (ea_cons (ev_var 1 (pv 1)) ea_nil)))))) (fun _ _ _ _ _ => (ev_var 8 (pv 8)))))) (EV.r (EN.v (en_lst ea_nil))) (nomark _)))) svs_nil)
    (svs_cons (o1 := []) (sv_if (et_cmp (opF_eq (hu64 hr)) (EV.r (ev_ix opF_ix (er_var 0 (pv 0)) (EV.r ev_int) (fun _ _ => rfl))) (EV.r ev_str) (nomark _)) (svs_cons (o1 := []) (sv_if (et_cmp (opF_eq (hu64 hr)) (er_var 1 (pv 1)) (EV.r (ev_tup ea_nil)) (nomark _)) (svs_one (sv_ret ev_bl)) svs_nil)
    (svs_cons (o1 := []) (sv_for [6] rfl (wi_range2 z_range (EV.r ev_int) (EV.r (ev_bin opF_addA (EV.r (ev_cb1 opF_len z_len (by decide +kernel) (er_var 1 (pv 1)))) (EV.r ev_int)))) (tg_1 6 (pg_name (i := 6) sc_law_step_goes.nd rfl (Or.inl rfl))) (svs_one (sv_if (PW.pt (ew_and (et_val (EV.r (ev_fn c_law_goes hr (ea_cons (ev_ix opF_ix (er_var 0 (pv 0)) (EV.r ev_int) (fun _ _ => rfl)) (ea_cons (ev_slice opF_sl (er_var 1 (pv 1)) eo_none (eo_some (er_var 6 (pv 6)))) ea_nil))))) (ew_and1 (et_val (EV.r (ev_fn c_law_step_goes hr (ea_cons (ev_var 0 (pv 0)) (ea_cons (ev_slice opF_sl (er_var 1 (pv 1)) (eo_some (er_var 6 (pv 6))) eo_none) ea_nil)))))))) (svs_one (sv_ret ev_bl)) svs_nil)) PassesOwn.never)
    (svs_one (sv_ret ev_bl)))) svs_nil)
    (svs_cons (o1 := []) (sv_set 2 sc_law_step_goes.nd (EN.v (en_lst (ea_cons (ev_tup (ea_cons (ev_tup ea_nil) (ea_cons (ev_tup ea_nil) ea_nil))) ea_nil))))
    (svs_cons (o1 := []) (sv_for [3, 4, 5, 7] rfl (wi_any (ev_var 1 (pv 1))) (tg_1 3 (pg_name (i := 3) sc_law_step_goes.nd rfl (Or.inl rfl))) (svs_cons (o1 := []) (sv_set 7 sc_law_step_goes.nd (EN.v (en_lst ea_nil)))
    (svs_cons (o1 := []) (sv_for [4, 5] rfl (wi_any (ev_var 2 (pv 2))) (tg_2 4 5 (pg_tup rfl (pgs_cons (pg_name (i := 4) sc_law_step_goes.nd rfl (Or.inl rfl)) (pgs_cons (pg_name (i := 5) sc_law_step_goes.nd rfl (Or.inl rfl)) pgs_nil)))) (svs_one (sv_set 7 sc_law_step_goes.nd (EN.v (en_bin opF_addL (er_var 7 (pv 7)) (EV.r (EN.v (en_lst (ea_cons (ev_tup (ea_cons (ev_bin opF_addA (er_var 4 (pv 4)) (EV.r (ev_tup (ea_cons (ev_var 3 (pv 3)) ea_nil)))) (ea_cons (ev_var 5 (pv 5)) ea_nil))) (ea_cons (ev_tup (ea_cons (ev_var 4 (pv 4)) (ea_cons (ev_bin opF_addA (er_var 5 (pv 5)) (EV.r (ev_tup (ea_cons (ev_var 3 (pv 3)) ea_nil)))) ea_nil))) ea_nil))))))))) PassesOwn.never)
    (svs_one (sv_set 2 sc_law_step_goes.nd (ev_var 7 (pv 7)))))) PassesOwn.never)
    (svs_cons (o1 := []) (sv_for [4, 5] rfl (wi_any (ev_var 2 (pv 2))) (tg_2 4 5 (pg_tup rfl (pgs_cons (pg_name (i := 4) sc_law_step_goes.nd rfl (Or.inl rfl)) (pgs_cons (pg_name (i := 5) sc_law_step_goes.nd rfl (Or.inl rfl)) pgs_nil)))) (svs_one (sv_if (PW.pt (ew_and (et_val (EV.r (ev_fn c_law_goes hr (ea_cons (ev_ix opF_ix (er_var 0 (pv 0)) (EV.r ev_int) (fun _ _ => rfl)) (ea_cons (ev_var 4 (pv 4)) ea_nil))))) (ew_and1 (et_val (EV.r (ev_fn c_law_goes hr (ea_cons (ev_ix opF_ix (er_var 0 (pv 0)) (EV.r ev_int) (fun _ _ => rfl)) (ea_cons (ev_var 5 (pv 5)) ea_nil)))))))) (svs_one (sv_ret ev_bl)) svs_nil)) PassesOwn.never)
    (svs_one (sv_ret ev_bl))))))))
abbrev s_law_rows : Stmt := top 24
abbrev N_law_rows : List Str := ["_law_letters_here", "_law_most", "_law_found", "_law_layer", "_law_many", "_law_longer", "_law_row", "_law_letter"]
theorem sc_law_rows : FnScope N_law_rows ["_law_letters_here", "_law_most"] (defScope s_law_rows) := ⟨rfl, rfl, rfl, by decide +kernel, rfl, by decide +kernel, by decide +kernel⟩
theorem ok_law_rows (F : FunD K "_law_rows" "_law_rows" (defArgs s_law_rows) (defBody s_law_rows) (defScope s_law_rows) [] [] f fd)  (g_law_rows : mg "_law_rows" = some (.ref f)) (z_range : mg "range" = none) : Callee P w K mg base (k + 1) "_law_rows" 2 (runF 8 (f_law_rows)) :=
  fn_C (OK := OwnK.dflt) (o' := []) F sc_law_rows rfl g_law_rows (F.bindsN fun _ _ _ _ _ _ us hl => match us, hl with | [_, _], _ => rfl) fun cdv A outer s H E hr =>
    letI OKi : OwnK := OwnK.dflt
    (svs_cons (o1 := []) (sv_set 2 sc_law_rows.nd (EN.v (en_lst (ea_cons (ev_tup ea_nil) ea_nil))))
    (svs_cons (o1 := []) (sv_set 3 sc_law_rows.nd (EN.v (en_lst (ea_cons (ev_tup ea_nil) ea_nil))))
    (svs_cons (o1 := []) (sv_for [4, 5, 6] rfl (wi_range1 z_range (er_var 1 (pv 1))) (tg_1 4 (pg_name (i := 4) sc_law_rows.nd rfl (Or.inl rfl))) (svs_cons (o1 := []) (sv_set 5 sc_law_rows.nd (EN.v (en_lst ea_nil)))
    (svs_cons (o1 := []) (sv_for [6] rfl (wi_any (ev_var 3 (pv 3))) (tg_1 6 (pg_name (i := 6) sc_law_rows.nd rfl (Or.inr rfl))) (svs_one (sv_set 5 sc_law_rows.nd (EN.v (en_bin opF_addL (er_var 5 (pv 5)) (EV.r (EN.v (en_lc (own := [("_law_letter", 7)]) rfl sc_law_rows.nd (wi_any (ev_var 0 (pv 0))) (ct_1 7) (blkOk_by (N := N_law_rows) (sc := defScope s_law_rows) (by decide +kernel)) (fun _ _ _ _ _ => (pg_name (i := 7) sc_law_rows.nd rfl (Or.inl rfl))) (fun _ _ _ _ _ => ets_nil) (fun _ _ _ _ _ => (ev_bin opF_addA (er_var 6 (pv 6)) (EV.r (ev_tup (ea_cons (ev_var 7 (pv 7)) ea_nil)))))))))))) PassesOwn.never)
    (svs_cons (o1 := []) (sv_set 3 sc_law_rows.nd (ev_var 5 (pv 5)))
    (svs_one (sv_set 2 sc_law_rows.nd (ev_bin opF_addA (er_var 2 (pv 2)) (er_var 3 (pv 3)))))))) PassesOwn.never)
    (svs_one (sv_ret (ev_var 2 (pv 2)))))))
abbrev s_law : Stmt := top 25
abbrev N_law : List Str := ["_law_script", "_law_talk_here", "_law_letters_here", "_law_strange", "_law_due", "_law_row", "_law_most", "_law_wanted", "_law_found", "_law_letter", "_law_goes_here"]
theorem sc_law : FnScope N_law ["_law_script"] (defScope s_law) := ⟨rfl, rfl, rfl, by decide +kernel, rfl, by decide +kernel, by decide +kernel⟩
theorem ok_law (F : FunD K "law" "law" (defArgs s_law) (defBody s_law) (defScope s_law) [] [] f fd) (c_law_talk : Callee P w K mg base k "_law_talk" 3 m_law_talk) (c_law_mixed : Callee P w K mg base k "_law_mixed" 2 m_law_mixed) (c_law_letters : Callee P w K mg base k "_law_letters" 1 (m_law_letters fu_law_letters)) (c_is_run : CalleeG P w K mg base k "is_run" 2 m_is_run) (c_law_goes : Callee P w K mg base k "_law_goes" 2 (m_law_goes fu_law_goes)) (c_law_rows : Callee P w K mg base k "_law_rows" 2 m_law_rows) (c_runs : CalleeG P w K mg base k "runs" 2 m_runs) (z_bool : mg "bool" = none) (z_isinstance : mg "isinstance" = none) (z_len : mg "len" = none) (z_set : mg "set" = none) (z_sorted : mg "sorted" = none) : FnG P w K mg base (k + 1) f fd ["_law_script"] (spF K 1 m_law) :=
  fn_G (OK := OwnK.dflt) (o' := []) F sc_law rfl fun cdv A outer s H E hgd hr =>
    letI OKi : OwnK := OwnK.dflt
    (svs_cons (o1 := []) (sv_set 1 sc_law.nd (ev_fn c_law_talk hr (ea_cons (ev_fn c_law_mixed hr (ea_cons (ev_var 0 (pv 0)) (ea_cons ev_int ea_nil))) (ea_cons (ev_bin opF_mod (EV.r (ev_fn c_law_mixed hr (ea_cons (ev_var 0 (pv 0)) (ea_cons ev_int ea_nil)))) (EV.r ev_int)) (ea_cons ev_int ea_nil)))))
    (svs_cons (o1 := []) (sv_set 2 sc_law.nd (ev_slice opF_sl (EV.r (EN.v (en_sortSet rfl (hu66 hr) z_sorted z_set (EV.r (ev_fn c_law_letters hr (ea_cons (ev_ix opF_ix (er_var 1 (pv 1)) (EV.r ev_int) (fun _ _ => rfl)) ea_nil)))))) eo_none (eo_some (EV.r ev_int))))
    (svs_cons (o1 := []) (sv_less [3] (sv_ownLc 3 (own := [("_law_letter", 9)]) rfl sc_law.nd (wi_any (EN.v (en_lst (ea_cons (ev_tup (ea_cons ev_str (ea_cons ev_str (ea_cons ev_str ea_nil)))) ea_nil)))) (ct_1 9) (blkOk_by (N := N_law) (sc := defScope s_law) (by decide +kernel)) (fun _ _ _ _ _ => (pg_name (i := 9) sc_law.nd rfl (Or.inl rfl))) (fun _ _ _ _ _ => ets_one (et_cmp (opF_notIn (hu65 hr)) (er_var 9 (pv 9)) (EV.r (ev_fn c_law_letters hr (ea_cons (ev_ix opF_ix (er_var 1 (pv 1)) (EV.r ev_int) (fun _ _ => rfl)) ea_nil))) (by rfl))) (fun _ _ _ _ _ => (ev_var 9 (pv 9))) (sw_true rfl rfl rfl (by decide +kernel))))
    (svs_cons (o1 := [4]) (sv_own 4 sc_law.nd (en_lst ea_nil))
    (svs_cons (o1 := [4]) (sv_for [5, 8, 10] rfl (wi_any (ev_fn c_law_rows hr (ea_cons (ev_bin opF_addA (er_var 2 (pv 2)) (er_var 3 (pv 3))) (ea_cons ev_int ea_nil)))) (tg_1 5 (pg_name (i := 5) sc_law.nd rfl (Or.inl rfl))) (svs_cons (o1 := [4]) (sv_set 8 sc_law.nd (ev_fnG c_is_run hgd hr (ea_cons (ev_var 1 (pv 1)) (ea_cons (ev_var 5 (pv 5)) ea_nil))))
    (svs_cons (o1 := [4]) (sv_set 10 sc_law.nd (ev_fn c_law_goes hr (ea_cons (ev_ix opF_ix (er_var 1 (pv 1)) (EV.r ev_int) (fun _ _ => rfl)) (ea_cons (ev_var 5 (pv 5)) ea_nil))))
    (svs_cons (o1 := [4]) (sv_if (PW.pt (ew_or (et_not (et_val (EV.r (ev_isa (T := "bool") (x := "bool") z_isinstance z_bool (by decide +kernel) (er_var 8 (pv 8)))))) (ew_or1 (et_cmp (opF_ne (hu64 hr)) (er_var 8 (pv 8)) (er_var 10 (pv 10)) (nomark _))))) (svs_one (sv_ret ev_bl)) svs_nil)
    (svs_one (sv_if (et_val (er_var 10 (pv 10))) (svs_one (sv_append 4 (pv 4) (ev_var 5 (pv 5)))) svs_nil))))) PassesOwn.never)
    (svs_cons (o1 := [4]) (sv_set 6 sc_law.nd (ev_bin opF_mod (EV.r (ev_fn c_law_mixed hr (ea_cons (ev_var 0 (pv 0)) (ea_cons ev_int ea_nil)))) (EV.r ev_int)))
    (svs_cons (o1 := []) (sv_drop [] (sv_set 7 sc_law.nd (EN.v (en_cb1 (opF_sortedB (hu66 hr)) z_sorted (by decide +kernel) (EV.r (EN.v (en_lc (own := [("_law_row", 5)]) rfl sc_law.nd (wi_any (ev_var 4 (pv 4))) (ct_1 5) (blkOk_by (N := N_law) (sc := defScope s_law) (by decide +kernel)) (fun _ _ _ _ _ => (pg_name (i := 5) sc_law.nd rfl (Or.inl rfl))) (fun _ _ _ _ _ => ets_one (et_cmp opF_le (EV.r (ev_cb1 opF_len z_len (by decide +kernel) (er_var 5 (pv 5)))) (er_var 6 (pv 6)) (nomark _))) (fun _ _ _ _ _ => (ev_var 5 (pv 5))))))))))
    (svs_cons (o1 := []) (sv_less [8] (sv_ownLc 8 (own := [("_law_row", 5)]) rfl sc_law.nd (wi_any (ev_fnG c_runs hgd hr (ea_cons (ev_var 1 (pv 1)) (ea_cons (ev_var 6 (pv 6)) ea_nil)))) (ct_1 5) (blkOk_by (N := N_law) (sc := defScope s_law) (by decide +kernel)) (fun _ _ _ _ _ => (pg_name (i := 5) sc_law.nd rfl (Or.inl rfl))) (fun _ _ _ _ _ => ets_one (et_cmp (opF_eq (hu64 hr)) (EV.r (EN.v (en_lc (own := [("_law_letter", 9)]) rfl sc_law.nd (wi_any (ev_var 5 (pv 5))) (ct_1 9) (blk_names (N := N_law) (sc1 := ({ kind := .function, names := [(".0", .local), ("_law_row", .local), ("_law_letters_here", .cell)], isGenerator := false, isCoroutine := false } : Scope)) (blkOk_by (by decide +kernel)) rfl) (fun _ _ _ _ _ => (pg_name (i := 9) sc_law.nd rfl (Or.inl rfl))) (fun _ _ _ _ _ => ets_one (et_cmp (opF_notIn (hu65 hr)) (er_var 9 (pv 9)) (er_var 2 (pv 2)) (by rfl))) (fun _ _ _ _ _ => (ev_var 9 (pv 9)))))) (EV.r (EN.v (en_lst ea_nil))) (nomark _))) (fun _ _ _ _ _ => (ev_var 5 (pv 5))) (sw_true rfl rfl rfl (by decide +kernel))))
    (svs_one (sv_ret (ev_cmp (opF_eq (hu64 hr)) (er_var 8 (pv 8)) (er_var 7 (pv 7)) (nomark _))))))))))))
theorem rec_letters_in {f_letters_inA : Addr} {fd_letters_in : FuncData} (F_letters_in : FunD K "letters_in" "letters_in" (defArgs s_letters_in) (defBody s_letters_in) (defScope s_letters_in) [] [] f_letters_inA fd_letters_in) (g_letters_in : mg "letters_in" = some (.ref f_letters_inA)) (c_parts_of : Callee P w K mg base k "parts_of" 1 m_parts_of) : ∀ n : Nat, Callee P w K mg base (k + n) "letters_in" 1 (m_letters_in n)
  | 0 => Callee.none (ps := ["steps"]) g_letters_in F_letters_in.kp (F_letters_in.bindsN fun _ _ _ _ _ _ us hl => match us, hl with | [_], _ => rfl) (fun _ => rfl)
  | n + 1 => by
    have ih := rec_letters_in F_letters_in g_letters_in c_parts_of n
    exact ok_letters_in F_letters_in g_letters_in ih (c_parts_of.mono (Nat.le_add_right _ _))
theorem rec_can_stop {f_can_stopA : Addr} {fd_can_stop : FuncData} (F_can_stop : FunD K "can_stop" "can_stop" (defArgs s_can_stop) (defBody s_can_stop) (defScope s_can_stop) [] [] f_can_stopA fd_can_stop) (g_can_stop : mg "can_stop" = some (.ref f_can_stopA)) (z_any : mg "any" = none) : ∀ n : Nat, Callee P w K mg base (k + n) "can_stop" 1 (m_can_stop n)
  | 0 => Callee.none (ps := ["steps"]) g_can_stop F_can_stop.kp (F_can_stop.bindsN fun _ _ _ _ _ _ us hl => match us, hl with | [_], _ => rfl) (fun _ => rfl)
  | n + 1 => by
    have ih := rec_can_stop F_can_stop g_can_stop z_any n
    exact ok_can_stop F_can_stop g_can_stop ih z_any
theorem rec_behind_step {f_behind_stepA : Addr} {fd_behind_step : FuncData} {f_behindA : Addr} {fd_behind : FuncData} (F_behind_step : FunD K "behind_step" "behind_step" (defArgs s_behind_step) (defBody s_behind_step) (defScope s_behind_step) [] [] f_behind_stepA fd_behind_step) (g_behind_step : mg "behind_step" = some (.ref f_behind_stepA)) (F_behind : FunD K "behind" "behind" (defArgs s_behind) (defBody s_behind) (defScope s_behind) [] [] f_behindA fd_behind) (g_behind : mg "behind" = some (.ref f_behindA)) (c_mixed : Callee P w K mg base k "mixed" 2 m_mixed) (z_int : mg "int" = none) (c_can_stop : Callee P w K mg base k "can_stop" 1 (m_can_stop fu_can_stop)) (z_enumerate : mg "enumerate" = none) (z_list : mg "list" = none) : ∀ n : Nat, Callee P w K mg base (k + n) "behind_step" 2 (m_behind_step n) ∧ Callee P w K mg base (k + n) "behind" 2 (m_behind n)
  | 0 => ⟨Callee.none (ps := ["step", "letter"]) g_behind_step F_behind_step.kp (F_behind_step.bindsN fun _ _ _ _ _ _ us hl => match us, hl with | [_, _], _ => rfl) (fun _ => rfl), Callee.none (ps := ["steps", "letter"]) g_behind F_behind.kp (F_behind.bindsN fun _ _ _ _ _ _ us hl => match us, hl with | [_, _], _ => rfl) (fun _ => rfl)⟩
  | n + 1 => by
    have ih := rec_behind_step F_behind_step g_behind_step F_behind g_behind c_mixed z_int c_can_stop z_enumerate z_list n
    exact ⟨ok_behind_step F_behind_step g_behind_step ih.2 (c_mixed.mono (Nat.le_add_right _ _)) z_int, ok_behind F_behind g_behind ih.1 (c_can_stop.mono (Nat.le_add_right _ _)) z_enumerate z_list⟩
theorem rec_law_step {f_law_stepA : Addr} {fd_law_step : FuncData} {f_law_stepsA : Addr} {fd_law_steps : FuncData} (F_law_step : FunD K "_law_step" "_law_step" (defArgs s_law_step) (defBody s_law_step) (defScope s_law_step) [] [] f_law_stepA fd_law_step) (g_law_step : mg "_law_step" = some (.ref f_law_stepA)) (F_law_steps : FunD K "_law_steps" "_law_steps" (defArgs s_law_steps) (defBody s_law_steps) (defScope s_law_steps) [] [] f_law_stepsA fd_law_steps) (g_law_steps : mg "_law_steps" = some (.ref f_law_stepsA)) (c_law_word : Callee P w K mg base k "_law_word" 1 m_law_word) (c_law_drawn : Callee P w K mg base k "_law_drawn" 2 m_law_drawn) (z_len : mg "len" = none) (z_range : mg "range" = none) (z_tuple : mg "tuple" = none) : ∀ n : Nat, Callee P w K mg base (k + n) "_law_step" 3 (m_law_step n) ∧ Callee P w K mg base (k + n) "_law_steps" 4 (m_law_steps n)
  | 0 => ⟨Callee.none (ps := ["_law_number", "_law_hands", "_law_deep"]) g_law_step F_law_step.kp (F_law_step.bindsN fun _ _ _ _ _ _ us hl => match us, hl with | [_, _, _], _ => rfl) (fun _ => rfl), Callee.none (ps := ["_law_number", "_law_hands", "_law_deep", "_law_most"]) g_law_steps F_law_steps.kp (F_law_steps.bindsN fun _ _ _ _ _ _ us hl => match us, hl with | [_, _, _, _], _ => rfl) (fun _ => rfl)⟩
  | n + 1 => by
    have ih := rec_law_step F_law_step g_law_step F_law_steps g_law_steps c_law_word c_law_drawn z_len z_range z_tuple n
    exact ⟨ok_law_step F_law_step g_law_step (c_law_word.mono (Nat.le_add_right _ _)) ih.2 (c_law_drawn.mono (Nat.le_add_right _ _)) z_len z_range z_tuple, ok_law_steps F_law_steps g_law_steps ih.1 (c_law_drawn.mono (Nat.le_add_right _ _)) z_range z_tuple⟩
theorem rec_law_letters {f_law_lettersA : Addr} {fd_law_letters : FuncData} (F_law_letters : FunD K "_law_letters" "_law_letters" (defArgs s_law_letters) (defBody s_law_letters) (defScope s_law_letters) [] [] f_law_lettersA fd_law_letters) (g_law_letters : mg "_law_letters" = some (.ref f_law_lettersA))  : ∀ n : Nat, Callee P w K mg base (k + n) "_law_letters" 1 (m_law_letters n)
  | 0 => Callee.none (ps := ["_law_steps_here"]) g_law_letters F_law_letters.kp (F_law_letters.bindsN fun _ _ _ _ _ _ us hl => match us, hl with | [_], _ => rfl) (fun _ => rfl)
  | n + 1 => by
    have ih := rec_law_letters F_law_letters g_law_letters  n
    exact ok_law_letters F_law_letters g_law_letters ih
theorem rec_law_goes {f_law_goesA : Addr} {fd_law_goes : FuncData} {f_law_step_goesA : Addr} {fd_law_step_goes : FuncData} (F_law_goes : FunD K "_law_goes" "_law_goes" (defArgs s_law_goes) (defBody s_law_goes) (defScope s_law_goes) [] [] f_law_goesA fd_law_goes) (g_law_goes : mg "_law_goes" = some (.ref f_law_goesA)) (F_law_step_goes : FunD K "_law_step_goes" "_law_step_goes" (defArgs s_law_step_goes) (defBody s_law_step_goes) (defScope s_law_step_goes) [] [] f_law_step_goesA fd_law_step_goes) (g_law_step_goes : mg "_law_step_goes" = some (.ref f_law_step_goesA)) (z_len : mg "len" = none) (z_range : mg "range" = none) : ∀ n : Nat, Callee P w K mg base (k + n) "_law_goes" 2 (m_law_goes n) ∧ Callee P w K mg base (k + n) "_law_step_goes" 2 (m_law_step_goes n)
  | 0 => ⟨Callee.none (ps := ["_law_steps_here", "_law_row"]) g_law_goes F_law_goes.kp (F_law_goes.bindsN fun _ _ _ _ _ _ us hl => match us, hl with | [_, _], _ => rfl) (fun _ => rfl), Callee.none (ps := ["_law_step_here", "_law_row"]) g_law_step_goes F_law_step_goes.kp (F_law_step_goes.bindsN fun _ _ _ _ _ _ us hl => match us, hl with | [_, _], _ => rfl) (fun _ => rfl)⟩
  | n + 1 => by
    have ih := rec_law_goes F_law_goes g_law_goes F_law_step_goes g_law_step_goes z_len z_range n
    exact ⟨ok_law_goes F_law_goes g_law_goes ih.2 ih.1 z_len z_range, ok_law_step_goes F_law_step_goes g_law_step_goes ih.1 ih.2 z_len z_range⟩
end
def d_parts_of : He.DefD := ⟨("parts_of", none), "parts_of", "parts_of", defArgs s_parts_of, defBody s_parts_of, defScope s_parts_of, [], []⟩
def d_letters_in : He.DefD := ⟨("letters_in", none), "letters_in", "letters_in", defArgs s_letters_in, defBody s_letters_in, defScope s_letters_in, [], []⟩
def d_can_stop : He.DefD := ⟨("can_stop", none), "can_stop", "can_stop", defArgs s_can_stop, defBody s_can_stop, defScope s_can_stop, [], []⟩
def d_behind_step : He.DefD := ⟨("behind_step", none), "behind_step", "behind_step", defArgs s_behind_step, defBody s_behind_step, defScope s_behind_step, [], []⟩
def d_mixed : He.DefD := ⟨("mixed", none), "mixed", "mixed", defArgs s_mixed, defBody s_mixed, defScope s_mixed, [], []⟩
def d_behind : He.DefD := ⟨("behind", none), "behind", "behind", defArgs s_behind, defBody s_behind, defScope s_behind, [], []⟩
def d_all_behind : He.DefD := ⟨("all_behind", none), "all_behind", "all_behind", defArgs s_all_behind, defBody s_all_behind, defScope s_all_behind, [], []⟩
def d_gone : He.DefD := ⟨("gone", none), "gone", "gone", defArgs s_gone, defBody s_gone, defScope s_gone, [], []⟩
def d_is_run : He.DefD := ⟨("is_run", none), "is_run", "is_run", defArgs s_is_run, defBody s_is_run, defScope s_is_run, [], []⟩
def d_letters_of : He.DefD := ⟨("letters_of", none), "letters_of", "letters_of", defArgs s_letters_of, defBody s_letters_of, defScope s_letters_of, [], []⟩
def d_runs : He.DefD := ⟨("runs", none), "runs", "runs", defArgs s_runs, defBody s_runs, defScope s_runs, [], []⟩
def d_law_cell_at : He.DefD := ⟨("_law_cell_at", none), "_law_cell_at", "_law_cell_at", defArgs s_law_cell_at, defBody s_law_cell_at, defScope s_law_cell_at, [], []⟩
def d_law_mixed : He.DefD := ⟨("_law_mixed", none), "_law_mixed", "_law_mixed", defArgs s_law_mixed, defBody s_law_mixed, defScope s_law_mixed, [], []⟩
def d_law_drawn : He.DefD := ⟨("_law_drawn", none), "_law_drawn", "_law_drawn", defArgs s_law_drawn, defBody s_law_drawn, defScope s_law_drawn, [], []⟩
def d_law_word : He.DefD := ⟨("_law_word", none), "_law_word", "_law_word", defArgs s_law_word, defBody s_law_word, defScope s_law_word, [], []⟩
def d_law_step : He.DefD := ⟨("_law_step", none), "_law_step", "_law_step", defArgs s_law_step, defBody s_law_step, defScope s_law_step, [], []⟩
def d_law_steps : He.DefD := ⟨("_law_steps", none), "_law_steps", "_law_steps", defArgs s_law_steps, defBody s_law_steps, defScope s_law_steps, [], []⟩
def d_law_talk : He.DefD := ⟨("_law_talk", none), "_law_talk", "_law_talk", defArgs s_law_talk, defBody s_law_talk, defScope s_law_talk, [], []⟩
def d_law_letters : He.DefD := ⟨("_law_letters", none), "_law_letters", "_law_letters", defArgs s_law_letters, defBody s_law_letters, defScope s_law_letters, [], []⟩
def d_law_goes : He.DefD := ⟨("_law_goes", none), "_law_goes", "_law_goes", defArgs s_law_goes, defBody s_law_goes, defScope s_law_goes, [], []⟩
def d_law_step_goes : He.DefD := ⟨("_law_step_goes", none), "_law_step_goes", "_law_step_goes", defArgs s_law_step_goes, defBody s_law_step_goes, defScope s_law_step_goes, [], []⟩
def d_law_rows : He.DefD := ⟨("_law_rows", none), "_law_rows", "_law_rows", defArgs s_law_rows, defBody s_law_rows, defScope s_law_rows, [], []⟩
def d_law : He.DefD := ⟨("law", none), "law", "law", defArgs s_law, defBody s_law, defScope s_law, [], []⟩
def fnL : List He.DefD := [d_parts_of, d_letters_in, d_can_stop, d_behind_step, d_mixed, d_behind, d_all_behind, d_gone, d_is_run, d_letters_of, d_runs, d_law_cell_at, d_law_mixed, d_law_drawn, d_law_word, d_law_step, d_law_steps, d_law_talk, d_law_letters, d_law_goes, d_law_step_goes, d_law_rows, d_law]
def faL : List He.Fa := [.glo "parts_of", .glo "letters_in", .glo "can_stop", .glo "behind_step", .glo "mixed", .glo "behind", .glo "all_behind", .glo "gone", .glo "is_run", .glo "letters_of", .glo "runs", .glo "_law_cell_at", .glo "_law_mixed", .glo "_law_drawn", .glo "_law_word", .glo "_law_step", .glo "_law_steps", .glo "_law_talk", .glo "_law_letters", .glo "_law_goes", .glo "_law_step_goes", .glo "_law_rows", .glo "law", .free "any", .free "bool", .free "enumerate", .free "int", .free "isinstance", .free "len", .free "list", .free "range", .free "set", .free "sorted", .free "str", .free "tuple"]
abbrev R : PySem.W.OpenRow := PySem.W.OpenLaw.row PySem.Challenge.rw_lanerows_k10_runs
abbrev hk : PySem.W.Hook := He.hookD 4 faL fnL
def ob_ (s : PySem.W.SharedT) : He.AlD := He.obsDG 4 faL fnL (HandSHeadRun.getT s)
theorem ob_eq (s : PySem.W.SharedT) : ob_ s = hk.obs s.abs := He.obsDG_eq (HandSHeadRun.getT_eq s)
def looseL : List Str := (["parts_of", "letters_in", "can_stop", "behind_step", "mixed", "behind", "all_behind", "gone", "is_run", "letters_of", "runs", "_law_cell_at", "_law_mixed", "_law_drawn", "_law_word", "_law_step", "_law_steps", "_law_talk", "_law_letters", "_law_goes", "_law_step_goes", "_law_rows"] : List Str)
theorem run (w : World) : HandSHeadRun.RunEq R (PySem.W.view R.prog [25]) hk ob_ 1240 looseL w := by
  intro os
  kernel_rfl
theorem facts {P : Program} {w : World} {K : PySem.W.Frag} {h : Heap} {mg : Str → Option Value} {f : Addr} (X : K.In h) (G : h.Ns mainGlobals mg) (hfa : mg ("law" : Str) = some (.ref f)) (c : He.SaysD faL fnL K) :
    ∃ fd : FuncData, (∀ (s : Shared) (v : Value), BindsTo s fd ⟨[v], []⟩ [("_law_script", v)]) ∧ ∀ base : Heap, K.In base → base.Ns mainGlobals mg → FnG P w K mg base 64 f fd ["_law_script"] (spF K 1 m_law) := by
  obtain ⟨fd_parts_of, F_parts_of⟩ := c.def_ 0 (d := d_parts_of) rfl
  obtain ⟨fd_letters_in, F_letters_in⟩ := c.def_ 1 (d := d_letters_in) rfl
  obtain ⟨fd_can_stop, F_can_stop⟩ := c.def_ 2 (d := d_can_stop) rfl
  obtain ⟨fd_behind_step, F_behind_step⟩ := c.def_ 3 (d := d_behind_step) rfl
  obtain ⟨fd_mixed, F_mixed⟩ := c.def_ 4 (d := d_mixed) rfl
  obtain ⟨fd_behind, F_behind⟩ := c.def_ 5 (d := d_behind) rfl
  obtain ⟨fd_all_behind, F_all_behind⟩ := c.def_ 6 (d := d_all_behind) rfl
  obtain ⟨fd_gone, F_gone⟩ := c.def_ 7 (d := d_gone) rfl
  obtain ⟨fd_is_run, F_is_run⟩ := c.def_ 8 (d := d_is_run) rfl
  obtain ⟨fd_letters_of, F_letters_of⟩ := c.def_ 9 (d := d_letters_of) rfl
  obtain ⟨fd_runs, F_runs⟩ := c.def_ 10 (d := d_runs) rfl
  obtain ⟨fd_law_cell_at, F_law_cell_at⟩ := c.def_ 11 (d := d_law_cell_at) rfl
  obtain ⟨fd_law_mixed, F_law_mixed⟩ := c.def_ 12 (d := d_law_mixed) rfl
  obtain ⟨fd_law_drawn, F_law_drawn⟩ := c.def_ 13 (d := d_law_drawn) rfl
  obtain ⟨fd_law_word, F_law_word⟩ := c.def_ 14 (d := d_law_word) rfl
  obtain ⟨fd_law_step, F_law_step⟩ := c.def_ 15 (d := d_law_step) rfl
  obtain ⟨fd_law_steps, F_law_steps⟩ := c.def_ 16 (d := d_law_steps) rfl
  obtain ⟨fd_law_talk, F_law_talk⟩ := c.def_ 17 (d := d_law_talk) rfl
  obtain ⟨fd_law_letters, F_law_letters⟩ := c.def_ 18 (d := d_law_letters) rfl
  obtain ⟨fd_law_goes, F_law_goes⟩ := c.def_ 19 (d := d_law_goes) rfl
  obtain ⟨fd_law_step_goes, F_law_step_goes⟩ := c.def_ 20 (d := d_law_step_goes) rfl
  obtain ⟨fd_law_rows, F_law_rows⟩ := c.def_ 21 (d := d_law_rows) rfl
  obtain ⟨fd_law, F_law⟩ := c.def_ 22 (d := d_law) rfl
  have g_parts_of := He.glo_ok X G (c.fact 0 (f := .glo "parts_of") rfl)
  have g_letters_in := He.glo_ok X G (c.fact 1 (f := .glo "letters_in") rfl)
  have g_can_stop := He.glo_ok X G (c.fact 2 (f := .glo "can_stop") rfl)
  have g_behind_step := He.glo_ok X G (c.fact 3 (f := .glo "behind_step") rfl)
  have g_mixed := He.glo_ok X G (c.fact 4 (f := .glo "mixed") rfl)
  have g_behind := He.glo_ok X G (c.fact 5 (f := .glo "behind") rfl)
  have g_all_behind := He.glo_ok X G (c.fact 6 (f := .glo "all_behind") rfl)
  have g_gone := He.glo_ok X G (c.fact 7 (f := .glo "gone") rfl)
  have g_is_run := He.glo_ok X G (c.fact 8 (f := .glo "is_run") rfl)
  have g_letters_of := He.glo_ok X G (c.fact 9 (f := .glo "letters_of") rfl)
  have g_runs := He.glo_ok X G (c.fact 10 (f := .glo "runs") rfl)
  have g_law_cell_at := He.glo_ok X G (c.fact 11 (f := .glo "_law_cell_at") rfl)
  have g_law_mixed := He.glo_ok X G (c.fact 12 (f := .glo "_law_mixed") rfl)
  have g_law_drawn := He.glo_ok X G (c.fact 13 (f := .glo "_law_drawn") rfl)
  have g_law_word := He.glo_ok X G (c.fact 14 (f := .glo "_law_word") rfl)
  have g_law_step := He.glo_ok X G (c.fact 15 (f := .glo "_law_step") rfl)
  have g_law_steps := He.glo_ok X G (c.fact 16 (f := .glo "_law_steps") rfl)
  have g_law_talk := He.glo_ok X G (c.fact 17 (f := .glo "_law_talk") rfl)
  have g_law_letters := He.glo_ok X G (c.fact 18 (f := .glo "_law_letters") rfl)
  have g_law_goes := He.glo_ok X G (c.fact 19 (f := .glo "_law_goes") rfl)
  have g_law_step_goes := He.glo_ok X G (c.fact 20 (f := .glo "_law_step_goes") rfl)
  have g_law_rows := He.glo_ok X G (c.fact 21 (f := .glo "_law_rows") rfl)
  have z_any := He.free_ok X G (c.fact 23 (f := .free "any") rfl)
  have z_bool := He.free_ok X G (c.fact 24 (f := .free "bool") rfl)
  have z_enumerate := He.free_ok X G (c.fact 25 (f := .free "enumerate") rfl)
  have z_int := He.free_ok X G (c.fact 26 (f := .free "int") rfl)
  have z_isinstance := He.free_ok X G (c.fact 27 (f := .free "isinstance") rfl)
  have z_len := He.free_ok X G (c.fact 28 (f := .free "len") rfl)
  have z_list := He.free_ok X G (c.fact 29 (f := .free "list") rfl)
  have z_range := He.free_ok X G (c.fact 30 (f := .free "range") rfl)
  have z_set := He.free_ok X G (c.fact 31 (f := .free "set") rfl)
  have z_sorted := He.free_ok X G (c.fact 32 (f := .free "sorted") rfl)
  have z_str := He.free_ok X G (c.fact 33 (f := .free "str") rfl)
  have z_tuple := He.free_ok X G (c.fact 34 (f := .free "tuple") rfl)
  have e := hfa.symm.trans (He.glo_ok X G (c.fact 22 (f := .glo "law") rfl))
  cases e
  have b := FunD.bindsA (ps := ["_law_script"]) F_law fun _ _ _ _ _ _ us hl => match us, hl with | [_], _ => rfl
  refine ⟨fd_law, fun s v => b s [v] rfl, fun base _ _ => ?_⟩
  have c_parts_of : Callee P w K mg base 1 "parts_of" 1 m_parts_of := ok_parts_of (k := 0) F_parts_of g_parts_of 
  have h_letters_in := rec_letters_in (P := P) (w := w) (K := K) (mg := mg) (base := base) (k := 1) F_letters_in g_letters_in (c_parts_of.mono (by decide)) fu_letters_in
  have c_letters_in : Callee P w K mg base 31 "letters_in" 1 (m_letters_in fu_letters_in) := h_letters_in
  have h_can_stop := rec_can_stop (P := P) (w := w) (K := K) (mg := mg) (base := base) (k := 0) F_can_stop g_can_stop z_any fu_can_stop
  have c_can_stop : Callee P w K mg base 30 "can_stop" 1 (m_can_stop fu_can_stop) := h_can_stop
  have c_mixed : Callee P w K mg base 1 "mixed" 2 m_mixed := ok_mixed (k := 0) F_mixed g_mixed z_len
  have h_behind_step := rec_behind_step (P := P) (w := w) (K := K) (mg := mg) (base := base) (k := 30) F_behind_step g_behind_step F_behind g_behind (c_mixed.mono (by decide)) z_int (c_can_stop.mono (by decide)) z_enumerate z_list fu_behind_step
  have c_behind_step : Callee P w K mg base 60 "behind_step" 2 (m_behind_step fu_behind_step) := h_behind_step.1
  have c_behind : Callee P w K mg base 60 "behind" 2 (m_behind fu_behind_step) := h_behind_step.2
  have c_all_behind : CalleeG P w K mg base 61 "all_behind" 2 m_all_behind := ok_all_behind (k := 60) F_all_behind g_all_behind (c_behind.mono (by decide)) z_sorted z_str z_tuple
  have c_gone : CalleeG P w K mg base 62 "gone" 2 m_gone := ok_gone (k := 61) F_gone g_gone (c_all_behind.mono (by decide))
  have c_is_run : CalleeG P w K mg base 63 "is_run" 2 m_is_run := ok_is_run (k := 62) F_is_run g_is_run (c_gone.mono (by decide)) (c_can_stop.mono (by decide)) z_any
  have c_letters_of : Callee P w K mg base 32 "letters_of" 1 m_letters_of := ok_letters_of (k := 31) F_letters_of g_letters_of (c_letters_in.mono (by decide)) z_set z_sorted
  have c_runs : CalleeG P w K mg base 62 "runs" 2 m_runs := ok_runs (k := 61) F_runs g_runs (c_can_stop.mono (by decide)) (c_all_behind.mono (by decide)) (c_letters_of.mono (by decide)) z_any z_len z_range z_sorted z_tuple
  have c_law_cell_at : Callee P w K mg base 1 "_law_cell_at" 2 m_law_cell_at := ok_law_cell_at (k := 0) F_law_cell_at g_law_cell_at z_len
  have c_law_mixed : Callee P w K mg base 2 "_law_mixed" 2 m_law_mixed := ok_law_mixed (k := 1) F_law_mixed g_law_mixed (c_law_cell_at.mono (by decide))
  have c_law_drawn : Callee P w K mg base 1 "_law_drawn" 2 m_law_drawn := ok_law_drawn (k := 0) F_law_drawn g_law_drawn 
  have c_law_word : Callee P w K mg base 2 "_law_word" 1 m_law_word := ok_law_word (k := 1) F_law_word g_law_word (c_law_drawn.mono (by decide)) z_range
  have h_law_step := rec_law_step (P := P) (w := w) (K := K) (mg := mg) (base := base) (k := 2) F_law_step g_law_step F_law_steps g_law_steps (c_law_word.mono (by decide)) (c_law_drawn.mono (by decide)) z_len z_range z_tuple fu_law_step
  have c_law_step : Callee P w K mg base 32 "_law_step" 3 (m_law_step fu_law_step) := h_law_step.1
  have c_law_steps : Callee P w K mg base 32 "_law_steps" 4 (m_law_steps fu_law_step) := h_law_step.2
  have c_law_talk : Callee P w K mg base 33 "_law_talk" 3 m_law_talk := ok_law_talk (k := 32) F_law_talk g_law_talk (c_law_word.mono (by decide)) (c_law_steps.mono (by decide))
  have h_law_letters := rec_law_letters (P := P) (w := w) (K := K) (mg := mg) (base := base) (k := 0) F_law_letters g_law_letters  fu_law_letters
  have c_law_letters : Callee P w K mg base 30 "_law_letters" 1 (m_law_letters fu_law_letters) := h_law_letters
  have h_law_goes := rec_law_goes (P := P) (w := w) (K := K) (mg := mg) (base := base) (k := 0) F_law_goes g_law_goes F_law_step_goes g_law_step_goes z_len z_range fu_law_goes
  have c_law_goes : Callee P w K mg base 30 "_law_goes" 2 (m_law_goes fu_law_goes) := h_law_goes.1
  have c_law_step_goes : Callee P w K mg base 30 "_law_step_goes" 2 (m_law_step_goes fu_law_goes) := h_law_goes.2
  have c_law_rows : Callee P w K mg base 1 "_law_rows" 2 m_law_rows := ok_law_rows (k := 0) F_law_rows g_law_rows z_range
  exact ok_law (k := 63) F_law (c_law_talk.mono (by decide)) (c_law_mixed.mono (by decide)) (c_law_letters.mono (by decide)) (c_is_run.mono (by decide)) (c_law_goes.mono (by decide)) (c_law_rows.mono (by decide)) (c_runs.mono (by decide)) z_bool z_isinstance z_len z_set z_sorted
end Lr
open PySem PySem.W PySem.Calls PyProof.Rows
set_option maxHeartbeats 0 in
theorem Lr.holds (hl : ∀ ns : List Int, ns.length ≤ 63 → Lr.m_law [TF.scr ns] = some (.bool true)) : PySem.Challenge.rw_lanerows_k10_runs.Holds := by
  w_on; o_law
  refine HandSHeadRun.head_any (r := OpenLaw.row PySem.Challenge.rw_lanerows_k10_runs) (q := view (OpenLaw.row PySem.Challenge.rw_lanerows_k10_runs).prog [25]) (H := Lr.hk) (ob := Lr.ob_) (M := 1240) (loose := Lr.looseL) (d := HandSHeadRun.topDef (OpenLaw.row PySem.Challenge.rw_lanerows_k10_runs).prog 25) (kwd := []) Lr.ob_eq
    (by kernel_rfl) (fun s => by kernel_rfl) Lr.run (by kernel_rfl) (by kernel_rfl) (by kernel_rfl) (by rfl) (by first | assumption | decide +kernel) (by decide +kernel) ⟨rfl, rfl, rfl, rfl, rfl, by decide +kernel⟩ ?hw ?hc
  case hw => w_witness2
  case hc =>
    refine TF.walk_ofG (l := PySem.Challenge.rw_lanerows_k10_runs) (n := 63) (k := 64) (x := "_law_script") rfl (by decide) (by kernel_rfl) ⟨rfl, by decide, by decide⟩ ?F
    intro w mg fa h Y G hmg0
    obtain ⟨K, KX, c⟩ := Y
    have hmg : mg ("law" : PySem.Str) = some (.ref fa) := by
      have e : (HandSHeadRun.topDef (OpenLaw.row PySem.Challenge.rw_lanerows_k10_runs).prog 25).name = ("law" : PySem.Str) := by kernel_rfl
      rw [← e]
      exact hmg0
    obtain ⟨fd, hb, hF⟩ := Lr.facts (P := (PySem.Challenge.rw_lanerows_k10_runs).prog) (w := w) KX G hmg c
    exact ⟨K, fd, TF.spF K 1 Lr.m_law, KX, hb, fun H a ns hl2 hS => TF.law_spT hl H a ns hl2 hS, hF⟩

theorem PySem.Challenge.cw_lanerows_k10_runs_holds : PySem.Challenge.rw_lanerows_k10_runs.Holds := by
  exact Lr.holds fun ns _ => Lr.law_true ns
