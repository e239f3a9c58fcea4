import PyProof.Rows.All
import Wide.All
import OpenK.AllK
import Wide.FinOn
import HandS.ForMost
import HandS.TupAny
import HandS.TupMul
import HandS.Deep
import HandS.Walk
import KE.DataEq
import KE.DataCmp
import KE.LtData
import KE.SortData
import HandS.Lambda
import HandS.ForExc
import HandS.ExcIs
import HandS.Strs
import HandS.Style
import HandS.Defaults
import HandS.Zip
import KE.GoesMore
import KE.GoesEnum
import KE.DataMinMax
import HandS.TryOnly
import KE.SortCalls
import HandS.IsInst
import KE.KDictKeyed
import HandS.HeadHook1
import HandS.Conv
import HandS.More
import HandS.HeadHook2
import HandS.HeadHook4
import HandS.HeadWalk
import HandS.Sort
import HandS.Exc
import HandS.Head0
import HandS.Head1
import HandS.Head2
import HandS.HeadEnd
import HandS.HeadHook3
import PySem.Challenge.RW_lanerows_k40_laid
/-! TFo.lean -/
set_option Elab.async false
set_option linter.all false
set_option maxRecDepth 100000
/-! TF.o: tuples that are known to the last field (no dict of their own), so that their methods can be called -/
namespace TF
open PySem PySem.Spec PyProof.Rows L2
/-- a tuple of the items its -/
def tobj (its : List Value) : Obj := { cls := .type "tuple", data := .seq its.toArray }
def fz (its : List Value) (xs : List V) : HO := .frz (tobj its) (.tup xs)
theorem sqT_fz {K : PySem.W.Frag} {H : Hp} {a : Addr} {its : List Value} {xs : List V} (h : H a = some (fz its xs)) : SqT K H a xs := .inl (.inr ⟨_, h⟩)
theorem fz_ok {P : Program} {w : World} {H : Hp} {h : Heap} {a : Addr} {its : List Value} {xs : List V} (r : Vals xs its) (z : xs.length ≤ sizeLine) (e : h.get? a = some (tobj its)) : ObjOk P w H h a (fz its xs) :=
  ⟨e, z, its, r, ⟨_, e, rfl, _, rfl⟩⟩
section
variable {X : Cx} {es : List Expr} {t : TA} {pos : Pos}
def tTupF (t : TA) : TE := fun σ H Q => t σ H fun xs H1 => xs.length ≤ sizeLine ∧ ∀ p its, H1 p = none → Q (.ref p) (upd H1 p (fz its xs))
theorem pe_tupF {x1} (h : PA X es t) : PE X (.Tuple es x1 pos) (tTupF t) := by
  refine ⟨fun pins s σ H Q I hq => ?_⟩
  refine wpAny_Tuple_spliced (thn (h.run pos pins s σ H _ I hq) fun us s1 ⟨xs, H1, I1, r, z, q⟩ => ⟨by rw [← r.length]; exact z, ?_⟩)
  have hf : H1 s1.heap.objs.size = none := I1.hok.fresh (Nat.le_refl _)
  exact ⟨.ref s1.heap.objs.size, _, I1.laid (t' := s1.toks) (fun b u e => Heap.get?_push_of_some _ e) (Nat.le_refl _) (fz_ok r z (Heap.get?_push_size _ rfl)), rfl, q _ us hf⟩
def rCatF (K : PySem.W.Frag) : R2 := fun x y H Q => ∃ a b xs ys, x = .ref a ∧ y = .ref b ∧ SqT K H a xs ∧ SqT K H b ys ∧ xs.length + ys.length ≤ sizeLine ∧
  (xs = [] → Q (.ref b) H) ∧ (xs ≠ [] → ys = [] → Q (.ref a) H) ∧ (xs ≠ [] → ys ≠ [] → ∀ p its, H p = none → Q (.ref p) (upd H p (fz its (xs ++ ys))))
theorem op_catF : OpR X (binaryOp .Add) (rCatF X.K) := by
  intro pins s σ H x y v u Q I rx ry h
  obtain ⟨a, b, xs, ys, rfl, rfl, ha, hb, hz, q0, q1, q2⟩ := h
  by_cases hx : xs = []
  · exact op_catA pins s σ H _ _ v u Q I rx ry ⟨a, b, xs, ys, rfl, rfl, ha, hb, hz, q0, q1, fun z => absurd hx z⟩
  · cases rx
    cases ry
    obtain ⟨its, r1, p1, _⟩ := I.tuple ha
    obtain ⟨its2, r2, p2, _⟩ := I.tuple hb
    refine HT.cat_tup p1 p2 (fun z => hx (r1.nil_iff.mp z)) (fun z => ⟨.ref a, H, I, rfl, q1 hx (r2.nil_iff.mp z)⟩) (fun z => ?_) (by rw [← r1.length, ← r2.length]; exact hz)
    exact ⟨.ref s.heap.objs.size, _, I.laid (t' := s.toks) (fun b ob q => Heap.get?_push_of_some _ q) (Nat.le_refl _) (fz_ok (r1.append r2) (by rw [List.length_append]; exact hz) (Heap.get?_push_size _ rfl)), rfl, q2 hx (fun w => z (r2.nil_iff.mpr w)) _ _ (I.hok.fresh (Nat.le_refl _))⟩
def rSlF (K : PySem.W.Frag) : V → Option Int → Option Int → Hp → VK → Prop := fun x lo hi H Q => ∃ a xs, x = .ref a ∧ SqT K H a xs ∧
  (HT.sIx xs.length 0 lo = 0 ∧ HT.sIx xs.length xs.length hi = xs.length → Q (.ref a) H) ∧ (¬ (HT.sIx xs.length 0 lo = 0 ∧ HT.sIx xs.length xs.length hi = xs.length) → ∀ p its, H p = none → Q (.ref p) (upd H p (fz its (cutV xs lo hi))))
theorem sl_tupF : SlR X (rSlF X.K) := by
  intro pins s σ H x v vl vu lo hi sl Q I rx hs pl pu h
  obtain ⟨a, xs, rfl, hx, q1, q2⟩ := h
  by_cases hw : HT.sIx xs.length 0 lo = 0 ∧ HT.sIx xs.length xs.length hi = xs.length
  · exact sl_tupA pins s σ H _ v vl vu lo hi sl Q I rx hs pl pu ⟨a, xs, rfl, hx, q1, fun z => absurd hw z⟩
  · cases rx
    obtain ⟨its, r, ht, hz⟩ := I.tuple hx
    have hlen : its.toArray.size = xs.length := by rw [List.size_toArray]; exact r.length.symm
    refine ⟨"tuple", _, PyProof.Rows.slot_tuple_getitem.lookup, ht.typeIs, ?_⟩
    refine HT.getItem_tuple_cut ht hs pl pu (by rw [hlen]; exact hw) ?_ (by rw [hlen]; exact hz)
    rw [hlen]
    exact ⟨.ref s.heap.objs.size, _, I.laid (t' := s.toks) (fun b ob q => Heap.get?_push_of_some _ q) (Nat.le_refl _)
      (fz_ok ((r.drop (HT.sIx xs.length 0 lo)).take (HT.sIx xs.length xs.length hi - HT.sIx xs.length 0 lo)) (Nat.le_trans (cutV_length xs lo hi) hz) (Heap.get?_push_size _ rfl)), rfl, q2 hw _ _ (I.hok.fresh (Nat.le_refl _))⟩
theorem call_tupleF : CallR X (.type "tuple") (fun xs H Q => ∃ p ys, xs = [.ref p] ∧ ((SqL X.K H p ys ∧ ∀ l its, H l = none → Q (.ref l) (upd H l (fz its ys))) ∨ (SqT X.K H p ys ∧ Q (.ref p) H))) := by
  intro pins s σ H xs us Q I r h
  obtain ⟨p, ys, rfl, h⟩ := h
  obtain ⟨u, rfl, rx⟩ := vals1 r
  cases rx
  rcases h with ⟨hq, q⟩ | ⟨hq, q⟩
  · obtain ⟨its, r', pl, hz⟩ := I.list hq
    have hlen := r'.length
    have hn := line63
    refine call_tuple_list pl.isList (fun h' kp => ?_) (by simp only [List.size_toArray] <;> omega)
    have I1 : Inv X pins σ H { s with heap := h' } := I.kept (t' := s.toks) kp
    have I2 : Inv X pins σ (upd H h'.objs.size (fz its ys)) { s with heap := h'.push { cls := .type "tuple", data := .seq its.toArray } } :=
      I1.laid (t' := s.toks) (fun b o e => Heap.get?_push_of_some _ e) (Nat.le_refl _) (fz_ok r' hz (Heap.get?_push_size _ rfl))
    exact ⟨.ref h'.objs.size, _, I2, rfl, q _ _ (I1.hok.fresh (Nat.le_refl _))⟩
  · obtain ⟨its, r', pl, hz⟩ := I.tuple hq
    exact call_tuple_same pl ⟨.ref p, H, I, rfl, q⟩
/-- t.m(..) of a tuple known to the last field -/
def tBMT (K : PySem.W.Frag) (r : V → List V → Hp → VK → Prop) (to : TE) (t : TA) : TE := fun σ H Q => to σ H fun x H1 => (∃ a its xs, x = .ref a ∧ H1 a = some (fz its xs)) ∧ t σ H1 fun xs H2 => r x xs H2 Q
variable {o e : Expr} {to : TE} {name : Str} {apos cpos : Pos} {id : String} {r : V → List V → Hp → VK → Prop}
theorem pe_bmT (pa : PlainAttrs "tuple") (slot : Slot "tuple" name id) (hty : typeOf (.builtin id) = pure (.type "method_descriptor")) (hm : MtR X id r) (ho : PE X o to) (ha : PA X (e :: es) t)
    (hbase : attributeBase o name X.env (eval o X.env) = eval o X.env := by rfl)
    (hfew : ((backTo cpos (starEach (e :: es) X.env)).all (fun x => !x.1) && (backToKw cpos (keywordEach [] X.env)).all (fun x => x.1.isSome)
      && decide ((e :: es).length + ([] : List Keyword).length + (if ([] : List Keyword).isEmpty then 0 else 1) < 30)) = true := by rfl)
    (hline : (apos.endLine == cpos.line) = true := by rfl) (hs : starEach (e :: es) X.env = (false, eval e X.env) :: starEach es X.env := by rfl) (hplain : (backTo cpos (starEach es X.env)).any (·.1) = false := by rfl) :
    PE X (.Call (.Attribute o name apos) (e :: es) [] cpos) (tBMT X.K r to t) := by
  refine ⟨fun pins s σ H Q I h => ?_⟩
  refine wpAny_Call_method_late hbase hfew hline rfl (thn (ho.run pins s σ H _ I h) fun v s1 ⟨x, H1, I1, r1, ⟨a, its, xs, ex, hx⟩, q1⟩ => ?_)
  subst ex
  cases r1
  have ok : s1.heap.get? a = some (tobj its) := (I1.hok a _ hx).1
  refine ⟨"tuple", id, pa, slot, hty, ⟨_, ok, rfl⟩, (fun b e => by cases e; exact ⟨_, ok, rfl⟩), ?_⟩
  have hA := ha.run cpos pins s1 σ H1 _ I1 q1
  rw [hs] at hA ⊢
  refine Calls.callWith_builtin (by show (false || (backTo cpos (starEach es X.env)).any (·.1)) = false; rw [hplain] <;> rfl) (Calls.evalArgs_plain ?_)
  exact thn hA fun us s2 ⟨vs, H2, I2, r2, q2⟩ => hm pins s2 σ H2 (.ref a) vs (.ref a) us Q I2 rfl r2 q2
end
end TF

/-! TFa.lean -/
set_option Elab.async false
set_option linter.all false
set_option maxRecDepth 100000
/-! TF.a: data of the heap, told as PyData; what is private -/
namespace TF
open PySem PySem.Spec PyProof.Rows L2

abbrev D := PyData
abbrev St := L2.St
abbrev Rho := List (Option PyData)
abbrev HpN : Hp := fun _ => none
/-- the script, as data -/
def scr (ns : List Int) : PyData := .dict (ns.map fun n => (.int n, .none))

/-- data that tells nothing by itself: what stands in a slot of one's own that is no list -/
def spc (x : List (PyData × PyData)) : PyData := .dict ((.str "", .none) :: x)
/-- things of one's own that are no lists: at a, told by u, holding the values vs, the data ds, all told as x; rk: slots that are kept to the end -/
class OwnK where
  G : Addr → HO → List V → List PyData → List (PyData × PyData) → Prop
  rk : List Nat
  T : List (Addr × Str)
  nc : ∀ {a u vs ds x}, G a u vs ds x → T ≠ [] → (∀ c q, u ≠ LamX.CodeO c q) ∧ ∀ ps, u ≠ .tbl ps
instance (priority := low) OwnK.dflt : OwnK := ⟨fun _ _ _ _ _ => False, [], [], fun h => h.elim⟩

/-- it is no table -/
theorem nt_lst {xs : List V} : ∀ ps, HO.lst xs ≠ HO.tbl ps := fun ps z => by cases z
theorem nt_frz {o : Obj} {u : HO} : ∀ ps, HO.frz o u ≠ HO.tbl ps := fun ps z => by cases z
/-- later: what was there, no table, not private, is as it was, and not private -/
def Lt (H : Hp) (P : Addr → Prop) (H' : Hp) (P' : Addr → Prop) : Prop := ∀ a u, H a = some u → ¬ P a → (∀ ps, u ≠ HO.tbl ps) → H' a = some u ∧ ¬ P' a
mutual
inductive Dq (K : PySem.W.Frag) (H : Hp) (P : Addr → Prop) : V → PyData → Prop
  | non : Dq K H P .non .none
  | bl (b : Bool) : Dq K H P (.bl b) (.bool b)
  | int (i : Int) : Dq K H P (.int i) (.int i)
  | str (x : Str) : Dq K H P (.str x) (.str x)
  | lst {a : Addr} {xs : List V} {ds : List PyData} : H a = some (.lst xs) → ¬ P a → DqA K H P xs ds → Dq K H P (.ref a) (.list ds)
  | tup {a : Addr} {its : List Value} {xs : List V} {ds : List PyData} : H a = some (fz its xs) → ¬ P a → DqA K H P xs ds → Dq K H P (.ref a) (.tuple ds)
  | sck {a : Addr} {ns : List Int} : SqL K HpN a (ns.map V.int) → Dq K H P (.ref a) (scr ns)
  | scf {a : Addr} {ns : List Int} {o : Obj} : H a = some (.frz o (.lst (ns.map V.int))) → ¬ P a → Dq K H P (.ref a) (scr ns)
  | scl {a : Addr} {ns : List Int} : H a = some (.lst (ns.map V.int)) → ¬ P a → Dq K H P (.ref a) (scr ns)
  | jnk {v : V} (x : List (PyData × PyData)) : Dq K H P v (spc x)
inductive DqA (K : PySem.W.Frag) (H : Hp) (P : Addr → Prop) : List V → List PyData → Prop
  | nil : DqA K H P [] []
  | cons {v : V} {vs : List V} {d : PyData} {ds : List PyData} : Dq K H P v d → DqA K H P vs ds → DqA K H P (v :: vs) (d :: ds)
end

section
variable {K : PySem.W.Frag} {H H' : Hp} {P P' : Addr → Prop}
mutual
theorem Dq.mono (k : Lt H P H' P') : ∀ {v : V} {d : PyData}, Dq K H P v d → Dq K H' P' v d
  | _, _, .non => .non
  | _, _, .bl b => .bl b
  | _, _, .int i => .int i
  | _, _, .str x => .str x
  | _, _, .lst h n t => .lst (k _ _ h n (by first | exact nt_lst | exact nt_frz)).1 (k _ _ h n (by first | exact nt_lst | exact nt_frz)).2 (DqA.mono k t)
  | _, _, .tup h n t => .tup (k _ _ h n (by first | exact nt_lst | exact nt_frz)).1 (k _ _ h n (by first | exact nt_lst | exact nt_frz)).2 (DqA.mono k t)
  | _, _, .sck h => .sck h
  | _, _, .scf h n => .scf (k _ _ h n (by first | exact nt_lst | exact nt_frz)).1 (k _ _ h n (by first | exact nt_lst | exact nt_frz)).2
  | _, _, .scl h n => .scl (k _ _ h n (by first | exact nt_lst | exact nt_frz)).1 (k _ _ h n (by first | exact nt_lst | exact nt_frz)).2
  | _, _, .jnk x => .jnk x
theorem DqA.mono (k : Lt H P H' P') : ∀ {vs : List V} {ds : List PyData}, DqA K H P vs ds → DqA K H' P' vs ds
  | _, _, .nil => .nil
  | _, _, .cons h t => .cons (Dq.mono k h) (DqA.mono k t)
end
theorem HpN_lst {a : Addr} {xs : List V} (h : SqL K HpN a xs) : SqL K H a xs := by
  rcases h with (h | ⟨o, h⟩) | h
  · cases h
  · cases h
  · exact .inr h
theorem HpN_tup {a : Addr} {xs : List V} (h : SqT K HpN a xs) : SqT K H a xs := by
  rcases h with (h | ⟨o, h⟩) | h
  · cases h
  · cases h
  · exact .inr h
/-- read: the root may be private -/
def Dr (K : PySem.W.Frag) (H : Hp) (P : Addr → Prop) (v : V) (d : PyData) : Prop :=
  Dq K H P v d ∨ ∃ a xs ds, v = .ref a ∧ d = .list ds ∧ H a = some (.lst xs) ∧ DqA K H P xs ds
theorem Dq.r {v : V} {d : PyData} (h : Dq K H P v d) : Dr K H P v d := .inl h
theorem Dr.mono (k : Lt H P H' P') (kl : ∀ a u, H a = some u → H' a = some u) {v : V} {d : PyData} (h : Dr K H P v d) : Dr K H' P' v d := by
  rcases h with h | ⟨a, xs, ds, e1, e2, h, t⟩
  · exact .inl (h.mono k)
  · exact .inr ⟨a, xs, ds, e1, e2, kl _ _ h, t.mono k⟩
theorem same_k (e : Same H H') : Lt H P H' P := fun a u h n _ => ⟨e a u h, n⟩
theorem Dq.same (e : Same H H') {v : V} {d : PyData} (h : Dq K H P v d) : Dq K H' P v d := h.mono (same_k e)
theorem DqA.same (e : Same H H') {v : List V} {d : List PyData} (h : DqA K H P v d) : DqA K H' P v d := h.mono (same_k e)
theorem Dr.same (e : Same H H') {v : V} {d : PyData} (h : Dr K H P v d) : Dr K H' P v d := h.mono (same_k e) e
/-- fewer private ones -/
theorem Dq.anti (s : ∀ a, P' a → P a) {v : V} {d : PyData} (h : Dq K H P v d) : Dq K H P' v d := h.mono fun a u q n _ => ⟨q, fun z => n (s a z)⟩
theorem DqA.anti (s : ∀ a, P' a → P a) {v : List V} {d : List PyData} (h : DqA K H P v d) : DqA K H P' v d := h.mono fun a u q n _ => ⟨q, fun z => n (s a z)⟩

theorem DqA.length : ∀ {vs : List V} {ds : List PyData}, DqA K H P vs ds → vs.length = ds.length
  | _, _, .nil => rfl
  | _, _, .cons _ t => congrArg (· + 1) (DqA.length t)
theorem DqA.append : ∀ {vs ws : List V} {ds es : List PyData}, DqA K H P vs ds → DqA K H P ws es → DqA K H P (vs ++ ws) (ds ++ es)
  | _, _, _, _, .nil, u => u
  | _, _, _, _, .cons h t, u => .cons h (DqA.append t u)
theorem DqA.get : ∀ {vs : List V} {ds : List PyData} {i : Nat} {d : PyData}, DqA K H P vs ds → ds[i]? = some d → ∃ v, vs[i]? = some v ∧ Dq K H P v d
  | _, _, _, _, .nil, e => by simp at e
  | _, _, 0, _, .cons h _, e => by simp at e; subst e; exact ⟨_, rfl, h⟩
  | _, _, i + 1, d, .cons _ t, e => by
    obtain ⟨v, h1, h2⟩ := DqA.get (i := i) (d := d) t (by simpa using e)
    exact ⟨v, by simpa using h1, h2⟩
theorem DqA.getV : ∀ {vs : List V} {ds : List PyData} {i : Nat} {v : V}, DqA K H P vs ds → vs[i]? = some v → ∃ d, ds[i]? = some d ∧ Dq K H P v d
  | _, _, _, _, .nil, e => by simp at e
  | _, _, 0, _, .cons h _, e => by simp at e; subst e; exact ⟨_, rfl, h⟩
  | _, _, i + 1, d, .cons _ t, e => by
    obtain ⟨v, h1, h2⟩ := DqA.getV (i := i) (v := d) t (by simpa using e)
    exact ⟨v, by simpa using h1, h2⟩
theorem DqA.take : ∀ {vs : List V} {ds : List PyData} (n : Nat), DqA K H P vs ds → DqA K H P (vs.take n) (ds.take n)
  | _, _, 0, _ => .nil
  | _, _, _ + 1, .nil => .nil
  | _, _, n + 1, .cons h t => .cons h (DqA.take n t)
theorem DqA.drop : ∀ {vs : List V} {ds : List PyData} (n : Nat), DqA K H P vs ds → DqA K H P (vs.drop n) (ds.drop n)
  | _, _, 0, t => t
  | _, _, _ + 1, .nil => .nil
  | _, _, n + 1, .cons _ t => DqA.drop n t
theorem DqA.reverse : ∀ {vs : List V} {ds : List PyData}, DqA K H P vs ds → DqA K H P vs.reverse ds.reverse
  | _, _, .nil => .nil
  | _, _, .cons h t => by rw [List.reverse_cons, List.reverse_cons]; exact DqA.append (DqA.reverse t) (.cons h .nil)
theorem DqA.rep {vs : List V} {ds : List PyData} (h : DqA K H P vs ds) : ∀ k : Nat, DqA K H P (List.replicate k vs).flatten (List.replicate k ds).flatten
  | 0 => .nil
  | k + 1 => by
    rw [List.replicate_succ, List.replicate_succ, List.flatten_cons, List.flatten_cons]
    exact DqA.append h (DqA.rep h k)
theorem DqA.dropLast {vs : List V} {ds : List PyData} (h : DqA K H P vs ds) : DqA K H P vs.dropLast ds.dropLast := by
  rw [List.dropLast_eq_take, List.dropLast_eq_take, h.length]
  exact h.take _
theorem DqA.nil_iff {vs : List V} {ds : List PyData} (h : DqA K H P vs ds) : vs = [] ↔ ds = [] := by
  cases h <;> simp

theorem Dr.non {v : V} (h : Dr K H P v .none) : v = .non := by
  rcases h with h | ⟨_, _, _, _, e, _⟩
  · cases h; rfl
  · cases e
theorem Dr.bl {v : V} {b : Bool} (h : Dr K H P v (.bool b)) : v = .bl b := by
  rcases h with h | ⟨_, _, _, _, e, _⟩
  · cases h; rfl
  · cases e
theorem Dr.int {v : V} {i : Int} (h : Dr K H P v (.int i)) : v = .int i := by
  rcases h with h | ⟨_, _, _, _, e, _⟩
  · cases h; rfl
  · cases e
theorem Dr.str {v : V} {x : Str} (h : Dr K H P v (.str x)) : v = .str x := by
  rcases h with h | ⟨_, _, _, _, e, _⟩
  · cases h; rfl
  · cases e
theorem Dr.lst {v : V} {ds : List PyData} (h : Dr K H P v (.list ds)) : ∃ a xs, v = .ref a ∧ H a = some (.lst xs) ∧ DqA K H P xs ds := by
  rcases h with h | ⟨a, xs, es, e1, e2, h, t⟩
  · cases h with
    | lst h n t => exact ⟨_, _, rfl, h, t⟩
  · cases e2
    exact ⟨a, xs, e1, h, t⟩
theorem Dq.tupI {v : V} {ds : List PyData} (h : Dq K H P v (.tuple ds)) : ∃ a xs, v = .ref a ∧ SqT K H a xs ∧ DqA K H P xs ds := by
  cases h with
  | tup h n t => exact ⟨_, _, rfl, sqT_fz h, t⟩
theorem Dr.tup {v : V} {ds : List PyData} (h : Dr K H P v (.tuple ds)) : ∃ a xs, v = .ref a ∧ SqT K H a xs ∧ DqA K H P xs ds := by
  rcases h with h | ⟨a, xs, es, e1, e2, h, t⟩
  · exact h.tupI
  · cases e2
theorem Dr.tupQ {v : V} {ds : List PyData} (h : Dr K H P v (.tuple ds)) : Dq K H P v (.tuple ds) := by
  rcases h with h | ⟨a, xs, es, e1, e2, h, t⟩
  · exact h
  · cases e2
theorem scr_inj : ∀ {ns ms : List Int}, scr ns = scr ms → ns = ms := by
  intro ns
  induction ns with
  | nil => intro ms h; cases ms with
    | nil => rfl
    | cons m ms => simp [scr] at h
  | cons n ns ih => intro ms h; cases ms with
    | nil => simp [scr] at h
    | cons m ms =>
      simp only [scr, List.map_cons, PyData.dict.injEq, List.cons.injEq, Prod.mk.injEq, PyData.int.injEq, and_true] at h
      have e : ns = ms := ih (by unfold scr; rw [h.2])
      rw [h.1, e]
theorem scr_spc {ns : List Int} {x : List (PyData × PyData)} : scr ns ≠ spc x := fun h => by
  cases ns with
  | nil => simp [scr, spc] at h
  | cons n ns => simp [scr, spc] at h
theorem Dr.scr {v : V} {ns : List Int} (h : Dr K H P v (scr ns)) : ∃ a, v = .ref a ∧ SqL K H a (ns.map V.int) := by
  generalize e : TF.scr ns = d at h
  rcases h with h | ⟨a, xs, es, e1, e2, h, t⟩
  · cases h with
    | sck h => cases scr_inj e; exact ⟨_, rfl, HpN_lst h⟩
    | scf h n => cases scr_inj e; exact ⟨_, rfl, .inl (.inr ⟨_, h⟩)⟩
    | scl h n => cases scr_inj e; exact ⟨_, rfl, .inl (.inl h)⟩
    | jnk x => exact absurd e scr_spc
    | _ => cases e
  · subst e2; cases e

mutual
theorem Dq.dp : ∀ {v : V} {d : PyData}, Dq K H P v d → d.plain = true → Dp K H v d
  | _, _, .non, _ => .non
  | _, _, .bl b, _ => .bl b
  | _, _, .int i, _ => .int i
  | _, _, .str x, _ => .str x
  | _, _, .lst h n t, c => .lst (SqL.of h) (DqA.dp t (by simpa only [PyData.plain] using c))
  | _, _, .tup h n t, c => .tup (sqT_fz h) (DqA.dp t (by simpa only [PyData.plain] using c))
  | _, _, .sck h, c => by simp [TF.scr, PyData.plain] at c
  | _, _, .scf h n, c => by simp [TF.scr, PyData.plain] at c
  | _, _, .scl h n, c => by simp [TF.scr, PyData.plain] at c
  | _, _, .jnk x, c => by simp [spc, PyData.plain] at c
theorem DqA.dp : ∀ {v : List V} {d : List PyData}, DqA K H P v d → PyData.plainAll d = true → DpAll K H v d
  | _, _, .nil, _ => .nil
  | _, _, .cons h t, c => by
    simp only [PyData.plainAll, Bool.and_eq_true] at c
    exact .cons (Dq.dp h c.1) (DqA.dp t c.2)
end
theorem Dr.dp {v : V} {d : PyData} (h : Dr K H P v d) (c : d.plain = true) : Dp K H v d := by
  rcases h with h | ⟨a, xs, ds, e1, e2, h, t⟩
  · exact h.dp c
  · subst e1 e2
    exact .lst (SqL.of h) (t.dp (by simpa only [PyData.plain] using c))
end
/-! ### what is one's own -/
section
variable [OK : OwnK] {K : PySem.W.Frag} {H H' : Hp} {P P' : Addr → Prop} {a : Addr} {u : HO} {d : PyData}
inductive Gk [OK : OwnK] (a : Addr) : HO → List V → List PyData → PyData → Prop
  | lst {vs ds} : Gk a (.lst vs) vs ds (.list ds)
  | ext {u vs ds x} : OK.G a u vs ds x → Gk a u vs ds (spc x)
/-- what stands at a, told by u, is the data d -/
def Ow [OK : OwnK] (K : PySem.W.Frag) (H : Hp) (P : Addr → Prop) (a : Addr) (u : HO) (d : PyData) : Prop := ∃ vs ds, Gk a u vs ds d ∧ DqA K H P vs ds
theorem Ow.mono (k : Lt H P H' P') (h : Ow K H P a u d) : Ow K H' P' a u d := let ⟨vs, ds, g, t⟩ := h; ⟨vs, ds, g, t.mono k⟩
theorem Ow.same (e : Same H H') (h : Ow K H P a u d) : Ow K H' P a u d := let ⟨vs, ds, g, t⟩ := h; ⟨vs, ds, g, t.same e⟩
theorem Ow.anti (s : ∀ a, P' a → P a) (h : Ow K H P a u d) : Ow K H P' a u d := let ⟨vs, ds, g, t⟩ := h; ⟨vs, ds, g, t.anti s⟩
theorem Ow.ofLst {xs : List V} {ds : List PyData} (t : DqA K H P xs ds) : Ow K H P a (.lst xs) (.list ds) := ⟨xs, ds, .lst, t⟩
theorem Ow.lst {ds : List PyData} (h : Ow K H P a u (.list ds)) : ∃ xs, u = .lst xs ∧ DqA K H P xs ds := by
  obtain ⟨vs, es, g, t⟩ := h
  generalize e : PyData.list ds = d' at g
  cases g with
  | lst => cases e; exact ⟨vs, rfl, t⟩
  | ext _ => cases e
theorem Ow.ext {x : List (PyData × PyData)} (h : Ow K H P a u (spc x)) : ∃ vs ds, OK.G a u vs ds x ∧ DqA K H P vs ds := by
  obtain ⟨vs, es, g, t⟩ := h
  generalize e : spc x = d' at g
  cases g with
  | lst => cases e
  | @ext _ _ _ y g =>
    have e' : x = y := by simpa [spc] using e
    subst e'
    exact ⟨_, _, g, t⟩
theorem Ow.nc (h : Ow K H P a u d) (n : OK.T ≠ []) : (∀ c q, u ≠ LamX.CodeO c q) ∧ ∀ ps, u ≠ .tbl ps := by
  obtain ⟨vs, ds, g, t⟩ := h
  cases g with
  | lst => exact ⟨fun c q z => (by unfold LamX.CodeO at z; cases z), fun ps z => (by cases z)⟩
  | ext g => exact OK.nc g n
/-- tables stay as they are where one's own is written -/
theorem tabs_put (T : LamX.Tabs OK.T H) (ha : H a = some u) (h : Ow K H P a u d) (hx : ∀ b w, b ≠ a → H b = some w → H' b = some w) : LamX.Tabs OK.T H' := fun p hp => by
  obtain ⟨n1, n2⟩ := h.nc (fun z => by rw [z] at hp; simp at hp)
  obtain ⟨ps, h1, h2, h3⟩ := T p hp
  refine ⟨ps, hx _ _ (fun z => ?_) h1, h2, fun pos cv hc => ?_⟩
  · rw [z, ha] at h1; cases h1; exact n2 ps rfl
  · obtain ⟨c, e1, e2⟩ := h3 pos cv hc
    exact ⟨c, e1, hx _ _ (fun z => by rw [z, ha] at e2; cases e2; exact n1 _ _ rfl) e2⟩
theorem tabs0 (h : OK.T = []) : LamX.Tabs OK.T H := by
  rw [h]
  exact fun p hp => absurd hp (by simp)
/-- read -/
theorem Ow.dr (h : Ow K H P a u d) (ha : H a = some u) : Dr K H P (.ref a) d := by
  obtain ⟨vs, ds, g, t⟩ := h
  cases g with
  | lst => exact .inr ⟨a, vs, ds, rfl, rfl, ha, t⟩
  | ext g => exact .inl (.jnk _)
/-- given away -/
theorem Ow.dq (h : Ow K H P a u d) (ha : H a = some u) (n : ¬ P a) : Dq K H P (.ref a) d := by
  obtain ⟨vs, ds, g, t⟩ := h
  cases g with
  | lst => exact .lst ha n t
  | ext g => exact .jnk _
end
end TF

/-! TFb.lean -/
set_option Elab.async false
set_option linter.all false
set_option maxRecDepth 100000
/-! TF.b: the state told by an environment; expressions as functions of it -/
namespace TF
open PySem PySem.Spec PyProof.Rows L2

/-- the slots σ at the heap H are told by ρ; H0 the heap at the entry, P0 what was private there, P what is private now, o the slots that hold a list of one's own -/
structure Rel [OK : OwnK] (K : PySem.W.Frag) (H0 : Hp) (P0 : Addr → Prop) (H : Hp) (P : Addr → Prop) (o : List Nat) (σ : St) (ρ : Rho) : Prop where
  sub : ∀ a, P0 a → P a
  tr0 : ∀ a, P0 a → ∃ u, H0 a = some u
  tr : ∀ a, P a → ∃ u, H a = some u
  same : Same H0 H
  own : ∀ i, i ∈ o → ∃ a u d, σ[i]? = some (some (.ref a)) ∧ ρ[i]? = some (some d) ∧ P a ∧ H0 a = none ∧ H a = some u ∧ Ow K H P a u d
  dis : ∀ i j a b, i ∈ o → j ∈ o → i ≠ j → σ[i]? = some (some (.ref a)) → σ[j]? = some (some (.ref b)) → a ≠ b
  dat : ∀ i d, i ∉ o → ρ[i]? = some (some d) → ∃ v, σ[i]? = some (some v) ∧ Dq K H P v d
  len : ρ.length = σ.length
  tab : LamX.Tabs OK.T H
  tp : OK.T ≠ [] → (∀ a ps, H0 a ≠ some (.tbl ps)) ∧ ∀ a, P a → ∀ ps, H a ≠ some (.tbl ps)

variable [OK : OwnK]
section
variable {K : PySem.W.Frag} {H0 H H' : Hp} {P0 P : Addr → Prop} {o : List Nat} {σ : St} {ρ : Rho}
theorem Rel.go (R : Rel K H0 P0 H P o σ ρ) (e : Same H H') : Rel K H0 P0 H' P o σ ρ where
  sub := R.sub
  tr0 := R.tr0
  tr := fun a h => let ⟨u, q⟩ := R.tr a h; ⟨u, e a u q⟩
  same := R.same.trans e
  own := fun i hi => by
    obtain ⟨a, xs, ds, h1, h2, h3, h4, h5, h6⟩ := R.own i hi
    exact ⟨a, xs, ds, h1, h2, h3, h4, e _ _ h5, h6.same e⟩
  dis := R.dis
  dat := fun i d hi h => let ⟨v, h1, h2⟩ := R.dat i d hi h; ⟨v, h1, h2.same e⟩
  len := R.len
  tab := R.tab.ext e
  tp := fun n => ⟨(R.tp n).1, fun a z ps q => by
    obtain ⟨u, hu⟩ := R.tr a z
    have := e a u hu
    rw [q] at this; cases this
    exact (R.tp n).2 a z ps hu⟩
theorem Rel.read (R : Rel K H0 P0 H P o σ ρ) {i : Nat} {d : PyData} (h : ρ[i]? = some (some d)) : ∃ v, σ[i]? = some (some v) ∧ Dr K H P v d := by
  by_cases hi : i ∈ o
  · obtain ⟨a, xs, ds, h1, h2, h3, h4, h5, h6⟩ := R.own i hi
    rw [h] at h2; cases h2
    exact ⟨_, h1, h6.dr h5⟩
  · obtain ⟨v, h1, h2⟩ := R.dat i d hi h
    exact ⟨v, h1, .inl h2⟩
/-- a new object is not private -/
theorem Rel.newP (R : Rel K H0 P0 H P o σ ρ) {p : Addr} (h : H p = none) : ¬ P p := fun z => by
  obtain ⟨u, q⟩ := R.tr p z
  rw [h] at q; cases q
end
theorem same_upd {H : Hp} {p : Addr} (h : H p = none) (u : HO) : Same H (upd H p u) := fun b w q => by rw [upd_ne (ne_of_none q h)]; exact q

/-! ### judgements -/
/-- a value that nothing private is in -/
def tV (K : PySem.W.Frag) (o : List Nat) (f : Rho → Option PyData) : TE := fun σ H Q => ∃ H0 P0 P ρ d, Rel K H0 P0 H P o σ ρ ∧ f ρ = some d ∧ ∀ v H', Same H H' → Dq K H' P v d → Q v H'
/-- a value that is read at once -/
def tR (K : PySem.W.Frag) (o : List Nat) (f : Rho → Option PyData) : TE := fun σ H Q => ∃ H0 P0 P ρ d, Rel K H0 P0 H P o σ ρ ∧ f ρ = some d ∧ ∀ v H', Same H H' → Dr K H' P v d → Q v H'
/-- a list that stands at a new place -/
def tN (K : PySem.W.Frag) (o : List Nat) (f : Rho → Option (List PyData)) : TE := fun σ H Q => ∃ H0 P0 P ρ ds, Rel K H0 P0 H P o σ ρ ∧ f ρ = some ds ∧
  ∀ p xs H', Same H H' → H p = none → H' p = some (.lst xs) → DqA K H' (fun a => a = p ∨ P a) xs ds → Q (.ref p) H'
def tT (K : PySem.W.Frag) (o : List Nat) (f : Rho → Option Bool) : TT := fun σ H Q => ∃ H0 P0 P ρ b, Rel K H0 P0 H P o σ ρ ∧ f ρ = some b ∧ ∀ H', Same H H' → Q b H'
def tAs (K : PySem.W.Frag) (o : List Nat) (f : Rho → Option (List PyData)) : TA := fun σ H Q => ∃ H0 P0 P ρ ds, Rel K H0 P0 H P o σ ρ ∧ f ρ = some ds ∧ ∀ vs H', Same H H' → DqA K H' P vs ds → Q vs H'
abbrev EV (X : Cx) (o : List Nat) (e : Expr) (f : Rho → Option PyData) : Prop := PE X e (tV X.K o f)
abbrev ER (X : Cx) (o : List Nat) (e : Expr) (f : Rho → Option PyData) : Prop := PE X e (tR X.K o f)
abbrev EN (X : Cx) (o : List Nat) (e : Expr) (f : Rho → Option (List PyData)) : Prop := PE X e (tN X.K o f)
abbrev ET (X : Cx) (o : List Nat) (e : Expr) (f : Rho → Option Bool) : Prop := PT X e (tT X.K o f)
abbrev EW (X : Cx) (o : List Nat) (e : Expr) (f : Rho → Option Bool) : Prop := PW X e (tT X.K o f)
abbrev EA (X : Cx) (o : List Nat) (es : List Expr) (f : Rho → Option (List PyData)) : Prop := PA X es (tAs X.K o f)

section
variable {X : Cx} {e : Expr} {es : List Expr} {st : Stmt} {sts : List Stmt}
theorem PE.imp {t t' : TE} (h : PE X e t) (i : ∀ σ H Q, t' σ H Q → t σ H Q) : PE X e t' := ⟨fun pins s σ H Q I q => h.run pins s σ H Q I (i σ H Q q)⟩
theorem PT.imp {t t' : TT} (h : PT X e t) (i : ∀ σ H Q, t' σ H Q → t σ H Q) : PT X e t' := ⟨fun pins s σ H Q I q => h.run pins s σ H Q I (i σ H Q q)⟩
theorem PW.imp {t t' : TT} (h : PW X e t) (i : ∀ σ H Q, t' σ H Q → t σ H Q) : PW X e t' := ⟨fun wh pins s σ H Q I q => h.run wh pins s σ H Q I (i σ H Q q)⟩
theorem PA.imp {t t' : TA} (h : PA X es t) (i : ∀ σ H Q, t' σ H Q → t σ H Q) : PA X es t' := ⟨fun pos pins s σ H Q I q => h.run pos pins s σ H Q I (i σ H Q q)⟩
theorem PS.imp {t t' : TS} (h : PS X st t) (i : ∀ D σ H, t' D σ H → t D σ H) : PS X st t' := ⟨fun pins s σ H D I q => h.run pins s σ H D I (i D σ H q)⟩
theorem PSs.imp {t t' : TS} (h : PSs X sts t) (i : ∀ D σ H, t' D σ H → t D σ H) : PSs X sts t' := ⟨fun pins s σ H D I q => h.run pins s σ H D I (i D σ H q)⟩
variable {o : List Nat} {f : Rho → Option PyData}
theorem EV.r (h : EV X o e f) : ER X o e f := PE.imp h fun σ H Q ⟨H0, P0, P, ρ, d, R, e, q⟩ => ⟨H0, P0, P, ρ, d, R, e, fun v H' s z => q v H' s (.inl z)⟩
def eL (g : Rho → Option (List PyData)) : Rho → Option PyData := fun ρ => (g ρ).map PyData.list
theorem EN.v {g : Rho → Option (List PyData)} (h : EN X o e g) : EV X o e (eL g) := PE.imp h fun σ H Q ⟨H0, P0, P, ρ, d, R, e, q⟩ => by
  unfold eL at e
  cases eg : g ρ with
  | none => rw [eg] at e; cases e
  | some ds =>
    rw [eg] at e; cases e
    refine ⟨H0, P0, P, ρ, ds, R, eg, fun p xs H' s n hp t => q _ H' s ?_⟩
    exact .lst hp (R.newP n) (t.anti fun a z => .inr z)

/-! ### names, constants -/
def eVar (i : Nat) : Rho → Option PyData := fun ρ => ρ.getD i none
theorem eVar_some {i : Nat} {ρ : Rho} {d : PyData} (e : eVar i ρ = some d) : ρ[i]? = some (some d) := by
  unfold eVar at e
  rw [List.getD_eq_getElem?_getD] at e
  cases z : ρ[i]? with
  | none => rw [z] at e; cases e
  | some u => rw [z] at e; simpa using e
def eC (d : PyData) : Rho → Option PyData := fun _ => some d
/-- x, read -/
theorem er_var (i : Nat) {x : Str} {pos : Pos} (h : PE X (.Name x pos) (tVar i)) : ER X o (.Name x pos) (eVar i) := PE.imp h fun σ H Q ⟨H0, P0, P, ρ, d, R, e, q⟩ => by
  have e' := eVar_some e
  obtain ⟨v, h1, h2⟩ := R.read e'
  exact ⟨v, h1, q v H (Same.refl H) h2⟩
/-- x, no list of one's own -/
theorem ev_var (i : Nat) {x : Str} {pos : Pos} (h : PE X (.Name x pos) (tVar i)) (hi : i ∉ o := by decide) : EV X o (.Name x pos) (eVar i) := PE.imp h fun σ H Q ⟨H0, P0, P, ρ, d, R, e, q⟩ => by
  have e' := eVar_some e
  obtain ⟨v, h1, h2⟩ := R.dat i d hi e'
  exact ⟨v, h1, q v H (Same.refl H) h2⟩
theorem ev_int {i : Int} {j pos} : EV X o (.Constant (.int i) j pos) (eC (.int i)) := PE.imp pe_int fun σ H Q ⟨H0, P0, P, ρ, d, R, e, q⟩ => by cases e; exact q _ H (Same.refl H) (.int i)
theorem ev_bl {i : Bool} {j pos} : EV X o (.Constant (.bool i) j pos) (eC (.bool i)) := PE.imp pe_bl fun σ H Q ⟨H0, P0, P, ρ, d, R, e, q⟩ => by cases e; exact q _ H (Same.refl H) (.bl i)
theorem ev_str {i : Str} {j pos} : EV X o (.Constant (.str i) j pos) (eC (.str i)) := PE.imp pe_str fun σ H Q ⟨H0, P0, P, ρ, d, R, e, q⟩ => by cases e; exact q _ H (Same.refl H) (.str i)
theorem ev_non {j pos} : EV X o (.Constant .none j pos) (eC .none) := PE.imp pe_non fun σ H Q ⟨H0, P0, P, ρ, d, R, e, q⟩ => by cases e; exact q _ H (Same.refl H) .non
/-- a module's constant: an int, a text -/
theorem ev_globI {x : Str} {i : Int} {t : Tok} {pos : Pos} (hg : Gl X x) (hm : X.mg x = some (.int i t)) (hd : (x == ("__debug__" : Str)) = false := by decide) : EV X o (.Name x pos) (eC (.int i)) :=
  PE.imp (pe_glob hg hm (v := .int i) ⟨t, rfl⟩ hd) fun σ H Q ⟨H0, P0, P, ρ, d, R, e, q⟩ => by cases e; exact q _ H (Same.refl H) (.int i)
theorem ev_globS {x : Str} {i : Str} {t : Tok} {pos : Pos} (hg : Gl X x) (hm : X.mg x = some (.str i t)) (hd : (x == ("__debug__" : Str)) = false := by decide) : EV X o (.Name x pos) (eC (.str i)) :=
  PE.imp (pe_glob hg hm (v := .str i) ⟨t, rfl⟩ hd) fun σ H Q ⟨H0, P0, P, ρ, d, R, e, q⟩ => by cases e; exact q _ H (Same.refl H) (.str i)

/-! ### two expressions, a rule by values -/
/-- by values: g of the data -/
def rF (K : PySem.W.Frag) (g : PyData → PyData → Option PyData) : R2 := fun x y H Q => ∃ P dx dy d, (∀ a, P a → ∃ u, H a = some u) ∧ Dr K H P x dx ∧ Dr K H P y dy ∧ g dx dy = some d ∧ ∀ v H', Same H H' → Dq K H' P v d → Q v H'
/-- .. a new list -/
def rFN (K : PySem.W.Frag) (g : PyData → PyData → Option (List PyData)) : R2 := fun x y H Q => ∃ P dx dy ds, (∀ a, P a → ∃ u, H a = some u) ∧ Dr K H P x dx ∧ Dr K H P y dy ∧ g dx dy = some ds ∧
  ∀ p xs H', Same H H' → H p = none → H' p = some (.lst xs) → DqA K H' (fun a => a = p ∨ P a) xs ds → Q (.ref p) H'
theorem OpR.imp {f : Value → Value → Sem Value} {r r' : R2} (h : OpR X f r) (i : ∀ x y H Q, r' x y H Q → r x y H Q) : OpR X f r' := fun pins s σ H x y v u Q I rx ry q => h pins s σ H x y v u Q I rx ry (i x y H Q q)
theorem IxR.imp {r r' : R2} (h : IxR X r) (i : ∀ x y H Q, r' x y H Q → r x y H Q) : IxR X r' := fun va sl pins s σ H x y v u Q I rx ry q hs => h va sl pins s σ H x y v u Q I rx ry (i x y H Q q) hs
theorem CallR.imp {f : Value} {r r' : List V → Hp → VK → Prop} (h : CallR X f r) (i : ∀ x H Q, r' x H Q → r x H Q) : CallR X f r' := fun pins s σ H vs us Q I r q => h pins s σ H vs us Q I r (i vs H Q q)

variable {a b : Expr} {fa fb : Rho → Option PyData} {pos : Pos}
def e2 {α : Type} (fa fb : Rho → Option PyData) (g : PyData → PyData → Option α) : Rho → Option α := fun ρ => (fa ρ).bind fun x => (fb ρ).bind fun y => g x y
theorem e2_some {α : Type} {g : PyData → PyData → Option α} {ρ : Rho} {d : α} (h : e2 fa fb g ρ = some d) : ∃ x y, fa ρ = some x ∧ fb ρ = some y ∧ g x y = some d := by
  unfold e2 at h
  cases ea : fa ρ with
  | none => rw [ea] at h; cases h
  | some x =>
    cases eb : fb ρ with
    | none => rw [ea, eb] at h; cases h
    | some y => rw [ea, eb] at h; exact ⟨x, y, rfl, rfl, h⟩
theorem t2_of {K : PySem.W.Frag} {g : PyData → PyData → Option PyData} {σ : St} {H : Hp} {Q : VK} (h : tV K o (e2 fa fb g) σ H Q) : tOp (rF K g) (tR K o fa) (tR K o fb) σ H Q := by
  obtain ⟨H0, P0, P, ρ, d, R, e, q⟩ := h
  obtain ⟨x, y, ha, hb, hg⟩ := e2_some e
  refine ⟨H0, P0, P, ρ, x, R, ha, fun v H1 s1 r1 => ?_⟩
  refine ⟨H0, P0, P, ρ, y, R.go s1, hb, fun u H2 s2 r2 => ?_⟩
  exact ⟨P, x, y, d, (R.go (s1.trans s2)).tr, r1.same s2, r2, hg, fun z H' s3 r3 => q z H' (s1.trans (s2.trans s3)) r3⟩
theorem t2N_of {K : PySem.W.Frag} {g : PyData → PyData → Option (List PyData)} {σ : St} {H : Hp} {Q : VK} (h : tN K o (e2 fa fb g) σ H Q) : tOp (rFN K g) (tR K o fa) (tR K o fb) σ H Q := by
  obtain ⟨H0, P0, P, ρ, d, R, e, q⟩ := h
  obtain ⟨x, y, ha, hb, hg⟩ := e2_some e
  refine ⟨H0, P0, P, ρ, x, R, ha, fun v H1 s1 r1 => ?_⟩
  refine ⟨H0, P0, P, ρ, y, R.go s1, hb, fun u H2 s2 r2 => ?_⟩
  exact ⟨P, x, y, d, (R.go (s1.trans s2)).tr, r1.same s2, r2, hg, fun p xs H' s3 n hp t => q p xs H' (s1.trans (s2.trans s3)) ((s1.trans s2).free n) hp t⟩
theorem ev_bin {op : Operator} {g : PyData → PyData → Option PyData} (ho : OpR X (binaryOp op) (rF X.K g)) (ha : ER X o a fa) (hb : ER X o b fb) : EV X o (.BinOp a op b pos) (e2 fa fb g) :=
  PE.imp (pe_op ho ha hb) fun σ H Q h => t2_of h
theorem en_bin {op : Operator} {g : PyData → PyData → Option (List PyData)} (ho : OpR X (binaryOp op) (rFN X.K g)) (ha : ER X o a fa) (hb : ER X o b fb) : EN X o (.BinOp a op b pos) (e2 fa fb g) :=
  PE.imp (pe_op ho ha hb) fun σ H Q h => t2N_of h
/-- a comparison gives a truth -/
def rFB (K : PySem.W.Frag) (g : PyData → PyData → Option Bool) : R2 := fun x y H Q => ∃ P dx dy d, (∀ a, P a → ∃ u, H a = some u) ∧ Dr K H P x dx ∧ Dr K H P y dy ∧ g dx dy = some d ∧ Q (.bl d) H
def eB (f : Rho → Option Bool) : Rho → Option PyData := fun ρ => (f ρ).map PyData.bool
theorem eB_some {f : Rho → Option Bool} {ρ : Rho} {d : PyData} (h : eB f ρ = some d) : ∃ b, f ρ = some b ∧ d = .bool b := by
  unfold eB at h
  cases e : f ρ with
  | none => rw [e] at h; cases h
  | some b => rw [e] at h; cases h; exact ⟨b, rfl, rfl⟩
theorem cmpB_of {K : PySem.W.Frag} {g : PyData → PyData → Option Bool} {σ : St} {H : Hp} {Q : VK} (h : tV K o (eB (e2 fa fb g)) σ H Q) : tOp (rFB K g) (tR K o fa) (tR K o fb) σ H Q := by
  obtain ⟨H0, P0, P, ρ, d, R, e, q⟩ := h
  obtain ⟨c, e', rfl⟩ := eB_some e
  clear e
  have e := e'
  clear e'
  obtain ⟨x, y, ha, hb, hg⟩ := e2_some e
  refine ⟨H0, P0, P, ρ, x, R, ha, fun v H1 s1 r1 => ?_⟩
  refine ⟨H0, P0, P, ρ, y, R.go s1, hb, fun u H2 s2 r2 => ?_⟩
  exact ⟨P, x, y, c, (R.go (s1.trans s2)).tr, r1.same s2, r2, hg, q _ _ (s1.trans s2) (.bl c)⟩
theorem cmpT_of {K : PySem.W.Frag} {g : PyData → PyData → Option Bool} {σ : St} {H : Hp} {Q : Bool → Hp → Prop} (h : tT K o (e2 fa fb g) σ H Q) : tTest (tOp (rFB K g) (tR K o fa) (tR K o fb)) σ H Q := by
  obtain ⟨H0, P0, P, ρ, c, R, e, q⟩ := h
  obtain ⟨x, y, ha, hb, hg⟩ := e2_some e
  refine ⟨H0, P0, P, ρ, x, R, ha, fun v H1 s1 r1 => ?_⟩
  refine ⟨H0, P0, P, ρ, y, R.go s1, hb, fun u H2 s2 r2 => ?_⟩
  exact ⟨P, x, y, c, (R.go (s1.trans s2)).tr, r1.same s2, r2, hg, c, rfl, q _ (s1.trans s2)⟩
theorem ev_cmp {op : CmpOp} {g : PyData → PyData → Option Bool} (ho : OpR X (compareOp op) (rFB X.K g)) (ha : ER X o a fa) (hb : ER X o b fb) (hm : behindInMarks op b = false) : EV X o (.Compare a [op] [b] pos) (eB (e2 fa fb g)) :=
  PE.imp (pe_cmpR ho ha hb hm) fun σ H Q h => cmpB_of h
theorem et_cmp {op : CmpOp} {g : PyData → PyData → Option Bool} (ho : OpR X (compareOp op) (rFB X.K g)) (ha : ER X o a fa) (hb : ER X o b fb) (hm : behindInMarks op b = false) : ET X o (.Compare a [op] [b] pos) (e2 fa fb g) :=
  PT.imp (pt_cmpR ho ha hb hm) fun σ H Q h => cmpT_of h
/-- a < b < c -/
def eChain (fa fb fc : Rho → Option PyData) (g g' : PyData → PyData → Option Bool) : Rho → Option Bool := fun ρ => (fa ρ).bind fun x => (fb ρ).bind fun y => (g x y).bind fun k => if k = true then (fc ρ).bind fun z => g' y z else some false
theorem chain_of {K : PySem.W.Frag} {fc : Rho → Option PyData} {g g' : PyData → PyData → Option Bool} {σ : St} {H : Hp} {Q : VK} (h : tV K o (eB (eChain fa fb fc g g')) σ H Q) : tChain (rFB K g) (rFB K g') (tR K o fa) (tR K o fb) (tR K o fc) σ H Q := by
  obtain ⟨H0, P0, P, ρ, d, R, e, q⟩ := h
  obtain ⟨c, e', rfl⟩ := eB_some e
  clear e
  have e := e'
  clear e'
  unfold eChain at e
  cases ea : fa ρ with
  | none => rw [ea] at e; cases e
  | some x =>
  cases eb : fb ρ with
  | none => rw [ea, eb] at e; cases e
  | some y =>
  cases eg : g x y with
  | none => simp [ea, eb, eg] at e
  | some k =>
  rw [ea, eb] at e
  simp only [Option.bind_some, eg] at e
  refine ⟨H0, P0, P, ρ, x, R, ea, fun v H1 s1 r1 => ?_⟩
  refine ⟨H0, P0, P, ρ, y, R.go s1, eb, fun u H2 s2 r2 => ?_⟩
  refine ⟨P, x, y, k, (R.go (s1.trans s2)).tr, r1.same s2, r2, eg, k, rfl, ?_⟩
  cases k with
  | false => rw [if_neg (by decide)] at e ⊢; cases e; exact q _ _ (s1.trans s2) (.bl false)
  | true =>
    rw [if_pos rfl] at e ⊢
    cases ec : fc ρ with
    | none => rw [ec] at e; cases e
    | some z =>
      rw [ec] at e
      refine ⟨H0, P0, P, ρ, z, R.go (s1.trans s2), ec, fun w H3 s3 r3 => ?_⟩
      exact ⟨P, y, z, c, (R.go (s1.trans (s2.trans s3))).tr, r2.same s3, r3, e, q _ _ (s1.trans (s2.trans s3)) (.bl c)⟩
end
end TF

/-! TFc.lean -/
set_option Elab.async false
set_option linter.all false
set_option maxRecDepth 100000
/-! TF.c: further expressions: subscripts, displays, and or not, calls -/
namespace TF
open PySem PySem.Spec PyProof.Rows L2
variable [OK : OwnK]

section
variable {X : Cx} {o : List Nat} {e a b c : Expr} {es : List Expr} {f fa fb fc : Rho → Option PyData} {pos : Pos}
/-! ### a chain -/
theorem ev_chain {op op' : CmpOp} {g g' : PyData → PyData → Option Bool} (ho : OpR X (compareOp op) (rFB X.K g)) (ho' : OpR X (compareOp op') (rFB X.K g')) (ha : ER X o a fa) (hb : ER X o b fb) (hc : ER X o c fc)
    (hm : lastMarks [op, op'] [b, c] = false := by with_unfolding_all rfl) : EV X o (.Compare a [op, op'] [b, c] pos) (eB (eChain fa fb fc g g')) :=
  PE.imp (pe_chain ho ho' ha hb hc hm) fun σ H Q h => chain_of h
theorem et_chain {op op' : CmpOp} {g g' : PyData → PyData → Option Bool} (ho : OpR X (compareOp op) (rFB X.K g)) (ho' : OpR X (compareOp op') (rFB X.K g')) (ha : ER X o a fa) (hb : ER X o b fb) (hc : ER X o c fc)
    (hm : lastMarks [op, op'] [b, c] = false := by with_unfolding_all rfl) : ET X o (.Compare a [op, op'] [b, c] pos) (eChain fa fb fc g g') :=
  PT.imp (pt_chain ho ho' ha hb hc hm) fun σ H Q ⟨H0, P0, P, ρ, d, R, e, q⟩ => chain_of ⟨H0, P0, P, ρ, .bool d, R, by unfold eB; rw [e]; rfl, fun v H' s t => ⟨d, by cases t; rfl, q H' s⟩⟩

/-! ### subscripts -/
theorem ev_ix {g : PyData → PyData → Option PyData} (hr : IxR X (rF X.K g)) (ha : ER X o a fa) (hb : ER X o b fb) (hs : PlainIx b) : EV X o (.Subscript a b pos) (e2 fa fb g) :=
  PE.imp (pe_ix hr ha hb hs) fun σ H Q h => t2_of h
/-- a slice's part -/
def tPt (K : PySem.W.Frag) (o : List Nat) (f : Rho → Option (Option Int)) : TO := fun σ H Q => ∃ H0 P0 P ρ d, Rel K H0 P0 H P o σ ρ ∧ f ρ = some d ∧ ∀ H', Same H H' → Q d H'
abbrev EO (X : Cx) (o : List Nat) (e : Option Expr) (f : Rho → Option (Option Int)) : Prop := PO X e (tPt X.K o f)
theorem PO.imp {e : Option Expr} {t t' : TO} (h : PO X e t) (i : ∀ σ H Q, t' σ H Q → t σ H Q) : PO X e t' := ⟨fun pins s σ H Q I q => h.run pins s σ H Q I (i σ H Q q)⟩
def eNoPart : Rho → Option (Option Int) := fun _ => some none
def ePart (f : Rho → Option PyData) : Rho → Option (Option Int) := fun ρ => (f ρ).bind fun d => match d with
  | .int i => some (some i)
  | _ => none
theorem eo_none : EO X o none eNoPart := PO.imp po_none fun σ H Q ⟨H0, P0, P, ρ, d, R, e, q⟩ => by cases e; exact q H (Same.refl H)
theorem eo_some (h : ER X o e f) : EO X o (some e) (ePart f) := PO.imp (po_some h) fun σ H Q ⟨H0, P0, P, ρ, d, R, e, q⟩ => by
  unfold ePart at e
  cases ef : f ρ with
  | none => rw [ef] at e; cases e
  | some x =>
    rw [ef] at e
    cases x with
    | int i => cases e; exact ⟨H0, P0, P, ρ, _, R, ef, fun v H' s r => ⟨i, r.int, q H' s⟩⟩
    | _ => cases e
/-- by values: a slice -/
def rFS (K : PySem.W.Frag) (g : PyData → Option Int → Option Int → Option PyData) : V → Option Int → Option Int → Hp → VK → Prop := fun x lo hi H Q => ∃ P dx d, (∀ a, P a → ∃ u, H a = some u) ∧ Dr K H P x dx ∧ g dx lo hi = some d ∧ ∀ v H', Same H H' → Dq K H' P v d → Q v H'
theorem SlR.imp {r r' : V → Option Int → Option Int → Hp → VK → Prop} (h : SlR X r) (i : ∀ x l u H Q, r' x l u H Q → r x l u H Q) : SlR X r' := fun pins s σ H x v vl vu lo hi sl Q I rx hs pl pu q => h pins s σ H x v vl vu lo hi sl Q I rx hs pl pu (i x lo hi H Q q)
def eSl (f : Rho → Option PyData) (l u : Rho → Option (Option Int)) (g : PyData → Option Int → Option Int → Option PyData) : Rho → Option PyData := fun ρ => (f ρ).bind fun x => (l ρ).bind fun i => (u ρ).bind fun j => g x i j
theorem ev_slice {lo hi : Option Expr} {p2 : Pos} {fl fu : Rho → Option (Option Int)} {g : PyData → Option Int → Option Int → Option PyData} (hr : SlR X (rFS X.K g)) (he : ER X o e f) (hl : EO X o lo fl) (hu : EO X o hi fu) : EV X o (.Subscript e (.Slice lo hi none p2) pos) (eSl f fl fu g) :=
  PE.imp (pe_slice hr he hl hu) fun σ H Q ⟨H0, P0, P, ρ, d, R, e, q⟩ => by
    unfold eSl at e
    cases ef : f ρ with
    | none => rw [ef] at e; cases e
    | some x =>
    cases el : fl ρ with
    | none => rw [ef, el] at e; cases e
    | some i =>
    cases eu : fu ρ with
    | none => rw [ef, el, eu] at e; cases e
    | some j =>
    rw [ef, el, eu] at e
    refine ⟨H0, P0, P, ρ, x, R, ef, fun v H1 s1 r1 => ⟨H0, P0, P, ρ, i, R.go s1, el, fun H2 s2 => ⟨H0, P0, P, ρ, j, R.go (s1.trans s2), eu, fun H3 s3 => ?_⟩⟩⟩
    exact ⟨P, x, d, (R.go (s1.trans (s2.trans s3))).tr, r1.same (s2.trans s3), e, fun w H' s4 t => q w H' (s1.trans (s2.trans (s3.trans s4))) t⟩

/-! ### argument lists, displays -/
def aNil : Rho → Option (List PyData) := fun _ => some []
def aCons (f : Rho → Option PyData) (g : Rho → Option (List PyData)) : Rho → Option (List PyData) := fun ρ => (f ρ).bind fun x => (g ρ).bind fun xs => some (x :: xs)
theorem aCons_some {g : Rho → Option (List PyData)} {ρ : Rho} {ds : List PyData} (h : aCons f g ρ = some ds) : ∃ x xs, f ρ = some x ∧ g ρ = some xs ∧ ds = x :: xs := by
  unfold aCons at h
  cases ef : f ρ with
  | none => rw [ef] at h; cases h
  | some x =>
    cases eg : g ρ with
    | none => rw [ef, eg] at h; cases h
    | some xs => rw [ef, eg] at h; cases h; exact ⟨x, xs, rfl, rfl, rfl⟩
theorem ea_nil : EA X o [] aNil := PA.imp pa_nil fun σ H Q ⟨H0, P0, P, ρ, d, R, e, q⟩ => by cases e; exact q [] H (Same.refl H) .nil
theorem ea_cons {g : Rho → Option (List PyData)} (he : EV X o e f) (h : EA X o es g) (hs : starEach (e :: es) X.env = (false, eval e X.env) :: starEach es X.env := by rfl) : EA X o (e :: es) (aCons f g) :=
  PA.imp (pa_cons he h hs) fun σ H Q ⟨H0, P0, P, ρ, d, R, e, q⟩ => by
    obtain ⟨x, xs, ef, eg, rfl⟩ := aCons_some e
    refine ⟨H0, P0, P, ρ, x, R, ef, fun v H1 s1 r1 => ⟨H0, P0, P, ρ, xs, R.go s1, eg, fun vs H2 s2 r2 => ?_⟩⟩
    exact q _ H2 (s1.trans s2) (.cons (r1.same s2) r2)
def eTup (g : Rho → Option (List PyData)) : Rho → Option PyData := fun ρ => (g ρ).bind fun ds => if ds.length ≤ 1000 then some (.tuple ds) else none
def eLst (g : Rho → Option (List PyData)) : Rho → Option (List PyData) := fun ρ => (g ρ).bind fun ds => if ds.length ≤ 1000 then some ds else none
theorem ev_tup {g : Rho → Option (List PyData)} (h : EA X o es g) {x1} : EV X o (.Tuple es x1 pos) (eTup g) := PE.imp (pe_tupF h) fun σ H Q ⟨H0, P0, P, ρ, d, R, e, q⟩ => by
  unfold eTup at e
  cases eg : g ρ with
  | none => rw [eg] at e; cases e
  | some ds =>
    rw [eg] at e
    have e : (if ds.length ≤ 1000 then some (PyData.tuple ds) else none) = some d := e
    by_cases hz : ds.length ≤ 1000
    · rw [if_pos hz] at e
      cases e
      refine ⟨H0, P0, P, ρ, ds, R, eg, fun vs H1 s1 r1 => ⟨Nat.le_of_lt (small1000 (by rw [r1.length]; exact hz)), fun p its hp => ?_⟩⟩
      exact q _ _ (s1.trans (same_upd hp _)) (.tup upd_same ((R.go s1).newP hp) (r1.same (same_upd hp _)))
    · rw [if_neg hz] at e; cases e
theorem en_lst {g : Rho → Option (List PyData)} (h : EA X o es g) : EN X o (.List es pos) (eLst g) := PE.imp (pe_lst h) fun σ H Q ⟨H0, P0, P, ρ, d, R, e, q⟩ => by
  unfold eLst at e
  cases eg : g ρ with
  | none => rw [eg] at e; cases e
  | some ds =>
    rw [eg] at e
    have e : (if ds.length ≤ 1000 then some ds else none) = some d := e
    by_cases hz : ds.length ≤ 1000
    · rw [if_pos hz] at e
      cases e
      refine ⟨H0, P0, P, ρ, d, R, eg, fun vs H1 s1 r1 => ⟨Nat.le_of_lt (small1000 (by rw [r1.length]; exact hz)), fun p hp => ?_⟩⟩
      refine q _ _ _ (s1.trans (same_upd hp _)) (s1.free hp) upd_same (r1.mono fun a u z n _ => ⟨same_upd hp _ a u z, ?_⟩)
      rintro (rfl | z')
      · rw [hp] at z; cases z
      · exact n z'
    · rw [if_neg hz] at e; cases e

/-! ### and, or, not, if -/
def tAnd (fa fb : Rho → Option Bool) : Rho → Option Bool := fun ρ => (fa ρ).bind fun c => if c = true then fb ρ else some false
def tOr (fa fb : Rho → Option Bool) : Rho → Option Bool := fun ρ => (fa ρ).bind fun c => if c = true then some true else fb ρ
def tNot (fa : Rho → Option Bool) : Rho → Option Bool := fun ρ => (fa ρ).bind fun c => some (!c)
variable {ga gb : Rho → Option Bool} {rest : List Expr}
theorem ew_and1 (ha : ET X o a ga) : EW X o (.BoolOp .And [a] pos) ga := pw_and1 ha
theorem ew_or1 (ha : ET X o a ga) : EW X o (.BoolOp .Or [a] pos) ga := pw_or1 ha
theorem ew_and (ha : ET X o a ga) (hb : EW X o (.BoolOp .And (b :: rest) pos) gb) : EW X o (.BoolOp .And (a :: b :: rest) pos) (tAnd ga gb) := PW.imp (pw_and ha hb) fun σ H Q ⟨H0, P0, P, ρ, d, R, e, q⟩ => by
  unfold tAnd at e
  cases ea : ga ρ with
  | none => rw [ea] at e; cases e
  | some c =>
    rw [ea] at e
    refine ⟨H0, P0, P, ρ, c, R, ea, fun H1 s1 => ?_⟩
    cases c with
    | true => exact iteT ⟨H0, P0, P, ρ, d, R.go s1, e, fun H2 s2 => q H2 (s1.trans s2)⟩
    | false => cases e; exact iteF (q H1 s1)
theorem ew_or (ha : ET X o a ga) (hb : EW X o (.BoolOp .Or (b :: rest) pos) gb) : EW X o (.BoolOp .Or (a :: b :: rest) pos) (tOr ga gb) := PW.imp (pw_or ha hb) fun σ H Q ⟨H0, P0, P, ρ, d, R, e, q⟩ => by
  unfold tOr at e
  cases ea : ga ρ with
  | none => rw [ea] at e; cases e
  | some c =>
    rw [ea] at e
    refine ⟨H0, P0, P, ρ, c, R, ea, fun H1 s1 => ?_⟩
    cases c with
    | false => exact iteF ⟨H0, P0, P, ρ, d, R.go s1, e, fun H2 s2 => q H2 (s1.trans s2)⟩
    | true => cases e; exact iteT (q H1 s1)
theorem et_not (ha : ET X o a ga) : ET X o (.UnaryOp .Not a pos) (tNot ga) := PT.imp (pt_not ha) fun σ H Q ⟨H0, P0, P, ρ, d, R, e, q⟩ => by
  unfold tNot at e
  cases ea : ga ρ with
  | none => rw [ea] at e; cases e
  | some c => rw [ea] at e; cases e; exact ⟨H0, P0, P, ρ, c, R, ea, fun H1 s1 => q H1 s1⟩
/-- .. as values -/
def dB : PyData → Option Bool
  | .bool b => some b
  | _ => none
def vAnd (fa fb : Rho → Option PyData) : Rho → Option PyData := fun ρ => ((fa ρ).bind dB).bind fun c => if c = true then fb ρ else some (.bool false)
def vOr (fa fb : Rho → Option PyData) : Rho → Option PyData := fun ρ => ((fa ρ).bind dB).bind fun c => if c = true then some (.bool true) else fb ρ
def vNot (fa : Rho → Option PyData) : Rho → Option PyData := fun ρ => ((fa ρ).bind dB).bind fun c => some (.bool (!c))
theorem dB_some {ρ : Rho} {c : Bool} (h : (f ρ).bind dB = some c) : f ρ = some (.bool c) := by
  cases ef : f ρ with
  | none => rw [ef] at h; cases h
  | some x =>
    rw [ef] at h
    cases x with
    | bool b => cases h; rfl
    | _ => cases h
theorem ev_one {op} (h : EV X o a f) : EV X o (.BoolOp op [a] pos) f := pe_one h
theorem ev_and (ha : ER X o a fa) (hb : EV X o (.BoolOp .And (b :: rest) pos) fb) : EV X o (.BoolOp .And (a :: b :: rest) pos) (vAnd fa fb) := PE.imp (pe_and ha hb) fun σ H Q ⟨H0, P0, P, ρ, d, R, e, q⟩ => by
  unfold vAnd at e
  cases ea : (fa ρ).bind dB with
  | none => rw [ea] at e; cases e
  | some c =>
    rw [ea] at e
    refine ⟨H0, P0, P, ρ, _, R, dB_some ea, fun v H1 s1 r1 => ⟨c, r1.bl, ?_⟩⟩
    cases c with
    | true => exact iteT ⟨H0, P0, P, ρ, d, R.go s1, e, fun v H2 s2 t => q v H2 (s1.trans s2) t⟩
    | false => cases e; exact iteF (q _ H1 s1 (.bl false))
theorem ev_or (ha : ER X o a fa) (hb : EV X o (.BoolOp .Or (b :: rest) pos) fb) : EV X o (.BoolOp .Or (a :: b :: rest) pos) (vOr fa fb) := PE.imp (pe_or ha hb) fun σ H Q ⟨H0, P0, P, ρ, d, R, e, q⟩ => by
  unfold vOr at e
  cases ea : (fa ρ).bind dB with
  | none => rw [ea] at e; cases e
  | some c =>
    rw [ea] at e
    refine ⟨H0, P0, P, ρ, _, R, dB_some ea, fun v H1 s1 r1 => ⟨c, r1.bl, ?_⟩⟩
    cases c with
    | false => exact iteF ⟨H0, P0, P, ρ, d, R.go s1, e, fun v H2 s2 t => q v H2 (s1.trans s2) t⟩
    | true => cases e; exact iteT (q _ H1 s1 (.bl true))
theorem ev_not (ha : ER X o a fa) : EV X o (.UnaryOp .Not a pos) (vNot fa) := PE.imp (pe_not ha) fun σ H Q ⟨H0, P0, P, ρ, d, R, e, q⟩ => by
  unfold vNot at e
  cases ea : (fa ρ).bind dB with
  | none => rw [ea] at e; cases e
  | some c => rw [ea] at e; cases e; exact ⟨H0, P0, P, ρ, _, R, dB_some ea, fun v H1 s1 r1 => ⟨c, r1.bl, q _ H1 s1 (.bl _)⟩⟩
def eIf (t : Rho → Option Bool) (fa fb : Rho → Option PyData) : Rho → Option PyData := fun ρ => (t ρ).bind fun c => if c = true then fa ρ else fb ρ
theorem ev_if (hc : ET X o c ga) (ha : EV X o a fa) (hb : EV X o b fb) : EV X o (.IfExp c a b pos) (eIf ga fa fb) := PE.imp (pe_ifExp hc ha hb) fun σ H Q ⟨H0, P0, P, ρ, d, R, e, q⟩ => by
  unfold eIf at e
  cases ea : ga ρ with
  | none => rw [ea] at e; cases e
  | some c =>
    rw [ea] at e
    refine ⟨H0, P0, P, ρ, c, R, ea, fun H1 s1 => ?_⟩
    cases c with
    | true => exact iteT ⟨H0, P0, P, ρ, d, R.go s1, e, fun v H2 s2 t => q v H2 (s1.trans s2) t⟩
    | false => exact iteF ⟨H0, P0, P, ρ, d, R.go s1, e, fun v H2 s2 t => q v H2 (s1.trans s2) t⟩
/-- a value that is a truth, as a test -/
def eT (f : Rho → Option PyData) : Rho → Option Bool := fun ρ => (f ρ).bind dB
theorem et_val (h : ER X o e f) (he : ∀ whole, isTrue e X.env whole = (do let v ← whole; standAt e.pos; holding [v] (truthy v)) := by intro _; rfl) : ET X o e (eT f) := PT.imp (pt_val h he) fun σ H Q ⟨H0, P0, P, ρ, d, R, e, q⟩ =>
  ⟨H0, P0, P, ρ, _, R, dB_some e, fun v H1 s1 r1 => ⟨d, r1.bl, q H1 s1⟩⟩

/-! ### calls -/
/-- what a def of the text promises: the function m of its n arguments -/
def spF (K : PySem.W.Frag) (n : Nat) (m : List PyData → Option PyData) : Sp := fun vs H Q _ => vs.length = n ∧ ∃ (P : Addr → Prop) (ds : List PyData) (d : PyData), (∀ a, P a → ∃ u, H a = some u) ∧ DqA K H P vs ds ∧ m ds = some d ∧ ∀ v H', Same H H' → Dq K H' P v d → Q v H'
def eCall (n : Nat) (m : List PyData → Option PyData) (g : Rho → Option (List PyData)) : Rho → Option PyData := fun ρ => (g ρ).bind fun ds => if ds.length = n then m ds else none
theorem ev_call {k n : Nat} {f : Addr} {fd : FuncData} {ps : List Str} {m : List PyData → Option PyData} {x : Str} {p : Pos} {g : Rho → Option (List PyData)} (F : FnOk X.prog X.w X.K X.mg X.base CX0 k f fd ps (spF X.K n m)) (hr : Room k X.A) (hm : X.mg x = some (.ref f)) (hk : PySem.W.keepIn X.K (.ref f) = true) (hb : Binds X.K fd ps [])
    (ha : EA X o (e :: es) g) (hg : Gl X x := by rfl) (hdb : (x == ("__debug__" : Str)) = false := by decide) (he : starEach (e :: es) X.env = (false, eval e X.env) :: starEach es X.env := by rfl) (hpl : (backTo pos (starEach es X.env)).any (·.1) = false := by rfl) :
    EV X o (.Call (.Name x p) (e :: es) [] pos) (eCall n m g) :=
  PE.imp (pe_call F hr hg hm hk hb .nil pass0 ha hdb he hpl) fun σ H Q ⟨H0, P0, P, ρ, d, R, e, q⟩ => by
    unfold eCall at e
    cases eg : g ρ with
    | none => rw [eg] at e; cases e
    | some ds =>
      rw [eg] at e
      have e : (if ds.length = n then m ds else none) = some d := e
      by_cases hn : ds.length = n
      · rw [if_pos hn] at e
        refine ⟨H0, P0, P, ρ, ds, R, eg, fun vs H1 s1 r1 => ?_⟩
        show spF X.K n m (vs ++ []) H1 Q E0
        rw [List.append_nil]
        exact ⟨r1.length.trans hn, P, ds, d, (R.go s1).tr, r1, e, fun v H2 s2 t => q v H2 (s1.trans s2) t⟩
      · rw [if_neg hn] at e; cases e
/-- built-ins of one, two arguments -/
def rC1 (K : PySem.W.Frag) (g : PyData → Option PyData) : List V → Hp → VK → Prop := fun vs H Q => ∃ P x dx d, vs = [x] ∧ (∀ a, P a → ∃ u, H a = some u) ∧ Dr K H P x dx ∧ g dx = some d ∧ ∀ v H', Same H H' → Dq K H' P v d → Q v H'
def rC1N (K : PySem.W.Frag) (g : PyData → Option (List PyData)) : List V → Hp → VK → Prop := fun vs H Q => ∃ P x dx d, vs = [x] ∧ (∀ a, P a → ∃ u, H a = some u) ∧ Dr K H P x dx ∧ g dx = some d ∧
  ∀ p xs H', Same H H' → H p = none → H' p = some (.lst xs) → DqA K H' (fun a => a = p ∨ P a) xs d → Q (.ref p) H'
def rC2 (K : PySem.W.Frag) (g : PyData → PyData → Option PyData) : List V → Hp → VK → Prop := fun vs H Q => ∃ P x y dx dy d, vs = [x, y] ∧ (∀ a, P a → ∃ u, H a = some u) ∧ Dr K H P x dx ∧ Dr K H P y dy ∧ g dx dy = some d ∧ ∀ v H', Same H H' → Dq K H' P v d → Q v H'
def e1 {α : Type} (f : Rho → Option PyData) (g : PyData → Option α) : Rho → Option α := fun ρ => (f ρ).bind g
theorem e1_some {α : Type} {g : PyData → Option α} {ρ : Rho} {d : α} (h : e1 f g ρ = some d) : ∃ x, f ρ = some x ∧ g x = some d := by
  unfold e1 at h
  cases ef : f ρ with
  | none => rw [ef] at h; cases h
  | some x => rw [ef] at h; exact ⟨x, rfl, h⟩
theorem c1_of {K : PySem.W.Frag} {g : PyData → Option PyData} {σ : St} {H : Hp} {Q : VK} (h : tV K o (e1 f g) σ H Q) : tCB (rC1 K g) (tCons (tR K o f) tNil) σ H Q := by
  obtain ⟨H0, P0, P, ρ, d, R, e, q⟩ := h
  obtain ⟨x, ef, eg⟩ := e1_some e
  exact ⟨H0, P0, P, ρ, x, R, ef, fun v H1 s1 r1 => ⟨P, v, x, d, rfl, (R.go s1).tr, r1, eg, fun w H' s2 t => q w H' (s1.trans s2) t⟩⟩
theorem c1N_of {K : PySem.W.Frag} {g : PyData → Option (List PyData)} {σ : St} {H : Hp} {Q : VK} (h : tN K o (e1 f g) σ H Q) : tCB (rC1N K g) (tCons (tR K o f) tNil) σ H Q := by
  obtain ⟨H0, P0, P, ρ, d, R, e, q⟩ := h
  obtain ⟨x, ef, eg⟩ := e1_some e
  exact ⟨H0, P0, P, ρ, x, R, ef, fun v H1 s1 r1 => ⟨P, v, x, d, rfl, (R.go s1).tr, r1, eg, fun p xs H' s2 n hp t => q p xs H' (s1.trans s2) (s1.free n) hp t⟩⟩
theorem c2_of {K : PySem.W.Frag} {g : PyData → PyData → Option PyData} {σ : St} {H : Hp} {Q : VK} (h : tV K o (e2 fa fb g) σ H Q) : tCB (rC2 K g) (tCons (tR K o fa) (tCons (tR K o fb) tNil)) σ H Q := by
  obtain ⟨H0, P0, P, ρ, d, R, e, q⟩ := h
  obtain ⟨x, y, ea, eb, eg⟩ := e2_some e
  exact ⟨H0, P0, P, ρ, x, R, ea, fun v H1 s1 r1 => ⟨H0, P0, P, ρ, y, R.go s1, eb, fun u H2 s2 r2 => ⟨P, v, u, x, y, d, rfl, (R.go (s1.trans s2)).tr, r1.same s2, r2, eg, fun w H' s3 t => q w H' (s1.trans (s2.trans s3)) t⟩⟩⟩
variable {x : Str} {p : Pos} {id T : String}
theorem ev_cb1 {g : PyData → Option PyData} (hc : CallR X (.builtin id) (rC1 X.K g)) (hm : X.mg x = none) (hv : bootBuiltins x = some (.builtin id)) (ha : ER X o e f) (hg : Gl X x := by rfl) (hn : x ≠ "__name__" := by decide) (hdb : (x == ("__debug__" : Str)) = false := by decide)
    (he : starEach [e] X.env = (false, eval e X.env) :: starEach [] X.env := by rfl) (hpl : (backTo pos (starEach [] X.env)).any (·.1) = false := by rfl) : EV X o (.Call (.Name x p) [e] [] pos) (e1 f g) :=
  PE.imp (pe_callB hc hg hm hv (pa_cons ha pa_nil he) hn hdb he hpl) fun σ H Q h => c1_of h
theorem en_cb1 {g : PyData → Option (List PyData)} (hc : CallR X (.builtin id) (rC1N X.K g)) (hm : X.mg x = none) (hv : bootBuiltins x = some (.builtin id)) (ha : ER X o e f) (hg : Gl X x := by rfl) (hn : x ≠ "__name__" := by decide) (hdb : (x == ("__debug__" : Str)) = false := by decide)
    (he : starEach [e] X.env = (false, eval e X.env) :: starEach [] X.env := by rfl) (hpl : (backTo pos (starEach [] X.env)).any (·.1) = false := by rfl) : EN X o (.Call (.Name x p) [e] [] pos) (e1 f g) :=
  PE.imp (pe_callB hc hg hm hv (pa_cons ha pa_nil he) hn hdb he hpl) fun σ H Q h => c1N_of h
theorem ev_ct1 {g : PyData → Option PyData} (hc : CallR X (.type T) (rC1 X.K g)) (hm : X.mg x = none) (hv : bootBuiltins x = some (.type T)) (ha : ER X o e f) (hg : Gl X x := by rfl) (hn : x ≠ "__name__" := by decide) (hdb : (x == ("__debug__" : Str)) = false := by decide)
    (he : starEach [e] X.env = (false, eval e X.env) :: starEach [] X.env := by rfl) (hpl : (backTo pos (starEach [] X.env)).any (·.1) = false := by rfl) : EV X o (.Call (.Name x p) [e] [] pos) (e1 f g) :=
  PE.imp (pe_callTy hc hg hm hv (pa_cons ha pa_nil he) hn hdb he hpl) fun σ H Q h => c1_of h
theorem en_ct1 {g : PyData → Option (List PyData)} (hc : CallR X (.type T) (rC1N X.K g)) (hm : X.mg x = none) (hv : bootBuiltins x = some (.type T)) (ha : ER X o e f) (hg : Gl X x := by rfl) (hn : x ≠ "__name__" := by decide) (hdb : (x == ("__debug__" : Str)) = false := by decide)
    (he : starEach [e] X.env = (false, eval e X.env) :: starEach [] X.env := by rfl) (hpl : (backTo pos (starEach [] X.env)).any (·.1) = false := by rfl) : EN X o (.Call (.Name x p) [e] [] pos) (e1 f g) :=
  PE.imp (pe_callTy hc hg hm hv (pa_cons ha pa_nil he) hn hdb he hpl) fun σ H Q h => c1N_of h
theorem ev_cb2 {g : PyData → PyData → Option PyData} (hc : CallR X (.builtin id) (rC2 X.K g)) (hm : X.mg x = none) (hv : bootBuiltins x = some (.builtin id)) (ha : ER X o a fa) (hb : ER X o b fb) (hg : Gl X x := by rfl) (hn : x ≠ "__name__" := by decide) (hdb : (x == ("__debug__" : Str)) = false := by decide)
    (he : starEach [a, b] X.env = (false, eval a X.env) :: starEach [b] X.env := by rfl) (hs : starEach [b] X.env = (false, eval b X.env) :: starEach [] X.env := by rfl) (hpl : (backTo pos (starEach [b] X.env)).any (·.1) = false := by rfl) : EV X o (.Call (.Name x p) [a, b] [] pos) (e2 fa fb g) :=
  PE.imp (pe_callB hc hg hm hv (pa_cons ha (pa_cons hb pa_nil hs) he) hn hdb he hpl) fun σ H Q h => c2_of h
end
end TF

/-! TFd.lean -/
set_option Elab.async false
set_option linter.all false
set_option maxRecDepth 100000
/-! TF.d: statements, loops, comprehensions, defs -/
namespace TF
open PySem PySem.Spec PyProof.Rows L2
variable [OK : OwnK]

theorem Lt.refl (H : Hp) (P : Addr → Prop) : Lt H P H P := fun _ _ h n _ => ⟨h, n⟩
theorem Lt.trans {H H1 H2 : Hp} {P P1 P2 : Addr → Prop} (a : Lt H P H1 P1) (b : Lt H1 P1 H2 P2) : Lt H P H2 P2 := fun x u h n t => b x u (a x u h n t).1 (a x u h n t).2 t
theorem Lt.same {H H' : Hp} (P : Addr → Prop) (e : Same H H') : Lt H P H' P := fun a u h n _ => ⟨e a u h, n⟩

section
variable {K : PySem.W.Frag} {H0 H H' : Hp} {P0 P : Addr → Prop} {o : List Nat} {σ : St} {ρ : Rho}
theorem set_get {α : Type} {l : List α} {i j : Nat} {x : α} (h : j ≠ i) : (l.set i x)[j]? = l[j]? := List.getElem?_set_ne (Ne.symm h)
theorem Rel.set (R : Rel K H0 P0 H P o σ ρ) {i : Nat} (hi : i ∉ o) {v : V} {d : PyData} (h : Dq K H P v d) : Rel K H0 P0 H P o (σ.set i (some v)) (ρ.set i (some d)) where
  sub := R.sub
  tr0 := R.tr0
  tr := R.tr
  same := R.same
  own := fun j hj => by
    have ne : j ≠ i := fun e => hi (e ▸ hj)
    obtain ⟨a, u, d', h1, h2, r⟩ := R.own j hj
    exact ⟨a, u, d', (set_get ne).trans h1, (set_get ne).trans h2, r⟩
  dis := fun j k a b hj hk ne e1 e2 => by
    have n1 : j ≠ i := fun e => hi (e ▸ hj)
    have n2 : k ≠ i := fun e => hi (e ▸ hk)
    rw [set_get n1] at e1
    rw [set_get n2] at e2
    exact R.dis j k a b hj hk ne e1 e2
  dat := fun j e hj he => by
    by_cases hji : j = i
    · subst hji
      have hl : j < ρ.length := by
        have := (List.getElem?_eq_some_iff.mp he).1
        rw [List.length_set] at this
        exact this
      rw [List.getElem?_set_self hl] at he
      cases he
      exact ⟨v, List.getElem?_set_self (by rw [← R.len]; exact hl), h⟩
    · rw [set_get hji] at he
      obtain ⟨w, h1, h2⟩ := R.dat j e hj he
      exact ⟨w, (set_get hji).trans h1, h2⟩
  len := by rw [List.length_set, List.length_set, R.len]
  tab := R.tab
  tp := R.tp
theorem Rel.forget (R : Rel K H0 P0 H P o σ ρ) {i : Nat} (hi : i ∉ o) : Rel K H0 P0 H P o σ (ρ.set i none) where
  sub := R.sub
  tr0 := R.tr0
  tr := R.tr
  same := R.same
  own := fun j hj => by
    have ne : j ≠ i := fun e => hi (e ▸ hj)
    obtain ⟨a, u, d', h1, h2, r⟩ := R.own j hj
    exact ⟨a, u, d', h1, (set_get ne).trans h2, r⟩
  dis := R.dis
  dat := fun j e hj he => by
    by_cases hji : j = i
    · subst hji
      have hl : j < ρ.length := by
        have := (List.getElem?_eq_some_iff.mp he).1
        rw [List.length_set] at this
        exact this
      rw [List.getElem?_set_self hl] at he
      cases he
    · rw [set_get hji] at he
      exact R.dat j e hj he
  len := by rw [List.length_set, R.len]
  tab := R.tab
  tp := R.tp
/-- forgetting several -/
def clr (ks : List Nat) (ρ : Rho) : Rho := ks.foldl (fun r k => r.set k none) ρ
theorem Rel.clr (R : Rel K H0 P0 H P o σ ρ) {ks : List Nat} (h : ∀ k ∈ ks, k ∉ o) : Rel K H0 P0 H P o σ (clr ks ρ) := by
  induction ks generalizing ρ with
  | nil => exact R
  | cons k ks ih => exact ih (R.forget (h k (by simp))) fun j hj => h j (by simp [hj])
/-- a list of one's own is given away -/
theorem Rel.drop (R : Rel K H0 P0 H P o σ ρ) {o' : List Nat} (s : ∀ i ∈ o', i ∈ o) : ∃ P', Rel K H0 P0 H P' o' σ ρ ∧ Lt H P H P' := by
  have an : ∀ a, (P a ∧ ∀ i, i ∈ o → i ∉ o' → σ[i]? ≠ some (some (.ref a))) → P a := fun a h => h.1
  refine ⟨fun a => P a ∧ ∀ i, i ∈ o → i ∉ o' → σ[i]? ≠ some (some (.ref a)), ⟨fun a h => ⟨R.sub a h, fun i hi hn e => ?_⟩, R.tr0, fun a h => R.tr a h.1, R.same, fun i hi => ?_, fun i j a b hi hj ne e1 e2 => R.dis i j a b (s i hi) (s j hj) ne e1 e2, fun i d hi h => ?_, R.len, R.tab, fun n => ⟨(R.tp n).1, fun a z => (R.tp n).2 a z.1⟩⟩, fun a u h n _ => ⟨h, fun z => n z.1⟩⟩
  · obtain ⟨b, xs, ds, h1, h2, h3, h4, h5, h6⟩ := R.own i hi
    rw [e] at h1
    cases h1
    obtain ⟨u, hu⟩ := R.tr0 a h
    rw [h4] at hu; cases hu
  · obtain ⟨b, w, ds, h1, h2, h3, h4, h5, h6⟩ := R.own i (s i hi)
    exact ⟨b, w, ds, h1, h2, ⟨h3, fun j hj hn e => R.dis i j b b (s i hi) hj (fun z => hn (z ▸ hi)) h1 e rfl⟩, h4, h5, h6.anti an⟩
  · by_cases hio : i ∈ o
    · obtain ⟨b, xs, ds, h1, h2, h3, h4, h5, h6⟩ := R.own i hio
      rw [h] at h2
      cases h2
      exact ⟨_, h1, (h6.anti an).dq h5 fun z => z.2 i hio hi h1⟩
    · obtain ⟨v, h1, h2⟩ := R.dat i d hio h
      exact ⟨v, h1, h2.anti an⟩
/-- a new list becomes one's own -/
theorem Rel.take (R : Rel K H0 P0 H P o σ ρ) {i : Nat} (hi : i ∉ o) (hl : i < ρ.length) {p : Addr} {u : HO} {ds : PyData} (e : Same H H') (n : H p = none) (hp : H' p = some u) (t : Ow K H' (fun a => a = p ∨ P a) p u ds) :
    Rel K H0 P0 H' (fun a => a = p ∨ P a) (i :: o) (σ.set i (some (.ref p))) (ρ.set i (some ds)) ∧ Lt H P H' (fun a => a = p ∨ P a) := by
  have lt : Lt H P H' (fun a => a = p ∨ P a) := fun a u h hn _ => ⟨e a u h, by
    rintro (rfl | z)
    · rw [n] at h; cases h
    · exact hn z⟩
  have ne : ∀ j, j ∈ o → j ≠ i := fun j hj z => hi (z ▸ hj)
  refine ⟨⟨fun a h => .inr (R.sub a h), R.tr0, ?_, R.same.trans e, fun j hj => ?_, fun j k a b hj hk njk e1 e2 => ?_, fun j d hj h => ?_, by rw [List.length_set, List.length_set, R.len], R.tab.ext e, fun nT => ⟨(R.tp nT).1, ?_⟩⟩, lt⟩
  · rintro a (rfl | h)
    · exact ⟨_, hp⟩
    · obtain ⟨u, hu⟩ := R.tr a h
      exact ⟨u, e a u hu⟩
  · rcases List.mem_cons.mp hj with rfl | hj
    · exact ⟨p, u, ds, List.getElem?_set_self (by rw [← R.len]; exact hl), List.getElem?_set_self hl, .inl rfl, R.same.free n, hp, t⟩
    · obtain ⟨b, ys, es, h1, h2, h3, h4, h5, h6⟩ := R.own j hj
      exact ⟨b, ys, es, (set_get (ne j hj)).trans h1, (set_get (ne j hj)).trans h2, .inr h3, h4, e _ _ h5, h6.mono lt⟩
  · have pp : ∀ m c, m ∈ o → (σ.set i (some (V.ref p)))[m]? = some (some (.ref c)) → c ≠ p := fun m c hm z => by
      rw [set_get (ne m hm)] at z
      obtain ⟨b, ys, es, h1, h2, h3, h4, h5, h6⟩ := R.own m hm
      rw [z] at h1
      cases h1
      exact ne_of_none h5 n
    rcases List.mem_cons.mp hj with rfl | hj'
    · rcases List.mem_cons.mp hk with rfl | hk'
      · exact absurd rfl njk
      · rw [List.getElem?_set_self (by rw [← R.len]; exact hl)] at e1
        cases e1
        exact fun z => pp k b hk' e2 z.symm
    · rcases List.mem_cons.mp hk with rfl | hk'
      · rw [List.getElem?_set_self (by rw [← R.len]; exact hl)] at e2
        cases e2
        exact pp j a hj' e1
      · rw [set_get (ne j hj')] at e1
        rw [set_get (ne k hk')] at e2
        exact R.dis j k a b hj' hk' njk e1 e2
  · have hji : j ≠ i := fun z => hj (by simp [z])
    rw [set_get hji] at h
    obtain ⟨v, h1, h2⟩ := R.dat j d (fun z => hj (List.mem_cons_of_mem _ z)) h
    exact ⟨v, (set_get hji).trans h1, h2.mono lt⟩
  · rintro a (rfl | z) ps q
    · rw [hp] at q; cases q; exact (t.nc nT).2 ps rfl
    · obtain ⟨w, hw⟩ := R.tr a z
      have := e a w hw
      rw [q] at this; cases this
      exact (R.tp nT).2 a z ps hw
/-- one's own list is written -/
theorem Rel.put (R : Rel K H0 P0 H P o σ ρ) {i : Nat} (hi : i ∈ o) {a : Addr} {u' : HO} {es : PyData} (ha : σ[i]? = some (some (.ref a))) (t : Ow K H P a u' es) :
    Rel K H0 P0 (upd H a u') P o σ (ρ.set i (some es)) ∧ Lt H P (upd H a u') P := by
  obtain ⟨b, xs, ds, h1, h2, h3, h4, h5, h6⟩ := R.own i hi
  rw [ha] at h1
  cases h1
  have lt : Lt H P (upd H a u') P := fun c u h n _ => ⟨by rw [upd_ne (fun z => n (by rw [z]; exact h3))]; exact h, n⟩
  have hl : i < ρ.length := (List.getElem?_eq_some_iff.mp h2).1
  refine ⟨⟨R.sub, R.tr0, fun c h => ?_, fun c u h => ?_, fun j hj => ?_, R.dis, fun j d hj h => ?_, by rw [List.length_set, R.len], tabs_put R.tab h5 h6 fun b w n z => by rw [upd_ne n]; exact z, fun n => ⟨(R.tp n).1, fun c z ps q => ?_⟩⟩, lt⟩
  · by_cases hc : c = a
    · subst hc; exact ⟨_, upd_same⟩
    · rw [upd_ne hc]; exact R.tr c h
  · rw [upd_ne (ne_of_none h h4)]; exact R.same c u h
  · by_cases hji : j = i
    · subst hji
      exact ⟨a, u', es, ha, List.getElem?_set_self hl, h3, h4, upd_same, t.mono lt⟩
    · obtain ⟨c, zs, fs, g1, g2, g3, g4, g5, g6⟩ := R.own j hj
      exact ⟨c, zs, fs, g1, (set_get hji).trans g2, g3, g4, by rw [upd_ne (R.dis j i c a hj hi hji g1 ha)]; exact g5, g6.mono lt⟩
  · have hji : j ≠ i := fun z => hj (z ▸ hi)
    rw [set_get hji] at h
    obtain ⟨v, g1, g2⟩ := R.dat j d hj h
    exact ⟨v, g1, g2.mono lt⟩
  · by_cases hc : c = a
    · subst hc; rw [upd_same] at q; cases q; exact (t.nc n).2 ps rfl
    · rw [upd_ne hc] at q; exact (R.tp n).2 c z ps q
end

/-! ### flow -/
inductive Fl where
  | nx (ρ : Rho) | rt (d : PyData) | bk (ρ : Rho) | ct (ρ : Rho)
  /-- returned, with what is kept; raised, a class by its name; a truth returned, whatever the heap is -/
  | rx (d : PyData) (ρ : Rho) | ex (x : Str) | rl (b : Bool)
/-- the least that X must wish of an exception -/
def Wst (X : Cx) : WX := fun cls d σ H => ∀ (u : Value) (s' : Shared), (∃ (a : Addr) (B : Heap) (sI : Shared) (pins : List (Addr × Obj)), u = .ref a ∧ Inv X pins σ H sI ∧ (∀ b o, sI.heap.get? b = some o → b ∉ frs X.stack → B.get? b = some o) ∧ sI.heap.UpToSlots s'.heap ∧
      Sky B X.stack a (Zc cls d) X.env.locals s'.heap ∧ H a = none ∧ s'.os = sI.os ∧ AllBare s'.gens) → X.xe u s'
theorem takes_wst {X : Cx} : Takes X (Wst X) := fun u s' ⟨a, B, sI, pins, σ, H, cls, d, e, I, nb, up, sky, na, os, ag, w⟩ => w u s' ⟨a, B, sI, pins, e, I, nb, up, sky, na, os, ag⟩
theorem wst_of {X : Cx} {W : WX} (t : Takes X W) {cls : Value} {d : Option Addr} {σ : St} {H : Hp} (w : W cls d σ H) : Wst X cls d σ H := fun u s' ⟨a, B, sI, pins, e, I, nb, up, sky, na, os, ag⟩ => t u s' ⟨a, B, sI, pins, σ, H, cls, d, e, I, nb, up, sky, na, os, ag, w⟩
def ExX (X : Cx) : XK := fun cls d H => ∀ σ, Wst X cls d σ H
theorem passes_exX {X : Cx} : Passes (L2.CX X.prog X.w) X (ExX X) := passes_call takes_wst fun _ _ σ _ h => h σ
/-- what is wanted of a flow -/
def Fl.ok (X : Cx) (H0 : Hp) (P0 : Addr → Prop) (H : Hp) (P : Addr → Prop) (o' ob : List Nat) (D : Ends) : Fl → Prop
  | .nx ρ' => ∀ σ' H' P', Rel X.K H0 P0 H' P' o' σ' ρ' → Lt H P H' P' → D.nx σ' H'
  | .rt d => ∀ v H', Same H0 H' → Dq X.K H' P0 v d → D.rt v H'
  | .bk ρ' => ∀ σ' H' P', Rel X.K H0 P0 H' P' ob σ' ρ' → Lt H P H' P' → D.bk σ' H'
  | .ct ρ' => ∀ σ' H' P', Rel X.K H0 P0 H' P' ob σ' ρ' → Lt H P H' P' → D.ct σ' H'
  | .rx d ρ' => ∀ v σ' H' P' o2, (∀ i ∈ OK.rk, i ∈ o2) → Rel X.K H0 P0 H' P' o2 σ' ρ' → Dq X.K H' P' v d → D.rt v H'
  | .ex x => ∀ C H', X.mg x = some (.ref C) → Same H0 H' → ExX X (.ref C) none H'
  | .rl b => ∀ H', D.rt (.bl b) H'
theorem Fl.ok.go {X : Cx} {H0 : Hp} {P0 : Addr → Prop} {H H1 : Hp} {P P1 : Addr → Prop} {o' ob : List Nat} {D : Ends} {fl : Fl} (q : fl.ok X H0 P0 H P o' ob D) (l : Lt H P H1 P1) : fl.ok X H0 P0 H1 P1 o' ob D := by
  cases fl with
  | nx ρ' => exact fun σ' H' P' R l' => q σ' H' P' R (l.trans l')
  | rt d => exact q
  | bk ρ' => exact fun σ' H' P' R l' => q σ' H' P' R (l.trans l')
  | ct ρ' => exact fun σ' H' P' R l' => q σ' H' P' R (l.trans l')
  | rx d ρ' => exact q
  | ex x => exact q
  | rl b => exact q
def tS (X : Cx) (o o' ob : List Nat) (f : Rho → Option Fl) : TS := fun D σ H => ∃ H0 P0 P ρ fl, Rel X.K H0 P0 H P o σ ρ ∧ f ρ = some fl ∧ fl.ok X H0 P0 H P o' ob D
abbrev SV (X : Cx) (o o' ob : List Nat) (st : Stmt) (f : Rho → Option Fl) : Prop := PS X st (tS X o o' ob f)
abbrev SVs (X : Cx) (o o' ob : List Nat) (st : List Stmt) (f : Rho → Option Fl) : Prop := PSs X st (tS X o o' ob f)
def fNil : Rho → Option Fl := fun ρ => some (.nx ρ)
def fThen (fl : Fl) (g : Rho → Option Fl) : Option Fl := match fl with
  | .nx ρ => g ρ
  | .rt d => some (.rt d)
  | .bk ρ => some (.bk ρ)
  | .ct ρ => some (.ct ρ)
  | .rx d ρ => some (.rx d ρ)
  | .ex x => some (.ex x)
  | .rl b => some (.rl b)
def fSeq (f g : Rho → Option Fl) : Rho → Option Fl := fun ρ => (f ρ).bind fun fl => fThen fl g
section
variable {X : Cx} {o o1 o' ob : List Nat} {st : Stmt} {sts : List Stmt} {e : Expr} {f g : Rho → Option Fl} {fe : Rho → Option PyData} {pos pos' : Pos}
theorem svs_nil : SVs X o o ob [] fNil := PSs.imp pss_nil fun D σ H ⟨H0, P0, P, ρ, fl, R, e, q⟩ => by cases e; exact q σ H P R (Lt.refl H P)
theorem seq_of {D : Ends} {σ : St} {H : Hp} (h : tS X o o' ob (fSeq f g) D σ H) : tSeq (tS X o o1 ob f) (tS X o1 o' ob g) D σ H := by
  obtain ⟨H0, P0, P, ρ, fl, R, e, q⟩ := h
  unfold fSeq at e
  cases ef : f ρ with
  | none => rw [ef] at e; cases e
  | some fl1 =>
    rw [ef] at e
    have e : fThen fl1 g = some fl := e
    refine ⟨H0, P0, P, ρ, fl1, R, ef, ?_⟩
    cases fl1 with
    | nx ρ1 => exact fun σ1 H1 P1 R1 l1 => ⟨H0, P0, P1, ρ1, fl, R1, e, q.go l1⟩
    | rt d => cases e; exact q
    | bk ρ1 => cases e; exact q
    | ct ρ1 => cases e; exact q
    | rx d ρ1 => cases e; exact q
    | ex x => cases e; exact q
    | rl b => cases e; exact q
theorem svs_cons (h1 : SV X o o1 ob st f) (h2 : SVs X o1 o' ob sts g) : SVs X o o' ob (st :: sts) (fSeq f g) := PSs.imp (pss_cons h1 h2) fun D σ H h => seq_of h
theorem svs_one (h : SV X o o' ob st f) : SVs X o o' ob [st] f := pss_one h
/-- lists are given away ahead of it -/
theorem sv_drop (o1 : List Nat) (h : SV X o1 o' ob st f) (s : ∀ i ∈ o1, i ∈ o := by decide) : SV X o o' ob st f := PS.imp h fun D σ H ⟨H0, P0, P, ρ, fl, R, e, q⟩ => by
  obtain ⟨P', R', l⟩ := R.drop s
  exact ⟨H0, P0, P', ρ, fl, R', e, q.go l⟩
theorem svs_drop (o1 : List Nat) (h : SVs X o1 o' ob sts f) (s : ∀ i ∈ o1, i ∈ o := by decide) : SVs X o o' ob sts f := PSs.imp h fun D σ H ⟨H0, P0, P, ρ, fl, R, e, q⟩ => by
  obtain ⟨P', R', l⟩ := R.drop s
  exact ⟨H0, P0, P', ρ, fl, R', e, q.go l⟩
/-- .. behind it -/
theorem ok_less {H0 : Hp} {P0 : Addr → Prop} {H : Hp} {P : Addr → Prop} {D : Ends} {fl : Fl} (s : ∀ i ∈ o', i ∈ o1) (q : fl.ok X H0 P0 H P o' ob D) : fl.ok X H0 P0 H P o1 ob D := by
  cases fl with
  | nx ρ' => exact fun σ' H' P' R l' => let ⟨P2, R2, l2⟩ := R.drop s; q σ' H' P2 R2 (l'.trans l2)
  | rt d => exact q
  | bk ρ' => exact q
  | ct ρ' => exact q
  | rx d ρ' => exact q
  | ex x => exact q
  | rl b => exact q
theorem svs_less (o1 : List Nat) (h : SVs X o o1 ob sts f) (s : ∀ i ∈ o', i ∈ o1 := by decide) : SVs X o o' ob sts f := PSs.imp h fun D σ H ⟨H0, P0, P, ρ, fl, R, e, q⟩ => ⟨H0, P0, P, ρ, fl, R, e, ok_less s q⟩
theorem sv_less (o1 : List Nat) (h : SV X o o1 ob st f) (s : ∀ i ∈ o', i ∈ o1 := by decide) : SV X o o' ob st f := PS.imp h fun D σ H ⟨H0, P0, P, ρ, fl, R, e, q⟩ => ⟨H0, P0, P, ρ, fl, R, e, ok_less s q⟩

/-! ### small statements -/
def fRet (f : Rho → Option PyData) : Rho → Option Fl := fun ρ => (f ρ).bind fun d => some (.rt d)
theorem sv_ret (h : EV X o e fe) : SV X o o' ob (.Return (some e) pos) (fRet fe) := PS.imp (ps_ret h) fun D σ H ⟨H0, P0, P, ρ, fl, R, e, q⟩ => by
  unfold fRet at e
  cases ef : fe ρ with
  | none => rw [ef] at e; cases e
  | some d => rw [ef] at e; cases e; exact ⟨H0, P0, P, ρ, d, R, ef, fun v H' s t => q v H' (R.same.trans s) (t.anti R.sub)⟩
def fBk : Rho → Option Fl := fun ρ => some (.bk ρ)
def fCt : Rho → Option Fl := fun ρ => some (.ct ρ)
theorem sv_break (s : ∀ i ∈ ob, i ∈ o := by decide) : SV X o o' ob (.Break pos) fBk := PS.imp ps_break fun D σ H ⟨H0, P0, P, ρ, fl, R, e, q⟩ => by
  cases e
  obtain ⟨P', R', l⟩ := R.drop s
  exact q σ H P' R' l
theorem sv_cont (s : ∀ i ∈ ob, i ∈ o := by decide) : SV X o o' ob (.Continue pos) fCt := PS.imp ps_continue fun D σ H ⟨H0, P0, P, ρ, fl, R, e, q⟩ => by
  cases e
  obtain ⟨P', R', l⟩ := R.drop s
  exact q σ H P' R' l
theorem sv_pass : SV X o o ob (.Pass pos) fNil := PS.imp ps_pass fun D σ H ⟨H0, P0, P, ρ, fl, R, e, q⟩ => by cases e; exact q σ H P R (Lt.refl H P)
def fIf (t : Rho → Option Bool) (f g : Rho → Option Fl) : Rho → Option Fl := fun ρ => (t ρ).bind fun c => if c = true then f ρ else g ρ
theorem sv_if {c : Expr} {a b : List Stmt} {t : Rho → Option Bool} (hc : ET X o c t) (ha : SVs X o o' ob a f) (hb : SVs X o o' ob b g) : SV X o o' ob (.If c a b pos) (fIf t f g) := PS.imp (ps_if hc ha hb) fun D σ H ⟨H0, P0, P, ρ, fl, R, e, q⟩ => by
  unfold fIf at e
  cases et : t ρ with
  | none => rw [et] at e; cases e
  | some k =>
    rw [et] at e
    refine ⟨H0, P0, P, ρ, k, R, et, fun H1 s1 => ?_⟩
    cases k with
    | true => exact iteT ⟨H0, P0, P, ρ, fl, R.go s1, e, q.go (Lt.same P s1)⟩
    | false => exact iteF ⟨H0, P0, P, ρ, fl, R.go s1, e, q.go (Lt.same P s1)⟩
def fSet (i : Nat) (f : Rho → Option PyData) : Rho → Option Fl := fun ρ => (f ρ).bind fun d => some (.nx (ρ.set i (some d)))
theorem set_of {D : Ends} {σ : St} {H : Hp} {i : Nat} (hi : i ∉ o) (h : tS X o o ob (fSet i fe) D σ H) : tAsg (tV X.K o fe) (gName i) D σ H := by
  obtain ⟨H0, P0, P, ρ, fl, R, e, q⟩ := h
  unfold fSet at e
  cases ef : fe ρ with
  | none => rw [ef] at e; cases e
  | some d =>
    rw [ef] at e
    cases e
    exact ⟨H0, P0, P, ρ, d, R, ef, fun v H' s t => q _ H' P ((R.go s).set hi t) (Lt.same P s)⟩
theorem sv_set (i : Nat) {x : Str} (hN : X.N.Nodup) (he : EV X o e fe) (hi : i ∉ o := by decide) (hx : X.N[i]? = some x := by rfl) (hl : Loc X.env.scope x := by first | exact Or.inl rfl | exact Or.inr rfl) (hs : swapsWith e (some (.Name x pos')) pos.line X.env = pure false := by rfl)
    (hf : X.fn x = true ∨ X.env.scope.names.lookup x = some .local := by first | exact .inl rfl | exact .inr rfl) : SV X o o ob (.Assign [.Name x pos'] e pos) (fSet i fe) := PS.imp (ps_set hN hx hl he hs hf) fun D σ H h => set_of hi h
/-- x = a new list, that is one's own then -/
def fOwn (i : Nat) (f : Rho → Option (List PyData)) : Rho → Option Fl := fun ρ => (f ρ).bind fun d => if i < ρ.length then some (.nx (ρ.set i (some (.list d)))) else none
theorem own_of {D : Ends} {σ : St} {H : Hp} {i : Nat} {fl' : Rho → Option (List PyData)} (hi : i ∉ o) (h : tS X o (i :: o) ob (fOwn i fl') D σ H) : tAsg (tN X.K o fl') (gName i) D σ H := by
  obtain ⟨H0, P0, P, ρ, fl, R, e, q⟩ := h
  unfold fOwn at e
  cases ef : fl' ρ with
  | none => rw [ef] at e; cases e
  | some ds =>
    rw [ef] at e
    have e : (if i < ρ.length then some (Fl.nx (ρ.set i (some (.list ds)))) else none) = some fl := e
    by_cases hl : i < ρ.length
    · rw [if_pos hl] at e
      cases e
      refine ⟨H0, P0, P, ρ, ds, R, ef, fun p xs H' s n hp t => ?_⟩
      obtain ⟨R', l⟩ := R.take hi hl s n hp (.ofLst t)
      exact q _ H' _ R' l
    · rw [if_neg hl] at e; cases e
theorem sv_own (i : Nat) {x : Str} {fl : Rho → Option (List PyData)} (hN : X.N.Nodup) (he : EN X o e fl) (hi : i ∉ o := by decide) (hx : X.N[i]? = some x := by rfl) (hl : Loc X.env.scope x := by first | exact Or.inl rfl | exact Or.inr rfl) (hs : swapsWith e (some (.Name x pos')) pos.line X.env = pure false := by rfl)
    (hf : X.fn x = true ∨ X.env.scope.names.lookup x = some .local := by first | exact .inl rfl | exact .inr rfl) : SV X o (i :: o) ob (.Assign [.Name x pos'] e pos) (fOwn i fl) := PS.imp (ps_set hN hx hl he hs hf) fun D σ H h => own_of hi h

/-! ### targets -/
def tG (K : PySem.W.Frag) (o : List Nat) (f : PyData → Rho → Option Rho) : TG := fun v σ H Q => ∃ H0 P0 P ρ d ρ', Rel K H0 P0 H P o σ ρ ∧ Dq K H P v d ∧ f d ρ = some ρ' ∧ ∀ σ', Rel K H0 P0 H P o σ' ρ' → Q σ' H
abbrev TGt (X : Cx) (o : List Nat) (tg : Expr) (f : PyData → Rho → Option Rho) : Prop := PG X tg (tG X.K o f)
theorem PG.imp {tg : Expr} {t t' : TG} (h : PG X tg t) (i : ∀ v σ H Q, t' v σ H Q → t v σ H Q) : PG X tg t' := ⟨fun pins s σ H v u Q I r q => h.run pins s σ H v u Q I r (i v σ H Q q)⟩
def g1 (i : Nat) : PyData → Rho → Option Rho := fun d ρ => some (ρ.set i (some d))
def g2 (i j : Nat) : PyData → Rho → Option Rho := fun d ρ => match d with
  | .tuple [x, y] => some ((ρ.set i (some x)).set j (some y))
  | _ => none
def g3 (i j k : Nat) : PyData → Rho → Option Rho := fun d ρ => match d with
  | .tuple [x, y, z] => some (((ρ.set i (some x)).set j (some y)).set k (some z))
  | _ => none
theorem g2_some {i j : Nat} {d : PyData} {ρ ρ' : Rho} (h : g2 i j d ρ = some ρ') : ∃ x y, d = .tuple [x, y] ∧ ρ' = (ρ.set i (some x)).set j (some y) := by
  unfold g2 at h
  split at h
  · cases h; exact ⟨_, _, rfl, rfl⟩
  · cases h
theorem g3_some {i j k : Nat} {d : PyData} {ρ ρ' : Rho} (h : g3 i j k d ρ = some ρ') : ∃ x y z, d = .tuple [x, y, z] ∧ ρ' = ((ρ.set i (some x)).set j (some y)).set k (some z) := by
  unfold g3 at h
  split at h
  · cases h; exact ⟨_, _, _, rfl, rfl⟩
  · cases h
theorem tup2 {K : PySem.W.Frag} {H : Hp} {P : Addr → Prop} {v : V} {x y : PyData} (h : Dq K H P v (.tuple [x, y])) : ∃ a u w, v = .ref a ∧ SqT K H a [u, w] ∧ Dq K H P u x ∧ Dq K H P w y := by
  obtain ⟨a, xs, rfl, hs, t⟩ := h.tupI
  cases t with
  | cons h1 t => cases t with
    | cons h2 t => cases t; exact ⟨a, _, _, rfl, hs, h1, h2⟩
theorem tup3 {K : PySem.W.Frag} {H : Hp} {P : Addr → Prop} {v : V} {x y z : PyData} (h : Dq K H P v (.tuple [x, y, z])) : ∃ a u w r, v = .ref a ∧ SqT K H a [u, w, r] ∧ Dq K H P u x ∧ Dq K H P w y ∧ Dq K H P r z := by
  obtain ⟨a, xs, rfl, hs, t⟩ := h.tupI
  cases t with
  | cons h1 t => cases t with
    | cons h2 t => cases t with
      | cons h3 t => cases t; exact ⟨a, _, _, _, rfl, hs, h1, h2, h3⟩
theorem tg_1 (i : Nat) {tg : Expr} (h : PG X tg (gName i)) (hi : i ∉ o := by decide) : TGt X o tg (g1 i) := PG.imp h fun v σ H Q ⟨H0, P0, P, ρ, d, ρ', R, t, e, q⟩ => by
  cases e
  exact q _ (R.set hi t)
theorem tg_2 (i j : Nat) {tg : Expr} (h : PG X tg (gTup X.K 2 (gCons (gName i) (gCons (gName j) gNil)))) (hi : i ∉ o := by decide) (hj : j ∉ o := by decide) : TGt X o tg (g2 i j) := PG.imp h fun v σ H Q ⟨H0, P0, P, ρ, d, ρ', R, t, e, q⟩ => by
  obtain ⟨x, y, rfl, rfl⟩ := g2_some e
  obtain ⟨a, u, w, rfl, hs, h1, h2⟩ := tup2 t
  exact ⟨a, [u, w], rfl, hs, rfl, u, [w], rfl, w, [], rfl, rfl, q _ ((R.set hi h1).set hj h2)⟩
theorem tg_3 (i j k : Nat) {tg : Expr} (h : PG X tg (gTup X.K 3 (gCons (gName i) (gCons (gName j) (gCons (gName k) gNil))))) (hi : i ∉ o := by decide) (hj : j ∉ o := by decide) (hk : k ∉ o := by decide) : TGt X o tg (g3 i j k) := PG.imp h fun v σ H Q ⟨H0, P0, P, ρ, d, ρ', R, t, e, q⟩ => by
  obtain ⟨x, y, z, rfl, rfl⟩ := g3_some e
  obtain ⟨a, u, w, r, rfl, hs, h1, h2, h3⟩ := tup3 t
  exact ⟨a, [u, w, r], rfl, hs, rfl, u, [w, r], rfl, w, [r], rfl, r, [], rfl, rfl, q _ (((R.set hi h1).set hj h2).set hk h3)⟩
/-- target = e, the target a tuple of names -/
def fAsg (g : PyData → Rho → Option Rho) (f : Rho → Option PyData) : Rho → Option Fl := fun ρ => (f ρ).bind fun d => (g d ρ).bind fun r => some (.nx r)
theorem sv_asg {tg : Expr} {gt : PyData → Rho → Option Rho} (he : EV X o e fe) (hg : TGt X o tg gt) (hs : swapsWithSole [tg] e pos.line X.env = pure false := by rfl) (hw : swappedStores [tg] e X.env = pure none := by rfl)
    (h1 : (assignEach [tg] X.env).map (·.2) = [assign tg X.env] := by rfl) : SV X o o ob (.Assign [tg] e pos) (fAsg gt fe) := PS.imp (ps_asg he hg hs hw h1) fun D σ H ⟨H0, P0, P, ρ, fl, R, e, q⟩ => by
  unfold fAsg at e
  cases ef : fe ρ with
  | none => rw [ef] at e; cases e
  | some d =>
    rw [ef] at e
    cases eg : gt d ρ with
    | none => simp [eg] at e
    | some r =>
      simp only [Option.bind_some, eg] at e
      cases e
      exact ⟨H0, P0, P, ρ, d, R, ef, fun v H' s t => ⟨H0, P0, P, ρ, d, r, R.go s, t, eg, fun σ' R' => q σ' H' P R' (Lt.same P s)⟩⟩
/-- a, b = x, y -/
def fPar (i j : Nat) (fa : Rho → Option (List PyData)) : Rho → Option Fl := fun ρ => (fa ρ).bind fun ds => match ds with
  | [x, y] => some (.nx ((ρ.set i (some x)).set j (some y)))
  | _ => none
theorem sv_par (i j : Nat) {x y : Str} {a b : Expr} {fa : Rho → Option (List PyData)} {px py pt : Pos} {kt k2 pt2} (hc : X.calm = true) (hN : X.N.Nodup) (ha : EA X o [a, b] fa) (hij : i ≠ j := by decide) (hio : i ∉ o := by decide) (hjo : j ∉ o := by decide)
    (hi : X.N[i]? = some x := by rfl) (hj : X.N[j]? = some y := by rfl)
    (hx : X.env.scope.names.lookup x = some .local := by rfl) (hy : X.env.scope.names.lookup y = some .local := by rfl)
    (hw : swappedStores [.Tuple [.Name x px, .Name y py] kt pt] (.Tuple [a, b] k2 pt2) X.env = pure (some [x, y]) := by rfl)
    (hs : swapsWithSole [.Tuple [.Name x px, .Name y py] kt pt] (.Tuple [a, b] k2 pt2) pos.line X.env = pure false := by rfl) :
    SV X o o ob (.Assign [.Tuple [.Name x px, .Name y py] kt pt] (.Tuple [a, b] k2 pt2) pos) (fPar i j fa) := PS.imp (ps_par hc hN hi hj hij hx hy ha hw hs) fun D σ H ⟨H0, P0, P, ρ, fl, R, e, q⟩ => by
  unfold fPar at e
  cases ef : fa ρ with
  | none => rw [ef] at e; cases e
  | some ds =>
    rw [ef] at e
    match ds, ef, e with
    | [u, w], ef, e =>
      cases e
      refine ⟨H0, P0, P, ρ, _, R, ef, fun vs H1 s1 r1 => ?_⟩
      cases r1 with
      | cons h1 t => cases t with
        | cons h2 t =>
          cases t
          exact ⟨_, _, rfl, q _ H1 P (((R.go s1).set hio h1).set hjo h2) (Lt.same P s1)⟩
    | [], _, e => cases e
    | [_], _, e => cases e
    | _ :: _ :: _ :: _, _, e => cases e
end
end TF

/-! TFe.lean -/
set_option Elab.async false
set_option linter.all false
set_option maxRecDepth 100000
/-! TF.e: what is walked; for, while; list comprehensions; defs -/
namespace TF
open PySem PySem.Spec PyProof.Rows L2
variable [OK : OwnK]

/-- J walks the data ds, from H1 on -/
structure Wk (K : PySem.W.Frag) (ds : List PyData) (J : It) (H1 : Hp) (P1 : Addr → Prop) : Prop where
  go : ∀ (H : Hp) (P : Addr → Prop) (i : Nat), Lt H1 P1 H P → i < ds.length → J.go i H
  stop : ∀ (H : Hp) (P : Addr → Prop), Lt H1 P1 H P → J.stop ds.length H
  yld : ∀ (H : Hp) (P : Addr → Prop) (i : Nat) (x : V) (H' : Hp), Lt H1 P1 H P → (∀ a, P a → ∃ u, H a = some u) → i < ds.length → J.yld i H x H' → Same H H' ∧ ∃ d, ds[i]? = some d ∧ Dq K H' P x d
def tI (K : PySem.W.Frag) (o : List Nat) (f : Rho → Option (List PyData)) : TI := fun σ H R => ∃ H0 P0 P ρ ds, Rel K H0 P0 H P o σ ρ ∧ f ρ = some ds ∧ ∀ J H', Same H H' → Wk K ds J H' P → ds.length ≤ sizeLine → R J H'
abbrev WI (X : Cx) (o : List Nat) (tg iter : Expr) (f : Rho → Option (List PyData)) : Prop := PI X tg iter (tI X.K o f)
section
variable {X : Cx} {o o1 o' ob : List Nat} {tg e a b : Expr} {f fa fb : Rho → Option PyData} {pos : Pos}
theorem PI.imp {t t' : TI} (h : PI X tg e t) (i : ∀ σ H R, t' σ H R → t σ H R) : PI X tg e t' := ⟨fun pins s σ H R I q => h.run pins s σ H R I (i σ H R q)⟩
/-- what is held of all lists and tuples: their lengths -/
def Szd (K : PySem.W.Frag) (H : Hp) : Prop := (∀ a xs, SqL K H a xs → xs.length ≤ sizeLine) ∧ ∀ a xs, SqT K H a xs → xs.length ≤ sizeLine
theorem PI.szd {t : TI} (h : PI X tg e t) : PI X tg e (fun σ H R => t σ H fun J H' => Szd X.K H' → R J H') := ⟨fun pins s σ H R I q => by
  refine thn (h.run pins s σ H _ I q) fun v s1 h1 => thn h1 fun itv s2 ⟨it, fp, tn, J, H', e1, I2, T, st, fpo, q2⟩ => ?_
  exact ⟨it, fp, tn, J, H', e1, I2, T, st, fpo, q2 ⟨fun a xs h => let ⟨_, _, _, z⟩ := I2.list h; z, fun a xs h => let ⟨_, _, _, z⟩ := I2.tuple h; z⟩⟩⟩
def dSeqL : PyData → Option (List PyData)
  | .list xs => some xs
  | _ => none
def dSeqT : PyData → Option (List PyData)
  | .tuple xs => some xs
  | _ => none
/-- over a list that nobody changes -/
theorem wi_list (h : EV X o e f) : WI X o tg e (e1 f dSeqL) := PI.imp (PI.szd (pi_list h)) fun σ H R ⟨H0, P0, P, ρ, ds, Re, e', q⟩ => by
  obtain ⟨d, ef, eg⟩ := e1_some e'
  cases d with
  | list xs =>
    cases eg
    refine ⟨H0, P0, P, ρ, _, Re, ef, fun v H1 s1 t => ?_⟩
    cases t with
    | @lst a vs _ ha hn ts =>
      refine ⟨a, rfl, ⟨_, SqL.of ha⟩, fun hz => q _ _ s1 ⟨fun H P i l hi => ?_, fun H P l => ?_, fun H P i x H' l tr hi y => ?_⟩ (by rw [← ts.length]; exact hz.1 _ _ (SqL.of ha))⟩
      · have hi' : i < vs.length := by rw [ts.length]; exact hi
        exact ⟨vs, vs[i], SqL.of (l _ _ ha hn (by first | exact nt_lst | exact nt_frz)).1, by simp [hi']⟩
      · exact ⟨vs, SqL.of (l _ _ ha hn (by first | exact nt_lst | exact nt_frz)).1, by rw [ts.length]; exact Nat.le_refl _⟩
      · obtain ⟨rfl, y⟩ := y
        obtain ⟨d, h1, h2⟩ := (ts.mono l).getV (y vs (SqL.of (l _ _ ha hn (by first | exact nt_lst | exact nt_frz)).1))
        exact ⟨Same.refl _, d, h1, h2⟩
  | _ => cases eg
theorem wi_tup (h : EV X o e f) : WI X o tg e (e1 f dSeqT) := PI.imp (PI.szd (pi_tup h)) fun σ H R ⟨H0, P0, P, ρ, ds, Re, e', q⟩ => by
  obtain ⟨d, ef, eg⟩ := e1_some e'
  cases d with
  | tuple xs =>
    cases eg
    refine ⟨H0, P0, P, ρ, _, Re, ef, fun v H1 s1 t => ?_⟩
    cases t with
    | @tup a its vs _ ha hn ts =>
      refine ⟨a, rfl, ⟨_, sqT_fz ha⟩, fun hz => q _ _ s1 ⟨fun H P i l hi => ?_, fun H P l => ?_, fun H P i x H' l tr hi y => ?_⟩ (by rw [← ts.length]; exact hz.2 _ _ (sqT_fz ha))⟩
      · have hi' : i < vs.length := by rw [ts.length]; exact hi
        exact ⟨vs, vs[i], sqT_fz (l _ _ ha hn (by first | exact nt_lst | exact nt_frz)).1, by simp [hi']⟩
      · exact ⟨vs, sqT_fz (l _ _ ha hn (by first | exact nt_lst | exact nt_frz)).1, by rw [ts.length]; exact Nat.le_refl _⟩
      · obtain ⟨rfl, y⟩ := y
        obtain ⟨d, h1, h2⟩ := (ts.mono l).getV (y vs (sqT_fz (l _ _ ha hn (by first | exact nt_lst | exact nt_frz)).1))
        exact ⟨Same.refl _, d, h1, h2⟩
  | _ => cases eg
/-- whole numbers from lo on -/
def rints (lo : Int) (n : Nat) : List PyData := (List.range n).map fun (i : Nat) => .int (lo + i)
theorem rints_length (lo : Int) (n : Nat) : (rints lo n).length = n := by unfold rints; rw [List.length_map, List.length_range]
def dRng1 : PyData → Option (List PyData)
  | .int n => if -1000000 ≤ n ∧ n ≤ 1000000 then some (rints 0 n.toNat) else none
  | _ => none
def dRng2 : PyData → PyData → Option (List PyData)
  | .int i, .int j => if -1000000 ≤ i ∧ i ≤ 1000000 ∧ j ≤ 1000000 ∧ -1000000 ≤ j then some (rints i (j - i).toNat) else none
  | _, _ => none
theorem wk_range {K : PySem.W.Frag} {lo : Int} {n : Nat} {H1 : Hp} {P1 : Addr → Prop} : Wk K (rints lo n) (Itr lo n) H1 P1 where
  go := fun H P i l hi => by rw [rints_length] at hi; exact hi
  stop := fun H P l => by rw [rints_length]; exact Nat.le_refl _
  yld := fun H P i x H' l tr hi y => by
    obtain ⟨rfl, rfl⟩ := y
    rw [rints_length] at hi
    exact ⟨Same.refl _, .int (lo + i), by unfold rints; rw [List.getElem?_map, List.getElem?_range hi] <;> rfl, .int _⟩
theorem big1 {n : Nat} (h : n ≤ 2000000) : n ≤ sizeLine := by rw [sizeLine_eq]; omega
theorem wi_range1 {p : Pos} (hm : X.mg "range" = none) (h : ER X o a f) (hg : Gl X "range" := by rfl) (hs : starEach [a] X.env = [(false, eval a X.env)] := by rfl) : WI X o tg (.Call (.Name "range" p) [a] [] pos) (e1 f dRng1) :=
  PI.imp (pi_range1 hg hm (pa_cons h pa_nil hs) hs) fun σ H R ⟨H0, P0, P, ρ, ds, Re, e', q⟩ => by
    obtain ⟨d, ef, eg⟩ := e1_some e'
    refine ⟨H0, P0, P, ρ, _, Re, ef, fun v H1 s1 r1 => ?_⟩
    cases d with
    | int n =>
      have eg : (if -1000000 ≤ n ∧ n ≤ 1000000 then some (rints 0 n.toNat) else none) = some ds := eg
      by_cases hn : -1000000 ≤ n ∧ n ≤ 1000000
      · rw [if_pos hn] at eg
        cases eg
        have e1 := r1.int
        subst e1
        exact ⟨n, rfl, by omega, by omega, q _ _ s1 wk_range (by rw [rints_length]; exact big1 (by omega))⟩
      · rw [if_neg hn] at eg; cases eg
    | _ => cases eg
theorem wi_range2 {p : Pos} (hm : X.mg "range" = none) (ha : ER X o a fa) (hb : ER X o b fb) (hg : Gl X "range" := by rfl) (hs : starEach [a, b] X.env = [(false, eval a X.env), (false, eval b X.env)] := by rfl) (hs2 : starEach [b] X.env = [(false, eval b X.env)] := by rfl) : WI X o tg (.Call (.Name "range" p) [a, b] [] pos) (e2 fa fb dRng2) :=
  PI.imp (pi_range2 hg hm (pa_cons ha (pa_cons hb pa_nil hs2) (by rw [hs, hs2])) hs hs2) fun σ H R ⟨H0, P0, P, ρ, ds, Re, e', q⟩ => by
    obtain ⟨x, y, ea, eb, eg⟩ := e2_some e'
    refine ⟨H0, P0, P, ρ, _, Re, ea, fun v H1 s1 r1 => ⟨H0, P0, P, ρ, _, Re.go s1, eb, fun u H2 s2 r2 => ?_⟩⟩
    cases x with
    | int i =>
      cases y with
      | int j =>
        have eg : (if -1000000 ≤ i ∧ i ≤ 1000000 ∧ j ≤ 1000000 ∧ -1000000 ≤ j then some (rints i (j - i).toNat) else none) = some ds := eg
        by_cases hn : -1000000 ≤ i ∧ i ≤ 1000000 ∧ j ≤ 1000000 ∧ -1000000 ≤ j
        · rw [if_pos hn] at eg
          cases eg
          have e1 := r1.int
          have e2 := r2.int
          subst e1
          subst e2
          exact ⟨i, j, rfl, ⟨by omega, by omega, by omega, by omega⟩, q _ _ (s1.trans s2) wk_range (by rw [rints_length]; exact big1 (by omega))⟩
        · rw [if_neg hn] at eg; cases eg
      | _ => cases eg
    | _ => cases eg

/-! ### for -/
def forGo (tg : PyData → Rho → Option Rho) (body : Rho → Option Fl) (ks : List Nat) : List PyData → Rho → Option Fl
  | [], ρ => some (.nx ρ)
  | d :: ds, ρ => (tg d ρ).bind fun r => (body r).bind fun fl => match fl with
    | .nx r' => forGo tg body ks ds (clr ks r')
    | .ct r' => forGo tg body ks ds (clr ks r')
    | .bk r' => some (.nx (clr ks r'))
    | .rt d => some (.rt d)
    | .rx d r' => some (.rx d r')
    | .ex x => some (.ex x)
    | .rl b => some (.rl b)
def fFor (it : Rho → Option (List PyData)) (tg : PyData → Rho → Option Rho) (ks : List Nat) (body : Rho → Option Fl) : Rho → Option Fl := fun ρ => (it ρ).bind fun ds => forGo tg body ks ds (clr ks ρ)
theorem sv_for {iter : Expr} {body : List Stmt} {it : Rho → Option (List PyData)} {gt : PyData → Rho → Option Rho} {fb : Rho → Option Fl} (ks : List Nat) (hc : X.calm = true) (hi : WI X o tg iter it) (hg : TGt X o tg gt) (hb : SVs X o o o body fb) (hp : PassesOwn (model X.prog X.w) X.A X.env X.xe)
    (hk : ∀ k ∈ ks, k ∉ o := by decide) (hs : ∀ x, foldedSetIterable iter X.env x = pure x := by intro _; rfl) : SV X o o ob (.For tg iter body [] pos) (fFor it gt ks fb) := PS.imp (ps_for hp hc hi hg hb hs) fun D σ H ⟨H0, P0, P, ρ, fl, R, e, q⟩ => by
  unfold fFor at e
  cases ei : it ρ with
  | none => rw [ei] at e; cases e
  | some ds =>
  rw [ei] at e
  have e : forGo gt fb ks ds (clr ks ρ) = some fl := e
  refine ⟨H0, P0, P, ρ, ds, R, ei, fun J H1 s1 wk hz => ?_⟩
  refine ⟨fun i m σ H => m = ds.length - i ∧ i ≤ ds.length ∧ ∃ P' ρ', Rel X.K H0 P0 H P' o σ ρ' ∧ Lt H1 P H P' ∧ forGo gt fb ks (ds.drop i) ρ' = some fl, ⟨_, rfl, Nat.zero_le _, P, _, (R.go s1).clr hk, Lt.refl _ _, e⟩, ?_⟩
  rintro i m σ2 H2 ⟨rfl, hi2, P2, ρ2, R2, l2, e2⟩
  have lt2 : Lt H P H2 P2 := (Lt.same P s1).trans l2
  by_cases hlt : i < ds.length
  · refine .inr ⟨wk.go H2 P2 i l2 hlt, ?_⟩
    rw [List.drop_eq_getElem_cons hlt] at e2
    refine ⟨fun σ' H' => ∃ P' ρ', Rel X.K H0 P0 H' P' o σ' ρ' ∧ Lt H1 P H' P' ∧ forGo gt fb ks (ds.drop (i + 1)) ρ' = some fl, fun σ' H' ⟨P', ρ', r⟩ => ⟨_, (by omega : ds.length - (i + 1) < ds.length - i), rfl, hlt, P', ρ', r⟩, fun x H' y => ?_⟩
    obtain ⟨s3, d, ed, dq⟩ := wk.yld H2 P2 i x H' l2 R2.tr hlt y
    rw [List.getElem?_eq_getElem hlt] at ed
    cases ed
    unfold forGo at e2
    cases et : gt ds[i] ρ2 with
    | none => rw [et] at e2; cases e2
    | some r =>
    rw [et] at e2
    cases eb : fb r with
    | none => simp [eb] at e2
    | some fl1 =>
    simp only [Option.bind_some, eb] at e2
    refine ⟨H0, P0, P2, ρ2, ds[i], r, R2.go s3, dq, et, fun σ3 R3 => ⟨H0, P0, P2, r, fl1, R3, eb, ?_⟩⟩
    have l3 := l2.trans (Lt.same P2 s3)
    cases fl1 with
    | nx r' => exact fun σ' H4 P4 R4 l4 => ⟨P4, _, R4.clr hk, l3.trans l4, e2⟩
    | ct r' => exact fun σ' H4 P4 R4 l4 => ⟨P4, _, R4.clr hk, l3.trans l4, e2⟩
    | bk r' => cases e2; exact fun σ' H4 P4 R4 l4 => q σ' H4 P4 (R4.clr hk) ((lt2.trans (Lt.same P2 s3)).trans l4)
    | rt d => cases e2; exact q
    | rx d r' => cases e2; exact q
    | ex x => cases e2; exact q
    | rl b => cases e2; exact q
  · have ei2 : i = ds.length := by omega
    subst ei2
    refine .inl ⟨wk.stop H2 P2 l2, ?_⟩
    rw [List.drop_length] at e2
    cases e2
    exact q σ2 H2 P2 R2 lt2

/-! ### while -/
def whGo (t : Rho → Option Bool) (body : Rho → Option Fl) (ks : List Nat) : Nat → Rho → Option Fl
  | 0, _ => none
  | n + 1, ρ => (t ρ).bind fun c => if c = true then (body ρ).bind fun fl => (match fl with
      | .nx r' => whGo t body ks n (clr ks r')
      | .ct r' => whGo t body ks n (clr ks r')
      | .bk r' => some (.nx (clr ks r'))
      | .rt d => some (.rt d)
      | .rx d r' => some (.rx d r')
      | .ex x => some (.ex x)
      | .rl b => some (.rl b)) else some (.nx ρ)
def fWhile (n : Nat) (t : Rho → Option Bool) (ks : List Nat) (body : Rho → Option Fl) : Rho → Option Fl := fun ρ => whGo t body ks n (clr ks ρ)
theorem sv_while (n : Nat) {c : Expr} {body : List Stmt} {t : Rho → Option Bool} {fb : Rho → Option Fl} (ks : List Nat) (hc : ET X o c t) (hb : SVs X o o o body fb) (hp : PassesOwn (model X.prog X.w) X.A X.env X.xe)
    (hk : ∀ k ∈ ks, k ∉ o := by decide) : SV X o o ob (.While c body [] pos) (fWhile n t ks fb) := PS.imp (ps_while hp hc hb) fun D σ H ⟨H0, P0, P, ρ, fl, R, e, q⟩ => by
  refine ⟨fun m σ H1 => ∃ P' ρ', Rel X.K H0 P0 H1 P' o σ ρ' ∧ Lt H P H1 P' ∧ whGo t fb ks m ρ' = some fl, ⟨n, P, _, R.clr hk, Lt.refl _ _, e⟩, ?_⟩
  rintro m σ2 H2 ⟨P2, ρ2, R2, l2, e2⟩
  cases m with
  | zero => cases e2
  | succ m =>
  unfold whGo at e2
  cases et : t ρ2 with
  | none => rw [et] at e2; cases e2
  | some k =>
  rw [et] at e2
  simp only [Option.bind_some] at e2
  refine ⟨H0, P0, P2, ρ2, k, R2, et, fun H3 s3 => ?_⟩
  cases k with
  | false =>
    rw [if_neg (by decide)] at e2
    cases e2
    exact iteF (q σ2 H3 P2 (R2.go s3) (l2.trans (Lt.same P2 s3)))
  | true =>
    rw [if_pos rfl] at e2
    refine iteT ⟨fun σ' H' => ∃ P' ρ', Rel X.K H0 P0 H' P' o σ' ρ' ∧ Lt H P H' P' ∧ whGo t fb ks m ρ' = some fl, fun σ' H' r => ⟨m, Nat.lt_succ_self m, r⟩, ?_⟩
    cases eb : fb ρ2 with
    | none => rw [eb] at e2; cases e2
    | some fl1 =>
    rw [eb] at e2
    simp only [Option.bind_some] at e2
    refine ⟨H0, P0, P2, ρ2, fl1, R2.go s3, eb, ?_⟩
    have l3 := l2.trans (Lt.same P2 s3)
    cases fl1 with
    | nx r' => exact fun σ' H4 P4 R4 l4 => ⟨P4, _, R4.clr hk, l3.trans l4, e2⟩
    | ct r' => exact fun σ' H4 P4 R4 l4 => ⟨P4, _, R4.clr hk, l3.trans l4, e2⟩
    | bk r' => cases e2; exact fun σ' H4 P4 R4 l4 => q σ' H4 P4 (R4.clr hk) (l3.trans l4)
    | rt d => cases e2; exact q
    | rx d r' => cases e2; exact q
    | ex x => cases e2; exact q
    | rl b => cases e2; exact q

/-! ### a def -/
def runF (n : Nat) (f : Rho → Option Fl) (ds : List PyData) : Option PyData := (f (ds.map some ++ List.replicate (n - ds.length) none)).bind fun fl => match fl with
  | .rt d => some d
  | .nx _ => some .none
  | _ => none
theorem start_get {vs : List V} {N : List Str} {i : Nat} {v : V} (h : vs[i]? = some v) : (L2.start N vs)[i]? = some (some v) := by
  unfold L2.start
  have hl := (List.getElem?_eq_some_iff.mp h).1
  rw [List.getElem?_append_left (by simpa using hl), List.getElem?_map, h] <;> rfl
theorem fn_F {P : Program} {w : World} {K : PySem.W.Frag} {mg : Str → Option Value} {base : Heap} {k : Nat} {x qual : Str} {st : Stmt} {f : Addr} {fd : FuncData} {N ps : List Str} {o' : List Nat} {fb : Rho → Option Fl} (F : Fun K x qual st f fd) (S : FnScope N ps (defScope st)) (hT : OK.T = [])
    (hbody : ∀ (cdv : Value) (A : Around) (outer : List Env) (s : Shared) (H : Hp) (E : XK), Room k (A.deeper (envOfC qual (defScope st) s.heap.objs.size f cdv)) → SVs (cxOf CX0 P w K mg base N qual (defScope st) f cdv A outer s H E).nox [] o' [] (defBody st) fb) :
    FnOk P w K mg base CX0 (k + 1) f fd ps (spF K ps.length (runF N.length fb)) := by
  refine F.ok S (fun vs H Q E h => h.1) (fun cdv A outer s H vs Q E hr h => ?_)
  obtain ⟨hl, Pr, ds, d, tr, t, e, q⟩ := h
  refine ⟨_, hbody cdv A outer s H E hr, ?_⟩
  unfold runF at e
  cases ef : fb (ds.map some ++ List.replicate (N.length - ds.length) none) with
  | none => rw [ef] at e; cases e
  | some fl =>
  rw [ef] at e
  simp only [Option.bind_some] at e
  have tl := t.length
  refine ⟨H, Pr, Pr, _, fl, ⟨fun a z => z, tr, tr, Same.refl H, fun i hi => absurd hi (by simp), fun i j a b hi => absurd hi (by simp), fun i d' _ h => ?_, ?_, tabs0 hT, fun n => absurd hT n⟩, ef, ?_⟩
  · have hi : i < ds.length := by
      by_cases hi : i < ds.length
      · exact hi
      · rw [List.getElem?_append_right (by simpa using hi), List.getElem?_replicate] at h
        split at h <;> cases h
    rw [List.getElem?_append_left (by simpa using hi), List.getElem?_map] at h
    cases z : ds[i]? with
    | none => rw [z] at h; cases h
    | some d2 =>
      rw [z] at h
      cases h
      obtain ⟨v, h1, h2⟩ := t.get z
      exact ⟨v, start_get h1, h2⟩
  · unfold L2.start
    rw [List.length_append, List.length_append, List.length_map, List.length_map, List.length_replicate, List.length_replicate, tl]
  · cases fl with
    | rt d' => cases e; exact fun v H' s t => q v H' s t
    | nx r => cases e; exact fun σ' H' P' R l => q .non H' R.same .non
    | bk r => cases e
    | ct r => cases e
    | rx d r => cases e
    | ex x => cases e
    | rl b => cases e
end
end TF

/-! TFf.lean -/
set_option Elab.async false
set_option linter.all false
set_option maxRecDepth 100000
/-! TF.f: list comprehensions -/
namespace TF
open PySem PySem.Spec PyProof.Rows L2
variable [OK : OwnK]

def lcGo (tg : PyData → Rho → Option Rho) (tt : Rho → Option Bool) (el : Rho → Option PyData) (ρ : Rho) : List PyData → Option (List PyData)
  | [] => some []
  | d :: ds => (tg d ρ).bind fun r => (tt r).bind fun c => if c = true then (el r).bind fun y => (lcGo tg tt el ρ ds).bind fun ys => some (y :: ys) else lcGo tg tt el ρ ds
def eLc (it : Rho → Option (List PyData)) (tg : PyData → Rho → Option Rho) (tt : Rho → Option Bool) (el : Rho → Option PyData) : Rho → Option (List PyData) := fun ρ => (it ρ).bind fun ds => lcGo tg tt el ρ ds
def tYs : Rho → Option Bool := fun _ => some true

section
variable {K : PySem.W.Frag} {H0 H H' : Hp} {P0 P : Addr → Prop} {o : List Nat} {σ : St} {ρ : Rho}
/-- one more is private -/
theorem Rel.priv (R : Rel K H0 P0 H P o σ ρ) (e : Same H H') {p : Addr} {u : List V} (n : H p = none) (hp : H' p = some (.lst u)) : Rel K H0 P0 H' (fun a => a = p ∨ P a) o σ ρ := by
  have lt : Lt H P H' (fun a => a = p ∨ P a) := fun a u h hn _ => ⟨e a u h, by
    rintro (rfl | z)
    · rw [n] at h; cases h
    · exact hn z⟩
  refine ⟨fun a h => .inr (R.sub a h), R.tr0, ?_, R.same.trans e, fun j hj => ?_, R.dis, fun j d hj h => ?_, R.len, R.tab.ext e, fun n => ⟨(R.tp n).1, ?_⟩⟩
  · rintro a (rfl | h)
    · exact ⟨_, hp⟩
    · obtain ⟨u, hu⟩ := R.tr a h
      exact ⟨u, e a u hu⟩
  · obtain ⟨b, u', es, h1, h2, h3, h4, h5, h6⟩ := R.own j hj
    exact ⟨b, u', es, h1, h2, .inr h3, h4, e _ _ h5, h6.mono lt⟩
  · obtain ⟨v, h1, h2⟩ := R.dat j d hj h
    exact ⟨v, h1, h2.mono lt⟩
  · rintro a (rfl | z) ps q
    · rw [hp] at q; cases q
    · obtain ⟨w, hw⟩ := R.tr a z
      have := e a w hw
      rw [q] at this; cases this
      exact (R.tp n).2 a z ps hw
/-- a comprehension's target -/
def CT (K : PySem.W.Frag) (o : List Nat) (vs : List Nat) (g : TG) (gt : PyData → Rho → Option Rho) : Prop :=
  ∀ {H0 H : Hp} {P0 P : Addr → Prop} {σ : St} {ρ ρ' : Rho} {v : V} {d : PyData} (Q : St → Hp → Prop), Rel K H0 P0 H P o σ ρ → Dq K H P v d → gt d ρ = some ρ' →
    (∀ σ2, Rel K H0 P0 H P o σ2 ρ' → wipe σ2 vs = wipe σ vs → Q σ2 H) → g v (wipe σ vs) H Q
theorem ct_1 (i : Nat) (hi : i ∉ o := by decide) : CT K o [i] (gName i) (g1 i) := by
  intro H0 H P0 P σ ρ ρ' v d Q R t e q
  cases e
  refine q _ ?_ ?_
  · have e : (wipe σ [i]).set i (some v) = σ.set i (some v) := by simp [wipe]
    rw [e]
    exact R.set hi t
  · simp [wipe]
theorem ct_2 (i j : Nat) (hij : i ≠ j := by decide) (hi : i ∉ o := by decide) (hj : j ∉ o := by decide) : CT K o [i, j] (gTup K 2 (gCons (gName i) (gCons (gName j) gNil))) (g2 i j) := by
  intro H0 H P0 P σ ρ ρ' v d Q R t e q
  obtain ⟨x, y, rfl, rfl⟩ := g2_some e
  obtain ⟨a, u, w, rfl, hs, h1, h2⟩ := tup2 t
  refine ⟨a, [u, w], rfl, hs, rfl, u, [w], rfl, w, [], rfl, rfl, q _ ?_ ?_⟩
  · have e : ((wipe σ [i, j]).set i (some u)).set j (some w) = (σ.set i (some u)).set j (some w) := by
      apply List.ext_getElem?
      intro n
      simp only [wipe, List.getElem?_set, List.length_set]
      by_cases a1 : j = n <;> by_cases a2 : i = n <;> simp [a1, a2]
    rw [e]
    exact (R.set hi h1).set hj h2
  · apply List.ext_getElem?
    intro n
    simp only [wipe, List.getElem?_set, List.length_set]
    by_cases a1 : j = n <;> by_cases a2 : i = n <;> simp [a1, a2]
theorem ct_3 (i j k : Nat) (hij : i ≠ j := by decide) (hik : i ≠ k := by decide) (hjk : j ≠ k := by decide) (hi : i ∉ o := by decide) (hj : j ∉ o := by decide) (hk : k ∉ o := by decide) : CT K o [i, j, k] (gTup K 3 (gCons (gName i) (gCons (gName j) (gCons (gName k) gNil)))) (g3 i j k) := by
  intro H0 H P0 P σ ρ ρ' v d Q R t e q
  obtain ⟨x, y, z, rfl, rfl⟩ := g3_some e
  obtain ⟨a, u, w, r, rfl, hs, h1, h2, h3⟩ := tup3 t
  refine ⟨a, [u, w, r], rfl, hs, rfl, u, [w, r], rfl, w, [r], rfl, r, [], rfl, rfl, q _ ?_ ?_⟩
  · have e : (((wipe σ [i, j, k]).set i (some u)).set j (some w)).set k (some r) = ((σ.set i (some u)).set j (some w)).set k (some r) := by
      apply List.ext_getElem?
      intro n
      simp only [wipe, List.getElem?_set, List.length_set]
      by_cases a1 : j = n <;> by_cases a2 : i = n <;> by_cases a3 : k = n <;> simp [a1, a2, a3]
    rw [e]
    exact ((R.set hi h1).set hj h2).set hk h3
  · apply List.ext_getElem?
    intro n
    simp only [wipe, List.getElem?_set, List.length_set]
    by_cases a1 : j = n <;> by_cases a2 : i = n <;> by_cases a3 : k = n <;> simp [a1, a2, a3]
theorem lc_of {vs : List Nat} {g : TG} {gt : PyData → Rho → Option Rho} {it : Rho → Option (List PyData)} {tt : Rho → Option Bool} {el : Rho → Option PyData} {Q : VK} (ct : CT K o vs g gt) (h : tN K o (eLc it gt tt el) σ H Q) :
    tLc (tI K o it) g (tT K o tt) (tV K o el) vs σ H Q := by
  obtain ⟨H0, P0, P, ρ, res, R, e, q⟩ := h
  unfold eLc at e
  cases ei : it ρ with
  | none => rw [ei] at e; cases e
  | some ds =>
  rw [ei] at e
  have e : lcGo gt tt el ρ ds = some res := e
  refine ⟨H0, P0, P, ρ, ds, R, ei, fun J H1 s1 wk hz D hD => ?_⟩
  have hD0 : H D = none := s1.free hD
  refine ⟨fun i m Hc => m = ds.length - i ∧ i ≤ ds.length ∧ ∃ acc accd rest, Hc D = some (.lst acc) ∧ DqA K Hc (fun a => a = D ∨ P a) acc accd ∧ lcGo gt tt el ρ (ds.drop i) = some rest ∧ accd ++ rest = res ∧ acc.length ≤ i ∧ Same H1 Hc,
    ⟨_, rfl, Nat.zero_le _, [], [], res, upd_same, .nil, e, rfl, Nat.le_refl _, same_upd hD _⟩, ?_⟩
  rintro i m Hc ⟨rfl, hi, acc, accd, rest, hDc, hacc, er, hres, hlen, sc⟩
  have lt : Lt H1 P Hc (fun a => a = D ∨ P a) := fun a u h hn _ => ⟨sc a u h, by
    rintro (rfl | z)
    · rw [hD] at h; cases h
    · exact hn z⟩
  have Rc : Rel K H0 P0 Hc (fun a => a = D ∨ P a) o σ ρ := R.priv (s1.trans sc) hD0 hDc
  by_cases hlt : i < ds.length
  · refine .inr ⟨wk.go Hc _ i lt hlt, ?_⟩
    rw [List.drop_eq_getElem_cons hlt] at er
    unfold lcGo at er
    refine ⟨fun H' => ∃ acc accd rest, H' D = some (.lst acc) ∧ DqA K H' (fun a => a = D ∨ P a) acc accd ∧ lcGo gt tt el ρ (ds.drop (i + 1)) = some rest ∧ accd ++ rest = res ∧ acc.length ≤ i + 1 ∧ Same H1 H',
      fun H' r => ⟨_, (by omega : ds.length - (i + 1) < ds.length - i), rfl, hlt, r⟩, fun x H' y => ?_⟩
    obtain ⟨s3, d, ed, dq⟩ := wk.yld Hc _ i x H' lt Rc.tr hlt y
    rw [List.getElem?_eq_getElem hlt] at ed
    cases ed
    cases et : gt ds[i] ρ with
    | none => rw [et] at er; cases er
    | some r =>
    rw [et] at er
    cases ett : tt r with
    | none => simp [ett] at er
    | some c =>
    simp only [Option.bind_some, ett] at er
    refine ct _ (Rc.go s3) dq et fun σ2 R2 hw => ⟨hw, H0, P0, _, r, c, R2, ett, fun H4 s4 => ?_⟩
    cases c with
    | false =>
      rw [if_neg (by decide)] at er
      exact iteF ⟨acc, accd, rest, s4 _ _ (s3 _ _ hDc), hacc.same (s3.trans s4), er, hres, by omega, sc.trans (s3.trans s4)⟩
    | true =>
      rw [if_pos rfl] at er
      cases eel : el r with
      | none => rw [eel] at er; cases er
      | some yd =>
      rw [eel] at er
      simp only [Option.bind_some] at er
      cases ego : lcGo gt tt el ρ (ds.drop (i + 1)) with
      | none => rw [ego] at er; cases er
      | some ys =>
      rw [ego] at er
      cases er
      refine iteT ⟨H0, P0, _, r, yd, R2.go s4, eel, fun v H5 s5 t => ?_⟩
      have s35 := s3.trans (s4.trans s5)
      have ltu : Lt H5 (fun a => a = D ∨ P a) (upd H5 D (.lst (acc ++ [v]))) (fun a => a = D ∨ P a) := fun c u h n _ => ⟨by rw [upd_ne (fun z => n (.inl z))]; exact h, n⟩
      refine ⟨acc, s35 _ _ hDc, by omega, acc ++ [v], accd ++ [yd], ys, upd_same, ((hacc.same s35).append (.cons t .nil)).mono ltu, rfl, by rw [List.append_assoc]; exact hres, by rw [List.length_append, List.length_singleton]; omega, fun c u h => ?_⟩
      rw [upd_ne (ne_of_none h hD)]
      exact (sc.trans s35) c u h
  · have ei2 : i = ds.length := by omega
    subst ei2
    refine .inl ⟨wk.stop Hc _ lt, ?_⟩
    rw [List.drop_length] at er
    cases er
    rw [List.append_nil] at hres
    subst hres
    exact q D acc Hc (s1.trans sc) hD0 hDc hacc
end
section
variable {X : Cx} {o ob : List Nat} {elt tg iter : Expr} {ifs : List Expr} {scope : Scope} {pos : Pos} {it : Rho → Option (List PyData)} {gt : PyData → Rho → Option Rho} {tt : Rho → Option Bool} {el : Rho → Option PyData} {g : TG}
theorem PTs.imp {X : Cx} {ifs : List Expr} {t t' : TT} (h : PTs X ifs t) (i : ∀ σ H Q, t' σ H Q → t σ H Q) : PTs X ifs t' := ⟨fun pins s σ H Q I q => h.run pins s σ H Q I (i σ H Q q)⟩
theorem ets_nil {X : Cx} : PTs X [] (tT X.K o tYs) := PTs.imp pts_nil fun σ H Q ⟨H0, P0, P, ρ, d, R, e, q⟩ => by cases e; exact q H (Same.refl H)
theorem ets_one {X : Cx} {c : Expr} (h : ET X o c tt) : PTs X [c] (tT X.K o tt) := pts_one h
theorem en_lc (own : List (Str × Nat)) (hc : X.calm = true) (hN : X.N.Nodup) (hi : WI X o tg iter it) (ct : CT X.K o (own.map (·.2)) g gt)
    (ok : BlkOk X.N X.env.scope scope own)
    (hg : ∀ (s : Shared) (H : Hp) (C : Addr) (cl : List (Str × Addr)) (fp : List Addr), PG (X.blk s H scope (compEnvC scope cl C X.env) fp) tg g) (ht : ∀ (s : Shared) (H : Hp) (C : Addr) (cl : List (Str × Addr)) (fp : List Addr), PTs (X.blk s H scope (compEnvC scope cl C X.env) fp) ifs (tT X.K o tt))
    (he : ∀ (s : Shared) (H : Hp) (C : Addr) (cl : List (Str × Addr)) (fp : List Addr), EV (X.blk s H scope (compEnvC scope cl C X.env) fp) o elt el) (hs : ∀ x, foldedSetIterable iter X.env x = pure x := by intro _; rfl) :
    EN X o (.ListComp elt [⟨tg, iter, ifs, 0⟩] scope pos) (eLc it gt tt el) := PE.imp (pe_lc hc hN hi ok hg ht he hs) fun σ H Q h => lc_of ct h
/-- y = [..], y one's own then -/
theorem sv_ownLc (i : Nat) (own : List (Str × Nat)) {y : Str} {py : Pos} {spos : Pos} (hc : X.calm = true) (hN : X.N.Nodup) (hi : WI X o tg iter it) (ct : CT X.K o (own.map (·.2)) g gt)
    (ok : BlkOk X.N X.env.scope scope own)
    (hg : ∀ (s : Shared) (H : Hp) (C : Addr) (cl : List (Str × Addr)) (fp : List Addr), PG (X.blk s H scope (compEnvC scope cl C X.env) fp) tg g) (ht : ∀ (s : Shared) (H : Hp) (C : Addr) (cl : List (Str × Addr)) (fp : List Addr), PTs (X.blk s H scope (compEnvC scope cl C X.env) fp) ifs (tT X.K o tt))
    (he : ∀ (s : Shared) (H : Hp) (C : Addr) (cl : List (Str × Addr)) (fp : List Addr), EV (X.blk s H scope (compEnvC scope cl C X.env) fp) o elt el)
    (hsw : swapsWith (.ListComp elt [⟨tg, iter, ifs, 0⟩] scope pos) (some (.Name y py)) spos.line X.env = pure true) (hio : i ∉ o := by decide) (hy : X.N[i]? = some y := by rfl) (hyl : X.env.scope.names.lookup y = some .local := by rfl) (hs : ∀ x, foldedSetIterable iter X.env x = pure x := by intro _; rfl) :
    SV X o (i :: o) ob (.Assign [.Name y py] (.ListComp elt [⟨tg, iter, ifs, 0⟩] scope pos) spos) (fOwn i (eLc it gt tt el)) := PS.imp (ps_setLc hc hN hy hyl hsw hi ok hg ht he hs) fun D σ H h => by
  have h' := own_of hio h
  exact lc_of ct h'
end
end TF

/-! TFg.lean -/
set_option Elab.async false
set_option linter.all false
set_option maxRecDepth 100000
/-! TF.g: operators and built-ins on data -/
namespace TF
open PySem PySem.Spec PyProof.Rows L2
variable [OK : OwnK]

section
variable {X : Cx}
/-! ### + -/
def dAdd : PyData → PyData → Option PyData
  | .int i, .int j => some (.int (i + j))
  | .str a, .str b => if a.length + b.length ≤ sizeLine then some (.str (a ++ b)) else none
  | .tuple xs, .tuple ys => if xs.length + ys.length ≤ sizeLine then some (.tuple (xs ++ ys)) else none
  | _, _ => none
theorem opF_add : OpR X (binaryOp .Add) (rF X.K dAdd) := OpR.imp (op_add.or (op_add_str.or op_catF)) fun x y H Q ⟨P, dx, dy, d, tr, rx, ry, e, q⟩ => by
  have np : ∀ {p : Addr}, H p = none → ¬ P p := fun h z => by obtain ⟨u, hu⟩ := tr _ z; rw [h] at hu; cases hu
  unfold dAdd at e
  split at e
  · cases e
    exact .inl ⟨_, _, rx.int, ry.int, q _ H (Same.refl H) (.int _)⟩
  · rename_i a b
    by_cases hz : a.length + b.length ≤ sizeLine
    · rw [if_pos hz] at e; cases e
      exact .inr (.inl ⟨_, _, rx.str, ry.str, hz, q _ H (Same.refl H) (.str _)⟩)
    · rw [if_neg hz] at e; cases e
  · rename_i xs ys
    by_cases hz : xs.length + ys.length ≤ sizeLine
    · rw [if_pos hz] at e; cases e
      have qx := rx.tupQ
      have qy := ry.tupQ
      obtain ⟨a, us, rfl, hs, t⟩ := rx.tup
      obtain ⟨b, ws, rfl, hs2, t2⟩ := ry.tup
      refine .inr (.inr ⟨a, b, us, ws, rfl, rfl, hs, hs2, by rw [t.length, t2.length]; exact hz, fun h => ?_, fun _ h => ?_, fun _ _ p its hp => ?_⟩)
      · have : xs = [] := t.nil_iff.mp h
        subst this
        exact q _ H (Same.refl H) qy
      · have : ys = [] := t2.nil_iff.mp h
        subst this
        rw [List.append_nil] at q
        exact q _ H (Same.refl H) qx
      · exact q _ _ (same_upd hp _) (.tup upd_same (np hp) ((t.append t2).same (same_upd hp _)))
    · rw [if_neg hz] at e; cases e
  · cases e
theorem newDq {K : PySem.W.Frag} {H : Hp} {P : Addr → Prop} {p : Addr} {u : HO} {vs : List V} {ds : List PyData} (hp : H p = none) (t : DqA K H P vs ds) : DqA K (upd H p u) (fun a => a = p ∨ P a) vs ds := t.mono fun a w h n _ => ⟨same_upd hp u a w h, by
  rintro (rfl | z)
  · rw [hp] at h; cases h
  · exact n z⟩
def dAddL : PyData → PyData → Option (List PyData)
  | .list xs, .list ys => if xs.length + ys.length ≤ sizeLine then some (xs ++ ys) else none
  | _, _ => none
theorem opF_addL : OpR X (binaryOp .Add) (rFN X.K dAddL) := OpR.imp op_cat fun x y H Q ⟨P, dx, dy, d, tr, rx, ry, e, q⟩ => by
  unfold dAddL at e
  split at e
  · rename_i xs ys
    by_cases hz : xs.length + ys.length ≤ sizeLine
    · rw [if_pos hz] at e; cases e
      obtain ⟨a, us, rfl, hs, t⟩ := rx.lst
      obtain ⟨b, ws, rfl, hs2, t2⟩ := ry.lst
      exact ⟨a, b, us, ws, rfl, rfl, hs, hs2, by rw [t.length, t2.length]; exact hz, fun p hp => q p _ _ (same_upd hp _) hp upd_same (newDq hp (t.append t2))⟩
    · rw [if_neg hz] at e; cases e
  · cases e
/-! ### - * // % of ints -/
def dSub : PyData → PyData → Option PyData
  | .int i, .int j => some (.int (i - j))
  | _, _ => none
theorem opF_sub : OpR X (binaryOp .Sub) (rF X.K dSub) := OpR.imp op_sub fun x y H Q ⟨P, dx, dy, d, tr, rx, ry, e, q⟩ => by
  unfold dSub at e
  split at e
  · cases e; exact ⟨_, _, rx.int, ry.int, q _ H (Same.refl H) (.int _)⟩
  · cases e
def dMul : PyData → PyData → Option PyData
  | .int i, .int j => if (-(2 ^ 64) < i ∧ i < 2 ^ 64) ∨ (-(2 ^ 64) < j ∧ j < 2 ^ 64) then some (.int (i * j)) else none
  | _, _ => none
theorem opF_mul : OpR X (binaryOp .Mult) (rF X.K dMul) := OpR.imp op_mul fun x y H Q ⟨P, dx, dy, d, tr, rx, ry, e, q⟩ => by
  unfold dMul at e
  split at e
  · rename_i i j
    by_cases hz : (-(2 ^ 64) < i ∧ i < 2 ^ 64) ∨ (-(2 ^ 64) < j ∧ j < 2 ^ 64)
    · rw [if_pos hz] at e; cases e
      exact ⟨_, _, rx.int, ry.int, hz, q _ H (Same.refl H) (.int _)⟩
    · rw [if_neg hz] at e; cases e
  · cases e
def dDiv : PyData → PyData → Option PyData
  | .int i, .int j => if 0 < j ∧ j < 1073741824 then some (.int (i / j)) else none
  | _, _ => none
theorem opF_div : OpR X (binaryOp .FloorDiv) (rF X.K dDiv) := OpR.imp op_fdiv fun x y H Q ⟨P, dx, dy, d, tr, rx, ry, e, q⟩ => by
  unfold dDiv at e
  split at e
  · rename_i i j
    by_cases hz : 0 < j ∧ j < 1073741824
    · rw [if_pos hz] at e; cases e
      exact ⟨_, _, rx.int, ry.int, hz, q _ H (Same.refl H) (.int _)⟩
    · rw [if_neg hz] at e; cases e
  · cases e
def dMod : PyData → PyData → Option PyData
  | .int i, .int j => if 0 < j then some (.int (i % j)) else none
  | _, _ => none
theorem opF_mod : OpR X (binaryOp .Mod) (rF X.K dMod) := OpR.imp op_mod fun x y H Q ⟨P, dx, dy, d, tr, rx, ry, e, q⟩ => by
  unfold dMod at e
  split at e
  · rename_i i j
    by_cases hz : 0 < j
    · rw [if_pos hz] at e; cases e
      exact ⟨_, _, rx.int, ry.int, hz, q _ H (Same.refl H) (.int _)⟩
    · rw [if_neg hz] at e; cases e
  · cases e
/-! ### comparisons -/
/-- no dict within, not too deep -/
def pl (d : PyData) : Bool := d.plain && decide (d.depth ≤ 64)
theorem pl_plain {d : PyData} (h : pl d = true) : d.plain = true := (Bool.and_eq_true_iff.mp h).1
theorem pl_depth {d : PyData} (h : pl d = true) : d.depth ≤ 64 := of_decide_eq_true (Bool.and_eq_true_iff.mp h).2
def dEq : PyData → PyData → Option Bool := fun d e => if pl d = true ∧ pl e = true then some (PyData.eqv d e) else none
def dNe : PyData → PyData → Option Bool := fun d e => if pl d = true ∧ pl e = true then some (!PyData.eqv d e) else none
def rCmpD (K : PySem.W.Frag) (g : PyData → PyData → Bool) (C : PyData → PyData → Prop) : R2 := fun x y H Q => ∃ d e, Dp K H x d ∧ Dp K H y e ∧ pl d = true ∧ pl e = true ∧ C d e ∧ Q (.bl (g d e)) H
theorem room_min {A : Around} {d e : PyData} (hu : A.units + 64 < cLine) (h : pl d = true) : A.units + min d.depth e.depth < cLine := by
  have := pl_depth h
  omega
theorem op_eqP (hu : X.A.units + 64 < cLine) : OpR X (compareOp .Eq) (rCmpD X.K PyData.eqv fun _ _ => True) := by
  intro pins s σ H x y v u Q I rx ry ⟨d, e, hd, he, sd, se, _, q⟩
  obtain ⟨as, r1⟩ := Dp.reads I d x v hd rx
  obtain ⟨bs, r2⟩ := Dp.reads I e y u he ry
  exact SeqAt.eq_plain r1 r2 (pl_plain sd) (pl_plain se) (room_min hu sd) ⟨.bl _, H, I, rfl, q⟩
theorem op_neP (hu : X.A.units + 64 < cLine) : OpR X (compareOp .NotEq) (rCmpD X.K (fun d e => !PyData.eqv d e) fun _ _ => True) := by
  intro pins s σ H x y v u Q I rx ry ⟨d, e, hd, he, sd, se, _, q⟩
  obtain ⟨as, r1⟩ := Dp.reads I d x v hd rx
  obtain ⟨bs, r2⟩ := Dp.reads I e y u he ry
  exact SeqAt.ne_plain r1 r2 (pl_plain sd) (pl_plain se) (room_min hu sd) ⟨.bl _, H, I, rfl, q⟩
theorem op_ltP (hu : X.A.units + 64 < cLine) : OpR X (compareOp .Lt) (rCmpD X.K PySem.W.dataLt fun d e => PySem.W.alike d e = true ∧ d ≠ .none) := by
  intro pins s σ H x y v u Q I rx ry ⟨d, e, hd, he, sd, se, c, q⟩
  obtain ⟨as, r1⟩ := Dp.reads I d x v hd rx
  obtain ⟨bs, r2⟩ := Dp.reads I e y u he ry
  exact PySem.W.lt_data r1 r2 c.1 c.2 (room_min hu sd) ⟨.bl _, H, I, rfl, q⟩
theorem opF_eq (hu : X.A.units + 64 < cLine) : OpR X (compareOp .Eq) (rFB X.K dEq) := OpR.imp (op_eqP hu) fun x y H Q ⟨P, dx, dy, d, tr, rx, ry, e, q⟩ => by
  unfold dEq at e
  by_cases hz : pl dx = true ∧ pl dy = true
  · rw [if_pos hz] at e; cases e
    exact ⟨dx, dy, rx.dp (pl_plain hz.1), ry.dp (pl_plain hz.2), hz.1, hz.2, trivial, q⟩
  · rw [if_neg hz] at e; cases e
theorem opF_ne (hu : X.A.units + 64 < cLine) : OpR X (compareOp .NotEq) (rFB X.K dNe) := OpR.imp (op_neP hu) fun x y H Q ⟨P, dx, dy, d, tr, rx, ry, e, q⟩ => by
  unfold dNe at e
  by_cases hz : pl dx = true ∧ pl dy = true
  · rw [if_pos hz] at e; cases e
    exact ⟨dx, dy, rx.dp (pl_plain hz.1), ry.dp (pl_plain hz.2), hz.1, hz.2, trivial, q⟩
  · rw [if_neg hz] at e; cases e
def ltS (a b : Str) : Bool := decide (a.cps.toList < b.cps.toList)
def dLt : PyData → PyData → Option Bool
  | .int i, .int j => some (decide (i < j))
  | .str a, .str b => some (ltS a b)
  | _, _ => none
def dLe : PyData → PyData → Option Bool
  | .int i, .int j => some (decide (i ≤ j))
  | .str a, .str b => some (!ltS b a)
  | _, _ => none
def dGt : PyData → PyData → Option Bool
  | .int i, .int j => some (decide (j < i))
  | .str a, .str b => some (ltS b a)
  | _, _ => none
def dGe : PyData → PyData → Option Bool
  | .int i, .int j => some (decide (j ≤ i))
  | .str a, .str b => some (!ltS a b)
  | _, _ => none
theorem opF_lt : OpR X (compareOp .Lt) (rFB X.K dLt) := OpR.imp (op_lt.or op_lt_str) fun x y H Q ⟨P, dx, dy, d, tr, rx, ry, e, q⟩ => by
  unfold dLt at e
  split at e
  · cases e; exact .inl ⟨_, _, rx.int, ry.int, q⟩
  · cases e; exact .inr ⟨_, _, rx.str, ry.str, q⟩
  · cases e
theorem opF_le : OpR X (compareOp .LtE) (rFB X.K dLe) := OpR.imp (op_le.or op_le_str) fun x y H Q ⟨P, dx, dy, d, tr, rx, ry, e, q⟩ => by
  unfold dLe at e
  split at e
  · cases e; exact .inl ⟨_, _, rx.int, ry.int, q⟩
  · cases e; exact .inr ⟨_, _, rx.str, ry.str, q⟩
  · cases e
theorem opF_gt : OpR X (compareOp .Gt) (rFB X.K dGt) := OpR.imp (op_gt.or op_gt_str) fun x y H Q ⟨P, dx, dy, d, tr, rx, ry, e, q⟩ => by
  unfold dGt at e
  split at e
  · cases e; exact .inl ⟨_, _, rx.int, ry.int, q⟩
  · cases e; exact .inr ⟨_, _, rx.str, ry.str, q⟩
  · cases e
theorem opF_ge : OpR X (compareOp .GtE) (rFB X.K dGe) := OpR.imp (op_ge.or op_ge_str) fun x y H Q ⟨P, dx, dy, d, tr, rx, ry, e, q⟩ => by
  unfold dGe at e
  split at e
  · cases e; exact .inl ⟨_, _, rx.int, ry.int, q⟩
  · cases e; exact .inr ⟨_, _, rx.str, ry.str, q⟩
  · cases e
/-! ### in -/
theorem op_inLT (hu : X.A.units + 65 < cLine) : OpR X (compareOp .In) (fun x y H Q => ∃ d e ds, Dp X.K H x d ∧ Dp X.K H y e ∧ (e = .list ds ∨ e = .tuple ds) ∧ pl d = true ∧ pl e = true ∧ Q (.bl (ds.any fun z => PyData.eqv z d)) H) := by
  intro pins s σ H x y v u Q I rx ry ⟨d, e, ds, hd, he, ee, sd, se, q⟩
  obtain ⟨as, r1⟩ := Dp.reads I d x v hd rx
  obtain ⟨bs, r2⟩ := Dp.reads I e y u he ry
  have hd64 := pl_depth sd
  rcases ee with rfl | rfl
  · exact SeqAt.in_list_data r2 r1 (by simpa only [PyData.plain] using pl_plain se) (pl_plain sd) (by omega) ⟨.bl _, H, I, rfl, q⟩
  · exact SeqAt.in_tuple_data r2 r1 (by simpa only [PyData.plain] using pl_plain se) (pl_plain sd) (by omega) ⟨.bl _, H, I, rfl, q⟩
theorem op_notInLT (hu : X.A.units + 65 < cLine) : OpR X (compareOp .NotIn) (fun x y H Q => ∃ d e ds, Dp X.K H x d ∧ Dp X.K H y e ∧ (e = .list ds ∨ e = .tuple ds) ∧ pl d = true ∧ pl e = true ∧ Q (.bl (!ds.any fun z => PyData.eqv z d)) H) := by
  intro pins s σ H x y v u Q I rx ry ⟨d, e, ds, hd, he, ee, sd, se, q⟩
  obtain ⟨as, r1⟩ := Dp.reads I d x v hd rx
  obtain ⟨bs, r2⟩ := Dp.reads I e y u he ry
  have hd64 := pl_depth sd
  rcases ee with rfl | rfl
  · exact SeqAt.notIn_list_data r2 r1 (by simpa only [PyData.plain] using pl_plain se) (pl_plain sd) (by omega) ⟨.bl _, H, I, rfl, q⟩
  · exact SeqAt.notIn_tuple_data r2 r1 (by simpa only [PyData.plain] using pl_plain se) (pl_plain sd) (by omega) ⟨.bl _, H, I, rfl, q⟩
def dIn : PyData → PyData → Option Bool
  | d, .list ds => if pl d = true ∧ pl (.list ds) = true then some (ds.any fun z => PyData.eqv z d) else none
  | d, .tuple ds => if pl d = true ∧ pl (.tuple ds) = true then some (ds.any fun z => PyData.eqv z d) else none
  | .str a, .str b => if a.cps.size = 1 then some (decide (a.cps.getD 0 0 ∈ b.cps.toList)) else none
  | _, _ => none
def dNotIn : PyData → PyData → Option Bool := fun x y => (dIn x y).map (!·)
theorem sign1 {a : Str} (h : a.cps.size = 1) : a = ⟨#[a.cps.getD 0 0]⟩ := by
  obtain ⟨⟨l⟩⟩ := a
  match l, h with
  | [c], _ => rfl
theorem opF_in (hu : X.A.units + 65 < cLine) : OpR X (compareOp .In) (rFB X.K dIn) := OpR.imp ((op_inLT hu).or op_in_sign) fun x y H Q ⟨P, dx, dy, d, tr, rx, ry, e, q⟩ => by
  unfold dIn at e
  split at e
  · rename_i dx2 ds
    by_cases hz : pl dx = true ∧ pl (.list ds) = true
    · rw [if_pos hz] at e; cases e
      exact .inl ⟨dx, _, ds, rx.dp (pl_plain hz.1), ry.dp (pl_plain hz.2), .inl rfl, hz.1, hz.2, q⟩
    · rw [if_neg hz] at e; cases e
  · rename_i dx2 ds
    by_cases hz : pl dx = true ∧ pl (.tuple ds) = true
    · rw [if_pos hz] at e; cases e
      exact .inl ⟨dx, _, ds, rx.dp (pl_plain hz.1), ry.dp (pl_plain hz.2), .inr rfl, hz.1, hz.2, q⟩
    · rw [if_neg hz] at e; cases e
  · rename_i a b
    by_cases hz : a.cps.size = 1
    · rw [if_pos hz] at e; cases e
      exact .inr ⟨_, b, by rw [rx.str]; exact congrArg V.str (sign1 hz), ry.str, q⟩
    · rw [if_neg hz] at e; cases e
  · cases e
theorem opF_notIn (hu : X.A.units + 65 < cLine) : OpR X (compareOp .NotIn) (rFB X.K dNotIn) := OpR.imp ((op_notInLT hu).or op_notIn_sign) fun x y H Q ⟨P, dx, dy, d, tr, rx, ry, e, q⟩ => by
  unfold dNotIn dIn at e
  split at e
  · rename_i dx2 ds
    by_cases hz : pl dx = true ∧ pl (.list ds) = true
    · rw [if_pos hz] at e; cases e
      exact .inl ⟨dx, _, ds, rx.dp (pl_plain hz.1), ry.dp (pl_plain hz.2), .inl rfl, hz.1, hz.2, q⟩
    · rw [if_neg hz] at e; cases e
  · rename_i dx2 ds
    by_cases hz : pl dx = true ∧ pl (.tuple ds) = true
    · rw [if_pos hz] at e; cases e
      exact .inl ⟨dx, _, ds, rx.dp (pl_plain hz.1), ry.dp (pl_plain hz.2), .inr rfl, hz.1, hz.2, q⟩
    · rw [if_neg hz] at e; cases e
  · rename_i a b
    by_cases hz : a.cps.size = 1
    · rw [if_pos hz] at e; cases e
      exact .inr ⟨_, b, by rw [rx.str]; exact congrArg V.str (sign1 hz), ry.str, q⟩
    · rw [if_neg hz] at e; cases e
  · cases e
/-! ### is None -/
def dIsN : PyData → PyData → Option Bool
  | .none, .none => some true
  | .dict _, .none => none
  | _, .none => some false
  | _, _ => none
theorem opF_is : OpR X (compareOp .Is) (rFB X.K dIsN) := OpR.imp op_isN fun x y H Q ⟨P, dx, dy, d, tr, rx, ry, e, q⟩ => by
  unfold dIsN at e
  split at e
  · cases e
    have := rx.non
    subst this
    exact ⟨ry.non, q⟩
  · cases e
  · rename_i h1 h
    cases e
    refine ⟨ry.non, ?_⟩
    have : ¬ x = V.non := fun z => by
      subst z
      rcases rx with rx | ⟨_, _, _, z, _⟩
      · cases rx with
        | non => exact h1 rfl
        | jnk x => exact h _ rfl
      · cases z
    rw [decide_eq_false this]
    exact q
  · cases e
def dIsNotN : PyData → PyData → Option Bool := fun x y => (dIsN x y).map (!·)
theorem opF_isNot : OpR X (compareOp .IsNot) (rFB X.K dIsNotN) := OpR.imp op_notN fun x y H Q ⟨P, dx, dy, d, tr, rx, ry, e, q⟩ => by
  unfold dIsNotN dIsN at e
  split at e
  · cases e
    have := rx.non
    subst this
    exact ⟨ry.non, q⟩
  · cases e
  · rename_i h1 h
    cases e
    refine ⟨ry.non, ?_⟩
    have : ¬ x = V.non := fun z => by
      subst z
      rcases rx with rx | ⟨_, _, _, z, _⟩
      · cases rx with
        | non => exact h1 rfl
        | jnk x => exact h _ rfl
      · cases z
    rw [decide_eq_false this]
    exact q
  · cases e
/-! ### subscripts -/
def dIx : PyData → PyData → Option PyData
  | .list ds, .int i => atI ds i
  | .tuple ds, .int i => atI ds i
  | .str z, .int i => if z.length ≤ sizeLine then (atI z.cps.toList i).map fun c => .str ⟨#[c]⟩ else none
  | .dict ((.str _, _) :: _), .int _ => none
  | .dict kvs, .int i => atI (kvs.map (·.1)) i
  | _, _ => none
theorem DqA.atI {K : PySem.W.Frag} {H : Hp} {P : Addr → Prop} {vs : List V} {ds : List PyData} {i : Int} {d : PyData} (t : DqA K H P vs ds) (h : L2.atI ds i = some d) : ∃ v, L2.atI vs i = some v ∧ Dq K H P v d := by
  unfold L2.atI at h ⊢
  rw [t.length]
  cases e : ixN ds.length i with
  | none => rw [e] at h; cases h
  | some j =>
    rw [e] at h
    exact t.get (show ds[j]? = some d from h)
theorem scr_atI {ns : List Int} {i : Int} {d : PyData} {kvs : List (PyData × PyData)} (e : kvs = ns.map fun n => (.int n, .none)) (h : L2.atI (kvs.map (·.1)) i = some d) : ∃ n, d = .int n ∧ L2.atI (ns.map V.int) i = some (.int n) := by
  subst e
  unfold L2.atI at h ⊢
  rw [List.map_map] at h
  rw [List.length_map] at h ⊢
  cases e : ixN ns.length i with
  | none => rw [e] at h; cases h
  | some j =>
    rw [e] at h
    have h' : (ns.map ((fun x => x.1) ∘ fun n => (PyData.int n, PyData.none)))[j]? = some d := h
    rw [List.getElem?_map] at h'
    cases z : ns[j]? with
    | none => rw [z] at h'; cases h'
    | some n =>
      rw [z] at h'
      cases h'
      exact ⟨n, rfl, by show (ns.map V.int)[j]? = _; rw [List.getElem?_map, z] <;> rfl⟩
theorem opF_ix : IxR X (rF X.K dIx) := IxR.imp ix_seq fun x y H Q ⟨P, dx, dy, d, tr, rx, ry, e, q⟩ => by
  unfold dIx at e
  split at e
  · obtain ⟨a, xs, rfl, h, t⟩ := rx.lst
    obtain ⟨v, h1, h2⟩ := t.atI e
    exact .inl ⟨a, xs, _, v, rfl, ry.int, SqL.of h, h1, q _ H (Same.refl H) h2⟩
  · obtain ⟨a, xs, rfl, h, t⟩ := rx.tup
    obtain ⟨v, h1, h2⟩ := t.atI e
    exact .inr (.inl ⟨a, xs, _, v, rfl, ry.int, h, h1, q _ H (Same.refl H) h2⟩)
  · rename_i z i
    by_cases hz : z.length ≤ sizeLine
    · rw [if_pos hz] at e
      cases ea : L2.atI z.cps.toList i with
      | none => rw [ea] at e; cases e
      | some c =>
        rw [ea] at e
        cases e
        exact .inr (.inr ⟨z, i, c, rx.str, ry.int, hz, ea, q _ H (Same.refl H) (.str _)⟩)
    · rw [if_neg hz] at e; cases e
  · cases e
  · rename_i kvs i hne
    rcases rx with rx | ⟨_, _, _, _, z, _⟩
    · generalize ed : PyData.dict kvs = dd at rx
      cases rx with
      | @sck a ns h =>
        have ek : kvs = ns.map fun n => (.int n, .none) := PyData.dict.inj ed
        obtain ⟨n, rfl, h1⟩ := scr_atI ek e
        exact .inl ⟨a, _, _, _, rfl, ry.int, HpN_lst h, h1, q _ H (Same.refl H) (.int n)⟩
      | @scf a ns o h hn =>
        have ek : kvs = ns.map fun n => (.int n, .none) := PyData.dict.inj ed
        obtain ⟨n, rfl, h1⟩ := scr_atI ek e
        exact .inl ⟨a, _, _, _, rfl, ry.int, .inl (.inr ⟨_, h⟩), h1, q _ H (Same.refl H) (.int n)⟩
      | @scl a ns h hn =>
        have ek : kvs = ns.map fun n => (.int n, .none) := PyData.dict.inj ed
        obtain ⟨n, rfl, h1⟩ := scr_atI ek e
        exact .inl ⟨a, _, _, _, rfl, ry.int, .inl (.inl h), h1, q _ H (Same.refl H) (.int n)⟩
      | jnk x => cases ed; exact absurd rfl (hne _ _ _)
      | _ => cases ed
    · cases z
  · cases e
/-! ### slices -/
def cutD (ds : List PyData) (lo hi : Option Int) : List PyData := (ds.drop (HT.sIx ds.length 0 lo)).take (HT.sIx ds.length ds.length hi - HT.sIx ds.length 0 lo)
theorem DqA.cut {K : PySem.W.Frag} {H : Hp} {P : Addr → Prop} {vs : List V} {ds : List PyData} (t : DqA K H P vs ds) (lo hi : Option Int) : DqA K H P (cutV vs lo hi) (cutD ds lo hi) := by
  unfold cutV cutD
  rw [t.length]
  exact (t.drop _).take _
def dSl : PyData → Option Int → Option Int → Option PyData
  | .list ds, lo, hi => some (.list (cutD ds lo hi))
  | .tuple ds, lo, hi => some (.tuple (cutD ds lo hi))
  | .str z, lo, hi => if z.length ≤ sizeLine then some (.str (cutS z lo hi)) else none
  | _, _, _ => none
theorem opF_sl : SlR X (rFS X.K dSl) := SlR.imp (sl_list.or (sl_tupF.or sl_str)) fun x lo hi H Q ⟨P, dx, d, tr, rx, e, q⟩ => by
  have np : ∀ {p : Addr}, H p = none → ¬ P p := fun h z => by obtain ⟨u, hu⟩ := tr _ z; rw [h] at hu; cases hu
  unfold dSl at e
  split at e
  · cases e
    obtain ⟨a, xs, rfl, h, t⟩ := rx.lst
    exact .inl ⟨a, xs, rfl, SqL.of h, fun p hp => q _ _ (same_upd hp _) (.lst upd_same (np hp) ((t.cut lo hi).same (same_upd hp _)))⟩
  · rename_i ds
    cases e
    have qx := rx.tupQ
    obtain ⟨a, xs, rfl, h, t⟩ := rx.tup
    refine .inr (.inl ⟨a, xs, rfl, h, fun hw => ?_, fun _ p its hp => q _ _ (same_upd hp _) (.tup upd_same (np hp) ((t.cut lo hi).same (same_upd hp _)))⟩)
    have : cutD ds lo hi = ds := by
      unfold cutD
      rw [t.length] at hw
      rw [hw.1, hw.2, List.drop_zero, Nat.sub_zero, List.take_length]
    rw [this] at q
    exact q _ H (Same.refl H) qx
  · rename_i z
    by_cases hz : z.length ≤ sizeLine
    · rw [if_pos hz] at e
      cases e
      exact .inr (.inr ⟨z, rx.str, hz, q _ H (Same.refl H) (.str _)⟩)
    · rw [if_neg hz] at e; cases e
  · cases e
/-! ### len, list, tuple -/
def dLen : PyData → Option PyData
  | .str z => if z.length ≤ sizeLine then some (.int z.length) else none
  | .list ds => some (.int ds.length)
  | .tuple ds => some (.int ds.length)
  | .dict ((.str _, _) :: _) => none
  | .dict kvs => some (.int kvs.length)
  | _ => none
theorem opF_len : CallR X (.builtin "len") (rC1 X.K dLen) := CallR.imp call_len fun vs H Q ⟨P, x, dx, d, ev, tr, rx, e, q⟩ => by
  subst ev
  unfold dLen at e
  split at e
  · rename_i z
    by_cases hz : z.length ≤ sizeLine
    · rw [if_pos hz] at e
      cases e
      have := rx.str
      subst this
      exact ⟨_, z.length, rfl, ⟨hz, rfl⟩, q _ H (Same.refl H) (.int _)⟩
    · rw [if_neg hz] at e; cases e
  · cases e
    obtain ⟨a, xs, rfl, h, t⟩ := rx.lst
    exact ⟨_, _, rfl, .inl ⟨xs, SqL.of h, t.length.symm⟩, q _ H (Same.refl H) (.int _)⟩
  · cases e
    obtain ⟨a, xs, rfl, h, t⟩ := rx.tup
    exact ⟨_, _, rfl, .inr ⟨xs, h, t.length.symm⟩, q _ H (Same.refl H) (.int _)⟩
  · cases e
  · rename_i kvs hne
    cases e
    rcases rx with rx | ⟨_, _, _, _, z, _⟩
    · generalize ed : PyData.dict kvs = dd at rx
      cases rx with
      | @sck a ns h =>
        have ek : kvs = ns.map fun n => (.int n, .none) := PyData.dict.inj ed
        subst ek
        exact ⟨_, _, rfl, .inl ⟨_, HpN_lst h, by rw [List.length_map, List.length_map]⟩, q _ H (Same.refl H) (.int _)⟩
      | @scf a ns o h hn =>
        have ek : kvs = ns.map fun n => (.int n, .none) := PyData.dict.inj ed
        subst ek
        exact ⟨_, _, rfl, .inl ⟨_, .inl (.inr ⟨_, h⟩), by rw [List.length_map, List.length_map]⟩, q _ H (Same.refl H) (.int _)⟩
      | @scl a ns h hn =>
        have ek : kvs = ns.map fun n => (.int n, .none) := PyData.dict.inj ed
        subst ek
        exact ⟨_, _, rfl, .inl ⟨_, .inl (.inl h), by rw [List.length_map, List.length_map]⟩, q _ H (Same.refl H) (.int _)⟩
      | jnk x => cases ed; exact absurd rfl (hne _ _ _)
      | _ => cases ed
    · cases z
  · cases e
def dSeqs : PyData → Option (List PyData)
  | .list ds => some ds
  | .tuple ds => some ds
  | _ => none
theorem opF_list : CallR X (.type "list") (rC1N X.K dSeqs) := CallR.imp call_list_of fun vs H Q ⟨P, x, dx, d, ev, tr, rx, e, q⟩ => by
  subst ev
  unfold dSeqs at e
  split at e
  · cases e
    obtain ⟨a, xs, rfl, h, t⟩ := rx.lst
    exact ⟨a, xs, rfl, .inl (SqL.of h), fun p hp => q p _ _ (same_upd hp _) hp upd_same (newDq hp t)⟩
  · cases e
    obtain ⟨a, xs, rfl, h, t⟩ := rx.tup
    exact ⟨a, xs, rfl, .inr h, fun p hp => q p _ _ (same_upd hp _) hp upd_same (newDq hp t)⟩
  · cases e
def dTuple : PyData → Option PyData
  | .list ds => some (.tuple ds)
  | .tuple ds => some (.tuple ds)
  | _ => none
theorem opF_tuple : CallR X (.type "tuple") (rC1 X.K dTuple) := CallR.imp call_tupleF fun vs H Q ⟨P, x, dx, d, ev, tr, rx, e, q⟩ => by
  have np : ∀ {p : Addr}, H p = none → ¬ P p := fun h z => by obtain ⟨u, hu⟩ := tr _ z; rw [h] at hu; cases hu
  subst ev
  unfold dTuple at e
  split at e
  · cases e
    obtain ⟨a, xs, rfl, h, t⟩ := rx.lst
    exact ⟨a, xs, rfl, .inl ⟨SqL.of h, fun p its hp => q _ _ (same_upd hp _) (.tup upd_same (np hp) (t.same (same_upd hp _)))⟩⟩
  · cases e
    have qx := rx.tupQ
    obtain ⟨a, xs, rfl, h, t⟩ := rx.tup
    exact ⟨a, xs, rfl, .inr ⟨h, q _ H (Same.refl H) qx⟩⟩
  · cases e
/-! ### methods of one's own list -/
def fApp (i : Nat) (f : Rho → Option PyData) : Rho → Option Fl := fun ρ => (f ρ).bind fun d => match ρ.getD i none with
  | some (.list ds) => if ds.length < sizeLine then some (.nx (ρ.set i (some (.list (ds ++ [d]))))) else none
  | _ => none
theorem getD_some {ρ : Rho} {i : Nat} {d : PyData} (e : ρ.getD i none = some d) : ρ[i]? = some (some d) := eVar_some (i := i) e
variable {o ob : List Nat} {e : Expr} {f : Rho → Option PyData}
theorem sv_append (i : Nat) {x : Str} {px apos cpos pos : Pos} (hv : PE X (.Name x px) (tVar i)) (he : EV X o e f) (hi : i ∈ o := by decide)
    (hbase : attributeBase (.Name x px) "append" X.env (eval (.Name x px) X.env) = eval (.Name x px) X.env := by rfl)
    (hfew : ((backTo cpos (starEach [e] X.env)).all (fun x => !x.1) && (backToKw cpos (keywordEach [] X.env)).all (fun x => x.1.isSome)
      && decide (([e] : List Expr).length + ([] : List Keyword).length + (if ([] : List Keyword).isEmpty then 0 else 1) < 30)) = true := by rfl)
    (hline : (apos.endLine == cpos.line) = true := by rfl) (hs : starEach [e] X.env = (false, eval e X.env) :: starEach [] X.env := by rfl) (hplain : (backTo cpos (starEach [] X.env)).any (·.1) = false := by rfl)
    (hsw : swapsWith (.Call (.Attribute (.Name x px) "append" apos) [e] [] cpos) none pos.line X.env = pure false := by rfl) :
    SV X o o ob (.Expr (.Call (.Attribute (.Name x px) "append" apos) [e] [] cpos) pos) (fApp i f) :=
  PS.imp (ps_expr (pe_bm PySem.F.plainAttrs_list PySem.F.slot_list_append PySem.F.type_list_append mt_append hv (pa_cons he pa_nil hs) hbase hfew hline hs hplain) hsw) fun D σ H ⟨H0, P0, P, ρ, fl, R, e', q⟩ => by
    unfold fApp at e'
    cases ef : f ρ with
    | none => rw [ef] at e'; cases e'
    | some d =>
    rw [ef] at e'
    simp only [Option.bind_some] at e'
    obtain ⟨a, u, d0, h1, h2, h3, h4, h5, h6⟩ := R.own i hi
    have eg : ρ.getD i none = some d0 := by rw [List.getD_eq_getElem?_getD, h2] <;> rfl
    rw [eg] at e'
    obtain ⟨ds, rfl⟩ : ∃ ds, d0 = .list ds := by
      cases d0 with
      | list ds => exact ⟨ds, rfl⟩
      | _ => cases e'
    obtain ⟨xs, eu, h7⟩ := h6.lst
    subst eu
    clear h6
    have h6 := h7
    have e' : (if ds.length < sizeLine then some (Fl.nx (ρ.set i (some (.list (ds ++ [d]))))) else none) = some fl := e'
    by_cases hz : ds.length < sizeLine
    · rw [if_pos hz] at e'
      cases e'
      refine ⟨.ref a, h1, .inl ⟨rfl, _, .inl (.inl h5)⟩, H0, P0, P, ρ, d, R, ef, fun v H1 s1 t => ?_⟩
      refine ⟨a, xs, v, rfl, rfl, s1 _ _ h5, by rw [h6.length]; exact hz, ?_⟩
      obtain ⟨R', l⟩ := (R.go s1).put hi h1 (.ofLst ((h6.same s1).append (.cons t .nil)))
      exact q σ _ P R' ((Lt.same P s1).trans l)
    · rw [if_neg hz] at e'; cases e'
def fExt (i : Nat) (f : Rho → Option PyData) : Rho → Option Fl := fun ρ => (f ρ).bind fun d => match ρ.getD i none, d with
  | some (.list ds), .list es => if ds.length + es.length ≤ sizeLine then some (.nx (ρ.set i (some (.list (ds ++ es))))) else none
  | _, _ => none
theorem sv_extend (i : Nat) {x : Str} {px apos cpos pos : Pos} (hv : PE X (.Name x px) (tVar i)) (he : EV X o e f) (hi : i ∈ o := by decide)
    (hbase : attributeBase (.Name x px) "extend" X.env (eval (.Name x px) X.env) = eval (.Name x px) X.env := by rfl)
    (hfew : ((backTo cpos (starEach [e] X.env)).all (fun x => !x.1) && (backToKw cpos (keywordEach [] X.env)).all (fun x => x.1.isSome)
      && decide (([e] : List Expr).length + ([] : List Keyword).length + (if ([] : List Keyword).isEmpty then 0 else 1) < 30)) = true := by rfl)
    (hline : (apos.endLine == cpos.line) = true := by rfl) (hs : starEach [e] X.env = (false, eval e X.env) :: starEach [] X.env := by rfl) (hplain : (backTo cpos (starEach [] X.env)).any (·.1) = false := by rfl)
    (hsw : swapsWith (.Call (.Attribute (.Name x px) "extend" apos) [e] [] cpos) none pos.line X.env = pure false := by rfl) :
    SV X o o ob (.Expr (.Call (.Attribute (.Name x px) "extend" apos) [e] [] cpos) pos) (fExt i f) :=
  PS.imp (ps_expr (pe_bm PySem.F.plainAttrs_list PySem.F.slot_list_extend PySem.F.type_list_extend mt_extend hv (pa_cons he pa_nil hs) hbase hfew hline hs hplain) hsw) fun D σ H ⟨H0, P0, P, ρ, fl, R, e', q⟩ => by
    unfold fExt at e'
    cases ef : f ρ with
    | none => rw [ef] at e'; cases e'
    | some d =>
    rw [ef] at e'
    simp only [Option.bind_some] at e'
    obtain ⟨a, u, d0, h1, h2, h3, h4, h5, h6⟩ := R.own i hi
    have eg : ρ.getD i none = some d0 := by rw [List.getD_eq_getElem?_getD, h2] <;> rfl
    rw [eg] at e'
    obtain ⟨ds, rfl⟩ : ∃ ds, d0 = .list ds := by
      cases d0 with
      | list ds => exact ⟨ds, rfl⟩
      | _ => cases e'
    obtain ⟨xs, eu, h7⟩ := h6.lst
    subst eu
    clear h6
    have h6 := h7
    cases d with
    | list es =>
      have e' : (if ds.length + es.length ≤ sizeLine then some (Fl.nx (ρ.set i (some (.list (ds ++ es))))) else none) = some fl := e'
      by_cases hz : ds.length + es.length ≤ sizeLine
      · rw [if_pos hz] at e'
        cases e'
        refine ⟨.ref a, h1, .inl ⟨rfl, _, .inl (.inl h5)⟩, H0, P0, P, ρ, _, R, ef, fun v H1 s1 t => ?_⟩
        cases t with
        | @lst b ys _ hb hn ts =>
          refine ⟨a, b, xs, ys, rfl, rfl, s1 _ _ h5, hb, by rw [h6.length, ts.length]; exact hz, ?_⟩
          obtain ⟨R', l⟩ := (R.go s1).put hi h1 (.ofLst ((h6.same s1).append ts))
          exact q σ _ P R' ((Lt.same P s1).trans l)
      · rw [if_neg hz] at e'; cases e'
    | _ => cases e'
end
end TF

/-! TFh.lean -/
set_option Elab.async false
set_option linter.all false
set_option maxRecDepth 100000
/-! TF.h: + of anything, what may be walked, texts, callees -/
namespace TF
open PySem PySem.Spec PyProof.Rows L2
variable [OK : OwnK]

section
variable {X : Cx} {o ob : List Nat} {tg e a b : Expr} {f fa fb : Rho → Option PyData} {pos : Pos}
theorem hu64 {k : Nat} {A : Around} (hr : Room k A) : A.units + 64 < cLine := hr.units
theorem hu65 {k : Nat} {A : Around} (hr : Room k A) : A.units + 65 < cLine := by have := hr.un; omega
/-- + of ints, texts, tuples, lists -/
def dAddA : PyData → PyData → Option PyData
  | .list xs, .list ys => if xs.length + ys.length ≤ sizeLine then some (.list (xs ++ ys)) else none
  | x, y => dAdd x y
theorem opF_addA : OpR X (binaryOp .Add) (rF X.K dAddA) := OpR.imp (OpR.or (opF_add (X := X)) (opF_addL (X := X))) fun x y H Q ⟨P, dx, dy, d, tr, rx, ry, e, q⟩ => by
  have np : ∀ {p : Addr}, H p = none → ¬ P p := fun h z => by obtain ⟨u, hu⟩ := tr _ z; rw [h] at hu; cases hu
  unfold dAddA at e
  split at e
  · rename_i xs ys
    by_cases hz : xs.length + ys.length ≤ sizeLine
    · rw [if_pos hz] at e; cases e
      refine .inr ⟨P, _, _, xs ++ ys, tr, rx, ry, by show (if xs.length + ys.length ≤ sizeLine then some (xs ++ ys) else none) = _; rw [if_pos hz], fun p us H' s n hp t => q _ H' s (.lst hp (np n) (t.anti fun a z => .inr z))⟩
    · rw [if_neg hz] at e; cases e
  · exact .inl ⟨P, _, _, d, tr, rx, ry, e, q⟩
/-- is, is not: None or truths -/
def dIs : PyData → PyData → Option Bool
  | .bool a, .bool b => some (decide (a = b))
  | x, y => dIsN x y
theorem opF_isA : OpR X (compareOp .Is) (rFB X.K dIs) := OpR.imp (OpR.or (opF_is (X := X)) op_isBl) fun x y H Q ⟨P, dx, dy, d, tr, rx, ry, e, q⟩ => by
  unfold dIs at e
  split at e
  · cases e; exact .inr ⟨_, _, rx.bl, ry.bl, q⟩
  · exact .inl ⟨P, _, _, d, tr, rx, ry, e, q⟩
def dIsNot : PyData → PyData → Option Bool := fun x y => (dIs x y).map (!·)
theorem opF_isNotA : OpR X (compareOp .IsNot) (rFB X.K dIsNot) := OpR.imp (OpR.or (opF_isNot (X := X)) op_notBl) fun x y H Q ⟨P, dx, dy, d, tr, rx, ry, e, q⟩ => by
  unfold dIsNot dIs at e
  split at e
  · cases e; exact .inr ⟨_, _, rx.bl, ry.bl, q⟩
  · exact .inl ⟨P, _, _, d, tr, rx, ry, e, q⟩
/-! ### - of an int -/
def dNeg : PyData → Option PyData
  | .int i => some (.int (-i))
  | _ => none
theorem ev_neg (h : ER X o e f) : EV X o (.UnaryOp .USub e pos) (e1 f dNeg) := PE.imp (pe_un un_neg h) fun σ H Q ⟨H0, P0, P, ρ, d, R, e', q⟩ => by
  obtain ⟨x, ef, eg⟩ := e1_some e'
  cases x with
  | int i => cases eg; exact ⟨H0, P0, P, ρ, _, R, ef, fun v H1 s1 r1 => ⟨i, r1.int, q _ H1 s1 (.int _)⟩⟩
  | _ => cases eg
/-! ### a list, a tuple, a text, walked -/
def iAny (K : PySem.W.Frag) (te : TE) : TI := fun σ H R => te σ H fun x H1 => (∃ a, x = .ref a ∧ (∃ xs, SqL K H1 a xs) ∧ R (Itl K a) H1) ∨ (∃ a, x = .ref a ∧ (∃ xs, SqT K H1 a xs) ∧ R (Itt K a) H1) ∨ ∃ z, x = .str z ∧ R (Its z) H1
theorem pi_any {te : TE} (he : PE X e te) : PI X tg e (iAny X.K te) := by
  refine ⟨fun pins s σ H R I h => ?_⟩
  refine thn (he.run pins s σ H _ I h) fun v s1 ⟨x, H1, I1, r1, q1⟩ => ?_
  rcases q1 with ⟨a, ex, ⟨xs, hq⟩, q⟩ | ⟨a, ex, ⟨xs, hq⟩, q⟩ | ⟨z, ex, q⟩
  · subst ex
    cases r1
    obtain ⟨its, rv, p, hz⟩ := I1.list hq
    refine wpAny_pyIter_list p.isList ?_
    refine ⟨s1.heap.objs.size, [s1.heap.objs.size], _, _, H1, rfl, I1.kept (t' := s1.toks) fun b o e => Heap.get?_push_of_some _ e, turn_list a _, ⟨_, Heap.get?_push_size _ rfl, rfl, rfl⟩, fun b hb => ?_, q⟩
    have e : b = s1.heap.objs.size := by simpa using hb
    subst e
    exact I1.fpOk (Nat.le_refl _) (I1.hok.fresh (Nat.le_refl _))
  · subst ex
    cases r1
    obtain ⟨its, rv, p, hz⟩ := I1.tuple hq
    refine wpAny_pyIter_tuple (show s1.heap.IsTuple a its.toArray from p) ?_
    refine ⟨s1.heap.objs.size, [s1.heap.objs.size], _, _, H1, rfl, I1.kept (t' := s1.toks) fun b o e => Heap.get?_push_of_some _ e, turn_tuple a _, ⟨_, Heap.get?_push_size _ rfl, rfl, rfl⟩, fun b hb => ?_, q⟩
    have e : b = s1.heap.objs.size := by simpa using hb
    subst e
    exact I1.fpOk (Nat.le_refl _) (I1.hok.fresh (Nat.le_refl _))
  · subst ex
    obtain ⟨t, rfl⟩ := r1
    cases ha : z.cps.all (· < 128)
    · exact wpAny_pyIter_wide ha (pi_one (tk := s1.toks) I1 _ (turn_str _ z t "str_iterator" (.inr rfl)) ⟨_, Heap.get?_push_size _ rfl, rfl, rfl⟩ q)
    · exact wpAny_pyIter_ascii ha (pi_one (tk := s1.toks) I1 _ (turn_str _ z t "str_ascii_iterator" (.inl rfl)) ⟨_, Heap.get?_push_size _ rfl, rfl, rfl⟩ q)
def signs (z : Str) : List PyData := z.cps.toList.map fun c => .str ⟨#[c]⟩
def dWalk : PyData → Option (List PyData)
  | .list xs => some xs
  | .tuple xs => some xs
  | .str z => if z.length ≤ sizeLine then some (signs z) else none
  | .dict ((.str _, _) :: _) => none
  | .dict kvs => some (kvs.map (·.1))
  | _ => none
theorem dWalk_scr : ∀ ns : List Int, dWalk (scr ns) = some ((ns.map fun n => (PyData.int n, PyData.none)).map (·.1))
  | [] => rfl
  | _ :: _ => rfl
theorem wk_list {K : PySem.W.Frag} {ds : List PyData} {a : Addr} {vs : List V} {H1 : Hp} {P : Addr → Prop} (ha : H1 a = some (.lst vs)) (hn : ¬ P a) (ts : DqA K H1 P vs ds) : Wk K ds (Itl K a) H1 P := by
  refine ⟨fun H P i l hi => ?_, fun H P l => ?_, fun H P i x H' l tr hi y => ?_⟩
  · have hi' : i < vs.length := by rw [ts.length]; exact hi
    exact ⟨vs, vs[i], SqL.of (l _ _ ha hn (by first | exact nt_lst | exact nt_frz)).1, by simp [hi']⟩
  · exact ⟨vs, SqL.of (l _ _ ha hn (by first | exact nt_lst | exact nt_frz)).1, by rw [ts.length]; exact Nat.le_refl _⟩
  · obtain ⟨rfl, y⟩ := y
    obtain ⟨d, h1, h2⟩ := (ts.mono l).getV (y vs (SqL.of (l _ _ ha hn (by first | exact nt_lst | exact nt_frz)).1))
    exact ⟨Same.refl _, d, h1, h2⟩
theorem wk_tup {K : PySem.W.Frag} {ds : List PyData} {a : Addr} {vs : List V} {H1 : Hp} {P : Addr → Prop} (ha : ∀ H P', Lt H1 P H P' → SqT K H a vs) (ts : DqA K H1 P vs ds) : Wk K ds (Itt K a) H1 P := by
  refine ⟨fun H P i l hi => ?_, fun H P l => ?_, fun H P i x H' l tr hi y => ?_⟩
  · have hi' : i < vs.length := by rw [ts.length]; exact hi
    exact ⟨vs, vs[i], ha _ _ l, by simp [hi']⟩
  · exact ⟨vs, ha _ _ l, by rw [ts.length]; exact Nat.le_refl _⟩
  · obtain ⟨rfl, y⟩ := y
    obtain ⟨d, h1, h2⟩ := (ts.mono l).getV (y vs (ha _ _ l))
    exact ⟨Same.refl _, d, h1, h2⟩
theorem wk_scr {K : PySem.W.Frag} {ns : List Int} {a : Addr} {H1 : Hp} {P : Addr → Prop} (ha : ∀ H P', Lt H1 P H P' → SqL K H a (ns.map V.int)) : Wk K (ns.map PyData.int) (Itl K a) H1 P := by
  refine ⟨fun H P i l hi => ?_, fun H P l => ?_, fun H P i x H' l tr hi y => ?_⟩
  · rw [List.length_map] at hi
    exact ⟨ns.map V.int, .int ns[i], ha _ _ l, by simp [hi]⟩
  · exact ⟨ns.map V.int, ha _ _ l, by rw [List.length_map, List.length_map]; exact Nat.le_refl _⟩
  · obtain ⟨rfl, y⟩ := y
    have z := y _ (ha _ _ l)
    rw [List.length_map] at hi
    rw [List.getElem?_map, List.getElem?_eq_getElem hi] at z
    cases z
    exact ⟨Same.refl _, .int ns[i], by rw [List.getElem?_map, List.getElem?_eq_getElem hi] <;> rfl, .int _⟩
theorem scr_fst (ns : List Int) : (ns.map fun n => (PyData.int n, PyData.none)).map (·.1) = ns.map PyData.int := by rw [List.map_map]; rfl
theorem wi_any (h : EV X o e f) : WI X o tg e (e1 f dWalk) := PI.imp (PI.szd (pi_any h)) fun σ H R ⟨H0, P0, P, ρ, ds, Re, e', q⟩ => by
  obtain ⟨d, ef, eg⟩ := e1_some e'
  refine ⟨H0, P0, P, ρ, _, Re, ef, fun v H1 s1 t => ?_⟩
  cases t with
  | @lst a vs _ ha hn ts =>
    cases eg
    exact .inl ⟨a, rfl, ⟨_, SqL.of ha⟩, fun hz => q _ _ s1 (wk_list ha hn ts) (by rw [← ts.length]; exact hz.1 _ _ (SqL.of ha))⟩
  | @tup a its vs _ ha hn ts =>
    cases eg
    exact .inr (.inl ⟨a, rfl, ⟨_, sqT_fz ha⟩, fun hz => q _ _ s1 (wk_tup (fun H P' l => sqT_fz (l _ _ ha hn (by first | exact nt_lst | exact nt_frz)).1) ts) (by rw [← ts.length]; exact hz.2 _ _ (sqT_fz ha))⟩)
  | str z =>
    have eg : (if z.length ≤ sizeLine then some (signs z) else none) = some ds := eg
    by_cases hz : z.length ≤ sizeLine
    · rw [if_pos hz] at eg
      cases eg
      have hl : (signs z).length = z.cps.size := by unfold signs; rw [List.length_map, Array.length_toList]
      refine .inr (.inr ⟨z, rfl, fun _ => q _ _ s1 ⟨fun H P i l hi => by rw [hl] at hi; exact hi, fun H P l => by rw [hl]; exact Nat.le_refl _, fun H P i x H' l tr hi y => ?_⟩ (by rw [hl]; exact hz)⟩)
      obtain ⟨rfl, c, hc, rfl⟩ := y
      exact ⟨Same.refl _, .str ⟨#[c]⟩, by unfold signs; rw [List.getElem?_map, Array.getElem?_toList, hc] <;> rfl, .str _⟩
    · rw [if_neg hz] at eg; cases eg
  | @sck a ns h =>
    have eg : some ((ns.map fun n => (PyData.int n, PyData.none)).map (·.1)) = some ds := (dWalk_scr ns).symm.trans eg
    rw [scr_fst] at eg
    cases eg
    exact .inl ⟨a, rfl, ⟨_, HpN_lst h⟩, fun hz => q _ _ s1 (wk_scr fun H P' l => HpN_lst h) (by have := hz.1 _ _ (HpN_lst h); rw [List.length_map] at this ⊢; exact this)⟩
  | @scf a ns ob h hn =>
    have eg : some ((ns.map fun n => (PyData.int n, PyData.none)).map (·.1)) = some ds := (dWalk_scr ns).symm.trans eg
    rw [scr_fst] at eg
    cases eg
    have hs : SqL X.K H1 a (ns.map V.int) := .inl (.inr ⟨_, h⟩)
    exact .inl ⟨a, rfl, ⟨_, hs⟩, fun hz => q _ _ s1 (wk_scr fun H P' l => .inl (.inr ⟨_, (l _ _ h hn (by first | exact nt_lst | exact nt_frz)).1⟩)) (by have := hz.1 _ _ hs; rw [List.length_map] at this ⊢; exact this)⟩
  | @scl a ns h hn =>
    have eg : some ((ns.map fun n => (PyData.int n, PyData.none)).map (·.1)) = some ds := (dWalk_scr ns).symm.trans eg
    rw [scr_fst] at eg
    cases eg
    have hs : SqL X.K H1 a (ns.map V.int) := .inl (.inl h)
    exact .inl ⟨a, rfl, ⟨_, hs⟩, fun hz => q _ _ s1 (wk_scr fun H P' l => .inl (.inl (l _ _ h hn (by first | exact nt_lst | exact nt_frz)).1)) (by have := hz.1 _ _ hs; rw [List.length_map] at this ⊢; exact this)⟩
  | _ => cases eg
/-! ### texts -/
def strsD : List PyData → Option (List Str)
  | [] => some []
  | .str x :: r => (strsD r).map (x :: ·)
  | _ :: _ => none
theorem strsD_rel {K : PySem.W.Frag} {H : Hp} {P : Addr → Prop} : ∀ {vs : List V} {ds : List PyData} {ys : List Str}, DqA K H P vs ds → strsD ds = some ys → vs = ys.map V.str
  | _, _, ys, .nil, e => by cases e; rfl
  | _, _, ys, .cons (d := d) h t, e => by
    cases d with
    | str x =>
      unfold strsD at e
      cases er : strsD _ with
      | none => rw [er] at e; cases e
      | some r =>
        rw [er] at e
        cases e
        cases h
        rw [strsD_rel t er, List.map_cons]
    | _ => cases e
def dJoin : PyData → PyData → Option PyData
  | .str a, d => (dSeqs d).bind fun ds => (strsD ds).bind fun ys => if (ys.map (·.length)).sum + ys.length * a.length ≤ 16777216 then some (.str (Txt.join a ys)) else none
  | _, _ => none
theorem ev_join {apos : Pos} (ha : ER X o a fa) (hb : ER X o b fb) (hs : starEach [b] X.env = [(false, eval b X.env)] := by rfl) (hbase : attributeBase a "join" X.env (eval a X.env) = eval a X.env := by rfl) (hline : (apos.endLine == pos.line) = true := by rfl) :
    EV X o (.Call (.Attribute a "join" apos) [b] [] pos) (e2 fa fb dJoin) := PE.imp (pe_join ha hb hs hbase hline) fun σ H Q ⟨H0, P0, P, ρ, d, R, e', q⟩ => by
  obtain ⟨x, y, ea, eb, eg⟩ := e2_some e'
  cases x with
  | str z =>
    have eg : ((dSeqs y).bind fun ds => (strsD ds).bind fun ys => if (ys.map (·.length)).sum + ys.length * z.length ≤ 16777216 then some (PyData.str (Txt.join z ys)) else none) = some d := eg
    refine ⟨H0, P0, P, ρ, _, R, ea, fun v H1 s1 r1 => ⟨⟨z, r1.str⟩, H0, P0, P, ρ, y, R.go s1, eb, fun u H2 s2 r2 => ?_⟩⟩
    cases e3 : dSeqs y with
    | none => rw [e3] at eg; cases eg
    | some ds =>
    rw [e3] at eg
    simp only [Option.bind_some] at eg
    cases e4 : strsD ds with
    | none => rw [e4] at eg; cases eg
    | some ys =>
    rw [e4] at eg
    simp only [Option.bind_some] at eg
    by_cases hz : (ys.map (·.length)).sum + ys.length * z.length ≤ 16777216
    · rw [if_pos hz] at eg
      cases eg
      have hv := (r1.same s2).str
      unfold dSeqs at e3
      split at e3
      · cases e3
        obtain ⟨p, xs, rfl, h, t⟩ := r2.lst
        rw [strsD_rel t e4] at h
        exact ⟨z, p, ys, hv, rfl, .inl (SqL.of h), hz, q _ H2 (s1.trans s2) (.str _)⟩
      · cases e3
        obtain ⟨p, xs, rfl, h, t⟩ := r2.tup
        rw [strsD_rel t e4] at h
        exact ⟨z, p, ys, hv, rfl, .inr h, hz, q _ H2 (s1.trans s2) (.str _)⟩
      · cases e3
    · rw [if_neg hz] at eg; cases eg
  | _ => cases eg
end
/-! ### what may be called -/
structure Callee (P : Program) (w : World) (K : PySem.W.Frag) (mg : Str → Option Value) (base : Heap) (k : Nat) (x : Str) (n : Nat) (m : List PyData → Option PyData) : Prop where
  ex : ∃ (f : Addr) (fd : FuncData) (ps : List Str), FnOk P w K mg base CX0 k f fd ps (spF K n m) ∧ mg x = some (.ref f) ∧ PySem.W.keepIn K (.ref f) = true ∧ Binds K fd ps []
theorem Callee.mono {P : Program} {w : World} {K : PySem.W.Frag} {mg : Str → Option Value} {base : Heap} {k k' : Nat} {x : Str} {n : Nat} {m : List PyData → Option PyData} (c : Callee P w K mg base k x n m) (h : k ≤ k') : Callee P w K mg base k' x n m := by
  obtain ⟨f, fd, ps, F, r⟩ := c.ex
  exact ⟨f, fd, ps, F.mono h, r⟩
theorem ev_fn {X : Cx} {o : List Nat} {e : Expr} {es : List Expr} {x : Str} {p pos : Pos} {k n : Nat} {m : List PyData → Option PyData} {g : Rho → Option (List PyData)} (c : Callee X.prog X.w X.K X.mg X.base k x n m) (hr : Room k X.A)
    (ha : EA X o (e :: es) g) (hg : Gl X x := by rfl) (hdb : (x == ("__debug__" : Str)) = false := by decide) (he : starEach (e :: es) X.env = (false, eval e X.env) :: starEach es X.env := by rfl) (hpl : (backTo pos (starEach es X.env)).any (·.1) = false := by rfl) :
    EV X o (.Call (.Name x p) (e :: es) [] pos) (eCall n m g) := by
  obtain ⟨f, fd, ps, F, hm, hk, hb⟩ := c.ex
  exact ev_call F hr hm hk hb ha hg hdb he hpl
/-- a def of the text, by its body -/
theorem fn_K {P : Program} {w : World} {K : PySem.W.Frag} {mg : Str → Option Value} {base : Heap} {k : Nat} {x qual : Str} {params : Arguments} {body : List Stmt} {scope : Scope} {f : Addr} {fd : FuncData} {N ps : List Str} {o' : List Nat} {fb : Rho → Option Fl} (F : FunD K x qual params body scope [] [] f fd) (S : FnScope N ps scope) (hT : OK.T = [])
    (hbody : ∀ (cdv : Value) (A : Around) (outer : List Env) (s : Shared) (H : Hp) (E : XK), Room k (A.deeper (envOfC qual scope s.heap.objs.size f cdv)) → SVs (cxOf CX0 P w K mg base N qual scope f cdv A outer s H E).nox [] o' [] body fb) :
    FnOk P w K mg base CX0 (k + 1) f fd ps (spF K ps.length (runF N.length fb)) := by
  refine F.ok S (fun vs H Q E h => h.1) (fun cdv A outer s H vs Q E hr h => ?_)
  obtain ⟨hl, Pr, ds, d, tr, t, e, q⟩ := h
  refine ⟨_, (hbody cdv A outer s H E hr).nox, ?_⟩
  unfold runF at e
  cases ef : fb (ds.map some ++ List.replicate (N.length - ds.length) none) with
  | none => rw [ef] at e; cases e
  | some fl =>
  rw [ef] at e
  simp only [Option.bind_some] at e
  have tl := t.length
  refine ⟨H, Pr, Pr, _, fl, ⟨fun a z => z, tr, tr, Same.refl H, fun i hi => absurd hi (by simp), fun i j a b hi => absurd hi (by simp), fun i d' _ h => ?_, ?_, tabs0 hT, fun n => absurd hT n⟩, ef, ?_⟩
  · have hi : i < ds.length := by
      by_cases hi : i < ds.length
      · exact hi
      · rw [List.getElem?_append_right (by simpa using hi), List.getElem?_replicate] at h
        split at h <;> cases h
    rw [List.getElem?_append_left (by simpa using hi), List.getElem?_map] at h
    cases z : ds[i]? with
    | none => rw [z] at h; cases h
    | some d2 =>
      rw [z] at h
      cases h
      obtain ⟨v, h1, h2⟩ := t.get z
      exact ⟨v, start_get h1, h2⟩
  · unfold L2.start
    rw [List.length_append, List.length_append, List.length_map, List.length_map, List.length_replicate, List.length_replicate, tl]
  · cases fl with
    | rt d' => cases e; exact fun v H' s t => q v H' s t
    | nx r => cases e; exact fun σ' H' P' R l => q .non H' R.same .non
    | bk r => cases e
    | ct r => cases e
    | rx d r => cases e
    | ex x => cases e
    | rl b => cases e
theorem fn_C {P : Program} {w : World} {K : PySem.W.Frag} {mg : Str → Option Value} {base : Heap} {k : Nat} {x qual : Str} {params : Arguments} {body : List Stmt} {scope : Scope} {f : Addr} {fd : FuncData} {N ps : List Str} {o' : List Nat} {fb : Rho → Option Fl} (F : FunD K x qual params body scope [] [] f fd) (S : FnScope N ps scope)
    (hT : OK.T = []) (hm : mg x = some (.ref f)) (hb : Binds K fd ps [])
    (hbody : ∀ (cdv : Value) (A : Around) (outer : List Env) (s : Shared) (H : Hp) (E : XK), Room k (A.deeper (envOfC qual scope s.heap.objs.size f cdv)) → SVs (cxOf CX0 P w K mg base N qual scope f cdv A outer s H E).nox [] o' [] body fb) :
    Callee P w K mg base (k + 1) x ps.length (runF N.length fb) := ⟨f, fd, ps, fn_K F S hT hbody, hm, F.kp, hb⟩
/-- nothing is promised without fuel -/
theorem Callee.none {P : Program} {w : World} {K : PySem.W.Frag} {mg : Str → Option Value} {base : Heap} {k n : Nat} {x : Str} {ps : List Str} {f : Addr} {fd : FuncData} {m : List PyData → Option PyData} (hm : mg x = some (.ref f)) (hk : PySem.W.keepIn K (.ref f) = true) (hb : Binds K fd ps []) (hn : ∀ ds, m ds = Option.none) :
    Callee P w K mg base k x n m := by
  have no : ∀ vs H Q E, ¬ spF K n m vs H Q E := fun vs H Q E h => by
    obtain ⟨_, _, ds, d, _, _, e, _⟩ := h
    rw [hn] at e; cases e
  exact ⟨f, fd, ps, ⟨fun vs H Q E h => absurd h (no vs H Q E), fun A outer s H args us vs Q E _ _ _ _ h => absurd h (no vs H Q E)⟩, hm, hk, hb⟩
/-- a law: what it answers on every script -/
theorem law_sp {K : PySem.W.Frag} {m : List PyData → Option PyData} (h : ∀ ns : List Int, ns.length ≤ 63 → m [scr ns] = some (.bool true)) (H : Hp) (a : Addr) (ns : List Int) (hl : ns.length ≤ 63) (hO : Only H) (hS : SqL K H a (ns.map V.int)) :
    spF K 1 m [.ref a] H (fun v _ => v = .bl true) fun _ _ _ => False := by
  refine ⟨rfl, fun _ => False, [scr ns], .bool true, fun a z => z.elim, .cons ?_ .nil, h ns hl, fun v H' s t => by cases t; rfl⟩
  rcases hS with (hS | ⟨o, hS⟩) | hS
  · rcases hO a with z | ⟨o, xs, z⟩
    · rw [hS] at z; cases z
    · rw [hS] at z; cases z
  · exact .scf hS (fun z => z)
  · exact .sck (.inr hS)
end TF

/-! TFi.lean -/
set_option Elab.async false
set_option linter.all false
set_option maxRecDepth 100000
namespace TF
open PySem PySem.Spec PyProof.Rows L2
variable [OK : OwnK]
section
variable {X : Cx}
def dMulA : PyData → PyData → Option PyData := dMul
theorem opF_mulA : OpR X (binaryOp .Mult) (rF X.K dMulA) := opF_mul
/-- < of ints, texts, alike tuples -/
def dLtA : PyData → PyData → Option Bool
  | .tuple xs, .tuple ys => if pl (.tuple xs) = true ∧ pl (.tuple ys) = true ∧ PySem.W.alikeAll xs ys = true then some (PySem.W.dataLt (.tuple xs) (.tuple ys)) else none
  | x, y => dLt x y
theorem opF_ltA (hu : X.A.units + 64 < cLine) : OpR X (compareOp .Lt) (rFB X.K dLtA) := OpR.imp (OpR.or (opF_lt (X := X)) (op_ltP hu)) fun x y H Q ⟨P, dx, dy, d, tr, rx, ry, e, q⟩ => by
  unfold dLtA at e
  split at e
  · rename_i xs ys
    by_cases hz : pl (.tuple xs) = true ∧ pl (.tuple ys) = true ∧ PySem.W.alikeAll xs ys = true
    · rw [if_pos hz] at e; cases e
      exact .inr ⟨_, _, rx.dp (pl_plain hz.1), ry.dp (pl_plain hz.2.1), hz.1, hz.2.1, ⟨by simpa only [PySem.W.alike] using hz.2.2, fun z => nomatch z⟩, q⟩
    · rw [if_neg hz] at e; cases e
  · exact .inl ⟨P, _, _, d, tr, rx, ry, e, q⟩
end
end TF

/-! TFj.lean -/
set_option Elab.async false
set_option linter.all false
set_option maxRecDepth 100000
/-! TF.j: enumerate, zip, index, abs, sum, min, max -/
namespace TF
open PySem PySem.Spec PyProof.Rows L2
variable [OK : OwnK]
open Sem (wp)
/-! ### enumerate -/
set_option maxHeartbeats 1000000 in
theorem meets_enum1 {v : Value} {o : Obj} {H : Heap → Prop} (B : Begins v o H) :
    Meets (Builtin.«enumerate.__new__» ⟨[.type "enumerate", v], []⟩) (fun _ R s => H s.heap ∧
      R (.ok (.ret (.ref (s.heap.push o).objs.size))) { s with heap := (s.heap.push o).push { cls := .type "enumerate", data := .fields #[.none, .bool false, .ref s.heap.objs.size, rawInt 0, .none, .none] } }) :=
  .of_wp fun prog w A R s h => by
    obtain ⟨hp, g, d, tk, os⟩ := s; obtain ⟨h1, h⟩ := h
    have hsub := sub_enumerate
    have q1 : ∀ {A' : Around} {E : Value → Shared → Prop} {Q : Value → Shared → Prop}, Q (.ref hp.objs.size) ⟨hp.push o, g, d, tk, os⟩ → wpAny (model prog w) A' (pyIter v) Q E ⟨hp, g, d, tk, os⟩ :=
      fun q => B.iter prog w _ _ ⟨hp, g, d, tk, os⟩ _ h1 q
    wp_walk using q1
    refine wpAny_stack_any fun st => wpAny_pure ?_
    split
    · rename_i c _ _ _ _ _
      cases (c == Value.type "enumerate")
      · wp_walk using q1
        exact ⟨_, rfl, h⟩
      · wp_walk using q1
        exact ⟨_, rfl, h⟩
    · wp_walk using q1
      exact ⟨_, rfl, h⟩
section
variable {prog : Program} {w : World} {A : Around} {E : Value → Shared → Prop} {s : Shared}
theorem enum_begin1 {v : Value} {o : Obj} {H : Heap → Prop} {Q : Value → Shared → Prop} (B : Begins v o H) (h1 : H s.heap)
    (h : ∀ h', IsEnum h' (s.heap.objs.size + 1) s.heap.objs.size 0 .none → h'.get? s.heap.objs.size = some o → h'.objs.size = s.heap.objs.size + 2 →
      (∀ b o, s.heap.get? b = some o → h'.get? b = some o) → Q (.ref (s.heap.objs.size + 1)) { s with heap := h' }) :
    wpAny (model prog w) A (call (.type "enumerate") [v]) Q E s := by
  refine callType_new F.called_enumerate (by decide) (F.typeCall_enumerate_1 _) (F.newCall_enumerate_1 _) (fun obj => F.args_object_init_2 obj _) F.entry_enumerate_new
    (meets_enum1 B) ⟨h1, ?_⟩
  have hz : (s.heap.push o).objs.size = s.heap.objs.size + 1 := Heap.size_push ..
  show _ ∧ _
  rw [hz]
  have he : IsEnum ((s.heap.push o).push { cls := .type "enumerate", data := .fields #[.none, .bool false, .ref s.heap.objs.size, rawInt 0, .none, .none] }) (s.heap.objs.size + 1) s.heap.objs.size 0 .none := by
    have := Heap.get?_push_size (s.heap.push o) (o := { cls := .type "enumerate", data := .fields #[.none, .bool false, .ref s.heap.objs.size, rawInt 0, .none, .none] }) rfl
    rw [hz] at this; exact this
  refine ⟨⟨_, he, rfl⟩, h _ he (Heap.get?_push_of_some _ (Heap.get?_push_size _ B.free)) (by rw [Heap.size_push, hz]) fun b o x => Heap.get?_push_of_some _ (Heap.get?_push_of_some _ x)⟩
end
/-- the tuple at a, each item in a new pair -/
def IteT (K : PySem.W.Frag) (a : Addr) : It :=
  ⟨fun i H => ∃ (xs : List V) (x : V), SqT K H a xs ∧ xs[i]? = some x, fun i H v H' => ∃ T x, v = .ref T ∧ H T = none ∧ (∃ its, H' = upd H T (fz its [.int (i : Nat), x])) ∧ ∀ xs, SqT K H a xs → xs[i]? = some x, fun i H => ∃ xs : List V, SqT K H a xs ∧ xs.length = i⟩
theorem turn_enumT {P : Program} {w : World} {K : PySem.W.Frag} {elts : List Expr} {kk : Nat} {tpos : Pos} (a e it : Addr) (nea : it ≠ a) (eea : e ≠ a) :
    Turn P w K (.Tuple elts kk tpos) (IteT K a) [e, it] e (fun i h => (∃ old, IsEnum h e it ((i : Nat) : Int) old) ∧ h.IsTupleIter it a i ∧ e ≠ it) where
  mem := by simp
  obj := fun i h st b hb => by
    obtain ⟨⟨old, he⟩, ⟨o, ho, hc, hd⟩, _⟩ := st
    have e' : b = e ∨ b = it := by simpa using hb
    rcases e' with z | z
    · rw [z]; exact ⟨_, he, fun v q => nomatch q⟩
    · rw [z]; exact ⟨o, ho, fun v q => by rw [hd] at q; cases q⟩
  keep := fun i h h' st k => let ⟨⟨old, he⟩, hi, hne⟩ := st; ⟨⟨old, k e (by simp) _ he⟩, hi.at fun o q => k it (by simp) o q, hne⟩
  item := by
    intro X hP hw hK hc i pins s σ H E I hf st hg
    subst hP hw hK
    obtain ⟨⟨old, he⟩, hit, hne⟩ := st
    obtain ⟨xs, x, hq, hx⟩ := hg
    obtain ⟨its, rv, p, hz⟩ := I.tuple hq
    obtain ⟨u, hu, ru⟩ := rv.get hx
    have hel : e < s.heap.objs.size := Heap.lt_size he
    have hil : it < s.heap.objs.size := by obtain ⟨_, q, _⟩ := hit; exact Heap.lt_size q
    have D := Draws.tuple (prog := X.prog) (w := X.w) (A := X.A.in1) (I.ok.hd hc) it a (Ne.symm nea) its.toArray
    have hlt : i < its.toArray.size := by
      have := List.getElem?_eq_some_iff.mp hu
      rw [List.size_toArray]; exact this.1
    refine wpAny_pyNext_enum_itemD D he ⟨hit, (show s.heap.IsTuple a its.toArray from p)⟩ hlt hne (by simp [hne, eea]) fun x' h' tk hx' ho hs' hT hsz hk => ?_
    have ex : x' = u := by
      rw [List.getElem?_toArray] at hx'
      rw [hu] at hx'; cases hx'; rfl
    subst ex
    refine ⟨_, rfl, wpAny_letOwnedTupleGo_enum (s := { s with heap := h', toks := tk + 1 }) ho fun h'' he' sb => ?_⟩
    have hT2 : h''.get? s.heap.objs.size = some { cls := .type "tuple", data := .seq #[.int i tk, x'] } := (sb.2 _ (Nat.ne_of_gt hel)).trans hT
    have new : ObjOk X.prog X.w (upd H s.heap.objs.size (fz [.int i tk, x'] [.int (i : Nat), x])) h'' s.heap.objs.size (fz [.int i tk, x'] [.int (i : Nat), x]) :=
      fz_ok (.cons ⟨_, rfl⟩ (.cons ru .nil)) (by show 2 ≤ sizeLine; decide) hT2
    have I1 : Inv X pins σ (upd H s.heap.objs.size (fz [.int i tk, x'] [.int (i : Nat), x])) { s with heap := h'', toks := tk + 1 } :=
      I.turnedNew (ch := [e, it]) (fun b ob hb q => (sb.2 b (fun z => hb (by simp [z]))).trans (hk b ob (fun z => hb (by simp [z])) (fun z => hb (by simp [z])) q)) hf (Nat.le_refl _) new
    refine ⟨.ref s.heap.objs.size, _, I1, rfl, ⟨_, x, rfl, I.hok.fresh (Nat.le_refl _), ⟨_, rfl⟩, fun ys hy => by rw [I.tuple_inj hy hq]; exact hx⟩, ⟨⟨x', ?_⟩, hs'.1.at fun o q => (sb.2 it (Ne.symm hne)).trans q, hne⟩, fun b hb => ?_⟩
    · have e1 : ((i + 1 : Nat) : Int) = (i : Int) + 1 := by omega
      rw [e1]; exact he'
    · have hb' : b < s.heap.objs.size := by
        have e' : b = e ∨ b = it := by simpa using hb
        rcases e' with z | z
        · rw [z]; exact hel
        · rw [z]; exact hil
      rw [upd_ne (Nat.ne_of_lt hb')]
      exact (hf b hb).1
  done := by
    intro X hP hw hK hc i pins s σ H E I hf st hg
    subst hP hw hK
    obtain ⟨⟨old, he⟩, hit, hne⟩ := st
    obtain ⟨xs, hq, hx⟩ := hg
    obtain ⟨its, rv, p, hz⟩ := I.tuple hq
    obtain ⟨f0, f1, f2, f3, f4, f5⟩ := hf it (by simp)
    have hl := rv.length
    have D := Draws.tuple (prog := X.prog) (w := X.w) (A := X.A.in1) (I.ok.hd hc) it a (Ne.symm nea) its.toArray
    have ez : i = its.toArray.size := by rw [List.size_toArray]; omega
    subst ez
    exact wpAny_pyNext_enum_endD D he ⟨hit, (show s.heap.IsTuple a its.toArray from p)⟩ fun h' eb => ⟨rfl, I.turned (t' := s.toks) (fun b o hb q => eb b o hb q) f0 f1 f3 f4 f5⟩
  self := fun A i s Q E st h => let ⟨⟨_, he⟩, _⟩ := st; wpAny_pyIter_enum he h
/-- the list at a, each item in a new pair -/
def IteL (K : PySem.W.Frag) (a : Addr) : It :=
  ⟨fun i H => ∃ (xs : List V) (x : V), SqL K H a xs ∧ xs[i]? = some x, fun i H v H' => ∃ T x, v = .ref T ∧ H T = none ∧ (∃ its, H' = upd H T (fz its [.int (i : Nat), x])) ∧ ∀ xs, SqL K H a xs → xs[i]? = some x, fun i H => ∃ xs : List V, SqL K H a xs ∧ xs.length = i⟩
theorem turn_enumL {P : Program} {w : World} {K : PySem.W.Frag} {elts : List Expr} {kk : Nat} {tpos : Pos} (a e it : Addr) (nea : it ≠ a) (eea : e ≠ a) :
    Turn P w K (.Tuple elts kk tpos) (IteL K a) [e, it] e (fun i h => (∃ old, IsEnum h e it ((i : Nat) : Int) old) ∧ h.IsListIter it a i ∧ e ≠ it) where
  mem := by simp
  obj := fun i h st b hb => by
    obtain ⟨⟨old, he⟩, ⟨o, ho, hc, hd⟩, _⟩ := st
    have e' : b = e ∨ b = it := by simpa using hb
    rcases e' with z | z
    · rw [z]; exact ⟨_, he, fun v q => nomatch q⟩
    · rw [z]; exact ⟨o, ho, fun v q => by rw [hd] at q; cases q⟩
  keep := fun i h h' st k => let ⟨⟨old, he⟩, hi, hne⟩ := st; ⟨⟨old, k e (by simp) _ he⟩, hi.at fun o q => k it (by simp) o q, hne⟩
  item := by
    intro X hP hw hK hc i pins s σ H E I hf st hg
    subst hP hw hK
    obtain ⟨⟨old, he⟩, hit, hne⟩ := st
    obtain ⟨xs, x, hq, hx⟩ := hg
    obtain ⟨its, rv, p, hz⟩ := I.list hq
    obtain ⟨u, hu, ru⟩ := rv.get hx
    have hel : e < s.heap.objs.size := Heap.lt_size he
    have hil : it < s.heap.objs.size := by obtain ⟨_, q, _⟩ := hit; exact Heap.lt_size q
    have D := Draws.list (prog := X.prog) (w := X.w) (A := X.A.in1) (I.ok.hd hc) it a (Ne.symm nea) its.toArray
    have hlt : i < its.toArray.size := by
      have := List.getElem?_eq_some_iff.mp hu
      rw [List.size_toArray]; exact this.1
    refine wpAny_pyNext_enum_itemD D he ⟨hit, p.isList⟩ hlt hne (by simp [hne, eea]) fun x' h' tk hx' ho hs' hT hsz hk => ?_
    have ex : x' = u := by
      rw [List.getElem?_toArray] at hx'
      rw [hu] at hx'; cases hx'; rfl
    subst ex
    refine ⟨_, rfl, wpAny_letOwnedTupleGo_enum (s := { s with heap := h', toks := tk + 1 }) ho fun h'' he' sb => ?_⟩
    have hT2 : h''.get? s.heap.objs.size = some { cls := .type "tuple", data := .seq #[.int i tk, x'] } := (sb.2 _ (Nat.ne_of_gt hel)).trans hT
    have new : ObjOk X.prog X.w (upd H s.heap.objs.size (fz [.int i tk, x'] [.int (i : Nat), x])) h'' s.heap.objs.size (fz [.int i tk, x'] [.int (i : Nat), x]) :=
      fz_ok (.cons ⟨_, rfl⟩ (.cons ru .nil)) (by show 2 ≤ sizeLine; decide) hT2
    have I1 : Inv X pins σ (upd H s.heap.objs.size (fz [.int i tk, x'] [.int (i : Nat), x])) { s with heap := h'', toks := tk + 1 } :=
      I.turnedNew (ch := [e, it]) (fun b ob hb q => (sb.2 b (fun z => hb (by simp [z]))).trans (hk b ob (fun z => hb (by simp [z])) (fun z => hb (by simp [z])) q)) hf (Nat.le_refl _) new
    refine ⟨.ref s.heap.objs.size, _, I1, rfl, ⟨_, x, rfl, I.hok.fresh (Nat.le_refl _), ⟨_, rfl⟩, fun ys hy => by rw [I.list_inj hy hq]; exact hx⟩, ⟨⟨x', ?_⟩, hs'.1.at fun o q => (sb.2 it (Ne.symm hne)).trans q, hne⟩, fun b hb => ?_⟩
    · have e1 : ((i + 1 : Nat) : Int) = (i : Int) + 1 := by omega
      rw [e1]; exact he'
    · have hb' : b < s.heap.objs.size := by
        have e' : b = e ∨ b = it := by simpa using hb
        rcases e' with z | z
        · rw [z]; exact hel
        · rw [z]; exact hil
      rw [upd_ne (Nat.ne_of_lt hb')]
      exact (hf b hb).1
  done := by
    intro X hP hw hK hc i pins s σ H E I hf st hg
    subst hP hw hK
    obtain ⟨⟨old, he⟩, hit, hne⟩ := st
    obtain ⟨xs, hq, hx⟩ := hg
    obtain ⟨its, rv, p, hz⟩ := I.list hq
    obtain ⟨f0, f1, f2, f3, f4, f5⟩ := hf it (by simp)
    have hl := rv.length
    have D := Draws.list (prog := X.prog) (w := X.w) (A := X.A.in1) (I.ok.hd hc) it a (Ne.symm nea) its.toArray
    have ez : i = its.toArray.size := by rw [List.size_toArray]; omega
    subst ez
    exact wpAny_pyNext_enum_endD D he ⟨hit, p.isList⟩ fun h' eb => ⟨rfl, I.turned (t' := s.toks) (fun b o hb q => eb b o hb q) f0 f1 f3 f4 f5⟩
  self := fun A i s Q E st h => let ⟨⟨_, he⟩, _⟩ := st; wpAny_pyIter_enum he h
def iEnumA (K : PySem.W.Frag) (ta : TA) : TI := fun σ H R => ta σ H fun vs H1 => ∃ a xs, vs = [.ref a] ∧ ((SqL K H1 a xs ∧ R (IteL K a) H1) ∨ (SqT K H1 a xs ∧ R (IteT K a) H1))
theorem pi_enumA {X : Cx} {e : Expr} {ta : TA} {p pos tpos : Pos} {elts : List Expr} {kk : Nat} (hg : Gl X "enumerate") (hm : X.mg "enumerate" = none) (ha : PA X [e] ta) (hs : starEach [e] X.env = [(false, eval e X.env)] := by rfl) :
    PI X (.Tuple elts kk tpos) (.Call (.Name "enumerate" p) [e] [] pos) (iEnumA X.K ta) := by
  refine ⟨fun pins s σ H R I h => ?_⟩
  refine Call_ (ld_blt I hg hm boot_enumerate (PyProof.Rows.callWith_type1 (thn (ha.run pos pins s σ H _ I h) fun us s1 ⟨vs, H1, I1, r1, q1⟩ => ?_) hs rfl))
  obtain ⟨a, xs, ex, q1⟩ := q1
  subst ex
  cases r1 with
  | cons r rr =>
    cases rr
    cases r
    have fr : ∀ b, b ∈ [s1.heap.objs.size + 1, s1.heap.objs.size] → FpOk X pins H1 b := fun b hb => by
      have e' : b = s1.heap.objs.size + 1 ∨ b = s1.heap.objs.size := by simpa using hb
      have hle : s1.heap.objs.size ≤ b := by
        rcases e' with z | z
        · rw [z]; exact Nat.le_add_right _ _
        · rw [z]; exact Nat.le_refl _
      exact I1.fpOk hle (I1.hok.fresh hle)
    rcases q1 with ⟨hq, q⟩ | ⟨hq, q⟩
    · obtain ⟨its, rv, p', hz⟩ := I1.list hq
      obtain ⟨o1, ho1, _⟩ := id p'.isList
      have hlt := Heap.lt_size ho1
      refine call_enumerate_list p'.isList fun h' he hit hsz hk => wpAny_pyIter_enum he ?_
      have I2 : Inv X pins σ H1 { s1 with heap := h' } := I1.kept (t' := s1.toks) hk
      exact ⟨s1.heap.objs.size + 1, [s1.heap.objs.size + 1, s1.heap.objs.size], _, _, H1, rfl, I2, turn_enumL a (s1.heap.objs.size + 1) s1.heap.objs.size (Nat.ne_of_gt hlt) (Nat.ne_of_gt (Nat.lt_succ_of_lt hlt)), ⟨⟨.none, he⟩, hit, Nat.succ_ne_self _⟩, fr, q⟩
    · obtain ⟨its, rv, p', hz⟩ := I1.tuple hq
      obtain ⟨o1, ho1, _⟩ := id p'
      have hlt := Heap.lt_size ho1
      refine enum_begin1 (begins_tuple a its.toArray) (show s1.heap.IsTuple a its.toArray from p') fun h' he hit hsz hk => wpAny_pyIter_enum he ?_
      have I2 : Inv X pins σ H1 { s1 with heap := h' } := I1.kept (t' := s1.toks) hk
      exact ⟨s1.heap.objs.size + 1, [s1.heap.objs.size + 1, s1.heap.objs.size], _, _, H1, rfl, I2, turn_enumT a (s1.heap.objs.size + 1) s1.heap.objs.size (Nat.ne_of_gt hlt) (Nat.ne_of_gt (Nat.lt_succ_of_lt hlt)), ⟨⟨.none, he⟩, ⟨_, hit, rfl, rfl⟩, Nat.succ_ne_self _⟩, fr, q⟩
section
variable {X : Cx} {o : List Nat} {e a b : Expr} {f fa fb : Rho → Option PyData} {pos : Pos}
/-- the items of a list, a tuple -/
def enumD : Nat → List PyData → List PyData
  | _, [] => []
  | i, d :: ds => .tuple [.int (i : Nat), d] :: enumD (i + 1) ds
theorem enumD_length : ∀ (i : Nat) (ds : List PyData), (enumD i ds).length = ds.length
  | _, [] => rfl
  | i, d :: ds => congrArg Nat.succ (enumD_length (i + 1) ds)
theorem enumD_get : ∀ (k : Nat) (ds : List PyData) (i : Nat) (d : PyData), ds[i]? = some d → (enumD k ds)[i]? = some (.tuple [.int ((k + i : Nat)), d])
  | k, [], i, d, h => by simp at h
  | k, x :: ds, 0, d, h => by
    cases h; rfl
  | k, x :: ds, i + 1, d, h => by
    have := enumD_get (k + 1) ds i d (by simpa using h)
    have e : k + (i + 1) = k + 1 + i := by omega
    rw [e]
    simpa [enumD] using this
def dEnum : PyData → Option (List PyData) := fun d => (dSeqs d).map (enumD 0)
theorem wk_enumL {K : PySem.W.Frag} {ds : List PyData} {a : Addr} {vs : List V} {H1 : Hp} {P : Addr → Prop} (ha : H1 a = some (.lst vs)) (hn : ¬ P a) (ts : DqA K H1 P vs ds) : Wk K (enumD 0 ds) (IteL K a) H1 P := by
  refine ⟨fun H P i l hi => ?_, fun H P l => ?_, fun H P i x H' l tr hi y => ?_⟩
  · rw [enumD_length] at hi
    have hi' : i < vs.length := by rw [ts.length]; exact hi
    exact ⟨vs, vs[i], SqL.of (l _ _ ha hn (by first | exact nt_lst | exact nt_frz)).1, by simp [hi']⟩
  · exact ⟨vs, SqL.of (l _ _ ha hn (by first | exact nt_lst | exact nt_frz)).1, by rw [ts.length, enumD_length]⟩
  · obtain ⟨T, x, rfl, hT, ⟨its, rfl⟩, y⟩ := y
    obtain ⟨d, h1, h2⟩ := (ts.mono l).getV (y vs (SqL.of (l _ _ ha hn (by first | exact nt_lst | exact nt_frz)).1))
    have s := same_upd hT (fz its [.int (i : Nat), x])
    refine ⟨s, _, enumD_get 0 ds i d h1, ?_⟩
    rw [Nat.zero_add]
    exact .tup upd_same (fun z => by obtain ⟨u, hu⟩ := tr _ z; rw [hT] at hu; cases hu) (.cons (.int _) (.cons (h2.same s) .nil))
theorem wk_enumT {K : PySem.W.Frag} {ds : List PyData} {a : Addr} {vs : List V} {H1 : Hp} {P : Addr → Prop} (ha : ∀ H P', Lt H1 P H P' → SqT K H a vs) (ts : DqA K H1 P vs ds) : Wk K (enumD 0 ds) (IteT K a) H1 P := by
  refine ⟨fun H P i l hi => ?_, fun H P l => ?_, fun H P i x H' l tr hi y => ?_⟩
  · rw [enumD_length] at hi
    have hi' : i < vs.length := by rw [ts.length]; exact hi
    exact ⟨vs, vs[i], ha _ _ l, by simp [hi']⟩
  · exact ⟨vs, ha _ _ l, by rw [ts.length, enumD_length]⟩
  · obtain ⟨T, x, rfl, hT, ⟨its, rfl⟩, y⟩ := y
    obtain ⟨d, h1, h2⟩ := (ts.mono l).getV (y vs (ha _ _ l))
    have s := same_upd hT (fz its [.int (i : Nat), x])
    refine ⟨s, _, enumD_get 0 ds i d h1, ?_⟩
    rw [Nat.zero_add]
    exact .tup upd_same (fun z => by obtain ⟨u, hu⟩ := tr _ z; rw [hT] at hu; cases hu) (.cons (.int _) (.cons (h2.same s) .nil))
theorem wi_enum {p tpos : Pos} {elts : List Expr} {kk : Nat} (hm : X.mg "enumerate" = none) (h : EV X o a f) (hg : Gl X "enumerate" := by rfl) (hs : starEach [a] X.env = [(false, eval a X.env)] := by rfl) :
    WI X o (.Tuple elts kk tpos) (.Call (.Name "enumerate" p) [a] [] pos) (e1 f dEnum) := PI.imp (PI.szd (pi_enumA hg hm (pa_cons h pa_nil hs) hs)) fun σ H R ⟨H0, P0, P, ρ, ds, Re, e', q⟩ => by
  obtain ⟨d, ef, eg⟩ := e1_some e'
  refine ⟨H0, P0, P, ρ, _, Re, ef, fun v H1 s1 t => ?_⟩
  cases t with
  | @lst a vs ds' ha hn ts =>
    have eg : some (enumD 0 ds') = some ds := eg
    cases eg
    exact ⟨a, vs, rfl, .inl ⟨SqL.of ha, fun hz => q _ _ s1 (wk_enumL ha hn ts) (by rw [enumD_length, ← ts.length]; exact hz.1 _ _ (SqL.of ha))⟩⟩
  | @tup a its vs ds' ha hn ts =>
    have eg : some (enumD 0 ds') = some ds := eg
    cases eg
    exact ⟨a, vs, rfl, .inr ⟨sqT_fz ha, fun hz => q _ _ s1 (wk_enumT (fun H P' l => sqT_fz (l _ _ ha hn (by first | exact nt_lst | exact nt_frz)).1) ts) (by rw [enumD_length, ← ts.length]; exact hz.2 _ _ (sqT_fz ha))⟩⟩
  | _ => cases eg
end
end TF

/-! TFk.lean -/
set_option Elab.async false
set_option linter.all false
set_option maxRecDepth 100000
/-! TF.k: index, abs, sum, min, max, sorted -/
namespace TF
open PySem PySem.Spec PyProof.Rows L2
variable [OK : OwnK]
section
variable {X : Cx} {o : List Nat} {e a b : Expr} {f fa fb : Rho → Option PyData} {pos : Pos}
def dAbs : PyData → Option PyData
  | .int i => some (.int (if i < 0 then -i else i))
  | _ => none
theorem opF_abs : CallR X (.builtin "abs") (rC1 X.K dAbs) := CallR.imp call_abs fun vs H Q ⟨P, x, dx, d, ev, tr, rx, e, q⟩ => by
  subst ev
  unfold dAbs at e
  split at e
  · cases e
    exact ⟨_, by rw [rx.int], q _ H (Same.refl H) (.int _)⟩
  · cases e
def intsD : List PyData → Option (List Int)
  | [] => some []
  | .int x :: r => (intsD r).map (x :: ·)
  | _ :: _ => none
theorem intsD_rel {K : PySem.W.Frag} {H : Hp} {P : Addr → Prop} : ∀ {vs : List V} {ds : List PyData} {ys : List Int}, DqA K H P vs ds → intsD ds = some ys → vs = ys.map V.int
  | _, _, ys, .nil, e => by cases e; rfl
  | _, _, ys, .cons (d := d) h t, e => by
    cases d with
    | int x =>
      unfold intsD at e
      cases er : intsD _ with
      | none => rw [er] at e; cases e
      | some r =>
        rw [er] at e
        cases e
        cases h
        rw [intsD_rel t er, List.map_cons]
    | _ => cases e
theorem intsD_map (ns : List Int) : intsD (ns.map PyData.int) = some ns := by
  induction ns with
  | nil => rfl
  | cons n r ih => simp only [List.map_cons, intsD, ih]; rfl
def dSum : PyData → Option PyData
  | .list ds => (intsD ds).map fun ns => .int ns.sum
  | _ => none
theorem opF_sum (hc : X.calm = true) : CallR X (.builtin "sum") (rC1 X.K dSum) := CallR.imp (cr_sum hc) fun vs H Q ⟨P, x, dx, d, ev, tr, rx, e, q⟩ => by
  subst ev
  unfold dSum at e
  split at e
  · rename_i ds
    cases ei : intsD ds with
    | none => rw [ei] at e; cases e
    | some ns =>
      rw [ei] at e; cases e
      obtain ⟨a, xs, rfl, h, t⟩ := rx.lst
      rw [intsD_rel t ei] at h
      exact ⟨a, ns, rfl, SqL.of h, q _ H (Same.refl H) (.int _)⟩
  · cases e
def dMax2 : PyData → PyData → Option PyData
  | .int i, .int j => some (.int (if j > i then j else i))
  | _, _ => none
theorem opF_max2 (hc : X.calm = true) : CallR X (.builtin "max") (rC2 X.K dMax2) := CallR.imp (call_max2 hc) fun vs H Q ⟨P, x, y, dx, dy, d, ev, tr, rx, ry, e, q⟩ => by
  subst ev
  unfold dMax2 at e
  split at e
  · cases e
    exact ⟨_, _, by rw [rx.int, ry.int], q _ H (Same.refl H) (.int _)⟩
  · cases e
def dMin2 : PyData → PyData → Option PyData
  | .int i, .int j => some (.int (if j < i then j else i))
  | _, _ => none
theorem opF_min2 (hc : X.calm = true) : CallR X (.builtin "min") (rC2 X.K dMin2) := CallR.imp (call_min2 hc) fun vs H Q ⟨P, x, y, dx, dy, d, ev, tr, rx, ry, e, q⟩ => by
  subst ev
  unfold dMin2 at e
  split at e
  · cases e
    exact ⟨_, _, by rw [rx.int, ry.int], q _ H (Same.refl H) (.int _)⟩
  · cases e
/-- min, max of a list of alike data -/
def someD : PyData → Bool
  | .none => false
  | _ => true
theorem someD_ne {d : PyData} (h : someD d = true) : d ≠ .none := by rintro rfl; cases h
def alk (ds : List PyData) : Bool := ds.all fun d => pl d && someD d && ds.all fun e => PySem.W.alike d e
theorem alk_pl {ds : List PyData} (h : alk ds = true) {d : PyData} (hd : d ∈ ds) : pl d = true := by
  have := List.all_eq_true.mp h d hd
  rw [Bool.and_eq_true, Bool.and_eq_true] at this
  exact this.1.1
theorem alk_all {ds : List PyData} (h : alk ds = true) : PySem.W.AlikeAll ds := by
  refine ⟨fun x hx y hy => ?_, fun x hx => ?_⟩
  · have := List.all_eq_true.mp h x hx
    rw [Bool.and_eq_true] at this
    exact List.all_eq_true.mp this.2 y hy
  · have := List.all_eq_true.mp h x hx
    rw [Bool.and_eq_true, Bool.and_eq_true] at this
    exact someD_ne this.1.2
theorem plain_all : ∀ {ds : List PyData}, (∀ d, d ∈ ds → d.plain = true) → PyData.plainAll ds = true
  | [], _ => rfl
  | d :: ds, h => by
    simp only [PyData.plainAll, Bool.and_eq_true]
    exact ⟨h d (by simp), plain_all fun x hx => h x (by simp [hx])⟩
theorem depth_all {n : Nat} : ∀ {ds : List PyData}, (∀ d, d ∈ ds → d.depth ≤ n) → PyData.depthAll ds ≤ n
  | [], _ => by simp [PyData.depthAll]
  | d :: ds, h => by
    have h1 := h d (by simp)
    have h2 := depth_all (n := n) (ds := ds) fun x hx => h x (by simp [hx])
    simp only [PyData.depthAll]
    omega
theorem DqA.dps {K : PySem.W.Frag} {H : Hp} {P : Addr → Prop} {vs : List V} {ds : List PyData} (t : DqA K H P vs ds) (c : ∀ d, d ∈ ds → d.plain = true) : ∀ (i : Nat) (v : V), vs[i]? = some v → ∃ d, ds[i]? = some d ∧ Dp K H v d := fun i v h => by
  obtain ⟨d, h1, h2⟩ := t.getV h
  exact ⟨d, h1, h2.dp (c d (List.mem_of_getElem? h1))⟩
theorem dpA_reads {pins : List (Addr × Obj)} {σ : L2.St} {H : Hp} {s : Shared} (I : Inv X pins σ H s) {P : Addr → Prop} : ∀ {vs : List V} {ds : List PyData} {us : List Value}, DqA X.K H P vs ds → (∀ d, d ∈ ds → d.plain = true) → Vals vs us → ∃ as, ReadsAll s.heap us ds as
  | _, _, _, .nil, _, .nil => ⟨_, .nil⟩
  | _, _, _, .cons h t, c, .cons r rs => by
    obtain ⟨as, r1⟩ := Dp.reads I _ _ _ (h.dp (c _ (by simp))) r
    obtain ⟨bs, r2⟩ := dpA_reads I t (fun d hd => c d (by simp [hd])) rs
    exact ⟨_, .cons r1 r2⟩
theorem minD_mem (x : PyData) : ∀ (xs : List PyData), PySem.W.minD x xs ∈ x :: xs := by
  intro xs
  unfold PySem.W.minD
  induction xs generalizing x with
  | nil => simp
  | cons y xs ih =>
    rw [List.foldl_cons]
    have := ih (if PySem.W.dataLt y x then y else x)
    rcases List.mem_cons.mp this with h | h
    · rw [h]
      by_cases z : PySem.W.dataLt y x = true
      · rw [if_pos z]; simp
      · rw [if_neg z]; simp
    · simp [h]
theorem maxD_mem (x : PyData) : ∀ (xs : List PyData), PySem.W.maxD x xs ∈ x :: xs := by
  intro xs
  unfold PySem.W.maxD
  induction xs generalizing x with
  | nil => simp
  | cons y xs ih =>
    rw [List.foldl_cons]
    have := ih (if PySem.W.dataLt x y then y else x)
    rcases List.mem_cons.mp this with h | h
    · rw [h]
      by_cases z : PySem.W.dataLt x y = true
      · rw [if_pos z]; simp
      · rw [if_neg z]; simp
    · simp [h]
def dMin : PyData → Option PyData
  | .list (x :: xs) => if alk (x :: xs) = true then some (PySem.W.minD x xs) else none
  | _ => none
def dMax : PyData → Option PyData
  | .list (x :: xs) => if alk (x :: xs) = true then some (PySem.W.maxD x xs) else none
  | _ => none
theorem room_alk {A : Around} {ds : List PyData} (hu : A.units + 66 < cLine) (h : alk ds = true) : A.units + 1 + PyData.depthAll ds < cLine := by
  have := depth_all (n := 64) (ds := ds) fun d hd => pl_depth (alk_pl h hd)
  omega
theorem vals_getU : ∀ {xs : List V} {us : List Value} {i : Nat} {u : Value}, Vals xs us → us[i]? = some u → ∃ x, xs[i]? = some x ∧ RelV x u
  | _, _, i, u, .nil, e => by simp at e
  | _, _, 0, u, .cons r t, e => by
    cases e; exact ⟨_, rfl, r⟩
  | _, _, i + 1, u, .cons r t, e => by
    obtain ⟨x, h1, h2⟩ := vals_getU (i := i) (u := u) t (by simpa using e)
    exact ⟨x, by simpa using h1, h2⟩
theorem pick_alk {K : PySem.W.Frag} {X : Cx} {pins : List (Addr × Obj)} {σ : L2.St} {H : Hp} {s : Shared} (I : Inv X pins σ H s) {P : Addr → Prop} {vs : List V} {ds : List PyData} {us : List Value} (t : DqA X.K H P vs ds) (rv : Vals vs us) (c : ∀ d, d ∈ ds → d.plain = true)
    {i : Nat} {v : Value} {d : PyData} {h' : Heap} {bs : List Addr} (hv : us[i]? = some v) (r : Reads h' v d bs) (hd : d.plain = true) (k : ∀ b o, s.heap.get? b = some o → h'.get? b = some o) : ∃ z, RelV z v ∧ Dq X.K H P z d := by
  obtain ⟨z, hz, rz⟩ := vals_getU rv hv
  obtain ⟨d', h1, h2⟩ := t.getV hz
  obtain ⟨as, r1⟩ := Dp.reads I _ _ _ (h2.dp (c _ (List.mem_of_getElem? h1))) rz
  have e := SeqAt.plain_unique d _ _ _ _ hd r (Reads.keeps k r1)
  subst e
  exact ⟨z, rz, h2⟩
theorem opF_min (hc : X.calm = true) (hu : X.A.units + 66 < cLine) : CallR X (.builtin "min") (rC1 X.K dMin) := by
  intro pins s σ H vs us Q I r h
  obtain ⟨P, x, dx, d, ev, tr, rx, e, q⟩ := h
  subst ev
  unfold dMin at e
  split at e
  · rename_i x0 xs
    by_cases hz : alk (x0 :: xs) = true
    · rw [if_pos hz] at e; cases e
      obtain ⟨a, ys, rfl, h, t⟩ := rx.lst
      obtain ⟨its, rv, hl, _⟩ := I.list (SqL.of h)
      rw [Vals.ref1 r]
      have cp : ∀ d, d ∈ x0 :: xs → d.plain = true := fun d hd => pl_plain (alk_pl hz hd)
      obtain ⟨as, ra⟩ := dpA_reads I t cp rv
      refine PySem.W.min_list_data (I.ok.hd hc) hl.isList ra (alk_all hz) (room_alk hu hz) fun i v h' tk bs hv r' k => ?_
      obtain ⟨z, rz, dz⟩ := pick_alk I (K := X.K) t rv cp (by simpa using hv) r' (cp _ (minD_mem x0 xs)) k
      exact ⟨z, H, I.kept (t' := tk) k, rz, q z H (Same.refl H) dz⟩
    · rw [if_neg hz] at e; cases e
  · cases e
theorem opF_max (hc : X.calm = true) (hu : X.A.units + 66 < cLine) : CallR X (.builtin "max") (rC1 X.K dMax) := by
  intro pins s σ H vs us Q I r h
  obtain ⟨P, x, dx, d, ev, tr, rx, e, q⟩ := h
  subst ev
  unfold dMax at e
  split at e
  · rename_i x0 xs
    by_cases hz : alk (x0 :: xs) = true
    · rw [if_pos hz] at e; cases e
      obtain ⟨a, ys, rfl, h, t⟩ := rx.lst
      obtain ⟨its, rv, hl, _⟩ := I.list (SqL.of h)
      rw [Vals.ref1 r]
      have cp : ∀ d, d ∈ x0 :: xs → d.plain = true := fun d hd => pl_plain (alk_pl hz hd)
      obtain ⟨as, ra⟩ := dpA_reads I t cp rv
      refine PySem.W.max_list_data (I.ok.hd hc) hl.isList ra (alk_all hz) (room_alk hu hz) fun i v h' tk bs hv r' k => ?_
      obtain ⟨z, rz, dz⟩ := pick_alk I (K := X.K) t rv cp (by simpa using hv) r' (cp _ (maxD_mem x0 xs)) k
      exact ⟨z, H, I.kept (t' := tk) k, rz, q z H (Same.refl H) dz⟩
    · rw [if_neg hz] at e; cases e
  · cases e
/-! ### t.index(x) of texts -/
def idxS (z : Str) : List Str → Option Nat
  | [] => none
  | y :: ys => if y = z then some 0 else (idxS z ys).map (· + 1)
theorem idxS_at {z : Str} : ∀ {ys : List Str} {j : Nat}, idxS z ys = some j → ys[j]? = some z ∧ ∀ m, m < j → ys[m]? ≠ some z
  | [], _, h => by cases h
  | y :: ys, j, h => by
    unfold idxS at h
    by_cases e : y = z
    · rw [if_pos e] at h; cases h
      exact ⟨by simp [e], fun m hm => by omega⟩
    · rw [if_neg e] at h
      cases er : idxS z ys with
      | none => rw [er] at h; cases h
      | some i =>
        rw [er] at h; cases h
        obtain ⟨h1, h2⟩ := idxS_at er
        refine ⟨by simpa using h1, fun m hm => ?_⟩
        cases m with
        | zero => simpa using e
        | succ m => simpa using h2 m (by simp only at hm; omega)
def dIndexT : PyData → PyData → Option PyData
  | .tuple ds, .str z => (strsD ds).bind fun ys => (idxS z ys).map fun j => .int (j : Nat)
  | _, _ => none
theorem ev_indexT {apos : Pos} (ha : ER X o a fa) (hb : ER X o b fb)
    (hbase : attributeBase a "index" X.env (eval a X.env) = eval a X.env := by rfl)
    (hfew : ((backTo pos (starEach [b] X.env)).all (fun x => !x.1) && (backToKw pos (keywordEach [] X.env)).all (fun x => x.1.isSome)
      && decide (([b] : List Expr).length + ([] : List Keyword).length + (if ([] : List Keyword).isEmpty then 0 else 1) < 30)) = true := by rfl)
    (hline : (apos.endLine == pos.line) = true := by rfl) (hs : starEach [b] X.env = (false, eval b X.env) :: starEach [] X.env := by rfl) (hplain : (backTo pos (starEach [] X.env)).any (·.1) = false := by rfl) :
    EV X o (.Call (.Attribute a "index" apos) [b] [] pos) (e2 fa fb dIndexT) := PE.imp (pe_bmT PySem.F.plainAttrs_tuple PySem.F.slot_tuple_index PySem.F.type_tuple_index mt_tup_index ha (pa_cons hb pa_nil hs) hbase hfew hline hs hplain) fun σ H Q ⟨H0, P0, P, ρ, d, R, e', q⟩ => by
  obtain ⟨x, y, ea, eb, eg⟩ := e2_some e'
  unfold dIndexT at eg
  split at eg
  · rename_i ds z
    cases e3 : strsD ds with
    | none => rw [e3] at eg; cases eg
    | some ys =>
    rw [e3] at eg
    simp only [Option.bind_some] at eg
    cases e4 : idxS z ys with
    | none => rw [e4] at eg; cases eg
    | some j =>
    rw [e4] at eg; cases eg
    obtain ⟨h1, h2⟩ := idxS_at e4
    refine ⟨H0, P0, P, ρ, _, R, ea, fun v H1 s1 r1 => ?_⟩
    cases r1.tupQ with
    | @tup a its vs _ ha hn ts =>
      refine ⟨⟨a, its, vs, rfl, ha⟩, H0, P0, P, ρ, _, R.go s1, eb, fun u H2 s2 r2 => ?_⟩
      have hq : SqT X.K H2 a vs := sqT_fz (s2 _ _ ha)
      rw [strsD_rel ts e3] at hq
      exact ⟨a, ys, z, j, rfl, by rw [r2.str], hq, h1, h2, q _ H2 (s1.trans s2) (.int _)⟩
  · cases eg
/-! ### sorted(xs) of alike data -/
def srt (ds : List PyData) : Bool := alk ds && (ds.all (fun d => match d with | .tuple (_ :: _) => true | _ => false) || ds.all (fun d => match d with | .tuple _ => false | _ => true))
theorem srt_alk {ds : List PyData} (h : srt ds = true) : alk ds = true := (Bool.and_eq_true_iff.mp h).1
theorem srt_sortable {ds : List PyData} (h : srt ds = true) : PySem.W.Sortable ds := by
  have h1 := srt_alk h
  rcases Bool.or_eq_true_iff.mp (Bool.and_eq_true_iff.mp h).2 with h2 | h2
  · refine .inl fun d hd => ?_
    have := List.all_eq_true.mp h2 d hd
    split at this
    · exact ⟨_, _, rfl⟩
    · cases this
  · refine .inr fun d hd => ?_
    have := List.all_eq_true.mp h2 d hd
    have ne := (alk_all h1).2 d hd
    refine ⟨ne, fun xs e => ?_⟩
    subst e
    cases this
def dSorted : PyData → Option (List PyData)
  | .list ds => if srt ds = true then some (ds.mergeSort (PySem.W.dataLe false id)) else none
  | _ => none
theorem each_of {α β : Type} {R : α → β → Prop} : ∀ {as : List α} {bs : List β}, as.length = bs.length → (∀ (i : Nat) (a : α) (b : β), as[i]? = some a → bs[i]? = some b → R a b) → PySem.W.EachIs R as bs
  | [], [], _, _ => .nil
  | [], _ :: _, h, _ => by cases h
  | _ :: _, [], h, _ => by cases h
  | a :: as, b :: bs, h, k => .cons (k 0 a b rfl rfl) (each_of (by simpa using h) fun i x y h1 h2 => k (i + 1) x y (by simpa using h1) (by simpa using h2))
theorem each_dq {K : PySem.W.Frag} {H : Hp} {P : Addr → Prop} : ∀ {us : List Value} {ds : List PyData}, PySem.W.EachIs (fun u d => ∃ z, RelV z u ∧ Dq K H P z d) us ds → ∃ vs, Vals vs us ∧ DqA K H P vs ds
  | _, _, .nil => ⟨[], .nil, .nil⟩
  | _, _, .cons ⟨z, rz, hz⟩ t => by
    obtain ⟨vs, h1, h2⟩ := each_dq t
    exact ⟨z :: vs, .cons rz h1, .cons hz h2⟩
theorem opF_sorted (hu : X.A.units + 66 < cLine) : CallR X (.builtin "sorted") (rC1N X.K dSorted) := by
  intro pins s σ H vs us Q I r h
  obtain ⟨P, x, dx, d, ev, tr, rx, e, q⟩ := h
  subst ev
  unfold dSorted at e
  split at e
  · rename_i ds
    by_cases hz : srt ds = true
    · rw [if_pos hz] at e; cases e
      obtain ⟨a, ys, rfl, h, t⟩ := rx.lst
      obtain ⟨its, rv, hl, hsz⟩ := I.list (SqL.of h)
      rw [Vals.ref1 r]
      have hal := srt_alk hz
      have cp : ∀ d, d ∈ ds → d.plain = true := fun d hd => pl_plain (alk_pl hal hd)
      have el : its.length = ds.length := by rw [← rv.length, t.length]
      have e1 : PySem.W.EachIs (fun u d => ∃ z, RelV z u ∧ Dq X.K H P z d) its ds := each_of el fun i u d hu hd => by
        obtain ⟨z, h1, h2⟩ := vals_getU rv hu
        obtain ⟨d', h3, h4⟩ := t.getV h1
        rw [hd] at h3; cases h3
        exact ⟨z, h2, h4⟩
      have e2 : PySem.W.EachIs (fun u d => ∃ as, Reads s.heap u (id d) as) its ds := each_of el fun i u d hu hd => by
        obtain ⟨z, h1, h2⟩ := vals_getU rv hu
        obtain ⟨d', h3, h4⟩ := t.getV h1
        rw [hd] at h3; cases h3
        exact Dp.reads I _ _ _ (h4.dp (cp d (List.mem_of_getElem? hd))) h2
      refine PySem.W.sorted_data (enc := id) hl.isList e1 e2 (by rw [List.map_id]; exact fun d hd d' hd' => (alk_all hal).1 d hd d' hd') (by rw [List.map_id]; exact srt_sortable hz) (by rw [← t.length]; exact hsz)
        (fun b hb => by have := pl_depth (alk_pl hal hb); show X.A.units + 2 + b.depth < cLine; omega) fun out hlen ho => ?_
      obtain ⟨vs', hv', hd'⟩ := each_dq ho
      obtain ⟨ep, he'⟩ := PyProof.Rows.sortedAll_at s.heap its out.toArray
      have hf : H (s.heap.objs.size + 1) = none := I.hok.fresh (Nat.le_succ _)
      have hlv : vs'.length ≤ sizeLine := by rw [hv'.length, hlen, ← t.length]; exact hsz
      exact ⟨.ref _, upd H (s.heap.objs.size + 1) (.lst vs'), I.laid (t' := s.toks) (fun _ _ => PyProof.Rows.sortedAll_old) (Nat.le_succ _) ⟨hlv, out, ep, hv', he'⟩, rfl, q _ vs' _ (same_upd hf _) hf upd_same (newDq hf hd')⟩
    · rw [if_neg hz] at e; cases e
  · cases e
/-! a, b = a list of two -/
def g2L (i j : Nat) : PyData → Rho → Option Rho := fun d ρ => match d with
  | .list [x, y] => some ((ρ.set i (some x)).set j (some y))
  | _ => none
theorem g2L_some {i j : Nat} {d : PyData} {ρ ρ' : Rho} (h : g2L i j d ρ = some ρ') : ∃ x y, d = .list [x, y] ∧ ρ' = (ρ.set i (some x)).set j (some y) := by
  unfold g2L at h
  split at h
  · cases h; exact ⟨_, _, rfl, rfl⟩
  · cases h
theorem tgl_2 (i j : Nat) {tg : Expr} (h : PG X tg (gLst X.K 2 (gCons (gName i) (gCons (gName j) gNil)))) (hi : i ∉ o := by decide) (hj : j ∉ o := by decide) : TGt X o tg (g2L i j) := PG.imp h fun v σ H Q ⟨H0, P0, P, ρ, d, ρ', R, t, e, q⟩ => by
  obtain ⟨x, y, rfl, rfl⟩ := g2L_some e
  cases t with
  | @lst a vs ds' ha hn ts =>
    have hs : SqL X.K H a vs := SqL.of ha
    cases ts with
    | cons h1 ts =>
      cases ts with
      | cons h2 ts =>
        cases ts
        exact ⟨a, _, rfl, hs, rfl, _, _, rfl, _, [], rfl, rfl, q _ ((R.set hi h1).set hj h2)⟩
@[simp] theorem g2L_ev {i j : Nat} {x y : PyData} {ρ : Rho} : g2L i j (.list [x, y]) ρ = some ((ρ.set i (some x)).set j (some y)) := rfl
theorem hu66 {k : Nat} {A : Around} (hr : Room k A) : A.units + 66 < cLine := by have := hr.un; omega
end
end TF

/-! TFl.lean -/
set_option Elab.async false
set_option linter.all false
set_option maxRecDepth 100000
/-! TF.l: zip of two tuples -/
namespace TF
open PySem PySem.Spec PyProof.Rows L2
variable [OK : OwnK]
/-- the tuples at a and b, the items in new pairs known to the last field -/
def ItzF (K : PySem.W.Frag) (a b : Addr) : It :=
  ⟨fun i H => ∃ (xs ys : List V) (x y : V), SqT K H a xs ∧ SqT K H b ys ∧ xs[i]? = some x ∧ ys[i]? = some y,
    fun i H v H' => ∃ T x y its, v = .ref T ∧ H T = none ∧ H' = upd H T (fz its [x, y]) ∧ (∀ xs, SqT K H a xs → xs[i]? = some x) ∧ ∀ ys, SqT K H b ys → ys[i]? = some y,
    fun i H => ∃ xs ys : List V, SqT K H a xs ∧ SqT K H b ys ∧ (xs.length ≤ i ∨ ys.length ≤ i)⟩
theorem turn_zipF {P : Program} {w : World} {K : PySem.W.Frag} {elts : List Expr} {kk : Nat} {tpos : Pos} {a b z TI TO i1 i2 : Addr} (D : ZipApart z TI TO i1 i2 a b) :
    Turn P w K (.Tuple elts kk tpos) (ItzF K a b) [z, TI, TO, i1, i2] z (fun i h => IsZip h z TI TO .none ∧ IsPair h TI (.ref i1) (.ref i2) ∧ (∃ x y, IsPair h TO x y) ∧ h.IsTupleIter i1 a i ∧ h.IsTupleIter i2 b i) where
  mem := by simp
  obj := fun i h st c hc => by
    obtain ⟨hz, hTI, ⟨x, y, hTO⟩, ⟨o1, e1, _, d1⟩, ⟨o2, e2, _, d2⟩⟩ := st
    have e' : c = z ∨ c = TI ∨ c = TO ∨ c = i1 ∨ c = i2 := by simpa using hc
    rcases e' with q | q | q | q | q
    · rw [q]; exact ⟨_, hz, fun v q => nomatch q⟩
    · rw [q]; exact ⟨_, hTI, fun v q => nomatch q⟩
    · rw [q]; exact ⟨_, hTO, fun v q => nomatch q⟩
    · rw [q]; exact ⟨o1, e1, fun v q => by rw [d1] at q; cases q⟩
    · rw [q]; exact ⟨o2, e2, fun v q => by rw [d2] at q; cases q⟩
  keep := fun i h h' st k => by
    obtain ⟨hz, hTI, ⟨x, y, hTO⟩, h1, h2⟩ := st
    exact ⟨k z (by simp) _ hz, k TI (by simp) _ hTI, ⟨x, y, k TO (by simp) _ hTO⟩, h1.at fun o q => k i1 (by simp) o q, h2.at fun o q => k i2 (by simp) o q⟩
  item := by
    intro X hP hw hK hc i pins s σ H E I hf st hg
    subst hP hw hK
    obtain ⟨hz, hTI, ⟨x0, y0, hTO⟩, h1, h2⟩ := st
    obtain ⟨xs, ys, x, y, hqx, hqy, hx, hy⟩ := hg
    obtain ⟨its, rv, p, _⟩ := I.tuple hqx
    obtain ⟨its2, rv2, p2, _⟩ := I.tuple hqy
    obtain ⟨u, hu, ru⟩ := rv.get hx
    obtain ⟨u2, hu2, ru2⟩ := rv2.get hy
    have hzl : z < s.heap.objs.size := Heap.lt_size hz
    refine RZ.pyNext_zipT_item D hz hTI hTO h1 h2 p p2 (x := u) (y := u2) (by simpa using hu) (by simpa using hu2) fun h' z' TO' h1' h2' hT hsz hk => ?_
    refine ⟨_, rfl, wpAny_letOwnedTupleGo_zip (s := { s with heap := h' }) z' fun h'' z'' sb => ?_⟩
    have hT2 : h''.get? s.heap.objs.size = some { cls := .type "tuple", data := .seq #[u, u2] } := (sb.2 _ (Nat.ne_of_gt hzl)).trans hT
    have new : ObjOk X.prog X.w (upd H s.heap.objs.size (fz [u, u2] [x, y])) h'' s.heap.objs.size (fz [u, u2] [x, y]) :=
      fz_ok (.cons ru (.cons ru2 .nil)) (by show 2 ≤ sizeLine; decide) hT2
    have I1 : Inv X pins σ (upd H s.heap.objs.size (fz [u, u2] [x, y])) { s with heap := h'' } :=
      I.turnedNew (t' := s.toks) (ch := [z, TI, TO, i1, i2]) (fun c o hb q => (sb.2 c (fun q' => hb (by simp [q']))).trans (hk c o (fun q' => hb (by simp [q'])) (fun q' => hb (by simp [q'])) (fun q' => hb (by simp [q'])) (fun q' => hb (by simp [q'])) q)) hf (Nat.le_refl _) new
    refine ⟨.ref s.heap.objs.size, _, I1, rfl, ⟨_, x, y, _, rfl, I.hok.fresh (Nat.le_refl _), rfl, fun l hl => by rw [I.tuple_inj hl hqx]; exact hx, fun l hl => by rw [I.tuple_inj hl hqy]; exact hy⟩, ⟨z'', ?_, ⟨u, u2, ?_⟩, ?_, ?_⟩, fun c hcm => ?_⟩
    · exact (sb.2 _ D.TIz).trans (hk _ _ D.TIz D.TITO D.TIi1 D.TIi2 hTI)
    · exact (sb.2 _ D.TOz).trans TO'
    · exact h1'.at fun o q => (sb.2 _ D.i1z).trans q
    · exact h2'.at fun o q => (sb.2 _ D.i2z).trans q
    · have hlt : c < s.heap.objs.size := by
        have e' : c = z ∨ c = TI ∨ c = TO ∨ c = i1 ∨ c = i2 := by simpa using hcm
        rcases e' with q | q | q | q | q
        · rw [q]; exact hzl
        · rw [q]; exact Heap.lt_size hTI
        · rw [q]; exact Heap.lt_size hTO
        · rw [q]; obtain ⟨_, e1, _⟩ := h1; exact Heap.lt_size e1
        · rw [q]; obtain ⟨_, e2, _⟩ := h2; exact Heap.lt_size e2
      rw [upd_ne (Nat.ne_of_lt hlt)]
      exact (hf c hcm).1
  done := by
    intro X hP hw hK hc i pins s σ H E I hf st hg
    subst hP hw hK
    obtain ⟨hz, hTI, ⟨x0, y0, hTO⟩, h1, h2⟩ := st
    obtain ⟨xs, ys, hqx, hqy, hend⟩ := hg
    obtain ⟨its, rv, p, _⟩ := I.tuple hqx
    obtain ⟨its2, rv2, p2, _⟩ := I.tuple hqy
    have l1 := rv.length
    have l2 := rv2.length
    have he : its.toArray[i]? = none ∨ its2.toArray[i]? = none := by
      rcases hend with q | q
      · exact .inl (by simp; omega)
      · exact .inr (by simp; omega)
    exact RZ.pyNext_zipT_end (I.ok.hd hc) D hz hTI hTO h1 h2 p p2 he fun h' hk => ⟨rfl, I.turnedL (t' := s.toks) (ch := [z, TI, TO, i1, i2]) (fun c o hb q =>
      hk c o (fun q' => hb (by simp [q'])) (fun q' => hb (by simp [q'])) (fun q' => hb (by simp [q'])) (fun q' => hb (by simp [q'])) q) hf⟩
  self := fun A i s Q E st h => wpAny_pyIter_zip st.1 h
def iZipF (K : PySem.W.Frag) (ta : TA) : TI := fun σ H R => ta σ H fun vs H1 => ∃ a b xs ys, vs = [.ref a, .ref b] ∧ SqT K H1 a xs ∧ SqT K H1 b ys ∧ R (ItzF K a b) H1
theorem pi_zipF {X : Cx} {e e2 : Expr} {ta : TA} {p pos tpos : Pos} {elts : List Expr} {kk : Nat} (hg : Gl X "zip") (hm : X.mg "zip" = none) (ha : PA X [e, e2] ta)
    (hs : starEach [e, e2] X.env = (false, eval e X.env) :: starEach [e2] X.env := by rfl) (hpl : (backTo pos (starEach [e2] X.env)).any (·.1) = false := by rfl) :
    PI X (.Tuple elts kk tpos) (.Call (.Name "zip" p) [e, e2] [] pos) (iZipF X.K ta) := by
  refine ⟨fun pins s σ H R I h => ?_⟩
  refine Call_ (ld_blt I hg hm PyProof.Rows.boot_zip (PyProof.Rows.callWith_type1 (thn (ha.run pos pins s σ H _ I h) fun us s1 ⟨vs, H1, I1, r1, q1⟩ => ?_) hs hpl))
  obtain ⟨a, b, xs, ys, ex, hqx, hqy, q⟩ := q1
  subst ex
  obtain ⟨u1, u2, rfl, r, r'⟩ := Vals.two r1
  cases r
  cases r'
  obtain ⟨its, rv, p1, _⟩ := I1.tuple hqx
  obtain ⟨its2, rv2, p2, _⟩ := I1.tuple hqy
  obtain ⟨o1, ho1, _⟩ := id p1
  obtain ⟨o2, ho2, _⟩ := id p2
  refine RZ.call_zipT (show s1.heap.IsTuple a its.toArray from p1) (show s1.heap.IsTuple b its2.toArray from p2) fun h' hz hTI hTO h1 h2 hsz hk => wpAny_pyIter_zip hz ?_
  refine ⟨s1.heap.objs.size + 4, [s1.heap.objs.size + 4, s1.heap.objs.size + 2, s1.heap.objs.size + 3, s1.heap.objs.size, s1.heap.objs.size + 1], _, _, H1, rfl, I1.kept (t' := s1.toks) hk, turn_zipF (PySem.W.ktu_apart s1.heap.objs.size a b (Heap.lt_size ho1) (Heap.lt_size ho2)), ⟨hz, hTI, ⟨_, _, hTO⟩, h1, h2⟩, fun c hcm => ?_, q⟩
  have hle : s1.heap.objs.size ≤ c := by
    have e' : c = s1.heap.objs.size + 4 ∨ c = s1.heap.objs.size + 2 ∨ c = s1.heap.objs.size + 3 ∨ c = s1.heap.objs.size ∨ c = s1.heap.objs.size + 1 := by simpa using hcm
    rcases e' with z | z | z | z | z
    · rw [z]; exact Nat.le_add_right _ _
    · rw [z]; exact Nat.le_add_right _ _
    · rw [z]; exact Nat.le_add_right _ _
    · rw [z]; exact Nat.le_refl _
    · rw [z]; exact Nat.le_add_right _ _
  exact I1.fpOk hle (I1.hok.fresh hle)
section
variable {X : Cx} {o : List Nat} {e a b : Expr} {f fa fb : Rho → Option PyData} {pos : Pos}
/-! ### zip -/
def zipD : List PyData → List PyData → List PyData
  | x :: xs, y :: ys => .tuple [x, y] :: zipD xs ys
  | _, _ => []
theorem zipD_length : ∀ (xs ys : List PyData), (zipD xs ys).length = min xs.length ys.length
  | [], ys => by simp [zipD]
  | x :: xs, [] => by simp [zipD]
  | x :: xs, y :: ys => by simp only [zipD, List.length_cons, zipD_length xs ys]; omega
theorem zipD_get : ∀ (xs ys : List PyData) (i : Nat) (x y : PyData), xs[i]? = some x → ys[i]? = some y → (zipD xs ys)[i]? = some (.tuple [x, y])
  | [], ys, i, x, y, h, _ => by simp at h
  | x' :: xs, [], i, x, y, _, h => by simp at h
  | x' :: xs, y' :: ys, 0, x, y, h, h' => by cases h; cases h'; rfl
  | x' :: xs, y' :: ys, i + 1, x, y, h, h' => by
    have := zipD_get xs ys i x y (by simpa using h) (by simpa using h')
    simpa [zipD] using this
def dZip : PyData → PyData → Option (List PyData)
  | .tuple xs, .tuple ys => some (zipD xs ys)
  | _, _ => none
def AtT (K : PySem.W.Frag) (H1 : Hp) (P : Addr → Prop) (a : Addr) (vs : List V) : Prop := ∀ H P', Lt H1 P H P' → SqT K H a vs
theorem wk_zipT {K : PySem.W.Frag} {ds es : List PyData} {a b : Addr} {vs ws : List V} {H1 : Hp} {P : Addr → Prop} (ha : AtT K H1 P a vs) (hb : AtT K H1 P b ws) (ts : DqA K H1 P vs ds) (us : DqA K H1 P ws es) : Wk K (zipD ds es) (ItzF K a b) H1 P := by
  refine ⟨fun H P i l hi => ?_, fun H P l => ?_, fun H P i x H' l tr hi y => ?_⟩
  · rw [zipD_length] at hi
    have hi' : i < vs.length := by rw [ts.length]; omega
    have hi2 : i < ws.length := by rw [us.length]; omega
    exact ⟨vs, ws, vs[i], ws[i], ha _ _ l, hb _ _ l, by simp [hi'], by simp [hi2]⟩
  · refine ⟨vs, ws, ha _ _ l, hb _ _ l, ?_⟩
    rw [ts.length, us.length, zipD_length]; omega
  · obtain ⟨T, x, y', its, rfl, hT, rfl, y1, y2⟩ := y
    obtain ⟨d, h1, h2⟩ := (ts.mono l).getV (y1 vs (ha _ _ l))
    obtain ⟨d', h1', h2'⟩ := (us.mono l).getV (y2 ws (hb _ _ l))
    have s := same_upd hT (fz its [x, y'])
    exact ⟨s, _, zipD_get ds es i d d' h1 h1', .tup upd_same (fun z => by obtain ⟨u, hu⟩ := tr _ z; rw [hT] at hu; cases hu) (.cons (h2.same s) (.cons (h2'.same s) .nil))⟩
theorem Dq.atT {K : PySem.W.Frag} {H : Hp} {P : Addr → Prop} {v : V} {ds : List PyData} (t : Dq K H P v (.tuple ds)) : ∃ a vs, v = .ref a ∧ AtT K H P a vs ∧ DqA K H P vs ds := by
  cases t with
  | @tup a its vs ds' ha hn ts => exact ⟨a, vs, rfl, fun H' P' l => sqT_fz (l _ _ ha hn (by first | exact nt_lst | exact nt_frz)).1, ts⟩
theorem lt_refl' {H : Hp} {P : Addr → Prop} : Lt H P H P := fun a u h n _ => ⟨h, n⟩
theorem wi_zip {p tpos : Pos} {elts : List Expr} {kk : Nat} (hm : X.mg "zip" = none) (ha : EV X o a fa) (hb : EV X o b fb) (hg : Gl X "zip" := by rfl)
    (hs : starEach [a, b] X.env = (false, eval a X.env) :: starEach [b] X.env := by rfl) (hs2 : starEach [b] X.env = (false, eval b X.env) :: starEach [] X.env := by rfl) (hpl : (backTo pos (starEach [b] X.env)).any (·.1) = false := by rfl) :
    WI X o (.Tuple elts kk tpos) (.Call (.Name "zip" p) [a, b] [] pos) (e2 fa fb dZip) := PI.imp (PI.szd (pi_zipF hg hm (pa_cons ha (pa_cons hb pa_nil hs2) hs) hs hpl)) fun σ H R ⟨H0, P0, P, ρ, ds, Re, e', q⟩ => by
  obtain ⟨x, y, ea, eb, eg⟩ := e2_some e'
  refine ⟨H0, P0, P, ρ, _, Re, ea, fun v H1 s1 t1 => ⟨H0, P0, P, ρ, _, Re.go s1, eb, fun u H2 s2 t2 => ?_⟩⟩
  have t1 := t1.same s2
  unfold dZip at eg
  split at eg
  · cases eg
    obtain ⟨a, vs, rfl, ha, ts⟩ := t1.atT
    obtain ⟨b, ws, rfl, hb, us⟩ := t2.atT
    refine ⟨a, b, vs, ws, rfl, ha _ _ lt_refl', hb _ _ lt_refl', fun hz => q _ _ (s1.trans s2) (wk_zipT ha hb ts us) ?_⟩
    have := hz.2 _ _ (ha _ _ lt_refl')
    rw [zipD_length, ← ts.length]; omega
  · cases eg
@[simp] theorem dZip_ev {ds es : List PyData} : dZip (.tuple ds) (.tuple es) = some (zipD ds es) := rfl
end
end TF

/-! TFm.lean -/
set_option Elab.async false
set_option linter.all false
set_option maxRecDepth 100000
/-! TF.m: t[::-1] -/
namespace TF
open PySem PySem.Spec PyProof.Rows L2
variable [OK : OwnK]
section
variable {prog : Program} {w : World} {A : Around} {E : Value → Shared → Prop} {s : Shared}
theorem back_places (n : Nat) : Builtin.Slice.sliceAdjust none none (-1) (n : Int) = ((n : Int) - 1, -1) := by
  unfold Builtin.Slice.sliceAdjust
  simp
theorem back_count (n : Nat) : Builtin.Slice.slicePlaces ((n : Int) - 1) (-1) (-1) = n := by
  unfold Builtin.Slice.slicePlaces
  have h1 : ¬ ((-1 : Int) > 0) := by omega
  simp only [h1, if_false]
  split <;> (try simp) <;> omega
theorem sliceApplied_back {sl : Addr} {u : Tok} {n : Nat} {Q : Int × Int × Nat → Shared → Prop} (hs : s.heap.IsSliceOf sl .none .none (.int (-1) u))
    (h : Q ((n : Int) - 1, -1, n) s) : wpAny (model prog w) A (Builtin.Slice.sliceApplied (.ref sl) (pure (n : Int))) Q E s := by
  obtain ⟨os, hos, hcs, hds⟩ := id hs
  unfold Builtin.Slice.sliceApplied Builtin.Slice.sliceFields
  refine wpAny_bind (wpAny_bind (wpAny_field hos hds (x := .none) rfl (wpAny_bind (wpAny_field hos hds (x := .none) rfl (wpAny_bind (wpAny_field hos hds (x := .int (-1) u) rfl (wpAny_pure ?_)))))))
  refine wpAny_bind (HT.slicePart_ (.int (-1) u) ?_)
  show wpAny _ _ (if ((-1 : Int) == 0) = true then _ else _) _ _ s
  rw [if_neg (by decide)]
  refine wpAny_bind (HT.slicePart_ .none (wpAny_bind (HT.slicePart_ .none (wpAny_bind (wpAny_pure ?_)))))
  show wpAny _ _ (match Builtin.Slice.sliceAdjust none none (-1) (n : Int) with | (lo, hi) => pure (lo, (-1 : Int), Builtin.Slice.slicePlaces lo hi (-1))) _ _ s
  rw [back_places n]
  show wpAny _ _ (pure ((n : Int) - 1, (-1 : Int), Builtin.Slice.slicePlaces ((n : Int) - 1) (-1) (-1))) _ _ s
  rw [back_count]
  exact wpAny_pure h
theorem fm_congr {α β : Type} {f g : α → Option β} : ∀ (l : List α), (∀ x ∈ l, f x = g x) → l.filterMap f = l.filterMap g
  | [], _ => rfl
  | x :: l, h => by
    have e := h x (by simp)
    have t := fm_congr l fun y hy => h y (by simp [hy])
    rw [List.filterMap_cons, List.filterMap_cons, e, t]
theorem pick_back (xs : Array Value) : ((List.range xs.size).filterMap fun (m : Nat) => xs[(((xs.size : Int) - 1) + (m : Int) * (-1)).toNat]?) = xs.toList.reverse := by
  have h := PySem.W.krv_all xs
  have e : ((List.range xs.size).filterMap fun (m : Nat) => xs[(((xs.size : Int) - 1) + (m : Int) * (-1)).toNat]?) = ((List.range xs.size).map fun k => xs.size - 1 - k).filterMap (xs[·]?) := by
    rw [List.filterMap_map]
    refine fm_congr _ fun m hm => ?_
    have := List.mem_range.mp hm
    show xs[(((xs.size : Int) - 1) + (m : Int) * (-1)).toNat]? = xs[xs.size - 1 - m]?
    congr 1
    omega
  rw [e, PySem.W.krv_range, List.filterMap_reverse, h]
theorem getItem_tuple_back {t sl : Addr} {items : Array Value} {u : Tok} {Q : Value → Shared → Prop} (ht : IsTup s.heap t items) (hs : s.heap.IsSliceOf sl .none .none (.int (-1) u))
    (h : Q (.ref s.heap.objs.size) { s with heap := s.heap.push { cls := .type "tuple", data := .seq items.toList.reverse.toArray } }) (hsz : items.size ≤ sizeLine) : wpAny (model prog w) A (getItem (.ref t) (.ref sl)) Q E s := by
  have hok : sizeOk (.seq items.toList.reverse.toArray) := by
    show items.toList.reverse.toArray.size ≤ sizeLine
    rw [List.size_toArray, List.length_reverse, Array.length_toList]; exact hsz
  obtain ⟨os, hos, hcs, hds⟩ := id hs
  have hTs : s.TypeIs (.ref sl) "slice" := ⟨os, hos, hcs⟩
  unfold getItem
  try with_reducible refine wpAny_holding ?_
  first | refine wpAny_bind (wpAny_pure ?_) | skip
  refine wpAny_bind (wpAny_sequenceKey ht.typeIs (by decide) ?_)
  refine wpAny_bind (wpAny_callSpecial?_slot (name := Str.ofString "__getitem__") ht.typeIs PyProof.Rows.slot_tuple_getitem
    (wpAny_call_entry PyProof.Rows.slot_tuple_getitem ht.typeIs entry_tuple_getitem ?_ (args_tuple_getitem _ _)))
  show wpAny _ _ (Builtin.Tuple.tupleItemsOf (.ref t) >>= _) _ _ s
  refine wpAny_bind (tupleItemsOf_ ht ?_)
  refine wpAny_bind (wpAny_typeOf hTs ?_)
  rw [if_pos (by decide)]
  refine wpAny_bind (sliceApplied_back hs ?_)
  have hno : ¬ ((((items.size : Int) - 1) == 0 && (-1 : Int) == 1 && items.size == items.size) = true) := by
    intro q
    rw [Bool.and_eq_true, Bool.and_eq_true] at q
    exact absurd q.1.2 (by decide)
  show wpAny _ _ (if (((items.size : Int) - 1) == 0 && (-1 : Int) == 1 && items.size == items.size) = true then _ else _) _ _ s
  rw [if_neg hno, pick_back]
  first
    | exact wpAny_bind (m := Builtin.Tuple.tupleExact _) (wpAny_newObj_type (wpAny_pure ⟨_, rfl, wpAny_pure h⟩) hok)
    | exact wpAny_bind (m := Builtin.Tuple.tupleExact _) (wpAny_newObj_type (wpAny_bind (wpAny_pure (wpAny_pure ⟨_, rfl, wpAny_pure h⟩))) hok)
    | exact wpAny_bind (wpAny_bind (m := Builtin.Tuple.tupleExact _) (wpAny_newObj_type (wpAny_pure (wpAny_pure ⟨_, rfl, wpAny_pure h⟩)) hok))
    | exact wpAny_bind (wpAny_bind (m := Builtin.Tuple.tupleExact _) (wpAny_newObj_type (wpAny_pure ⟨_, rfl, wpAny_pure h⟩) hok))
end
section
variable {X : Cx} {o : List Nat} {e : Expr} {f : Rho → Option PyData} {pos : Pos}
def tRevT (K : PySem.W.Frag) (te : TE) : TE := fun σ H Q => te σ H fun x H1 => ∃ a xs, x = .ref a ∧ SqT K H1 a xs ∧ ∀ p its, H1 p = none → Q (.ref p) (upd H1 p (fz its xs.reverse))
theorem pe_revT {te : TE} {k : Nat} {p1 p2 p3 : Pos} (he : PE X e te) : PE X (.Subscript e (.Slice none none (some (.UnaryOp .USub (.Constant (.int 1) k p1) p2)) p3) pos) (tRevT X.K te) := by
  refine ⟨fun pins s σ H Q I h => ?_⟩
  refine Subscript_ (thn (he.run pins s σ H _ I h) fun v s1 ⟨x, H1, I1, r1, q1⟩ => ?_)
  obtain ⟨a, xs, ex, hx, q⟩ := q1
  subst ex
  cases r1
  have hst : PO X (some (.UnaryOp .USub (.Constant (.int 1) k p1) p2)) (tPart (tUn (rU fun i => .int (-i)) (tC (.int 1)))) := po_some (pe_un un_neg pe_int)
  refine wpAny_Slice (thn (po_none.run pins s1 σ H1 (fun o H2 => o = none ∧ H2 = H1) I1 ⟨rfl, rfl⟩) fun vl s2 ⟨l, H2, I2, pl, el, e2⟩ => ?_)
  subst el e2
  refine thn (po_none.run pins s2 σ H2 (fun o H3 => o = none ∧ H3 = H2) I2 ⟨rfl, rfl⟩) fun vu s3 ⟨u, H3, I3, pu, eu, e3⟩ => ?_
  subst eu e3
  refine thn (hst.run pins s3 σ H3 (fun o H4 => o = some (-1) ∧ H4 = H3) I3 ⟨1, rfl, -1, rfl, rfl, rfl⟩) fun vs s4 ⟨o, H4, I4, ps, eo, e4⟩ => ?_
  subst eo e4
  cases pl
  cases pu
  obtain ⟨tk, rfl⟩ : ∃ tk, vs = .int (-1) tk := by
    cases ps with
    | int _ t => exact ⟨t, rfl⟩
  have I5 : Inv X pins σ H4 { s4 with heap := s4.heap.push { cls := .type "slice", data := .fields #[.none, .none, .int (-1) tk] } } := I4.kept (t' := s4.toks) fun b ob q => Heap.get?_push_of_some _ q
  obtain ⟨its, r, ht, hz⟩ := I5.tuple hx
  have hlen := r.length
  show wpAny (model X.prog X.w) X.A (subscriptTail e (.Slice none none (some (.UnaryOp .USub (.Constant (.int 1) k p1) p2)) p3) (.ref a) (.ref s4.heap.objs.size)) (EP X pins σ Q) X.xe { s4 with heap := s4.heap.push { cls := .type "slice", data := .fields #[.none, .none, .int (-1) tk] } }
  refine tail_any (ops := [.ref a, .ref s4.heap.objs.size]) ht.typeIs (PyProof.Rows.slot_tuple_getitem.lookup) ?_ (by with_unfolding_all rfl)
  refine getItem_tuple_back ht (Heap.IsSliceOf.new _ .none .none (.int (-1) tk)) ?_ (by rw [List.size_toArray]; omega)
  exact ⟨.ref _, _, I5.laid (t' := s4.toks) (fun b ob q => Heap.get?_push_of_some _ q) (Nat.le_refl _) (fz_ok r.reverse (by rw [List.length_reverse]; exact hz) (Heap.get?_push_size _ rfl)), rfl, q _ _ (I5.hok.fresh (Nat.le_refl _))⟩
def dRev : PyData → Option PyData
  | .tuple ds => some (.tuple ds.reverse)
  | _ => none
theorem ev_rev {k : Nat} {p1 p2 p3 : Pos} (h : ER X o e f) : EV X o (.Subscript e (.Slice none none (some (.UnaryOp .USub (.Constant (.int 1) k p1) p2)) p3) pos) (e1 f dRev) := PE.imp (pe_revT h) fun σ H Q ⟨H0, P0, P, ρ, d, R, e', q⟩ => by
  obtain ⟨x, ef, eg⟩ := e1_some e'
  unfold dRev at eg
  split at eg
  · cases eg
    refine ⟨H0, P0, P, ρ, _, R, ef, fun v H1 s1 r1 => ?_⟩
    obtain ⟨a, xs, rfl, h, t⟩ := r1.tup
    exact ⟨a, xs, rfl, h, fun p its hp => q _ _ (s1.trans (same_upd hp _)) (.tup upd_same ((R.go s1).newP hp) (t.reverse.same (same_upd hp _)))⟩
  · cases eg
@[simp] theorem dRev_ev {ds : List PyData} : dRev (.tuple ds) = some (.tuple ds.reverse) := rfl
end
end TF

/-! TFn.lean -/
set_option Elab.async false
set_option linter.all false
set_option maxRecDepth 100000
/-! TF.n: sorted of tuples, too -/
namespace TF
open PySem PySem.Spec PyProof.Rows L2
variable [OK : OwnK]
section
variable {prog : Program} {w : World} {A : Around} {E : Value → Shared → Prop} {s : Shared}
theorem collect_tup {l : Addr} {vs : List Value} {Q : List Value → Shared → Prop} (hl : IsTup s.heap l vs.toArray)
    (h : Q vs { s with heap := (s.heap.push (seqObj "list" #[] 0)).update s.heap.objs.size (Obj.mapSeq (· ++ vs.toArray)) }) (hsz : vs.length ≤ sizeLine) :
    wpAny (model prog w) A (collect (.ref l)) Q E s := by
  obtain ⟨o, ho, hc, n, hd⟩ := id hl
  unfold collect
  refine wpAny_bind (wpAny_runValue (codeAny_builtin entry_proto_collect' ?_))
  show wpAny _ _ (do again (.builtin "list.__iadd__" ⟨[← newList [], .ref l], []⟩)) _ _ s
  refine wpAny_bind (wpAny_newList (wpAny_pure ⟨Code.quiet_builtin _ (by decide +kernel), codeAny_builtin entry_list_iadd' ?_⟩))
  show wpAny _ _ (Builtin.List.listExtendWith (.ref s.heap.objs.size) (.ref l) (.ref s.heap.objs.size)) _ _ { s with heap := s.heap.push (seqObj "list" #[] 0) }
  unfold Builtin.List.listExtendWith
  have ho' : (s.heap.push (seqObj "list" #[] 0)).get? l = some o := Heap.get?_push_of_some _ ho
  refine wpAny_bind (wpAny_typeOf (T := "tuple") ⟨o, ho', hc⟩ ?_)
  have ht : (Value.type "tuple" == Value.type "tuple") = true := by rfl
  rw [if_pos (by rw [ht]; simp)]
  refine wpAny_bind (listItems_at ho' hd ?_)
  refine wpAny_bind (listItems_at (xs := #[]) (n := 0) (Heap.get?_push_size _ rfl) rfl ?_)
  rw [if_neg (by simp)]
  refine wpAny_bind (listUpdate_at (xs := #[]) (n := 0) (Heap.get?_push_size _ rfl) rfl ?_ (Nat.zero_le _) (by show (#[] ++ vs.toArray).size ≤ sizeLine + 1; simp only [Array.size_append, List.size_toArray, List.length_nil]; omega))
  refine wpAny_pure ?_
  show wpAny (model prog w) A (do
      let o ← load s.heap.objs.size
      match o.data with
      | .seq xs _ => pure xs.toList
      | _ => unsupported "internal:collect") Q E { s with heap := (s.heap.push (seqObj "list" #[] 0)).update s.heap.objs.size (Obj.mapSeq (· ++ vs.toArray)) }
  refine wpAny_bind (wpAny_load (get?_update_seq (Heap.get?_push_size _ rfl) _) ?_)
  show wpAny _ _ (pure ((#[] : Array Value) ++ vs.toArray).toList) Q E _
  rw [show ((#[] : Array Value) ++ vs.toArray).toList = vs by simp]
  exact wpAny_pure h
theorem size_push'' (h : Heap) (o : Obj) : (h.push o).objs.size = h.objs.size + 1 := Heap.size_push ..
theorem sorted_tup_of {l : Addr} {vs : List Value} {kw : List (Str × Value)} {Q : Value → Shared → Prop} (hl : IsTup s.heap l vs.toArray) (hL : vs.length ≤ sizeLine) (ha1 : argsOk "sorted" ⟨[.ref l], kw⟩) (ha2 : ∀ x, argsOk "list.sort" ⟨[.ref x], kw⟩)
    (body : ∀ E' : Value → Shared → Prop, wpAny (model prog w) A.in1.in1 (Builtin.«list.sort» ⟨[.ref (s.heap.objs.size + 1)], kw⟩) (fun f s' => f = .done (.ret .none) ∧ Q (.ref (s.heap.objs.size + 1)) s') E' { s with heap := PySem.W.copyHeap s.heap vs }) :
    wpAny (model prog w) A (call (.builtin "sorted") [.ref l] kw) Q E s := by
  refine call_function_entry_kw kind_sorted plain_sorted entry_sorted ha1 ?_
  unfold Builtin.«sorted»
  refine wpAny_bind (m := checkCount "sorted" 1 1 _) (wpAny_pure ?_)
  refine wpAny_bind (collect_tup hl ?_ hL)
  refine wpAny_bind (wpAny_newList ?_ hL)
  have hsz : ((s.heap.push (seqObj "list" #[] 0)).update s.heap.objs.size (Obj.mapSeq (· ++ vs.toArray))).objs.size = s.heap.objs.size + 1 := by
    rw [Heap.size_update, size_push'']
  show wpAny _ _ _ _ _ { s with heap := PySem.W.copyHeap s.heap vs }
  rw [hsz]
  refine wpAny_bind (wpAny_holding (wpAny_call_entry_kw slot_list_sort ⟨_, PySem.W.copyHeap_at s.heap vs, rfl⟩ entry_list_sort ?body (ha2 _)))
  case body =>
    show wpAny (model prog w) A.in1.in1 (Builtin.«list.sort» ⟨[.ref (s.heap.objs.size + 1)], kw⟩) _ _ _
    refine wpAny_mono (body _) (fun f s' hf => ?_) fun _ _ e => e
    obtain ⟨rfl, hq⟩ := hf
    exact ⟨_, rfl, wpAny_pure ⟨_, rfl, hq⟩⟩
theorem sorted_tup_data {prog : Program} {w : World} {A : Around} {E : Value → Shared → Prop} {s : Shared} {β : Type} {R : Value → β → Prop} {enc : β → PyData} {vs : List Value} {bs : List β} {l : Addr} {Q : Value → Shared → Prop} (hl : IsTup s.heap l vs.toArray) (e : PySem.W.EachIs R vs bs) (er : PySem.W.EachIs (fun v b => ∃ as, Reads s.heap v (enc b) as) vs bs) (hal : PySem.W.AllAlike (bs.map enc)) (hk : PySem.W.Sortable (bs.map enc)) (hL : bs.length ≤ sizeLine)
    (hu : ∀ b, b ∈ bs → A.units + 2 + (enc b).depth < cLine) (h : ∀ out, out.length = bs.length → PySem.W.EachIs R out (bs.mergeSort (PySem.W.dataLe false enc)) → Q (.ref (s.heap.objs.size + 1)) { s with heap := sortedAll s.heap vs (List.toArray out) }) :
    wpAny (model prog w) A (call (.builtin "sorted") [.ref l]) Q E s := by
  have er' : PySem.W.EachIs (fun v b => ∃ as, Reads (PySem.W.sortingHeap (PySem.W.copyHeap s.heap vs) (s.heap.objs.size + 1) vs) v (enc b) as) vs bs := er.mono fun _ _ ⟨as, r⟩ => ⟨as, PyProof.Rows.Reads.keeps (fun _ _ => PySem.W.sorting_copy_old) r⟩
  have S := PySem.W.SortsAt.data (prog := prog) (w := w) (A := A.in1.in1) (s := { s with heap := PySem.W.sortingHeap (PySem.W.copyHeap s.heap vs) (s.heap.objs.size + 1) vs }) (PySem.W.each_map (R := fun v d => ∃ as, Reads (PySem.W.sortingHeap (PySem.W.copyHeap s.heap vs) (s.heap.objs.size + 1) vs) v d as) enc er') hal hk (PySem.W.bound_map hu)
  have hLv : vs.length ≤ sizeLine := by rw [e.length]; exact hL
  refine sorted_tup_of hl hLv (args_sorted1 _) (fun _ => args_list_sort _) fun _ => ?_
  refine PySem.W.list_sort_vals (s := { s with heap := PySem.W.copyHeap s.heap vs }) (PySem.W.copyHeap_at s.heap vs) S hLv ⟨rfl, ?_⟩
  exact h _ (by rw [PySem.W.sortVals_length false rfl]; exact e.length) (PySem.W.sortVals_data false e er' hal)
end
section
variable {X : Cx}
def dSortedA : PyData → Option (List PyData)
  | .list ds => if srt ds = true then some (ds.mergeSort (PySem.W.dataLe false id)) else none
  | .tuple ds => if srt ds = true then some (ds.mergeSort (PySem.W.dataLe false id)) else none
  | _ => none
theorem opF_sortedT (hu : X.A.units + 66 < cLine) : CallR X (.builtin "sorted") (rC1N X.K dSortedA) := by
  intro pins s σ H vs us Q I r h
  obtain ⟨P, x, dx, d, ev, tr, rx, e, q⟩ := h
  subst ev
  have fin : ∀ {ds : List PyData} {ys : List V} {its : List Value} {a : Addr}, srt ds = true → x = .ref a → d = ds.mergeSort (PySem.W.dataLe false id) → DqA X.K H P ys ds → Vals ys its → ys.length ≤ sizeLine → IsTup s.heap a its.toArray → wpAny (model X.prog X.w) X.A (call (.builtin "sorted") us) (EP X pins σ Q) X.xe s := by
    intro ds ys its a hz ex ed t rv hsz hl
    subst ex ed
    rw [Vals.ref1 r]
    have hal := srt_alk hz
    have cp : ∀ d, d ∈ ds → d.plain = true := fun d hd => pl_plain (alk_pl hal hd)
    have el : its.length = ds.length := by rw [← rv.length, t.length]
    have e1 : PySem.W.EachIs (fun u d => ∃ z, RelV z u ∧ Dq X.K H P z d) its ds := each_of el fun i u d hu hd => by
      obtain ⟨z, h1, h2⟩ := vals_getU rv hu
      obtain ⟨d', h3, h4⟩ := t.getV h1
      rw [hd] at h3; cases h3
      exact ⟨z, h2, h4⟩
    have e2 : PySem.W.EachIs (fun u d => ∃ as, Reads s.heap u (id d) as) its ds := each_of el fun i u d hu hd => by
      obtain ⟨z, h1, h2⟩ := vals_getU rv hu
      obtain ⟨d', h3, h4⟩ := t.getV h1
      rw [hd] at h3; cases h3
      exact Dp.reads I _ _ _ (h4.dp (cp d (List.mem_of_getElem? hd))) h2
    refine sorted_tup_data (enc := id) hl e1 e2 (by rw [List.map_id]; exact fun d hd d' hd' => (alk_all hal).1 d hd d' hd') (by rw [List.map_id]; exact srt_sortable hz) (by rw [← t.length]; exact hsz)
      (fun b hb => by have := pl_depth (alk_pl hal hb); show X.A.units + 2 + b.depth < cLine; omega) fun out hlen ho => ?_
    obtain ⟨vs', hv', hd'⟩ := each_dq ho
    obtain ⟨ep, he'⟩ := PyProof.Rows.sortedAll_at s.heap its out.toArray
    have hf : H (s.heap.objs.size + 1) = none := I.hok.fresh (Nat.le_succ _)
    have hlv : vs'.length ≤ sizeLine := by rw [hv'.length, hlen, ← t.length]; exact hsz
    exact ⟨.ref _, upd H (s.heap.objs.size + 1) (.lst vs'), I.laid (t' := s.toks) (fun _ _ => PyProof.Rows.sortedAll_old) (Nat.le_succ _) ⟨hlv, out, ep, hv', he'⟩, rfl, q _ vs' _ (same_upd hf _) hf upd_same (newDq hf hd')⟩
  unfold dSortedA at e
  split at e
  · exact opF_sorted hu pins s σ H _ us Q I r ⟨P, x, _, d, rfl, tr, rx, e, q⟩
  · rename_i ds
    by_cases hz : srt ds = true
    · rw [if_pos hz] at e; cases e
      obtain ⟨a, ys, rfl, h, t⟩ := rx.tup
      obtain ⟨its, rv, hl, hsz⟩ := I.tuple h
      exact fin hz rfl rfl t rv hsz hl
    · rw [if_neg hz] at e; cases e
  · cases e
@[simp] theorem dSortedA_lst {ds : List PyData} : dSortedA (.list ds) = dSorted (.list ds) := rfl
@[simp] theorem dSortedA_tup {ds : List PyData} : dSortedA (.tuple ds) = dSorted (.list ds) := rfl
end
end TF

/-! TFp.lean -/
set_option Elab.async false
set_option linter.all false
set_option maxRecDepth 100000
/-! TF.p: len(set(t)) of texts, any number of them (the kit's rule for one text, for more) -/
namespace TF
open PySem PySem.Spec PyProof.Rows L2 SS
variable [OK : OwnK]
/-- without what stood before -/
def ddS (l : List Str) : List Str := l.foldl (fun a x => if a.any (· == x) = true then a else a ++ [x]) []
theorem ddS_snoc (l : List Str) (x : Str) : (if (l.any (· == x)) = true then (ddS l).length else (ddS l).length + 1) = (ddS (l ++ [x])).length := by
  have hm : ∀ (l : List Str) (x : Str), (ddS l).any (· == x) = l.any (· == x) := by
    intro l
    unfold ddS
    have gen : ∀ (l a : List Str) (x : Str), (l.foldl (fun a x => if a.any (· == x) = true then a else a ++ [x]) a).any (· == x) = (a.any (· == x) || l.any (· == x)) := by
      intro l
      induction l with
      | nil => intro a x; simp
      | cons y l ih =>
        intro a x
        rw [List.foldl_cons, ih]
        by_cases h : a.any (· == y) = true
        · rw [if_pos h, List.any_cons]
          by_cases e : y = x
          · subst e; rw [h]; simp
          · have : (y == x) = false := beq_eq_false_iff_ne.mpr e
            rw [this, Bool.false_or]
        · rw [if_neg h, List.any_append, List.any_cons, List.any_cons, List.any_nil, Bool.or_false, Bool.or_assoc]
    intro x
    rw [gen]; rfl
  have e : ddS (l ++ [x]) = if (ddS l).any (· == x) = true then ddS l else ddS l ++ [x] := by unfold ddS; rw [List.foldl_append]; rfl
  rw [e, hm]
  by_cases h : l.any (· == x) = true
  · rw [if_pos h, if_pos h]
  · rw [if_neg h, if_neg h, List.length_append]; rfl
theorem ddS_len (l : List Str) : (ddS l).length ≤ l.length := by
  unfold ddS
  have gen : ∀ (l a : List Str), (l.foldl (fun a x => if a.any (· == x) = true then a else a ++ [x]) a).length ≤ a.length + l.length := by
    intro l
    induction l with
    | nil => intro a; simp
    | cons y l ih =>
      intro a
      rw [List.foldl_cons]
      refine Nat.le_trans (ih _) ?_
      split
      · rw [List.length_cons]; omega
      · simp only [List.length_append, List.length_cons, List.length_nil]; omega
  have := gen l []
  simpa using this
section
variable {prog : Program} {w : World} {A : Around} {R : Result → Shared → Prop} {I : Addr} {fp wr : List Addr} {G : Array GenState → Array GenState → Prop} {n : Nat} {P : Nat → Value → Prop} {St : Nat → Shared → Prop}
theorem loopStrs (W : WalksS prog w A.in1 I fp wr G n P St) (S : Addr) (hSf : S ∉ fp) (xs : List Str) (hsz : xs.length = n) (hn1 : n < 60)
    (hval : ∀ i v, P i v → ∃ t, v = .str (xs.getD i Str.empty) t) :
    ∀ (k i : Nat) (s : Shared), n - i = k → i ≤ n → St i s →
      s.heap.SetOf (PySem.strKind prog w) S (fun k' => (xs.take i).any (· == k')) (ddS (xs.take i)).length →
      (∀ s', Moved (S :: wr) G s s' → s'.heap.SetOf (PySem.strKind prog w) S (fun k' => (xs.take n).any (· == k')) (ddS (xs.take n)).length → R (.ok (.ret .none)) s') →
      codeAny (model prog w) A (.builtin "set.update.loop" ⟨[.ref S, .ref I], []⟩) R s := by
  have hSw : S ∉ wr := fun h => hSf (W.sub _ h)
  have hsub : ∀ b ∈ wr, b ∈ S :: wr := fun b hb => List.mem_cons_of_mem _ hb
  intro k
  induction k with
  | zero =>
    intro i s hk hi hst hS hR
    have hin : i = n := by omega
    subst hin
    refine codeAny_builtin PyProof.Rows.F.entry_set_update_loop ?_
    rw [Around.under_plainId PyProof.Rows.F.plain_set_update_loop _]
    show wpAny _ A.in1 (pyNext (.ref I) >>= _) _ _ s
    refine wpAny_bind (W.done s _ _ hst fun s' hm => ?_)
    show wpAny _ A.in1 (ret Value.none) _ _ s'
    exact wpAny_pure (hR s' (hm.mono hsub) (by
      obtain ⟨o, es, ep, t, ho, rest⟩ := hS
      exact ⟨o, es, ep, t, hm.heap S _ hSw ho, rest⟩))
  | succ k ih =>
    intro i s hk hi hst hS hR
    have hlt : i < n := by omega
    have hroom : (ddS (xs.take i)).length + 1 < scanBound := by have := ddS_len (xs.take i); rw [List.length_take] at this; unfold scanBound; omega
    refine codeAny_builtin PyProof.Rows.F.entry_set_update_loop ?_
    rw [Around.under_plainId PyProof.Rows.F.plain_set_update_loop _]
    show wpAny _ A.in1 (pyNext (.ref I) >>= _) _ _ s
    refine wpAny_bind (W.item i s _ _ hlt hst fun v s' hP hst' hm => ?_)
    obtain ⟨t, rfl⟩ := hval i v hP
    have hS' : s'.heap.SetOf (PySem.strKind prog w) S (fun k' => (xs.take i).any (· == k')) (ddS (xs.take i)).length := by
      obtain ⟨o, es, ep, tb, ho, rest⟩ := hS
      exact ⟨o, es, ep, tb, hm.heap S _ hSw ho, rest⟩
    show wpAny _ A.in1 (holding [Value.str (xs.getD i Str.empty) t] (setAdd S (.str (xs.getD i Str.empty) t)) >>= _) _ _ s'
    refine wpAny_bind (wpAny_holding ?_)
    unfold setAdd
    refine wpAny_holding ?_
    refine wpAny_bind ((PySem.strKind prog w).pyHash (k := xs.getD i Str.empty) (strKind_is _ _ _ _) ?_)
    refine wpAny_setAddHashed_of (knd := PySem.strKind prog w) (s := { s' with toks := s'.toks + 1 }) (strKind_is _ _ _ _) rfl hS' hroom fun h' hsb hS2 => ?_
    have hSi : h'.SetOf (PySem.strKind prog w) S (fun k' => (xs.take (i + 1)).any (· == k')) (ddS (xs.take (i + 1))).length := by
      have hx : xs[i]? = some (xs.getD i Str.empty) := by
        rw [List.getD_eq_getElem?_getD, List.getElem?_eq_getElem (by omega)]; rfl
      have et : xs.take (i + 1) = xs.take i ++ [xs.getD i Str.empty] := by rw [List.take_add_one, hx]; rfl
      refine PyProof.Rows.SetOf_congr hS2 (fun k' => ?_) ?_
      · rw [et, List.any_append]
        congr 1
        by_cases e : k' = xs.getD i Str.empty
        · rw [e]; simp
        · have hb : (xs.getD i Str.empty == k') = false := by simpa [beq_iff_eq] using (fun h' : xs.getD i Str.empty = k' => e h'.symm)
          rw [decide_eq_false e, List.any_cons, List.any_nil, hb]; rfl
      · rw [et, ddS_snoc]
    refine wpAny_pure ⟨plainId_quiet PyProof.Rows.F.plain_set_update_loop _, ih (i + 1) _ (by omega) hlt (W.frame _ s' _ _ hst' (Nat.le_succ _) fun b hb o e => ?_) hSi fun s'' hm'' hS'' => ?_⟩
    · rw [hsb.2 b (fun h : b = S => hSf (by rw [← h]; exact hb))]; exact e
    · refine hR s'' (Moved.trans W.gtrans ((hm.mono hsub).then_heap (Nat.le_succ _) fun b o hb e => ?_) hm'') hS''
      rw [hsb.2 b (fun h : b = S => hb (by rw [h]; exact List.mem_cons_self))]; exact e
end

section
variable {prog : Program} {w : World} {A : Around} {E : Value → Shared → Prop} {s : Shared}
set_option maxHeartbeats 3200000 in
theorem call_set_tupS {l : Addr} {items : Array Value} {xs : List Str} {Q : Value → Shared → Prop}
    (hh : A.handled = none) (hl : s.heap.IsTuple l items) (hi : PyProof.Rows.StrsAre items.toList xs) (hn1 : xs.length < 60)
    (h : ∀ (h' : Heap) (tk : Nat), h'.SetOf (PySem.strKind prog w) s.heap.objs.size (fun k' => (xs.take items.size).any (· == k')) (ddS (xs.take items.size)).length →
      (∀ b o, b < s.heap.objs.size → s.heap.get? b = some o → h'.get? b = some o) → Q (.ref s.heap.objs.size) { s with heap := h', toks := tk }) :
    wpAny (model prog w) A (call (.type "set") [.ref l]) Q E s := by
  obtain ⟨c, tl, hmro⟩ := PySem.F.called_set.mro
  have hmade := PySem.F.called_set.made
  have hsub := PySem.F.called_set.sub
  refine wpAny_call (codeAny_of_tree ?_)
  show wpAny _ _ (callAny (.type "set") _) _ _ _
  refine wpAny_pure ⟨Code.quiet_builtin _ (by decide +kernel), codeAny_builtin PySem.F.entry_type_call ?_⟩
  rw [Around.under_plain (weight_type_call_type "set" [.ref l] []) rfl]
  have h1 := PySem.F.called_set.notType
  have h2 := PySem.F.called_set.canCreate
  have hct := PySem.F.typeCall_set_1 (.ref l)
  repeat (any_goals (first | assumption | wp_step))

  refine codeAny_mono (code_set_new_1 (.ref l) (E := E) (Q₁ := fun obj s₁ => ∃ led : Bool, obj = .ref s.heap.objs.size ∧ s₁ = { s with heap := s.heap.push { cls := .type "set", dict := none, data := .set #[] 0 (.fresh 0 0 led) } }) fun led => ⟨led, rfl, rfl⟩) fun r s₁ hr => ?_
  cases r with
  | error e => exact hr
  | ok fl =>
    cases fl with
    | ret obj =>
      obtain ⟨led, rfl, rfl⟩ := hr
      have hS : (s.heap.push { cls := .type "set", dict := none, data := .set #[] 0 (.fresh 0 0 led) }).get? s.heap.objs.size = some { cls := .type "set", dict := none, data := .set #[] 0 (.fresh 0 0 led) } := Heap.get?_push_size _ rfl
      have hT : Shared.TypeIs { s with heap := s.heap.push { cls := .type "set", dict := none, data := .set #[] 0 (.fresh 0 0 led) } } (.ref s.heap.objs.size) "set" := ⟨_, hS, rfl⟩
      have hli := PySem.F.called_set.init.lookup
      have hbi := PySem.F.called_set.init.bind (.ref s.heap.objs.size)
      repeat (any_goals (first | assumption | wp_step))

      refine codeAny_mono (codeAny_call_builtin (R := wants (fun r s₂ => r = .none ∧ ∃ h' tk, s₂ = { s with heap := h', toks := tk } ∧
          h'.SetOf (PySem.strKind prog w) s.heap.objs.size (fun k' => (xs.take items.size).any (· == k')) (ddS (xs.take items.size)).length ∧
          (∀ b o, b < s.heap.objs.size → s.heap.get? b = some o → h'.get? b = some o)) E) PySem.F.called_set.init.plain PySem.F.entry_set_init (check_set_init_1 hT ?_)) fun r₂ s₂ hr₂ => ?_
      · obtain ⟨ol, hol, hcl, nl, hdl⟩ := hl
        obtain ⟨ocls, odict, odata, oslots⟩ := ol
        simp only at hcl hdl
        subst hcl; subst hdl
        have hol' : (s.heap.push { cls := .type "set", dict := none, data := .set #[] 0 (.fresh 0 0 led) }).get? l = some { cls := .type "tuple", dict := odict, data := .seq items nl, slots := oslots } := Heap.get?_push_of_some _ hol
        have hsls := PySem.F.sub_tuple_set
        have hslf := PySem.F.sub_tuple_frozenset
        have hne : (Value.type "tuple" == Value.type "dict") = false := by decide
        have hl1 : (s.heap.push { cls := .type "set", dict := none, data := .set #[] 0 (.fresh 0 0 led) }).IsTuple l items := ⟨_, hol', rfl, nl, rfl⟩
        unfold Builtin.«set.__init__» noKeywords Builtin.Frozenset.updateFrom
        generalize hPI : pyIter = PI
        wp_walk
        subst hPI

        refine wpAny_pyIter_tuple hl1 ?_
        refine wpAny_bind (wpAny_runValue ?_)
        have hlS : l < s.heap.objs.size := Heap.lt_size hol
        have hh3 : A.in1.in1.in1.handled = none := by simp [hh]
        have hneI : l ≠ (s.heap.push { cls := .type "set", dict := none, data := .set #[] 0 (.fresh 0 0 led) }).objs.size := by
          rw [Heap.size_push]; exact Nat.ne_of_lt (Nat.lt_succ_of_lt hlS)
        have hSf : s.heap.objs.size ∉ [(s.heap.push { cls := .type "set", dict := none, data := .set #[] 0 (.fresh 0 0 led) }).objs.size, l] := by
          rw [Heap.size_push]; simp only [List.mem_cons, List.mem_singleton, List.not_mem_nil, or_false, not_or]
          exact ⟨Nat.ne_of_lt (Nat.lt_succ_self _), Nat.ne_of_gt hlS⟩
        have hsz : xs.length = items.size := by rw [← StrsAre.len_eq hi, Array.length_toList]
        have hval : ∀ (i : Nat) (v : Value), items[i]? = some v → ∃ t, v = .str (xs.getD i Str.empty) t := fun i v hv => strs_at hi i v (by rw [Array.getElem?_toList]; exact hv)
        refine loopStrs ((Walks.tuple hh3 _ l hneI items).toS) s.heap.objs.size
          hSf xs hsz (by rw [← hsz]; exact hn1) hval (items.size - 0) 0 _ (by omega) (Nat.zero_le _)
          ⟨⟨_, Heap.get?_push_size _ rfl, rfl, rfl⟩, (hl1.push _)⟩ ?hS0 ?hR
        case hS0 =>
          have hget : ((s.heap.push { cls := .type "set", dict := none, data := .set #[] 0 (.fresh 0 0 led) }).push { cls := .type "tuple_iterator", data := .fields #[.ref l, .int 0 0] }).get? s.heap.objs.size
              = some { cls := .type "set", dict := none, data := .set #[] 0 (.fresh 0 0 led) } := Heap.get?_push_of_some _ hS
          exact PyProof.Rows.SetOf_congr ((PyProof.Rows.setObjOf_fresh (knd := PySem.strKind prog w) led).setOf hget (by unfold scanBound; omega)) (fun _ => rfl) rfl
        case hR =>
          intro s' hm hS'
          obtain ⟨h', g', d', tk', os'⟩ := s'
          have eg : g' = s.gens := hm.gens
          have ed : d' = s.drawn := hm.drawn
          have eo : os' = s.os := hm.os
          subst eg; subst ed; subst eo
          show wpAny _ _ _ _ _ _
          refine wpAny_pure ?_
          show wpAny _ _ (ret Value.none) _ _ _
          refine wpAny_pure ⟨rfl, h', tk', rfl, hS', fun b o hb e => ?_⟩
          have hb1 : b ≠ s.heap.objs.size := Nat.ne_of_lt hb
          have hb2 : b ≠ (s.heap.push { cls := .type "set", dict := none, data := .set #[] 0 (.fresh 0 0 led) }).objs.size := by
            rw [Heap.size_push]; exact Nat.ne_of_lt (Nat.lt_succ_of_lt hb)
          exact hm.heap b o (by simp only [List.mem_cons, List.mem_singleton, List.not_mem_nil, or_false, not_or]; exact ⟨hb1, hb2⟩) (Heap.get?_push_of_some _ (Heap.get?_push_of_some _ e))

      · cases r₂ with
        | error e => exact hr₂
        | ok fl₂ =>
          cases fl₂ with
          | ret r =>
            obtain ⟨rfl, h', tk, rfl, hS', hk'⟩ := hr₂
            repeat (any_goals (first | assumption | wp_step))
            exact h _ _ hS' hk'
          | _ => exact hr₂.elim
    | _ => exact hr.elim

end
section
variable {X : Cx} {o : List Nat} {a : Expr} {f : Rho → Option PyData} {pos : Pos}
def tLenSetT (K : PySem.W.Frag) (ta : TE) : TE := fun σ H Q => ta σ H fun x H1 => ∃ l, ∃ xs : List Str, x = .ref l ∧ SqT K H1 l (xs.map V.str) ∧ xs.length < 60 ∧ Q (.int (ddS xs).length) H1
theorem pe_lenSetT {ta : TE} {p p2 q : Pos} (hc : X.calm = true) (hg : Gl X "len") (hm : X.mg "len" = none) (hg2 : Gl X "set") (hm2 : X.mg "set" = none) (ha : PE X a ta)
    (na : starEach [a] X.env = (false, eval a X.env) :: starEach [] X.env := by rfl) : PE X (.Call (.Name "len" p) [.Call (.Name "set" p2) [a] [] q] [] pos) (tLenSetT X.K ta) := by
  refine ⟨fun pins s σ H Q I h => ?_⟩
  refine Call_ (ld_blt I hg hm boot_len ?_)
  refine PyProof.Rows.callWith_builtin1 (PyProof.Rows.args_cons ?_ rfl) rfl rfl
  refine Call_ (ld_blt I hg2 hm2 boot_set ?_)
  refine PyProof.Rows.callWith_type1 (PyProof.Rows.args_cons (thn (ha.run pins s σ H _ I h) fun v s1 ⟨x, H1, I1, r1, q1⟩ => PyProof.Rows.args_nil ?_) na) na rfl
  obtain ⟨l, xs, rfl, hq, h1, q1⟩ := q1
  cases r1
  obtain ⟨its, r, pl, hz⟩ := I1.tuple hq
  refine call_set_tupS (I1.ok.hd hc) pl (by simpa using strsAre_of r) h1 fun h' tk hS hk => ?_
  refine PyProof.Rows.args_nil ?_
  have hl : its.toArray.size = xs.length := by rw [List.size_toArray, ← r.length, List.length_map]
  rw [hl, List.take_length] at hS
  obtain ⟨o, es, ep, t, ho, hex, hd, _, _, _, hf, hn⟩ := hS
  have I2 : Inv X pins σ H1 { s1 with heap := h', toks := tk } := I1.kept fun b o e => hk b o (Heap.lt_size e) e
  have := ddS_len xs
  refine call_len_set ho hex hd hf (by rw [hn] <;> omega) ⟨.int (ddS xs).length, H1, I2.tok _, ⟨_, by rw [hn]⟩, q1⟩
def dLenSet : PyData → Option PyData
  | .tuple ds => (strsD ds).bind fun ys => if ys.length < 60 then some (.int (ddS ys).length) else none
  | _ => none
theorem ev_lenSet {p p2 q : Pos} (hc : X.calm = true) (hm : X.mg "len" = none) (hm2 : X.mg "set" = none) (ha : ER X o a f) (hg : Gl X "len" := by rfl) (hg2 : Gl X "set" := by rfl)
    (na : starEach [a] X.env = (false, eval a X.env) :: starEach [] X.env := by rfl) : EV X o (.Call (.Name "len" p) [.Call (.Name "set" p2) [a] [] q] [] pos) (e1 f dLenSet) := PE.imp (pe_lenSetT hc hg hm hg2 hm2 ha na) fun σ H Q ⟨H0, P0, P, ρ, d, R, e', q⟩ => by
  obtain ⟨x, ef, eg⟩ := e1_some e'
  unfold dLenSet at eg
  split at eg
  · rename_i ds
    cases e3 : strsD ds with
    | none => rw [e3] at eg; cases eg
    | some ys =>
    rw [e3] at eg
    simp only [Option.bind_some] at eg
    by_cases hz : ys.length < 60
    · rw [if_pos hz] at eg; cases eg
      refine ⟨H0, P0, P, ρ, _, R, ef, fun v H1 s1 r1 => ?_⟩
      obtain ⟨p, vs, rfl, h, t⟩ := r1.tup
      rw [strsD_rel t e3] at h
      exact ⟨p, ys, rfl, h, hz, q _ H1 s1 (.int _)⟩
    · rw [if_neg hz] at eg; cases eg
  · cases eg
end
end TF

/-! TFq.lean -/
set_option Elab.async false
set_option linter.all false
set_option maxRecDepth 100000
/-! TF.q: isinstance, all, any, {..}.get, t * n -/
namespace TF
open PySem PySem.Spec PyProof.Rows L2
variable [OK : OwnK]
section
variable {X : Cx} {o : List Nat} {e a b : Expr} {f fa fb : Rho → Option PyData} {pos : Pos}
/-! ### isinstance(x, T) -/
def tyN : PyData → Option String
  | .none => some "NoneType"
  | .bool _ => some "bool"
  | .int _ => some "int"
  | .str _ => some "str"
  | .list _ => some "list"
  | .tuple _ => some "tuple"
  | .dict _ => none
theorem Dr.tyX {K : PySem.W.Frag} {H : Hp} {P : Addr → Prop} {v : V} {d : PyData} {n : String} (h : Dr K H P v d) (e : tyN d = some n) : TyX K H v (.type n) := by
  cases d with
  | none => cases e; rw [h.non]; exact .base .non
  | bool b => cases e; rw [h.bl]; exact .base (.bl b)
  | int i => cases e; rw [h.int]; exact .base (.int i)
  | str x => cases e; rw [h.str]; exact .base (.str x)
  | list ds => cases e; obtain ⟨a, xs, rfl, hl, _⟩ := h.lst; exact .base (.lst hl)
  | tuple ds =>
    cases e
    cases h.tupQ with
    | tup hx _ _ => exact .fTuple hx
  | dict _ => cases e
def dIsa (T : String) (d : PyData) : Option PyData := (tyN d).bind fun n => (kitB n T).map PyData.bool
theorem ev_isa {T : String} {x : Str} {p q : Pos} (hm : X.mg "isinstance" = none) (hmT : X.mg x = none) (hv : bootBuiltins x = some (.type T)) (ha : ER X o a f) (hg : Gl X "isinstance" := by rfl) (hgT : Gl X x := by rfl)
    (hn : x ≠ "__name__" := by decide) (hd : (x == ("__debug__" : Str)) = false := by decide)
    (he : starEach [a, .Name x q] X.env = (false, eval a X.env) :: starEach [.Name x q] X.env := by rfl) (hs : starEach [.Name x q] X.env = (false, eval (.Name x q) X.env) :: starEach [] X.env := by rfl) (hpl : (backTo pos (starEach [.Name x q] X.env)).any (·.1) = false := by rfl) :
    EV X o (.Call (.Name "isinstance" p) [a, .Name x q] [] pos) (e1 f (dIsa T)) :=
  PE.imp (pe_callB call_isi hg hm (by decide +kernel) (pa_cons ha (pa_cons (pe_bltn (v := .ty T) hgT hmT hv rfl hn hd) pa_nil hs) he) (by decide) (by decide) he hpl) fun σ H Q ⟨H0, P0, P, ρ, d, R, e', q⟩ => by
    obtain ⟨y, ef, eg⟩ := e1_some e'
    unfold dIsa at eg
    cases et : tyN y with
    | none => rw [et] at eg; cases eg
    | some n =>
    rw [et] at eg
    simp only [Option.bind_some] at eg
    cases ek : kitB n T with
    | none => rw [ek] at eg; cases eg
    | some c =>
    rw [ek] at eg; cases eg
    exact ⟨H0, P0, P, ρ, y, R, ef, fun v H1 s1 r1 => ⟨v, .ty T, .type n, .type T, c, rfl, .ty T, r1.tyX et, kit_ty ek, q _ H1 s1 (.bl c)⟩⟩
/-! ### all, any of truths -/
def boolsD : List PyData → Option (List Bool)
  | [] => some []
  | .bool x :: r => (boolsD r).map (x :: ·)
  | _ :: _ => none
theorem boolsD_rel {K : PySem.W.Frag} {H : Hp} {P : Addr → Prop} : ∀ {vs : List V} {ds : List PyData} {ys : List Bool}, DqA K H P vs ds → boolsD ds = some ys → vs = ys.map V.bl
  | _, _, ys, .nil, e => by cases e; rfl
  | _, _, ys, .cons (d := d) h t, e => by
    cases d with
    | bool x =>
      unfold boolsD at e
      cases er : boolsD _ with
      | none => rw [er] at e; cases e
      | some r =>
        rw [er] at e
        cases e
        cases h
        rw [boolsD_rel t er, List.map_cons]
    | _ => cases e
theorem boolsD_map (ns : List Bool) : boolsD (ns.map PyData.bool) = some ns := by
  induction ns with
  | nil => rfl
  | cons n r ih => simp only [List.map_cons, boolsD, ih]; rfl
def dAll : PyData → Option PyData
  | .list ds => (boolsD ds).map fun ns => .bool (ns.all id)
  | _ => none
def dAny : PyData → Option PyData
  | .list ds => (boolsD ds).map fun ns => .bool (ns.any id)
  | _ => none
theorem opF_all (hc : X.calm = true) : CallR X (.builtin "all") (rC1 X.K dAll) := CallR.imp (cr_all hc) fun vs H Q ⟨P, x, dx, d, ev, tr, rx, e, q⟩ => by
  subst ev
  unfold dAll at e
  split at e
  · rename_i ds
    cases ei : boolsD ds with
    | none => rw [ei] at e; cases e
    | some ns =>
      rw [ei] at e; cases e
      obtain ⟨a, xs, rfl, h, t⟩ := rx.lst
      rw [boolsD_rel t ei] at h
      exact ⟨a, ns, rfl, SqL.of h, q _ H (Same.refl H) (.bl _)⟩
  · cases e
theorem opF_any (hc : X.calm = true) : CallR X (.builtin "any") (rC1 X.K dAny) := CallR.imp (cr_any hc) fun vs H Q ⟨P, x, dx, d, ev, tr, rx, e, q⟩ => by
  subst ev
  unfold dAny at e
  split at e
  · rename_i ds
    cases ei : boolsD ds with
    | none => rw [ei] at e; cases e
    | some ns =>
      rw [ei] at e; cases e
      obtain ⟨a, xs, rfl, h, t⟩ := rx.lst
      rw [boolsD_rel t ei] at h
      exact ⟨a, ns, rfl, SqL.of h, q _ H (Same.refl H) (.bl _)⟩
  · cases e
/-! ### {..}.get(k, d) of texts and whole numbers -/
def kvsI (ps : List (Str × Int)) : List (Key × V) := ps.map fun p => (Sum.inr p.1, V.int p.2)
def trsI (ps : List (Str × Int)) : List (TE × TE) := ps.map fun p => (tC (.str p.1), tC (.int p.2))
theorem tPairs_I : ∀ (ps : List (Str × Int)) (σ : St) (H : Hp) (Q : List (V × V) → Hp → Prop), Q (ps.map fun p => (V.str p.1, V.int p.2)) H → tPairs (trsI ps) σ H Q
  | [], _, _, _, q => q
  | p :: ps, σ, H, Q, q => by
    show tPairs (trsI ps) σ H fun xs H3 => Q ((V.str p.1, V.int p.2) :: xs) H3
    exact tPairs_I ps σ H _ q
def dGetI (ps : List (Str × Int)) (d : Int) : PyData → Option PyData
  | .str z => match valV (mergeK [] (kvsI ps)) (Sum.inr z) with
    | some (.int i) => some (.int i)
    | none => some (.int d)
    | _ => none
  | _ => none
theorem hu1 {k : Nat} {A : Around} (hr : Room k A) : A.units + 1 < cLine := by have := hr.un; omega
theorem same_upd2 {H : Hp} {p : Addr} (h : H p = none) (u u' : HO) : Same H (upd (upd H p u) p u') := fun b w q => by
  rw [upd_ne (ne_of_none q h), upd_ne (ne_of_none q h)]; exact q
theorem ev_dget {ps : List (Str × Int)} {d : Int} {j : Nat} {dpos apos cpos cp : Pos} {keys : List (Option Expr)} {values : List Expr} (hu : X.A.units + 1 < cLine) (hp : PPs X dpos keys values (trsI ps)) (hall : keys.all (·.isSome) = true) (hl : keys.length = values.length) (h0 : keys ≠ []) (h15 : keys.length ≤ 15) (hps : ps.length ≤ 15)
    (he : ER X o b fb) (m : M2 X (.Dict keys values dpos) "get" apos b (.Constant (.int d) j cp) cpos) :
    EV X o (.Call (.Attribute (.Dict keys values dpos) "get" apos) [b, .Constant (.int d) j cp] [] cpos) (e1 fb (dGetI ps d)) := PE.imp (pe_dget2 hu (pe_disp hp hall hl h0 h15) he pe_int m) fun σ H Q ⟨H0, P0, P, ρ, r, R, e', q⟩ => by
  obtain ⟨y, ef, eg⟩ := e1_some e'
  unfold dGetI at eg
  split at eg
  · rename_i z
    intro p hn
    refine tPairs_I ps σ _ _ ⟨upd_same, kvsI ps, by unfold kvsI; rw [List.map_map]; rfl, by unfold kvsI; rw [List.length_map]; exact hps, p, rfl, .inl ⟨_, .inl upd_same⟩, ?_⟩
    have s1 := same_upd2 hn (.dK []) (.dK (mergeK [] (kvsI ps)))
    refine ⟨H0, P0, P, ρ, _, R.go s1, ef, fun v H2 s2 r2 => ?_⟩
    rw [r2.str]
    have h2 : H2 p = some (.dK (mergeK [] (kvsI ps))) := s2 _ _ upd_same
    refine ⟨_, .inl ⟨_, .inr z, .inl h2, rfl, rfl⟩, ?_⟩
    have sT := s1.trans s2
    split at eg
    · rename_i i hv
      cases eg
      rw [hv]
      exact q _ H2 sT (.int _)
    · rename_i hv
      cases eg
      rw [hv]
      exact q _ H2 sT (.int _)
    · cases eg
  · cases eg
/-! ### t * n -/
theorem tuple_mul1 (l : Addr) (items : Array Value) (n : Nat) (dd : Option Addr) (sl : Array (Option Value)) (u : Tok) :
    Meets (Builtin.«tuple.__mul__» ⟨[.ref l, .int 1 u], []⟩) (fun _ R s => s.heap.get? l = some { cls := .type "tuple", dict := dd, data := .seq items n, slots := sl } ∧
      R (.ok (.ret (Value.ref l))) s) :=
  .of_wp fun prog w A R s h => by
    obtain ⟨hp, g, d, tk, os⟩ := s
    obtain ⟨hl, h⟩ := h
    have f1 := AutoSeq1.idx_int
    wp_walk using wpAny_loadPart' hl
    exact ⟨_, rfl, h⟩
theorem tuple_mul0 (l : Addr) (items : Array Value) (n : Nat) (dd : Option Addr) (sl : Array (Option Value)) (u : Tok) (he : items.isEmpty = false) :
    Meets (Builtin.«tuple.__mul__» ⟨[.ref l, .int 0 u], []⟩) (fun _ R s => s.heap.get? l = some { cls := .type "tuple", dict := dd, data := .seq items n, slots := sl } ∧
      R (.ok (.ret (Value.ref s.heap.objs.size))) { s with heap := s.heap.push { cls := Value.type "tuple", data := Data.seq #[] } }) :=
  .of_wp fun prog w A R s h => by
    obtain ⟨hp, g, d, tk, os⟩ := s
    obtain ⟨hl, h⟩ := h
    have f1 := AutoSeq1.idx_int
    have c1 : (items.isEmpty || (0 : Int) == 1) = false := by rw [he]; decide
    have c2 : (decide ((0 : Int) ≤ 0) || items.isEmpty) = true := by simp
    wp_walk using wpAny_loadPart' hl
    repeat (first
      | (refine wpAny_ite_false (decide_eq_false (by rw [c1]; exact Bool.false_ne_true)) ?_; wp_walk using wpAny_loadPart' hl)
      | (refine wpAny_ite_true (decide_eq_true (by rw [c2])) ?_; wp_walk using wpAny_loadPart' hl))
    exact ⟨_, rfl, h⟩
def rRepF (K : PySem.W.Frag) : R2 := fun x y H Q => ∃ l k xs, x = .ref l ∧ y = .int k ∧ SqT K H l xs ∧ xs ≠ [] ∧ 0 ≤ k ∧ k ≤ 1000 ∧ xs.length ≤ 1000 ∧ (k = 1 → Q (.ref l) H) ∧ (k ≠ 1 → ∀ p its, H p = none → Q (.ref p) (upd H p (fz its (List.replicate k.toNat xs).flatten)))
theorem op_repF : OpR X (binaryOp .Mult) (rRepF X.K) := by
  intro pins s σ H x y v u Q I rx ry h
  obtain ⟨l, k, xs, rfl, rfl, hT, hne, h1, h2, hz, q1, q⟩ := h
  cases rx
  obtain ⟨t, rfl⟩ := ry
  obtain ⟨its, r, ⟨⟨cls, dd, data, sl⟩, ho, hc, n, hd⟩, hs⟩ := I.tuple hT
  simp only at hc hd
  subst hc hd
  have hle : its.length = xs.length := r.length.symm
  have hn : its ≠ [] := fun e => hne (by
    rw [e] at hle
    exact List.eq_nil_of_length_eq_zero hle.symm)
  have hi : its.toArray.isEmpty = false := by
    cases its with
    | nil => exact absurd rfl hn
    | cons a b => rfl
  by_cases hk1 : k = 1
  · subst hk1
    refine wpAny_binaryOp_repeat_ref (T := "tuple") (U := "int") (by decide) ⟨_, ho, rfl⟩ (fun s' => typeIs_int s' 1 t) noFill_tuple_mul PySem.F.fills_int_mul PySem.F.slot_int_rmul repeat_tuple PySem.F.slot_int_index.lookup
      (call_meets PySem.F.slot_int_rmul (typeIs_int s 1 t) PySem.F.entry_int_rmul (PySem.F.args_int_rmul_2 _ _) (int_rmul_tuple 1 t l its.toArray n dd sl)
        ⟨ho, rfl, ⟨_, ho, rfl⟩, call_meets PySem.F.slot_tuple_mul ⟨_, ho, rfl⟩ PySem.F.entry_tuple_mul (PySem.F.args_tuple_mul_2 _ _) (tuple_mul1 l its.toArray n dd sl t) ⟨ho, ?_⟩⟩)
    exact ⟨.ref l, H, I, rfl, q1 rfl⟩
  · by_cases hk0 : k = 0
    · subst hk0
      refine wpAny_binaryOp_repeat_ref (T := "tuple") (U := "int") (by decide) ⟨_, ho, rfl⟩ (fun s' => typeIs_int s' 0 t) noFill_tuple_mul PySem.F.fills_int_mul PySem.F.slot_int_rmul repeat_tuple PySem.F.slot_int_index.lookup
        (call_meets PySem.F.slot_int_rmul (typeIs_int s 0 t) PySem.F.entry_int_rmul (PySem.F.args_int_rmul_2 _ _) (int_rmul_tuple 0 t l its.toArray n dd sl)
          ⟨ho, rfl, ⟨_, ho, rfl⟩, call_meets PySem.F.slot_tuple_mul ⟨_, ho, rfl⟩ PySem.F.entry_tuple_mul (PySem.F.args_tuple_mul_2 _ _) (tuple_mul0 l its.toArray n dd sl t hi) ⟨ho, ?_⟩⟩)
      exact ⟨.ref s.heap.objs.size, _, I.laid (t' := s.toks) (fun b ob q => Heap.get?_push_of_some _ q) (Nat.le_refl _) (fz_ok (its := []) (xs := (List.replicate (0 : Int).toNat xs).flatten) .nil (Nat.zero_le _) (Heap.get?_push_size _ rfl)), rfl, q hk1 _ _ (I.hok.fresh (Nat.le_refl _))⟩
    · have h1' : 2 ≤ k := by omega
      have hsz0 : its.toArray.size = xs.length := by rw [List.size_toArray, hle]
      have hm : ((its.toArray.size : Nat) : Int) * k ≤ 1000000 := by
        rw [hsz0]
        have a1 : ((xs.length : Nat) : Int) * k ≤ 1000 * k := Int.mul_le_mul_of_nonneg_right (by omega) (by omega)
        omega
      have flen : (List.replicate k.toNat its).flatten.length ≤ sizeLine := by
        rw [PyProof.Rows.lm_len_rep_flat, hle, sizeLine_eq]
        have a1 : k.toNat * xs.length ≤ 1000 * 1000 := Nat.mul_le_mul (by omega) hz
        omega
      have c0 : (decide (k < -(2 ^ 63)) || decide (k ≥ 2 ^ 63)) = false := by
        rw [decide_eq_false (by omega), decide_eq_false (by omega)] <;> rfl
      have c1 : (its.toArray.isEmpty || k == 1) = false := by
        rw [hi, Bool.false_or]
        exact beq_eq_false_iff_ne.mpr (by omega)
      have c2 : (decide (k ≤ 0) || its.toArray.isEmpty) = false := by
        rw [hi, Bool.or_false]
        exact decide_eq_false (by omega)
      have c4 : Builtin.Tuple.tupleTooMany (((its.toArray.size : Nat) : Int) * k) = false := by
        unfold Builtin.Tuple.tupleTooMany
        rw [sizeLine_eq]
        exact decide_eq_false (by omega)
      refine wpAny_binaryOp_repeat_ref (T := "tuple") (U := "int") (by decide) ⟨_, ho, rfl⟩ (fun s' => typeIs_int s' k t) noFill_tuple_mul PySem.F.fills_int_mul PySem.F.slot_int_rmul repeat_tuple PySem.F.slot_int_index.lookup
        (call_meets PySem.F.slot_int_rmul (typeIs_int s k t) PySem.F.entry_int_rmul (PySem.F.args_int_rmul_2 _ _) (int_rmul_tuple k t l its.toArray n dd sl)
          ⟨ho, rfl, ⟨_, ho, rfl⟩, call_meets PySem.F.slot_tuple_mul ⟨_, ho, rfl⟩ PySem.F.entry_tuple_mul (PySem.F.args_tuple_mul_2 _ _) (tuple_mulW l its.toArray n dd sl k t c0 c1 c2 (by omega) c4 (by rw [size_rep, List.size_toArray]; exact flen)) ⟨ho, ?_⟩⟩)
      rw [size_rep]
      exact ⟨.ref s.heap.objs.size, _, I.laid (t' := s.toks) (fun b ob q => Heap.get?_push_of_some _ q) (Nat.le_refl _) (fz_ok (r.rep k.toNat) (by rw [PyProof.Rows.lm_len_rep_flat, sizeLine_eq]; have a1 : k.toNat * xs.length ≤ 1000 * 1000 := Nat.mul_le_mul (by omega) hz; omega) (Heap.get?_push_size _ rfl)), rfl, q hk1 _ _ (I.hok.fresh (Nat.le_refl _))⟩
def dMulB : PyData → PyData → Option PyData
  | .tuple xs, .int k => if xs ≠ [] ∧ 0 ≤ k ∧ k ≤ 1000 ∧ xs.length ≤ 1000 then some (.tuple (List.replicate k.toNat xs).flatten) else none
  | x, y => dMul x y
theorem opF_mulB : OpR X (binaryOp .Mult) (rF X.K dMulB) := OpR.imp (OpR.or (opF_mul (X := X)) op_repF) fun x y H Q ⟨P, dx, dy, d, tr, rx, ry, e, q⟩ => by
  have np : ∀ {p : Addr}, H p = none → ¬ P p := fun h z => by obtain ⟨u, hu⟩ := tr _ z; rw [h] at hu; cases hu
  unfold dMulB at e
  split at e
  · rename_i xs k
    by_cases hz : xs ≠ [] ∧ 0 ≤ k ∧ k ≤ 1000 ∧ xs.length ≤ 1000
    · rw [if_pos hz] at e; cases e
      have qx := rx.tupQ
      obtain ⟨a, us, rfl, h, t⟩ := rx.tup
      refine .inr ⟨a, k, us, rfl, ry.int, h, fun z => hz.1 (t.nil_iff.mp z), hz.2.1, hz.2.2.1, by rw [t.length]; exact hz.2.2.2, fun hk => ?_, fun _ p its hp => q _ _ (same_upd hp _) (.tup upd_same (np hp) ((t.rep k.toNat).same (same_upd hp _)))⟩
      subst hk
      have e1 : (List.replicate (1 : Int).toNat xs).flatten = xs := by simp
      rw [e1] at q
      exact q _ H (Same.refl H) qx
    · rw [if_neg hz] at e; cases e
  · exact .inl ⟨P, _, _, d, tr, rx, ry, e, q⟩
@[simp] theorem dMulB_tup {xs : List PyData} {k : Int} : dMulB (.tuple xs) (.int k) = if xs ≠ [] ∧ 0 ≤ k ∧ k ≤ 1000 ∧ xs.length ≤ 1000 then some (.tuple (List.replicate k.toNat xs).flatten) else none := rfl
end
end TF

/-! TFr.lean -/
set_option Elab.async false
set_option linter.all false
set_option maxRecDepth 100000
/-! TF.r: nested tuples of texts as keys of a dict -/
namespace TF
open PySem PySem.Spec PyProof.Rows L2
mutual
/-- nested tuples of texts -/
def NTx : PyData → Prop
  | .str _ => True
  | .tuple ds => NTxs ds
  | _ => False
def NTxs : List PyData → Prop
  | [] => True
  | d :: ds => NTx d ∧ NTxs ds
end
mutual
def nk : PyData → NestedKey
  | .str x => .text x
  | .tuple ds => .tup (nks ds)
  | _ => .none
def nks : List PyData → List NestedKey
  | [] => []
  | d :: ds => nk d :: nks ds
end
mutual
theorem nk_is {K : PySem.W.Frag} {H : Hp} {h : Heap} {Pr : Addr → Prop} (ok : ∀ a its xs, H a = some (fz its xs) → Vals xs its ∧ h.get? a = some (tobj its)) :
    ∀ {d : PyData} {v : V} {u : Value}, NTx d → Dq K H Pr v d → RelV v u → NestedIs h (nk d) u
  | .str x, _, _, _, .str _, r => by
    obtain ⟨t, rfl⟩ := r
    exact .text x t
  | .tuple ds, _, _, n, .tup (a := a) (its := its) e _ t, r => by
    cases r
    obtain ⟨rv, ho⟩ := ok _ _ _ e
    rw [nk]
    refine .tup (n := 0) ho rfl rfl ?_
    exact nks_is ok (by rw [NTx] at n; exact n) t (by simpa using rv)
theorem nks_is {K : PySem.W.Frag} {H : Hp} {h : Heap} {Pr : Addr → Prop} (ok : ∀ a its xs, H a = some (fz its xs) → Vals xs its ∧ h.get? a = some (tobj its)) :
    ∀ {ds : List PyData} {vs : List V} {us : List Value}, NTxs ds → DqA K H Pr vs ds → Vals vs us → NestedAll h (nks ds) us
  | [], _, _, _, .nil, r => by
    cases r
    exact .nil
  | d :: ds, _, _, n, .cons t ts, r => by
    cases r with
    | cons r1 r2 =>
      rw [NTxs] at n
      exact .cons (nk_is ok n.1 t r1) (nks_is ok n.2 ts r2)
end
mutual
theorem nk_inj : ∀ {a b : PyData}, NTx a → NTx b → nk a = nk b → a = b
  | .str x, .str y, _, _, h => by rw [nk, nk] at h; injection h with h; rw [h]
  | .str x, .tuple ds, _, _, h => by rw [nk, nk] at h; cases h
  | .tuple ds, .str x, _, _, h => by rw [nk, nk] at h; cases h
  | .tuple ds, .tuple es, n, m, h => by
    rw [nk, nk] at h
    injection h with h
    rw [NTx] at n m
    rw [nks_inj n m h]
theorem nks_inj : ∀ {as bs : List PyData}, NTxs as → NTxs bs → nks as = nks bs → as = bs
  | [], [], _, _, _ => rfl
  | [], b :: bs, _, _, h => by rw [nks, nks] at h; cases h
  | a :: as, [], _, _, h => by rw [nks, nks] at h; cases h
  | a :: as, b :: bs, n, m, h => by
    rw [nks, nks] at h
    injection h with h1 h2
    rw [NTxs] at n m
    rw [nk_inj n.1 m.1 h1, nks_inj n.2 m.2 h2]
end
/-- a dict's cell: the object alone -/
def rawK (P : Program) (w : World) (a : Addr) (xs : List (NestedKey × Addr × Value)) : HO :=
  .ext fun h => ∃ o es ep, h.get? a = some o ∧ o.ExactDict ∧ o.data = .dict es ep ∧ es.toList = xs.map (entryOfKey (nestedKind P w))
theorem rawK_ok {P : Program} {w : World} {H : Hp} {h : Heap} {a : Addr} {xs : List (NestedKey × Addr × Value)} (x : h.DictOfH (nestedKind P w) a xs) : ObjOk P w H h a (rawK P w a xs) := by
  obtain ⟨o, es, ep, h1, h2, h3, h4, _⟩ := x
  refine ⟨⟨o, es, ep, h1, h2, h3, h4⟩, ⟨o, h1⟩, ?_⟩
  intro g1 g2 ⟨o', es', ep', k1, k2⟩ e
  exact ⟨o', es', ep', e _ k1, k2⟩
/-- what stands beside it -/
def xsOf (ds : List PyData) (bs : List Addr) : List (NestedKey × Addr × Value) := (ds.zip bs).map fun p => (nk p.1, p.2, Value.bool true)
theorem rawK_get {P : Program} {w : World} {H : Hp} {h : Heap} {a : Addr} {xs : List (NestedKey × Addr × Value)} (x : ObjOk P w H h a (rawK P w a xs)) (hk : ∀ x ∈ xs, (nestedKind P w).is h x.1 x.2.1) (hn : (xs.map (·.1)).Nodup) : h.DictOfH (nestedKind P w) a xs := by
  obtain ⟨⟨o, es, ep, h1, h2, h3, h4⟩, _⟩ := x
  exact ⟨o, es, ep, h1, h2, h3, h4, hk, hn⟩
end TF

/-! TFs.lean -/
set_option Elab.async false
set_option linter.all false
set_option maxRecDepth 100000
/-! TF.s: objects of one's own, methods, what may raise -/
namespace TF
open PySem PySem.Spec PyProof.Rows L2

/-! ### an object, as data -/
def unF : List (PyData × PyData) → List (Str × PyData)
  | (.str x, d) :: r => (x, d) :: unF r
  | _ => []
def ob (c : Str) (fs : List (Str × PyData)) : PyData := spc ((.str c, .none) :: fs.map fun p => (.str p.1, p.2))
def asOb : PyData → Option (Str × List (Str × PyData))
  | .dict ((.str _, .none) :: (.str c, .none) :: r) => some (c, unF r)
  | _ => none
theorem unF_map : ∀ fs : List (Str × PyData), unF (fs.map fun p => (PyData.str p.1, p.2)) = fs
  | [] => rfl
  | (x, d) :: r => by
    show (x, d) :: unF (r.map fun p => (PyData.str p.1, p.2)) = _
    rw [unF_map r]
@[simp] theorem asOb_ob (c : Str) (fs : List (Str × PyData)) : asOb (ob c fs) = some (c, fs) := by
  show some (c, unF (fs.map fun p => (PyData.str p.1, p.2))) = _
  rw [unF_map]
theorem ob_inj {c c' : Str} {fs fs' : List (Str × PyData)} (h : ob c fs = ob c' fs') : c = c' ∧ fs = fs' := by
  have e := congrArg asOb h
  rw [asOb_ob, asOb_ob] at e
  cases e
  exact ⟨rfl, rfl⟩
def putD (f : Str) (v : PyData) : List (Str × PyData) → List (Str × PyData)
  | [] => [(f, v)]
  | (g, x) :: r => if g = f then (g, v) :: r else (g, x) :: putD f v r
/-- a dict, by its keys -/
def dc (ks : List PyData) : PyData := spc [(.none, .list ks)]
theorem ob_dc {c : Str} {fs : List (Str × PyData)} {ks : List PyData} : ob c fs ≠ dc ks := fun h => by
  simp [ob, dc, spc] at h
/-- what is one's own: objects of the classes of the text, dicts -/
@[reducible] def mkO (P : Program) (w : World) (mg : Str → Option Value) (pin : Addr → HO → Prop) (rk : List Nat) : OwnK where
  G := fun a u vs ds x => pin a u ∧ ((∃ c C dx ns, mg c = some (.ref C) ∧ u = .ins C dx (List.zip ns vs) ∧ ns.length = vs.length ∧ ns.length = ds.length ∧ spc x = ob c (List.zip ns ds) ∧ ns.length ≤ 100) ∨
    (∃ bs, u = rawK P w a (xsOf ds bs) ∧ vs = bs.map V.ref ∧ spc x = dc ds ∧ NTxs ds ∧ ds.Nodup))
  rk := rk
  T := []
  nc := fun _ n => absurd rfl n
abbrev mkA (P : Program) (w : World) (mg : Str → Option Value) : OwnK := mkO P w mg (fun _ _ => True) []
section
variable {P : Program} {w : World} {mg : Str → Option Value} {pin pin' : Addr → HO → Prop} {rk rk' : List Nat} {K : PySem.W.Frag} {H : Hp} {Pr : Addr → Prop} {a : Addr} {u : HO} {d : PyData}
theorem ow_any (h : @Ow (mkO P w mg pin rk) K H Pr a u d) : @Ow (mkA P w mg) K H Pr a u d := by
  obtain ⟨vs, ds, g, t⟩ := h
  refine ⟨vs, ds, ?_, t⟩
  cases g with
  | lst => exact @Gk.lst (mkA P w mg) a vs ds
  | @ext _ _ _ x g => exact @Gk.ext (mkA P w mg) a u vs ds x ⟨trivial, g.2⟩
theorem ow_pin (h : @Ow (mkA P w mg) K H Pr a u d) (hp : pin a u) : @Ow (mkO P w mg pin rk) K H Pr a u d := by
  obtain ⟨vs, ds, g, t⟩ := h
  refine ⟨vs, ds, ?_, t⟩
  cases g with
  | lst => exact @Gk.lst (mkO P w mg pin rk) a vs ds
  | @ext _ _ _ x g => exact @Gk.ext (mkO P w mg pin rk) a u vs ds x ⟨hp, g.2⟩
theorem ow_isP {c : Str} {fs : List (Str × PyData)} (h : @Ow (mkO P w mg pin rk) K H Pr a u (ob c fs)) : pin a u := by
  obtain ⟨vs, ds, g, t⟩ := @Ow.ext (mkO P w mg pin rk) K H Pr a u _ h
  exact g.1
theorem asOb_some {d : PyData} {c : Str} {fs : List (Str × PyData)} (h : asOb d = some (c, fs)) (o : @Ow (mkO P w mg pin rk) K H Pr a u d) : d = ob c fs := by
  obtain ⟨vs, ds, g, t⟩ := o
  cases g with
  | lst => cases h
  | ext g =>
    rcases g.2 with ⟨c', C, dx, ns, h1, h2, h3, h4, h5, _⟩ | ⟨bs, h1, h2, h3, _⟩
    · rw [h5, asOb_ob] at h
      cases h
      exact h5
    · rw [h3] at h; cases h
/-- an object, apart -/
theorem ow_ob {c : Str} {fs : List (Str × PyData)} (h : @Ow (mkO P w mg pin rk) K H Pr a u (ob c fs)) : pin a u ∧ ∃ C dx ns vs ds, mg c = some (.ref C) ∧ u = .ins C dx (List.zip ns vs) ∧ ns.length = vs.length ∧ fs = List.zip ns ds ∧ ns.length = ds.length ∧ ns.length ≤ 100 ∧ DqA K H Pr vs ds := by
  obtain ⟨vs, ds, g, t⟩ := @Ow.ext (mkO P w mg pin rk) K H Pr a u _ h
  rcases g.2 with ⟨c', C, dx, ns, h1, h2, h3, h4, h5, h6⟩ | ⟨bs, h1, h2, h3, _⟩
  · have h5 : ob c fs = ob c' (List.zip ns ds) := h5
    obtain ⟨rfl, rfl⟩ := ob_inj h5
    exact ⟨g.1, C, dx, ns, vs, ds, h1, h2, h3, rfl, h4, h6, t⟩
  · exact absurd h3 ob_dc
theorem ow_mk {c : Str} {C dx : Addr} {ns : List Str} {vs : List V} {ds : List PyData} (hc : mg c = some (.ref C)) (h1 : ns.length = vs.length) (h2 : ns.length = ds.length) (h3 : ns.length ≤ 100) (t : DqA K H Pr vs ds) (hp : pin a (.ins C dx (List.zip ns vs))) :
    @Ow (mkO P w mg pin rk) K H Pr a (.ins C dx (List.zip ns vs)) (ob c (List.zip ns ds)) :=
  ⟨vs, ds, @Gk.ext (mkO P w mg pin rk) a _ vs ds _ ⟨hp, .inl ⟨c, C, dx, ns, hc, rfl, h1, h2, rfl, h3⟩⟩, t⟩
end
section
variable {P : Program} {w : World} {mg : Str → Option Value} {pin : Addr → HO → Prop} {rk : List Nat} {K : PySem.W.Frag} {H : Hp} {Pr : Addr → Prop} {a : Addr} {u : HO} {d : PyData} [OK : OwnK]
theorem ow_anyX (hO : OK = mkO P w mg pin rk) (h : Ow K H Pr a u d) : @Ow (mkA P w mg) K H Pr a u d := by subst hO; exact ow_any h
theorem ow_pinX (hO : OK = mkO P w mg pin rk) (h : @Ow (mkA P w mg) K H Pr a u d) (hp : pin a u) : Ow K H Pr a u d := by subst hO; exact ow_pin h hp
theorem ow_isPX (hO : OK = mkO P w mg pin rk) {c : Str} {fs : List (Str × PyData)} (h : Ow K H Pr a u (ob c fs)) : pin a u := by subst hO; exact ow_isP h
theorem asOb_someX (hO : OK = mkO P w mg pin rk) {d : PyData} {c : Str} {fs : List (Str × PyData)} (h : asOb d = some (c, fs)) (o : Ow K H Pr a u d) : d = ob c fs := by subst hO; exact asOb_some h o
theorem ow_obX (hO : OK = mkO P w mg pin rk) {c : Str} {fs : List (Str × PyData)} (h : Ow K H Pr a u (ob c fs)) : pin a u ∧ ∃ C dx ns vs ds, mg c = some (.ref C) ∧ u = .ins C dx (List.zip ns vs) ∧ ns.length = vs.length ∧ fs = List.zip ns ds ∧ ns.length = ds.length ∧ ns.length ≤ 100 ∧ DqA K H Pr vs ds := by subst hO; exact ow_ob h
theorem ow_mkX (hO : OK = mkO P w mg pin rk) {c : Str} {C dx : Addr} {ns : List Str} {vs : List V} {ds : List PyData} (hc : mg c = some (.ref C)) (h1 : ns.length = vs.length) (h2 : ns.length = ds.length) (h3 : ns.length ≤ 100) (t : DqA K H Pr vs ds) (hp : pin a (.ins C dx (List.zip ns vs))) :
    Ow K H Pr a (.ins C dx (List.zip ns vs)) (ob c (List.zip ns ds)) := by subst hO; exact ow_mk hc h1 h2 h3 t hp
theorem rk_of (hO : OK = mkO P w mg pin rk) : OK.rk = rk := by subst hO; rfl
theorem T_of (hO : OK = mkO P w mg pin rk) : OK.T = [] := by subst hO; rfl
end
theorem zip_lookup {K : PySem.W.Frag} {H : Hp} {Pr : Addr → Prop} {f : Str} : ∀ {ns : List Str} {vs : List V} {ds : List PyData} {d : PyData}, DqA K H Pr vs ds → (List.zip ns ds).lookup f = some d → ∃ v, (List.zip ns vs).lookup f = some v ∧ Dq K H Pr v d
  | [], _, _, _, _, h => by simp at h
  | n :: ns, _, _, _, .nil, h => by simp at h
  | n :: ns, v :: vs, d :: ds, e, .cons h t, q => by
    simp only [List.zip_cons_cons, List.lookup] at q ⊢
    split at q
    · cases q; exact ⟨v, rfl, h⟩
    · exact zip_lookup t q
theorem zip_none {f : Str} : ∀ {ns : List Str} {vs : List V} {ds : List PyData}, ns.length = vs.length → ns.length = ds.length → (List.zip ns ds).lookup f = none → (List.zip ns vs).lookup f = none
  | [], _, _, _, _, _ => by simp
  | n :: ns, v :: vs, d :: ds, h1, h2, q => by
    simp only [List.zip_cons_cons, List.lookup] at q ⊢
    cases hb : f == n with
    | true => rw [hb] at q; cases q
    | false =>
      rw [hb] at q
      exact zip_none (ns := ns) (vs := vs) (ds := ds) (by simpa using h1) (by simpa using h2) q
theorem zip_put {K : PySem.W.Frag} {H : Hp} {Pr : Addr → Prop} {f : Str} {v : V} {d : PyData} (hv : Dq K H Pr v d) : ∀ {ns : List Str} {vs : List V} {ds : List PyData}, ns.length = vs.length → ns.length = ds.length → DqA K H Pr vs ds →
    ∃ ns' vs' ds', putF f v (List.zip ns vs) = List.zip ns' vs' ∧ putD f d (List.zip ns ds) = List.zip ns' ds' ∧ ns'.length = vs'.length ∧ ns'.length = ds'.length ∧ ns'.length ≤ ns.length + 1 ∧ DqA K H Pr vs' ds'
  | [], [], [], _, _, _ => ⟨[f], [v], [d], rfl, rfl, rfl, rfl, Nat.le_refl _, .cons hv .nil⟩
  | n :: ns, v0 :: vs, d0 :: ds, h1, h2, .cons h t => by
    simp only [List.zip_cons_cons, putF, putD]
    by_cases e : n = f
    · rw [if_pos e, if_pos e]
      exact ⟨n :: ns, v :: vs, d :: ds, rfl, rfl, by simpa using h1, by simpa using h2, by simp, .cons hv t⟩
    · rw [if_neg e, if_neg e]
      obtain ⟨ns', vs', ds', a1, a2, a3, a4, a5, a6⟩ := zip_put hv (by simpa using h1) (by simpa using h2) t
      exact ⟨n :: ns', v0 :: vs', d0 :: ds', by rw [a1]; rfl, by rw [a2]; rfl, by simp [a3], by simp [a4], by simp; omega, .cons h a6⟩

section
variable [OK : OwnK] {K : PySem.W.Frag} {H0 H H' : Hp} {P0 P : Addr → Prop} {o : List Nat} {σ : St} {ρ : Rho}
/-- what stands at a is another one now, told by d' -/
theorem Rel.putX (R : Rel K H0 P0 H P o σ ρ) {i : Nat} (hi : i ∈ o) {a : Addr} {u' : HO} {d' : PyData} (ha : σ[i]? = some (some (.ref a))) (hx : ∀ b w, b ≠ a → H b = some w → H' b = some w) (hu : H' a = some u') (t : Ow K H' P a u' d') :
    Rel K H0 P0 H' P o σ (ρ.set i (some d')) ∧ Lt H P H' P := by
  obtain ⟨b, w, d, h1, h2, h3, h4, h5, h6⟩ := R.own i hi
  rw [ha] at h1
  cases h1
  have lt : Lt H P H' P := fun c u h n _ => ⟨hx c u (fun z => n (by rw [z]; exact h3)) h, n⟩
  have hl : i < ρ.length := (List.getElem?_eq_some_iff.mp h2).1
  refine ⟨⟨R.sub, R.tr0, fun c h => ?_, fun c u h => hx c u (fun z => by rw [z, h4] at h; cases h) (R.same c u h), fun j hj => ?_, R.dis, fun j e hj h => ?_, by rw [List.length_set, R.len], tabs_put R.tab h5 h6 hx, fun n => ⟨(R.tp n).1, fun c z ps q => ?_⟩⟩, lt⟩
  · by_cases hc : c = a
    · subst hc; exact ⟨_, hu⟩
    · obtain ⟨u, q⟩ := R.tr c h
      exact ⟨u, hx c u hc q⟩
  · by_cases hji : j = i
    · subst hji
      exact ⟨a, u', d', ha, List.getElem?_set_self hl, h3, h4, hu, t⟩
    · obtain ⟨c, u2, d2, g1, g2, g3, g4, g5, g6⟩ := R.own j hj
      exact ⟨c, u2, d2, g1, (set_get hji).trans g2, g3, g4, hx c u2 (R.dis j i c a hj hi hji g1 ha) g5, g6.mono lt⟩
  · have hji : j ≠ i := fun z => hj (z ▸ hi)
    rw [set_get hji] at h
    obtain ⟨v, g1, g2⟩ := R.dat j e hj h
    exact ⟨v, g1, g2.mono lt⟩
  · by_cases hc : c = a
    · subst hc; rw [hu] at q; cases q; exact (t.nc n).2 ps rfl
    · obtain ⟨w, hw⟩ := R.tr c z
      have := hx c w hc hw
      rw [q] at this; cases this
      exact (R.tp n).2 c z ps hw
end

/-! ### what is told of a deed that may change things of one's own, and may raise -/
inductive Rz where
  | ok (d : PyData) (ρ : Rho) | ex (x : Str)
inductive Rzs where
  | ok (ds : List PyData) (ρ : Rho) | ex (x : Str)
inductive Rm where
  | ok (d y : PyData) | ex (x : Str)
inductive Rf where
  | ok (d : PyData) | ex (x : Str)
section
variable [OK : OwnK]
def tM (X : Cx) (o : List Nat) (f : Rho → Option Rz) : TE := fun σ H Q => ∃ H0 P0 P ρ r, Rel X.K H0 P0 H P o σ ρ ∧ f ρ = some r ∧ match r with
  | .ok d ρ' => ∀ v H', Rel X.K H0 P0 H' P o σ ρ' → Lt H P H' P → Dq X.K H' P v d → Q v H'
  | .ex x => ∀ C H', X.mg x = some (.ref C) → Same H0 H' → ExX X (.ref C) none H'
def tMs (X : Cx) (o : List Nat) (f : Rho → Option Rzs) : TA := fun σ H Q => ∃ H0 P0 P ρ r, Rel X.K H0 P0 H P o σ ρ ∧ f ρ = some r ∧ match r with
  | .ok ds ρ' => ∀ vs H', Rel X.K H0 P0 H' P o σ ρ' → Lt H P H' P → DqA X.K H' P vs ds → Q vs H'
  | .ex x => ∀ C H', X.mg x = some (.ref C) → Same H0 H' → ExX X (.ref C) none H'
/-- a new list -/
def tMN (X : Cx) (o : List Nat) (f : Rho → Option Rzs) : TE := fun σ H Q => ∃ H0 P0 P ρ r, Rel X.K H0 P0 H P o σ ρ ∧ f ρ = some r ∧ match r with
  | .ok ds ρ' => ∀ p xs H1 H', Rel X.K H0 P0 H1 P o σ ρ' → Lt H P H1 P → Same H1 H' → H1 p = none → H' p = some (.lst xs) → DqA X.K H' (fun a => a = p ∨ P a) xs ds → Q (.ref p) H'
  | .ex x => ∀ C H', X.mg x = some (.ref C) → Same H0 H' → ExX X (.ref C) none H'
abbrev EM (X : Cx) (o : List Nat) (e : Expr) (f : Rho → Option Rz) : Prop := PE X e (tM X o f)
abbrev EMA (X : Cx) (o : List Nat) (es : List Expr) (f : Rho → Option Rzs) : Prop := PA X es (tMs X o f)
abbrev EMN (X : Cx) (o : List Nat) (e : Expr) (f : Rho → Option Rzs) : Prop := PE X e (tMN X o f)
variable {X : Cx} {o ob' : List Nat} {e a b : Expr} {es : List Expr} {f : Rho → Option PyData} {pos : Pos}
def mE (f : Rho → Option PyData) : Rho → Option Rz := fun ρ => (f ρ).bind fun d => some (.ok d ρ)
theorem em_ev (h : EV X o e f) : EM X o e (mE f) := PE.imp h fun σ H Q ⟨H0, P0, P, ρ, r, R, e, q⟩ => by
  unfold mE at e
  cases ef : f ρ with
  | none => rw [ef] at e; cases e
  | some d =>
    rw [ef] at e; cases e
    exact ⟨H0, P0, P, ρ, d, R, ef, fun v H' s t => q v H' (R.go s) (Lt.same P s) t⟩
def mNil : Rho → Option Rzs := fun ρ => some (.ok [] ρ)
def mCons (f : Rho → Option Rz) (g : Rho → Option Rzs) : Rho → Option Rzs := fun ρ => (f ρ).bind fun r => match r with
  | .ok d ρ1 => (g ρ1).bind fun s => (match s with
    | .ok ds ρ2 => some (.ok (d :: ds) ρ2)
    | .ex x => some (.ex x))
  | .ex x => some (.ex x)
theorem ema_nil : EMA X o [] mNil := PA.imp pa_nil fun σ H Q ⟨H0, P0, P, ρ, r, R, e, q⟩ => by cases e; exact q [] H R (Lt.refl H P) .nil
theorem ema_cons {f : Rho → Option Rz} {g : Rho → Option Rzs} (he : EM X o e f) (h : EMA X o es g) (hs : starEach (e :: es) X.env = (false, eval e X.env) :: starEach es X.env := by rfl) : EMA X o (e :: es) (mCons f g) :=
  PA.imp (pa_cons he h hs) fun σ H Q ⟨H0, P0, P, ρ, r, R, e, q⟩ => by
    unfold mCons at e
    cases ef : f ρ with
    | none => rw [ef] at e; cases e
    | some r1 =>
    rw [ef] at e
    simp only [Option.bind_some] at e
    refine ⟨H0, P0, P, ρ, r1, R, ef, ?_⟩
    cases r1 with
    | ex x => cases e; exact q
    | ok d ρ1 =>
      intro v H1 R1 l1 t1
      have e : ((g ρ1).bind fun s => (match s with
        | .ok ds ρ2 => some (Rzs.ok (d :: ds) ρ2)
        | .ex x => some (.ex x))) = some r := e
      cases eg : g ρ1 with
      | none => rw [eg] at e; cases e
      | some r2 =>
      rw [eg] at e
      refine ⟨H0, P0, P, ρ1, r2, R1, eg, ?_⟩
      cases r2 with
      | ex x => cases e; exact q
      | ok ds ρ2 => cases e; exact fun vs H2 R2 l2 t2 => q _ H2 R2 (l1.trans l2) (.cons (t1.mono l2) t2)
def mTup (g : Rho → Option Rzs) : Rho → Option Rz := fun ρ => (g ρ).bind fun s => match s with
  | .ok ds ρ2 => if ds.length ≤ 1000 then some (.ok (.tuple ds) ρ2) else none
  | .ex x => some (.ex x)
def mLst (g : Rho → Option Rzs) : Rho → Option Rzs := fun ρ => (g ρ).bind fun s => match s with
  | .ok ds ρ2 => if ds.length ≤ 1000 then some (.ok ds ρ2) else none
  | .ex x => some (.ex x)
theorem em_tup {g : Rho → Option Rzs} (h : EMA X o es g) {x1} : EM X o (.Tuple es x1 pos) (mTup g) := PE.imp (pe_tupF h) fun σ H Q ⟨H0, P0, P, ρ, r, R, e, q⟩ => by
  unfold mTup at e
  cases eg : g ρ with
  | none => rw [eg] at e; cases e
  | some s =>
    rw [eg] at e
    refine ⟨H0, P0, P, ρ, s, R, eg, ?_⟩
    cases s with
    | ex x => cases e; exact q
    | ok ds ρ2 =>
      have e : (if ds.length ≤ 1000 then some (Rz.ok (PyData.tuple ds) ρ2) else none) = some r := e
      by_cases hz : ds.length ≤ 1000
      · rw [if_pos hz] at e
        cases e
        refine fun vs H1 R1 l1 r1 => ⟨Nat.le_of_lt (small1000 (by rw [r1.length]; exact hz)), fun p its hp => ?_⟩
        exact q _ _ (R1.go (same_upd hp _)) (l1.trans (Lt.same P (same_upd hp _))) (.tup upd_same (R1.newP hp) (r1.same (same_upd hp _)))
      · rw [if_neg hz] at e; cases e
theorem emn_lst {g : Rho → Option Rzs} (h : EMA X o es g) : EMN X o (.List es pos) (mLst g) := PE.imp (pe_lst h) fun σ H Q ⟨H0, P0, P, ρ, r, R, e, q⟩ => by
  unfold mLst at e
  cases eg : g ρ with
  | none => rw [eg] at e; cases e
  | some s =>
    rw [eg] at e
    refine ⟨H0, P0, P, ρ, s, R, eg, ?_⟩
    cases s with
    | ex x => cases e; exact q
    | ok ds ρ2 =>
      have e : (if ds.length ≤ 1000 then some (Rzs.ok ds ρ2) else none) = some r := e
      by_cases hz : ds.length ≤ 1000
      · rw [if_pos hz] at e
        cases e
        refine fun vs H1 R1 l1 r1 => ⟨Nat.le_of_lt (small1000 (by rw [r1.length]; exact hz)), fun p hp => ?_⟩
        refine q p vs H1 _ R1 l1 (same_upd hp _) hp upd_same (r1.mono fun a u z n _ => ⟨same_upd hp _ a u z, ?_⟩)
        rintro (rfl | z')
        · rw [hp] at z; cases z
        · exact n z'
      · rw [if_neg hz] at e; cases e
/-- two, an operator -/
def mOp (f g : Rho → Option Rz) (k : PyData → PyData → Option PyData) : Rho → Option Rz := fun ρ => (f ρ).bind fun r => match r with
  | .ok x ρ1 => (g ρ1).bind fun s => (match s with
    | .ok y ρ2 => (k x y).bind fun z => some (.ok z ρ2)
    | .ex x => some (.ex x))
  | .ex x => some (.ex x)
def kB (k : PyData → PyData → Option Bool) : PyData → PyData → Option PyData := fun x y => (k x y).map .bool
theorem em_cmp {op : CmpOp} {g : PyData → PyData → Option Bool} {fa fb : Rho → Option Rz} (ho : OpR X (compareOp op) (rFB X.K g)) (ha : EM X o a fa) (hb : EM X o b fb) (hm : behindInMarks op b = false) : EM X o (.Compare a [op] [b] pos) (mOp fa fb (kB g)) :=
  PE.imp (pe_cmpR ho ha hb hm) fun σ H Q ⟨H0, P0, P, ρ, r, R, e, q⟩ => by
    unfold mOp at e
    cases ef : fa ρ with
    | none => rw [ef] at e; cases e
    | some r1 =>
    rw [ef] at e
    simp only [Option.bind_some] at e
    refine ⟨H0, P0, P, ρ, r1, R, ef, ?_⟩
    cases r1 with
    | ex x => cases e; exact q
    | ok x ρ1 =>
      intro v H1 R1 l1 t1
      have e : ((fb ρ1).bind fun s => (match s with
        | .ok y ρ2 => (kB g x y).bind fun z => some (Rz.ok z ρ2)
        | .ex x => some (.ex x))) = some r := e
      cases eg : fb ρ1 with
      | none => rw [eg] at e; cases e
      | some r2 =>
      rw [eg] at e
      refine ⟨H0, P0, P, ρ1, r2, R1, eg, ?_⟩
      cases r2 with
      | ex x => cases e; exact q
      | ok y ρ2 =>
        intro w H2 R2 l2 t2
        have e : ((g x y).map PyData.bool).bind (fun z => some (Rz.ok z ρ2)) = some r := e
        cases ek : g x y with
        | none => rw [ek] at e; cases e
        | some c =>
          rw [ek] at e
          cases e
          exact ⟨P, x, y, c, R2.tr, .inl (t1.mono l2), .inl t2, ek, q _ H2 R2 (l1.trans l2) (.bl c)⟩

/-! ### statements -/
def sSet (i : Nat) (f : Rho → Option Rz) : Rho → Option Fl := fun ρ => (f ρ).bind fun r => match r with
  | .ok d ρ1 => some (.nx (ρ1.set i (some d)))
  | .ex x => some (.ex x)
theorem sm_set (i : Nat) {x : Str} {pos' : Pos} {f : Rho → Option Rz} (hN : X.N.Nodup) (he : EM X o e f) (hi : i ∉ o := by decide) (hx : X.N[i]? = some x := by rfl) (hl : Loc X.env.scope x := by first | exact Or.inl rfl | exact Or.inr rfl) (hs : swapsWith e (some (.Name x pos')) pos.line X.env = pure false := by rfl)
    (hf : X.fn x = true ∨ X.env.scope.names.lookup x = some .local := by first | exact .inl rfl | exact .inr rfl) : SV X o o ob' (.Assign [.Name x pos'] e pos) (sSet i f) := PS.imp (ps_set hN hx hl he hs hf) fun D σ H ⟨H0, P0, P, ρ, fl, R, e, q⟩ => by
  unfold sSet at e
  cases ef : f ρ with
  | none => rw [ef] at e; cases e
  | some r =>
    rw [ef] at e
    refine ⟨H0, P0, P, ρ, r, R, ef, ?_⟩
    cases r with
    | ex x => cases e; exact q
    | ok d ρ1 => cases e; exact fun v H' R1 l1 t1 => q _ H' P (R1.set hi t1) l1
def sOwn (i : Nat) (f : Rho → Option Rzs) : Rho → Option Fl := fun ρ => (f ρ).bind fun r => match r with
  | .ok ds ρ1 => if i < ρ1.length then some (.nx (ρ1.set i (some (.list ds)))) else none
  | .ex x => some (.ex x)
theorem sm_own (i : Nat) {x : Str} {pos' : Pos} {f : Rho → Option Rzs} (hN : X.N.Nodup) (he : EMN X o e f) (hi : i ∉ o := by decide) (hx : X.N[i]? = some x := by rfl) (hl : Loc X.env.scope x := by first | exact Or.inl rfl | exact Or.inr rfl) (hs : swapsWith e (some (.Name x pos')) pos.line X.env = pure false := by rfl)
    (hf : X.fn x = true ∨ X.env.scope.names.lookup x = some .local := by first | exact .inl rfl | exact .inr rfl) : SV X o (i :: o) ob' (.Assign [.Name x pos'] e pos) (sOwn i f) := PS.imp (ps_set hN hx hl he hs hf) fun D σ H ⟨H0, P0, P, ρ, fl, R, e, q⟩ => by
  unfold sOwn at e
  cases ef : f ρ with
  | none => rw [ef] at e; cases e
  | some r =>
    rw [ef] at e
    refine ⟨H0, P0, P, ρ, r, R, ef, ?_⟩
    cases r with
    | ex x => cases e; exact q
    | ok ds ρ1 =>
      have e : (if i < ρ1.length then some (Fl.nx (ρ1.set i (some (.list ds)))) else none) = some fl := e
      by_cases hl : i < ρ1.length
      · rw [if_pos hl] at e
        cases e
        intro p xs H1 H' R1 l1 s n hp t
        obtain ⟨R', l⟩ := R1.take hi hl s n hp (.ofLst t)
        exact q _ H' _ R' (l1.trans l)
      · rw [if_neg hl] at e; cases e
def sExp (f : Rho → Option Rz) : Rho → Option Fl := fun ρ => (f ρ).bind fun r => match r with
  | .ok _ ρ1 => some (.nx ρ1)
  | .ex x => some (.ex x)
theorem sm_exp {f : Rho → Option Rz} (he : EM X o e f) (hsw : swapsWith e none pos.line X.env = pure false := by rfl) : SV X o o ob' (.Expr e pos) (sExp f) := PS.imp (ps_expr he hsw) fun D σ H ⟨H0, P0, P, ρ, fl, R, e, q⟩ => by
  unfold sExp at e
  cases ef : f ρ with
  | none => rw [ef] at e; cases e
  | some r =>
    rw [ef] at e
    refine ⟨H0, P0, P, ρ, r, R, ef, ?_⟩
    cases r with
    | ex x => cases e; exact q
    | ok d ρ1 => cases e; exact fun v H' R1 l1 t1 => q _ H' P R1 l1
/-- return, what is kept besides -/
def sRet (f : Rho → Option Rz) : Rho → Option Fl := fun ρ => (f ρ).bind fun r => match r with
  | .ok d ρ1 => some (.rx d ρ1)
  | .ex x => some (.ex x)
theorem sm_ret {o' : List Nat} {f : Rho → Option Rz} (h : EM X o e f) (hk : ∀ i ∈ OK.rk, i ∈ o := by decide) : SV X o o' ob' (.Return (some e) pos) (sRet f) := PS.imp (ps_ret h) fun D σ H ⟨H0, P0, P, ρ, fl, R, e, q⟩ => by
  unfold sRet at e
  cases ef : f ρ with
  | none => rw [ef] at e; cases e
  | some r =>
    rw [ef] at e
    refine ⟨H0, P0, P, ρ, r, R, ef, ?_⟩
    cases r with
    | ex x => cases e; exact q
    | ok d ρ1 => cases e; exact fun v H' R1 l1 t1 => q v σ H' P o hk R1 t1
def sApp (i : Nat) (f : Rho → Option Rz) : Rho → Option Fl := fun ρ => (f ρ).bind fun r => match r with
  | .ok d ρ1 => (match ρ1.getD i none with
    | some (.list ds) => if ds.length < sizeLine then some (.nx (ρ1.set i (some (.list (ds ++ [d]))))) else none
    | _ => none)
  | .ex x => some (.ex x)
def sAppL (i : Nat) (f : Rho → Option Rz) : Rho → Option Fl := fun ρ => match ρ.getD i none with
  | some (.list _) => sApp i f ρ
  | _ => none
theorem sm_append (i : Nat) {x : Str} {f : Rho → Option Rz} {px apos cpos pos : Pos} (hv : PE X (.Name x px) (tVar i)) (he : EM X o e f) (hi : i ∈ o := by decide)
    (hbase : attributeBase (.Name x px) "append" X.env (eval (.Name x px) X.env) = eval (.Name x px) X.env := by rfl)
    (hfew : ((backTo cpos (starEach [e] X.env)).all (fun x => !x.1) && (backToKw cpos (keywordEach [] X.env)).all (fun x => x.1.isSome)
      && decide (([e] : List Expr).length + ([] : List Keyword).length + (if ([] : List Keyword).isEmpty then 0 else 1) < 30)) = true := by rfl)
    (hline : (apos.endLine == cpos.line) = true := by rfl) (hs : starEach [e] X.env = (false, eval e X.env) :: starEach [] X.env := by rfl) (hplain : (backTo cpos (starEach [] X.env)).any (·.1) = false := by rfl)
    (hsw : swapsWith (.Call (.Attribute (.Name x px) "append" apos) [e] [] cpos) none pos.line X.env = pure false := by rfl) :
    SV X o o ob' (.Expr (.Call (.Attribute (.Name x px) "append" apos) [e] [] cpos) pos) (sAppL i f) :=
  PS.imp (ps_expr (pe_bm PySem.F.plainAttrs_list PySem.F.slot_list_append PySem.F.type_list_append mt_append hv (pa_cons he pa_nil hs) hbase hfew hline hs hplain) hsw) fun D σ H ⟨H0, P0, P, ρ, fl, R, e', q⟩ => by
    obtain ⟨a, u, d0, h1, h2, h3, h4, h5, h6⟩ := R.own i hi
    have eg : ρ.getD i none = some d0 := by rw [List.getD_eq_getElem?_getD, h2] <;> rfl
    unfold sAppL at e'
    rw [eg] at e'
    obtain ⟨ds, rfl⟩ : ∃ ds, d0 = .list ds := by
      cases d0 with
      | list ds => exact ⟨ds, rfl⟩
      | _ => cases e'
    obtain ⟨xs, eu, h7⟩ := h6.lst
    subst eu
    have e' : sApp i f ρ = some fl := e'
    unfold sApp at e'
    cases ef : f ρ with
    | none => rw [ef] at e'; cases e'
    | some r =>
    rw [ef] at e'
    refine ⟨.ref a, h1, .inl ⟨rfl, _, .inl (.inl h5)⟩, H0, P0, P, ρ, r, R, ef, ?_⟩
    cases r with
    | ex x => cases e'; exact q
    | ok d ρ1 =>
      intro v H1 R1 l1 t1
      have e' : (match ρ1.getD i none with
        | some (.list ds) => if ds.length < sizeLine then some (Fl.nx (ρ1.set i (some (.list (ds ++ [d]))))) else none
        | _ => none) = some fl := e'
      obtain ⟨a2, u2, d2, g1, g2, g3, g4, g5, g6⟩ := R1.own i hi
      rw [h1] at g1
      cases g1
      have eg : ρ1.getD i none = some d2 := by rw [List.getD_eq_getElem?_getD, g2] <;> rfl
      rw [eg] at e'
      obtain ⟨ds2, rfl⟩ : ∃ ds, d2 = .list ds := by
        cases d2 with
        | list ds => exact ⟨ds, rfl⟩
        | _ => cases e'
      obtain ⟨xs2, eu, g7⟩ := g6.lst
      subst eu
      have e' : (if ds2.length < sizeLine then some (Fl.nx (ρ1.set i (some (.list (ds2 ++ [d]))))) else none) = some fl := e'
      by_cases hz : ds2.length < sizeLine
      · rw [if_pos hz] at e'
        cases e'
        refine ⟨a, xs2, v, rfl, rfl, g5, by rw [g7.length]; exact hz, ?_⟩
        obtain ⟨R', l⟩ := R1.put hi h1 (.ofLst (g7.append (.cons t1 .nil)))
        exact q σ _ P R' (l1.trans l)
      · rw [if_neg hz] at e'; cases e'
/-- raise X('m') -/
def sRaise (x : Str) : Rho → Option Fl := fun _ => some (.ex x)
/-- what is known of an exception class of the text -/
structure ExcT (K : PySem.W.Frag) (mg : Str → Option Value) (x : Str) : Prop where
  ex : ∃ C, mg x = some (.ref C) ∧ PySem.W.excIn K C He.veBase "ValueError.__new__" = true ∧ PySem.W.keepIn K (.ref C) = true ∧ PySem.W.subIn K (.ref C) (.type "BaseException") = some true ∧ PySem.W.typeIn K (.ref C) = some (.type "type")
theorem sm_raise {x m : Str} {j : Nat} {p p2 p3 : Pos} {o' : List Nat} (T : ExcT X.K X.mg x) (hc : X.calm = true) (hg : Gl X x := by rfl) (hdb : (x == ("__debug__" : Str)) = false := by decide) :
    SV X o o' ob' (.Raise (some (.Call (.Name x p) [.Constant (.str m) j p2] [] p3)) none pos) (sRaise x) := by
  obtain ⟨C, h1, h2, h3, h4, h5⟩ := T.ex
  refine PS.imp (ps_raise hc takes_wst (pmk_own PySem.F.excBase_ValueError h2 h1 h3 (raises_own h4 h5) hg hdb)) fun D σ H ⟨H0, P0, P, ρ, fl, R, e, q⟩ => ?_
  cases e
  exact q C H h1 R.same σ
end
end TF

/-! TFt.lean -/
set_option Elab.async false
set_option linter.all false
set_option maxRecDepth 100000
/-! TF.t: fields, methods, defs that may raise -/
namespace TF
open PySem PySem.Spec PyProof.Rows L2

/-- what is known of a class of the text -/
structure ClsT (K : PySem.W.Frag) (mg : Str → Option Value) (c f : Str) : Prop where
  ex : ∃ C, mg c = some (.ref C) ∧ Cls K C ∧ NoAttr K C f
section
variable [OK : OwnK] {X : Cx} {o ob' : List Nat} {e : Expr} {es : List Expr} {fe : Rho → Option PyData} {pos : Pos} {pin : Addr → HO → Prop} {rk : List Nat}
/-! ### fields -/
def eFld (i : Nat) (c f : Str) : Rho → Option PyData := fun ρ => (ρ.getD i none).bind fun d => (asOb d).bind fun p => if p.1 = c then p.2.lookup f else none
theorem ev_fld {c f : Str} (hO : OK = mkO X.prog X.w X.mg pin rk) (T : ClsT X.K X.mg c f) (i : Nat) {x : Str} {px : Pos} (hv : PE X (.Name x px) (tVar i)) (hi : i ∈ o := by decide)
    (hb : attributeBase (.Name x px) f X.env (eval (.Name x px) X.env) = eval (.Name x px) X.env := by rfl) : EV X o (.Attribute (.Name x px) f pos) (eFld i c f) := by
  refine PE.imp (pe_fld hv hb) fun σ H Q ⟨H0, P0, P, ρ, d, R, e, q⟩ => ?_
  obtain ⟨C, hc, hC, hn⟩ := T.ex
  obtain ⟨a, u, d0, h1, h2, h3, h4, h5, h6⟩ := R.own i hi
  have eg : ρ.getD i none = some d0 := by rw [List.getD_eq_getElem?_getD, h2] <;> rfl
  unfold eFld at e
  rw [eg] at e
  simp only [Option.bind_some] at e
  cases ea : asOb d0 with
  | none => rw [ea] at e; cases e
  | some p =>
  obtain ⟨c', fs⟩ := p
  rw [ea] at e
  have e2 : (if c' = c then fs.lookup f else none) = some d := e
  clear e
  by_cases hcc : c' = c
  · rw [if_pos hcc] at e2
    subst hcc
    have ed := asOb_someX hO ea h6
    subst ed
    obtain ⟨_, C', dx, ns, vs, ds, g1, rfl, g3, rfl, g5, _, t⟩ := ow_obX hO h6
    rw [hc] at g1
    cases g1
    obtain ⟨v, l, qv⟩ := zip_lookup (ns := ns) t e2
    exact ⟨.ref a, h1, a, C, dx, _, v, rfl, h5, hC, hn, l, q v H (Same.refl H) qv⟩
  · rw [if_neg hcc] at e2; cases e2
def fFld (i : Nat) (c f : Str) (fe : Rho → Option PyData) : Rho → Option Fl := fun ρ => (fe ρ).bind fun v => (ρ.getD i none).bind fun d => (asOb d).bind fun p => if p.1 = c ∧ p.2.length < 50 then some (.nx (ρ.set i (some (.dict ((.str "", .none) :: (.str c, .none) :: (putD f v p.2).map fun p => (.str p.1, p.2)))))) else none
theorem sv_fld {c f : Str} (hO : OK = mkO X.prog X.w X.mg pin rk) (hpin : ∀ a u u', pin a u → pin a u') (T : ClsT X.K X.mg c f) (i : Nat) {x : Str} {px pos' : Pos} (hv : PE X (.Name x px) (tVar i)) (he : EV X o e fe) (hi : i ∈ o := by decide)
    (hs : swapsWith e (some (.Attribute (.Name x px) f pos')) pos.line X.env = pure false := by rfl) : SV X o o ob' (.Assign [.Attribute (.Name x px) f pos'] e pos) (fFld i c f fe) := by
  refine PS.imp (ps_fld hv he hs) fun D σ H ⟨H0, P0, P, ρ, fl, R, e, q⟩ => ?_
  obtain ⟨C, hc, hC, hn⟩ := T.ex
  unfold fFld at e
  cases ee : fe ρ with
  | none => rw [ee] at e; cases e
  | some v =>
  rw [ee] at e
  obtain ⟨a, u, d0, h1, h2, h3, h4, h5, h6⟩ := R.own i hi
  have eg : ρ.getD i none = some d0 := by rw [List.getD_eq_getElem?_getD, h2] <;> rfl
  rw [eg] at e
  simp only [Option.bind_some] at e
  cases ea : asOb d0 with
  | none => rw [ea] at e; cases e
  | some p =>
  obtain ⟨c', fs⟩ := p
  rw [ea] at e
  have e : (if c' = c ∧ fs.length < 50 then some (Fl.nx (ρ.set i (some (ob c (putD f v fs))))) else none) = some fl := e
  by_cases hcc : c' = c ∧ fs.length < 50
  · rw [if_pos hcc] at e
    obtain ⟨hcc, hl⟩ := hcc
    subst hcc
    cases e
    have ed := asOb_someX hO ea h6
    subst ed
    refine ⟨H0, P0, P, ρ, v, R, ee, fun y H1 s1 t1 => ⟨.ref a, h1, ?_⟩⟩
    obtain ⟨hp, C', dx, ns, vs, ds, g1, rfl, g3, rfl, g5, _, t⟩ := ow_obX hO h6
    rw [hc] at g1
    cases g1
    have hz1 : (List.zip ns vs).length = ns.length := by rw [List.length_zip, ← g3, Nat.min_self]
    have hz2 : (List.zip ns ds).length = ns.length := by rw [List.length_zip, ← g5, Nat.min_self]
    rw [hz2] at hl
    refine ⟨a, C, dx, _, rfl, s1 _ _ h5, hC, hn, by rw [hz1]; omega, ?_⟩
    obtain ⟨ns', vs', ds', a1, a2, a3, a4, a5, a6⟩ := zip_put (f := f) t1 g3 g5 (t.same s1)
    rw [a1]
    rw [a2] at q
    obtain ⟨R', l⟩ := (R.go s1).put hi h1 (ow_mkX hO (dx := dx) (a := a) hc a3 a4 (by omega) a6 (hpin _ _ _ hp))
    exact q σ _ P R' ((Lt.same P s1).trans l)
  · rw [if_neg hcc] at e; cases e

end
/-! ### what is promised -/
section
variable (P : Program) (w : World) (K : PySem.W.Frag) (mg : Str → Option Value)
/-- a method that may change its object, and may raise -/
def spM (n : Nat) (m : List PyData → Option Rm) : Sp := fun vs H Q E => vs.length = n + 1 ∧ ∃ (p : Addr) (vs' : List V) (u : HO) (d : PyData) (ds : List PyData) (r : Rm) (Pr : Addr → Prop), vs = .ref p :: vs' ∧ (∀ a, Pr a → ∃ u, H a = some u) ∧ Pr p ∧ H p = some u ∧ @Ow (mkA P w mg) K H Pr p u d ∧ DqA K H Pr vs' ds ∧ m (d :: ds) = some r ∧ match r with
  | .ok e y => ∀ v H' u', (∀ a w, a ≠ p → H a = some w → H' a = some w) → H' p = some u' → @Ow (mkA P w mg) K H' Pr p u' y → Dq K H' Pr v e → Q v H'
  | .ex x => ∀ C H', mg x = some (.ref C) → (∀ a w, a ≠ p → H a = some w → H' a = some w) → E (.ref C) none H'
/-- a method that only reads its object -/
def spP (n : Nat) (m : List PyData → Option PyData) : Sp := fun vs H Q _ => vs.length = n + 1 ∧ ∃ (p : Addr) (vs' : List V) (u : HO) (d : PyData) (ds : List PyData) (e : PyData) (Pr : Addr → Prop), vs = .ref p :: vs' ∧ (∀ a, Pr a → ∃ u, H a = some u) ∧ Pr p ∧ H p = some u ∧ @Ow (mkA P w mg) K H Pr p u d ∧ DqA K H Pr vs' ds ∧ m (d :: ds) = some e ∧
  ∀ v H', Same H H' → Dq K H' Pr v e → Q v H'
/-- a def that may raise -/
def spX (n : Nat) (m : List PyData → Option Rf) : Sp := fun vs H Q E => vs.length = n ∧ ∃ (Pr : Addr → Prop) (ds : List PyData) (r : Rf), (∀ a, Pr a → ∃ u, H a = some u) ∧ DqA K H Pr vs ds ∧ m ds = some r ∧ match r with
  | .ok e => ∀ v H', Same H H' → Dq K H' Pr v e → Q v H'
  | .ex x => ∀ C H', mg x = some (.ref C) → Same H H' → E (.ref C) none H'
variable (base : Heap) (k : Nat)
structure MCallee (c mn : Str) (n : Nat) (m : List PyData → Option Rm) : Prop where
  ex : ∃ (C f : Addr) (fd : FuncData) (ps : List Str), mg c = some (.ref C) ∧ Cls K C ∧ Meth K C mn f ∧ FnOk P w K mg base (L2.CX P w) k f fd ps (spM P w K mg n m) ∧ Binds K fd ps []
structure PCallee (c mn : Str) (n : Nat) (m : List PyData → Option PyData) : Prop where
  ex : ∃ (C f : Addr) (fd : FuncData) (ps : List Str), mg c = some (.ref C) ∧ Cls K C ∧ Meth K C mn f ∧ FnOk P w K mg base CX0 k f fd ps (spP P w K mg n m) ∧ Binds K fd ps []
structure KCallee (c : Str) (n : Nat) (m : List PyData → Option Rm) : Prop where
  ex : ∃ (C f : Addr) (fd : FuncData) (ps : List Str), mg c = some (.ref C) ∧ Mk K C f ∧ FnOk P w K mg base (L2.CX P w) k f fd ps (spM P w K mg n m) ∧ Binds K fd ps []
structure XCallee (x : Str) (n : Nat) (m : List PyData → Option Rf) : Prop where
  ex : ∃ (f : Addr) (fd : FuncData) (ps : List Str), FnOk P w K mg base (L2.CX P w) k f fd ps (spX K mg n m) ∧ mg x = some (.ref f) ∧ PySem.W.keepIn K (.ref f) = true ∧ Binds K fd ps []
end
section
variable {P : Program} {w : World} {K : PySem.W.Frag} {mg : Str → Option Value} {base : Heap} {k k' : Nat}
theorem MCallee.mono {c mn : Str} {n : Nat} {m : List PyData → Option Rm} (h : MCallee P w K mg base k c mn n m) (l : k ≤ k') : MCallee P w K mg base k' c mn n m := by
  obtain ⟨C, f, fd, ps, a, b, c, F, d⟩ := h.ex
  exact ⟨C, f, fd, ps, a, b, c, F.mono l, d⟩
theorem PCallee.mono {c mn : Str} {n : Nat} {m : List PyData → Option PyData} (h : PCallee P w K mg base k c mn n m) (l : k ≤ k') : PCallee P w K mg base k' c mn n m := by
  obtain ⟨C, f, fd, ps, a, b, c, F, d⟩ := h.ex
  exact ⟨C, f, fd, ps, a, b, c, F.mono l, d⟩
theorem KCallee.mono {c : Str} {n : Nat} {m : List PyData → Option Rm} (h : KCallee P w K mg base k c n m) (l : k ≤ k') : KCallee P w K mg base k' c n m := by
  obtain ⟨C, f, fd, ps, a, b, F, d⟩ := h.ex
  exact ⟨C, f, fd, ps, a, b, F.mono l, d⟩
theorem XCallee.mono {x : Str} {n : Nat} {m : List PyData → Option Rf} (h : XCallee P w K mg base k x n m) (l : k ≤ k') : XCallee P w K mg base k' x n m := by
  obtain ⟨f, fd, ps, F, d⟩ := h.ex
  exact ⟨f, fd, ps, F.mono l, d⟩
end
section
variable [OK : OwnK] {X : Cx} {o ob' : List Nat} {e : Expr} {es : List Expr} {fe : Rho → Option PyData} {pos : Pos} {pin : Addr → HO → Prop} {rk : List Nat} {k n : Nat}
/-! ### calls of methods -/
def okOb (c mn : Str) (d : PyData) : Bool := match asOb d with
  | some (c', fs) => decide (c' = c) && (fs.lookup mn).isNone
  | none => false
def mMeth (i : Nat) (c mn : Str) (m : List PyData → Option Rm) (g : Rho → Option (List PyData)) : Rho → Option Rz := fun ρ => (g ρ).bind fun ds => (ρ.getD i none).bind fun d => if okOb c mn d = true then (m (d :: ds)).bind fun r => (match r with
    | .ok e y => some (.ok e (ρ.set i (some y)))
    | .ex x => some (.ex x)) else none
theorem meth_of {C : Addr} {c mn : Str} {m : List PyData → Option Rm} {g : Rho → Option (List PyData)} {i n : Nat} {σ : St} {H : Hp} {Q : VK} (hO : OK = mkO X.prog X.w X.mg pin rk) (hpin : ∀ a u u', pin a u → pin a u') (hc : X.mg c = some (.ref C)) (hi : i ∈ o)
    (hn : ∀ ρ ds, g ρ = some ds → ds.length = n) (h : tM X o (mMeth i c mn m g) σ H Q) : tMeth C mn (spM X.prog X.w X.K X.mg n m) [] (ExX X) (tVar i) (tAs X.K o g) σ H Q := by
  obtain ⟨H0, P0, P, ρ, r, R, e, q⟩ := h
  unfold mMeth at e
  cases eg : g ρ with
  | none => rw [eg] at e; cases e
  | some ds =>
  rw [eg] at e
  obtain ⟨a, u, d0, h1, h2, h3, h4, h5, h6⟩ := R.own i hi
  have ed : ρ.getD i none = some d0 := by rw [List.getD_eq_getElem?_getD, h2] <;> rfl
  rw [ed] at e
  simp only [Option.bind_some] at e
  by_cases hok : okOb c mn d0 = true
  · rw [if_pos hok] at e
    unfold okOb at hok
    cases ea : asOb d0 with
    | none => rw [ea] at hok; cases hok
    | some p =>
    obtain ⟨c', fs⟩ := p
    rw [ea] at hok
    simp only [Bool.and_eq_true, decide_eq_true_eq, Option.isNone_iff_eq_none] at hok
    obtain ⟨rfl, hno⟩ := hok
    have ed0 := asOb_someX hO ea h6
    subst ed0
    obtain ⟨hp, C', dx, ns, vs, ds0, g1, rfl, g3, rfl, g5, _, t⟩ := ow_obX hO h6
    rw [hc] at g1
    cases g1
    refine ⟨.ref a, h1, a, dx, _, rfl, h5, zip_none g3 g5 hno, ?_⟩
    refine ⟨H0, P0, P, ρ, ds, R, eg, fun vs1 H1 s1 t1 => ?_⟩
    cases em : m (ob c' (List.zip ns ds0) :: ds) with
    | none => rw [em] at e; cases e
    | some rm =>
    rw [em] at e
    refine ⟨by simp [t1.length, hn _ _ eg], a, vs1 ++ [], _, _, ds, rm, P, rfl, (R.go s1).tr, h3, s1 _ _ h5, ow_anyX hO (h6.same s1), by rw [List.append_nil]; exact t1, em, ?_⟩
    cases rm with
    | ok y z =>
      cases e
      intro v H' u' hx hu ow dq
      obtain ⟨R', l⟩ := (R.go s1).putX hi h1 hx hu (ow_pinX hO ow (hpin _ _ _ hp))
      exact q v H' R' ((Lt.same P s1).trans l) dq
    | ex x =>
      cases e
      exact fun C2 H' hm hx => q C2 H' hm fun b w hb => hx b w (fun z => by rw [z, h4] at hb; cases hb) (s1 _ _ (R.same _ _ hb))
  · rw [if_neg hok] at e; cases e
theorem em_meth {c mn : Str} {m : List PyData → Option Rm} {g : Rho → Option (List PyData)} {x : Str} {px apos : Pos} {pl : Sem Bool} (hO : OK = mkO X.prog X.w X.mg pin rk) (hpin : ∀ a u u', pin a u → pin a u') (M : MCallee X.prog X.w X.K X.mg X.base k c mn n m) (hr : Room k X.A) (i : Nat) (hv : PE X (.Name x px) (tVar i)) (ha : EA X o (e :: es) g)
    (hn : ∀ ρ ds, g ρ = some ds → ds.length = n) (hi : i ∈ o := by decide)
    (hst : starEach (e :: es) X.env = (false, eval e X.env) :: starEach es X.env := by rfl) (hpl : (backTo pos (starEach es X.env)).any (·.1) = false := by rfl)
    (ht : eval (.Call (.Attribute (.Name x px) mn apos) (e :: es) [] pos) X.env = (do
      let ov ← eval (.Name x px) X.env
      standAt apos.atName
      let (f, first) ← holding [ov] (getMethod ov mn pl)
      callWith pos f first (backTo pos (starEach (e :: es) X.env)) (backToKw pos (keywordEach [] X.env))) := by rfl) : EM X o (.Call (.Attribute (.Name x px) mn apos) (e :: es) [] pos) (mMeth i c mn m g) := by
  obtain ⟨C, f, fd, ps, hc, hC, hm, F, hb⟩ := M.ex
  exact PE.imp (pe_meth hv hC hm F hr hb .nil passes_exX ha hst hpl ht) fun σ H Q h => meth_of hO hpin hc hi hn h
theorem tas_nil {i : Nat} {σ : St} {H : Hp} {C : Addr} {mn : Str} {sp : Sp} {E : XK} {Q : VK} (h : tMeth C mn sp [] E (tVar i) (tAs X.K o aNil) σ H Q) : tMeth C mn sp [] E (tVar i) tNil σ H Q := by
  obtain ⟨v, h1, a, dx, fs, e1, h2, h3, H0, P0, P, ρ, ds, R, e, q⟩ := h
  cases e
  exact ⟨v, h1, a, dx, fs, e1, h2, h3, q [] H (Same.refl H) .nil⟩
theorem em_meth0 {c mn : Str} {m : List PyData → Option Rm} {x : Str} {px apos : Pos} {pl : Sem Bool} (hO : OK = mkO X.prog X.w X.mg pin rk) (hpin : ∀ a u u', pin a u → pin a u') (M : MCallee X.prog X.w X.K X.mg X.base k c mn 0 m) (hr : Room k X.A) (i : Nat) (hv : PE X (.Name x px) (tVar i)) (hi : i ∈ o := by decide)
    (ht : eval (.Call (.Attribute (.Name x px) mn apos) [] [] pos) X.env = (do
      let ov ← eval (.Name x px) X.env
      standAt apos.atName
      let (f, first) ← holding [ov] (getMethod ov mn pl)
      callWith pos f first (backTo pos (starEach [] X.env)) (backToKw pos (keywordEach [] X.env))) := by rfl) : EM X o (.Call (.Attribute (.Name x px) mn apos) [] [] pos) (mMeth i c mn m aNil) := by
  obtain ⟨C, f, fd, ps, hc, hC, hm, F, hb⟩ := M.ex
  exact PE.imp (pe_meth0 hv hC hm F hr hb .nil passes_exX ht) fun σ H Q h => tas_nil (meth_of hO hpin hc hi (fun ρ ds e => by cases e; rfl) h)
/-- a method that only reads -/
def eMeth (i : Nat) (c mn : Str) (m : List PyData → Option PyData) (g : Rho → Option (List PyData)) : Rho → Option PyData := fun ρ => (g ρ).bind fun ds => (ρ.getD i none).bind fun d => if okOb c mn d = true then m (d :: ds) else none
theorem methP_of {C : Addr} {c mn : Str} {m : List PyData → Option PyData} {g : Rho → Option (List PyData)} {i n : Nat} {σ : St} {H : Hp} {Q : VK} (hO : OK = mkO X.prog X.w X.mg pin rk) (hc : X.mg c = some (.ref C)) (hi : i ∈ o)
    (hn : ∀ ρ ds, g ρ = some ds → ds.length = n) (h : tV X.K o (eMeth i c mn m g) σ H Q) : tMeth C mn (spP X.prog X.w X.K X.mg n m) [] E0 (tVar i) (tAs X.K o g) σ H Q := by
  obtain ⟨H0, P0, P, ρ, r, R, e, q⟩ := h
  unfold eMeth at e
  cases eg : g ρ with
  | none => rw [eg] at e; cases e
  | some ds =>
  rw [eg] at e
  obtain ⟨a, u, d0, h1, h2, h3, h4, h5, h6⟩ := R.own i hi
  have ed : ρ.getD i none = some d0 := by rw [List.getD_eq_getElem?_getD, h2] <;> rfl
  rw [ed] at e
  simp only [Option.bind_some] at e
  by_cases hok : okOb c mn d0 = true
  · rw [if_pos hok] at e
    unfold okOb at hok
    cases ea : asOb d0 with
    | none => rw [ea] at hok; cases hok
    | some p =>
    obtain ⟨c', fs⟩ := p
    rw [ea] at hok
    simp only [Bool.and_eq_true, decide_eq_true_eq, Option.isNone_iff_eq_none] at hok
    obtain ⟨rfl, hno⟩ := hok
    have ed0 := asOb_someX hO ea h6
    subst ed0
    obtain ⟨hp, C', dx, ns, vs, ds0, g1, rfl, g3, rfl, g5, _, t⟩ := ow_obX hO h6
    rw [hc] at g1
    cases g1
    refine ⟨.ref a, h1, a, dx, _, rfl, h5, zip_none g3 g5 hno, ?_⟩
    refine ⟨H0, P0, P, ρ, ds, R, eg, fun vs1 H1 s1 t1 => ?_⟩
    exact ⟨by simp [t1.length, hn _ _ eg], a, vs1 ++ [], _, _, ds, r, P, rfl, (R.go s1).tr, h3, s1 _ _ h5, ow_anyX hO (h6.same s1), by rw [List.append_nil]; exact t1, e, fun v H' s t => q v H' (s1.trans s) t⟩
  · rw [if_neg hok] at e; cases e
theorem ev_meth0 {c mn : Str} {m : List PyData → Option PyData} {x : Str} {px apos : Pos} {pl : Sem Bool} (hO : OK = mkO X.prog X.w X.mg pin rk) (M : PCallee X.prog X.w X.K X.mg X.base k c mn 0 m) (hr : Room k X.A) (i : Nat) (hv : PE X (.Name x px) (tVar i)) (hi : i ∈ o := by decide)
    (ht : eval (.Call (.Attribute (.Name x px) mn apos) [] [] pos) X.env = (do
      let ov ← eval (.Name x px) X.env
      standAt apos.atName
      let (f, first) ← holding [ov] (getMethod ov mn pl)
      callWith pos f first (backTo pos (starEach [] X.env)) (backToKw pos (keywordEach [] X.env))) := by rfl) : EV X o (.Call (.Attribute (.Name x px) mn apos) [] [] pos) (eMeth i c mn m aNil) := by
  obtain ⟨C, f, fd, ps, hc, hC, hm, F, hb⟩ := M.ex
  exact PE.imp (pe_meth0 hv hC hm F hr hb .nil pass0 ht) fun σ H Q h => tas_nil (methP_of hO hc hi (fun ρ ds e => by cases e; rfl) h)
/-! ### a def that may raise, called -/
def mFn (n : Nat) (m : List PyData → Option Rf) (g : Rho → Option Rzs) : Rho → Option Rz := fun ρ => (g ρ).bind fun s => match s with
  | .ok ds ρ1 => if ds.length = n then (m ds).bind fun r => (match r with
    | .ok d => some (.ok d ρ1)
    | .ex x => some (.ex x)) else none
  | .ex x => some (.ex x)
theorem em_fn {x : Str} {p : Pos} {m : List PyData → Option Rf} {g : Rho → Option Rzs} (c : XCallee X.prog X.w X.K X.mg X.base k x n m) (hr : Room k X.A)
    (ha : EMA X o (e :: es) g) (hg : Gl X x := by rfl) (hdb : (x == ("__debug__" : Str)) = false := by decide) (he : starEach (e :: es) X.env = (false, eval e X.env) :: starEach es X.env := by rfl) (hpl : (backTo pos (starEach es X.env)).any (·.1) = false := by rfl) :
    EM X o (.Call (.Name x p) (e :: es) [] pos) (mFn n m g) := by
  obtain ⟨f, fd, ps, F, hm, hk, hb⟩ := c.ex
  refine PE.imp (pe_call F hr hg hm hk hb .nil passes_exX ha hdb he hpl) fun σ H Q ⟨H0, P0, P, ρ, r, R, e, q⟩ => ?_
  unfold mFn at e
  cases eg : g ρ with
  | none => rw [eg] at e; cases e
  | some s =>
  rw [eg] at e
  refine ⟨H0, P0, P, ρ, s, R, eg, ?_⟩
  cases s with
  | ex x => cases e; exact q
  | ok ds ρ1 =>
    intro vs H1 R1 l1 t1
    have e : (if ds.length = n then (m ds).bind fun r => (match r with
      | .ok d => some (Rz.ok d ρ1)
      | .ex x => some (.ex x)) else none) = some r := e
    by_cases hn : ds.length = n
    · rw [if_pos hn] at e
      cases em : m ds with
      | none => rw [em] at e; cases e
      | some rm =>
      rw [em] at e
      show spX X.K X.mg n m (vs ++ []) H1 Q (ExX X)
      rw [List.append_nil]
      refine ⟨t1.length.trans hn, P, ds, rm, R1.tr, t1, em, ?_⟩
      cases rm with
      | ok d => cases e; exact fun v H' s t => q v H' (R1.go s) (l1.trans (Lt.same P s)) t
      | ex x => cases e; exact fun C H' hm hs => q C H' hm (R1.same.trans hs)
    · rw [if_neg hn] at e; cases e
/-! ### x = C(..) -/
def fMake (i : Nat) (c : Str) (m : List PyData → Option Rm) (g : Rho → Option (List PyData)) : Rho → Option Fl := fun ρ => (g ρ).bind fun ds => (m (ob c [] :: ds)).bind fun r => match r with
  | .ok .none y => if i < ρ.length then some (.nx (ρ.set i (some y))) else none
  | _ => none
theorem sv_make {c x : Str} {m : List PyData → Option Rm} {g : Rho → Option (List PyData)} {p px cpos : Pos} (hO : OK = mkO X.prog X.w X.mg pin rk) (hpin : ∀ a u, pin a u) (M : KCallee X.prog X.w X.K X.mg X.base k c n m) (hr : Room (k + 1) X.A) (i : Nat) (hN : X.N.Nodup) (ha : EA X o (e :: es) g)
    (hn : ∀ ρ ds, g ρ = some ds → ds.length = n) (hi : i ∉ o := by decide) (hx : X.N[i]? = some x := by rfl) (hl : Loc X.env.scope x := by first | exact Or.inl rfl | exact Or.inr rfl) (hs : swapsWith (.Call (.Name c p) (e :: es) [] cpos) (some (.Name x px)) pos.line X.env = pure false := by rfl)
    (hf : X.fn x = true ∨ X.env.scope.names.lookup x = some .local := by first | exact .inl rfl | exact .inr rfl) (hg : Gl X c := by rfl) (hdb : (c == ("__debug__" : Str)) = false := by decide) (he : starEach (e :: es) X.env = (false, eval e X.env) :: starEach es X.env := by rfl) (hpl : (backTo cpos (starEach es X.env)).any (·.1) = false := by rfl) :
    SV X o (i :: o) ob' (.Assign [.Name x px] (.Call (.Name c p) (e :: es) [] cpos) pos) (fMake i c m g) := by
  obtain ⟨C, f, fd, ps, hc, hM, F, hb⟩ := M.ex
  refine PS.imp (ps_set hN hx hl (pe_make hM F hr hg hc hb .nil passes_exX ha hdb he hpl) hs hf) fun D σ H ⟨H0, P0, P, ρ, fl, R, e, q⟩ => ?_
  unfold fMake at e
  cases eg : g ρ with
  | none => rw [eg] at e; cases e
  | some ds =>
  rw [eg] at e
  simp only [Option.bind_some] at e
  refine ⟨H0, P0, P, ρ, ds, R, eg, fun vs H1 s1 t1 y dx ny ndx ne => ?_⟩
  cases em : m (ob c [] :: ds) with
  | none => rw [em] at e; cases e
  | some r =>
  rw [em] at e
  have R1 := R.go s1
  have at1 : ∀ a u, H1 a = some u → upd (upd H1 dx (.own y)) y (.ins C dx []) a = some u := fun a u z => by
    rw [upd_ne (ne_of_none z ny), upd_ne (ne_of_none z ndx)]; exact z
  have lt1 : Lt H1 P (upd (upd H1 dx (.own y)) y (.ins C dx [])) (fun a => a = y ∨ P a) := fun a u z np _ => ⟨at1 a u z, by
    rintro (rfl | z')
    · rw [ny] at z; cases z
    · exact np z'⟩
  refine ⟨by simp [t1.length, hn _ _ eg], y, vs ++ [], .ins C dx [], ob c [], ds, r, fun a => a = y ∨ P a, rfl, ?_, .inl rfl, upd_same, ?_, by rw [List.append_nil]; exact t1.mono lt1, em, ?_⟩
  · rintro a (rfl | z)
    · exact ⟨_, upd_same⟩
    · obtain ⟨u, hu⟩ := R1.tr a z
      exact ⟨u, at1 a u hu⟩
  · exact ow_mk (ns := []) (vs := []) (ds := []) hc rfl rfl (by simp) .nil trivial
  · cases r with
    | ex z => cases e
    | ok d z =>
      cases d with
      | none =>
        have e : (if i < ρ.length then some (Fl.nx (ρ.set i (some z))) else none) = some fl := e
        by_cases hl : i < ρ.length
        · rw [if_pos hl] at e
          cases e
          intro v H' u' hx' hu ow dq
          refine ⟨Dr.non (.inl dq), ?_⟩
          have s' : Same H1 H' := fun a u z => hx' a u (ne_of_none z ny) (at1 a u z)
          obtain ⟨R', l⟩ := R1.take hi hl s' ny hu (ow_pinX hO ow (hpin _ _))
          exact q _ H' _ R' ((Lt.same P s1).trans l)
        · rw [if_neg hl] at e; cases e
      | _ => cases e
end
/-! ### defs by their bodies -/
def runM (n : Nat) (f : Rho → Option Fl) (ds : List PyData) : Option Rm := (f (ds.map some ++ List.replicate (n - ds.length) none)).bind fun fl => match fl with
  | .rx d ρ => (ρ.getD 0 none).bind fun y => (asOb y).bind fun _ => some (.ok d y)
  | .nx ρ => (ρ.getD 0 none).bind fun y => (asOb y).bind fun _ => some (.ok .none y)
  | .ex x => some (.ex x)
  | _ => none
def runP (n : Nat) (f : Rho → Option Fl) (ds : List PyData) : Option PyData := (f (ds.map some ++ List.replicate (n - ds.length) none)).bind fun fl => match fl with
  | .rx d ρ => (ρ.getD 0 none).bind fun y => (asOb y).bind fun _ => some d
  | _ => none
def runX (n : Nat) (f : Rho → Option Fl) (ds : List PyData) : Option Rf := (f (ds.map some ++ List.replicate (n - ds.length) none)).bind fun fl => match fl with
  | .rt d => some (.ok d)
  | .nx _ => some (.ok .none)
  | .ex x => some (.ex x)
  | _ => none
theorem exX_of {P : Program} {w : World} {K : PySem.W.Frag} {mg : Str → Option Value} {base : Heap} {N : List Str} {qual : Str} {scope : Scope} {f : Addr} {cdv : Value} {A : Around} {outer : List Env} {s : Shared} {H : Hp} {E : XK} {cls : Value} {d : Option Addr} {H' : Hp} (h : E cls d H') :
    ExX (cxOf (L2.CX P w) P w K mg base N qual scope f cdv A outer s H E) cls d H' := fun σ => wst_of (W := fun cls d _ H => E cls d H) (takes_of rfl rfl rfl rfl) h
theorem args_get {ds : List PyData} {N : Nat} {i : Nat} {d : PyData} (h : (ds.map some ++ List.replicate (N - ds.length) none)[i]? = some (some d)) : ds[i]? = some d := by
  have hi : i < ds.length := by
    by_cases hi : i < ds.length
    · exact hi
    · rw [List.getElem?_append_right (by simpa using hi), List.getElem?_replicate] at h
      split at h <;> cases h
  rw [List.getElem?_append_left (by simpa using hi), List.getElem?_map] at h
  cases z : ds[i]? with
  | none => rw [z] at h; cases h
  | some d2 => rw [z] at h; cases h; rfl
/-- at a method's entry -/
theorem Rel.entry {P : Program} {w : World} {K : PySem.W.Frag} {mg : Str → Option Value} {pin : Addr → HO → Prop} {H : Hp} {Pr : Addr → Prop} {p : Addr} {u : HO} {d : PyData} {vs : List V} {ds : List PyData} {N : List Str}
    (tr : ∀ a, Pr a → ∃ u, H a = some u) (hp : Pr p) (hu : H p = some u) (ow : @Ow (mkA P w mg) K H Pr p u d) (hpin : pin p u) (t : DqA K H Pr vs ds) :
    @Rel (mkO P w mg pin [0]) K (fun a => if a = p then none else H a) (fun a => Pr a ∧ a ≠ p) H Pr [0] (L2.start N (.ref p :: vs)) ((d :: ds).map some ++ List.replicate (N.length - (d :: ds).length) none) := by
  refine @Rel.mk (mkO P w mg pin [0]) K _ _ H Pr [0] _ _ (fun a z => z.1) (fun a z => ?_) tr (fun a u z => ?_) (fun i hi => ?_) (fun i j a b hi hj ne => ?_) (fun i e hi h => ?_) ?_ (tabs0 (OK := mkO P w mg pin [0]) rfl) (fun n => absurd rfl n)
  · obtain ⟨u, h⟩ := tr a z.1
    exact ⟨u, by rw [if_neg z.2]; exact h⟩
  · by_cases h : a = p
    · rw [if_pos h] at z; cases z
    · rw [if_neg h] at z; exact z
  · have e : i = 0 := by simpa using hi
    subst e
    exact ⟨p, u, d, start_get rfl, rfl, hp, if_pos rfl, hu, ow_pin ow hpin⟩
  · exact absurd ((by simpa using hi : i = 0).trans (by simpa using hj : j = 0).symm) ne
  · have h' := args_get h
    cases i with
    | zero => exact absurd (by simp) hi
    | succ i =>
      obtain ⟨v, h1, h2⟩ := t.get (i := i) (d := e) (by simpa using h')
      exact ⟨v, start_get (by simpa using h1), h2⟩
  · unfold L2.start
    simp only [List.length_append, List.length_map, List.length_cons, List.length_replicate, t.length]
section
variable {P : Program} {w : World} {K : PySem.W.Frag} {mg : Str → Option Value} {base : Heap} {k : Nat} {x qual : Str} {params : Arguments} {body : List Stmt} {scope : Scope} {f : Addr} {fd : FuncData} {N ps : List Str} {o' : List Nat} {fb : Rho → Option Fl}
theorem fn_M {n : Nat} (F : FunD K x qual params body scope [] [] f fd) (S : FnScope N ps scope) (hn : ps.length = n + 1) (h0 : 0 ∈ o')
    (hbody : ∀ (p : Addr) (cdv : Value) (A : Around) (outer : List Env) (s : Shared) (H : Hp) (E : XK), Room k (A.deeper (envOfC qual scope s.heap.objs.size f cdv)) → @SVs (mkO P w mg (fun a _ => a = p) [0]) (cxOf (L2.CX P w) P w K mg base N qual scope f cdv A outer s H E) [0] o' [] body fb) :
    FnOk P w K mg base (L2.CX P w) (k + 1) f fd ps (spM P w K mg n (runM N.length fb)) := by
  refine F.ok S (fun vs H Q E h => h.1.trans hn.symm) (fun cdv A outer s H vs Q E hr h => ?_)
  obtain ⟨hl, p, vs', u, d, ds, r, Pr, rfl, tr, hp, hu, ow, t, e, q⟩ := h
  have hb := hbody p cdv A outer s H E hr
  have Re := Rel.entry (N := N) (pin := fun a _ => a = p) tr hp hu ow rfl t
  generalize hO' : mkO P w mg (fun a _ => a = p) [0] = OK at hb Re
  have hO := hO'.symm
  clear hO'
  refine ⟨_, hb, ?_⟩
  unfold runM at e
  cases ef : fb ((d :: ds).map some ++ List.replicate (N.length - (d :: ds).length) none) with
  | none => rw [ef] at e; cases e
  | some fl =>
  rw [ef] at e
  simp only [Option.bind_some] at e
  refine ⟨_, _, Pr, _, fl, Re, ef, ?_⟩
  have sx : ∀ {H' : Hp}, Same (fun a => if a = p then none else H a) H' → ∀ a w, a ≠ p → H a = some w → H' a = some w := fun {H'} s a w ne z => s a w (by show (if a = p then none else H a) = some w; rw [if_neg ne]; exact z)
  -- the end with what is kept
  have fin : ∀ (v : V) (dv : PyData) (σ' : St) (H' : Hp) (P' : Addr → Prop) (o2 : List Nat) (ρ' : Rho) (y : PyData) (z), ρ'.getD 0 none = some y → asOb y = some z → 0 ∈ o2 →
      Rel K (fun a => if a = p then none else H a) (fun a => Pr a ∧ a ≠ p) H' P' o2 σ' ρ' → Dq K H' P' v dv → (∃ u', (∀ a w, a ≠ p → H a = some w → H' a = some w) ∧ H' p = some u' ∧ @Ow (mkA P w mg) K H' Pr p u' y ∧ Dq K H' Pr v dv) := by
    intro v dv σ' H' P' o2 ρ' y z ey ez h02 R' dq
    obtain ⟨a, u', d', h1, h2, h3, h4, h5, h6⟩ := R'.own 0 h02
    have ed : ρ'.getD 0 none = some d' := by rw [List.getD_eq_getElem?_getD, h2] <;> rfl
    rw [ed] at ey
    cases ey
    obtain ⟨c, fs⟩ := z
    have eo := asOb_someX hO ez h6
    subst eo
    have ea := ow_isPX hO h6
    subst ea
    have sub : ∀ b, Pr b → P' b := fun b hb => by
      by_cases hba : b = a
      · rw [hba]; exact h3
      · exact R'.sub b ⟨hb, hba⟩
    exact ⟨u', sx R'.same, h5, Ow.anti (OK := mkA P w mg) sub (ow_anyX hO h6), dq.anti sub⟩
  cases fl with
  | rx dv ρ' =>
    have e : (ρ'.getD 0 none).bind (fun y => (asOb y).bind fun _ => some (Rm.ok dv y)) = some r := e
    cases ey : ρ'.getD 0 none with
    | none => rw [ey] at e; cases e
    | some y =>
    rw [ey] at e
    have e : (asOb y).bind (fun _ => some (Rm.ok dv y)) = some r := e
    cases ez : asOb y with
    | none => rw [ez] at e; cases e
    | some z =>
    rw [ez] at e
    cases e
    intro v σ' H' P' o2 hk R' dq
    obtain ⟨u', a1, a2, a3, a4⟩ := fin v dv σ' H' P' o2 ρ' y z ey ez (hk 0 (by rw [rk_of hO]; simp)) R' dq
    exact q v H' u' a1 a2 a3 a4
  | nx ρ' =>
    have e : (ρ'.getD 0 none).bind (fun y => (asOb y).bind fun _ => some (Rm.ok .none y)) = some r := e
    cases ey : ρ'.getD 0 none with
    | none => rw [ey] at e; cases e
    | some y =>
    rw [ey] at e
    have e : (asOb y).bind (fun _ => some (Rm.ok .none y)) = some r := e
    cases ez : asOb y with
    | none => rw [ez] at e; cases e
    | some z =>
    rw [ez] at e
    cases e
    intro σ' H' P' R' l
    obtain ⟨u', a1, a2, a3, a4⟩ := fin .non .none σ' H' P' o' ρ' y z ey ez h0 R' .non
    exact q .non H' u' a1 a2 a3 a4
  | ex x =>
    cases e
    exact fun C H' hm hs => exX_of (q C H' hm (sx hs))
  | rt d => cases e
  | bk r => cases e
  | ct r => cases e
  | rl b => cases e
theorem fn_P {n : Nat} (F : FunD K x qual params body scope [] [] f fd) (S : FnScope N ps scope) (hn : ps.length = n + 1)
    (hbody : ∀ (p : Addr) (u : HO) (cdv : Value) (A : Around) (outer : List Env) (s : Shared) (H : Hp) (E : XK), Room k (A.deeper (envOfC qual scope s.heap.objs.size f cdv)) → @SVs (mkO P w mg (fun a u' => a = p ∧ u' = u) [0]) (cxOf CX0 P w K mg base N qual scope f cdv A outer s H E).nox [0] o' [] body fb) :
    FnOk P w K mg base CX0 (k + 1) f fd ps (spP P w K mg n (runP N.length fb)) := by
  refine F.ok S (fun vs H Q E h => h.1.trans hn.symm) (fun cdv A outer s H vs Q E hr h => ?_)
  obtain ⟨hl, p, vs', u, d, ds, r, Pr, rfl, tr, hp, hu, ow, t, e, q⟩ := h
  have hb := hbody p u cdv A outer s H E hr
  have Re := Rel.entry (N := N) (pin := fun a u' => a = p ∧ u' = u) tr hp hu ow ⟨rfl, rfl⟩ t
  generalize hO' : mkO P w mg (fun a u' => a = p ∧ u' = u) [0] = OK at hb Re
  have hO := hO'.symm
  clear hO'
  refine ⟨_, hb.nox, ?_⟩
  unfold runP at e
  cases ef : fb ((d :: ds).map some ++ List.replicate (N.length - (d :: ds).length) none) with
  | none => rw [ef] at e; cases e
  | some fl =>
  rw [ef] at e
  simp only [Option.bind_some] at e
  refine ⟨_, _, Pr, _, fl, Re, ef, ?_⟩
  cases fl with
  | rx dv ρ' =>
    have e : (ρ'.getD 0 none).bind (fun y => (asOb y).bind fun _ => some dv) = some r := e
    cases ey : ρ'.getD 0 none with
    | none => rw [ey] at e; cases e
    | some y =>
    rw [ey] at e
    have e : (asOb y).bind (fun _ => some dv) = some r := e
    cases ez : asOb y with
    | none => rw [ez] at e; cases e
    | some z =>
    rw [ez] at e
    cases e
    intro v σ' H' P' o2 hk R' dq
    obtain ⟨a, u', d', h1, h2, h3, h4, h5, h6⟩ := R'.own 0 (hk 0 (by rw [rk_of hO]; simp))
    have ed : ρ'.getD 0 none = some d' := by rw [List.getD_eq_getElem?_getD, h2] <;> rfl
    rw [ed] at ey
    cases ey
    obtain ⟨c, fs⟩ := z
    have eo := asOb_someX hO ez h6
    subst eo
    obtain ⟨ea, eu⟩ := ow_isPX hO h6
    subst ea eu
    have sub : ∀ b, Pr b → P' b := fun b hb => by
      by_cases hba : b = a
      · rw [hba]; exact h3
      · exact R'.sub b ⟨hb, hba⟩
    refine q v H' (fun b w hb => ?_) (dq.anti sub)
    by_cases hba : b = a
    · subst hba
      rw [hu] at hb
      cases hb
      exact h5
    · exact R'.same b w (by show (if b = a then none else H b) = some w; rw [if_neg hba]; exact hb)
  | nx r => cases e
  | ex x => cases e
  | rt d => cases e
  | bk r => cases e
  | ct r => cases e
  | rl b => cases e
theorem fn_X [OK : OwnK] (F : FunD K x qual params body scope [] [] f fd) (S : FnScope N ps scope) (hT : OK.T = [])
    (hbody : ∀ (cdv : Value) (A : Around) (outer : List Env) (s : Shared) (H : Hp) (E : XK), Room k (A.deeper (envOfC qual scope s.heap.objs.size f cdv)) → SVs (cxOf (L2.CX P w) P w K mg base N qual scope f cdv A outer s H E) [] o' [] body fb) :
    FnOk P w K mg base (L2.CX P w) (k + 1) f fd ps (spX K mg ps.length (runX N.length fb)) := by
  refine F.ok S (fun vs H Q E h => h.1) (fun cdv A outer s H vs Q E hr h => ?_)
  obtain ⟨hl, Pr, ds, r, tr, t, e, q⟩ := h
  refine ⟨_, hbody cdv A outer s H E hr, ?_⟩
  unfold runX at e
  cases ef : fb (ds.map some ++ List.replicate (N.length - ds.length) none) with
  | none => rw [ef] at e; cases e
  | some fl =>
  rw [ef] at e
  simp only [Option.bind_some] at e
  refine ⟨H, Pr, Pr, _, fl, ⟨fun a z => z, tr, tr, Same.refl H, fun i hi => absurd hi (by simp), fun i j a b hi => absurd hi (by simp), fun i d' _ h => ?_, ?_, tabs0 hT, fun n => absurd hT n⟩, ef, ?_⟩
  · obtain ⟨v, h1, h2⟩ := t.get (args_get h)
    exact ⟨v, start_get h1, h2⟩
  · unfold L2.start
    rw [List.length_append, List.length_append, List.length_map, List.length_map, List.length_replicate, List.length_replicate, t.length]
  · cases fl with
    | rt d' => cases e; exact fun v H' s t => q v H' s t
    | nx r => cases e; exact fun σ' H' P' R l => q .non H' R.same .non
    | ex x => cases e; exact fun C H' hm hs => exX_of (q C H' hm hs)
    | bk r => cases e
    | ct r => cases e
    | rx d r => cases e
    | rl b => cases e
end
end TF

/-! TFu.lean -/
set_option Elab.async false
set_option linter.all false
set_option maxRecDepth 100000
/-! TF.u: what may be called, by its body; a def that may raise where it does not -/
namespace TF
open PySem PySem.Spec PyProof.Rows L2
section
variable [OK : OwnK] {X : Cx} {o ob' : List Nat} {e : Expr} {es : List Expr} {pos : Pos} {k n : Nat}
/-- .. called where it does not raise -/
def eCallX (n : Nat) (m : List PyData → Option Rf) (g : Rho → Option (List PyData)) : Rho → Option PyData := fun ρ => (g ρ).bind fun ds => if ds.length = n then (m ds).bind fun r => (match r with
  | .ok d => some d
  | .ex _ => none) else none
theorem ev_xfn {x : Str} {p : Pos} {m : List PyData → Option Rf} {g : Rho → Option (List PyData)} (c : XCallee X.prog X.w X.K X.mg X.base k x n m) (hr : Room k X.A)
    (ha : EA X o (e :: es) g) (hg : Gl X x := by rfl) (hdb : (x == ("__debug__" : Str)) = false := by decide) (he : starEach (e :: es) X.env = (false, eval e X.env) :: starEach es X.env := by rfl) (hpl : (backTo pos (starEach es X.env)).any (·.1) = false := by rfl) :
    EV X o (.Call (.Name x p) (e :: es) [] pos) (eCallX n m g) := by
  obtain ⟨f, fd, ps, F, hm, hk, hb⟩ := c.ex
  refine PE.imp (pe_call F hr hg hm hk hb .nil passes_exX ha hdb he hpl) fun σ H Q ⟨H0, P0, P, ρ, d, R, e, q⟩ => ?_
  unfold eCallX at e
  cases eg : g ρ with
  | none => rw [eg] at e; cases e
  | some ds =>
  rw [eg] at e
  have e : (if ds.length = n then (m ds).bind fun r => (match r with
    | .ok d => some d
    | .ex _ => none) else none) = some d := e
  by_cases hn : ds.length = n
  · rw [if_pos hn] at e
    refine ⟨H0, P0, P, ρ, ds, R, eg, fun vs H1 s1 t1 => ?_⟩
    cases em : m ds with
    | none => rw [em] at e; cases e
    | some rm =>
    rw [em] at e
    show spX X.K X.mg n m (vs ++ []) H1 Q (ExX X)
    rw [List.append_nil]
    refine ⟨t1.length.trans hn, P, ds, rm, (R.go s1).tr, t1, em, ?_⟩
    cases rm with
    | ok d' => cases e; exact fun v H' s t => q v H' (s1.trans s) t
    | ex x => cases e
  · rw [if_neg hn] at e; cases e
end
section
variable {P : Program} {w : World} {K : PySem.W.Frag} {mg : Str → Option Value} {base : Heap} {k : Nat} {x qual c mn : Str} {params : Arguments} {body : List Stmt} {scope : Scope} {f C : Addr} {fd : FuncData} {N ps : List Str} {o' : List Nat} {fb : Rho → Option Fl} {n : Nat}
theorem fn_MC (F : FunD K x qual params body scope [] [] f fd) (S : FnScope N ps scope) (hC : mg c = some (.ref C)) (hc : Cls K C) (hm : Meth K C mn f) (hb : Binds K fd ps []) (hn : ps.length = n + 1) (h0 : 0 ∈ o')
    (hbody : ∀ (p : Addr) (cdv : Value) (A : Around) (outer : List Env) (s : Shared) (H : Hp) (E : XK), Room k (A.deeper (envOfC qual scope s.heap.objs.size f cdv)) → @SVs (mkO P w mg (fun a _ => a = p) [0]) (cxOf (L2.CX P w) P w K mg base N qual scope f cdv A outer s H E) [0] o' [] body fb) :
    MCallee P w K mg base (k + 1) c mn n (runM N.length fb) := ⟨C, f, fd, ps, hC, hc, hm, fn_M F S hn h0 hbody, hb⟩
theorem fn_KC (F : FunD K x qual params body scope [] [] f fd) (S : FnScope N ps scope) (hC : mg c = some (.ref C)) (hM : Mk K C f) (hb : Binds K fd ps []) (hn : ps.length = n + 1) (h0 : 0 ∈ o')
    (hbody : ∀ (p : Addr) (cdv : Value) (A : Around) (outer : List Env) (s : Shared) (H : Hp) (E : XK), Room k (A.deeper (envOfC qual scope s.heap.objs.size f cdv)) → @SVs (mkO P w mg (fun a _ => a = p) [0]) (cxOf (L2.CX P w) P w K mg base N qual scope f cdv A outer s H E) [0] o' [] body fb) :
    KCallee P w K mg base (k + 1) c n (runM N.length fb) := ⟨C, f, fd, ps, hC, hM, fn_M F S hn h0 hbody, hb⟩
theorem fn_PC (F : FunD K x qual params body scope [] [] f fd) (S : FnScope N ps scope) (hC : mg c = some (.ref C)) (hc : Cls K C) (hm : Meth K C mn f) (hb : Binds K fd ps []) (hn : ps.length = n + 1)
    (hbody : ∀ (p : Addr) (u : HO) (cdv : Value) (A : Around) (outer : List Env) (s : Shared) (H : Hp) (E : XK), Room k (A.deeper (envOfC qual scope s.heap.objs.size f cdv)) → @SVs (mkO P w mg (fun a u' => a = p ∧ u' = u) [0]) (cxOf CX0 P w K mg base N qual scope f cdv A outer s H E).nox [0] o' [] body fb) :
    PCallee P w K mg base (k + 1) c mn n (runP N.length fb) := ⟨C, f, fd, ps, hC, hc, hm, fn_P F S hn hbody, hb⟩
theorem fn_XC (F : FunD K x qual params body scope [] [] f fd) (S : FnScope N ps scope) (hm : mg x = some (.ref f)) (hb : Binds K fd ps [])
    (hbody : ∀ (cdv : Value) (A : Around) (outer : List Env) (s : Shared) (H : Hp) (E : XK), Room k (A.deeper (envOfC qual scope s.heap.objs.size f cdv)) → @SVs (mkA P w mg) (cxOf (L2.CX P w) P w K mg base N qual scope f cdv A outer s H E) [] o' [] body fb) :
    XCallee P w K mg base (k + 1) x ps.length (runX N.length fb) := ⟨f, fd, ps, @fn_X P w K mg base k x qual params body scope f fd N ps o' fb (mkA P w mg) F S rfl hbody, hm, F.kp, hb⟩
/-- nothing is promised without fuel -/
theorem MCallee.none {m : List PyData → Option Rm} (hC : mg c = some (.ref C)) (hc : Cls K C) (hm : Meth K C mn f) (hb : Binds K fd ps []) (hn : ∀ ds, m ds = Option.none) : MCallee P w K mg base k c mn n m := by
  have no : ∀ vs H Q E, ¬ spM P w K mg n m vs H Q E := fun vs H Q E h => by
    obtain ⟨_, p, vs', u, d, ds, r, Pr, _, _, _, _, _, _, e, _⟩ := h
    rw [hn] at e; cases e
  exact ⟨C, f, fd, ps, hC, hc, hm, ⟨fun vs H Q E h => (no vs H Q E h).elim, fun A outer s H args us vs Q E _ _ _ _ h => (no vs H Q E h).elim⟩, hb⟩
theorem XCallee.none {m : List PyData → Option Rf} (hm : mg x = some (.ref f)) (hk : PySem.W.keepIn K (.ref f) = true) (hb : Binds K fd ps []) (hn : ∀ ds, m ds = Option.none) : XCallee P w K mg base k x n m := by
  have no : ∀ vs H Q E, ¬ spX K mg n m vs H Q E := fun vs H Q E h => by
    obtain ⟨_, Pr, ds, r, _, _, e, _⟩ := h
    rw [hn] at e; cases e
  exact ⟨f, fd, ps, ⟨fun vs H Q E h => (no vs H Q E h).elim, fun A outer s H args us vs Q E _ _ _ _ h => (no vs H Q E h).elim⟩, hm, hk, hb⟩
end
theorem aLen_nil : ∀ ρ ds, aNil ρ = some ds → ds.length = 0 := fun ρ ds e => by cases e; rfl
theorem aLen_cons {f : Rho → Option PyData} {g : Rho → Option (List PyData)} {n : Nat} (h : ∀ ρ ds, g ρ = some ds → ds.length = n) : ∀ ρ ds, aCons f g ρ = some ds → ds.length = n + 1 := fun ρ ds e => by
  obtain ⟨x, xs, _, eg, rfl⟩ := aCons_some e
  rw [List.length_cons, h ρ xs eg]
end TF

/-! TFv.lean -/
set_option Elab.async false
set_option linter.all false
set_option maxRecDepth 100000
/-! TF.v: a < b < c < d; min, max of a tuple; x = ys.pop(); for x in ys, ys one's own, with a test alone -/
namespace TF
open PySem PySem.Spec PyProof.Rows L2
variable [OK : OwnK]
section
variable {X : Cx} {o o' ob' : List Nat} {a b c d e : Expr} {fa fb fc fd : Rho → Option PyData} {pos : Pos}
def eChain3 (fa fb fc fd : Rho → Option PyData) (g g' g2 : PyData → PyData → Option Bool) : Rho → Option Bool := fun ρ => (fa ρ).bind fun x => (fb ρ).bind fun y => (g x y).bind fun k => if k = true then (fc ρ).bind fun z => (g' y z).bind fun k' => if k' = true then (fd ρ).bind fun w => g2 z w else some false else some false
theorem et_chain3 {op op' op2 : CmpOp} {g g' g2 : PyData → PyData → Option Bool} (ho : OpR X (compareOp op) (rFB X.K g)) (ho' : OpR X (compareOp op') (rFB X.K g')) (ho2 : OpR X (compareOp op2) (rFB X.K g2)) (ha : ER X o a fa) (hb : ER X o b fb) (hc : ER X o c fc) (hd : ER X o d fd)
    (hm : lastMarks [op, op', op2] [b, c, d] = false := by with_unfolding_all rfl) : ET X o (.Compare a [op, op', op2] [b, c, d] pos) (eChain3 fa fb fc fd g g' g2) := by
  refine ⟨fun pins s σ H Q I h => ?_⟩
  obtain ⟨H0, P0, P, ρ, r, R, e, q⟩ := h
  unfold eChain3 at e
  cases ea : fa ρ with
  | none => rw [ea] at e; cases e
  | some x =>
  cases eb : fb ρ with
  | none => rw [ea, eb] at e; cases e
  | some y =>
  cases eg : g x y with
  | none => simp [ea, eb, eg] at e
  | some k =>
  rw [ea, eb] at e
  simp only [Option.bind_some, eg] at e
  refine isTrue_chain (thn (ha.run pins s σ H (fun v H1 => Same H H1 ∧ Dr X.K H1 P v x) I ⟨H0, P0, P, ρ, x, R, ea, fun v H1 s1 r1 => ⟨s1, r1⟩⟩) fun v s1 ⟨vx, H1, I1, r1, sm1, q1⟩ => test_link (thn (hb.run pins s1 σ H1 (fun v H2 => Same H1 H2 ∧ Dr X.K H2 P v y) I1 ⟨H0, P0, P, ρ, y, R.go sm1, eb, fun v H2 s2 r2 => ⟨s2, r2⟩⟩) fun u s2 ⟨vy, H2, I2, r2, sm2, q2⟩ =>
    thn (ho pins s2 σ H2 vx vy v u (fun z H3 => z = .bl k ∧ H3 = H2) I2 r1 r2 ⟨P, x, y, k, (R.go (sm1.trans sm2)).tr, q1.same sm2, q2, eg, rfl, rfl⟩) fun d s3 ⟨z, H3, I3, r3, ez, eH⟩ => ?_)) hm
  subst ez eH
  cases r3
  refine wpAny_truthy_bool ?_
  have sm := sm1.trans sm2
  cases k with
  | false => rw [if_neg (by decide)] at e; cases e; exact ite_ff ⟨_, I3, q _ sm⟩
  | true =>
    rw [if_pos rfl] at e
    cases ec : fc ρ with
    | none => rw [ec] at e; cases e
    | some z =>
    rw [ec] at e
    simp only [Option.bind_some] at e
    cases eg' : g' y z with
    | none => rw [eg'] at e; cases e
    | some k' =>
    rw [eg'] at e
    simp only [Option.bind_some] at e
    refine ite_tt (test_link (thn (hc.run pins s3 σ _ (fun v H4 => Same H3 H4 ∧ Dr X.K H4 P v z) I3 ⟨H0, P0, P, ρ, z, R.go sm, ec, fun v H4 s4 r4 => ⟨s4, r4⟩⟩) fun w' s4 ⟨vz, H4, I4, r4, sm4, q4⟩ =>
      thn (ho' pins s4 σ H4 vy vz u w' (fun z H5 => z = .bl k' ∧ H5 = H4) I4 r2 r4 ⟨P, y, z, k', (R.go (sm.trans sm4)).tr, q2.same sm4, q4, eg', rfl, rfl⟩) fun d' s5 ⟨z2, H5, I5, r5, e2, eH5⟩ => ?_))
    subst e2 eH5
    cases r5
    refine wpAny_truthy_bool ?_
    have smm := sm.trans sm4
    cases k' with
    | false => rw [if_neg (by decide)] at e; cases e; exact ite_ff ⟨_, I5, q _ smm⟩
    | true =>
      rw [if_pos rfl] at e
      cases ed : fd ρ with
      | none => rw [ed] at e; cases e
      | some wd =>
      rw [ed] at e
      have e : g2 z wd = some r := e
      refine ite_tt (test_last (thn (hd.run pins s5 σ _ (fun v H6 => Same H5 H6 ∧ Dr X.K H6 P v wd) I5 ⟨H0, P0, P, ρ, wd, R.go smm, ed, fun v H6 s6 r6 => ⟨s6, r6⟩⟩) fun w2 s6 ⟨vw, H6, I6, r6, sm6, q6⟩ =>
        thn (ho2 pins s6 σ H6 vz vw w' w2 (fun z H7 => z = .bl r ∧ H7 = H6) I6 r4 r6 ⟨P, z, wd, r, (R.go (smm.trans sm6)).tr, q4.same sm6, q6, e, rfl, rfl⟩) fun d2 s7 ⟨z3, H7, I7, r7, e3, eH7⟩ => ?_))
      subst e3 eH7
      cases r7
      exact wpAny_truthy_bool ⟨_, I7, q _ (smm.trans sm6)⟩
/-! ### min, max of a list or tuple -/
def dMinA : PyData → Option PyData
  | .list (x :: xs) => if alk (x :: xs) = true then some (PySem.W.minD x xs) else none
  | .tuple (x :: xs) => if alk (x :: xs) = true then some (PySem.W.minD x xs) else none
  | _ => none
def dMaxA : PyData → Option PyData
  | .list (x :: xs) => if alk (x :: xs) = true then some (PySem.W.maxD x xs) else none
  | .tuple (x :: xs) => if alk (x :: xs) = true then some (PySem.W.maxD x xs) else none
  | _ => none
theorem opF_minA (hc : X.calm = true) (hu : X.A.units + 66 < cLine) : CallR X (.builtin "min") (rC1 X.K dMinA) := by
  intro pins s σ H vs us Q I r h
  obtain ⟨P, x, dx, d, ev, tr, rx, e, q⟩ := h
  unfold dMinA at e
  split at e
  · exact opF_min hc hu pins s σ H vs us Q I r ⟨P, x, _, d, ev, tr, rx, e, q⟩
  · subst ev
    rename_i x0 xs
    by_cases hz : alk (x0 :: xs) = true
    · rw [if_pos hz] at e; cases e
      obtain ⟨a, ys, rfl, h, t⟩ := rx.tup
      obtain ⟨its, rv, hl, _⟩ := I.tuple h
      rw [Vals.ref1 r]
      have cp : ∀ d, d ∈ x0 :: xs → d.plain = true := fun d hd => pl_plain (alk_pl hz hd)
      obtain ⟨as, ra⟩ := dpA_reads I t cp rv
      refine PySem.W.min_tuple_data (I.ok.hd hc) (show s.heap.IsTuple a its.toArray from hl) ra (alk_all hz) (room_alk hu hz) fun i v h' tk bs hv r' k => ?_
      obtain ⟨z, rz, dz⟩ := pick_alk I (K := X.K) t rv cp (by simpa using hv) r' (cp _ (minD_mem x0 xs)) k
      exact ⟨z, H, I.kept (t' := tk) k, rz, q z H (Same.refl H) dz⟩
    · rw [if_neg hz] at e; cases e
  · cases e
theorem opF_maxA (hc : X.calm = true) (hu : X.A.units + 66 < cLine) : CallR X (.builtin "max") (rC1 X.K dMaxA) := by
  intro pins s σ H vs us Q I r h
  obtain ⟨P, x, dx, d, ev, tr, rx, e, q⟩ := h
  unfold dMaxA at e
  split at e
  · exact opF_max hc hu pins s σ H vs us Q I r ⟨P, x, _, d, ev, tr, rx, e, q⟩
  · subst ev
    rename_i x0 xs
    by_cases hz : alk (x0 :: xs) = true
    · rw [if_pos hz] at e; cases e
      obtain ⟨a, ys, rfl, h, t⟩ := rx.tup
      obtain ⟨its, rv, hl, _⟩ := I.tuple h
      rw [Vals.ref1 r]
      have cp : ∀ d, d ∈ x0 :: xs → d.plain = true := fun d hd => pl_plain (alk_pl hz hd)
      obtain ⟨as, ra⟩ := dpA_reads I t cp rv
      refine PySem.W.max_tuple_data (I.ok.hd hc) (show s.heap.IsTuple a its.toArray from hl) ra (alk_all hz) (room_alk hu hz) fun i v h' tk bs hv r' k => ?_
      obtain ⟨z, rz, dz⟩ := pick_alk I (K := X.K) t rv cp (by simpa using hv) r' (cp _ (maxD_mem x0 xs)) k
      exact ⟨z, H, I.kept (t' := tk) k, rz, q z H (Same.refl H) dz⟩
    · rw [if_neg hz] at e; cases e
  · cases e
/-! ### x = ys.pop() -/
def fPop (j i : Nat) : Rho → Option Fl := fun ρ => match ρ.getD i none with
  | some (.list ds) => (ds[ds.length - 1]?).bind fun d => some (.nx ((ρ.set i (some (.list ds.dropLast))).set j (some d)))
  | _ => none
theorem sv_pop (j i : Nat) {x y : Str} {px py apos cpos : Pos} (hN : X.N.Nodup) (hv : PE X (.Name y py) (tVar i)) (hi : i ∈ o := by decide) (hj : j ∉ o := by decide) (hx : X.N[j]? = some x := by rfl) (hl : Loc X.env.scope x := by first | exact Or.inl rfl | exact Or.inr rfl)
    (hbase : attributeBase (.Name y py) "pop" X.env (eval (.Name y py) X.env) = eval (.Name y py) X.env := by rfl)
    (hline : (apos.endLine == cpos.line) = true := by rfl)
    (hs : swapsWith (.Call (.Attribute (.Name y py) "pop" apos) [] [] cpos) (some (.Name x px)) pos.line X.env = pure false := by rfl)
    (hf : X.fn x = true ∨ X.env.scope.names.lookup x = some .local := by first | exact .inl rfl | exact .inr rfl) :
    SV X o o ob' (.Assign [.Name x px] (.Call (.Attribute (.Name y py) "pop" apos) [] [] cpos) pos) (fPop j i) :=
  PS.imp (ps_set hN hx hl (pe_bm0 PySem.F.plainAttrs_list PySem.F.slot_list_pop PySem.F.type_list_pop mt_pop hv hbase hline) hs hf) fun D σ H ⟨H0, P0, P, ρ, fl, R, e', q⟩ => by
    unfold fPop at e'
    obtain ⟨a, u, d0, h1, h2, h3, h4, h5, h6⟩ := R.own i hi
    have eg : ρ.getD i none = some d0 := by rw [List.getD_eq_getElem?_getD, h2] <;> rfl
    rw [eg] at e'
    obtain ⟨ds, rfl⟩ : ∃ ds, d0 = .list ds := by
      cases d0 with
      | list ds => exact ⟨ds, rfl⟩
      | _ => cases e'
    obtain ⟨xs, eu, h7⟩ := h6.lst
    subst eu
    have e' : (ds[ds.length - 1]?).bind (fun d => some (Fl.nx ((ρ.set i (some (.list ds.dropLast))).set j (some d)))) = some fl := e'
    cases ed : ds[ds.length - 1]? with
    | none => rw [ed] at e'; cases e'
    | some d =>
    rw [ed] at e'
    cases e'
    obtain ⟨v, hv1, hv2⟩ := h7.get ed
    refine ⟨.ref a, h1, .inl ⟨rfl, _, .inl (.inl h5)⟩, a, xs, v, rfl, rfl, h5, by rw [h7.length]; exact hv1, ?_⟩
    obtain ⟨R', l⟩ := R.put hi h1 (.ofLst h7.dropLast)
    exact q _ _ P (R'.set hj (hv2.mono l)) l
/-! ### a loop over a list of one's own that tests alone -/
theorem sv_forChk {tg : Expr} {x : Str} {px p1 p2 : Pos} {gt : PyData → Rho → Option Rho} {ft : Rho → Option Bool} {fe : Rho → Option PyData} (ks : List Nat) (i : Nat) (hc : X.calm = true) (hv : PE X (.Name x px) (tVar i)) (hg : TGt X o tg gt) (ht : ET X o c ft) (he : EV X o e fe) (hp : PassesOwn (model X.prog X.w) X.A X.env X.xe)
    (hi : i ∈ o := by decide) (hk : ∀ k ∈ ks, k ∉ o := by decide) (hs : ∀ y, foldedSetIterable (.Name x px) X.env y = pure y := by intro _; rfl) :
    SV X o o ob' (.For tg (.Name x px) [.If c [.Return (some e) p1] [] p2] [] pos) (fFor (e1 (eVar i) dSeqL) gt ks (fIf ft (fRet fe) fNil)) :=
  PS.imp (ps_for hp hc (pi_list hv) hg (pss_one (ps_if ht (pss_one (ps_ret he)) pss_nil)) hs) fun D σ H ⟨H0, P0, P, ρ, fl, R, e', q⟩ => by
    unfold fFor at e'
    obtain ⟨a, u, d0, h1, h2, h3, h4, h5, h6⟩ := R.own i hi
    have eg : eVar i ρ = some d0 := by unfold eVar; rw [List.getD_eq_getElem?_getD, h2] <;> rfl
    obtain ⟨ds, rfl⟩ : ∃ ds, d0 = .list ds := by
      cases d0 with
      | list ds => exact ⟨ds, rfl⟩
      | _ => rw [show e1 (eVar i) dSeqL ρ = none from by unfold e1; rw [eg]; rfl] at e'; cases e'
    have ei : e1 (eVar i) dSeqL ρ = some ds := by unfold e1; rw [eg]; rfl
    obtain ⟨vs, eu, ts⟩ := h6.lst
    subst eu
    rw [ei] at e'
    have e' : forGo gt (fIf ft (fRet fe) fNil) ks ds (clr ks ρ) = some fl := e'
    refine ⟨.ref a, h1, a, rfl, ⟨_, SqL.of h5⟩, ?_⟩
    refine ⟨fun j m σ H' => m = ds.length - j ∧ j ≤ ds.length ∧ ∃ ρ', Rel X.K H0 P0 H' P o σ ρ' ∧ Same H H' ∧ forGo gt (fIf ft (fRet fe) fNil) ks (ds.drop j) ρ' = some fl, ⟨_, rfl, Nat.zero_le _, _, R.clr hk, Same.refl _, e'⟩, ?_⟩
    rintro j m σ2 H2 ⟨rfl, hj2, ρ2, R2, s2, e2⟩
    have hl : SqL X.K H2 a vs := SqL.of (s2 _ _ h5)
    by_cases hlt : j < ds.length
    · have hlt' : j < vs.length := by rw [ts.length]; exact hlt
      refine .inr ⟨⟨vs, vs[j], hl, by simp [hlt']⟩, ?_⟩
      rw [List.drop_eq_getElem_cons hlt] at e2
      refine ⟨fun σ' H' => ∃ ρ', Rel X.K H0 P0 H' P o σ' ρ' ∧ Same H H' ∧ forGo gt (fIf ft (fRet fe) fNil) ks (ds.drop (j + 1)) ρ' = some fl, fun σ' H' ⟨ρ', r⟩ => ⟨_, (by omega : ds.length - (j + 1) < ds.length - j), rfl, hlt, ρ', r⟩, fun x H' y => ?_⟩
      obtain ⟨rfl, y⟩ := y
      obtain ⟨d, ed, dq⟩ := (ts.same s2).getV (y vs hl)
      rw [List.getElem?_eq_getElem hlt] at ed
      cases ed
      unfold forGo at e2
      cases et : gt ds[j] ρ2 with
      | none => rw [et] at e2; cases e2
      | some r =>
      rw [et] at e2
      simp only [Option.bind_some] at e2
      unfold fIf at e2
      cases eft : ft r with
      | none => rw [eft] at e2; cases e2
      | some k =>
      rw [eft] at e2
      simp only [Option.bind_some] at e2
      refine ⟨H0, P0, P, ρ2, ds[j], r, R2, dq, et, fun σ3 R3 => ⟨H0, P0, P, r, k, R3, eft, fun H3 s3 => ?_⟩⟩
      cases k with
      | true =>
        rw [if_pos rfl] at e2
        unfold fRet at e2
        cases ee : fe r with
        | none => rw [ee] at e2; cases e2
        | some dr =>
          rw [ee] at e2
          cases e2
          exact iteT ⟨H0, P0, P, r, dr, R3.go s3, ee, fun v H4 s4 t => q v H4 ((R3.go s3).same.trans s4) (t.anti R3.sub)⟩
      | false =>
        rw [if_neg (by decide)] at e2
        exact iteF ⟨_, (R3.go s3).clr hk, s2.trans s3, e2⟩
    · have ej2 : j = ds.length := by omega
      subst ej2
      refine .inl ⟨⟨vs, hl, by rw [ts.length]; exact Nat.le_refl _⟩, ?_⟩
      rw [List.drop_length] at e2
      cases e2
      exact q σ2 H2 P R2 (Lt.same P s2)
/-! ### list(range(n)) -/
theorem rgV_dq {K : PySem.W.Frag} {H : Hp} {P : Addr → Prop} (n : Nat) (lo : Int) : DqA K H P ((List.range n).map fun i => V.int (lo + (i : Nat))) (rints lo n) := by
  unfold rints
  have h : ∀ l : List Nat, DqA K H P (l.map fun i => V.int (lo + (i : Nat))) (l.map fun (i : Nat) => .int (lo + i)) := by
    intro l
    induction l with
    | nil => exact .nil
    | cons i l ih => exact .cons (.int _) ih
  exact h _
theorem en_listRange {f : Rho → Option PyData} {p1 p2 pos1 : Pos} (zl : X.mg "list" = none) (zr : X.mg "range" = none) (he : ER X o e f) (hc : X.calm = true := by rfl) (hg : Gl X "list" := by rfl) (hg2 : Gl X "range" := by rfl)
    (na : starEach [.Call (.Name "range" p2) [e] [] pos1] X.env = (false, eval (.Call (.Name "range" p2) [e] [] pos1) X.env) :: starEach [] X.env := by rfl) (na2 : starEach [e] X.env = (false, eval e X.env) :: starEach [] X.env := by rfl) :
    EN X o (.Call (.Name "list" p1) [.Call (.Name "range" p2) [e] [] pos1] [] pos) (e1 f dRng1) :=
  PE.imp (pe_listRg hc hg zl (prg_1 hg2 zr he na2) na) fun σ H Q ⟨H0, P0, P, ρ, ds, Re, e', q⟩ => by
    obtain ⟨d, ef, eg⟩ := e1_some e'
    refine ⟨H0, P0, P, ρ, _, Re, ef, fun v H1 s1 r1 => ?_⟩
    cases d with
    | int n =>
      have eg : (if -1000000 ≤ n ∧ n ≤ 1000000 then some (rints 0 n.toNat) else none) = some ds := eg
      by_cases hn : -1000000 ≤ n ∧ n ≤ 1000000
      · rw [if_pos hn] at eg
        cases eg
        have e1 := r1.int
        subst e1
        refine ⟨n, rfl, ⟨by omega, by omega, by omega, by omega, by omega⟩, fun p hp => ?_⟩
        refine q p _ _ (s1.trans (same_upd hp _)) (s1.free hp) upd_same ?_
        unfold rgV
        rw [Int.sub_zero]
        exact rgV_dq _ _
      · rw [if_neg hn] at eg; cases eg
    | _ => cases eg
end
end TF

/-! TFw.lean -/
set_option Elab.async false
set_option linter.all false
set_option maxRecDepth 100000
/-! TF.w: a dict of the module: text keys, values texts or tuples of texts -/
namespace TF
open PySem PySem.Spec PyProof.Rows L2
variable [OK : OwnK]
/-- a value of a table -/
inductive TV where
  | txt (x : Str) | tup (xs : List Str)
def TV.isIn (K : PySem.W.Frag) : TV → Value → Bool
  | .txt x, u => He.relB (.str x) u
  | .tup xs, .ref a => (match K.lookup a with
    | some ⟨.type c, _, .seq its _, _⟩ => decide (c = "tuple") && (decide (its.size ≤ sizeLine) && He.relAll (xs.map V.str) its.toList)
    | _ => false)
  | .tup _, _ => false
abbrev KV : Type := List (Str × TV)
def lookKV : KV → Str → Option TV
  | [], _ => none
  | (k, v) :: r, z => if k = z then some v else lookKV r z
def rowKV (K : PySem.W.Frag) (q : Str × TV) (e : DictEntry) : Bool := (match e.key with
  | .str x _ => decide (q.1 = x)
  | _ => false) && q.2.isIn K e.val
def rowsKV (K : PySem.W.Frag) : KV → List DictEntry → Bool
  | [], [] => true
  | q :: r, e :: es => rowKV K q e && rowsKV K r es
  | _, _ => false
def atKV (K : PySem.W.Frag) (a : Addr) (kvs : KV) : Bool := match K.lookup a with
  | some ⟨_, _, .dict es _, _⟩ => rowsKV K kvs es.toList
  | _ => false
theorem rowKV_ok {K : PySem.W.Frag} {q : Str × TV} {e : DictEntry} (h : rowKV K q e = true) : (∃ t, e.key = .str q.1 t) ∧ q.2.isIn K e.val = true := by
  obtain ⟨h1, h2⟩ := He.ba h
  refine ⟨?_, h2⟩
  cases k : e.key with
  | str x t => rw [k] at h1; exact ⟨t, by rw [of_decide_eq_true h1]⟩
  | _ => rw [k] at h1; cases h1
theorem rowsKV_find {K : PySem.W.Frag} (z : Str) : ∀ {r : KV} {es : List DictEntry}, rowsKV K r es = true → es.any (·.refKey) = false ∧ match lookKV r z with
    | some v => ∃ e, es.find? (·.key.isStr z) = some e ∧ v.isIn K e.val = true
    | none => es.find? (·.key.isStr z) = none
  | [], [], _ => ⟨rfl, rfl⟩
  | [], _ :: _, h => by cases h
  | _ :: _, [], h => by cases h
  | (k, v) :: r, e :: es, h => by
    obtain ⟨h1, h2⟩ := He.ba h
    obtain ⟨⟨t, hk⟩, hv⟩ := rowKV_ok h1
    obtain ⟨i1, i2⟩ := rowsKV_find z h2
    have hk : e.key = .str k t := hk
    refine ⟨?_, ?_⟩
    · rw [List.any_cons, i1, Bool.or_false]
      unfold DictEntry.refKey
      rw [hk]
    · unfold lookKV
      by_cases hz : k = z
      · subst hz
        rw [if_pos rfl]
        refine ⟨e, ?_, hv⟩
        rw [List.find?_cons]
        simp [hk, Value.isStr]
      · rw [if_neg hz]
        have hn : e.key.isStr z = false := by
          rw [hk]
          simp [Value.isStr, hz]
        rw [List.find?_cons]
        simp only [hn]
        exact i2
theorem nsIn_kv {K : PySem.W.Frag} {a : Addr} {kvs : KV} (h : atKV K a kvs = true) (z : Str) : match lookKV kvs z with
    | some v => ∃ u, PySem.W.nsIn K a z = some (some u) ∧ v.isIn K u = true
    | none => PySem.W.nsIn K a z = some none := by
  unfold atKV at h
  unfold PySem.W.nsIn
  split at h
  · rename_i es n sl e
    rw [e]
    obtain ⟨h1, h2⟩ := rowsKV_find z h
    split at h2
    · obtain ⟨e, q1, q2⟩ := h2
      simp only [q1]
      exact ⟨_, rfl, q2⟩
    · simp only [h2, h1]
      rfl
  · cases h
theorem isIn_tup {K : PySem.W.Frag} {xs : List Str} {u : Value} (h : TV.isIn K (.tup xs) u = true) : ∃ b, u = .ref b ∧ ∀ H, SqT K H b (xs.map V.str) := by
  cases u with
  | ref b =>
    refine ⟨b, rfl, fun H => ?_⟩
    have h : (match K.lookup b with
    | some ⟨.type c, _, .seq its _, _⟩ => decide (c = "tuple") && (decide (its.size ≤ sizeLine) && He.relAll (xs.map V.str) its.toList)
    | _ => false) = true := h
    split at h
    · rename_i c od its n sl q
      obtain ⟨h1, h2⟩ := He.ba h
      obtain ⟨h3, h4⟩ := He.ba h2
      exact .inr ⟨_, its, n, q, congrArg Value.type (of_decide_eq_true h1), rfl, of_decide_eq_true h3, He.relAll_ok h4⟩
    · cases h
  | _ => cases h
/-- the module's name x is such a table -/
structure TabG (K : PySem.W.Frag) (w : World) (mg : Str → Option Value) (x : Str) (kvs : KV) : Prop where
  ex : ∃ a es n, mg x = some (.ref a) ∧ KDict K w a es n ∧ atKV K a kvs = true

def dInG (kvs : KV) : PyData → Option Bool
  | .str z => some (lookKV kvs z).isSome
  | _ => none
def dNotInG (kvs : KV) : PyData → Option Bool
  | .str z => some (!(lookKV kvs z).isSome)
  | _ => none
def dIxG (kvs : KV) : PyData → Option PyData
  | .str z => (match lookKV kvs z with
    | some (.txt y) => some (.str y)
    | _ => none)
  | _ => none
def dTupG (kvs : KV) : PyData → Option (List Str)
  | .str z => (match lookKV kvs z with
    | some (.tup ys) => some ys
    | _ => none)
  | _ => none
section
variable {X : Cx} {o o1 o' ob : List Nat} {a b e : Expr} {es : List Expr} {f fe : Rho → Option PyData} {pos px : Pos} {x : Str} {kvs : KV}
theorem e1b_some {α : Type} {g : PyData → Option α} {ρ : Rho} {d : α} (h : e1 f g ρ = some d) : ∃ x, f ρ = some x ∧ g x = some d := by
  unfold e1 at h
  cases ef : f ρ with
  | none => rw [ef] at h; cases h
  | some x => rw [ef] at h; exact ⟨x, rfl, h⟩
theorem et_inG (T : TabG X.K X.w X.mg x kvs) (ha : ER X o a f) (hm : behindInMarks .In (.Name x px) = false) (hg : Gl X x := by rfl) (hd : (x == ("__debug__" : Str)) = false := by decide) : ET X o (.Compare a [.In] [.Name x px] pos) (e1 f (dInG kvs)) := by
  obtain ⟨t, tes, n, hmg, D, hk⟩ := T.ex
  refine PT.imp (pt_cmpR (op_in_kd D) ha (pe_glob hg hmg (v := .ref t) rfl hd) hm) fun σ H Q ⟨H0, P0, P, ρ, d, R, e, q⟩ => ?_
  obtain ⟨y, e1, e2⟩ := e1b_some e
  refine ⟨H0, P0, P, ρ, y, R, e1, fun v H1 s1 r1 => ?_⟩
  unfold dInG at e2
  split at e2
  · rename_i z
    cases e2
    have hs := r1.str
    subst hs
    have h2 := nsIn_kv hk z
    split at h2
    · rename_i u hu
      obtain ⟨u', h3, h4⟩ := h2
      exact ⟨z, _, rfl, rfl, h3, _, rfl, by rw [hu] at q; exact q H1 s1⟩
    · rename_i hu
      exact ⟨z, _, rfl, rfl, h2, _, rfl, by rw [hu] at q; exact q H1 s1⟩
  · cases e2
theorem et_notInG (T : TabG X.K X.w X.mg x kvs) (ha : ER X o a f) (hm : behindInMarks .NotIn (.Name x px) = false) (hg : Gl X x := by rfl) (hd : (x == ("__debug__" : Str)) = false := by decide) : ET X o (.Compare a [.NotIn] [.Name x px] pos) (e1 f (dNotInG kvs)) := by
  obtain ⟨t, tes, n, hmg, D, hk⟩ := T.ex
  refine PT.imp (pt_cmpR (op_notIn_kd D) ha (pe_glob hg hmg (v := .ref t) rfl hd) hm) fun σ H Q ⟨H0, P0, P, ρ, d, R, e, q⟩ => ?_
  obtain ⟨y, e1, e2⟩ := e1b_some e
  refine ⟨H0, P0, P, ρ, y, R, e1, fun v H1 s1 r1 => ?_⟩
  unfold dNotInG at e2
  split at e2
  · rename_i z
    cases e2
    have hs := r1.str
    subst hs
    have h2 := nsIn_kv hk z
    split at h2
    · rename_i u hu
      obtain ⟨u', h3, h4⟩ := h2
      exact ⟨z, _, rfl, rfl, h3, _, rfl, by rw [hu] at q; exact q H1 s1⟩
    · rename_i hu
      exact ⟨z, _, rfl, rfl, h2, _, rfl, by rw [hu] at q; exact q H1 s1⟩
  · cases e2
theorem ev_ixG (T : TabG X.K X.w X.mg x kvs) (hb : ER X o b f) (hs : PlainIx b) (hg : Gl X x := by rfl) (hd : (x == ("__debug__" : Str)) = false := by decide) : EV X o (.Subscript (.Name x px) b pos) (e1 f (dIxG kvs)) := by
  obtain ⟨t, tes, n, hmg, D, hk⟩ := T.ex
  refine PE.imp (pe_ix ix_kdict (pe_glob hg hmg (v := .ref t) rfl hd) hb hs) fun σ H Q ⟨H0, P0, P, ρ, d, R, e, q⟩ => ?_
  obtain ⟨y, e1, e2⟩ := e1b_some e
  refine ⟨H0, P0, P, ρ, y, R, e1, fun v H1 s1 r1 => ?_⟩
  unfold dIxG at e2
  split at e2
  · rename_i z
    split at e2
    · rename_i c hc
      cases e2
      have hs := r1.str
      subst hs
      have h2 := nsIn_kv hk z
      rw [hc] at h2
      obtain ⟨u, h3, h4⟩ := h2
      exact ⟨t, z, .str c, rfl, rfl, ⟨tes, n, u, D.at_, D.lit, h3, He.relB_ok h4⟩, q _ H1 s1 (.str c)⟩
    · cases e2
  · cases e2
/-- the three names of a row of a table -/
def fTab3 (kvs : KV) (i j k : Nat) (f : Rho → Option PyData) : Rho → Option Fl := fun ρ => (f ρ).bind fun d => (dTupG kvs d).bind fun ys => match ys with
  | [x, y, z] => some (.nx (((ρ.set i (some (.str x))).set j (some (.str y))).set k (some (.str z))))
  | _ => none
theorem sv_tab3 (i j k : Nat) {tg : Expr} {p2 : Pos} (T : TabG X.K X.w X.mg x kvs) (hb : ER X o b f) (hs : PlainIx b) (h : PG X tg (gTup X.K 3 (gCons (gName i) (gCons (gName j) (gCons (gName k) gNil)))))
    (hi : i ∉ o := by decide) (hj : j ∉ o := by decide) (hk : k ∉ o := by decide) (hgl : Gl X x := by rfl) (hd : (x == ("__debug__" : Str)) = false := by decide)
    (hsw : swapsWithSole [tg] (.Subscript (.Name x px) b p2) pos.line X.env = pure false := by rfl) (hw : swappedStores [tg] (.Subscript (.Name x px) b p2) X.env = pure none := by rfl)
    (h1 : (assignEach [tg] X.env).map (·.2) = [assign tg X.env] := by rfl) : SV X o o ob (.Assign [tg] (.Subscript (.Name x px) b p2) pos) (fTab3 kvs i j k f) := by
  obtain ⟨t, tes, n, hmg, D, hkv⟩ := T.ex
  refine PS.imp (ps_asg (pe_ix ix_kdict (pe_glob hgl hmg (v := .ref t) rfl hd) hb hs) h hsw hw h1) fun Dn σ H ⟨H0, P0, P, ρ, fl, R, e, q⟩ => ?_
  unfold fTab3 at e
  cases ef : f ρ with
  | none => rw [ef] at e; cases e
  | some d =>
    rw [ef] at e
    simp only [Option.bind_some] at e
    cases et : dTupG kvs d with
    | none => rw [et] at e; cases e
    | some ys =>
      rw [et] at e
      simp only [Option.bind_some] at e
      split at e
      · rename_i y1 y2 y3
        cases e
        refine ⟨H0, P0, P, ρ, d, R, ef, fun v H1 s1 r1 => ?_⟩
        unfold dTupG at et
        split at et
        · rename_i z
          split at et
          · rename_i c hc
            cases et
            have hs2 := r1.str
            subst hs2
            have h2 := nsIn_kv hkv z
            rw [hc] at h2
            obtain ⟨u, h3, h4⟩ := h2
            obtain ⟨b2, rfl, hq⟩ := isIn_tup h4
            refine ⟨t, z, .ref b2, rfl, rfl, ⟨tes, n, .ref b2, D.at_, D.lit, h3, rfl⟩, ?_⟩
            have R1 := R.go s1
            exact ⟨b2, [.str y1, .str y2, .str y3], rfl, hq H1, rfl, _, _, rfl, _, _, rfl, _, _, rfl, rfl, q _ H1 P (((R1.set hi (.str y1)).set hj (.str y2)).set hk (.str y3)) (Lt.same P s1)⟩
          · cases et
        · cases et
      · cases e
/-! ### text.split(sep), words.index(word) -/
def dSplit : PyData → PyData → Option (List PyData)
  | .str a, .str b => if (b.length == 0) = false ∧ a.length + 2 ≤ sizeLine then some ((Txt.split a b).map .str) else none
  | _, _ => none
theorem strs_dq {K : PySem.W.Frag} {H : Hp} {P : Addr → Prop} : ∀ ys : List Str, DqA K H P (ys.map V.str) (ys.map PyData.str)
  | [] => .nil
  | y :: ys => .cons (.str y) (strs_dq ys)
theorem en_split {fa fb : Rho → Option PyData} {apos : Pos} (ha : ER X o a fa) (hb : ER X o b fb) (hs : starEach [b] X.env = [(false, eval b X.env)] := by rfl) (hbase : attributeBase a "split" X.env (eval a X.env) = eval a X.env := by rfl) (hline : (apos.endLine == pos.line) = true := by rfl) :
    EN X o (.Call (.Attribute a "split" apos) [b] [] pos) (e2 fa fb dSplit) := PE.imp (pe_split ha hb hs hbase hline) fun σ H Q ⟨H0, P0, P, ρ, d, R, e', q⟩ => by
  obtain ⟨x, y, ea, eb, eg⟩ := e2_some e'
  unfold dSplit at eg
  split at eg
  · rename_i z s
    by_cases hz : (s.length == 0) = false ∧ z.length + 2 ≤ sizeLine
    · rw [if_pos hz] at eg
      cases eg
      refine ⟨H0, P0, P, ρ, _, R, ea, fun v H1 s1 r1 => ⟨⟨z, r1.str⟩, H0, P0, P, ρ, _, R.go s1, eb, fun u H2 s2 r2 => ?_⟩⟩
      exact ⟨z, s, r1.str, by rw [r2.str], hz.1, hz.2, fun p hp => q p _ _ ((s1.trans s2).trans (same_upd hp _)) ((s1.trans s2).free hp) upd_same (strs_dq _)⟩
    · rw [if_neg hz] at eg; cases eg
  · cases eg
def dIndexL : PyData → PyData → Option PyData
  | .list ds, .str z => (strsD ds).bind fun ys => (idxS z ys).map fun j => .int (j : Nat)
  | _, _ => none
theorem ev_indexL {fa fb : Rho → Option PyData} {apos : Pos} (ha : ER X o a fa) (hb : ER X o b fb)
    (hbase : attributeBase a "index" X.env (eval a X.env) = eval a X.env := by rfl)
    (hfew : ((backTo pos (starEach [b] X.env)).all (fun x => !x.1) && (backToKw pos (keywordEach [] X.env)).all (fun x => x.1.isSome)
      && decide (([b] : List Expr).length + ([] : List Keyword).length + (if ([] : List Keyword).isEmpty then 0 else 1) < 30)) = true := by rfl)
    (hline : (apos.endLine == pos.line) = true := by rfl) (hs : starEach [b] X.env = (false, eval b X.env) :: starEach [] X.env := by rfl) (hplain : (backTo pos (starEach [] X.env)).any (·.1) = false := by rfl) :
    EV X o (.Call (.Attribute a "index" apos) [b] [] pos) (e2 fa fb dIndexL) := PE.imp (pe_bm PySem.F.plainAttrs_list PySem.F.slot_list_index PySem.F.type_list_index mt_index ha (pa_cons hb pa_nil hs) hbase hfew hline hs hplain) fun σ H Q ⟨H0, P0, P, ρ, d, R, e', q⟩ => by
  obtain ⟨x, y, ea, eb, eg⟩ := e2_some e'
  unfold dIndexL at eg
  split at eg
  · rename_i ds z
    cases e3 : strsD ds with
    | none => rw [e3] at eg; cases eg
    | some ys =>
    rw [e3] at eg
    simp only [Option.bind_some] at eg
    cases e4 : idxS z ys with
    | none => rw [e4] at eg; cases eg
    | some j =>
    rw [e4] at eg; cases eg
    obtain ⟨h1, h2⟩ := idxS_at e4
    refine ⟨H0, P0, P, ρ, _, R, ea, fun v H1 s1 r1 => ?_⟩
    obtain ⟨l, xs, rfl, hl, ts⟩ := r1.lst
    refine ⟨.inl ⟨rfl, _, SqL.of hl⟩, H0, P0, P, ρ, _, R.go s1, eb, fun u H2 s2 r2 => ?_⟩
    have ex := strsD_rel ts e3
    subst ex
    refine ⟨l, ys.map V.str, .str z, j, .str z, rfl, by rw [r2.str], SqL.of (s2 _ _ hl), rfl, ?_, ?_, ?_, fun m z' hm hz' => ?_, q _ H2 (s1.trans s2) (.int _)⟩
    · rw [List.all_eq_true]
      intro w hw
      obtain ⟨c, _, rfl⟩ := List.mem_map.mp hw
      rfl
    · rw [List.getElem?_map, h1]; rfl
    · show (z == z) = true
      simp
    · rw [List.getElem?_map] at hz'
      cases hc : ys[m]? with
      | none => rw [hc] at hz'; cases hz'
      | some c =>
        rw [hc] at hz'
        cases hz'
        show (c == z) = false
        exact beq_eq_false_iff_ne.mpr fun e => h2 m hm (by rw [hc, e])
  · cases eg
end
end TF

/-! TFx.lean -/
set_option Elab.async false
set_option linter.all false
set_option maxRecDepth 100000
/-! TF.x: a lambda handed to a def that tries it -/
namespace TF
open PySem PySem.Spec PyProof.Rows L2
/-- the class C is raised, caught by the class L -/
structure Caught (K : PySem.W.Frag) (L C : Addr) : Prop where
  is : ExcC K C
  by_ : PySem.W.exmOne K (.ref C) (.ref L) = some true
  val : PySem.W.kitOne K (.ref C) (.type "ValueError") = some true
  self : PySem.W.kitOne K (.ref C) (.ref C) = some true
/-- try: y = ("told", a()) except L as n: y = ("refused", True) -/
def TTry (C : Addr) : (XK → Hp → VK → Prop) → Hp → VK → Prop := fun tl H Q =>
  tl (fun cls d H' => cls = .ref C ∧ d = none ∧ ∀ p its, H' p = none → Q (.ref p) (upd H' p (fz its [.str "refused", .bl true]))) H
    (fun v H' => ([V.str "told", v] : List V).length ≤ sizeLine ∧ ∀ p its, H' p = none → ∃ w, some (some (V.ref p)) = some (some w) ∧ Q w (upd H' p (fz its [.str "told", v])))
section
variable {X : Cx}
theorem try_gives {a y n x e c q : Str} {sg : Scope} {g L C : Addr} {cdg : Value} {j j2 k1 k2} {p1 p2 p3 p4 p5 p6 p7 p8 p9 p10 p11 p12 p13 p14 p15 p16 p17 p18 p19 p20 p21 p22 p23 p24 : Pos} (cc : Caught X.K L C)
    (hnd : ([a, y, n] : List Str).Nodup) (hy : sg.names.lookup y = some .local) (hn : sg.names.lookup n = some .local)
    (hge : sg.names.lookup e = some .globalImplicit) (hme : X.mg e = some (.ref L)) (hde : (e == ("__debug__" : Str)) = false)
    (hgc : sg.names.lookup c = some .globalImplicit) (hmc : X.mg c = some (.ref C)) (hdc : (c == ("__debug__" : Str)) = false)
    (hgi : sg.names.lookup ("isinstance" : Str) = some .globalImplicit) (hmi : X.mg "isinstance" = none) (hgv : sg.names.lookup ("ValueError" : Str) = some .globalImplicit) (hmv : X.mg "ValueError" = none)
    (hdy : (y == ("__debug__" : Str)) = false := by decide) (hcy : (y == ("__classdict__" : Str)) = false := by decide) (hdn : (n == ("__debug__" : Str)) = false := by decide) (hcn : (n == ("__classdict__" : Str)) = false := by decide) :
    LamX.GivesTo X [a, y, n] x sg g cdg [.Try [.Assign [.Name y p1] (.Tuple [.Constant (.str "told") j p2, .Call (.Name a p3) [] [] p4] k1 p5) p6]
      [.ExceptHandler (some (.Name e p7)) (some n) [.Assign [.Name y p8] (.Tuple [.Constant (.str "refused") j2 p9, .BoolOp .And [.Call (.Name "isinstance" p10) [.Name n p11, .Name "ValueError" p12] [] p13,
        .Call (.Name "isinstance" p14) [.Name n p15, .Name c p16] [] p17] p18] k2 p19) p20] p21] [] [] p22, .Return (some (.Name y p23)) p24] a q (TTry C) := by
  intro f c' s H Q tl act hc h
  have hgl : Gl (cxOf C8.CX0 X.prog X.w X.K X.mg X.base [a, y, n] x sg g cdg X.A X.stack s H C8.E0).nox e := hge
  let B : XK → TS := fun Ech => tAsg (tTupF (tCons (tC (.str "told")) (tCons (fun σZ HZ Q => σZ[0]? = some (some (.ref f)) ∧ HZ c' = some (LamX.CodeO c' q) ∧ tl Ech HZ Q) tNil))) (gName 1)
  let I1 : Addr → TE := fun a' => tCB (rIsE X.K C a') (tCons (tVar 2) (tCons (tC (.ty "ValueError")) tNil))
  let I2 : Addr → TE := fun a' => tCB (rIsE X.K C a') (tCons (tVar 2) (tCons (tC (.ref C)) tNil))
  let U : Addr → TS := fun a' => tAsg (tTupF (tCons (tC (.str "refused")) (tCons (tAndV (I1 a') (I2 a')) tNil))) (gName 1)
  refine ⟨_, pss_cons (ps_try_as (X := (cxOf C8.CX0 X.prog X.w X.K X.mg X.base [a, y, n] x sg g cdg X.A X.stack s H C8.E0).nox) (c := .ref L) (i := 2)
      (tb := fun W D σ H => ∃ Ech : XK, (∀ cls d σ' H', σ'.length = 3 → Ech cls d H' → W cls d σ' H') ∧ B Ech D σ H)
      (ts := fun a' cls d D σ H => cls = .ref C ∧ d = none ∧ U a' D σ H)
      rfl rfl hnd rfl hn ⟨hgl, hde, .inl hme⟩ LamX.takes0 (fun W pn xe tk _ => ?_) (fun a' oe cls d pn hz hf => ?_)) (pss_one (ps_ret (pe_var (i := 1) rfl (.inl hy) hdy hcy))), ?_⟩
  · refine ⟨fun pins s' σ H' D I h' => ?_⟩
    obtain ⟨Ech, hW, h1⟩ := h'
    have hp := act (fun cls d σ H => σ.length = 3 → W cls d σ H) pn xe Ech p3 p4 (fun u s' ⟨a, B, sI, pins, σ, H, cls, d, e, I, nb, up, sky, na, os, ag, w⟩ => tk u s' ⟨a, B, sI, pins, σ, H, cls, d, e, I, nb, up, sky, na, os, ag, w I.len⟩) fun cls d σ' H' z hl => hW cls d σ' H' hl z
    exact (pss_one (ps_set (pos := p6) (pos' := p1) (i := 1) hnd rfl (.inl hy) (pe_tupF (pa_cons pe_str (pa_cons hp pa_nil))) rfl (.inr hy))).run pins s' σ H' D I h1
  · refine ⟨fun pins s' σ H' D I h' => ?_⟩
    obtain ⟨ec, ed, h1⟩ := h'
    subst ec ed
    have r := call_isE (X := (cxOf C8.CX0 X.prog X.w X.K X.mg X.base [a, y, n] x sg g cdg X.A X.stack s H C8.E0).nox) (a := a') (pn := pn) cc.is hz hf
    have v1 : PE ((cxOf C8.CX0 X.prog X.w X.K X.mg X.base [a, y, n] x sg g cdg X.A X.stack s H C8.E0).nox.suite a' ((a', oe) :: pn)) (.Name n p11) (tVar 2) := pe_var rfl (.inl hn) hdn hcn
    have v2 : PE ((cxOf C8.CX0 X.prog X.w X.K X.mg X.base [a, y, n] x sg g cdg X.A X.stack s H C8.E0).nox.suite a' ((a', oe) :: pn)) (.Name n p15) (tVar 2) := pe_var rfl (.inl hn) hdn hcn
    have w1 : PE ((cxOf C8.CX0 X.prog X.w X.K X.mg X.base [a, y, n] x sg g cdg X.A X.stack s H C8.E0).nox.suite a' ((a', oe) :: pn)) (.Name "ValueError" p12) (tC (.ty "ValueError")) := pe_bltn (u := .type "ValueError") hgv hmv (by decide +kernel) rfl
    have w2 : PE ((cxOf C8.CX0 X.prog X.w X.K X.mg X.base [a, y, n] x sg g cdg X.A X.stack s H C8.E0).nox.suite a' ((a', oe) :: pn)) (.Name c p16) (tC (.ref C)) := pe_glob (u := .ref C) hgc hmc rfl hdc
    have i1 := pe_callB (pos := p13) (p := p10) (x := ("isinstance" : Str)) r hgi hmi (by decide +kernel) (pa_cons v1 (pa_cons w1 pa_nil))
    have i2 := pe_callB (pos := p17) (p := p14) (x := ("isinstance" : Str)) r hgi hmi (by decide +kernel) (pa_cons v2 (pa_cons w2 pa_nil))
    exact (pss_one (ps_set (pos := p20) (pos' := p8) (i := 1) hnd rfl (.inl hy) (pe_tupF (pa_cons pe_str (pa_cons (pe_and i1 (pe_one i2)) pa_nil))) rfl (.inr hy))).run pins s' σ H' D I h1
  · refine ⟨fun cls d H' => cls = .ref C ∧ d = none ∧ ∀ p its, H' p = none → Q (.ref p) (upd H' p (fz its [.str "refused", .bl true])), fun cls d σ' H' hl hE => ?_, ?_⟩
    · obtain ⟨e1, e2, q1⟩ := hE
      subst e1 e2
      refine ⟨true, cc.by_, fun _ a' ha => ⟨rfl, rfl, ?_⟩, fun z => by cases z⟩
      have h2 : (σ'.set 2 (some (V.ref a')))[2]? = some (some (.ref a')) := List.getElem?_set_self (by omega)
      refine ⟨.ref a', h2, .ty "ValueError", .type "ValueError", true, rfl, fun u r => r, cc.val, true, rfl, ?_⟩
      rw [if_pos rfl]
      refine ⟨.ref a', h2, .ref C, .ref C, true, rfl, fun u r => r, cc.self, ?_⟩
      refine ⟨by decide +kernel, fun p its hp => ⟨.ref p, ?_, q1 p its hp⟩⟩
      rw [List.getElem?_set_ne (by decide), List.getElem?_set_self (by rw [List.length_set]; omega)]
    · exact ⟨rfl, hc, h⟩
end
/-! ### the state when a table has grown -/
section
variable [OK : OwnK] {K : PySem.W.Frag} {H0 H H1 : Hp} {P0 P : Addr → Prop} {o : List Nat} {σ : St} {ρ : Rho}
theorem Rel.grow (R : Rel K H0 P0 H P o σ ρ) (n : OK.T ≠ []) (e : LamX.ExtN H H1) (t : LamX.Tabs OK.T H1) : Rel K H0 P0 H1 P o σ ρ ∧ Lt H P H1 P := by
  have lt : Lt H P H1 P := fun a u h np nt => ⟨e a u h nt, np⟩
  have pr : ∀ a u, P a → H a = some u → H1 a = some u := fun a u h q => e a u q fun ps z => (R.tp n).2 a h ps (by rw [q, z])
  refine ⟨⟨R.sub, R.tr0, fun a h => let ⟨u, q⟩ := R.tr a h; ⟨u, pr a u h q⟩, fun a u h => e a u (R.same a u h) fun ps z => (R.tp n).1 a ps (by rw [h, z]), fun i hi => ?_, R.dis, fun i d hi h => ?_, R.len, t, fun _ => ⟨(R.tp n).1, fun a h ps q => ?_⟩⟩, lt⟩
  · obtain ⟨a, u, d, h1, h2, h3, h4, h5, h6⟩ := R.own i hi
    exact ⟨a, u, d, h1, h2, h3, h4, pr a u h3 h5, h6.mono lt⟩
  · obtain ⟨v, h1, h2⟩ := R.dat i d hi h
    exact ⟨v, h1, h2.mono lt⟩
  · obtain ⟨u, hu⟩ := R.tr a h
    have := pr a u h hu
    rw [q] at this
    cases this
    exact (R.tp n).2 a h ps hu
end
/-- what is told of a def's own lambda: its code object, its table -/
structure LamAt (T : List (Addr × Str)) (X : Cx) : Prop where
  ex : ∃ c P, X.env.code = .ref c ∧ LamX.TabB X.base X.mg c P ∧ T = [(P, X.env.qual ++ "<lambda>")]
/-- ("told", f(..)), or ("refused", True) where cl is raised -/
def mTold (cl : Str) (n : Nat) (m : List PyData → Option Rf) (g : Rho → Option (List PyData)) : Rho → Option Rz := fun ρ => (g ρ).bind fun ds => if ds.length = n then (m ds).bind fun r => (match r with
  | .ok d => some (.ok (.tuple [.str "told", d]) ρ)
  | .ex x => if x = cl then some (.ok (.tuple [.str "refused", .bool true]) ρ) else none) else none
section
variable [OK : OwnK] {X : Cx} {o : List Nat}
theorem lam_body {scope : Scope} {fnm : Str} {e1 : Expr} {es : List Expr} {n k : Nat} {m : List PyData → Option Rf} {g : Rho → Option (List PyData)} {b1 b2 : Pos} {A : Around} {outer : List Env} {s : Shared} {H : Hp} {E : XK} {f c' : Addr}
    (c : XCallee X.prog X.w X.K X.mg X.base k fnm n m) (hr : Room k (LamX.lamCx X A outer s H E scope f c').A) (ha : EA (LamX.lamCx X A outer s H E scope f c') o (e1 :: es) g) (hg : Gl (LamX.lamCx X A outer s H E scope f c') fnm) (hdb : (fnm == ("__debug__" : Str)) = false)
    (he : starEach (e1 :: es) (LamX.lamCx X A outer s H E scope f c').env = (false, eval e1 (LamX.lamCx X A outer s H E scope f c').env) :: starEach es (LamX.lamCx X A outer s H E scope f c').env) (hpl : (backTo b2 (starEach es (LamX.lamCx X A outer s H E scope f c').env)).any (·.1) = false) :
    PE (LamX.lamCx X A outer s H E scope f c') (.Call (.Name fnm b1) (e1 :: es) [] b2) (tCall (spX X.K X.mg n m) [] E (tAs X.K o g)) := by
  obtain ⟨a, fd, ps, F, hm, hk, hb⟩ := c.ex
  have tk : Takes (LamX.lamCx X A outer s H E scope f c') (fun cls d _ H => E cls d H) := takes_of rfl rfl rfl rfl
  exact pe_call (X := LamX.lamCx X A outer s H E scope f c') F hr hg hm hk hb .nil (passes_call tk fun _ _ _ _ h => h) ha hdb he hpl
theorem em_told {x a y n e cl fnm : Str} {sg scope : Scope} {pg params : Arguments} {g0 L C : Addr} {fdg : FuncData} {nn k kk : Nat} {m : List PyData → Option Rf} {g : Rho → Option (List PyData)} {e1 : Expr} {es : List Expr}
    {j j2 k1 k2} {p1 p2 p3 p4 p5 p6 p7 p8 p9 p10 p11 p12 p13 p14 p15 p16 p17 p18 p19 p20 p21 p22 p23 p24 b1 b2 b3 b4 b5 : Pos}
    (F : FunD X.K x x pg [.Try [.Assign [.Name y p1] (.Tuple [.Constant (.str "told") j p2, .Call (.Name a p3) [] [] p4] k1 p5) p6]
      [.ExceptHandler (some (.Name e p7)) (some n) [.Assign [.Name y p8] (.Tuple [.Constant (.str "refused") j2 p9, .BoolOp .And [.Call (.Name "isinstance" p10) [.Name n p11, .Name "ValueError" p12] [] p13,
        .Call (.Name "isinstance" p14) [.Name n p15, .Name cl p16] [] p17] p18] k2 p19) p20] p21] [] [] p22, .Return (some (.Name y p23)) p24] sg [] [] g0 fdg)
    (Sg : FnScope [a, y, n] [a] sg) (gm : X.mg x = some (.ref g0)) (hb : Binds X.K fdg [a] [])
    (hme : X.mg e = some (.ref L)) (hmc : X.mg cl = some (.ref C)) (cc : Caught X.K L C) (hmi : X.mg "isinstance" = none) (hmv : X.mg "ValueError" = none)
    (hL : LamAt OK.T X) (hr : Room kk X.A) (hk : k + 2 ≤ kk) (c : XCallee X.prog X.w X.K X.mg X.base k fnm nn m) (LS : LamX.LamS X.env.scope scope)
    (hy : sg.names.lookup y = some .local) (hn : sg.names.lookup n = some .local) (hva : Vis sg a) (hge : sg.names.lookup e = some .globalImplicit) (hgc : sg.names.lookup cl = some .globalImplicit) (hgi : sg.names.lookup ("isinstance" : Str) = some .globalImplicit) (hgv : sg.names.lookup ("ValueError" : Str) = some .globalImplicit)
    (hea : ∀ (A : Around) (outer : List Env) (s : Shared) (H : Hp) (E : XK) (f c' : Addr), EA (LamX.lamCx X A outer s H E scope f c') o (e1 :: es) g)
    (hg : Gl X x) (hdef : defaultsOf params X.env = ([], []))
    (hbind : ∀ (q : Str) (cl : List (Str × Addr)) (pm cv ctv : Value), bindArgs (PySem.W.kla_fn "<lambda>" q params (.Call (.Name fnm b1) (e1 :: es) [] b2) scope cl pm cv ctv) ⟨[], []⟩ = pure [])
    (hgf : scope.names.lookup fnm = some .globalImplicit)
    (he : ∀ env, starEach (e1 :: es) env = (false, eval e1 env) :: starEach es env) (hpl : ∀ env, (backTo b2 (starEach es env)).any (·.1) = false)
    (hdx : (x == ("__debug__" : Str)) = false := by decide) (hdf : (fnm == ("__debug__" : Str)) = false := by decide) (hde : (e == ("__debug__" : Str)) = false := by decide) (hdc : (cl == ("__debug__" : Str)) = false := by decide)
    (hda : (a == ("__debug__" : Str)) = false := by decide) (hca : (a == ("__classdict__" : Str)) = false := by decide)
    (hdy : (y == ("__debug__" : Str)) = false := by decide) (hcy : (y == ("__classdict__" : Str)) = false := by decide) (hdn : (n == ("__debug__" : Str)) = false := by decide) (hcn : (n == ("__classdict__" : Str)) = false := by decide) :
    EM X o (.Call (.Name x b3) [.Lambda params (.Call (.Name fnm b1) (e1 :: es) [] b2) scope b4] [] b5) (mTold cl nn m g) := by
  obtain ⟨oc, od, dV, kV, doc, pm, an, cdv, ct, osl, efd, lk, hcd, _, _⟩ := F.ex
  obtain ⟨cP, tP, hcode, TB, hT⟩ := hL.ex
  subst efd
  have nT : OK.T ≠ [] := by rw [hT]; simp
  refine PE.imp (LamX.pe_lamcall (T := OK.T) (TT := TTry C) (c := cP) (P := tP) (k := k) (t := fun E => tCall (spX X.K X.mg nn m) [] E (tAs X.K o g)) hg gm F.kp lk hcd hb Sg rfl hva
    (try_gives cc Sg.nd hy hn hge hme hde hgc hmc hdc hgi hmi hgv hmv hdy hcy hdn hcn) TB hcode (by rw [hT]; simp) (fun p hp _ => by rw [hT] at hp; simp at hp; rw [hp]) (hr.mono hk) LS hdef hbind
    (fun A outer s H E f c' hr2 => lam_body c hr2 (hea A outer s H E f c') hgf hdf (he _) (hpl _)) hdx hda hca) fun σ H Q ⟨H0, P0, P, ρ, r, R, e, q⟩ => ?_
  refine ⟨R.tab, fun H1 eN t1 => ?_⟩
  obtain ⟨R1, l1⟩ := R.grow nT eN t1
  unfold mTold at e
  cases eg : g ρ with
  | none => rw [eg] at e; cases e
  | some ds =>
  rw [eg] at e
  simp only [Option.bind_some] at e
  by_cases hz : ds.length = nn
  · rw [if_pos hz] at e
    cases em : m ds with
    | none => rw [em] at e; cases e
    | some rm =>
    rw [em] at e
    simp only [Option.bind_some] at e
    refine ⟨H0, P0, P, ρ, ds, R1, eg, fun vs H2 s2 t2 => ?_⟩
    show spX X.K X.mg nn m (vs ++ []) H2 _ _
    rw [List.append_nil]
    refine ⟨t2.length.trans hz, P, ds, rm, (R1.go s2).tr, t2, em, ?_⟩
    cases rm with
    | ok d =>
      cases e
      intro v H3 s3 dq
      refine ⟨(by rw [List.length_cons, List.length_singleton, sizeLine_eq]; decide), fun p its hp => ⟨.ref p, rfl, ?_⟩⟩
      have R3 := R1.go (s2.trans s3)
      exact q _ _ (R3.go (same_upd hp _)) (l1.trans (Lt.same P ((s2.trans s3).trans (same_upd hp _)))) (.tup upd_same (R3.newP hp) (.cons (.str _) (.cons (dq.same (same_upd hp _)) .nil)))
    | ex z =>
      have e : (if z = cl then some (Rz.ok (PyData.tuple [.str "refused", .bool true]) ρ) else none) = some r := e
      by_cases hzc : z = cl
      · rw [if_pos hzc] at e
        cases e
        intro C' H3 hmC s3
        subst hzc
        have eC : C' = C := Value.ref.inj (Option.some.inj (hmC.symm.trans hmc))
        subst eC
        refine ⟨rfl, rfl, fun p its hp => ?_⟩
        have R3 := R1.go (s2.trans s3)
        exact q _ _ (R3.go (same_upd hp _)) (l1.trans (Lt.same P ((s2.trans s3).trans (same_upd hp _)))) (.tup upd_same (R3.newP hp) (.cons (.str _) (.cons (.bl _) .nil)))
      · rw [if_neg hzc] at e; cases e
  · rw [if_neg hz] at e; cases e
end
end TF

/-! TF2.lean -/
set_option Elab.async false
set_option linter.all false
set_option maxRecDepth 100000
/-! TF.2: a law that makes a lambda -/
namespace TF
open PySem PySem.Spec PyProof.Rows L2
/-- Caught, told by a Bool of the frag -/
def caughtB (K : PySem.W.Frag) (L C : Addr) : Bool :=
  He.eqO (PySem.W.findIn K (.ref C) "__getattribute__") (some (some (.builtin "BaseException.__getattribute__"))) && (He.eqO (PySem.W.findIn K (.ref C) "__getattr__") (some none) && (decide (PySem.W.subIn K (.ref C) (.type "BaseException") = some true) && (PySem.W.hasDictIn K C &&
  (He.eqO (PySem.W.findIn K (.ref C) "__class__") (some (some (.builtin "object.__class__"))) && (He.eqO (PySem.W.specialIn K (.builtin "object.__class__") "__get__") (some (some (.builtin "getset_descriptor.__get__"))) && (decide (PySem.W.takesIn K (.builtin "object.__class__") = some true) &&
  (decide (PySem.W.mroIn K C (.type "object") = some true) && (decide (PySem.W.exmOne K (.ref C) (.ref L) = some true) && (decide (PySem.W.kitOne K (.ref C) (.type "ValueError") = some true) && decide (PySem.W.kitOne K (.ref C) (.ref C) = some true))))))))))
theorem caught_of {K : PySem.W.Frag} {L C : Addr} (h : caughtB K L C = true) : Caught K L C := by
  obtain ⟨a1, h⟩ := He.ba h
  obtain ⟨a2, h⟩ := He.ba h
  obtain ⟨a3, h⟩ := He.ba h
  obtain ⟨a4, h⟩ := He.ba h
  obtain ⟨a5, h⟩ := He.ba h
  obtain ⟨a6, h⟩ := He.ba h
  obtain ⟨a7, h⟩ := He.ba h
  obtain ⟨a8, h⟩ := He.ba h
  obtain ⟨a9, h⟩ := He.ba h
  obtain ⟨a10, a11⟩ := He.ba h
  exact ⟨⟨He.eqO_ok a1, He.eqO_ok a2, of_decide_eq_true a3, a4, He.eqO_ok a5, He.eqO_ok a6, of_decide_eq_true a7, of_decide_eq_true a8⟩, of_decide_eq_true a9, of_decide_eq_true a10, of_decide_eq_true a11⟩
/-- nothing of one's own but lists; the tables T -/
abbrev mkL (T : List (Addr × Str)) : OwnK := ⟨fun _ _ _ _ _ => False, [], T, fun h => h.elim⟩
def noTab (H : Hp) : Hp := fun a => match H a with
  | some (.tbl _) => none
  | u => u
theorem noTab_same (H : Hp) : Same (noTab H) H := fun a u h => by
  unfold noTab at h
  split at h
  · cases h
  · exact h
theorem noTab_no (H : Hp) (a : Addr) (ps : Array Value) : noTab H a ≠ some (.tbl ps) := fun h => by
  unfold noTab at h
  split at h
  · cases h
  · rename_i hn
    exact hn ps h
def runL (n : Nat) (f : Rho → Option Fl) (ds : List PyData) : Option PyData := (f (ds.map some ++ List.replicate (n - ds.length) none)).bind fun fl => match fl with
  | .rt (.bool b) => some (.bool b)
  | .rx (.bool b) _ => some (.bool b)
  | _ => none
/-- what such a law promises: a truth -/
def spL (K : PySem.W.Frag) (T : List (Addr × Str)) (n : Nat) (m : List PyData → Option PyData) : Sp := fun vs H Q E => vs.length = n ∧ ∃ ds b, DqA K H (fun _ => False) vs ds ∧ LamX.Tabs T H ∧ m ds = some (.bool b) ∧ ∀ H', Q (.bl b) H'
section
variable {P : Program} {w : World} {K : PySem.W.Frag} {mg : Str → Option Value} {base : Heap} {k : Nat} {x qual : Str} {params : Arguments} {body : List Stmt} {scope : Scope} {f : Addr} {fd : FuncData} {N ps : List Str} {o' : List Nat} {fb : Rho → Option Fl}
theorem code_at {p : Str × Option Str} (F : FunD K x qual params body scope [] [] (He.fAd K p) fd) : fd.code = .ref (He.codeOf K p) := by
  obtain ⟨oc, od, dV, kV, doc, pm, an, cdv, ct, osl, rfl, lk, hcd, _, _⟩ := F.ex
  obtain ⟨c, rfl⟩ := He.codeIn_ref hcd
  show Value.ref c = _
  rw [He.codeOf_eq lk rfl]
theorem fn_L {T : List (Addr × Str)} {c tP : Addr} (F : FunD K x qual params body scope [] [] f fd) (S : FnScope N ps scope) (hc : fd.code = .ref c) (TB : LamX.TabB base mg c tP)
    (hT : ∀ (cdv : Value) (A : Around) (outer : List Env) (s : Shared) (H : Hp) (E : XK), T = [(tP, (cxOf CX0 P w K mg base N qual scope f cdv A outer s H E).env.qual ++ "<lambda>")])
    (hbody : ∀ (cdv : Value) (A : Around) (outer : List Env) (s : Shared) (H : Hp) (E : XK), Room k (A.deeper (envOfC qual scope s.heap.objs.size f cdv)) → LamAt T (cxOf CX0 P w K mg base N qual scope f cdv A outer s H E).nox →
      @SVs (mkL T) (cxOf CX0 P w K mg base N qual scope f cdv A outer s H E).nox [] o' [] body fb) :
    FnOk P w K mg base CX0 (k + 1) f fd ps (spL K T ps.length (runL N.length fb)) := by
  obtain ⟨oc, od, dV, kV, doc, pm, an, cdv, ct, osl, rfl, lk, hcd, _, _⟩ := F.ex
  obtain rfl : cdv = .ref c := hc
  refine fn_of lk hcd S (fun vs H Q E h => h.1) fun A outer s H vs Q E hr h => ?_
  obtain ⟨hl, ds, b, t, tb, e, q⟩ := h
  have hT1 := hT (.ref c) A outer s H E
  have hb := hbody (.ref c) A outer s H E hr ⟨c, tP, rfl, TB, hT1⟩
  refine ⟨_, hb.nox, ?_⟩
  unfold runL at e
  cases ef : fb (ds.map some ++ List.replicate (N.length - ds.length) none) with
  | none => rw [ef] at e; cases e
  | some fl =>
  rw [ef] at e
  simp only [Option.bind_some] at e
  letI : OwnK := mkL T
  refine ⟨noTab H, fun _ => False, fun _ => False, _, fl, ⟨fun a z => z, fun a z => z.elim, fun a z => z.elim, noTab_same H, fun i hi => absurd hi (by simp), fun i j a b hi => absurd hi (by simp), fun i d' _ h => ?_, ?_, tb, fun _ => ⟨noTab_no H, fun a z => z.elim⟩⟩, ef, ?_⟩
  · obtain ⟨v, h1, h2⟩ := t.get (args_get h)
    exact ⟨v, start_get h1, h2⟩
  · unfold L2.start
    rw [List.length_append, List.length_append, List.length_map, List.length_map, List.length_replicate, List.length_replicate, t.length]
  · cases fl with
    | rt d' =>
      cases d' with
      | bool b' => cases e; exact fun v H' s t => by cases t; exact q H'
      | _ => cases e
    | rx d' r =>
      cases d' with
      | bool b' => cases e; exact fun v σ' H' P' o2 _ _ t => by cases t; exact q H'
      | _ => cases e
    | nx r => cases e
    | bk r => cases e
    | ct r => cases e
    | ex x => cases e
    | rl b => cases e
/-- the same for a law of tables only -/
theorem law_spT {m : List PyData → Option PyData} (h : ∀ ns : List Int, ns.length ≤ 63 → m [scr ns] = some (.bool true)) (H : Hp) (a : Addr) (ns : List Int) (hl : ns.length ≤ 63) (hS : SqL K H a (ns.map V.int)) :
    spF K 1 m [.ref a] H (fun v _ => v = .bl true) fun _ _ _ => False := by
  refine ⟨rfl, fun _ => False, [scr ns], .bool true, fun a z => z.elim, .cons ?_ .nil, h ns hl, fun v H' s t => by cases t; rfl⟩
  rcases hS with (hS | ⟨o, hS⟩) | hS
  · exact .scl hS (fun z => z)
  · exact .scf hS (fun z => z)
  · exact .sck (.inr hS)
theorem law_spL {T : List (Addr × Str)} {m : List PyData → Option PyData} (h : ∀ ns : List Int, ns.length ≤ 63 → m [scr ns] = some (.bool true)) (H : Hp) (a : Addr) (ns : List Int) (hl : ns.length ≤ 63) (hS : SqL K H a (ns.map V.int)) (hT : ∀ p ∈ T, H p.1 = some (.tbl #[])) :
    spL K T 1 m [.ref a] H (fun v _ => v = .bl true) fun _ _ _ => False := by
  refine ⟨rfl, [scr ns], true, .cons ?_ .nil, fun p hp => .nil (hT p hp), h ns hl, fun H' => rfl⟩
  rcases hS with (hS | ⟨o, hS⟩) | hS
  · exact .scl hS (fun z => z)
  · exact .scf hS (fun z => z)
  · exact .sck (.inr hS)
end
end TF

/-! TF3.lean -/
set_option Elab.async false
set_option linter.all false
set_option maxRecDepth 100000
/-! TF.3: {text: text, ..}[k] -/
namespace TF
open PySem PySem.Spec PyProof.Rows L2
variable [OK : OwnK] {X : Cx} {o : List Nat} {b : Expr} {fb : Rho → Option PyData}
def kvsS (ps : List (Str × Str)) : List (Key × V) := ps.map fun p => (Sum.inr p.1, V.str p.2)
def trsS (ps : List (Str × Str)) : List (TE × TE) := ps.map fun p => (tC (.str p.1), tC (.str p.2))
theorem tPairs_S : ∀ (ps : List (Str × Str)) (σ : St) (H : Hp) (Q : List (V × V) → Hp → Prop), Q (ps.map fun p => (V.str p.1, V.str p.2)) H → tPairs (trsS ps) σ H Q
  | [], _, _, _, q => q
  | p :: ps, σ, H, Q, q => by
    show tPairs (trsS ps) σ H fun xs H3 => Q ((V.str p.1, V.str p.2) :: xs) H3
    exact tPairs_S ps σ H _ q
def dIxS (ps : List (Str × Str)) : PyData → Option PyData
  | .str z => match valV (mergeK [] (kvsS ps)) (Sum.inr z) with
    | some (.str i) => some (.str i)
    | _ => none
  | _ => none
theorem ev_dixS {ps : List (Str × Str)} {dpos pos : Pos} {keys : List (Option Expr)} {values : List Expr} (hu : X.A.units + 1 < cLine) (hp : PPs X dpos keys values (trsS ps)) (hall : keys.all (·.isSome) = true) (hl : keys.length = values.length) (h0 : keys ≠ []) (h15 : keys.length ≤ 15) (hps : ps.length ≤ 15)
    (he : ER X o b fb) (hs : NoSl b) : EV X o (.Subscript (.Dict keys values dpos) b pos) (e1 fb (dIxS ps)) := PE.imp (pe_dget hu (pe_disp hp hall hl h0 h15) he hs) fun σ H Q ⟨H0, P0, P, ρ, r, R, e', q⟩ => by
  obtain ⟨y, ef, eg⟩ := e1_some e'
  unfold dIxS at eg
  split at eg
  · rename_i z
    intro p hn
    refine tPairs_S ps σ _ _ ⟨upd_same, kvsS ps, by unfold kvsS; rw [List.map_map]; rfl, by unfold kvsS; rw [List.length_map]; exact hps, ?_⟩
    have s1 := same_upd2 hn (.dK []) (.dK (mergeK [] (kvsS ps)))
    refine ⟨H0, P0, P, ρ, _, R.go s1, ef, fun v H2 s2 r2 => ?_⟩
    rw [r2.str]
    have h2 : H2 p = some (.dK (mergeK [] (kvsS ps))) := s2 _ _ upd_same
    split at eg
    · rename_i i hv
      cases eg
      exact ⟨p, .str i, rfl, .inl ⟨_, .inr z, .inl h2, rfl, hv.symm⟩, q _ H2 (s1.trans s2) (.str _)⟩
    · cases eg
  · cases eg
/-! ### {text: (int, ..), ..}[k] -/
/-- tuples of whole numbers that stand at new places -/
inductive TA (H0 H : Hp) : List (Str × List Int) → List V → Prop
  | nil : TA H0 H [] []
  | cons {a : Addr} {its : List Value} {ns : List Int} {x : Str} {ps : List (Str × List Int)} {vs : List V} : H a = some (fz its (ns.map V.int)) → H0 a = none → TA H0 H ps vs → TA H0 H ((x, ns) :: ps) (.ref a :: vs)
theorem TA.go {H0 H H' : Hp} (e : Same H H') : ∀ {ps : List (Str × List Int)} {vs : List V}, TA H0 H ps vs → TA H0 H' ps vs
  | _, _, .nil => .nil
  | _, _, .cons h n t => .cons (e _ _ h) n (TA.go e t)
theorem TA.back {H0 H1 H : Hp} (e : Same H0 H1) : ∀ {ps : List (Str × List Int)} {vs : List V}, TA H1 H ps vs → TA H0 H ps vs
  | _, _, .nil => .nil
  | _, _, .cons h n t => .cons h (e.free n) (TA.back e t)
def tInts : List Int → L2.TA
  | [] => tNil
  | i :: is => tCons (tC (.int i)) (tInts is)
theorem tInts_of : ∀ (ns : List Int) (σ : St) (H : Hp) (Q : List V → Hp → Prop), Q (ns.map V.int) H → tInts ns σ H Q
  | [], _, _, _, q => q
  | n :: ns, σ, H, Q, q => by
    show tInts ns σ H fun xs H2 => Q (V.int n :: xs) H2
    exact tInts_of ns σ H _ q
def kz : List (Str × List Int) → List V → List (Key × V)
  | (x, _) :: ps, v :: vs => (Sum.inr x, v) :: kz ps vs
  | _, _ => []
def pz : List (Str × List Int) → List V → List (V × V)
  | (x, _) :: ps, v :: vs => (V.str x, v) :: pz ps vs
  | _, _ => []
theorem kz_map : ∀ (ps : List (Str × List Int)) (vs : List V), (kz ps vs).map (fun kv => (kV kv.1, kv.2)) = pz ps vs
  | (x, ns) :: ps, v :: vs => by
    show (V.str x, v) :: (kz ps vs).map _ = (V.str x, v) :: pz ps vs
    rw [kz_map ps vs]
  | [], _ => rfl
  | _ :: _, [] => rfl
theorem kz_len : ∀ (ps : List (Str × List Int)) (vs : List V), (kz ps vs).length ≤ ps.length
  | (x, ns) :: ps, v :: vs => Nat.succ_le_succ (kz_len ps vs)
  | [], _ => Nat.le_refl _
  | _ :: _, [] => Nat.zero_le _
def trsT (ps : List (Str × List Int)) : List (TE × TE) := ps.map fun p => (tC (.str p.1), tTupF (tInts p.2))
theorem tPairs_T : ∀ (ps : List (Str × List Int)) (_ : ∀ p ∈ ps, p.2.length ≤ 1000) (σ : St) (H : Hp) (Q : List (V × V) → Hp → Prop), (∀ vs H', Same H H' → TA H H' ps vs → Q (pz ps vs) H') → tPairs (trsT ps) σ H Q
  | [], _, _, _, _, q => q [] _ (Same.refl _) .nil
  | (x, ns) :: ps, hp, σ, H, Q, q => by
    show tInts ns σ H fun xs H1 => xs.length ≤ sizeLine ∧ ∀ p its, H1 p = none → tPairs (trsT ps) σ (upd H1 p (fz its xs)) fun ys H3 => Q ((V.str x, V.ref p) :: ys) H3
    refine tInts_of ns σ H _ ⟨by rw [List.length_map, sizeLine_eq]; have := hp (x, ns) (by simp); simp at this; omega, fun p its hn => ?_⟩
    have s1 : Same H (upd H p (fz its (ns.map V.int))) := same_upd hn _
    refine tPairs_T ps (fun q hq => hp q (by simp [hq])) σ _ _ fun vs H' s2 t => ?_
    exact q (.ref p :: vs) H' (s1.trans s2) (.cons (s2 _ _ upd_same) hn (TA.back s1 t))
def lookT : List (Str × List Int) → Str → Option (List Int)
  | [], _ => none
  | (x, ns) :: r, z => if x = z then some ns else lookT r z
def dIxT (ps : List (Str × List Int)) : PyData → Option PyData
  | .str z => (lookT ps z).map fun ns => .tuple (ns.map .int)
  | _ => none
theorem ints_dq {K : PySem.W.Frag} {H : Hp} {P : Addr → Prop} : ∀ ns : List Int, DqA K H P (ns.map V.int) (ns.map PyData.int)
  | [] => .nil
  | n :: ns => .cons (.int n) (ints_dq ns)
theorem merge_out {z : Str} : ∀ (ps : List (Str × List Int)) (vs : List V) (acc : List (Key × V)), z ∉ ps.map (·.1) → valV (mergeK acc (kz ps vs)) (Sum.inr z) = valV acc (Sum.inr z)
  | [], vs, acc, _ => rfl
  | (x, ns) :: ps, [], acc, _ => rfl
  | (x, ns) :: ps, v :: vs, acc, h => by
    rw [List.map_cons, List.mem_cons, not_or] at h
    have hx : ¬ (Sum.inr z : Key) = Sum.inr x := fun e => h.1 (Sum.inr.inj e)
    have ih := merge_out (z := z) ps vs (putK acc (Sum.inr x) v) h.2
    show valV (mergeK (putK acc (Sum.inr x) v) (kz ps vs)) (Sum.inr z) = _
    rw [ih, valV_put, if_neg hx]
theorem merge_in {H0 H : Hp} {z : Str} {ns : List Int} : ∀ {ps : List (Str × List Int)} {vs : List V} (acc : List (Key × V)), TA H0 H ps vs → (ps.map (·.1)).Nodup → lookT ps z = some ns → ∃ a its, valV (mergeK acc (kz ps vs)) (Sum.inr z) = some (.ref a) ∧ H a = some (fz its (ns.map V.int)) ∧ H0 a = none
  | _, _, acc, .nil, _, e => by cases e
  | _, _, acc, .cons (a := a) (its := its) (ns := ms) (x := x) (ps := ps) (vs := vs) h n t, hd, e => by
    rw [List.map_cons, List.nodup_cons] at hd
    unfold lookT at e
    by_cases hx : x = z
    · rw [if_pos hx] at e
      cases e
      subst hx
      refine ⟨a, its, ?_, h, n⟩
      show valV (mergeK (putK acc (Sum.inr x) (.ref a)) (kz ps vs)) (Sum.inr x) = _
      rw [merge_out (z := x) ps vs _ hd.1, valV_put, if_pos rfl]
    · rw [if_neg hx] at e
      exact merge_in (putK acc (Sum.inr x) (.ref a)) t hd.2 e
theorem TA.len {H0 H : Hp} : ∀ {ps : List (Str × List Int)} {vs : List V}, TA H0 H ps vs → vs.length = ps.length
  | _, _, .nil => rfl
  | _, _, .cons _ _ t => congrArg (· + 1) (TA.len t)
theorem ev_dixT {ps : List (Str × List Int)} {dpos pos : Pos} {keys : List (Option Expr)} {values : List Expr} (hu : X.A.units + 1 < cLine) (hp : PPs X dpos keys values (trsT ps)) (hall : keys.all (·.isSome) = true) (hl : keys.length = values.length) (h0 : keys ≠ []) (h15 : keys.length ≤ 15) (hps : ps.length ≤ 15) (hsz : ∀ p ∈ ps, p.2.length ≤ 1000) (hnd : (ps.map (·.1)).Nodup)
    (he : ER X o b fb) (hs : NoSl b) : EV X o (.Subscript (.Dict keys values dpos) b pos) (e1 fb (dIxT ps)) := PE.imp (pe_dget hu (pe_disp hp hall hl h0 h15) he hs) fun σ H Q ⟨H0, P0, P, ρ, r, R, e', q⟩ => by
  obtain ⟨y, ef, eg⟩ := e1_some e'
  unfold dIxT at eg
  split at eg
  · rename_i z
    cases el : lookT ps z with
    | none => rw [el] at eg; cases eg
    | some ns =>
    rw [el] at eg
    cases eg
    intro p hn
    have sp : Same H (upd H p (.dK [])) := same_upd hn _
    refine tPairs_T ps hsz σ _ _ fun vs H2 s2 t2 => ?_
    have hp2 : H2 p = some (.dK []) := s2 _ _ upd_same
    refine ⟨hp2, kz ps vs, (kz_map ps vs).symm, Nat.le_trans (kz_len ps vs) hps, ?_⟩
    have s3 : Same H (upd H2 p (.dK (mergeK [] (kz ps vs)))) := fun c w hc => by
      rw [upd_ne (ne_of_none hc hn)]
      exact s2 _ _ (sp _ _ hc)
    refine ⟨H0, P0, P, ρ, _, R.go s3, ef, fun v H3 s4 r3 => ?_⟩
    rw [r3.str]
    obtain ⟨a, its, hv, ha, hna⟩ := merge_in [] t2 hnd el
    have hap : a ≠ p := fun e => by rw [e, upd_same] at hna; cases hna
    have ha3 : H3 a = some (fz its (ns.map V.int)) := s4 _ _ (by rw [upd_ne hap]; exact ha)
    have h3 : H3 p = some (.dK (mergeK [] (kz ps vs))) := s4 _ _ upd_same
    have hnH : H a = none := by rw [upd_ne hap] at hna; exact hna
    exact ⟨p, .ref a, rfl, .inl ⟨_, .inr z, .inl h3, rfl, hv.symm⟩, q _ H3 (s3.trans s4) (.tup ha3 (R.newP hnH) (ints_dq ns))⟩
  · cases eg
/-! ### int(x) of a truth, a whole number -/
def dInt : PyData → Option PyData
  | .int i => some (.int i)
  | .bool b => some (.int (if b then 1 else 0))
  | _ => none
theorem opF_int : CallR X (.type "int") (rC1 X.K dInt) := CallR.imp call_int1 fun vs H Q ⟨P, x, dx, d, ev, tr, rx, e, q⟩ => by
  subst ev
  unfold dInt at e
  split at e
  · cases e
    exact .inl ⟨_, by rw [rx.int], q _ H (Same.refl H) (.int _)⟩
  · cases e
    exact .inr ⟨_, by rw [rx.bl], q _ H (Same.refl H) (.int _)⟩
  · cases e
end TF

/-! TF4.lean -/
set_option Elab.async false
set_option linter.all false
set_option maxRecDepth 100000
/-! TF.4: x not in range(n) -/
namespace TF
open PySem PySem.Spec PyProof.Rows L2
variable [OK : OwnK] {X : Cx} {o : List Nat} {a b : Expr} {fa fb : Rho → Option PyData}
theorem op_outRng : OpR X (compareOp .NotIn) (fun x y H Q => ∃ z r lo hi, x = V.int z ∧ y = V.ref r ∧ H r = some (.rng lo hi) ∧ Q (.bl (!decide (lo ≤ z ∧ z < hi))) H) := by
  intro pins s σ H x y v u Q I rx ry h
  obtain ⟨z, r, lo, hi, ex, ey, hr, q⟩ := h
  subst ex ey
  obtain ⟨tz, rfl⟩ := rx
  obtain rfl : u = Value.ref r := ry
  obtain ⟨ta, tb, tc, obj⟩ := I.hok r _ hr
  show wpAny _ _ (do return Value.bool (!(← contains (Value.ref r) (Value.int z tz)))) _ _ s
  have m := q_contains r lo hi z ta tb tc tz
  refine wpAny_bind (wpAny_contains_slot (T := "range") ⟨_, obj, rfl⟩ PySem.F.slot_range_contains ?_)
  refine call_meets PySem.F.slot_range_contains ⟨_, obj, rfl⟩ PySem.F.entry_range_contains (PySem.F.args_range_contains_2 _ _) m ⟨obj, ?_⟩
  refine wpAny_truthy_bool (wpAny_pure ⟨.bl _, H, I, rfl, ?_⟩)
  rw [place1]
  exact q
theorem cr_rng1 : CallR X (.type "range") (fun vs H Q => ∃ n, vs = [V.int n] ∧ ∀ p, H p = none → Q (.ref p) (upd H p (.rng 0 n))) := by
  intro pins s σ H vs us Q I r h
  obtain ⟨n, ev, q⟩ := h
  subst ev
  obtain ⟨u, rfl, ru⟩ := vals1 r
  obtain ⟨tn, rfl⟩ := ru
  refine PySem.call_range_1 ⟨.ref s.heap.objs.size, upd H s.heap.objs.size (.rng 0 n), I.laid (t' := s.toks + 1 + 1) (fun _ _ e => Heap.get?_push_of_some _ e) (Nat.le_refl _) ?_, rfl, q _ (I.hok.fresh (Nat.le_refl _))⟩
  exact ⟨s.toks, tn, s.toks + 1, Heap.get?_push_size _ rfl⟩
def dOutRng : PyData → PyData → Option Bool
  | .int z, .int n => some (!decide (0 ≤ z ∧ z < n))
  | _, _ => none
theorem et_outRng {p p2 pos : Pos} (hm : X.mg "range" = none) (ha : ER X o a fa) (hb : ER X o b fb) (hg : Gl X "range" := by rfl)
    (he : starEach [b] X.env = (false, eval b X.env) :: starEach [] X.env := by rfl) (hpl : (backTo p2 (starEach [] X.env)).any (·.1) = false := by rfl) (hmk : behindInMarks .NotIn (.Call (.Name "range" p) [b] [] p2) = false := by rfl) :
    ET X o (.Compare a [.NotIn] [.Call (.Name "range" p) [b] [] p2] pos) (e2 fa fb dOutRng) := by
  refine PT.imp (pt_cmpR op_outRng ha (pe_callTy cr_rng1 hg hm (by decide +kernel) (pa_cons hb pa_nil he) (by decide) (by decide) he hpl) hmk) fun σ H Q ⟨H0, P0, P, ρ, d, R, e, q⟩ => ?_
  obtain ⟨x, y, h1, h2, h3⟩ := e2_some e
  unfold dOutRng at h3
  split at h3
  · rename_i z n
    cases h3
    refine ⟨H0, P0, P, ρ, _, R, h1, fun v H1 s1 r1 => ?_⟩
    refine ⟨H0, P0, P, ρ, _, R.go s1, h2, fun w H2 s2 r2 => ⟨n, by rw [r2.int], fun r hn => ?_⟩⟩
    exact ⟨z, r, 0, n, r1.int, rfl, upd_same, _, rfl, q _ (s1.trans (s2.trans (same_upd hn _)))⟩
  · cases h3
end TF

/-! TF5.lean -/
set_option Elab.async false
set_option linter.all false
set_option maxRecDepth 100000
/-! TF.5: xs[::-1] of lists too -/
namespace TF
open PySem PySem.Spec PyProof.Rows L2
variable [OK : OwnK]
section
variable {X : Cx} {o : List Nat} {e : Expr} {f : Rho → Option PyData} {pos : Pos}
theorem PE.either {t1 t2 : TE} (h1 : PE X e t1) (h2 : PE X e t2) : PE X e (fun σ H Q => t1 σ H Q ∨ t2 σ H Q) := ⟨fun pins s σ H Q I q => by
  rcases q with q | q
  · exact h1.run pins s σ H Q I q
  · exact h2.run pins s σ H Q I q⟩
def dRevA : PyData → Option PyData
  | .tuple ds => some (.tuple ds.reverse)
  | .list ds => some (.list ds.reverse)
  | _ => none
theorem ev_revA {k : Nat} {p1 p2 p3 : Pos} (h : ER X o e f) : EV X o (.Subscript e (.Slice none none (some (.UnaryOp .USub (.Constant (.int 1) k p1) p2)) p3) pos) (e1 f dRevA) := PE.imp (PE.either (pe_revT h) (pe_revL h)) fun σ H Q ⟨H0, P0, P, ρ, d, R, e', q⟩ => by
  obtain ⟨x, ef, eg⟩ := e1_some e'
  unfold dRevA at eg
  split at eg
  · cases eg
    refine .inl ⟨H0, P0, P, ρ, _, R, ef, fun v H1 s1 r1 => ?_⟩
    obtain ⟨a, xs, rfl, h, t⟩ := r1.tup
    exact ⟨a, xs, rfl, h, fun p its hp => q _ _ (s1.trans (same_upd hp _)) (.tup upd_same ((R.go s1).newP hp) (t.reverse.same (same_upd hp _)))⟩
  · cases eg
    refine .inr ⟨H0, P0, P, ρ, _, R, ef, fun v H1 s1 r1 => ?_⟩
    obtain ⟨a, xs, rfl, h, t⟩ := r1.lst
    exact ⟨a, xs, rfl, SqL.of h, fun p hp => q _ _ (s1.trans (same_upd hp _)) (.lst upd_same ((R.go s1).newP hp) (t.reverse.same (same_upd hp _)))⟩
  · cases eg
/-- a list, so many times -/
def dMulL : PyData → PyData → Option PyData
  | .list ds, .int k => if 0 ≤ k ∧ k ≤ 1000 ∧ ds.length ≤ 1000 then some (.list (List.replicate k.toNat ds).flatten) else none
  | _, _ => none
theorem opF_mulL : OpR X (binaryOp .Mult) (rF X.K dMulL) := OpR.imp op_rep fun x y H Q ⟨P, dx, dy, d, tr, rx, ry, e, q⟩ => by
  have np : ∀ {p : Addr}, H p = none → ¬ P p := fun h z => by obtain ⟨u, hu⟩ := tr _ z; rw [h] at hu; cases hu
  unfold dMulL at e
  split at e
  · rename_i ds k
    by_cases hz : 0 ≤ k ∧ k ≤ 1000 ∧ ds.length ≤ 1000
    · rw [if_pos hz] at e
      cases e
      obtain ⟨a, xs, rfl, h, t⟩ := rx.lst
      refine ⟨a, k, xs, rfl, ry.int, h, by omega, by omega, ?_, fun p hp => q _ _ (same_upd hp _) (.lst upd_same (np hp) ((t.rep k.toNat).same (same_upd hp _)))⟩
      rw [t.length, sizeLine_eq]
      have h1 : k.toNat ≤ 1000 := by omega
      exact Nat.le_trans (Nat.mul_le_mul hz.2.2 h1) (by decide)
    · rw [if_neg hz] at e; cases e
  · cases e
@[simp] theorem dMulL_ev {ds : List PyData} {k : Int} : dMulL (.list ds) (.int k) = if 0 ≤ k ∧ k ≤ 1000 ∧ ds.length ≤ 1000 then some (.list (List.replicate k.toNat ds).flatten) else none := rfl
@[simp] theorem dRevA_tup {ds : List PyData} : dRevA (.tuple ds) = some (.tuple ds.reverse) := rfl
@[simp] theorem dRevA_lst {ds : List PyData} : dRevA (.list ds) = some (.list ds.reverse) := rfl
end
end TF

/-! TFz.lean -/
set_option Elab.async false
set_option linter.all false
set_option maxRecDepth 100000
/-! TF.z: reckoning with the functions: rows for simp -/
namespace TF
open PySem PySem.Spec PyProof.Rows L2
section
variable {α : Type} {f fa fb fc : Rho → Option PyData} {g h : Rho → Option Fl} {ρ : Rho} {d x y : PyData} {i j : Nat}
@[simp] theorem fSeq_ev : fSeq g h ρ = (g ρ).bind fun fl => fThen fl h := rfl
@[simp] theorem fThen_nx : fThen (.nx ρ) g = g ρ := rfl
@[simp] theorem fThen_rt : fThen (.rt d) g = some (.rt d) := rfl
@[simp] theorem fThen_bk : fThen (.bk ρ) g = some (.bk ρ) := rfl
@[simp] theorem fThen_ct : fThen (.ct ρ) g = some (.ct ρ) := rfl
@[simp] theorem fThen_rx {ρ' : Rho} : fThen (.rx d ρ') g = some (.rx d ρ') := rfl
@[simp] theorem fThen_ex {x : Str} : fThen (.ex x) g = some (.ex x) := rfl
@[simp] theorem fThen_rl {b : Bool} : fThen (.rl b) g = some (.rl b) := rfl
@[simp] theorem fNil_ev : fNil ρ = some (.nx ρ) := rfl
@[simp] theorem fRet_ev : fRet f ρ = (f ρ).bind fun d => some (.rt d) := rfl
@[simp] theorem fBk_ev : fBk ρ = some (.bk ρ) := rfl
@[simp] theorem fCt_ev : fCt ρ = some (.ct ρ) := rfl
@[simp] theorem fIf_ev {t : Rho → Option Bool} : fIf t g h ρ = (t ρ).bind fun c => if c = true then g ρ else h ρ := rfl
@[simp] theorem fSet_ev : fSet i f ρ = (f ρ).bind fun d => some (.nx (ρ.set i (some d))) := rfl
@[simp] theorem fOwn_ev {l : Rho → Option (List PyData)} : fOwn i l ρ = (l ρ).bind fun d => if i < ρ.length then some (.nx (ρ.set i (some (.list d)))) else none := rfl
@[simp] theorem fPar_ev {l : Rho → Option (List PyData)} : fPar i j l ρ = (l ρ).bind fun ds => match ds with
  | [x, y] => some (.nx ((ρ.set i (some x)).set j (some y)))
  | _ => none := rfl
@[simp] theorem fAsg_ev {gt : PyData → Rho → Option Rho} : fAsg gt f ρ = (f ρ).bind fun d => (gt d ρ).bind fun r => some (.nx r) := rfl
@[simp] theorem fApp_ev : fApp i f ρ = (f ρ).bind fun d => match ρ.getD i none with
  | some (.list ds) => if ds.length < sizeLine then some (.nx (ρ.set i (some (.list (ds ++ [d]))))) else none
  | _ => none := rfl
@[simp] theorem fExt_ev : fExt i f ρ = (f ρ).bind fun d => match ρ.getD i none, d with
  | some (.list ds), .list es => if ds.length + es.length ≤ sizeLine then some (.nx (ρ.set i (some (.list (ds ++ es))))) else none
  | _, _ => none := rfl
@[simp] theorem fFor_ev {it : Rho → Option (List PyData)} {tg : PyData → Rho → Option Rho} {ks : List Nat} : fFor it tg ks g ρ = (it ρ).bind fun ds => forGo tg g ks ds (clr ks ρ) := rfl
@[simp] theorem fWhile_ev {n : Nat} {t : Rho → Option Bool} {ks : List Nat} : fWhile n t ks g ρ = whGo t g ks n (clr ks ρ) := rfl
@[simp] theorem clr_nil : clr [] ρ = ρ := rfl
@[simp] theorem clr_cons {k : Nat} {ks : List Nat} : clr (k :: ks) ρ = clr ks (ρ.set k none) := rfl
@[simp] theorem g1_ev : g1 i d ρ = some (ρ.set i (some d)) := rfl
@[simp] theorem g2_ev : g2 i j (.tuple [x, y]) ρ = some ((ρ.set i (some x)).set j (some y)) := rfl
@[simp] theorem g3_ev {k : Nat} {z : PyData} : g3 i j k (.tuple [x, y, z]) ρ = some (((ρ.set i (some x)).set j (some y)).set k (some z)) := rfl
@[simp] theorem eVar_ev : eVar i ρ = ρ.getD i none := rfl
@[simp] theorem eC_ev : eC d ρ = some d := rfl
@[simp] theorem eL_ev {l : Rho → Option (List PyData)} : eL l ρ = (l ρ).map PyData.list := rfl
@[simp] theorem e1_ev {k : PyData → Option α} : e1 f k ρ = (f ρ).bind k := rfl
@[simp] theorem e2_ev {k : PyData → PyData → Option α} : e2 fa fb k ρ = (fa ρ).bind fun x => (fb ρ).bind fun y => k x y := rfl
@[simp] theorem eB_ev {t : Rho → Option Bool} : eB t ρ = (t ρ).map PyData.bool := rfl
@[simp] theorem eT_ev : eT f ρ = (f ρ).bind dB := rfl
@[simp] theorem dB_ev {b : Bool} : dB (.bool b) = some b := rfl
@[simp] theorem eChain_ev {k k' : PyData → PyData → Option Bool} : eChain fa fb fc k k' ρ = (fa ρ).bind fun x => (fb ρ).bind fun y => (k x y).bind fun b => if b = true then (fc ρ).bind fun z => k' y z else some false := rfl
@[simp] theorem eNoPart_ev : eNoPart ρ = some none := rfl
@[simp] theorem ePart_ev : ePart f ρ = (f ρ).bind fun d => match d with
  | .int i => some (some i)
  | _ => none := rfl
@[simp] theorem eSl_ev {l u : Rho → Option (Option Int)} {k : PyData → Option Int → Option Int → Option PyData} : eSl f l u k ρ = (f ρ).bind fun x => (l ρ).bind fun i => (u ρ).bind fun j => k x i j := rfl
@[simp] theorem aNil_ev : aNil ρ = some [] := rfl
@[simp] theorem aCons_ev {l : Rho → Option (List PyData)} : aCons f l ρ = (f ρ).bind fun x => (l ρ).bind fun xs => some (x :: xs) := rfl
@[simp] theorem eTup_ev {l : Rho → Option (List PyData)} : eTup l ρ = (l ρ).bind fun ds => if ds.length ≤ 1000 then some (.tuple ds) else none := rfl
@[simp] theorem eLst_ev {l : Rho → Option (List PyData)} : eLst l ρ = (l ρ).bind fun ds => if ds.length ≤ 1000 then some ds else none := rfl
@[simp] theorem tAnd_ev {s t : Rho → Option Bool} : tAnd s t ρ = (s ρ).bind fun c => if c = true then t ρ else some false := rfl
@[simp] theorem tOr_ev {s t : Rho → Option Bool} : tOr s t ρ = (s ρ).bind fun c => if c = true then some true else t ρ := rfl
@[simp] theorem tNot_ev {s : Rho → Option Bool} : tNot s ρ = (s ρ).bind fun c => some (!c) := rfl
@[simp] theorem vAnd_ev : vAnd fa fb ρ = ((fa ρ).bind dB).bind fun c => if c = true then fb ρ else some (.bool false) := rfl
@[simp] theorem vOr_ev : vOr fa fb ρ = ((fa ρ).bind dB).bind fun c => if c = true then some (.bool true) else fb ρ := rfl
@[simp] theorem vNot_ev : vNot fa ρ = ((fa ρ).bind dB).bind fun c => some (.bool (!c)) := rfl
@[simp] theorem eIf_ev {t : Rho → Option Bool} : eIf t fa fb ρ = (t ρ).bind fun c => if c = true then fa ρ else fb ρ := rfl
@[simp] theorem eCall_ev {n : Nat} {m : List PyData → Option PyData} {l : Rho → Option (List PyData)} : eCall n m l ρ = (l ρ).bind fun ds => if ds.length = n then m ds else none := rfl
@[simp] theorem eLc_ev {it : Rho → Option (List PyData)} {tg : PyData → Rho → Option Rho} {tt : Rho → Option Bool} : eLc it tg tt f ρ = (it ρ).bind fun ds => lcGo tg tt f ρ ds := rfl
@[simp] theorem tYs_ev : tYs ρ = some true := rfl
@[simp] theorem lcGo_nil {tg : PyData → Rho → Option Rho} {tt : Rho → Option Bool} : lcGo tg tt f ρ [] = some [] := rfl
@[simp] theorem forGo_nil {tg : PyData → Rho → Option Rho} {ks : List Nat} : forGo tg g ks [] ρ = some (.nx ρ) := rfl
end
/-! ### operators on data -/
section
variable {d e x y : PyData} {ds es : List PyData} {a b : Str} {i j : Int}
@[simp] theorem dAddA_int : dAddA (.int i) (.int j) = some (.int (i + j)) := rfl
@[simp] theorem dAddA_str : dAddA (.str a) (.str b) = if a.length + b.length ≤ sizeLine then some (.str (a ++ b)) else none := rfl
@[simp] theorem dAddA_tup : dAddA (.tuple ds) (.tuple es) = if ds.length + es.length ≤ sizeLine then some (.tuple (ds ++ es)) else none := rfl
@[simp] theorem dAddA_lst : dAddA (.list ds) (.list es) = if ds.length + es.length ≤ sizeLine then some (.list (ds ++ es)) else none := rfl
@[simp] theorem dAddL_ev : dAddL (.list ds) (.list es) = if ds.length + es.length ≤ sizeLine then some (ds ++ es) else none := rfl
@[simp] theorem dSub_ev : dSub (.int i) (.int j) = some (.int (i - j)) := rfl
@[simp] theorem dDiv_ev : dDiv (.int i) (.int j) = if 0 < j ∧ j < 1073741824 then some (.int (i / j)) else none := rfl
@[simp] theorem dMod_ev : dMod (.int i) (.int j) = if 0 < j then some (.int (i % j)) else none := rfl
@[simp] theorem dMulA_int : dMulA (.int i) (.int j) = if (-(2 ^ 64) < i ∧ i < 2 ^ 64) ∨ (-(2 ^ 64) < j ∧ j < 2 ^ 64) then some (.int (i * j)) else none := rfl
@[simp] theorem dLtA_int : dLtA (.int i) (.int j) = some (decide (i < j)) := rfl
@[simp] theorem dLe_int : dLe (.int i) (.int j) = some (decide (i ≤ j)) := rfl
@[simp] theorem dGt_int : dGt (.int i) (.int j) = some (decide (j < i)) := rfl
@[simp] theorem dGe_int : dGe (.int i) (.int j) = some (decide (j ≤ i)) := rfl
@[simp] theorem dSl_tup {lo hi : Option Int} : dSl (.tuple ds) lo hi = some (.tuple (cutD ds lo hi)) := rfl
@[simp] theorem dSl_lst {lo hi : Option Int} : dSl (.list ds) lo hi = some (.list (cutD ds lo hi)) := rfl
@[simp] theorem dLen_tup : dLen (.tuple ds) = some (.int ds.length) := rfl
@[simp] theorem dLen_lst : dLen (.list ds) = some (.int ds.length) := rfl
@[simp] theorem dTuple_tup : dTuple (.tuple ds) = some (.tuple ds) := rfl
@[simp] theorem dTuple_lst : dTuple (.list ds) = some (.tuple ds) := rfl
@[simp] theorem dSeqs_tup : dSeqs (.tuple ds) = some ds := rfl
@[simp] theorem dSeqs_lst : dSeqs (.list ds) = some ds := rfl
@[simp] theorem dWalk_tup : dWalk (.tuple ds) = some ds := rfl
@[simp] theorem dWalk_lst : dWalk (.list ds) = some ds := rfl
@[simp] theorem dRng1_ev : dRng1 (.int i) = if -1000000 ≤ i ∧ i ≤ 1000000 then some (rints 0 i.toNat) else none := rfl
@[simp] theorem dRng2_ev : dRng2 (.int i) (.int j) = if -1000000 ≤ i ∧ i ≤ 1000000 ∧ j ≤ 1000000 ∧ -1000000 ≤ j then some (rints i (j - i).toNat) else none := rfl
@[simp] theorem dNotIn_ev : dNotIn x y = (dIn x y).map (!·) := rfl
@[simp] theorem dIs_none : dIs .none .none = some true := rfl
@[simp] theorem dIs_tup : dIs (.tuple ds) .none = some false := rfl
@[simp] theorem dIsNot_ev : dIsNot x y = (dIs x y).map (!·) := rfl
@[simp] theorem dIx_tup0 : dIx (.tuple (x :: ds)) (.int 0) = some x := by
  show atI (x :: ds) 0 = some x
  exact atI_nat (j := 0) rfl
@[simp] theorem dIx_tup1 : dIx (.tuple (x :: y :: ds)) (.int 1) = some y := by
  show atI (x :: y :: ds) 1 = some y
  exact atI_nat (j := 1) rfl
@[simp] theorem dIx_tup2 : dIx (.tuple (x :: y :: d :: ds)) (.int 2) = some d := by
  show atI (x :: y :: d :: ds) 2 = some d
  exact atI_nat (j := 2) rfl
@[simp] theorem dIx_tup3 : dIx (.tuple (x :: y :: d :: e :: ds)) (.int 3) = some e := by
  show atI (x :: y :: d :: e :: ds) 3 = some e
  exact atI_nat (j := 3) rfl
theorem cutD_from1 : cutD (x :: ds) (some 1) none = ds := by
  unfold cutD HT.sIx
  simp
theorem cutD_to2 : cutD (x :: y :: ds) none (some 2) = [x, y] := by
  unfold cutD HT.sIx
  simp
end
/-! ### == of told data -/
@[simp] theorem sz0 : 0 ≤ sizeLine := Nat.zero_le _
@[simp] theorem sz1 : 1 ≤ sizeLine := by rw [sizeLine_eq]; decide
@[simp] theorem sz2 : 2 ≤ sizeLine := by rw [sizeLine_eq]; decide
@[simp] theorem sz3 : 3 ≤ sizeLine := by rw [sizeLine_eq]; decide
@[simp] theorem sz4 : 4 ≤ sizeLine := by rw [sizeLine_eq]; decide
@[simp] theorem sz5 : 5 ≤ sizeLine := by rw [sizeLine_eq]; decide
@[simp] theorem sz6 : 6 ≤ sizeLine := by rw [sizeLine_eq]; decide
@[simp] theorem szl : 0 < sizeLine := by rw [sizeLine_eq]; decide
theorem pl_str {a : Str} : pl (.str a) = true := rfl
theorem pl_int {a : Int} : pl (.int a) = true := rfl
theorem dEq_str {a b : Str} : dEq (.str a) (.str b) = some (a == b) := rfl
theorem dEq_int {a b : Int} : dEq (.int a) (.int b) = some (a == b) := rfl
end TF

/-! TFy.lean -/
set_option Elab.async false
set_option linter.all false
set_option maxRecDepth 100000
/-! TF.y: evaluation of what TF.j, TF.k bring -/
namespace TF
open PySem PySem.Spec PyProof.Rows L2
section
variable {i j : Int} {ds es : List PyData} {d : PyData}
@[simp] theorem dAbs_ev : dAbs (.int i) = some (.int (if i < 0 then -i else i)) := rfl
@[simp] theorem dEnum_tup : dEnum (.tuple ds) = some (enumD 0 ds) := rfl
@[simp] theorem dEnum_lst : dEnum (.list ds) = some (enumD 0 ds) := rfl
@[simp] theorem dMax2_ev : dMax2 (.int i) (.int j) = some (.int (if j > i then j else i)) := rfl
@[simp] theorem dMin2_ev : dMin2 (.int i) (.int j) = some (.int (if j < i then j else i)) := rfl
theorem dSum_ints (ns : List Int) : dSum (.list (ns.map PyData.int)) = some (.int ns.sum) := by
  show (intsD _).map _ = _
  rw [intsD_map]; rfl
theorem dIndexT_strs {ys : List Str} {z : Str} {k : Nat} (h : idxS z ys = some k) : dIndexT (.tuple (ys.map PyData.str)) (.str z) = some (.int k) := by
  have e : strsD (ys.map PyData.str) = some ys := by
    clear h
    induction ys with
    | nil => rfl
    | cons y ys ih => simp only [List.map_cons, strsD, ih]; rfl
  show (strsD _).bind _ = _
  rw [e]
  simp [h]
theorem idxS_mem {z : Str} : ∀ {ys : List Str}, z ∈ ys → idxS z ys = some (ys.idxOf z)
  | [], h => by cases h
  | y :: ys, h => by
    unfold idxS
    by_cases e : y = z
    · rw [if_pos e]; simp [e]
    · rw [if_neg e]
      have h' : z ∈ ys := by
        rcases List.mem_cons.mp h with h | h
        · exact absurd h.symm e
        · exact h
      have eb : (y == z) = false := beq_eq_false_iff_ne.mpr e
      rw [idxS_mem h', List.idxOf_cons, eb]; rfl
theorem dIndex_mem {z : Str} {ys : List Str} (h : z ∈ ys) : dIndexT (.tuple (ys.map PyData.str)) (.str z) = some (.int (ys.idxOf z : Nat)) := dIndexT_strs (idxS_mem h)
end
end TF

/-! Tk.lean -/
set_option Elab.async false
set_option linter.all false
set_option maxRecDepth 100000
/-! TK: talks as Lean data; what they are as PyData -/
namespace TK
open PySem PySem.Spec PyProof.Rows L2 TF
inductive Step where
  | tell (a b w : Str)
  | choice (bs : List (List Step))
  | round (s : List Step)
  | both (s t : List Step)
abbrev Steps := List Step
theorem Step.ind {P : Step → Prop} (h1 : ∀ a b w, P (.tell a b w)) (h2 : ∀ bs, (∀ b ∈ bs, ∀ s ∈ b, P s) → P (.choice bs)) (h3 : ∀ l, (∀ s ∈ l, P s) → P (.round l)) (h4 : ∀ l r, (∀ s ∈ l, P s) → (∀ s ∈ r, P s) → P (.both l r)) : ∀ s, P s
  | .tell a b w => h1 a b w
  | .choice bs => h2 bs fun b hb s hs => Step.ind h1 h2 h3 h4 s
  | .round l => h3 l fun s hs => Step.ind h1 h2 h3 h4 s
  | .both l r => h4 l r (fun s hs => Step.ind h1 h2 h3 h4 s) (fun s hs => Step.ind h1 h2 h3 h4 s)
termination_by s => sizeOf s
decreasing_by
  all_goals simp_wf
  · have := List.sizeOf_lt_of_mem hb; have := List.sizeOf_lt_of_mem hs; omega
  · have := List.sizeOf_lt_of_mem hs; omega
  · have := List.sizeOf_lt_of_mem hs; omega
  · have := List.sizeOf_lt_of_mem hs; omega
/-- as data -/
def sD : Step → PyData
  | .tell a b w => .tuple [.str "tell", .str a, .str b, .str w]
  | .choice bs => .tuple [.str "choice", .tuple (bs.map fun b => .tuple (b.map sD))]
  | .round s => .tuple [.str "round", .tuple (s.map sD)]
  | .both s t => .tuple [.str "both", .tuple (s.map sD), .tuple (t.map sD)]
termination_by s => sizeOf s
decreasing_by
  all_goals simp_wf
  all_goals first
    | (have h1 := List.sizeOf_lt_of_mem ‹b ∈ bs›; have h2 := List.sizeOf_lt_of_mem ‹_ ∈ b›; omega)
    | (have h2 := List.sizeOf_lt_of_mem ‹_ ∈ _›; omega)
/-- steps as data -/
def ssD (s : Steps) : PyData := .tuple (s.map sD)
theorem sD_tell (a b w : Str) : sD (.tell a b w) = .tuple [.str "tell", .str a, .str b, .str w] := by rw [sD]
theorem sD_choice (bs : List Steps) : sD (.choice bs) = .tuple [.str "choice", .tuple (bs.map ssD)] := by rw [sD]; rfl
theorem sD_round (s : Steps) : sD (.round s) = .tuple [.str "round", ssD s] := by rw [sD]; rfl
theorem sD_both (s t : Steps) : sD (.both s t) = .tuple [.str "both", ssD s, ssD t] := by rw [sD]; rfl
/-- how deep -/
def dep : Step → Nat
  | .tell _ _ _ => 0
  | .choice bs => 1 + (bs.map fun b => (b.map dep).foldr max 0).foldr max 0
  | .round s => 1 + (s.map dep).foldr max 0
  | .both s t => 1 + max ((s.map dep).foldr max 0) ((t.map dep).foldr max 0)
termination_by s => sizeOf s
decreasing_by
  all_goals simp_wf
  all_goals first
    | (have h1 := List.sizeOf_lt_of_mem ‹b ∈ bs›; have h2 := List.sizeOf_lt_of_mem ‹_ ∈ b›; omega)
    | (have h2 := List.sizeOf_lt_of_mem ‹_ ∈ _›; omega)
def deps (s : Steps) : Nat := (s.map dep).foldr max 0
theorem max_le {l : List Nat} {n : Nat} : l.foldr max 0 ≤ n ↔ ∀ x ∈ l, x ≤ n := by
  induction l with
  | nil => simp
  | cons a l ih => rw [List.foldr_cons, Nat.max_le, ih]; simp
theorem deps_le {s : Steps} {n : Nat} : deps s ≤ n ↔ ∀ x ∈ s, dep x ≤ n := by
  unfold deps
  rw [max_le]; simp
theorem dep_tell (a b w : Str) : dep (.tell a b w) = 0 := by rw [dep]
theorem dep_choice (bs : List Steps) : dep (.choice bs) = 1 + (bs.map deps).foldr max 0 := by rw [dep]; rfl
theorem dep_round (s : Steps) : dep (.round s) = 1 + deps s := by rw [dep]; rfl
theorem dep_both (s t : Steps) : dep (.both s t) = 1 + max (deps s) (deps t) := by rw [dep]; rfl
theorem dep_choice_le {bs : List Steps} {n : Nat} (h : dep (.choice bs) ≤ n + 1) : ∀ b ∈ bs, deps b ≤ n := by
  rw [dep_choice] at h
  have : (bs.map deps).foldr max 0 ≤ n := by omega
  rw [max_le] at this
  intro b hb
  exact this _ (List.mem_map_of_mem hb)
/-- how many rows -/
def hgt : Step → Nat
  | .tell _ _ _ => 1
  | .choice bs => 1 + (bs.map fun b => (b.map hgt).sum).sum + bs.length
  | .round s => 2 + (s.map hgt).sum
  | .both s t => 3 + ((s.map hgt).sum + (t.map hgt).sum)
termination_by s => sizeOf s
decreasing_by
  all_goals simp_wf
  all_goals first
    | (have h1 := List.sizeOf_lt_of_mem ‹b ∈ bs›; have h2 := List.sizeOf_lt_of_mem ‹_ ∈ b›; omega)
    | (have h2 := List.sizeOf_lt_of_mem ‹_ ∈ _›; omega)
def hgts (s : Steps) : Nat := (s.map hgt).sum
theorem hgt_tell (a b w : Str) : hgt (.tell a b w) = 1 := by rw [hgt]
theorem hgt_choice (bs : List Steps) : hgt (.choice bs) = 1 + (bs.map hgts).sum + bs.length := by rw [hgt]; rfl
theorem hgt_round (s : Steps) : hgt (.round s) = 2 + hgts s := by rw [hgt]; rfl
theorem hgt_both (s t : Steps) : hgt (.both s t) = 3 + (hgts s + hgts t) := by rw [hgt]; rfl
theorem hgts_nil : hgts [] = 0 := rfl
theorem hgts_cons (x : Step) (s : Steps) : hgts (x :: s) = hgt x + hgts s := by simp [hgts]
theorem hgts_append (s t : Steps) : hgts (s ++ t) = hgts s + hgts t := by simp [hgts]
theorem hgt_pos (s : Step) : 1 ≤ hgt s := by
  cases s
  · rw [hgt_tell]; exact Nat.le_refl _
  · rw [hgt_choice]; omega
  · rw [hgt_round]; omega
  · rw [hgt_both]; omega
theorem len_hgts (s : Steps) : s.length ≤ hgts s := by
  induction s with
  | nil => exact Nat.zero_le _
  | cons x s ih => rw [hgts_cons, List.length_cons]; have := hgt_pos x; omega
theorem sum_mem {l : List Nat} {x : Nat} (h : x ∈ l) : x ≤ l.sum := by
  induction l with
  | nil => cases h
  | cons a l ih =>
    rw [List.sum_cons]
    rcases List.mem_cons.mp h with rfl | h
    · omega
    · have := ih h; omega
theorem hgts_mem {x : Step} {s : Steps} (h : x ∈ s) : hgt x ≤ hgts s := sum_mem (List.mem_map_of_mem h)
theorem hgts_memB {b : Steps} {bs : List Steps} (h : b ∈ bs) : hgts b ≤ (bs.map hgts).sum := sum_mem (List.mem_map_of_mem h)

/-! ### plain, depth -/
theorem depthAll_le {ds : List PyData} {n : Nat} : PyData.depthAll ds ≤ n ↔ ∀ d ∈ ds, d.depth ≤ n := by
  induction ds with
  | nil => simp [PyData.depthAll]
  | cons a l ih => rw [PyData.depthAll, Nat.max_le, ih]; simp
theorem plainAll_iff {ds : List PyData} : PyData.plainAll ds = true ↔ ∀ d ∈ ds, d.plain = true := by
  induction ds with
  | nil => simp [PyData.plainAll]
  | cons a l ih => rw [PyData.plainAll, Bool.and_eq_true, ih]; simp
theorem plain_tup {ds : List PyData} : (PyData.tuple ds).plain = true ↔ ∀ d ∈ ds, d.plain = true := by rw [PyData.plain, plainAll_iff]
theorem plain_lst {ds : List PyData} : (PyData.list ds).plain = true ↔ ∀ d ∈ ds, d.plain = true := by rw [PyData.plain, plainAll_iff]
theorem depth_tup {ds : List PyData} {n : Nat} : (PyData.tuple ds).depth ≤ n + 1 ↔ ∀ d ∈ ds, d.depth ≤ n := by rw [PyData.depth, ← depthAll_le]; omega
theorem depth_lst {ds : List PyData} {n : Nat} : (PyData.list ds).depth ≤ n + 1 ↔ ∀ d ∈ ds, d.depth ≤ n := by rw [PyData.depth, ← depthAll_le]; omega
theorem depth_str {a : Str} : (PyData.str a).depth = 0 := by rw [PyData.depth]
theorem depth_int {a : Int} : (PyData.int a).depth = 0 := by rw [PyData.depth]
theorem plain_str {a : Str} : (PyData.str a).plain = true := by rw [PyData.plain]
theorem plain_int {a : Int} : (PyData.int a).plain = true := by rw [PyData.plain]
theorem sD_plain (s : Step) : (sD s).plain = true := by
  induction s using Step.ind with
  | h1 a b w => rw [sD_tell, plain_tup]; simp [plain_str]
  | h2 bs ih =>
    rw [sD_choice, plain_tup]
    simp only [List.mem_cons, List.not_mem_nil, or_false, forall_eq_or_imp, forall_eq, plain_str, true_and, plain_tup, List.mem_map, forall_exists_index, and_imp, forall_apply_eq_imp_iff₂]
    intro b hb
    unfold ssD
    rw [plain_tup]
    simp only [List.mem_map, forall_exists_index, and_imp, forall_apply_eq_imp_iff₂]
    exact ih b hb
  | h3 l ih =>
    rw [sD_round, plain_tup]
    simp only [List.mem_cons, List.not_mem_nil, or_false, forall_eq_or_imp, forall_eq, plain_str, true_and]
    unfold ssD
    rw [plain_tup]
    simp only [List.mem_map, forall_exists_index, and_imp, forall_apply_eq_imp_iff₂]
    exact ih
  | h4 l r ih ih2 =>
    rw [sD_both, plain_tup]
    simp only [List.mem_cons, List.not_mem_nil, or_false, forall_eq_or_imp, forall_eq, plain_str, true_and]
    unfold ssD
    rw [plain_tup, plain_tup]
    simp only [List.mem_map, forall_exists_index, and_imp, forall_apply_eq_imp_iff₂]
    exact ⟨ih, ih2⟩
theorem ssD_plain (s : Steps) : (ssD s).plain = true := by
  unfold ssD
  rw [plain_tup]
  simp only [List.mem_map, forall_exists_index, and_imp, forall_apply_eq_imp_iff₂]
  exact fun s _ => sD_plain s
theorem ssD_depth_of {s : Steps} {n : Nat} (h : ∀ x ∈ s, (sD x).depth ≤ n) : (ssD s).depth ≤ n + 1 := by
  unfold ssD
  rw [depth_tup]
  simp only [List.mem_map, forall_exists_index, and_imp, forall_apply_eq_imp_iff₂]
  exact h
theorem sD_depth : ∀ (n : Nat) (s : Step), dep s ≤ n → (sD s).depth ≤ 3 * n + 1
  | n, .tell a b w, h => by
    rw [sD_tell, depth_tup]
    simp [depth_str]
  | 0, .choice bs, h => by rw [dep_choice] at h; omega
  | 0, .round s, h => by rw [dep_round] at h; omega
  | 0, .both s t, h => by rw [dep_both] at h; omega
  | n + 1, .choice bs, h => by
    have hb := dep_choice_le h
    have e : 3 * (n + 1) + 1 = (3 * n + 3) + 1 := by omega
    rw [sD_choice, e, depth_tup]
    simp only [List.mem_cons, List.not_mem_nil, or_false, forall_eq_or_imp, forall_eq, depth_str]
    refine ⟨by omega, ?_⟩
    rw [depth_tup]
    simp only [List.mem_map, forall_exists_index, and_imp, forall_apply_eq_imp_iff₂]
    exact fun b hbm => ssD_depth_of fun x hx => sD_depth n x (deps_le.mp (hb b hbm) x hx)
  | n + 1, .round s, h => by
    rw [dep_round] at h
    have e : 3 * (n + 1) + 1 = (3 * n + 3) + 1 := by omega
    rw [sD_round, e, depth_tup]
    simp only [List.mem_cons, List.not_mem_nil, or_false, forall_eq_or_imp, forall_eq, depth_str]
    refine ⟨by omega, ?_⟩
    exact Nat.le_succ_of_le (ssD_depth_of fun x hx => sD_depth n x (deps_le.mp (by omega) x hx))
  | n + 1, .both s t, h => by
    rw [dep_both] at h
    have e : 3 * (n + 1) + 1 = (3 * n + 3) + 1 := by omega
    rw [sD_both, e, depth_tup]
    simp only [List.mem_cons, List.not_mem_nil, or_false, forall_eq_or_imp, forall_eq, depth_str]
    exact ⟨by omega, Nat.le_succ_of_le (ssD_depth_of fun x hx => sD_depth n x (deps_le.mp (by omega) x hx)), Nat.le_succ_of_le (ssD_depth_of fun x hx => sD_depth n x (deps_le.mp (by omega) x hx))⟩
theorem ssD_depth {n : Nat} {s : Steps} (h : deps s ≤ n) : (ssD s).depth ≤ 3 * n + 2 := ssD_depth_of fun x hx => sD_depth n x (deps_le.mp h x hx)
theorem pl_of {d : PyData} (h : d.plain = true) (h2 : d.depth ≤ 64) : pl d = true := by
  unfold pl
  rw [h, decide_eq_true h2] <;> rfl
theorem pl_sD {s : Step} (h : dep s ≤ 20) : pl (sD s) = true := pl_of (sD_plain s) (by have := sD_depth 20 s h; omega)
theorem pl_ssD {s : Steps} (h : deps s ≤ 20) : pl (ssD s) = true := pl_of (ssD_plain s) (by have := ssD_depth h; omega)

/-! ### == is equality -/
mutual
/-- no truths, no dicts -/
def nb : PyData → Bool
  | .none | .int _ | .str _ => true
  | .bool _ | .dict _ => false
  | .list xs | .tuple xs => nbA xs
def nbA : List PyData → Bool
  | [] => true
  | x :: xs => nb x && nbA xs
end
mutual
theorem eqv_iff : ∀ d e : PyData, nb d = true → nb e = true → (PyData.eqv d e = true ↔ d = e)
  | .none, e, _, h => by cases e <;> simp_all [PyData.eqv, nb]
  | .int i, e, _, h => by cases e <;> simp_all [PyData.eqv, nb]
  | .str x, e, _, h => by cases e <;> simp_all [PyData.eqv, nb]
  | .bool _, _, h, _ => by simp [nb] at h
  | .dict _, _, h, _ => by simp [nb] at h
  | .list xs, e, h, h' => by
    cases e with
    | list ys =>
      simp only [nb] at h h'
      simp only [PyData.eqv, PyData.list.injEq]
      exact eqvA_iff xs ys h h'
    | _ => simp_all [PyData.eqv, nb]
  | .tuple xs, e, h, h' => by
    cases e with
    | tuple ys =>
      simp only [nb] at h h'
      simp only [PyData.eqv, PyData.tuple.injEq]
      exact eqvA_iff xs ys h h'
    | _ => simp_all [PyData.eqv, nb]
theorem eqvA_iff : ∀ d e : List PyData, nbA d = true → nbA e = true → (PyData.eqvAll d e = true ↔ d = e)
  | [], [], _, _ => by simp [PyData.eqvAll]
  | [], _ :: _, _, _ => by simp [PyData.eqvAll]
  | _ :: _, [], _, _ => by simp [PyData.eqvAll]
  | x :: xs, y :: ys, h, h' => by
    simp only [nbA, Bool.and_eq_true] at h h'
    simp only [PyData.eqvAll, Bool.and_eq_true, List.cons.injEq, eqv_iff x y h.1 h'.1, eqvA_iff xs ys h.2 h'.2]
end
theorem nbA_iff {ds : List PyData} : nbA ds = true ↔ ∀ d ∈ ds, nb d = true := by
  induction ds with
  | nil => simp [nbA]
  | cons a l ih => rw [nbA, Bool.and_eq_true, ih]; simp
theorem nb_tup {ds : List PyData} : nb (PyData.tuple ds) = true ↔ ∀ d ∈ ds, nb d = true := by rw [nb, nbA_iff]
theorem nb_lst {ds : List PyData} : nb (PyData.list ds) = true ↔ ∀ d ∈ ds, nb d = true := by rw [nb, nbA_iff]
theorem nb_str {a : Str} : nb (.str a) = true := by rw [nb]
theorem nb_int {a : Int} : nb (.int a) = true := by rw [nb]
theorem sD_nb (s : Step) : nb (sD s) = true := by
  induction s using Step.ind with
  | h1 a b w => rw [sD_tell, nb_tup]; simp [nb_str]
  | h2 bs ih =>
    rw [sD_choice, nb_tup]
    simp only [List.mem_cons, List.not_mem_nil, or_false, forall_eq_or_imp, forall_eq, nb_str, true_and, nb_tup, List.mem_map, forall_exists_index, and_imp, forall_apply_eq_imp_iff₂]
    intro b hb
    unfold ssD
    rw [nb_tup]
    simp only [List.mem_map, forall_exists_index, and_imp, forall_apply_eq_imp_iff₂]
    exact ih b hb
  | h3 l ih =>
    rw [sD_round, nb_tup]
    simp only [List.mem_cons, List.not_mem_nil, or_false, forall_eq_or_imp, forall_eq, nb_str, true_and]
    unfold ssD
    rw [nb_tup]
    simp only [List.mem_map, forall_exists_index, and_imp, forall_apply_eq_imp_iff₂]
    exact ih
  | h4 l r ih ih2 =>
    rw [sD_both, nb_tup]
    simp only [List.mem_cons, List.not_mem_nil, or_false, forall_eq_or_imp, forall_eq, nb_str, true_and]
    unfold ssD
    rw [nb_tup, nb_tup]
    simp only [List.mem_map, forall_exists_index, and_imp, forall_apply_eq_imp_iff₂]
    exact ⟨ih, ih2⟩
theorem ssD_nb (s : Steps) : nb (ssD s) = true := by
  unfold ssD
  rw [nb_tup]
  simp only [List.mem_map, forall_exists_index, and_imp, forall_apply_eq_imp_iff₂]
  exact fun s _ => sD_nb s
theorem map_inj_on {α β : Type} {f : α → β} : ∀ {l m : List α}, (∀ a ∈ l, ∀ b, f a = f b → a = b) → l.map f = m.map f → l = m
  | [], [], _, _ => rfl
  | [], _ :: _, _, h => by simp at h
  | _ :: _, [], _, h => by simp at h
  | a :: l, b :: m, i, h => by
    simp only [List.map_cons, List.cons.injEq] at h
    rw [i a (by simp) b h.1, map_inj_on (fun x hx => i x (by simp [hx])) h.2]
theorem sD_inj (s : Step) : ∀ t, sD s = sD t → s = t := by
  have d1 : ("tell" : Str) ≠ "choice" := by decide
  have d2 : ("tell" : Str) ≠ "round" := by decide
  have d3 : ("tell" : Str) ≠ "both" := by decide
  have d4 : ("choice" : Str) ≠ "round" := by decide
  induction s using Step.ind with
  | h1 a b w =>
    intro t h
    cases t with
    | tell a' b' w' => rw [sD_tell, sD_tell] at h; simp at h; obtain ⟨rfl, rfl, rfl⟩ := h; rfl
    | choice bs => rw [sD_tell, sD_choice] at h; simp at h
    | round l => rw [sD_tell, sD_round] at h; simp at h
    | both l r => rw [sD_tell, sD_both] at h; simp at h
  | h2 bs ih =>
    intro t h
    cases t with
    | tell a' b' w' => rw [sD_tell, sD_choice] at h; simp at h
    | choice bs' =>
      rw [sD_choice, sD_choice] at h
      simp only [PyData.tuple.injEq, List.cons.injEq, and_true, true_and] at h
      congr 1
      refine map_inj_on (f := ssD) (fun b hb c e => ?_) h
      unfold ssD at e
      exact map_inj_on (fun x hx y e2 => ih b hb x hx y e2) (PyData.tuple.inj e)
    | round l => rw [sD_choice, sD_round] at h; simp only [PyData.tuple.injEq, List.cons.injEq, PyData.str.injEq] at h; exact absurd h.1 d4
    | both l r => rw [sD_choice, sD_both] at h; simp at h
  | h3 l ih =>
    intro t h
    cases t with
    | tell a' b' w' => rw [sD_tell, sD_round] at h; simp at h
    | choice bs => rw [sD_choice, sD_round] at h; simp only [PyData.tuple.injEq, List.cons.injEq, PyData.str.injEq] at h; exact absurd h.1.symm d4
    | round l' =>
      rw [sD_round, sD_round] at h
      simp only [PyData.tuple.injEq, List.cons.injEq, and_true, true_and] at h
      congr 1
      unfold ssD at h
      exact map_inj_on (fun x hx y e2 => ih x hx y e2) (PyData.tuple.inj h)
    | both l r => rw [sD_round, sD_both] at h; simp at h
  | h4 l r ih ih2 =>
    intro t h
    cases t with
    | tell a' b' w' => rw [sD_tell, sD_both] at h; simp at h
    | choice bs => rw [sD_choice, sD_both] at h; simp at h
    | round l' => rw [sD_round, sD_both] at h; simp at h
    | both l' r' =>
      rw [sD_both, sD_both] at h
      simp only [PyData.tuple.injEq, List.cons.injEq, and_true, true_and] at h
      unfold ssD at h
      rw [map_inj_on (fun x hx y e2 => ih x hx y e2) (PyData.tuple.inj h.1), map_inj_on (fun x hx y e2 => ih2 x hx y e2) (PyData.tuple.inj h.2)]
theorem ssD_inj {s t : Steps} (h : ssD s = ssD t) : s = t := map_inj_on (fun x _ y e => sD_inj x y e) (PyData.tuple.inj h)
noncomputable instance : DecidableEq Step := fun a b => Classical.propDecidable (a = b)
theorem bool_iff {a : Bool} {p : Prop} [Decidable p] (h : a = true ↔ p) : a = decide p := by
  by_cases q : p
  · rw [decide_eq_true q]; exact h.mpr q
  · rw [decide_eq_false q]
    cases a
    · rfl
    · exact absurd (h.mp rfl) q
theorem eqv_ssD (s t : Steps) : PyData.eqv (ssD s) (ssD t) = decide (s = t) :=
  bool_iff ((eqv_iff _ _ (ssD_nb s) (ssD_nb t)).trans ⟨ssD_inj, fun e => by rw [e]⟩)
theorem dEq_ssD {s t : Steps} (h : deps s ≤ 20) (h' : deps t ≤ 20) : dEq (ssD s) (ssD t) = some (decide (s = t)) := by
  unfold dEq
  rw [if_pos ⟨pl_ssD h, pl_ssD h'⟩, eqv_ssD]
theorem dNe_ssD {s t : Steps} (h : deps s ≤ 20) (h' : deps t ≤ 20) : dNe (ssD s) (ssD t) = some (!decide (s = t)) := by
  unfold dNe
  rw [if_pos ⟨pl_ssD h, pl_ssD h'⟩, eqv_ssD]
end TK

/-! Tl.lean -/
set_option Elab.async false
set_option linter.all false
set_option maxRecDepth 100000
/-! TK, on: loops over told lists; letters, views -/
namespace TK
open PySem PySem.Spec PyProof.Rows L2 TF
theorem forGo_from {α : Type} {e : α → PyData} {tg : PyData → Rho → Option Rho} {body : Rho → Option Fl} {ks : List Nat} (I : List α → Rho) (xs : List α)
    (h : ∀ pre x post, xs = pre ++ x :: post → ∃ r r', tg (e x) (I pre) = some r ∧ (body r = some (.nx r') ∨ body r = some (.ct r')) ∧ clr ks r' = I (pre ++ [x])) :
    ∀ post pre, xs = pre ++ post → forGo tg body ks (post.map e) (I pre) = some (.nx (I xs))
  | [], pre, hx => by rw [List.append_nil] at hx; subst hx; rfl
  | x :: post, pre, hx => by
    obtain ⟨r, r', h1, h2, h3⟩ := h pre x post hx
    have ih := forGo_from I xs h post (pre ++ [x]) (by rw [hx, List.append_assoc]; rfl)
    rw [List.map_cons]
    unfold forGo
    rw [h1]
    simp only [Option.bind_some]
    rcases h2 with h2 | h2
    · rw [h2]; simp only [Option.bind_some]; rw [h3]; exact ih
    · rw [h2]; simp only [Option.bind_some]; rw [h3]; exact ih
theorem forGo_map {α : Type} {e : α → PyData} {tg : PyData → Rho → Option Rho} {body : Rho → Option Fl} {ks : List Nat} (I : List α → Rho) (xs : List α)
    (h : ∀ pre x post, xs = pre ++ x :: post → ∃ r r', tg (e x) (I pre) = some r ∧ (body r = some (.nx r') ∨ body r = some (.ct r')) ∧ clr ks r' = I (pre ++ [x])) :
    forGo tg body ks (xs.map e) (I []) = some (.nx (I xs)) := forGo_from I xs h xs [] rfl
theorem lcGo_filter {α : Type} {e : α → PyData} {tg : PyData → Rho → Option Rho} {tt : Rho → Option Bool} {el : Rho → Option PyData} {ρ : Rho} (p : α → Bool) (f : α → PyData) : ∀ (xs : List α),
    (∀ x ∈ xs, ∃ r, tg (e x) ρ = some r ∧ tt r = some (p x) ∧ (p x = true → el r = some (f x))) → lcGo tg tt el ρ (xs.map e) = some ((xs.filter p).map f)
  | [], _ => rfl
  | x :: xs, h => by
    obtain ⟨r, h1, h2, h3⟩ := h x (by simp)
    have ih := lcGo_filter p f xs fun y hy => h y (by simp [hy])
    rw [List.map_cons]
    unfold lcGo
    rw [h1]
    simp only [Option.bind_some, h2]
    cases hp : p x with
    | true => rw [if_pos rfl, h3 hp, ih, List.filter_cons_of_pos hp]; rfl
    | false => rw [if_neg (by decide), ih, List.filter_cons_of_neg (by simp [hp])]
theorem lcGo_map {α : Type} {e : α → PyData} {tg : PyData → Rho → Option Rho} {el : Rho → Option PyData} {ρ : Rho} (f : α → PyData) (xs : List α)
    (h : ∀ x ∈ xs, ∃ r, tg (e x) ρ = some r ∧ el r = some (f x)) : lcGo tg tYs el ρ (xs.map e) = some (xs.map f) := by
  have := lcGo_filter (tt := tYs) (fun _ => true) f xs fun x hx => let ⟨r, h1, h2⟩ := h x hx; ⟨r, h1, rfl, fun _ => h2⟩
  rw [this, List.filter_eq_self.mpr (fun _ _ => rfl)]
theorem eqv_self {d : PyData} (h : nb d = true) : PyData.eqv d d = true := (eqv_iff d d h h).mpr rfl
theorem dEq_self {d : PyData} (h : nb d = true) (h2 : pl d = true) : dEq d d = some true := by unfold dEq; rw [if_pos ⟨h2, h2⟩, eqv_self h]
theorem dNe_self {d : PyData} (h : nb d = true) (h2 : pl d = true) : dNe d d = some false := by unfold dNe; rw [if_pos ⟨h2, h2⟩, eqv_self h]; rfl
theorem dEq_iff {d e : PyData} (h : nb d = true) (h2 : pl d = true) (h' : nb e = true) (h2' : pl e = true) [Decidable (d = e)] : dEq d e = some (decide (d = e)) := by
  unfold dEq; rw [if_pos ⟨h2, h2'⟩, bool_iff (eqv_iff d e h h')]
theorem dNe_iff {d e : PyData} (h : nb d = true) (h2 : pl d = true) (h' : nb e = true) (h2' : pl e = true) [Decidable (d = e)] : dNe d e = some (!decide (d = e)) := by
  unfold dNe; rw [if_pos ⟨h2, h2'⟩, bool_iff (eqv_iff d e h h')]
/-! ### letters -/
abbrev Lt := Str × Str × Str
def ltD (l : Lt) : PyData := .tuple [.str l.1, .str l.2.1, .str l.2.2]
def lts1 : Step → List Lt
  | .tell a b w => [(a, b, w)]
  | .choice bs => (bs.map fun b => (b.map lts1).flatten).flatten
  | .round s => (s.map lts1).flatten
  | .both s t => (s.map lts1).flatten ++ (t.map lts1).flatten
termination_by s => sizeOf s
decreasing_by
  all_goals simp_wf
  all_goals first
    | (have h1 := List.sizeOf_lt_of_mem ‹b ∈ bs›; have h2 := List.sizeOf_lt_of_mem ‹_ ∈ b›; omega)
    | (have h2 := List.sizeOf_lt_of_mem ‹_ ∈ _›; omega)
def lts (s : Steps) : List Lt := (s.map lts1).flatten
theorem lts1_tell (a b w : Str) : lts1 (.tell a b w) = [(a, b, w)] := by rw [lts1]
theorem lts1_choice (bs : List Steps) : lts1 (.choice bs) = (bs.map lts).flatten := by rw [lts1]; rfl
theorem lts1_round (s : Steps) : lts1 (.round s) = lts s := by rw [lts1]; rfl
theorem lts1_both (s t : Steps) : lts1 (.both s t) = lts s ++ lts t := by rw [lts1]; rfl
theorem lts_nil : lts [] = [] := rfl
theorem lts_cons (x : Step) (s : Steps) : lts (x :: s) = lts1 x ++ lts s := by simp [lts]
theorem lts_append (s t : Steps) : lts (s ++ t) = lts s ++ lts t := by simp [lts]
theorem len_sum_le {α : Type} {f : α → List Lt} {g : α → Nat} : ∀ (l : List α), (∀ x ∈ l, (f x).length ≤ g x) → (l.map f).flatten.length ≤ (l.map g).sum
  | [], _ => Nat.le_refl _
  | x :: l, h => by
    have h1 := h x (by simp)
    have h2 := len_sum_le l fun y hy => h y (by simp [hy])
    simp only [List.map_cons, List.flatten_cons, List.length_append, List.sum_cons]
    omega
theorem lts1_len (s : Step) : (lts1 s).length ≤ hgt s := by
  induction s using Step.ind with
  | h1 a b w => rw [lts1_tell, hgt_tell]; exact Nat.le_refl _
  | h2 bs ih =>
    rw [lts1_choice, hgt_choice]
    have : (bs.map lts).flatten.length ≤ (bs.map hgts).sum := len_sum_le bs fun b hb => len_sum_le b fun x hx => ih b hb x hx
    omega
  | h3 l ih =>
    rw [lts1_round, hgt_round]
    have : (lts l).length ≤ hgts l := len_sum_le l ih
    omega
  | h4 l r ih ih2 =>
    rw [lts1_both, hgt_both, List.length_append]
    have h1 : (lts l).length ≤ hgts l := len_sum_le l ih
    have h2 : (lts r).length ≤ hgts r := len_sum_le r ih2
    omega
theorem lts_len (s : Steps) : (lts s).length ≤ hgts s := len_sum_le s fun x _ => lts1_len x
/-! ### what a hand sees -/
def vw (h : Str) : Step → Steps
  | .tell a b w => if h ∈ [a, b] then [.tell a b w] else []
  | .choice bs => [.choice (bs.map fun b => (b.map (vw h)).flatten)]
  | .round s => [.round (s.map (vw h)).flatten]
  | .both s t => [.both (s.map (vw h)).flatten (t.map (vw h)).flatten]
termination_by s => sizeOf s
decreasing_by
  all_goals simp_wf
  all_goals first
    | (have h1 := List.sizeOf_lt_of_mem ‹b ∈ bs›; have h2 := List.sizeOf_lt_of_mem ‹_ ∈ b›; omega)
    | (have h2 := List.sizeOf_lt_of_mem ‹_ ∈ _›; omega)
def vws (h : Str) (s : Steps) : Steps := (s.map (vw h)).flatten
theorem vw_tell (h a b w : Str) : vw h (.tell a b w) = if h ∈ [a, b] then [.tell a b w] else [] := by rw [vw]
theorem vw_choice (h : Str) (bs : List Steps) : vw h (.choice bs) = [.choice (bs.map (vws h))] := by rw [vw]; rfl
theorem vw_round (h : Str) (s : Steps) : vw h (.round s) = [.round (vws h s)] := by rw [vw]; rfl
theorem vw_both (h : Str) (s t : Steps) : vw h (.both s t) = [.both (vws h s) (vws h t)] := by rw [vw]; rfl
theorem vws_nil (h : Str) : vws h [] = [] := rfl
theorem vws_cons (h : Str) (x : Step) (s : Steps) : vws h (x :: s) = vw h x ++ vws h s := by simp [vws]
theorem vws_append (h : Str) (s t : Steps) : vws h (s ++ t) = vws h s ++ vws h t := by simp [vws]
theorem vw_len (h : Str) (s : Step) : (vw h s).length ≤ 1 := by
  cases s
  · rw [vw_tell]; split <;> simp
  · rw [vw_choice]; simp
  · rw [vw_round]; simp
  · rw [vw_both]; simp
theorem vws_len (h : Str) (s : Steps) : (vws h s).length ≤ s.length := by
  induction s with
  | nil => exact Nat.le_refl _
  | cons x s ih => rw [vws_cons, List.length_append, List.length_cons]; have := vw_len h x; omega
theorem vw_dep (h : Str) (s : Step) : ∀ x ∈ vw h s, dep x ≤ dep s := by
  induction s using Step.ind with
  | h1 a b w =>
    intro x hx
    rw [vw_tell] at hx
    split at hx
    · simp at hx; subst hx; exact Nat.le_refl _
    · cases hx
  | h2 bs ih =>
    intro x hx
    rw [vw_choice, List.mem_singleton] at hx
    subst hx
    rw [dep_choice, dep_choice]
    refine Nat.add_le_add_left (max_le.mpr ?_) 1
    simp only [List.mem_map, forall_exists_index, and_imp, forall_apply_eq_imp_iff₂]
    intro b hb
    have hb2 : deps b ≤ (bs.map deps).foldr max 0 := max_le.mp (Nat.le_refl _) _ (List.mem_map_of_mem hb)
    rw [deps_le]
    intro y hy
    unfold vws at hy
    simp only [List.mem_flatten, List.mem_map] at hy
    obtain ⟨l, ⟨z, hz, rfl⟩, hy⟩ := hy
    have h3 := ih b hb z hz y hy
    have h4 := deps_le.mp (Nat.le_refl (deps b)) z hz
    omega
  | h3 l ih =>
    intro x hx
    rw [vw_round, List.mem_singleton] at hx
    subst hx
    rw [dep_round, dep_round]
    refine Nat.add_le_add_left (deps_le.mpr fun y hy => ?_) 1
    unfold vws at hy
    simp only [List.mem_flatten, List.mem_map] at hy
    obtain ⟨l', ⟨z, hz, rfl⟩, hy⟩ := hy
    have h3 := ih z hz y hy
    have h4 := deps_le.mp (Nat.le_refl (deps l)) z hz
    omega
  | h4 l r ih ih2 =>
    intro x hx
    rw [vw_both, List.mem_singleton] at hx
    subst hx
    rw [dep_both, dep_both]
    have q : ∀ (l : Steps), (∀ z ∈ l, ∀ y ∈ vw h z, dep y ≤ dep z) → deps (vws h l) ≤ deps l := fun l ih => deps_le.mpr fun y hy => by
      unfold vws at hy
      simp only [List.mem_flatten, List.mem_map] at hy
      obtain ⟨l', ⟨z, hz, rfl⟩, hy⟩ := hy
      have h3 := ih z hz y hy
      have h4 := deps_le.mp (Nat.le_refl (deps l)) z hz
      omega
    have h1 := q l ih
    have h2 := q r ih2
    omega
theorem vws_dep (h : Str) (s : Steps) : deps (vws h s) ≤ deps s := deps_le.mpr fun y hy => by
  unfold vws at hy
  simp only [List.mem_flatten, List.mem_map] at hy
  obtain ⟨l', ⟨z, hz, rfl⟩, hy⟩ := hy
  exact Nat.le_trans (vw_dep h z y hy) (deps_le.mp (Nat.le_refl _) z hz)
/-! ### places of slices -/
theorem cutD_1_3 {x y z w : PyData} : TF.cutD [x, y, z, w] (some 1) (some 3) = [y, z] := by unfold TF.cutD HT.sIx; simp
theorem cutD_1_ {x : PyData} {l : List PyData} : TF.cutD (x :: l) (some 1) none = l := cutD_from1
theorem cutD__1 {x : PyData} {l : List PyData} : TF.cutD (x :: l) none (some 1) = [x] := by unfold TF.cutD HT.sIx; simp
theorem cutD__2 {x y : PyData} {l : List PyData} : TF.cutD (x :: y :: l) none (some 2) = [x, y] := cutD_to2
end TK

/-! F_lanerows_k40_laid.lean -/
set_option Elab.async false
set_option linter.all false
set_option maxRecDepth 100000
namespace Lr
open PySem PySem.Spec PyProof.Rows L2 TF

def fu_Marks_steps : Nat := 30
def fu_is_step : Nat := 30
def fu_law_lay : Nat := 30
def fu_law_letters : Nat := 30
def fu_law_step : Nat := 30
def fu_law_steps_of : Nat := 30
def fu_letters_in : Nat := 30
def fu_marks_of : Nat := 30
def wf : Nat := 100000
def e_is_name_1 : Rho → Option PyData :=
    (eB (e2 (eVar 1) (eC (.str "abcdefghijklmnopqrstuvwxyz")) dIn))
def f_is_name : Rho → Option Fl :=
    (fRet (vAnd (e1 (eVar 0) (dIsa "str")) (vAnd (eB (eChain (eC (.int 1)) (e1 (eVar 0) dLen) (eC (.int 5)) dLe dLe)) (e1 (eL (eLc (e1 (eVar 0) dWalk) (g1 1) tYs e_is_name_1)) dAll))))
def m_is_name : List PyData → Option PyData := runF 2 f_is_name
def f_is_hand : Rho → Option Fl :=
    (fRet (vAnd (e1 (eVar 0) (dIsa "str")) (eB (e2 (eVar 0) (eVar 1) dIn))))
def m_is_hand : List PyData → Option PyData := runF 2 f_is_hand
def e_is_step_1 (r_is_step : List PyData → Option PyData) (r_are_steps : List PyData → Option PyData) : Rho → Option PyData :=
    (eCall 3 r_are_steps (aCons (eVar 4) (aCons (eVar 1) (aCons (e2 (eVar 2) (eC (.int 1)) dSub) aNil))))
def f_is_step (r_is_step : List PyData → Option PyData) (r_are_steps : List PyData → Option PyData) : Rho → Option Fl :=
    (fSeq (fIf (tOr (tNot (eT (e1 (eVar 0) (dIsa "tuple")))) (tOr (e2 (e1 (eVar 0) dLen) (eC (.int 2)) dLtA) (tNot (eT (e1 (e2 (eVar 0) (eC (.int 0)) dIx) (dIsa "str")))))) (fRet (eC (.bool false))) fNil)
    (fSeq (fSet 3 (e2 (eVar 0) (eC (.int 0)) dIx))
    (fSeq (fIf (e2 (eVar 3) (eC (.str "tell")) dEq) (fRet (vAnd (eB (e2 (e1 (eVar 0) dLen) (eC (.int 4)) dEq)) (vAnd (eCall 2 m_is_hand (aCons (e2 (eVar 0) (eC (.int 1)) dIx) (aCons (eVar 1) aNil))) (vAnd (eCall 2 m_is_hand (aCons (e2 (eVar 0) (eC (.int 2)) dIx) (aCons (eVar 1) aNil))) (eCall 1 m_is_name (aCons (e2 (eVar 0) (eC (.int 3)) dIx) aNil)))))) fNil)
    (fSeq (fIf (e2 (eVar 2) (eC (.int 0)) dEq) (fRet (eC (.bool false))) fNil)
    (fSeq (fIf (e2 (eVar 3) (eC (.str "choice")) dEq) (fSeq (fIf (tOr (e2 (e1 (eVar 0) dLen) (eC (.int 2)) dNe) (tOr (tNot (eT (e1 (e2 (eVar 0) (eC (.int 1)) dIx) (dIsa "tuple")))) (tNot (eChain (eC (.int 1)) (e1 (e2 (eVar 0) (eC (.int 1)) dIx) dLen) (eC (.int 3)) dLe dLe)))) (fRet (eC (.bool false))) fNil)
    (fRet (e1 (eL (eLc (e1 (e2 (eVar 0) (eC (.int 1)) dIx) dWalk) (g1 4) tYs (e_is_step_1 r_is_step r_are_steps))) dAll))) fNil)
    (fSeq (fIf (e2 (eVar 3) (eC (.str "round")) dEq) (fRet (vAnd (eB (e2 (e1 (eVar 0) dLen) (eC (.int 2)) dEq)) (eCall 3 r_are_steps (aCons (e2 (eVar 0) (eC (.int 1)) dIx) (aCons (eVar 1) (aCons (e2 (eVar 2) (eC (.int 1)) dSub) aNil)))))) fNil)
    (fRet (vAnd (eB (e2 (eVar 3) (eC (.str "both")) dEq)) (vAnd (eB (e2 (e1 (eVar 0) dLen) (eC (.int 3)) dEq)) (e1 (eL (eLc (e1 (eSl (eVar 0) (ePart (eC (.int 1))) eNoPart dSl) dWalk) (g1 4) tYs (e_is_step_1 r_is_step r_are_steps))) dAll))))))))))
def e_are_steps_1 (r_is_step : List PyData → Option PyData) (r_are_steps : List PyData → Option PyData) : Rho → Option PyData :=
    (eCall 3 r_is_step (aCons (eVar 3) (aCons (eVar 1) (aCons (eVar 2) aNil))))
def f_are_steps (r_is_step : List PyData → Option PyData) (r_are_steps : List PyData → Option PyData) : Rho → Option Fl :=
    (fSeq (fIf (tOr (tNot (eT (e1 (eVar 0) (dIsa "tuple")))) (e2 (e1 (eVar 0) dLen) (eC (.int 4)) dGt)) (fRet (eC (.bool false))) fNil)
    (fRet (e1 (eL (eLc (e1 (eVar 0) dWalk) (g1 3) tYs (e_are_steps_1 r_is_step r_are_steps))) dAll)))
mutual
def m_is_step : Nat → List PyData → Option PyData
  | 0 => fun _ => none
  | n + 1 => runF 5 (f_is_step (m_is_step n) (m_are_steps n))
def m_are_steps : Nat → List PyData → Option PyData
  | 0 => fun _ => none
  | n + 1 => runF 4 (f_are_steps (m_is_step n) (m_are_steps n))
end
theorem u_is_step (n : Nat) : m_is_step (n + 1) = runF 5 (f_is_step (m_is_step n) (m_are_steps n)) := rfl
theorem u_are_steps (n : Nat) : m_are_steps (n + 1) = runF 4 (f_are_steps (m_is_step n) (m_are_steps n)) := rfl
def e_is_talk_1 : Rho → Option PyData :=
    (eCall 1 m_is_name (aCons (eVar 2) aNil))
def f_is_talk : Rho → Option Fl :=
    (fSeq (fIf (tOr (tNot (eT (e1 (eVar 0) (dIsa "tuple")))) (tOr (e2 (e1 (eVar 0) dLen) (eC (.int 2)) dNe) (tNot (eT (e1 (e2 (eVar 0) (eC (.int 0)) dIx) (dIsa "tuple")))))) (fRet (eC (.bool false))) fNil)
    (fSeq (fSet 1 (e2 (eVar 0) (eC (.int 0)) dIx))
    (fSeq (fIf (tOr (tNot (eChain (eC (.int 1)) (e1 (eVar 1) dLen) (eC (.int 4)) dLe dLe)) (tNot (eT (e1 (eL (eLc (e1 (eVar 1) dWalk) (g1 2) tYs e_is_talk_1)) dAll)))) (fRet (eC (.bool false))) fNil)
    (fRet (vAnd (eB (e2 (e1 (eVar 1) dLenSet) (e1 (eVar 1) dLen) dEq)) (eCall 3 (m_are_steps fu_is_step) (aCons (e2 (eVar 0) (eC (.int 1)) dIx) (aCons (eVar 1) (aCons (eC (.int 3)) aNil)))))))))
def m_is_talk : List PyData → Option PyData := runF 3 f_is_talk
def f_parts_of : Rho → Option Fl :=
    (fSeq (fIf (e2 (e2 (eVar 0) (eC (.int 0)) dIx) (eC (.str "choice")) dEq) (fRet (e2 (eVar 0) (eC (.int 1)) dIx)) fNil)
    (fSeq (fIf (e2 (e2 (eVar 0) (eC (.int 0)) dIx) (eC (.str "tell")) dEq) (fRet (eTup aNil)) fNil)
    (fRet (eSl (eVar 0) (ePart (eC (.int 1))) eNoPart dSl))))
def m_parts_of : List PyData → Option PyData := runF 1 f_parts_of
def b_letters_in_1 (r_letters_in : List PyData → Option PyData) : Rho → Option Fl :=
    (fExt 1 (eCall 1 r_letters_in (aCons (eVar 3) aNil)))
def b_letters_in_2 (r_letters_in : List PyData → Option PyData) : Rho → Option Fl :=
    (fSeq (fIf (e2 (e2 (eVar 2) (eC (.int 0)) dIx) (eC (.str "tell")) dEq) (fApp 1 (eSl (eVar 2) (ePart (eC (.int 1))) eNoPart dSl)) fNil)
    (fFor (e1 (eCall 1 m_parts_of (aCons (eVar 2) aNil)) dWalk) (g1 3) [3] (b_letters_in_1 r_letters_in)))
def f_letters_in (r_letters_in : List PyData → Option PyData) : Rho → Option Fl :=
    (fSeq (fOwn 1 (eLst aNil))
    (fSeq (fFor (e1 (eVar 0) dWalk) (g1 2) [2, 3] (b_letters_in_2 r_letters_in))
    (fRet (eVar 1))))
def m_letters_in : Nat → List PyData → Option PyData
  | 0 => fun _ => none
  | n + 1 => runF 4 (f_letters_in (m_letters_in n))
theorem u_letters_in (n : Nat) : m_letters_in (n + 1) = runF 4 (f_letters_in (m_letters_in n)) := rfl
def b_lanes_of_1 : Rho → Option Fl :=
    (fExt 2 (eL (eLst (aCons (e2 (eVar 1) (e2 (eVar 4) (eC (.int 0)) dIx) dIndexT) (aCons (e2 (eVar 1) (e2 (eVar 4) (eC (.int 1)) dIx) dIndexT) aNil)))))
def b_lanes_of_2 : Rho → Option Fl :=
    (fFor (e1 (eCall 1 (m_letters_in fu_letters_in) (aCons (eVar 3) aNil)) dWalk) (g1 4) [4] b_lanes_of_1)
def f_lanes_of : Rho → Option Fl :=
    (fSeq (fOwn 2 (eLst aNil))
    (fSeq (fFor (e1 (eCall 1 m_parts_of (aCons (eVar 0) aNil)) dWalk) (g1 3) [3, 4] b_lanes_of_2)
    (fSeq (fIf (e2 (e1 (eVar 2) dLen) (eC (.int 0)) dEq) (fRet (eTup (aCons (eC (.int 0)) (aCons (e2 (e1 (eVar 1) dLen) (eC (.int 1)) dSub) aNil)))) fNil)
    (fRet (eTup (aCons (e1 (eVar 2) dMin) (aCons (e1 (eVar 2) dMax) aNil)))))))
def m_lanes_of : List PyData → Option PyData := runF 5 f_lanes_of
def b_marks_of_1 (r_marks_of : List PyData → Option PyData) : Rho → Option Fl :=
    (fSeq (fIf (e2 (eVar 6) (eC (.int 0)) dGt) (fApp 3 (eTup (aCons (eC (.str "line")) (aCons (e2 (eVar 2) (e1 (eVar 3) dLen) dAddA) aNil)))) fNil)
    (fExt 3 (eCall 3 r_marks_of (aCons (eVar 7) (aCons (eVar 1) (aCons (e2 (eVar 2) (e1 (eVar 3) dLen) dAddA) aNil))))))
def b_marks_of_2 (r_marks_of : List PyData → Option PyData) : Rho → Option Fl :=
    (fSeq (fSet 5 (e2 (eVar 2) (e1 (eVar 3) dLen) dAddA))
    (fIf (e2 (e2 (eVar 4) (eC (.int 0)) dIx) (eC (.str "tell")) dEq) (fApp 3 (eTup (aCons (eC (.str "letter")) (aCons (eVar 5) (aCons (e2 (eVar 1) (e2 (eVar 4) (eC (.int 1)) dIx) dIndexT) (aCons (e2 (eVar 1) (e2 (eVar 4) (eC (.int 2)) dIx) dIndexT) (aCons (e2 (eVar 4) (eC (.int 3)) dIx) aNil))))))) (fSeq (fApp 3 (e2 (eTup (aCons (eC (.str "head")) (aCons (eVar 5) (aCons (e2 (eVar 4) (eC (.int 0)) dIx) aNil)))) (eCall 2 m_lanes_of (aCons (eVar 4) (aCons (eVar 1) aNil))) dAddA))
    (fSeq (fFor (e1 (eCall 1 m_parts_of (aCons (eVar 4) aNil)) dEnum) (g2 6 7) [6, 7] (b_marks_of_1 r_marks_of))
    (fApp 3 (eTup (aCons (eC (.str "foot")) (aCons (e2 (eVar 2) (e1 (eVar 3) dLen) dAddA) aNil))))))))
def f_marks_of (r_marks_of : List PyData → Option PyData) : Rho → Option Fl :=
    (fSeq (fOwn 3 (eLst aNil))
    (fSeq (fFor (e1 (eVar 0) dWalk) (g1 4) [4, 5, 6, 7] (b_marks_of_2 r_marks_of))
    (fRet (eVar 3))))
def m_marks_of : Nat → List PyData → Option PyData
  | 0 => fun _ => none
  | n + 1 => runF 8 (f_marks_of (m_marks_of n))
theorem u_marks_of (n : Nat) : m_marks_of (n + 1) = runF 8 (f_marks_of (m_marks_of n)) := rfl
def f_laid : Rho → Option Fl :=
    (fRet (e1 (eCall 3 (m_marks_of fu_marks_of) (aCons (e2 (eVar 0) (eC (.int 1)) dIx) (aCons (e2 (eVar 0) (eC (.int 0)) dIx) (aCons (eC (.int 0)) aNil)))) dTuple))
def m_laid : List PyData → Option PyData := runF 1 f_laid
def f_height : Rho → Option Fl :=
    (fRet (e1 (eCall 1 m_laid (aCons (eVar 0) aNil)) dLen))
def m_height : List PyData → Option PyData := runF 1 f_height
def f_Marks_init__ : Rho → Option Fl :=
    (fSeq (fFld 0 "Marks" "hands" (eVar 1))
    (fSeq (fFld 0 "Marks" "marks" (eVar 2))
    (fFld 0 "Marks" "at" (eC (.int 0)))))
def m_Marks_init__ : List PyData → Option Rm := runM 3 f_Marks_init__
def f_Marks_next_word : Rho → Option Fl :=
    (fSeq (fIf (e2 (eFld 0 "Marks" "at") (e1 (eFld 0 "Marks" "marks") dLen) dEq) (sRet (mE (eC (.str "")))) fNil)
    (sRet (mE (e2 (e2 (eFld 0 "Marks" "marks") (eFld 0 "Marks" "at") dIx) (eC (.int 0)) dIx))))
def m_Marks_next_word : List PyData → Option PyData := runP 1 f_Marks_next_word
def f_Marks_take : Rho → Option Fl :=
    (fSeq (fFld 0 "Marks" "at" (e2 (eFld 0 "Marks" "at") (eC (.int 1)) dAddA))
    (sRet (mE (e2 (eFld 0 "Marks" "marks") (e2 (eFld 0 "Marks" "at") (eC (.int 1)) dSub) dIx))))
def m_Marks_take : List PyData → Option Rm := runM 1 f_Marks_take
def f_Marks_hand : Rho → Option Fl :=
    (fSeq (fIf (tNot (eChain (eC (.int 0)) (eVar 1) (e1 (eFld 0 "Marks" "hands") dLen) dLe dLtA)) (sRaise "NoTalk") fNil)
    (sRet (mE (e2 (eFld 0 "Marks" "hands") (eVar 1) dIx))))
def m_Marks_hand : List PyData → Option Rm := runM 2 f_Marks_hand
def b_Marks_steps_1 (r_Marks_steps : List PyData → Option Rm) (r_Marks_step : List PyData → Option Rm) : Rho → Option Fl :=
    (sAppL 1 (mMeth 0 "Marks" "step" r_Marks_step aNil))
def w_Marks_steps_1 (r_Marks_steps : List PyData → Option Rm) (r_Marks_step : List PyData → Option Rm) : Rho → Option Bool :=
    (e2 (eMeth 0 "Marks" "next_word" m_Marks_next_word aNil) (eTup (aCons (eC (.str "letter")) (aCons (eC (.str "head")) aNil))) dIn)
def f_Marks_steps (r_Marks_steps : List PyData → Option Rm) (r_Marks_step : List PyData → Option Rm) : Rho → Option Fl :=
    (fSeq (fOwn 1 (eLst aNil))
    (fSeq (fWhile wf (w_Marks_steps_1 r_Marks_steps r_Marks_step) [] (b_Marks_steps_1 r_Marks_steps r_Marks_step))
    (sRet (mE (e1 (eVar 1) dTuple)))))
def b_Marks_step_1 (r_Marks_steps : List PyData → Option Rm) (r_Marks_step : List PyData → Option Rm) : Rho → Option Fl :=
    (fSeq (sExp (mMeth 0 "Marks" "take" m_Marks_take aNil))
    (sAppL 2 (mMeth 0 "Marks" "steps" r_Marks_steps aNil)))
def w_Marks_step_1 (r_Marks_steps : List PyData → Option Rm) (r_Marks_step : List PyData → Option Rm) : Rho → Option Bool :=
    (e2 (eMeth 0 "Marks" "next_word" m_Marks_next_word aNil) (eC (.str "line")) dEq)
def f_Marks_step (r_Marks_steps : List PyData → Option Rm) (r_Marks_step : List PyData → Option Rm) : Rho → Option Fl :=
    (fSeq (sSet 1 (mMeth 0 "Marks" "take" m_Marks_take aNil))
    (fSeq (fIf (e2 (e2 (eVar 1) (eC (.int 0)) dIx) (eC (.str "letter")) dEq) (sRet (mTup (mCons (mE (eC (.str "tell"))) (mCons (mMeth 0 "Marks" "hand" m_Marks_hand (aCons (e2 (eVar 1) (eC (.int 2)) dIx) aNil)) (mCons (mMeth 0 "Marks" "hand" m_Marks_hand (aCons (e2 (eVar 1) (eC (.int 3)) dIx) aNil)) (mCons (mE (e2 (eVar 1) (eC (.int 4)) dIx)) mNil)))))) fNil)
    (fSeq (sOwn 2 (mLst (mCons (mMeth 0 "Marks" "steps" r_Marks_steps aNil) mNil)))
    (fSeq (fWhile wf (w_Marks_step_1 r_Marks_steps r_Marks_step) [] (b_Marks_step_1 r_Marks_steps r_Marks_step))
    (fSeq (fIf (e2 (eMeth 0 "Marks" "next_word" m_Marks_next_word aNil) (eC (.str "foot")) dNe) (sRaise "NoTalk") fNil)
    (fSeq (sExp (mMeth 0 "Marks" "take" m_Marks_take aNil))
    (fSeq (fIf (e2 (e2 (eVar 1) (eC (.int 2)) dIx) (eC (.str "choice")) dEq) (sRet (mE (eTup (aCons (eC (.str "choice")) (aCons (e1 (eVar 2) dTuple) aNil))))) fNil)
    (sRet (mE (e2 (eTup (aCons (e2 (eVar 1) (eC (.int 2)) dIx) aNil)) (e1 (eVar 2) dTuple) dAddA))))))))))
mutual
def m_Marks_steps : Nat → List PyData → Option Rm
  | 0 => fun _ => none
  | n + 1 => runM 2 (f_Marks_steps (m_Marks_steps n) (m_Marks_step n))
def m_Marks_step : Nat → List PyData → Option Rm
  | 0 => fun _ => none
  | n + 1 => runM 3 (f_Marks_step (m_Marks_steps n) (m_Marks_step n))
end
theorem u_Marks_steps (n : Nat) : m_Marks_steps (n + 1) = runM 2 (f_Marks_steps (m_Marks_steps n) (m_Marks_step n)) := rfl
theorem u_Marks_step (n : Nat) : m_Marks_step (n + 1) = runM 3 (f_Marks_step (m_Marks_steps n) (m_Marks_step n)) := rfl
def f_unlaid : Rho → Option Fl :=
    (fSeq (fMake 2 "Marks" m_Marks_init__ (aCons (eVar 0) (aCons (eVar 1) aNil)))
    (fSeq (sSet 3 (mTup (mCons (mE (eVar 0)) (mCons (mMeth 2 "Marks" "steps" (m_Marks_steps fu_Marks_steps) aNil) mNil))))
    (fSeq (fIf (tOr (e2 (eFld 2 "Marks" "at") (e1 (eVar 1) dLen) dLtA) (tOr (tNot (eT (eCall 1 m_is_talk (aCons (eVar 3) aNil)))) (e2 (eCall 1 m_laid (aCons (eVar 3) aNil)) (eVar 1) dNe))) (sRaise "NoTalk") fNil)
    (fRet (eVar 3)))))
def m_unlaid : List PyData → Option Rf := runX 4 f_unlaid
def f_law_cell_at : Rho → Option Fl :=
    (fSeq (fIf (e2 (eVar 1) (e1 (eVar 0) dLen) dLtA) (fRet (e2 (eVar 0) (eVar 1) dIx)) fNil)
    (fRet (eC (.int 0))))
def m_law_cell_at : List PyData → Option PyData := runF 2 f_law_cell_at
def f_law_mixed : Rho → Option Fl :=
    (fSeq (fSet 2 (e2 (e2 (e2 (e2 (eCall 2 m_law_cell_at (aCons (eVar 0) (aCons (eVar 1) aNil))) (e2 (eC (.int 7919)) (eVar 1) dMulA) dAddA) (eC (.int 1)) dAddA) (eC (.int 48271)) dMulA) (eC (.int 2147483647)) dMod))
    (fRet (e2 (e2 (e2 (e2 (eVar 2) (eVar 2) dMulA) (e2 (eC (.int 7)) (eVar 2) dMulA) dAddA) (eVar 1) dAddA) (eC (.int 2147483629)) dMod)))
def m_law_mixed : List PyData → Option PyData := runF 3 f_law_mixed
def f_law_drawn : Rho → Option Fl :=
    (fSeq (fSet 2 (e2 (e2 (e2 (e2 (eVar 0) (e2 (eC (.int 104729)) (eVar 1) dMulA) dAddA) (eC (.int 17)) dAddA) (eC (.int 69621)) dMulA) (eC (.int 2147483647)) dMod))
    (fRet (e2 (e2 (e2 (e2 (eVar 2) (eVar 2) dMulA) (e2 (eC (.int 3)) (eVar 2) dMulA) dAddA) (eVar 1) dAddA) (eC (.int 2147483629)) dMod)))
def m_law_drawn : List PyData → Option PyData := runF 3 f_law_drawn
def e_law_word_1 : Rho → Option PyData :=
    (e2 (eVar 1) (e2 (e2 (eCall 2 m_law_drawn (aCons (eVar 0) (aCons (eVar 2) aNil))) (eC (.int 4)) dDiv) (eC (.int 26)) dMod) dIx)
def f_law_word : Rho → Option Fl :=
    (fSeq (fIf (e2 (e2 (eVar 0) (eC (.int 6)) dMod) (eC (.int 0)) dGt) (fRet (e2 (eTup (aCons (eC (.str "hi")) (aCons (eC (.str "go")) (aCons (eC (.str "hi")) (aCons (eC (.str "later")) (aCons (eC (.str "go")) aNil)))))) (e2 (e2 (eVar 0) (eC (.int 6)) dMod) (eC (.int 1)) dSub) dIx)) fNil)
    (fSeq (fSet 1 (eC (.str "abcdefghijklmnopqrstuvwxyz")))
    (fRet (e2 (eC (.str "")) (eL (eLc (e1 (e2 (eC (.int 1)) (e2 (e2 (eVar 0) (eC (.int 6)) dDiv) (eC (.int 5)) dMod) dAddA) dRng1) (g1 2) tYs e_law_word_1)) dJoin))))
def m_law_word : List PyData → Option PyData := runF 3 f_law_word
def e_law_step_1 (r_law_step : List PyData → Option PyData) (r_law_steps : List PyData → Option PyData) : Rho → Option PyData :=
    (eCall 4 r_law_steps (aCons (e2 (eCall 2 m_law_drawn (aCons (eVar 0) (aCons (eVar 9) aNil))) (eC (.int 4)) dDiv) (aCons (eVar 1) (aCons (e2 (eVar 2) (eC (.int 1)) dSub) (aCons (eC (.int 2)) aNil)))))
def f_law_step (r_law_step : List PyData → Option PyData) (r_law_steps : List PyData → Option PyData) : Rho → Option Fl :=
    (fSeq (fSet 3 (e2 (eVar 0) (eC (.int 7)) dMod))
    (fSeq (fIf (tOr (e2 (eVar 2) (eC (.int 0)) dEq) (e2 (eVar 3) (eC (.int 3)) dLtA)) (fSeq (fSet 5 (e2 (eVar 1) (e2 (e2 (eVar 0) (eC (.int 8)) dDiv) (e1 (eVar 1) dLen) dMod) dIx))
    (fSeq (fSet 6 (e2 (eVar 1) (e2 (e2 (eVar 0) (eC (.int 64)) dDiv) (e1 (eVar 1) dLen) dMod) dIx))
    (fRet (eTup (aCons (eC (.str "tell")) (aCons (eVar 5) (aCons (eVar 6) (aCons (eCall 1 m_law_word (aCons (e2 (eVar 0) (eC (.int 512)) dDiv) aNil)) aNil)))))))) fNil)
    (fSeq (fIf (e2 (eVar 3) (eC (.int 5)) dLtA) (fSeq (fSet 7 (e2 (eC (.int 1)) (e2 (e2 (eVar 0) (eC (.int 8)) dDiv) (eC (.int 3)) dMod) dAddA))
    (fSeq (fOwn 8 (eLc (e1 (eVar 7) dRng1) (g1 9) tYs (e_law_step_1 r_law_step r_law_steps)))
    (fRet (eTup (aCons (eC (.str "choice")) (aCons (e1 (eVar 8) dTuple) aNil)))))) fNil)
    (fSeq (fSet 4 (eCall 4 r_law_steps (aCons (e2 (eCall 2 m_law_drawn (aCons (eVar 0) (aCons (eC (.int 4)) aNil))) (eC (.int 4)) dDiv) (aCons (eVar 1) (aCons (e2 (eVar 2) (eC (.int 1)) dSub) (aCons (eC (.int 2)) aNil))))))
    (fSeq (fIf (e2 (eVar 3) (eC (.int 5)) dEq) (fRet (eTup (aCons (eC (.str "round")) (aCons (eVar 4) aNil)))) fNil)
    (fRet (eTup (aCons (eC (.str "both")) (aCons (eVar 4) (aCons (eCall 4 r_law_steps (aCons (e2 (eCall 2 m_law_drawn (aCons (eVar 0) (aCons (eC (.int 5)) aNil))) (eC (.int 4)) dDiv) (aCons (eVar 1) (aCons (e2 (eVar 2) (eC (.int 1)) dSub) (aCons (eC (.int 2)) aNil))))) aNil))))))))))
def e_law_steps_1 (r_law_step : List PyData → Option PyData) (r_law_steps : List PyData → Option PyData) : Rho → Option PyData :=
    (eCall 3 r_law_step (aCons (e2 (eCall 2 m_law_drawn (aCons (eVar 0) (aCons (e2 (eC (.int 10)) (eVar 4) dAddA) aNil))) (eC (.int 4)) dDiv) (aCons (eVar 1) (aCons (eVar 2) aNil))))
def f_law_steps (r_law_step : List PyData → Option PyData) (r_law_steps : List PyData → Option PyData) : Rho → Option Fl :=
    (fRet (e1 (eL (eLc (e1 (e2 (eVar 0) (e2 (eVar 3) (eC (.int 1)) dAddA) dMod) dRng1) (g1 4) tYs (e_law_steps_1 r_law_step r_law_steps))) dTuple))
mutual
def m_law_step : Nat → List PyData → Option PyData
  | 0 => fun _ => none
  | n + 1 => runF 10 (f_law_step (m_law_step n) (m_law_steps n))
def m_law_steps : Nat → List PyData → Option PyData
  | 0 => fun _ => none
  | n + 1 => runF 5 (f_law_steps (m_law_step n) (m_law_steps n))
end
theorem u_law_step (n : Nat) : m_law_step (n + 1) = runF 10 (f_law_step (m_law_step n) (m_law_steps n)) := rfl
theorem u_law_steps (n : Nat) : m_law_steps (n + 1) = runF 5 (f_law_steps (m_law_step n) (m_law_steps n)) := rfl
def f_law_talk : Rho → Option Fl :=
    (fSeq (fSet 3 (e2 (eTup (aCons (eTup (aCons (eC (.str "a")) aNil)) (aCons (eTup (aCons (eC (.str "a")) (aCons (eC (.str "bob")) aNil))) (aCons (eTup (aCons (eC (.str "c")) (aCons (eC (.str "a")) (aCons (eC (.str "bob")) aNil)))) (aCons (eTup (aCons (eC (.str "d")) (aCons (eC (.str "bob")) (aCons (eC (.str "a")) (aCons (eC (.str "c")) aNil))))) aNil))))) (e2 (eVar 0) (eC (.int 4)) dMod) dIx))
    (fSeq (fSet 4 (eCall 1 m_law_word (aCons (e2 (e2 (eVar 0) (eC (.int 8)) dDiv) (eC (.int 6)) dMulA) aNil)))
    (fSeq (fIf (tAnd (e2 (e2 (e2 (eVar 0) (eC (.int 16)) dDiv) (eC (.int 3)) dMod) (eC (.int 0)) dEq) (e2 (eVar 4) (eVar 3) dNotIn)) (fSet 3 (e2 (eTup (aCons (eVar 4) aNil)) (eSl (eVar 3) (ePart (eC (.int 1))) eNoPart dSl) dAddA)) fNil)
    (fRet (eTup (aCons (eVar 3) (aCons (eCall 4 (m_law_steps fu_law_step) (aCons (e2 (eVar 0) (eC (.int 4)) dDiv) (aCons (eVar 3) (aCons (eVar 1) (aCons (eVar 2) aNil))))) aNil)))))))
def m_law_talk : List PyData → Option PyData := runF 5 f_law_talk
def b_law_letters_1 (r_law_letters : List PyData → Option PyData) : Rho → Option Fl :=
    (fOwn 1 (e2 (eVar 1) (eCall 1 r_law_letters (aCons (eVar 3) aNil)) dAddL))
def b_law_letters_2 (r_law_letters : List PyData → Option PyData) : Rho → Option Fl :=
    (fIf (e2 (e2 (eVar 2) (eC (.int 0)) dIx) (eC (.str "tell")) dEq) (fApp 1 (eSl (eVar 2) (ePart (eC (.int 1))) eNoPart dSl)) (fIf (e2 (e2 (eVar 2) (eC (.int 0)) dIx) (eC (.str "choice")) dEq) (fFor (e1 (e2 (eVar 2) (eC (.int 1)) dIx) dWalk) (g1 3) [3] (b_law_letters_1 r_law_letters)) (fFor (e1 (eSl (eVar 2) (ePart (eC (.int 1))) eNoPart dSl) dWalk) (g1 3) [3] (b_law_letters_1 r_law_letters))))
def f_law_letters (r_law_letters : List PyData → Option PyData) : Rho → Option Fl :=
    (fSeq (fOwn 1 (eLst aNil))
    (fSeq (fFor (e1 (eVar 0) dWalk) (g1 2) [2, 3] (b_law_letters_2 r_law_letters))
    (fRet (eVar 1))))
def m_law_letters : Nat → List PyData → Option PyData
  | 0 => fun _ => none
  | n + 1 => runF 4 (f_law_letters (m_law_letters n))
theorem u_law_letters (n : Nat) : m_law_letters (n + 1) = runF 4 (f_law_letters (m_law_letters n)) := rfl
def b_law_lay_1 (r_law_lay : List PyData → Option PyData) : Rho → Option Fl :=
    (fSet 7 (eL (e2 (eVar 7) (eL (eLst (aCons (e2 (eVar 1) (e2 (eVar 11) (eC (.int 0)) dIx) dIndexT) (aCons (e2 (eVar 1) (e2 (eVar 11) (eC (.int 1)) dIx) dIndexT) aNil)))) dAddL)))
def b_law_lay_2 (r_law_lay : List PyData → Option PyData) : Rho → Option Fl :=
    (fFor (e1 (eCall 1 (m_law_letters fu_law_letters) (aCons (eVar 8) aNil)) dWalk) (g1 11) [11] (b_law_lay_1 r_law_lay))
def b_law_lay_3 (r_law_lay : List PyData → Option PyData) : Rho → Option Fl :=
    (fSeq (fIf (e2 (eVar 9) (eC (.int 0)) dGt) (fSet 3 (e2 (eVar 3) (eTup (aCons (eTup (aCons (eC (.str "line")) (aCons (e2 (eVar 2) (e1 (eVar 3) dLen) dAddA) aNil))) aNil)) dAddA)) fNil)
    (fSet 3 (e2 (eVar 3) (eCall 3 r_law_lay (aCons (eVar 8) (aCons (eVar 1) (aCons (e2 (eVar 2) (e1 (eVar 3) dLen) dAddA) aNil)))) dAddA)))
def b_law_lay_4 (r_law_lay : List PyData → Option PyData) : Rho → Option Fl :=
    (fSeq (fSet 5 (e2 (eVar 2) (e1 (eVar 3) dLen) dAddA))
    (fSeq (fIf (e2 (e2 (eVar 4) (eC (.int 0)) dIx) (eC (.str "tell")) dEq) (fSeq (fSet 10 (eTup (aCons (e2 (eVar 1) (e2 (eVar 4) (eC (.int 1)) dIx) dIndexT) (aCons (e2 (eVar 1) (e2 (eVar 4) (eC (.int 2)) dIx) dIndexT) aNil))))
    (fSeq (fSet 3 (e2 (eVar 3) (eTup (aCons (e2 (e2 (eTup (aCons (eC (.str "letter")) (aCons (eVar 5) aNil))) (eVar 10) dAddA) (eTup (aCons (e2 (eVar 4) (eC (.int 3)) dIx) aNil)) dAddA) aNil)) dAddA))
    fCt)) fNil)
    (fSeq (fSet 6 (eSl (eVar 4) (ePart (eC (.int 1))) eNoPart dSl))
    (fSeq (fIf (e2 (e2 (eVar 4) (eC (.int 0)) dIx) (eC (.str "choice")) dEq) (fSet 6 (e2 (eVar 4) (eC (.int 1)) dIx)) fNil)
    (fSeq (fSet 7 (eL (eLst aNil)))
    (fSeq (fFor (e1 (eVar 6) dWalk) (g1 8) [8, 11] (b_law_lay_2 r_law_lay))
    (fSeq (fIf (e2 (eVar 7) (eL (eLst aNil)) dEq) (fSet 7 (eL (eLst (aCons (eC (.int 0)) (aCons (e2 (e1 (eVar 1) dLen) (eC (.int 1)) dSub) aNil))))) fNil)
    (fSeq (fSet 3 (e2 (eVar 3) (eTup (aCons (eTup (aCons (eC (.str "head")) (aCons (eVar 5) (aCons (e2 (eVar 4) (eC (.int 0)) dIx) (aCons (e1 (eVar 7) dMin) (aCons (e1 (eVar 7) dMax) aNil)))))) aNil)) dAddA))
    (fSeq (fFor (e1 (eVar 6) dEnum) (g2 9 8) [8, 9] (b_law_lay_3 r_law_lay))
    (fSet 3 (e2 (eVar 3) (eTup (aCons (eTup (aCons (eC (.str "foot")) (aCons (e2 (eVar 2) (e1 (eVar 3) dLen) dAddA) aNil))) aNil)) dAddA)))))))))))
def f_law_lay (r_law_lay : List PyData → Option PyData) : Rho → Option Fl :=
    (fSeq (fSet 3 (eTup aNil))
    (fSeq (fFor (e1 (eVar 0) dWalk) (g1 4) [4, 5, 6, 7, 8, 9, 10, 11] (b_law_lay_4 r_law_lay))
    (fRet (eVar 3))))
def m_law_lay : Nat → List PyData → Option PyData
  | 0 => fun _ => none
  | n + 1 => runF 12 (f_law_lay (m_law_lay n))
theorem u_law_lay (n : Nat) : m_law_lay (n + 1) = runF 12 (f_law_lay (m_law_lay n)) := rfl
def b_law_steps_of_1 (r_law_steps_of : List PyData → Option PyData) : Rho → Option Fl :=
    (fSeq (fAsg (g2 7 0) (eCall 3 r_law_steps_of (aCons (eSl (eVar 0) (ePart (eC (.int 1))) eNoPart dSl) (aCons (eVar 1) (aCons (e2 (eVar 2) (eC (.int 1)) dAddA) aNil)))))
    (fSeq (fIf (e2 (eVar 7) (eC .none) dIs) (fRet (eTup (aCons (eC .none) (aCons (eTup aNil) aNil)))) fNil)
    (fSet 5 (e2 (eVar 5) (eTup (aCons (eVar 7) aNil)) dAddA))))
def w_law_steps_of_1 (r_law_steps_of : List PyData → Option PyData) : Rho → Option Bool :=
    (tAnd (e2 (eVar 0) (eTup aNil) dNe) (e2 (e2 (e2 (eVar 0) (eC (.int 0)) dIx) (eC (.int 0)) dIx) (eC (.str "line")) dEq))
def b_law_steps_of_2 (r_law_steps_of : List PyData → Option PyData) : Rho → Option Fl :=
    (fSeq (fSet 4 (e2 (eVar 0) (eC (.int 0)) dIx))
    (fSeq (fSet 0 (eSl (eVar 0) (ePart (eC (.int 1))) eNoPart dSl))
    (fSeq (fIf (e2 (e2 (eVar 4) (eC (.int 0)) dIx) (eC (.str "letter")) dEq) (fSeq (fIf (tOr (e2 (e2 (eVar 4) (eC (.int 2)) dIx) (e1 (eVar 1) dLen) dOutRng) (e2 (e2 (eVar 4) (eC (.int 3)) dIx) (e1 (eVar 1) dLen) dOutRng)) (fRet (eTup (aCons (eC .none) (aCons (eTup aNil) aNil)))) fNil)
    (fSeq (fSet 3 (e2 (eVar 3) (eTup (aCons (eTup (aCons (eC (.str "tell")) (aCons (e2 (eVar 1) (e2 (eVar 4) (eC (.int 2)) dIx) dIx) (aCons (e2 (eVar 1) (e2 (eVar 4) (eC (.int 3)) dIx) dIx) (aCons (e2 (eVar 4) (eC (.int 4)) dIx) aNil))))) aNil)) dAddA))
    fCt)) fNil)
    (fSeq (fSet 0 (e2 (eTup (aCons (eTup (aCons (eC (.str "line")) (aCons (eC (.int 0)) aNil))) aNil)) (eVar 0) dAddA))
    (fSeq (fSet 5 (eTup aNil))
    (fSeq (fWhile wf (w_law_steps_of_1 r_law_steps_of) [7] (b_law_steps_of_1 r_law_steps_of))
    (fSeq (fSet 6 (e1 (e2 (eVar 4) (eC (.int 2)) dIx) (dIxT [(("choice" : Str), ([1, 2, 3] : List Int)), (("round" : Str), ([1] : List Int)), (("both" : Str), ([2] : List Int))])))
    (fSeq (fIf (tOr (e2 (eVar 0) (eTup aNil) dEq) (tOr (e2 (e2 (e2 (eVar 0) (eC (.int 0)) dIx) (eC (.int 0)) dIx) (eC (.str "foot")) dNe) (tOr (e2 (e1 (eVar 5) dLen) (eVar 6) dNotIn) (e2 (eVar 2) (eC (.int 3)) dEq)))) (fRet (eTup (aCons (eC .none) (aCons (eTup aNil) aNil)))) fNil)
    (fSeq (fSet 0 (eSl (eVar 0) (ePart (eC (.int 1))) eNoPart dSl))
    (fSeq (fIf (e2 (e2 (eVar 4) (eC (.int 2)) dIx) (eC (.str "choice")) dEq) (fSet 5 (eTup (aCons (eVar 5) aNil))) fNil)
    (fSet 3 (e2 (eVar 3) (eTup (aCons (e2 (eTup (aCons (e2 (eVar 4) (eC (.int 2)) dIx) aNil)) (eVar 5) dAddA) aNil)) dAddA))))))))))))
def w_law_steps_of_2 (r_law_steps_of : List PyData → Option PyData) : Rho → Option Bool :=
    (tAnd (e2 (eVar 0) (eTup aNil) dNe) (e2 (e2 (e2 (eVar 0) (eC (.int 0)) dIx) (eC (.int 0)) dIx) (eTup (aCons (eC (.str "letter")) (aCons (eC (.str "head")) aNil))) dIn))
def f_law_steps_of (r_law_steps_of : List PyData → Option PyData) : Rho → Option Fl :=
    (fSeq (fSet 3 (eTup aNil))
    (fSeq (fWhile wf (w_law_steps_of_2 r_law_steps_of) [4, 5, 6, 7] (b_law_steps_of_2 r_law_steps_of))
    (fRet (eTup (aCons (e2 (eL (eLst (aCons (eVar 3) (aCons (eC .none) aNil)))) (e1 (eB (e2 (e1 (eVar 3) dLen) (eC (.int 4)) dGt)) dInt) dIx) (aCons (eVar 0) aNil))))))
def m_law_steps_of : Nat → List PyData → Option PyData
  | 0 => fun _ => none
  | n + 1 => runF 8 (f_law_steps_of (m_law_steps_of n))
theorem u_law_steps_of (n : Nat) : m_law_steps_of (n + 1) = runF 8 (f_law_steps_of (m_law_steps_of n)) := rfl
def f_law_changed : Rho → Option Fl :=
    (fSeq (fSet 2 (e2 (e2 (eVar 1) (eC (.int 8)) dDiv) (e1 (eVar 0) dLen) dMod))
    (fSeq (fSet 3 (e2 (eVar 0) (eVar 2) dIx))
    (fSeq (fSet 4 (e2 (eVar 1) (eC (.int 7)) dMod))
    (fSeq (fIf (e2 (eVar 4) (eC (.int 0)) dEq) (fRet (e2 (eSl (eVar 0) eNoPart (ePart (eVar 2)) dSl) (eSl (eVar 0) (ePart (e2 (eVar 2) (eC (.int 1)) dAddA)) eNoPart dSl) dAddA)) fNil)
    (fSeq (fIf (e2 (eVar 4) (eC (.int 1)) dEq) (fRet (e2 (eSl (eVar 0) eNoPart (ePart (e2 (eVar 2) (eC (.int 1)) dAddA)) dSl) (eSl (eVar 0) (ePart (eVar 2)) eNoPart dSl) dAddA)) fNil)
    (fSeq (fIf (e2 (eVar 4) (eC (.int 2)) dEq) (fRet (e2 (e2 (eSl (eVar 0) eNoPart (ePart (eVar 2)) dSl) (e1 (eSl (eVar 0) (ePart (eVar 2)) (ePart (e2 (eVar 2) (eC (.int 2)) dAddA)) dSl) dRevA) dAddA) (eSl (eVar 0) (ePart (e2 (eVar 2) (eC (.int 2)) dAddA)) eNoPart dSl) dAddA)) fNil)
    (fSeq (fIf (e2 (eVar 4) (eC (.int 3)) dEq) (fRet (e2 (e2 (eSl (eVar 0) eNoPart (ePart (eVar 2)) dSl) (eTup (aCons (e2 (e2 (eSl (eVar 3) eNoPart (ePart (eC (.int 1))) dSl) (eTup (aCons (e2 (e2 (eVar 3) (eC (.int 1)) dIx) (eC (.int 1)) dAddA) aNil)) dAddA) (eSl (eVar 3) (ePart (eC (.int 2))) eNoPart dSl) dAddA) aNil)) dAddA) (eSl (eVar 0) (ePart (e2 (eVar 2) (eC (.int 1)) dAddA)) eNoPart dSl) dAddA)) fNil)
    (fSeq (fIf (tAnd (e2 (eVar 4) (eC (.int 4)) dEq) (e2 (e2 (eVar 3) (eC (.int 0)) dIx) (eC (.str "letter")) dEq)) (fRet (e2 (e2 (eSl (eVar 0) eNoPart (ePart (eVar 2)) dSl) (eTup (aCons (e2 (eSl (eVar 3) eNoPart (ePart (eC (.int 3))) dSl) (eTup (aCons (e2 (e2 (e2 (eVar 3) (eC (.int 3)) dIx) (eC (.int 1)) dAddA) (eC (.int 5)) dMod) (aCons (e2 (eVar 3) (eC (.int 4)) dIx) aNil))) dAddA) aNil)) dAddA) (eSl (eVar 0) (ePart (e2 (eVar 2) (eC (.int 1)) dAddA)) eNoPart dSl) dAddA)) fNil)
    (fSeq (fIf (tAnd (e2 (eVar 4) (eC (.int 5)) dEq) (e2 (e2 (eVar 3) (eC (.int 0)) dIx) (eC (.str "head")) dEq)) (fSeq (fSet 5 (e2 (eTup (aCons (eC (.str "choice")) (aCons (eC (.str "round")) (aCons (eC (.str "both")) aNil)))) (e2 (e2 (eVar 1) (eC (.int 512)) dDiv) (eC (.int 3)) dMod) dIx))
    (fRet (e2 (e2 (eSl (eVar 0) eNoPart (ePart (eVar 2)) dSl) (eTup (aCons (e2 (e2 (eSl (eVar 3) eNoPart (ePart (eC (.int 2))) dSl) (eTup (aCons (eVar 5) aNil)) dAddA) (eSl (eVar 3) (ePart (eC (.int 3))) eNoPart dSl) dAddA) aNil)) dAddA) (eSl (eVar 0) (ePart (e2 (eVar 2) (eC (.int 1)) dAddA)) eNoPart dSl) dAddA))) fNil)
    (fSeq (fIf (e2 (e2 (eVar 3) (eC (.int 0)) dIx) (eC (.str "head")) dEq) (fRet (e2 (e2 (eSl (eVar 0) eNoPart (ePart (eVar 2)) dSl) (eTup (aCons (e2 (eSl (eVar 3) eNoPart (ePart (eC (.int 3))) dSl) (eTup (aCons (eC (.int 0)) (aCons (eC (.int 3)) aNil))) dAddA) aNil)) dAddA) (eSl (eVar 0) (ePart (e2 (eVar 2) (eC (.int 1)) dAddA)) eNoPart dSl) dAddA)) fNil)
    (fRet (e2 (e2 (eSl (eVar 0) eNoPart (ePart (eVar 2)) dSl) (eTup (aCons (eTup (aCons (eC (.str "line")) (aCons (e2 (eVar 3) (eC (.int 1)) dIx) aNil))) aNil)) dAddA) (eSl (eVar 0) (ePart (e2 (eVar 2) (eC (.int 1)) dAddA)) eNoPart dSl) dAddA))))))))))))
def m_law_changed : List PyData → Option PyData := runF 6 f_law_changed
def b_law_1 : Rho → Option Fl :=
    (fIf (e2 (eVar 3) (eTup aNil) dNe) (fSet 3 (eCall 2 m_law_changed (aCons (eVar 3) (aCons (e2 (eCall 2 m_law_drawn (aCons (eVar 4) (aCons (eVar 5) aNil))) (eC (.int 4)) dDiv) aNil)))) fNil)
def f_law : Rho → Option Fl :=
    (fSeq (fSet 1 (eCall 3 m_law_talk (aCons (eCall 2 m_law_mixed (aCons (eVar 0) (aCons (eC (.int 0)) aNil))) (aCons (e2 (eCall 2 m_law_mixed (aCons (eVar 0) (aCons (eC (.int 1)) aNil))) (eC (.int 4)) dMod) (aCons (eC (.int 3)) aNil)))))
    (fSeq (fSet 2 (e2 (eVar 1) (eC (.int 0)) dIx))
    (fSeq (fSet 3 (eCall 3 (m_law_lay fu_law_lay) (aCons (e2 (eVar 1) (eC (.int 1)) dIx) (aCons (eVar 2) (aCons (eC (.int 0)) aNil)))))
    (fSeq (fIf (tOr (e2 (eCall 1 m_laid (aCons (eVar 1) aNil)) (eVar 3) dNe) (e2 (eCall 1 m_height (aCons (eVar 1) aNil)) (e1 (eVar 3) dLen) dNe)) (fRet (eC (.bool false))) fNil)
    (fSeq (fSet 4 (eCall 2 m_law_mixed (aCons (eVar 0) (aCons (eC (.int 2)) aNil))))
    (fSeq (fFor (e1 (e2 (eTup (aCons (eC (.int 0)) (aCons (eC (.int 1)) (aCons (eC (.int 1)) (aCons (eC (.int 2)) (aCons (eC (.int 4)) (aCons (eC (.int 0)) aNil))))))) (e2 (eVar 4) (eC (.int 6)) dMod) dIx) dRng1) (g1 5) [5] b_law_1)
    (fSeq (fAsg (g2 6 7) (eCall 3 (m_law_steps_of fu_law_steps_of) (aCons (eVar 3) (aCons (eVar 2) (aCons (eC (.int 0)) aNil)))))
    (fSeq (fSet 8 (eTup (aCons (eC (.str "refused")) (aCons (eC (.bool true)) aNil))))
    (fSeq (fIf (tAnd (e2 (eVar 6) (eC .none) dIsNot) (tAnd (e2 (eVar 7) (eTup aNil) dEq) (e2 (eCall 3 (m_law_lay fu_law_lay) (aCons (eVar 6) (aCons (eVar 2) (aCons (eC (.int 0)) aNil)))) (eVar 3) dEq))) (fSet 8 (eTup (aCons (eC (.str "told")) (aCons (eTup (aCons (eVar 2) (aCons (eVar 6) aNil))) aNil)))) fNil)
    (sRet (mOp (mTold "NoTalk" 2 m_unlaid (aCons (eVar 2) (aCons (eVar 3) aNil))) (mE (eVar 8)) (kB dEq))))))))))))
def m_law : List PyData → Option PyData := runL 9 f_law
end Lr

/-! MA_k40-laid.lean -/
set_option Elab.async false
set_option linter.all false
set_option maxRecDepth 100000
namespace Lr
open PySem PySem.Spec PyProof.Rows L2 TF TK
theorem scr_len : ∀ ns : List Int, dLen (scr ns) = some (.int ns.length)
  | [] => rfl
  | n :: ns => by
    show some (PyData.int (((PyData.int n, PyData.none) :: ns.map fun n => (PyData.int n, PyData.none)).length : Nat)) = _
    rw [List.length_cons, List.length_map]; rfl
theorem scr_ix0 : ∀ (ns : List Int) (i : Int), dIx (scr ns) (.int i) = atI ((ns.map fun n => (PyData.int n, PyData.none)).map (·.1)) i
  | [], _ => rfl
  | _ :: _, _ => rfl
theorem scr_ix (ns : List Int) (k : Nat) (h : k < ns.length) : ∃ c : Int, dIx (scr ns) (.int k) = some (.int c) := by
  refine ⟨ns[k], ?_⟩
  rw [scr_ix0, scr_fst]
  exact atI_nat (by rw [List.getElem?_map, List.getElem?_eq_getElem h]; rfl)
theorem cell_ok (ns : List Int) (k : Nat) : ∃ c : Int, m_law_cell_at [scr ns, .int k] = some (.int c) := by
  by_cases h : k < ns.length
  · obtain ⟨c, hc⟩ := scr_ix ns k h
    refine ⟨c, ?_⟩
    have h' : (k : Int) < (ns.length : Int) := by omega
    simp [m_law_cell_at, runF, f_law_cell_at, scr_len, hc, h']
  · refine ⟨0, ?_⟩
    have h' : ¬ (k : Int) < (ns.length : Int) := by omega
    simp [m_law_cell_at, runF, f_law_cell_at, scr_len, h']

theorem mod_lt' (a : Int) {b : Int} (h : 0 < b) : 0 ≤ a % b ∧ a % b < b := ⟨Int.emod_nonneg a (by omega), Int.emod_lt_of_pos a h⟩
theorem mixed_ok (ns : List Int) (k : Nat) (hk : k ≤ 100) : ∃ r : Int, m_law_mixed [scr ns, .int k] = some (.int r) ∧ 0 ≤ r ∧ r < 2147483629 := by
  obtain ⟨c, hc⟩ := cell_ok ns k
  obtain ⟨h0, h1⟩ := mod_lt' ((c + 7919 * (k : Int) + 1) * 48271) (b := 2147483647) (by decide)
  have q := mod_lt' ((c + 7919 * (k : Int) + 1) * 48271 % 2147483647 * ((c + 7919 * (k : Int) + 1) * 48271 % 2147483647) + 7 * ((c + 7919 * (k : Int) + 1) * 48271 % 2147483647) + k) (b := 2147483629) (by decide)
  refine ⟨_, ?_, q⟩
  have h2 : -18446744073709551616 < (c + 7919 * (k : Int) + 1) * 48271 % 2147483647 ∧ (c + 7919 * (k : Int) + 1) * 48271 % 2147483647 < 18446744073709551616 := ⟨by omega, by omega⟩
  simp [m_law_mixed, runF, f_law_mixed, hc, h2]
theorem drawn_ok (n k : Int) : ∃ r : Int, m_law_drawn [.int n, .int k] = some (.int r) ∧ 0 ≤ r ∧ r < 2147483629 := by
  obtain ⟨h0, h1⟩ := mod_lt' ((n + 104729 * k + 17) * 69621) (b := 2147483647) (by decide)
  have q := mod_lt' ((n + 104729 * k + 17) * 69621 % 2147483647 * ((n + 104729 * k + 17) * 69621 % 2147483647) + 3 * ((n + 104729 * k + 17) * 69621 % 2147483647) + k) (b := 2147483629) (by decide)
  refine ⟨_, ?_, q⟩
  have h2 : -18446744073709551616 < (n + 104729 * k + 17) * 69621 % 2147483647 ∧ (n + 104729 * k + 17) * 69621 % 2147483647 < 18446744073709551616 := ⟨by omega, by omega⟩
  simp [m_law_drawn, runF, f_law_drawn, h2]
/-- a name -/
def IsNm (w : Str) : Prop := 1 ≤ w.cps.size ∧ w.cps.size ≤ 5 ∧ ∀ c ∈ w.cps.toList, 97 ≤ c ∧ c ≤ 122
theorem nm_of {w : Str} (h : (decide (1 ≤ w.cps.size) && decide (w.cps.size ≤ 5) && w.cps.toList.all fun c => decide (97 ≤ c) && decide (c ≤ 122)) = true) : IsNm w := by
  simp only [Bool.and_eq_true, decide_eq_true_eq, List.all_eq_true] at h
  exact ⟨h.1.1, h.1.2, h.2⟩
theorem div_nn {a b : Int} (h : 0 ≤ a) (hb : 0 < b) : 0 ≤ a / b := Int.ediv_nonneg h (by omega)
theorem nat_of {a : Int} (h : 0 ≤ a) : ∃ n : Nat, a = n := ⟨a.toNat, by omega⟩
/-- a comprehension over a range whose elements are all told -/
theorem lc_rng {tg : PyData → Rho → Option Rho} {el : Rho → Option PyData} {ρ : Rho} (P : PyData → Prop) : ∀ (ds : List PyData), (∀ d ∈ ds, ∃ r y, tg d ρ = some r ∧ el r = some y ∧ P y) → ∃ ys, lcGo tg tYs el ρ ds = some ys ∧ ys.length = ds.length ∧ ∀ y ∈ ys, P y
  | [], _ => ⟨[], rfl, rfl, by simp⟩
  | d :: ds, h => by
    obtain ⟨r, y, h1, h2, h3⟩ := h d (by simp)
    obtain ⟨ys, h4, h5, h6⟩ := lc_rng P ds fun e he => h e (by simp [he])
    refine ⟨y :: ys, ?_, by simp [h5], by simpa using ⟨h3, h6⟩⟩
    unfold lcGo
    simp [h1, h2, h4]
theorem strs_one : ∀ (ys : List PyData), (∀ y ∈ ys, ∃ c : Nat, y = .str ⟨#[c]⟩ ∧ 97 ≤ c ∧ c ≤ 122) → ∃ cs : List Nat, strsD ys = some (cs.map fun c => ⟨#[c]⟩) ∧ cs.length = ys.length ∧ ∀ c ∈ cs, 97 ≤ c ∧ c ≤ 122
  | [], _ => ⟨[], rfl, rfl, by simp⟩
  | y :: ys, h => by
    obtain ⟨c, rfl, h1⟩ := h y (by simp)
    obtain ⟨cs, h2, h3, h4⟩ := strs_one ys fun z hz => h z (by simp [hz])
    exact ⟨c :: cs, by simp [strsD, h2], by simp [h3], by simpa using ⟨h1, h4⟩⟩
theorem dJoin_lst {a : Str} {ds : List PyData} {ys : List Str} (h : strsD ds = some ys) (hz : (ys.map (·.length)).sum + ys.length * a.length ≤ 16777216) : dJoin (.str a) (.list ds) = some (.str (Txt.join a ys)) := by
  show ((strsD ds).bind fun ys => if (ys.map (·.length)).sum + ys.length * a.length ≤ 16777216 then some (PyData.str (Txt.join a ys)) else none) = _
  rw [h]
  exact if_pos hz
theorem joinL_nil' : ∀ (ls : List (List Nat)), TL.joinL [] ls = ls.flatten
  | [] => rfl
  | [l] => by simp [TL.joinL]
  | l :: m :: r => by
    have := joinL_nil' (m :: r)
    simp only [TL.joinL, List.nil_append, List.flatten_cons] at this ⊢
    rw [this]
theorem join_signs (cs : List Nat) : (Txt.join ("" : Str) (cs.map fun c => ⟨#[c]⟩)).cps.toList = cs := by
  rw [TL.join_eq]
  have h := TL.tl_join ("" : Str) (cs.map fun c => ⟨#[c]⟩)
  have e : TL.tl ("" : Str) = [] := by decide
  rw [e, joinL_nil', List.map_map] at h
  have h2 : (cs.map (TL.tl ∘ fun c => (⟨#[c]⟩ : Str))).flatten = cs := by
    clear h
    induction cs with
    | nil => rfl
    | cons c cs ih => rw [List.map_cons, List.flatten_cons, ih]; rfl
  rw [h2] at h
  exact h
theorem word_ok (n : Int) (hn : 0 ≤ n) : ∃ w : Str, m_law_word [.int n] = some (.str w) ∧ IsNm w := by
  obtain ⟨h0, h1⟩ := mod_lt' n (b := 6) (by decide)
  by_cases hz : 0 < n % 6
  · have hc : n % 6 = 1 ∨ n % 6 = 2 ∨ n % 6 = 3 ∨ n % 6 = 4 ∨ n % 6 = 5 := by omega
    rcases hc with e | e | e | e | e
    · exact ⟨"hi", by simp [m_law_word, runF, f_law_word, e], nm_of (by decide)⟩
    · exact ⟨"go", by simp [m_law_word, runF, f_law_word, e], nm_of (by decide)⟩
    · exact ⟨"hi", by simp [m_law_word, runF, f_law_word, e], nm_of (by decide)⟩
    · exact ⟨"later", by simp [m_law_word, runF, f_law_word, e], nm_of (by decide)⟩
    · refine ⟨"go", ?_, nm_of (by decide)⟩
      simp [m_law_word, runF, f_law_word, e]
      rfl
  · have e : n % 6 = 0 := by omega
    obtain ⟨h2, h3⟩ := mod_lt' (n / 6) (b := 5) (by decide)
    obtain ⟨m, hm⟩ := nat_of (show 0 ≤ 1 + n / 6 % 5 by omega)
    have el : ∀ d ∈ rints 0 m, ∃ r y, g1 2 d [some (.int n), some (.str "abcdefghijklmnopqrstuvwxyz"), none] = some r ∧
        e_law_word_1 r = some y ∧ ∃ c : Nat, y = .str ⟨#[c]⟩ ∧ 97 ≤ c ∧ c ≤ 122 := by
      intro d hd
      unfold rints at hd
      rw [List.mem_map] at hd
      obtain ⟨i, _, rfl⟩ := hd
      obtain ⟨r, hr, hr0, _⟩ := drawn_ok n (i : Nat)
      obtain ⟨h4, h5⟩ := mod_lt' (r / 4) (b := 26) (by decide)
      obtain ⟨j, hj⟩ := nat_of h4
      have hj26 : j < 26 := by omega
      have hl : ("abcdefghijklmnopqrstuvwxyz" : Str).length ≤ sizeLine := by decide
      have hat : L2.atI ("abcdefghijklmnopqrstuvwxyz" : Str).cps.toList (j : Int) = some (97 + j) := by
        refine atI_nat ?_
        have : ∀ j < 26, ("abcdefghijklmnopqrstuvwxyz" : Str).cps.toList[j]? = some (97 + j) := by decide
        exact this j hj26
      refine ⟨_, .str ⟨#[97 + j]⟩, rfl, ?_, 97 + j, rfl, by omega, by omega⟩
      simp [e_law_word_1, hr, hj]
      simp [dIx, hl, hat]
    obtain ⟨ys, hy, hyl, hyp⟩ := lc_rng _ _ el
    obtain ⟨cs, hcs, hcl, hcp⟩ := strs_one ys hyp
    rw [rints_length] at hyl
    have hlen : cs.length ≤ 5 ∧ 1 ≤ cs.length := by omega
    refine ⟨Txt.join ("" : Str) (cs.map fun c => ⟨#[c]⟩), ?_, ?_⟩
    · have hs : ((cs.map fun c => (⟨#[c]⟩ : Str)).map (·.length)).sum = cs.length := by
        clear hcs hcl hcp hlen
        induction cs with
        | nil => rfl
        | cons c cs ih => simp only [List.map_cons, List.sum_cons, List.length_cons, ih]; show 1 + _ = _; omega
      have hz : ("" : Str).length = 0 := by decide
      have hm2 : -1000000 ≤ (m : Int) ∧ (m : Int) ≤ 1000000 := by omega
      simp [m_law_word, runF, f_law_word, e, hm, hm2]
      rw [hy]
      have hj : dJoin (.str "") (.list ys) = some (.str (Txt.join ("" : Str) (cs.map fun c => ⟨#[c]⟩))) := dJoin_lst hcs (by rw [hs, hz]; omega)
      simp [hj]
    · have ht := join_signs cs
      have hsz : (Txt.join ("" : Str) (cs.map fun c => ⟨#[c]⟩)).cps.size = cs.length := by rw [← Array.length_toList, ht]
      exact ⟨by omega, by omega, fun c hc => hcp c (by rw [ht] at hc; exact hc)⟩

/-- names as data -/
def hsD (hs : List Str) : PyData := .tuple (hs.map PyData.str)
/-- what is drawn: up to so deep -/
def WS (hs : List Str) : Nat → TK.Step → Prop
  | _, .tell a b w => a ∈ hs ∧ b ∈ hs ∧ IsNm w
  | d + 1, .choice bs => 1 ≤ bs.length ∧ bs.length ≤ 3 ∧ ∀ b ∈ bs, b.length ≤ 2 ∧ ∀ s ∈ b, WS hs d s
  | d + 1, .round s => s.length ≤ 2 ∧ ∀ x ∈ s, WS hs d x
  | d + 1, .both s t => (s.length ≤ 2 ∧ ∀ x ∈ s, WS hs d x) ∧ t.length ≤ 2 ∧ ∀ x ∈ t, WS hs d x
  | 0, .choice _ => False
  | 0, .round _ => False
  | 0, .both _ _ => False
theorem hs_ix {hs : List Str} (hne : hs ≠ []) (i : Int) : ∃ h, h ∈ hs ∧ dIx (hsD hs) (.int (i % (hs.length : Int))) = some (.str h) := by
  have hl : 0 < hs.length := List.length_pos_iff.mpr hne
  obtain ⟨h0, h1⟩ := mod_lt' i (b := (hs.length : Int)) (by omega)
  obtain ⟨j, hj⟩ := nat_of h0
  have hjl : j < hs.length := by omega
  refine ⟨hs[j], List.getElem_mem _, ?_⟩
  rw [hj]
  show atI (hs.map PyData.str) j = _
  exact atI_nat (by rw [List.getElem?_map, List.getElem?_eq_getElem hjl] <;> rfl)
theorem all_steps : ∀ {ys : List PyData} {P : TK.Step → Prop}, (∀ y ∈ ys, ∃ s, y = sD s ∧ P s) → ∃ ss : Steps, ys = ss.map sD ∧ ∀ s ∈ ss, P s
  | [], _, _ => ⟨[], rfl, by simp⟩
  | y :: ys, P, h => by
    obtain ⟨s, rfl, hs⟩ := h y (by simp)
    obtain ⟨ss, rfl, hss⟩ := all_steps (ys := ys) (P := P) fun z hz => h z (by simp [hz])
    exact ⟨s :: ss, rfl, by simpa using ⟨hs, hss⟩⟩
theorem all_stepss : ∀ {ys : List PyData} {P : Steps → Prop}, (∀ y ∈ ys, ∃ s, y = ssD s ∧ P s) → ∃ ss : List Steps, ys = ss.map ssD ∧ ∀ s ∈ ss, P s
  | [], _, _ => ⟨[], rfl, by simp⟩
  | y :: ys, P, h => by
    obtain ⟨s, rfl, hs⟩ := h y (by simp)
    obtain ⟨ss, rfl, hss⟩ := all_stepss (ys := ys) (P := P) fun z hz => h z (by simp [hz])
    exact ⟨s :: ss, rfl, by simpa using ⟨hs, hss⟩⟩
theorem rints_mem {n : Nat} {d : PyData} (h : d ∈ rints 0 n) : ∃ i : Nat, i < n ∧ d = .int (i : Int) := by
  unfold rints at h
  rw [List.mem_map] at h
  obtain ⟨i, hi, rfl⟩ := h
  exact ⟨i, List.mem_range.mp hi, by rw [Int.zero_add]⟩
theorem steps_of {hs : List Str} {d n : Nat} (S : ∀ num, 0 ≤ num → ∃ s, m_law_step n [.int num, hsD hs, .int d] = some (sD s) ∧ WS hs d s) (num most : Int) (hn : 0 ≤ num) (hm : 0 ≤ most) (hm2 : most ≤ 100) :
    ∃ ss : Steps, m_law_steps (n + 1) [.int num, hsD hs, .int d, .int most] = some (ssD ss) ∧ (ss.length : Int) ≤ most ∧ ∀ s ∈ ss, WS hs d s := by
  obtain ⟨h0, h1⟩ := mod_lt' num (b := most + 1) (by omega)
  obtain ⟨m, hm3⟩ := nat_of h0
  have el : ∀ e ∈ rints 0 m, ∃ r y, g1 4 e [some (.int num), some (hsD hs), some (.int d), some (.int most), none] = some r ∧
      e_law_steps_1 (m_law_step n) (m_law_steps n) r = some y ∧ ∃ s, y = sD s ∧ WS hs d s := by
    intro e he
    obtain ⟨i, _, rfl⟩ := rints_mem he
    obtain ⟨r, hr, hr0, _⟩ := drawn_ok num (10 + (i : Nat))
    obtain ⟨s, hs1, hs2⟩ := S (r / 4) (div_nn hr0 (by decide))
    exact ⟨_, sD s, rfl, by simp [e_law_steps_1, hr, hs1], s, rfl, hs2⟩
  obtain ⟨ys, hy, hyl, hyp⟩ := lc_rng _ _ el
  obtain ⟨ss, rfl, hss⟩ := all_steps hyp
  rw [rints_length, List.length_map] at hyl
  refine ⟨ss, ?_, by omega, hss⟩
  have hm4 : -1000000 ≤ (m : Int) ∧ (m : Int) ≤ 1000000 := by omega
  have hp : 0 < most + 1 := by omega
  simp [m_law_steps, runF, f_law_steps, hm3, hm4, hp]
  rw [hy]
  rfl
theorem dEq_int' (i j : Int) : dEq (.int i) (.int j) = some (decide (i = j)) := by rw [dEq_int, Bool.beq_eq_decide_eq]
theorem dLen_hs (hs : List Str) : dLen (hsD hs) = some (.int hs.length) := by
  show some (PyData.int _) = _
  rw [List.length_map]
theorem tell_of {hs : List Str} (hne : hs ≠ []) {n : Nat} (num : Int) (hn : 0 ≤ num) (d : Nat) (h : d = 0 ∨ num % 7 < 3) : ∃ s, m_law_step (n + 1) [.int num, hsD hs, .int d] = some (sD s) ∧ WS hs d s := by
  obtain ⟨a, ha, ea⟩ := hs_ix hne (num / 8)
  obtain ⟨b, hb, eb⟩ := hs_ix hne (num / 64)
  obtain ⟨w, ew, hw⟩ := word_ok (num / 512) (div_nn hn (by decide))
  refine ⟨.tell a b w, ?_, by unfold WS; exact ⟨ha, hb, hw⟩⟩
  have hl : 0 < hs.length := List.length_pos_iff.mpr hne
  have ht : (if decide ((d : Int) = 0) = true then some true else some (decide (num % 7 < 3))) = some true := by
    rcases h with h | h
    · subst h; rfl
    · rw [decide_eq_true h]; split <;> rfl
  rw [sD_tell]
  simp [m_law_step, runF, f_law_step, dEq_int', dLen_hs, hl, ea, eb, ew]
  simp at ht
  rcases h with h | h
  · simp [h]
  · simp [h]
theorem step_ok {hs : List Str} (hne : hs ≠ []) : ∀ d n : Nat, (∀ num, 0 ≤ num → ∃ s, m_law_step (n + 2 * d + 1) [.int num, hsD hs, .int d] = some (sD s) ∧ WS hs d s)
  | 0, n => fun num hn => tell_of hne num hn 0 (.inl rfl)
  | d + 1, n => fun num hn => by
    by_cases h3 : num % 7 < 3
    · exact tell_of hne num hn (d + 1) (.inr h3)
    have en : n + 2 * (d + 1) + 1 = (n + 2 * d + 1 + 1) + 1 := by omega
    rw [en]
    have T := fun (nu : Int) (h : 0 ≤ nu) => steps_of (step_ok hne d n) nu 2 h (by decide) (by decide)
    generalize n + 2 * d + 1 + 1 = N at T ⊢
    have ed : ((d + 1 : Nat) : Int) - 1 = d := by omega
    have hd0 : ¬ ((d : Int) + 1 = 0) := by omega
    by_cases h5 : num % 7 < 5
    · obtain ⟨h0, h1⟩ := mod_lt' (num / 8) (b := 3) (by decide)
      obtain ⟨m, hm⟩ := nat_of (show 0 ≤ 1 + num / 8 % 3 by omega)
      have el : ∀ e ∈ rints 0 m, ∃ r y, g1 9 e [some (.int num), some (hsD hs), some (.int ((d : Int) + 1)), some (.int (num % 7)), none, none, none, some (.int m), none, none] = some r ∧
          e_law_step_1 (m_law_step N) (m_law_steps N) r = some y ∧ ∃ s, y = ssD s ∧ ((s.length : Int) ≤ 2 ∧ ∀ x ∈ s, WS hs d x) := by
        intro e he
        obtain ⟨i, _, rfl⟩ := rints_mem he
        obtain ⟨r, hr, hr0, _⟩ := drawn_ok num (i : Nat)
        obtain ⟨ss, h7, h8, h9⟩ := T (r / 4) (div_nn hr0 (by decide))
        have e3 : (d : Int) + 1 - 1 = d := by omega
        refine ⟨_, ssD ss, rfl, ?_, ss, rfl, h8, h9⟩
        simp [e_law_step_1, hr, e3, h7]
      obtain ⟨ys, hy, hyl, hyp⟩ := lc_rng _ _ el
      obtain ⟨bs, rfl, hbs⟩ := all_stepss hyp
      rw [rints_length, List.length_map] at hyl
      refine ⟨.choice bs, ?_, ?_⟩
      · have hm4 : -1000000 ≤ (m : Int) ∧ (m : Int) ≤ 1000000 := by omega
        rw [sD_choice]
        simp [m_law_step, runF, f_law_step, dEq_int', hd0, h3, h5, hm, hm4]
        rw [hy]
        simp
      · unfold WS
        exact ⟨by omega, by omega, fun b hb => ⟨by have := (hbs b hb).1; omega, (hbs b hb).2⟩⟩
    · obtain ⟨r, hr, hr0, _⟩ := drawn_ok num 4
      obtain ⟨s1, h7, h8, h9⟩ := T (r / 4) (div_nn hr0 (by decide))
      have e3 : (d : Int) + 1 - 1 = d := by omega
      by_cases he : num % 7 = 5
      · refine ⟨.round s1, ?_, by unfold WS; exact ⟨by omega, h9⟩⟩
        rw [sD_round]
        simp [m_law_step, runF, f_law_step, dEq_int', hd0, he, hr, e3, h7]
      · obtain ⟨r2, hr2, hr20, _⟩ := drawn_ok num 5
        obtain ⟨s2, h10, h11, h12⟩ := T (r2 / 4) (div_nn hr20 (by decide))
        refine ⟨.both s1 s2, ?_, by unfold WS; exact ⟨⟨by omega, h9⟩, by omega, h12⟩⟩
        rw [sD_both]
        simp [m_law_step, runF, f_law_step, dEq_int', hd0, he, h3, h5, hr, hr2, e3, h7, h10]
theorem steps_ok {hs : List Str} (hne : hs ≠ []) (d n : Nat) (num most : Int) (hn : 0 ≤ num) (hm : 0 ≤ most) (hm2 : most ≤ 100) :
    ∃ ss : Steps, m_law_steps (n + 2 * d + 2) [.int num, hsD hs, .int d, .int most] = some (ssD ss) ∧ (ss.length : Int) ≤ most ∧ ∀ s ∈ ss, WS hs d s := steps_of (step_ok hne d n) num most hn hm hm2
/-- hands -/
def HsOk (hs : List Str) : Prop := 1 ≤ hs.length ∧ hs.length ≤ 4 ∧ hs.Nodup ∧ ∀ h ∈ hs, IsNm h
theorem HsOk.ne {hs : List Str} (h : HsOk hs) : hs ≠ [] := fun e => by have := h.1; rw [e] at this; simp at this
theorem pl_hs (hs : List Str) : pl (hsD hs) = true := pl_of (by unfold hsD; rw [plain_tup]; simp [plain_str]) (by
  unfold hsD
  exact Nat.le_trans (depth_tup (n := 0).mpr (by simp [depth_str])) (by decide))
theorem eqv_str (a b : Str) : PyData.eqv (.str a) (.str b) = decide (a = b) := by rw [PyData.eqv, Bool.beq_eq_decide_eq]
theorem any_str (a : Str) (hs : List Str) : ((hs.map PyData.str).any fun z => PyData.eqv z (.str a)) = decide (a ∈ hs) := by
  induction hs with
  | nil => rfl
  | cons h hs ih =>
    rw [List.map_cons, List.any_cons, ih, eqv_str]
    by_cases e : h = a
    · subst e; simp
    · have e' : ¬ a = h := fun z => e z.symm
      simp [e, e']
theorem dIn_hs (a : Str) (hs : List Str) : dIn (.str a) (hsD hs) = some (decide (a ∈ hs)) := by
  have := pl_hs hs
  unfold hsD at this ⊢
  show (if pl (.str a) = true ∧ pl (.tuple (hs.map PyData.str)) = true then some ((hs.map PyData.str).any fun z => PyData.eqv z (.str a)) else none) = _
  rw [if_pos ⟨rfl, this⟩, any_str]
theorem hands0 (num : Int) : ∃ hs : List Str, HsOk hs ∧ dIx (.tuple [.tuple [.str "a"], .tuple [.str "a", .str "bob"], .tuple [.str "c", .str "a", .str "bob"], .tuple [.str "d", .str "bob", .str "a", .str "c"]]) (.int (num % 4)) = some (hsD hs) := by
  obtain ⟨h0, h1⟩ := mod_lt' num (b := 4) (by decide)
  have hc : num % 4 = 0 ∨ num % 4 = 1 ∨ num % 4 = 2 ∨ num % 4 = 3 := by omega
  have n1 : IsNm "a" := nm_of (by decide)
  have n2 : IsNm "bob" := nm_of (by decide)
  have n3 : IsNm "c" := nm_of (by decide)
  have n4 : IsNm "d" := nm_of (by decide)
  rcases hc with e | e | e | e <;> rw [e]
  · exact ⟨["a"], ⟨by decide, by decide, by decide, by simpa using n1⟩, dIx_tup0⟩
  · exact ⟨["a", "bob"], ⟨by decide, by decide, by decide, by simpa using ⟨n1, n2⟩⟩, dIx_tup1⟩
  · exact ⟨["c", "a", "bob"], ⟨by decide, by decide, by decide, by simpa using ⟨n3, n1, n2⟩⟩, dIx_tup2⟩
  · exact ⟨["d", "bob", "a", "c"], ⟨by decide, by decide, by decide, by simpa using ⟨n4, n2, n1, n3⟩⟩, dIx_tup3⟩
theorem cut_tl {α : Type} (x : PyData) (l : List PyData) : cutD (x :: l) (some 1) none = l := cutD_from1
theorem talk_ok (num most : Int) (d : Nat) (hn : 0 ≤ num) (hm : 0 ≤ most) (hm2 : most ≤ 100) (hd : d ≤ 10) :
    ∃ (hs : List Str) (ss : Steps), m_law_talk [.int num, .int d, .int most] = some (.tuple [hsD hs, ssD ss]) ∧ HsOk hs ∧ (ss.length : Int) ≤ most ∧ ∀ s ∈ ss, WS hs d s := by
  obtain ⟨hs0, h1, h2⟩ := hands0 num
  obtain ⟨w, hw, hwn⟩ := word_ok (num / 8 * 6) (by have := div_nn hn (b := 8) (by decide); omega)
  by_cases hc : num / 16 % 3 = 0 ∧ w ∉ hs0
  · obtain ⟨x, r, rfl⟩ : ∃ x r, hs0 = x :: r := by
      cases hs0 with
      | nil => exact absurd rfl h1.ne
      | cons x r => exact ⟨x, r, rfl⟩
    have hok : HsOk (w :: r) := by
      obtain ⟨a1, a2, a3, a4⟩ := h1
      refine ⟨by simp, by simpa using a2, ?_, ?_⟩
      · rw [List.nodup_cons] at a3 ⊢
        exact ⟨fun z => hc.2 (by simp [z]), a3.2⟩
      · intro h hh
        rcases List.mem_cons.mp hh with rfl | hh
        · exact hwn
        · exact a4 h (by simp [hh])
    obtain ⟨ss, h3, h4, h5⟩ := steps_ok hok.ne d (30 - 2 * d - 2) (num / 4) most (div_nn hn (by decide)) hm hm2
    have ef : 30 - 2 * d - 2 + 2 * d + 2 = fu_law_step := by unfold fu_law_step; omega
    rw [ef] at h3
    refine ⟨w :: r, ss, ?_, hok, h4, h5⟩
    have hin := dIn_hs w (x :: r)
    rw [decide_eq_false hc.2] at hin
    have hl : r.length + 1 ≤ sizeLine := by have := h1.2.1; rw [List.length_cons] at this; rw [sizeLine_eq]; omega
    unfold hsD at h2 hin h3 ⊢
    simp only [List.map_cons] at h2 hin h3 ⊢
    simp [m_law_talk, runF, f_law_talk, h2, hw, dEq_int', hc.1, hin, cutD_from1, h3]
    simp [Nat.add_comm 1 r.length, hl, h3]
  · obtain ⟨ss, h3, h4, h5⟩ := steps_ok h1.ne d (30 - 2 * d - 2) (num / 4) most (div_nn hn (by decide)) hm hm2
    have ef : 30 - 2 * d - 2 + 2 * d + 2 = fu_law_step := by unfold fu_law_step; omega
    rw [ef] at h3
    refine ⟨hs0, ss, ?_, h1, h4, h5⟩
    have hin := dIn_hs w hs0
    by_cases h6 : num / 16 % 3 = 0
    · have h7 : w ∈ hs0 := by
        by_cases h7 : w ∈ hs0
        · exact h7
        · exact absurd ⟨h6, h7⟩ hc
      rw [decide_eq_true h7] at hin
      simp [m_law_talk, runF, f_law_talk, h2, hw, dEq_int', h6, hin, h3]
    · simp [m_law_talk, runF, f_law_talk, h2, hw, dEq_int', h6, h3]
theorem WS.dep {hs : List Str} : ∀ {d : Nat} {s : TK.Step}, WS hs d s → TK.dep s ≤ d
  | d, .tell a b w, _ => by rw [dep_tell]; exact Nat.zero_le _
  | d + 1, .choice bs, h => by
    unfold WS at h
    rw [dep_choice]
    have : (bs.map deps).foldr max 0 ≤ d := max_le.mpr (by
      simp only [List.mem_map, forall_exists_index, and_imp, forall_apply_eq_imp_iff₂]
      exact fun b hb => deps_le.mpr fun x hx => WS.dep ((h.2.2 b hb).2 x hx))
    omega
  | d + 1, .round s, h => by
    unfold WS at h
    rw [dep_round]
    have : deps s ≤ d := deps_le.mpr fun x hx => WS.dep (h.2 x hx)
    omega
  | d + 1, .both s t, h => by
    unfold WS at h
    rw [dep_both]
    have h1 : deps s ≤ d := deps_le.mpr fun x hx => WS.dep (h.1.2 x hx)
    have h2 : deps t ≤ d := deps_le.mpr fun x hx => WS.dep (h.2.2 x hx)
    omega
  | 0, .choice bs, h => by unfold WS at h; exact h.elim
  | 0, .round bs, h => by unfold WS at h; exact h.elim
  | 0, .both _ _, h => by unfold WS at h; exact h.elim
/-- the most rows of a step so deep -/
def HM : Nat → Nat
  | 0 => 1
  | d + 1 => 6 * HM d + 4
theorem sum_le_mul {α : Type} {f : α → Nat} {k : Nat} : ∀ (l : List α), (∀ x ∈ l, f x ≤ k) → (l.map f).sum ≤ l.length * k
  | [], _ => by simp
  | x :: l, h => by
    have h1 := h x (by simp)
    have h2 := sum_le_mul l fun y hy => h y (by simp [hy])
    simp only [List.map_cons, List.sum_cons, List.length_cons, Nat.add_mul]
    omega
theorem WS.hgt {hs : List Str} : ∀ {d : Nat} {s : TK.Step}, WS hs d s → TK.hgt s ≤ HM d
  | d, .tell a b w, _ => by
    rw [hgt_tell]
    cases d <;> (unfold HM; omega)
  | d + 1, .choice bs, h => by
    unfold WS at h
    rw [hgt_choice]
    have h1 : (bs.map hgts).sum ≤ bs.length * (2 * HM d) := sum_le_mul bs fun b hb => by
      have h2 : hgts b ≤ b.length * HM d := sum_le_mul b fun x hx => WS.hgt ((h.2.2 b hb).2 x hx)
      have h3 := (h.2.2 b hb).1
      exact Nat.le_trans h2 (Nat.mul_le_mul_right _ h3)
    have h4 : bs.length * (2 * HM d) ≤ 3 * (2 * HM d) := Nat.mul_le_mul_right _ h.2.1
    unfold HM
    omega
  | d + 1, .round s, h => by
    unfold WS at h
    rw [hgt_round]
    have h2 : hgts s ≤ s.length * HM d := sum_le_mul s fun x hx => WS.hgt (h.2 x hx)
    have h3 : s.length * HM d ≤ 2 * HM d := Nat.mul_le_mul_right _ h.1
    unfold HM
    omega
  | d + 1, .both s t, h => by
    unfold WS at h
    rw [hgt_both]
    have h2 : hgts s ≤ s.length * HM d := sum_le_mul s fun x hx => WS.hgt (h.1.2 x hx)
    have h3 : s.length * HM d ≤ 2 * HM d := Nat.mul_le_mul_right _ h.1.1
    have h4 : hgts t ≤ t.length * HM d := sum_le_mul t fun x hx => WS.hgt (h.2.2 x hx)
    have h5 : t.length * HM d ≤ 2 * HM d := Nat.mul_le_mul_right _ h.2.1
    unfold HM
    omega
  | 0, .choice bs, h => by unfold WS at h; exact h.elim
  | 0, .round bs, h => by unfold WS at h; exact h.elim
  | 0, .both _ _, h => by unfold WS at h; exact h.elim
theorem sl : sizeLine = 16777216 := sizeLine_eq
theorem s_ct : (("choice" : Str) == "tell") = false := by decide
theorem s_rt : (("round" : Str) == "tell") = false := by decide
theorem s_bt : (("both" : Str) == "tell") = false := by decide
theorem s_rc : (("round" : Str) == "choice") = false := by decide
theorem s_bc : (("both" : Str) == "choice") = false := by decide
theorem s_tc : (("tell" : Str) == "choice") = false := by decide
theorem dNe_str (a b : Str) : dNe (.str a) (.str b) = some (!(a == b)) := rfl
theorem ssD_eq (s : Steps) : ssD s = .tuple (s.map sD) := rfl
theorem dWalk_ss (s : Steps) : dWalk (ssD s) = some (s.map sD) := rfl
theorem letters_in1 {r : List PyData → Option PyData} {x0 x2 : Option PyData} (acc : List Lt) (bs : List Steps) (hr : ∀ b ∈ bs, r [ssD b] = some (.list ((lts b).map ltD))) (hl : acc.length + (bs.map lts).flatten.length ≤ 16777216) :
    forGo (g1 3) (b_law_letters_1 r) [3] (bs.map ssD) [x0, some (.list (acc.map ltD)), x2, none] = some (.nx [x0, some (.list ((acc ++ (bs.map lts).flatten).map ltD)), x2, none]) := by
  have h := forGo_map (e := ssD) (tg := g1 3) (body := b_law_letters_1 r) (ks := [3]) (fun pre => [x0, some (.list ((acc ++ (pre.map lts).flatten).map ltD)), x2, none]) bs (fun pre x post hx => by
    have hlen : acc.length + (pre.map lts).flatten.length + (lts x).length ≤ sizeLine := by
      rw [sl]
      rw [hx] at hl
      simp only [List.map_append, List.flatten_append, List.length_append, List.map_cons, List.flatten_cons] at hl
      omega
    have hrx := hr x (by rw [hx]; simp)
    refine ⟨_, [x0, some (.list ((acc ++ ((pre ++ [x]).map lts).flatten).map ltD)), x2, some (ssD x)], rfl, .inl ?_, rfl⟩
    have e : ((acc ++ (pre.map lts).flatten).map ltD).length + ((lts x).map ltD).length ≤ sizeLine := by
      rw [List.length_map, List.length_map, List.length_append]; exact hlen
    simp [b_law_letters_1, hrx]
    simp at e
    simp [e])
  rw [List.map_nil, List.flatten_nil, List.append_nil] at h
  exact h
theorem letters_body {r : List PyData → Option PyData} {n : Nat} (hr : ∀ s : Steps, deps s < n → hgts s ≤ 100000 → r [ssD s] = some (.list ((lts s).map ltD))) (s : Steps) (hd : deps s ≤ n) (hh : hgts s ≤ 100000) :
    runF 4 (f_law_letters r) [ssD s] = some (.list ((lts s).map ltD)) := by
  have h := forGo_map (e := sD) (tg := g1 2) (body := b_law_letters_2 r) (ks := [2, 3]) (fun pre => [some (ssD s), some (.list ((lts pre).map ltD)), none, none]) s (fun pre x post hx => by
    have hl : (lts pre).length + (lts1 x).length ≤ 100000 := by
      have := lts_len s
      rw [hx, lts_append, lts_cons] at this
      simp only [List.length_append] at this
      rw [← hx] at this
      omega
    have hdx : dep x ≤ n := deps_le.mp hd x (by rw [hx]; simp)
    have hgx : hgt x ≤ 100000 := Nat.le_trans (hgts_mem (by rw [hx]; simp)) hh
    have hap : lts (pre ++ [x]) = lts pre ++ lts1 x := by rw [lts_append, lts_cons, lts_nil, List.append_nil]
    refine ⟨_, [some (ssD s), some (.list ((lts (pre ++ [x])).map ltD)), some (sD x), none], rfl, .inl ?_, rfl⟩
    rw [hap]
    cases x with
    | tell a b w =>
      rw [lts1_tell] at hl ⊢
      have hl2 : (lts pre).length < sizeLine := by rw [sl]; simp at hl; omega
      rw [sD_tell]
      simp [b_law_letters_2, dEq_str, cutD_1_, hl2]
      rfl
    | choice bs =>
      rw [lts1_choice] at hl ⊢
      rw [hgt_choice] at hgx
      rw [sD_choice]
      simp [b_law_letters_2, dEq_str, s_ct]
      have := letters_in1 (x0 := some (ssD s)) (x2 := some (.tuple [.str "choice", .tuple (bs.map ssD)])) (lts pre) bs (fun b hb => hr b (by have := dep_choice_le (n := n - 1) (by rw [dep_choice] at hdx ⊢; omega) b hb; rw [dep_choice] at hdx; omega) (by have := hgts_memB hb; omega)) (by omega)
      simpa using this
    | round l =>
      rw [lts1_round] at hl ⊢
      rw [hgt_round] at hgx
      rw [dep_round] at hdx
      rw [sD_round]
      simp [b_law_letters_2, dEq_str, s_rt, s_rc, cutD_1_]
      have := letters_in1 (x0 := some (ssD s)) (x2 := some (.tuple [.str "round", ssD l])) (lts pre) [l] (fun b hb => by simp at hb; subst hb; exact hr b (by omega) (by omega)) (by simp; omega)
      simpa using this
    | both l m =>
      rw [lts1_both] at hl ⊢
      rw [hgt_both] at hgx
      rw [dep_both] at hdx
      rw [sD_both]
      simp [b_law_letters_2, dEq_str, s_bt, s_bc, cutD_1_]
      have := letters_in1 (x0 := some (ssD s)) (x2 := some (.tuple [.str "both", ssD l, ssD m])) (lts pre) [l, m] (fun b hb => by
        simp at hb
        rcases hb with rfl | rfl
        · exact hr _ (by omega) (by omega)
        · exact hr _ (by omega) (by omega)) (by simp at hl ⊢; omega)
      simpa using this)
  have h' : forGo (g1 2) (b_law_letters_2 r) [2, 3] (s.map sD) [some (ssD s), some (.list []), none, none] = some (.nx [some (ssD s), some (.list ((lts s).map ltD)), none, none]) := h
  simp [runF, f_law_letters, dWalk_ss, h']
theorem law_letters_ok : ∀ (n : Nat) (s : Steps), deps s ≤ n → hgts s ≤ 100000 → m_law_letters (n + 1) [ssD s] = some (.list ((lts s).map ltD))
  | 0, s, hd, hh => by rw [u_law_letters]; exact letters_body (n := 0) (fun s h => by omega) s hd hh
  | n + 1, s, hd, hh => by rw [u_law_letters]; exact letters_body (n := n + 1) (fun s h hh => law_letters_ok n s (by omega) hh) s hd hh
theorem letters_top {s : Steps} (hd : deps s ≤ 20) (hh : hgts s ≤ 100000) : m_law_letters fu_law_letters [ssD s] = some (.list ((lts s).map ltD)) := law_letters_ok 29 s (by omega) hh
theorem dIn_two (h a b : Str) : dIn (.str h) (.tuple [.str a, .str b]) = some (decide (h ∈ [a, b])) := dIn_hs h [a, b]
/-! .. by the program -/
theorem parts_choice (d : PyData) : m_parts_of [.tuple [.str "choice", d]] = some d := by kernel_rfl
theorem parts_round (d : PyData) : m_parts_of [.tuple [.str "round", d]] = some (.tuple [d]) := by kernel_rfl
theorem parts_both (d e : PyData) : m_parts_of [.tuple [.str "both", d, e]] = some (.tuple [d, e]) := by kernel_rfl
theorem parts_tell (a b c : PyData) : m_parts_of [.tuple [.str "tell", a, b, c]] = some (.tuple []) := by kernel_rfl
/-- letters of a row that a hand writes, or gets -/
def seenL (h : Str) (row : List Lt) : List Lt := row.filter fun l => decide (h ∈ [l.1, l.2.1])
def rowD (row : List Lt) : PyData := .tuple (row.map ltD)
theorem rowD_nb (row : List Lt) : nb (rowD row) = true := by
  unfold rowD
  rw [nb_tup]
  simp only [List.mem_map, forall_exists_index, and_imp, forall_apply_eq_imp_iff₂]
  intro l _
  unfold ltD
  rw [nb_tup]
  simp [nb_str]
theorem rowD_pl (row : List Lt) : pl (rowD row) = true := pl_of (by
  unfold rowD
  rw [plain_tup]
  simp only [List.mem_map, forall_exists_index, and_imp, forall_apply_eq_imp_iff₂]
  intro l _
  unfold ltD
  rw [plain_tup]
  simp [plain_str]) (by
  unfold rowD
  refine Nat.le_trans (depth_tup (n := 1).mpr ?_) (by decide)
  simp only [List.mem_map, forall_exists_index, and_imp, forall_apply_eq_imp_iff₂]
  intro l _
  unfold ltD
  refine depth_tup (n := 0).mpr ?_
  simp [depth_str])
theorem hsD_nb (hs : List Str) : nb (hsD hs) = true := by unfold hsD; rw [nb_tup]; simp [nb_str]
/-- a talk as data -/
def tkD (hs : List Str) (s : Steps) : PyData := .tuple [hsD hs, ssD s]
theorem tkD_nb (hs : List Str) (s : Steps) : nb (tkD hs s) = true := by unfold tkD; rw [nb_tup]; simp [hsD_nb, ssD_nb]
theorem tkD_pl (hs : List Str) {s : Steps} (h : deps s ≤ 20) : pl (tkD hs s) = true := pl_of (by unfold tkD; rw [plain_tup]; simp [pl_plain (pl_hs hs), ssD_plain]) (by
  unfold tkD
  refine Nat.le_trans (depth_tup (n := 62).mpr ?_) (by decide)
  have h1 : (hsD hs).depth ≤ 1 := by unfold hsD; exact depth_tup.mpr (by simp [depth_str])
  have h2 := ssD_depth h
  simp
  omega)
/-! the parts of a step -/
def pts : TK.Step → List Steps
  | .tell _ _ _ => []
  | .choice bs => bs
  | .round l => [l]
  | .both l m => [l, m]
theorem parts_ok (x : TK.Step) : m_parts_of [sD x] = some (.tuple ((pts x).map ssD)) := by
  cases x with
  | tell a b w => rw [sD_tell]; exact parts_tell _ _ _
  | choice bs => rw [sD_choice]; exact parts_choice _
  | round l => rw [sD_round]; exact parts_round _
  | both l m => rw [sD_both]; exact parts_both _ _
theorem pts_dep {x : TK.Step} {n : Nat} (h : dep x ≤ n) : ∀ b ∈ pts x, deps b < n := fun b hb => by
  cases x with
  | tell a c w => cases hb
  | choice bs => have := dep_choice_le (bs := bs) (n := n - 1) (by rw [dep_choice] at h ⊢; omega) b hb; rw [dep_choice] at h; omega
  | round l => simp [pts] at hb; subst hb; rw [dep_round] at h; omega
  | both l m =>
    simp [pts] at hb
    rw [dep_both] at h
    rcases hb with rfl | rfl <;> omega
theorem pts_hgt (x : TK.Step) : ((pts x).map hgts).sum + (pts x).length + 1 ≤ hgt x := by
  cases x with
  | tell a c w => simp [pts, hgt_tell]
  | choice bs => rw [hgt_choice]; simp [pts]; omega
  | round l => rw [hgt_round]; simp [pts]; omega
  | both l m => rw [hgt_both]; simp [pts]; omega
theorem pts_hgt' {x : TK.Step} {b : Steps} (h : b ∈ pts x) : hgts b + 2 ≤ hgt x := by
  have h1 := hgts_memB h
  have h2 := pts_hgt x
  have h3 : 1 ≤ (pts x).length := List.length_pos_iff.mpr fun e => by rw [e] at h; cases h
  omega
/-- the letter of a step itself -/
def own1 : TK.Step → List Lt
  | .tell a b w => [(a, b, w)]
  | _ => []
theorem lts1_pts (x : TK.Step) : lts1 x = own1 x ++ ((pts x).map lts).flatten := by
  cases x with
  | tell a b w => simp [own1, pts, lts1_tell]
  | choice bs => simp [own1, pts, lts1_choice]
  | round l => simp [own1, pts, lts1_round]
  | both l m => simp [own1, pts, lts1_both]
/-- the kind -/
def isTell : TK.Step → Bool
  | .tell _ _ _ => true
  | _ => false
theorem kind_tell (x : TK.Step) : ((dIx (sD x) (.int 0)).bind fun d => dEq d (.str "tell")) = some (isTell x) := by
  cases x with
  | tell a b w => rw [sD_tell]; simp [dEq_str, isTell]
  | choice bs => rw [sD_choice]; simp [dEq_str, isTell, s_ct]
  | round l => rw [sD_round]; simp [dEq_str, isTell, s_rt]
  | both l m => rw [sD_both]; simp [dEq_str, isTell, s_bt]
def InH (hs : List Str) (s : Steps) : Prop := ∀ l ∈ lts s, l.1 ∈ hs ∧ l.2.1 ∈ hs
/-! letters_in -/
theorem letters_ext {r : List PyData → Option PyData} {x0 x2 : Option PyData} (acc : List Lt) (bs : List Steps) (hr : ∀ b ∈ bs, r [ssD b] = some (.list ((lts b).map ltD))) (hl : acc.length + (bs.map lts).flatten.length ≤ 16777216) :
    forGo (g1 3) (b_letters_in_1 r) [3] (bs.map ssD) [x0, some (.list (acc.map ltD)), x2, none] = some (.nx [x0, some (.list ((acc ++ (bs.map lts).flatten).map ltD)), x2, none]) := by
  have h := forGo_map (e := ssD) (tg := g1 3) (body := b_letters_in_1 r) (ks := [3]) (fun pre => [x0, some (.list ((acc ++ (pre.map lts).flatten).map ltD)), x2, none]) bs (fun pre x post hx => by
    have hlen : acc.length + (pre.map lts).flatten.length + (lts x).length ≤ sizeLine := by
      rw [sl]
      rw [hx] at hl
      simp only [List.map_append, List.flatten_append, List.length_append, List.map_cons, List.flatten_cons] at hl
      omega
    have hrx := hr x (by rw [hx]; simp)
    refine ⟨_, [x0, some (.list ((acc ++ ((pre ++ [x]).map lts).flatten).map ltD)), x2, some (ssD x)], rfl, .inl ?_, rfl⟩
    have e : ((acc ++ (pre.map lts).flatten).map ltD).length + ((lts x).map ltD).length ≤ sizeLine := by
      rw [List.length_map, List.length_map, List.length_append]; exact hlen
    simp [b_letters_in_1, hrx]
    simp at e
    simp [e])
  rw [List.map_nil, List.flatten_nil, List.append_nil] at h
  exact h
theorem letters_in_body {r : List PyData → Option PyData} {n : Nat} (hr : ∀ s : Steps, deps s < n → hgts s ≤ 100000 → r [ssD s] = some (.list ((lts s).map ltD))) (s : Steps) (hd : deps s ≤ n) (hh : hgts s ≤ 100000) :
    runF 4 (f_letters_in r) [ssD s] = some (.list ((lts s).map ltD)) := by
  have h := forGo_map (e := sD) (tg := g1 2) (body := b_letters_in_2 r) (ks := [2, 3]) (fun pre => [some (ssD s), some (.list ((lts pre).map ltD)), none, none]) s (fun pre x post hx => by
    have hl : (lts pre).length + (lts1 x).length ≤ 100000 := by
      have := lts_len s
      rw [hx, lts_append, lts_cons] at this
      simp only [List.length_append] at this
      rw [← hx] at this
      omega
    have hdx : dep x ≤ n := deps_le.mp hd x (by rw [hx]; simp)
    have hgx : hgt x ≤ 100000 := Nat.le_trans (hgts_mem (by rw [hx]; simp)) hh
    have hap : lts (pre ++ [x]) = lts pre ++ own1 x ++ ((pts x).map lts).flatten := by rw [lts_append, lts_cons, lts_nil, List.append_nil, lts1_pts, List.append_assoc]
    rw [lts1_pts, List.length_append] at hl
    refine ⟨_, [some (ssD s), some (.list ((lts (pre ++ [x])).map ltD)), some (sD x), none], rfl, .inl ?_, rfl⟩
    rw [hap]
    have hx2 := letters_ext (r := r) (x0 := some (ssD s)) (x2 := some (sD x)) (lts pre ++ own1 x) (pts x) (fun b hb => hr b (pts_dep hdx b hb) (by have := pts_hgt' hb; omega)) (by rw [List.length_append]; omega)
    have hk := kind_tell x
    have hp := parts_ok x
    cases x with
    | tell a b w =>
      have hl2 : (lts pre).length < sizeLine := by rw [sl]; simp [own1] at hl; omega
      simp only [sD_tell] at hk hp hx2 ⊢
      simp [b_letters_in_2, dEq_str, cutD_1_, hl2, hp, isTell, own1, ltD, pts]
    | choice bs =>
      simp only [own1, List.append_nil] at hx2 ⊢
      simp [isTell] at hk
      simp [b_letters_in_2, hp, hk, hx2]
    | round l =>
      simp only [own1, List.append_nil] at hx2 ⊢
      simp [isTell] at hk
      simp [b_letters_in_2, hp, hk, hx2]
    | both l m =>
      simp only [own1, List.append_nil] at hx2 ⊢
      simp [isTell] at hk
      simp [b_letters_in_2, hp, hk, hx2])
  have h' : forGo (g1 2) (b_letters_in_2 r) [2, 3] (s.map sD) [some (ssD s), some (.list []), none, none] = some (.nx [some (ssD s), some (.list ((lts s).map ltD)), none, none]) := h
  simp [runF, f_letters_in, dWalk_ss, h']
theorem letters_in_ok : ∀ (n : Nat) (s : Steps), deps s ≤ n → hgts s ≤ 100000 → m_letters_in (n + 1) [ssD s] = some (.list ((lts s).map ltD))
  | 0, s, hd, hh => by rw [u_letters_in]; exact letters_in_body (n := 0) (fun s h => by omega) s hd hh
  | n + 1, s, hd, hh => by rw [u_letters_in]; exact letters_in_body (n := n + 1) (fun s h hh => letters_in_ok n s (by omega) hh) s hd hh
theorem letters_in_top {s : Steps} (hd : deps s ≤ 20) (hh : hgts s ≤ 100000) : m_letters_in fu_letters_in [ssD s] = some (.list ((lts s).map ltD)) := letters_in_ok 29 s (by omega) hh
/-! hands of the drawn steps -/
theorem WS.inH {hs : List Str} : ∀ (d : Nat) (x : TK.Step), WS hs d x → ∀ l ∈ lts1 x, l.1 ∈ hs ∧ l.2.1 ∈ hs
  | d, .tell a b w, h, l, hl => by
    rw [lts1_tell] at hl
    have e : l = (a, b, w) := by simpa using hl
    subst e
    cases d <;> (unfold WS at h; exact ⟨h.1, h.2.1⟩)
  | 0, .choice _, h, _, _ => by unfold WS at h; exact h.elim
  | 0, .round _, h, _, _ => by unfold WS at h; exact h.elim
  | 0, .both _ _, h, _, _ => by unfold WS at h; exact h.elim
  | d + 1, .choice bs, h, l, hl => by
    unfold WS at h
    rw [lts1_choice] at hl
    obtain ⟨q, hq, hlq⟩ := List.mem_flatten.mp hl
    obtain ⟨b, hb, rfl⟩ := List.mem_map.mp hq
    obtain ⟨q, hq, hlq⟩ := List.mem_flatten.mp hlq
    obtain ⟨s, hs', rfl⟩ := List.mem_map.mp hq
    exact WS.inH d s ((h.2.2 b hb).2 s hs') l hlq
  | d + 1, .round t, h, l, hl => by
    unfold WS at h
    rw [lts1_round] at hl
    obtain ⟨q, hq, hlq⟩ := List.mem_flatten.mp hl
    obtain ⟨s, hs', rfl⟩ := List.mem_map.mp hq
    exact WS.inH d s (h.2 s hs') l hlq
  | d + 1, .both t u, h, l, hl => by
    unfold WS at h
    rw [lts1_both] at hl
    rcases List.mem_append.mp hl with hl | hl
    · obtain ⟨q, hq, hlq⟩ := List.mem_flatten.mp hl
      obtain ⟨s, hs', rfl⟩ := List.mem_map.mp hq
      exact WS.inH d s (h.1.2 s hs') l hlq
    · obtain ⟨q, hq, hlq⟩ := List.mem_flatten.mp hl
      obtain ⟨s, hs', rfl⟩ := List.mem_map.mp hq
      exact WS.inH d s (h.2.2 s hs') l hlq
theorem WSs.inH {hs : List Str} {d : Nat} {s : Steps} (h : ∀ x ∈ s, WS hs d x) : InH hs s := fun l hl => by
  obtain ⟨q, hq, hlq⟩ := List.mem_flatten.mp hl
  obtain ⟨x, hx, rfl⟩ := List.mem_map.mp hq
  exact WS.inH d x (h x hx) l hlq
theorem InH.append {hs : List Str} {a b : Steps} (h1 : InH hs a) (h2 : InH hs b) : InH hs (a ++ b) := fun l hl => by
  rw [lts_append] at hl
  rcases List.mem_append.mp hl with hl | hl
  · exact h1 l hl
  · exact h2 l hl
theorem WSs.dep {hs : List Str} {d : Nat} {s : Steps} (h : ∀ x ∈ s, WS hs d x) : deps s ≤ d := deps_le.mpr fun x hx => WS.dep (h x hx)
theorem WSs.hgt {hs : List Str} {d : Nat} {s : Steps} (h : ∀ x ∈ s, WS hs d x) (hd : d ≤ 3) (hl : s.length ≤ 10) : hgts s ≤ 30000 := by
  have h1 : hgts s ≤ s.length * HM d := sum_le_mul s fun x hx => WS.hgt (h x hx)
  have h2 : s.length * HM d ≤ 10 * HM d := Nat.mul_le_mul_right _ (by omega)
  have h3 : HM d ≤ 3000 := by
    have : d = 0 ∨ d = 1 ∨ d = 2 ∨ d = 3 := by omega
    rcases this with rfl | rfl | rfl | rfl <;> decide
  omega
theorem deps_append (a b : Steps) {n : Nat} (h1 : deps a ≤ n) (h2 : deps b ≤ n) : deps (a ++ b) ≤ n := deps_le.mpr fun x hx => by
  rcases List.mem_append.mp hx with hx | hx
  · exact deps_le.mp h1 x hx
  · exact deps_le.mp h2 x hx
/-! loops over enumerate -/
theorem forGo_enumFrom {α : Type} {e : α → PyData} {tg : PyData → Rho → Option Rho} {body : Rho → Option Fl} {ks : List Nat} (I : List α → Rho) (xs : List α)
    (h : ∀ pre x post, xs = pre ++ x :: post → ∃ r r', tg (.tuple [.int (pre.length : Nat), e x]) (I pre) = some r ∧ (body r = some (.nx r') ∨ body r = some (.ct r')) ∧ clr ks r' = I (pre ++ [x])) :
    ∀ post pre, xs = pre ++ post → forGo tg body ks (enumD pre.length (post.map e)) (I pre) = some (.nx (I xs))
  | [], pre, hx => by rw [List.append_nil] at hx; subst hx; rfl
  | x :: post, pre, hx => by
    obtain ⟨r, r', h1, h2, h3⟩ := h pre x post hx
    have ih := forGo_enumFrom I xs h post (pre ++ [x]) (by rw [hx, List.append_assoc]; rfl)
    rw [List.length_append, List.length_singleton] at ih
    rw [List.map_cons]
    unfold enumD
    unfold forGo
    rw [h1]
    simp only [Option.bind_some]
    rcases h2 with h2 | h2
    · rw [h2]; simp only [Option.bind_some]; rw [h3]; exact ih
    · rw [h2]; simp only [Option.bind_some]; rw [h3]; exact ih
theorem forGo_enum {α : Type} {e : α → PyData} {tg : PyData → Rho → Option Rho} {body : Rho → Option Fl} {ks : List Nat} (I : List α → Rho) (xs : List α)
    (h : ∀ pre x post, xs = pre ++ x :: post → ∃ r r', tg (.tuple [.int (pre.length : Nat), e x]) (I pre) = some r ∧ (body r = some (.nx r') ∨ body r = some (.ct r')) ∧ clr ks r' = I (pre ++ [x])) :
    forGo tg body ks (enumD 0 (xs.map e)) (I []) = some (.nx (I xs)) := forGo_enumFrom I xs h xs [] rfl
/-! a body, one statement at a time -/
theorem seq_nx {g h : Rho → Option Fl} {ρ ρ' : Rho} {r : Option Fl} (h1 : g ρ = some (.nx ρ')) (h2 : h ρ' = r) : fSeq g h ρ = r := by
  rw [fSeq_ev, h1]; exact h2
theorem seq_if {t : Rho → Option Bool} {g h : Rho → Option Fl} {ρ : Rho} {r : Option Fl} (h1 : t ρ = some false) (h2 : h ρ = r) : fSeq (fIf t g fNil) h ρ = r := seq_nx (by rw [fIf_ev, h1]; rfl) h2
theorem or_ff {s t : Rho → Option Bool} {ρ : Rho} (h1 : s ρ = some false) (h2 : t ρ = some false) : TF.tOr s t ρ = some false := by rw [tOr_ev, h1]; exact h2
theorem run_of {n : Nat} {f : Rho → Option Fl} {ds : List PyData} {d : PyData} (h : f (ds.map some ++ List.replicate (n - ds.length) none) = some (.rt d)) : runF n f ds = some d := by
  unfold runF; rw [h]; rfl
theorem call1 {m : List PyData → Option PyData} {f : Rho → Option PyData} {ρ : Rho} {x d : PyData} (h1 : f ρ = some x) (h2 : m [x] = some d) : eCall 1 m (aCons f aNil) ρ = some d := by
  rw [eCall_ev, aCons_ev, h1]; exact h2
theorem call2 {m : List PyData → Option PyData} {f g : Rho → Option PyData} {ρ : Rho} {x y d : PyData} (h1 : f ρ = some x) (h3 : g ρ = some y) (h2 : m [x, y] = some d) : eCall 2 m (aCons f (aCons g aNil)) ρ = some d := by
  rw [eCall_ev, aCons_ev, h1, Option.bind_some, aCons_ev, h3]; exact h2
theorem e2_of {α : Type} {f g : Rho → Option PyData} {k : PyData → PyData → Option α} {ρ : Rho} {x y : PyData} {d : Option α} (h1 : f ρ = some x) (h2 : g ρ = some y) (h3 : k x y = d) : TF.e2 f g k ρ = d := by
  rw [e2_ev, h1, Option.bind_some, h2]; exact h3
theorem e1_of {α : Type} {f : Rho → Option PyData} {k : PyData → Option α} {ρ : Rho} {x : PyData} {d : Option α} (h1 : f ρ = some x) (h3 : k x = d) : e1 f k ρ = d := by
  rw [e1_ev, h1]; exact h3
theorem tup1 {f : Rho → Option PyData} {ρ : Rho} {x : PyData} (h1 : f ρ = some x) : eTup (aCons f aNil) ρ = some (.tuple [x]) := by
  rw [eTup_ev, aCons_ev, h1]; rfl
theorem tup2 {f g : Rho → Option PyData} {ρ : Rho} {x y : PyData} (h1 : f ρ = some x) (h2 : g ρ = some y) : eTup (aCons f (aCons g aNil)) ρ = some (.tuple [x, y]) := by
  rw [eTup_ev, aCons_ev, h1, Option.bind_some, aCons_ev, h2]; rfl
/-! min, max of ints -/
theorem alk_ints (ns : List Int) : alk (ns.map PyData.int) = true := by
  unfold alk
  rw [List.all_eq_true]
  intro d hd
  obtain ⟨n, _, rfl⟩ := List.mem_map.mp hd
  rw [Bool.and_eq_true, Bool.and_eq_true]
  refine ⟨⟨rfl, rfl⟩, ?_⟩
  rw [List.all_eq_true]
  intro e he
  obtain ⟨m, _, rfl⟩ := List.mem_map.mp he
  simp [PySem.W.alike]
theorem dMin_ints (n : Int) (ns : List Int) : dMin (.list ((n :: ns).map PyData.int)) = some (.int (ns.foldl min n)) := by
  have h := alk_ints (n :: ns)
  rw [List.map_cons] at h ⊢
  show (if alk (PyData.int n :: ns.map PyData.int) = true then some (PySem.W.minD (.int n) (ns.map PyData.int)) else none) = _
  rw [if_pos h, PySem.W.minD_ints]
theorem dMax_ints (n : Int) (ns : List Int) : dMax (.list ((n :: ns).map PyData.int)) = some (.int (ns.foldl max n)) := by
  have h := alk_ints (n :: ns)
  rw [List.map_cons] at h ⊢
  show (if alk (PyData.int n :: ns.map PyData.int) = true then some (PySem.W.maxD (.int n) (ns.map PyData.int)) else none) = _
  rw [if_pos h, PySem.W.maxD_ints]
theorem dIx_lst0 {x : PyData} {ds : List PyData} : dIx (.list (x :: ds)) (.int 0) = some x := by
  show L2.atI (x :: ds) 0 = some x
  exact atI_nat (j := 0) rfl
theorem dIx_lst1 {x y : PyData} {ds : List PyData} : dIx (.list (x :: y :: ds)) (.int 1) = some y := by
  show L2.atI (x :: y :: ds) 1 = some y
  exact atI_nat (j := 1) rfl
theorem dIx_hs {hs : List Str} {a : Str} (h : a ∈ hs) : dIndexT (hsD hs) (.str a) = some (.int (hs.idxOf a : Nat)) := dIndex_mem h
def kindS : TK.Step → Str
  | .tell _ _ _ => "tell"
  | .choice _ => "choice"
  | .round _ => "round"
  | .both _ _ => "both"
theorem kind_at (x : TK.Step) : dIx (sD x) (.int 0) = some (.str (kindS x)) := by
  cases x with
  | tell a b w => rw [sD_tell]; simp [kindS]
  | choice bs => rw [sD_choice]; simp [kindS]
  | round l => rw [sD_round]; simp [kindS]
  | both l m => rw [sD_both]; simp [kindS]
theorem kind_ne {x : TK.Step} (h : isTell x = false) : (kindS x == "tell") = false := by
  cases x with
  | tell a b w => cases h
  | choice bs => exact s_ct
  | round l => exact s_rt
  | both l m => exact s_bt
/-! the marks of a drawing -/
inductive Mk where
  | letter (i j : Int) (w : Str)
  | head (k : Str) (lo hi : Int)
  | line
  | foot
def encM (row : Int) : Mk → PyData
  | .letter i j w => .tuple [.str "letter", .int row, .int i, .int j, .str w]
  | .head k lo hi => .tuple [.str "head", .int row, .str k, .int lo, .int hi]
  | .line => .tuple [.str "line", .int row]
  | .foot => .tuple [.str "foot", .int row]
def mkD : Int → List Mk → List PyData
  | _, [] => []
  | row, m :: ms => encM row m :: mkD (row + 1) ms
theorem mkD_length : ∀ (row : Int) (ms : List Mk), (mkD row ms).length = ms.length
  | _, [] => rfl
  | row, m :: ms => congrArg Nat.succ (mkD_length (row + 1) ms)
theorem mkD_append : ∀ (row : Int) (a b : List Mk), mkD row (a ++ b) = mkD row a ++ mkD (row + a.length) b
  | row, [], b => by simp [mkD]
  | row, m :: a, b => by
    have := mkD_append (row + 1) a b
    simp only [List.cons_append, mkD, this, List.length_cons]
    congr 3
    push_cast
    omega
theorem mkD_snoc (row : Int) (a : List Mk) (m : Mk) : mkD row (a ++ [m]) = mkD row a ++ [encM (row + a.length) m] := by rw [mkD_append]; rfl
/-- indices of the letters' hands -/
def idl (hs : List Str) (ls : List Lt) : List Int := (ls.map fun l => [(hs.idxOf l.1 : Int), (hs.idxOf l.2.1 : Int)]).flatten
theorem idl_append (hs : List Str) (a b : List Lt) : idl hs (a ++ b) = idl hs a ++ idl hs b := by simp [idl]
theorem idl_length (hs : List Str) (a : List Lt) : (idl hs a).length = 2 * a.length := by
  induction a with
  | nil => rfl
  | cons l a ih => have : idl hs (l :: a) = idl hs [l] ++ idl hs a := idl_append hs [l] a
                   rw [this, List.length_append, ih]; simp [idl]; omega
def lan (hs : List Str) (ls : List Lt) : Int × Int := match idl hs ls with
  | [] => (0, (hs.length : Int) - 1)
  | n :: ns => (ns.foldl min n, ns.foldl max n)
/-- the parts' marks, lines between -/
def jps : List (List Mk) → List Mk
  | [] => []
  | p :: r => p ++ (r.map (Mk.line :: ·)).flatten
theorem jps_snoc (pre : List (List Mk)) (x : List Mk) : jps (pre ++ [x]) = jps pre ++ ((if 0 < pre.length then [Mk.line] else []) ++ x) := by
  cases pre with
  | nil => simp [jps]
  | cons p r => simp [jps]
theorem jps_length (ps : List (List Mk)) : (jps ps).length ≤ (ps.map List.length).sum + ps.length := by
  cases ps with
  | nil => simp [jps]
  | cons p r =>
    have : ((r.map (Mk.line :: ·)).flatten).length = (r.map List.length).sum + r.length := by
      induction r with
      | nil => rfl
      | cons q r ih => simp only [List.map_cons, List.flatten_cons, List.length_append, List.length_cons, List.sum_cons, ih]; omega
    simp only [jps, List.length_append, this, List.map_cons, List.sum_cons, List.length_cons]
    omega
def mks1 (hs : List Str) : TK.Step → List Mk
  | .tell a b w => [.letter (hs.idxOf a) (hs.idxOf b) w]
  | .choice bs => .head "choice" (lan hs (lts1 (.choice bs))).1 (lan hs (lts1 (.choice bs))).2 :: (jps (bs.map fun b => (b.map (mks1 hs)).flatten) ++ [.foot])
  | .round s => .head "round" (lan hs (lts s)).1 (lan hs (lts s)).2 :: (jps [(s.map (mks1 hs)).flatten] ++ [.foot])
  | .both s t => .head "both" (lan hs (lts s ++ lts t)).1 (lan hs (lts s ++ lts t)).2 :: (jps [(s.map (mks1 hs)).flatten, (t.map (mks1 hs)).flatten] ++ [.foot])
termination_by s => sizeOf s
decreasing_by
  all_goals simp_wf
  all_goals first
    | (have h1 := List.sizeOf_lt_of_mem ‹b ∈ bs›; have h2 := List.sizeOf_lt_of_mem ‹_ ∈ b›; omega)
    | (have h2 := List.sizeOf_lt_of_mem ‹_ ∈ _›; omega)
def mkss (hs : List Str) (s : Steps) : List Mk := (s.map (mks1 hs)).flatten
theorem mks1_tell (hs : List Str) (a b w : Str) : mks1 hs (.tell a b w) = [.letter (hs.idxOf a) (hs.idxOf b) w] := by rw [mks1]
theorem mks1_parts (hs : List Str) (x : TK.Step) (h : isTell x = false) : mks1 hs x = .head (kindS x) (lan hs (lts1 x)).1 (lan hs (lts1 x)).2 :: (jps ((pts x).map (mkss hs)) ++ [.foot]) := by
  cases x with
  | tell a b w => cases h
  | choice bs => rw [mks1]; rfl
  | round l => rw [mks1, lts1_round]; rfl
  | both l m => rw [mks1, lts1_both]; rfl
theorem mkss_nil (hs : List Str) : mkss hs [] = [] := rfl
theorem mkss_snoc (hs : List Str) (pre : Steps) (x : TK.Step) : mkss hs (pre ++ [x]) = mkss hs pre ++ mks1 hs x := by simp [mkss]
theorem mkss_append (hs : List Str) (a b : Steps) : mkss hs (a ++ b) = mkss hs a ++ mkss hs b := by simp [mkss]
theorem flat_len {α : Type} {f : α → List Mk} {g : α → Nat} : ∀ (l : List α), (∀ x ∈ l, (f x).length ≤ 2 * g x) → (l.map f).flatten.length ≤ 2 * (l.map g).sum
  | [], _ => by simp
  | x :: l, h => by
    have h1 := h x (by simp)
    have h2 := flat_len l fun y hy => h y (by simp [hy])
    simp only [List.map_cons, List.flatten_cons, List.length_append, List.sum_cons]
    omega
theorem sum_len {α : Type} {f : α → List Mk} {g : α → Nat} : ∀ (l : List α), (∀ x ∈ l, (f x).length ≤ 2 * g x) → ((l.map f).map List.length).sum ≤ 2 * (l.map g).sum
  | [], _ => by simp
  | x :: l, h => by
    have h1 := h x (by simp)
    have h2 := sum_len l fun y hy => h y (by simp [hy])
    simp only [List.map_cons, List.sum_cons]
    omega
theorem mks1_len (hs : List Str) : ∀ x : TK.Step, (mks1 hs x).length ≤ 2 * hgt x := by
  have key : ∀ x : TK.Step, isTell x = false → (∀ b ∈ pts x, ∀ s ∈ b, (mks1 hs s).length ≤ 2 * hgt s) → (mks1 hs x).length ≤ 2 * hgt x := by
    intro x hx ih
    rw [mks1_parts hs x hx]
    have h1 := jps_length ((pts x).map (mkss hs))
    have h2 := sum_len (f := mkss hs) (g := hgts) (pts x) (fun b hb => flat_len b (ih b hb))
    have h3 := pts_hgt x
    simp only [List.length_cons, List.length_append, List.length_map, List.length_singleton] at h1 ⊢
    simp only [List.length_nil] at h1 ⊢
    omega
  refine Step.ind ?_ ?_ ?_ ?_
  · intro a b w; rw [mks1_tell, hgt_tell]; simp
  · intro bs ih; exact key _ rfl ih
  · intro l ih; exact key _ rfl (fun b hb => by simp [pts] at hb; subst hb; exact ih)
  · intro l m h1 h2; exact key _ rfl (fun b hb => by
      simp [pts] at hb
      rcases hb with rfl | rfl
      · exact h1
      · exact h2)
theorem mkss_len (hs : List Str) (s : Steps) : (mkss hs s).length ≤ 2 * hgts s := flat_len s fun x _ => mks1_len hs x
/-! lanes_of, marks_of, laid -/
theorem InH.sub {hs : List Str} {x : TK.Step} {s : Steps} (h : InH hs s) (hx : x ∈ s) : ∀ l ∈ lts1 x, l.1 ∈ hs ∧ l.2.1 ∈ hs := fun l hl => h l (by
  unfold lts
  exact List.mem_flatten.mpr ⟨_, List.mem_map_of_mem hx, hl⟩)
theorem InH.part {hs : List Str} {x : TK.Step} (h : ∀ l ∈ lts1 x, l.1 ∈ hs ∧ l.2.1 ∈ hs) {b : Steps} (hb : b ∈ pts x) : InH hs b := fun l hl => h l (by
  rw [lts1_pts]
  exact List.mem_append.mpr (.inr (List.mem_flatten.mpr ⟨_, List.mem_map_of_mem hb, hl⟩)))
theorem lanes_in {hs : List Str} (ls : List Lt) (hi : ∀ l ∈ ls, l.1 ∈ hs ∧ l.2.1 ∈ hs) (acc : List Int) (hl : acc.length + 2 * ls.length ≤ 10000000) (x0 x3 : Option PyData) :
    forGo (g1 4) b_lanes_of_1 [4] (ls.map ltD) [x0, some (hsD hs), some (.list (acc.map PyData.int)), x3, none] = some (.nx [x0, some (hsD hs), some (.list ((acc ++ idl hs ls).map PyData.int)), x3, none]) := by
  have h := forGo_map (e := ltD) (tg := g1 4) (body := b_lanes_of_1) (ks := [4]) (fun pre => [x0, some (hsD hs), some (.list ((acc ++ idl hs pre).map PyData.int)), x3, none]) ls (fun pre l post hx => by
    obtain ⟨h1, h2⟩ := hi l (by rw [hx]; simp)
    have hn : acc.length + (idl hs pre).length + 2 ≤ sizeLine := by
      rw [idl_length, sl]
      rw [hx] at hl
      simp at hl
      omega
    refine ⟨_, [x0, some (hsD hs), some (.list ((acc ++ idl hs (pre ++ [l])).map PyData.int)), x3, some (ltD l)], rfl, .inl ?_, rfl⟩
    have e : idl hs [l] = [(hs.idxOf l.1 : Int), (hs.idxOf l.2.1 : Int)] := by simp [idl]
    rw [idl_append, e]
    obtain ⟨a, b, w⟩ := l
    simp [b_lanes_of_1, ltD, dIx_hs h1, dIx_hs h2, hn])
  have e0 : idl hs [] = [] := rfl
  rw [e0, List.append_nil] at h
  exact h
theorem lanes_ok {hs : List Str} {x : TK.Step} (ht : isTell x = false) (hd : dep x ≤ 20) (hh : hgt x ≤ 100000) (hi : ∀ l ∈ lts1 x, l.1 ∈ hs ∧ l.2.1 ∈ hs) :
    m_lanes_of [sD x, hsD hs] = some (.tuple [.int (lan hs (lts1 x)).1, .int (lan hs (lts1 x)).2]) := by
  have hll : (lts1 x).length ≤ 100000 := Nat.le_trans (lts1_len x) hh
  have hlx : lts1 x = ((pts x).map lts).flatten := by
    rw [lts1_pts]
    cases x <;> first | rfl | cases ht
  have h := forGo_map (e := ssD) (tg := g1 3) (body := b_lanes_of_2) (ks := [3, 4]) (fun pre => [some (sD x), some (hsD hs), some (.list ((idl hs ((pre.map lts).flatten)).map PyData.int)), none, none]) (pts x) (fun pre b post hx => by
    have hb : b ∈ pts x := by rw [hx]; simp
    have hin := letters_in_top (s := b) (by have := pts_dep hd b hb; omega) (by have := pts_hgt' hb; omega)
    have hlb : ((pre.map lts).flatten).length + (lts b).length ≤ 100000 := by
      rw [hlx, hx] at hll
      simp only [List.map_append, List.flatten_append, List.length_append, List.map_cons, List.flatten_cons] at hll
      omega
    have h1 := lanes_in (hs := hs) (lts b) (InH.part hi hb) (idl hs ((pre.map lts).flatten)) (by rw [idl_length]; omega) (some (sD x)) (some (ssD b))
    refine ⟨_, [some (sD x), some (hsD hs), some (.list ((idl hs (((pre ++ [b]).map lts).flatten)).map PyData.int)), some (ssD b), none], rfl, .inl ?_, rfl⟩
    rw [List.map_append, List.flatten_append, idl_append]
    simp [b_lanes_of_2, hin]
    simpa using h1)
  have h' : forGo (g1 3) b_lanes_of_2 [3, 4] ((pts x).map ssD) [some (sD x), some (hsD hs), some (.list []), none, none] = some (.nx [some (sD x), some (hsD hs), some (.list ((idl hs (lts1 x)).map PyData.int)), none, none]) := by
    rw [hlx]; exact h
  have hp := parts_ok x
  have hlen := dLen_hs hs
  unfold lan
  cases e : idl hs (lts1 x) with
  | nil =>
    rw [e] at h'
    simp [m_lanes_of, runF, f_lanes_of, hp, h', hlen, dEq_int]
  | cons n ns =>
    rw [e] at h'
    have h1 := dMin_ints n ns
    have h2 := dMax_ints n ns
    rw [List.map_cons] at h1 h2 h'
    have ne : ¬ ((ns.length : Int) + 1 = 0) := by omega
    simp [m_lanes_of, runF, f_lanes_of, hp, h', h1, h2, dEq_int, ne]
theorem marks_parts {r : List PyData → Option PyData} {hs : List Str} {x0 x4 x5 : Option PyData} (row : Int) (acc : List Mk) (ps : List Steps) (hr : ∀ b ∈ ps, ∀ row : Int, r [ssD b, hsD hs, .int row] = some (.list (mkD row (mkss hs b)))) (hl : acc.length + (jps (ps.map (mkss hs))).length ≤ 10000000) :
    forGo (g2 6 7) (b_marks_of_1 r) [6, 7] (enumD 0 (ps.map ssD)) [x0, some (hsD hs), some (.int row), some (.list (mkD row acc)), x4, x5, none, none] = some (.nx [x0, some (hsD hs), some (.int row), some (.list (mkD row (acc ++ jps (ps.map (mkss hs))))), x4, x5, none, none]) := by
  have h := forGo_enum (e := ssD) (tg := g2 6 7) (body := b_marks_of_1 r) (ks := [6, 7]) (fun pre => [x0, some (hsD hs), some (.int row), some (.list (mkD row (acc ++ jps (pre.map (mkss hs))))), x4, x5, none, none]) ps (fun pre b post hx => by
    have hb := hr b (by rw [hx]; simp)
    have hlen : acc.length + (jps (pre.map (mkss hs))).length + 1 + (mkss hs b).length ≤ 10000001 := by
      have e : jps (ps.map (mkss hs)) = jps ((pre ++ [b]).map (mkss hs)) ++ (post.map (fun q => Mk.line :: mkss hs q)).flatten := by
        rw [hx]
        cases pre with
        | nil => simp [jps]; rfl
        | cons p q => simp [jps]; rfl
      rw [e, List.map_append, List.map_cons, List.map_nil, jps_snoc] at hl
      simp only [List.length_append] at hl
      split at hl <;> simp at hl <;> omega
    refine ⟨_, [x0, some (hsD hs), some (.int row), some (.list (mkD row (acc ++ jps ((pre ++ [b]).map (mkss hs))))), x4, x5, some (.int (pre.length : Nat)), some (ssD b)], rfl, .inl ?_, rfl⟩
    rw [List.map_append, List.map_cons, List.map_nil, jps_snoc, List.length_map, ← List.append_assoc]
    have zl : (acc ++ jps (pre.map (mkss hs))).length + 1 + (mkss hs b).length ≤ sizeLine := by rw [List.length_append, sl]; omega
    generalize acc ++ jps (pre.map (mkss hs)) = A at zl ⊢
    by_cases hp : 0 < pre.length
    · have z1 : A.length < sizeLine := by omega
      have z2 : A.length + 1 + (mkss hs b).length ≤ sizeLine := zl
      have hb1 := hb (row + ((A.length : Int) + 1))
      rw [if_pos hp, ← List.append_assoc, mkD_append row (A ++ _), mkD_snoc]
      simp only [List.length_append, List.length_singleton]
      push_cast
      simp [b_marks_of_1, hp, z1, hb1, encM, mkD_length, z2]
    · have z2 : A.length + (mkss hs b).length ≤ sizeLine := by omega
      have hb1 := hb (row + (A.length : Int))
      rw [if_neg hp, List.nil_append, mkD_append row A]
      simp [b_marks_of_1, hp, hb1, mkD_length, z2])
  simpa [jps] using h
theorem marks_body {r : List PyData → Option PyData} {n : Nat} {hs : List Str} (hr : ∀ s : Steps, deps s < n → deps s ≤ 20 → hgts s ≤ 100000 → InH hs s → ∀ row : Int, r [ssD s, hsD hs, .int row] = some (.list (mkD row (mkss hs s)))) (s : Steps) (hd : deps s ≤ n) (hn : deps s ≤ 20) (hh : hgts s ≤ 100000) (hi : InH hs s) (row : Int) :
    runF 8 (f_marks_of r) [ssD s, hsD hs, .int row] = some (.list (mkD row (mkss hs s))) := by
  have h := forGo_map (e := sD) (tg := g1 4) (body := b_marks_of_2 r) (ks := [4, 5, 6, 7]) (fun pre => [some (ssD s), some (hsD hs), some (.int row), some (.list (mkD row (mkss hs pre))), none, none, none, none]) s (fun pre x post hx => by
    have hl : (mkss hs pre).length + (mks1 hs x).length ≤ 200000 := by
      have := mkss_len hs s
      rw [hx, mkss_append] at this
      have e : mkss hs (x :: post) = mks1 hs x ++ mkss hs post := by simp [mkss]
      rw [e] at this
      simp only [List.length_append] at this
      rw [← hx] at this
      omega
    have hxs : x ∈ s := by rw [hx]; simp
    have hdx : dep x ≤ n := deps_le.mp hd x hxs
    have hdx2 : dep x ≤ 20 := deps_le.mp hn x hxs
    have hgx : hgt x ≤ 100000 := Nat.le_trans (hgts_mem hxs) hh
    have hix := hi.sub hxs
    rw [mkss_snoc]
    have hxD : sD x = sD x := rfl
    refine ⟨_, [some (ssD s), some (hsD hs), some (.int row), some (.list (mkD row (mkss hs pre ++ mks1 hs x))), some (sD x), some (.int (row + (mkss hs pre).length)), none, none], rfl, .inl ?_, rfl⟩
    generalize mkss hs pre = A at hl ⊢
    cases ht : isTell x with
    | true =>
      cases x with
      | tell a b w =>
        obtain ⟨h1, h2⟩ := hix (a, b, w) (by rw [lts1_tell]; simp)
        rw [mks1_tell] at hl ⊢
        have z1 : A.length < sizeLine := by rw [sl]; simp at hl; omega
        rw [sD_tell, mkD_snoc]
        simp [b_marks_of_2, dEq_str, dIx_hs h1, dIx_hs h2, mkD_length, z1, encM]
      | _ => cases ht
    | false =>
      rw [mks1_parts hs x ht] at hl ⊢
      have z1 : A.length < sizeLine := by rw [sl]; omega
      have hk := kind_at x
      have hkn := kind_ne ht
      have hp := parts_ok x
      have hla := lanes_ok ht hdx2 hgx hix
      have hm := marks_parts (r := r) (hs := hs) (x0 := some (ssD s)) (x4 := some (sD x)) (x5 := some (.int (row + A.length))) row (A ++ [Mk.head (kindS x) (lan hs (lts1 x)).1 (lan hs (lts1 x)).2]) (pts x)
        (fun b hb row => hr b (pts_dep hdx b hb) (by have := pts_dep hdx b hb; have := pts_dep hdx2 b hb; omega) (by have := pts_hgt' hb; omega) (InH.part hix hb) row) (by simp at hl ⊢; omega)
      rw [mkD_snoc] at hm
      have ez : A ++ (.head (kindS x) (lan hs (lts1 x)).1 (lan hs (lts1 x)).2 :: (jps ((pts x).map (mkss hs)) ++ [Mk.foot])) = ((A ++ [Mk.head (kindS x) (lan hs (lts1 x)).1 (lan hs (lts1 x)).2]) ++ jps ((pts x).map (mkss hs))) ++ [Mk.foot] := by simp
      rw [ez, mkD_snoc]
      have zB : ((A ++ [Mk.head (kindS x) (lan hs (lts1 x)).1 (lan hs (lts1 x)).2]) ++ jps ((pts x).map (mkss hs))).length < sizeLine := by
        simp at hl
        rw [sl]
        simp only [List.length_append, List.length_singleton]
        omega
      generalize ((A ++ [Mk.head (kindS x) (lan hs (lts1 x)).1 (lan hs (lts1 x)).2]) ++ jps ((pts x).map (mkss hs))) = B at hm zB ⊢
      have hm' : forGo (g2 6 7) (b_marks_of_1 r) [6, 7] (enumD 0 ((pts x).map ssD)) [some (ssD s), some (hsD hs), some (.int row), some (.list (mkD row A ++ [.tuple [.str "head", .int (row + A.length), .str (kindS x), .int (lan hs (lts1 x)).1, .int (lan hs (lts1 x)).2]])), some (sD x), some (.int (row + A.length)), none, none] = _ := hm
      simp [b_marks_of_2, hk, hkn, dEq_str, mkD_length, z1, hla, hp, hm', zB, encM])
  have h' : forGo (g1 4) (b_marks_of_2 r) [4, 5, 6, 7] (s.map sD) [some (ssD s), some (hsD hs), some (.int row), some (.list []), none, none, none, none] = some (.nx [some (ssD s), some (hsD hs), some (.int row), some (.list (mkD row (mkss hs s))), none, none, none, none]) := h
  simp [runF, f_marks_of, dWalk_ss, h']
theorem marks_ok {hs : List Str} : ∀ (n : Nat) (s : Steps), deps s ≤ n → deps s ≤ 20 → hgts s ≤ 100000 → InH hs s → ∀ row : Int, m_marks_of (n + 1) [ssD s, hsD hs, .int row] = some (.list (mkD row (mkss hs s)))
  | 0, s, hd, hn, hh, hi, row => by rw [u_marks_of]; exact marks_body (n := 0) (fun s h => by omega) s hd hn hh hi row
  | n + 1, s, hd, hn, hh, hi, row => by rw [u_marks_of]; exact marks_body (n := n + 1) (fun s h h2 hh hi row => marks_ok n s (by omega) h2 hh hi row) s hd hn hh hi row
theorem laid_ok {hs : List Str} {s : Steps} (hd : deps s ≤ 20) (hh : hgts s ≤ 100000) (hi : InH hs s) : m_laid [tkD hs s] = some (.tuple (mkD 0 (mkss hs s))) := by
  have h : m_marks_of fu_marks_of [ssD s, hsD hs, .int 0] = some (.list (mkD 0 (mkss hs s))) := marks_ok 29 s (by omega) hd hh hi 0
  simp [m_laid, runF, f_laid, tkD, h]
theorem height_ok {hs : List Str} {s : Steps} (hd : deps s ≤ 20) (hh : hgts s ≤ 100000) (hi : InH hs s) : m_height [tkD hs s] = some (.int ((mkss hs s).length : Nat)) := by
  simp [m_height, runF, f_height, laid_ok hd hh hi, mkD_length]
/-! the reader of marks: a plain one -/
abbrev MkR := Int × Mk
def mrD (p : MkR) : PyData := encM p.1 p.2
inductive PT where
  | tell (a b w : Str) | node (k : Str) (ps : List (List PT))
def ptD : PT → PyData
  | .tell a b w => .tuple [.str "tell", .str a, .str b, .str w]
  | .node k ps => if k = "choice" then .tuple [.str "choice", .tuple (ps.map fun p => .tuple (p.map ptD))] else .tuple (.str k :: ps.map fun p => .tuple (p.map ptD))
termination_by t => sizeOf t
decreasing_by
  all_goals simp_wf
  all_goals (have h1 := List.sizeOf_lt_of_mem ‹p ∈ ps›; have h2 := List.sizeOf_lt_of_mem ‹_ ∈ p›; omega)
def ptsD (p : List PT) : PyData := .tuple (p.map ptD)
theorem ptD_tell (a b w : Str) : ptD (.tell a b w) = .tuple [.str "tell", .str a, .str b, .str w] := by rw [ptD]
theorem ptD_node (k : Str) (ps : List (List PT)) : ptD (.node k ps) = if k = "choice" then .tuple [.str "choice", .tuple (ps.map ptsD)] else .tuple (.str k :: ps.map ptsD) := by rw [ptD]; rfl
inductive PR (α : Type) where
  | ok (x : α) (i : Nat) | ex
def isLH : Mk → Bool
  | .letter _ _ _ => true
  | .head _ _ _ => true
  | _ => false
def isLn : Mk → Bool
  | .line => true
  | _ => false
def isFt : Mk → Bool
  | .foot => true
  | _ => false
def loopS (stp : Nat → Option (PR PT)) (ms : List MkR) : Nat → Nat → List PT → Option (PR (List PT))
  | 0, _, _ => none
  | m + 1, i, acc => if (ms[i]?).any (fun p => isLH p.2) = true then (stp i).bind fun r => (match r with
      | .ok t j => loopS stp ms m j (acc ++ [t])
      | .ex => some .ex) else some (.ok acc i)
def loopP (sts : Nat → Option (PR (List PT))) (ms : List MkR) : Nat → Nat → List (List PT) → Option (PR (List (List PT)))
  | 0, _, _ => none
  | m + 1, i, acc => if (ms[i]?).any (fun p => isLn p.2) = true then (sts (i + 1)).bind fun r => (match r with
      | .ok t j => loopP sts ms m j (acc ++ [t])
      | .ex => some .ex) else some (.ok acc i)
def lane (hs : List Str) (z : Int) : Option Str := if 0 ≤ z ∧ z < hs.length then hs[z.toNat]? else none
def tellP : Option Str → Option Str → Str → Nat → Option (PR PT)
  | some x, some y, w, i => some (.ok (.tell x y w) (i + 1))
  | _, _, _, _ => some .ex
def endP (ms : List MkR) (k : Str) : Option (PR (List (List PT))) → Option (PR PT)
  | none => none
  | some .ex => some .ex
  | some (.ok ps j) => if (ms[j]?).any (fun p => isFt p.2) = true then some (.ok (.node k ps) (j + 1)) else some .ex
def midP (ms : List MkR) (sts : Nat → Option (PR (List PT))) (k : Str) : Option (PR (List PT)) → Option (PR PT)
  | none => none
  | some .ex => some .ex
  | some (.ok p j) => endP ms k (loopP sts ms wf j [p])
def bodyT (hs : List Str) (ms : List MkR) (sts : Nat → Option (PR (List PT))) (i : Nat) : Option (PR PT) := match ms[i]? with
  | some (_, .letter a b w) => tellP (lane hs a) (lane hs b) w i
  | some (_, .head k _ _) => midP ms sts k (sts (i + 1))
  | _ => none
mutual
def pSteps (hs : List Str) (ms : List MkR) : Nat → Nat → Option (PR (List PT))
  | 0, _ => none
  | n + 1, i => loopS (pStep hs ms n) ms wf i []
def pStep (hs : List Str) (ms : List MkR) : Nat → Nat → Option (PR PT)
  | 0, _ => none
  | n + 1, i => bodyT hs ms (pSteps hs ms n) i
end
/-! .. and the program's -/
def fsM (hs : List Str) (ms : List MkR) (i : Nat) : List (Str × PyData) := [("hands", hsD hs), ("marks", .tuple (ms.map mrD)), ("at", .int (i : Nat))]
def stM (hs : List Str) (ms : List MkR) (i : Nat) : PyData := ob "Marks" (fsM hs ms i)
section
variable {hs : List Str} {ms : List MkR} {i : Nat} {ρ : Rho}
theorem mE_of {f : Rho → Option PyData} {d : PyData} (h : f ρ = some d) : mE f ρ = some (.ok d ρ) := by unfold mE; rw [h]; rfl
theorem sRet_of {f : Rho → Option Rz} {d : PyData} {ρ' : Rho} (h : f ρ = some (.ok d ρ')) : sRet f ρ = some (.rx d ρ') := by unfold sRet; rw [h]; rfl
theorem sRetE {f : Rho → Option PyData} {d : PyData} (h : f ρ = some d) : sRet (mE f) ρ = some (.rx d ρ) := sRet_of (mE_of h)
theorem seq_rx {g h : Rho → Option Fl} {d : PyData} {ρ' : Rho} (e : g ρ = some (.rx d ρ')) : fSeq g h ρ = some (.rx d ρ') := by rw [fSeq_ev, e]; rfl
theorem seq_ex {g h : Rho → Option Fl} {x : Str} (e : g ρ = some (.ex x)) : fSeq g h ρ = some (.ex x) := by rw [fSeq_ev, e]; rfl
theorem if_t {t : Rho → Option Bool} {g h : Rho → Option Fl} {r : Option Fl} (h1 : t ρ = some true) (h2 : g ρ = r) : fIf t g h ρ = r := by rw [fIf_ev, h1]; exact h2
theorem if_f {t : Rho → Option Bool} {g h : Rho → Option Fl} {r : Option Fl} (h1 : t ρ = some false) (h2 : h ρ = r) : fIf t g h ρ = r := by rw [fIf_ev, h1]; exact h2
theorem if_n {t : Rho → Option Bool} {g : Rho → Option Fl} (h1 : t ρ = some false) : fIf t g fNil ρ = some (.nx ρ) := if_f h1 rfl
theorem runM_rx {n : Nat} {f : Rho → Option Fl} {ds : List PyData} {d y : PyData} {ρ' : Rho} {z} (h : f (ds.map some ++ List.replicate (n - ds.length) none) = some (.rx d ρ')) (hy : ρ'.getD 0 none = some y) (hz : asOb y = some z) : runM n f ds = some (.ok d y) := by
  unfold runM; rw [h]
  show (ρ'.getD 0 none).bind _ = _
  rw [hy]
  show (asOb y).bind _ = _
  rw [hz]; rfl
theorem runM_nx {n : Nat} {f : Rho → Option Fl} {ds : List PyData} {y : PyData} {ρ' : Rho} {z} (h : f (ds.map some ++ List.replicate (n - ds.length) none) = some (.nx ρ')) (hy : ρ'.getD 0 none = some y) (hz : asOb y = some z) : runM n f ds = some (.ok .none y) := by
  unfold runM; rw [h]
  show (ρ'.getD 0 none).bind _ = _
  rw [hy]
  show (asOb y).bind _ = _
  rw [hz]; rfl
theorem runM_ex {n : Nat} {f : Rho → Option Fl} {ds : List PyData} {x : Str} (h : f (ds.map some ++ List.replicate (n - ds.length) none) = some (.ex x)) : runM n f ds = some (.ex x) := by
  unfold runM; rw [h]; rfl
theorem runP_rx {n : Nat} {f : Rho → Option Fl} {ds : List PyData} {d y : PyData} {ρ' : Rho} {z} (h : f (ds.map some ++ List.replicate (n - ds.length) none) = some (.rx d ρ')) (hy : ρ'.getD 0 none = some y) (hz : asOb y = some z) : runP n f ds = some d := by
  unfold runP; rw [h]
  show (ρ'.getD 0 none).bind _ = _
  rw [hy]
  show (asOb y).bind _ = _
  rw [hz]; rfl
theorem okM {mn : Str} (h : (mn == ("hands" : Str)) = false ∧ (mn == ("marks" : Str)) = false ∧ (mn == ("at" : Str)) = false) : okOb "Marks" mn (stM hs ms i) = true := by
  unfold okOb stM fsM
  rw [asOb_ob]
  simp [List.lookup, h]
theorem obM : asOb (stM hs ms i) = some (("Marks" : Str), fsM hs ms i) := asOb_ob _ _
theorem lk1 : (("marks" : Str) == ("hands" : Str)) = false := by decide
theorem lk2 : (("at" : Str) == ("hands" : Str)) = false := by decide
theorem lk3 : (("at" : Str) == ("marks" : Str)) = false := by decide
theorem fld_hands {k : Nat} (h : ρ.getD k none = some (stM hs ms i)) : eFld k "Marks" "hands" ρ = some (hsD hs) := by
  unfold eFld; rw [h]; unfold stM fsM; simp [List.lookup]
theorem fld_marks {k : Nat} (h : ρ.getD k none = some (stM hs ms i)) : eFld k "Marks" "marks" ρ = some (.tuple (ms.map mrD)) := by
  unfold eFld; rw [h]; unfold stM fsM; simp [List.lookup, lk1]
theorem fld_at {k : Nat} (h : ρ.getD k none = some (stM hs ms i)) : eFld k "Marks" "at" ρ = some (.int (i : Nat)) := by
  unfold eFld; rw [h]; unfold stM fsM; simp [List.lookup, lk2, lk3]
/-- the word of a mark -/
def wdM : Mk → Str
  | .letter _ _ _ => "letter"
  | .head _ _ _ => "head"
  | .line => "line"
  | .foot => "foot"
def wdAt (ms : List MkR) (i : Nat) : Str := match ms[i]? with
  | some p => wdM p.2
  | none => ""
theorem enc0 (r : Int) (m : Mk) : dIx (encM r m) (.int 0) = some (.str (wdM m)) := by cases m <;> simp [encM, wdM]
theorem ix_ms {p : MkR} (h : ms[i]? = some p) : dIx (.tuple (ms.map mrD)) (.int (i : Nat)) = some (mrD p) := by
  show atI (ms.map mrD) (i : Nat) = _
  exact atI_nat (by rw [List.getElem?_map, h]; rfl)
theorem next_ok (hi : i ≤ ms.length) : m_Marks_next_word [stM hs ms i] = some (.str (wdAt ms i)) := by
  have h1 : eFld 0 "Marks" "at" [some (stM hs ms i)] = some (.int (i : Nat)) := fld_at rfl
  have h2 : eFld 0 "Marks" "marks" [some (stM hs ms i)] = some (.tuple (ms.map mrD)) := fld_marks rfl
  have h3 : e1 (eFld 0 "Marks" "marks") dLen [some (stM hs ms i)] = some (.int (ms.length : Nat)) := e1_of h2 (by simp)
  have ht : TF.e2 (eFld 0 "Marks" "at") (e1 (eFld 0 "Marks" "marks") dLen) dEq [some (stM hs ms i)] = some (decide ((i : Int) = (ms.length : Nat))) := e2_of h1 h3 (dEq_int' _ _)
  by_cases e : i = ms.length
  · have ew : wdAt ms i = "" := by unfold wdAt; rw [List.getElem?_eq_none (by omega)]
    rw [ew]
    have ht' : decide ((i : Int) = (ms.length : Nat)) = true := by simp [e]
    rw [ht'] at ht
    exact runP_rx (n := 1) (f := f_Marks_next_word) (ds := [stM hs ms i]) (seq_rx (if_t ht (sRetE rfl))) rfl obM
  · have hl : i < ms.length := by omega
    have ht' : decide ((i : Int) = (ms.length : Nat)) = false := by simp; omega
    rw [ht'] at ht
    have hx : ms[i]? = some ms[i] := by simp [hl]
    have ew : wdAt ms i = wdM ms[i].2 := by unfold wdAt; rw [hx]
    rw [ew]
    exact runP_rx (n := 1) (f := f_Marks_next_word) (ds := [stM hs ms i]) (seq_nx (if_n ht) (sRetE (e2_of (e2_of h2 h1 (ix_ms hx)) rfl (enc0 ms[i].1 ms[i].2)))) rfl obM
theorem set_at {ρ : Rho} {k : Nat} (h : ρ.getD k none = some (stM hs ms i)) {e : Rho → Option PyData} {j : Nat} (he : e ρ = some (.int (j : Nat))) : fFld k "Marks" "at" e ρ = some (.nx (ρ.set k (some (stM hs ms j)))) := by
  unfold fFld
  rw [he, h]
  have ho : asOb (stM hs ms i) = some (("Marks" : Str), fsM hs ms i) := asOb_ob _ _
  simp only [Option.bind_some, ho]
  have ep : putD "at" (.int (j : Nat)) (fsM hs ms i) = fsM hs ms j := by
    unfold fsM
    have n1 : ¬ (("hands" : Str) = "at") := by decide
    have n2 : ¬ (("marks" : Str) = "at") := by decide
    simp [putD, n1, n2]
  rw [ep]
  rfl
theorem take_ok {p : MkR} (h : ms[i]? = some p) : m_Marks_take [stM hs ms i] = some (.ok (mrD p) (stM hs ms (i + 1))) := by
  have h1 : eFld 0 "Marks" "at" [some (stM hs ms i)] = some (.int (i : Nat)) := fld_at rfl
  have hs1 : fFld 0 "Marks" "at" (TF.e2 (eFld 0 "Marks" "at") (eC (.int 1)) dAddA) [some (stM hs ms i)] = some (.nx [some (stM hs ms (i + 1))]) := set_at (k := 0) (ρ := [some (stM hs ms i)]) rfl (e2_of h1 rfl (by simp))
  have h2 : eFld 0 "Marks" "at" [some (stM hs ms (i + 1))] = some (.int ((i + 1 : Nat) : Int)) := fld_at rfl
  have h3 : eFld 0 "Marks" "marks" [some (stM hs ms (i + 1))] = some (.tuple (ms.map mrD)) := fld_marks rfl
  have h4 : TF.e2 (eFld 0 "Marks" "at") (eC (.int 1)) dSub [some (stM hs ms (i + 1))] = some (.int (i : Nat)) := e2_of h2 rfl (by rw [dSub_ev]; congr 2; omega)
  exact runM_rx (n := 1) (f := f_Marks_take) (ds := [stM hs ms i]) (seq_nx hs1 (sRetE (e2_of h3 h4 (ix_ms h)))) rfl obM
theorem hand_ok (z : Int) : m_Marks_hand [stM hs ms i, .int z] = some (match lane hs z with
    | some x => .ok (.str x) (stM hs ms i)
    | none => .ex "NoTalk") := by
  have h1 : eFld 0 "Marks" "hands" [some (stM hs ms i), some (.int z)] = some (hsD hs) := fld_hands rfl
  have h2 : e1 (eFld 0 "Marks" "hands") dLen [some (stM hs ms i), some (.int z)] = some (.int hs.length) := e1_of h1 (dLen_hs hs)
  have ht : tNot (eChain (eC (.int 0)) (eVar 1) (e1 (eFld 0 "Marks" "hands") dLen) dLe dLtA) [some (stM hs ms i), some (.int z)] = some (!decide (0 ≤ z ∧ z < hs.length)) := by
    simp only [tNot_ev, eChain_ev, eC_ev, eVar_ev, h2, Option.bind_some, List.getD_cons_succ, List.getD_cons_zero, dLe_int, dLtA_int]
    by_cases h0 : 0 ≤ z
    · simp [h0]
    · simp [h0]
  unfold lane
  by_cases hz : 0 ≤ z ∧ z < hs.length
  · rw [decide_eq_true hz] at ht
    obtain ⟨n, rfl⟩ := nat_of hz.1
    have hn : n < hs.length := by omega
    have hx : hs[n]? = some hs[n] := by simp [hn]
    have hv : dIx (hsD hs) (.int (n : Nat)) = some (.str hs[n]) := by
      show atI (hs.map PyData.str) (n : Nat) = _
      exact atI_nat (by rw [List.getElem?_map, hx]; rfl)
    rw [if_pos hz]
    have e : hs[((n : Nat) : Int).toNat]? = some hs[n] := by simpa using hx
    rw [e]
    exact runM_rx (n := 2) (f := f_Marks_hand) (ds := [stM hs ms i, .int (n : Nat)]) (seq_nx (if_n ht) (sRetE (e2_of h1 rfl hv))) rfl obM
  · rw [decide_eq_false hz] at ht
    rw [if_neg hz]
    exact runM_ex (n := 2) (f := f_Marks_hand) (ds := [stM hs ms i, .int z]) (seq_ex (if_t ht rfl))
end
/-! .. its loops, its recursion -/
section
variable {hs : List Str} {ms : List MkR} {ρ : Rho}
theorem meth0 {k i : Nat} {mn : Str} {m : List PyData → Option Rm} (h : ρ.getD k none = some (stM hs ms i)) (hn : (mn == ("hands" : Str)) = false ∧ (mn == ("marks" : Str)) = false ∧ (mn == ("at" : Str)) = false) :
    mMeth k "Marks" mn m aNil ρ = (m [stM hs ms i]).bind fun r => (match r with
      | .ok e y => some (.ok e (ρ.set k (some y)))
      | .ex x => some (.ex x)) := by
  unfold mMeth
  rw [h]
  show (if okOb "Marks" mn (stM hs ms i) = true then _ else _) = _
  refine (if_pos (okM hn)).trans ?_
  rfl
theorem meth1 {k i : Nat} {mn : Str} {m : List PyData → Option Rm} {f : Rho → Option PyData} {x : PyData} (h : ρ.getD k none = some (stM hs ms i)) (hf : f ρ = some x) (hn : (mn == ("hands" : Str)) = false ∧ (mn == ("marks" : Str)) = false ∧ (mn == ("at" : Str)) = false) :
    mMeth k "Marks" mn m (aCons f aNil) ρ = (m [stM hs ms i, x]).bind fun r => (match r with
      | .ok e y => some (.ok e (ρ.set k (some y)))
      | .ex x => some (.ex x)) := by
  unfold mMeth
  rw [aCons_ev, hf, h]
  show (if okOb "Marks" mn (stM hs ms i) = true then _ else _) = _
  refine (if_pos (okM hn)).trans ?_
  rfl
theorem nextE {k i : Nat} (h : ρ.getD k none = some (stM hs ms i)) (hi : i ≤ ms.length) : eMeth k "Marks" "next_word" m_Marks_next_word aNil ρ = some (.str (wdAt ms i)) := by
  unfold eMeth
  rw [h]
  show (if okOb "Marks" "next_word" (stM hs ms i) = true then m_Marks_next_word [stM hs ms i] else none) = _
  rw [if_pos (okM (by decide))]
  exact next_ok hi
theorem wd_lh (ms : List MkR) (i : Nat) : decide (wdAt ms i ∈ (["letter", "head"] : List Str)) = (ms[i]?).any fun p => isLH p.2 := by
  unfold wdAt
  cases ms[i]? with
  | none => decide
  | some p =>
    obtain ⟨r, m⟩ := p
    cases m with
    | letter => exact (by decide : decide (("letter" : Str) ∈ (["letter", "head"] : List Str)) = true)
    | head => exact (by decide : decide (("head" : Str) ∈ (["letter", "head"] : List Str)) = true)
    | line => exact (by decide : decide (("line" : Str) ∈ (["letter", "head"] : List Str)) = false)
    | foot => exact (by decide : decide (("foot" : Str) ∈ (["letter", "head"] : List Str)) = false)
theorem wd_ln (ms : List MkR) (i : Nat) : decide (wdAt ms i = ("line" : Str)) = (ms[i]?).any fun p => isLn p.2 := by
  unfold wdAt
  cases ms[i]? with
  | none => decide
  | some p =>
    obtain ⟨r, m⟩ := p
    cases m with
    | letter => exact (by decide : decide (("letter" : Str) = ("line" : Str)) = false)
    | head => exact (by decide : decide (("head" : Str) = ("line" : Str)) = false)
    | line => exact (by decide : decide (("line" : Str) = ("line" : Str)) = true)
    | foot => exact (by decide : decide (("foot" : Str) = ("line" : Str)) = false)
theorem wd_ft (ms : List MkR) (i : Nat) : decide (wdAt ms i = ("foot" : Str)) = (ms[i]?).any fun p => isFt p.2 := by
  unfold wdAt
  cases ms[i]? with
  | none => decide
  | some p =>
    obtain ⟨r, m⟩ := p
    cases m with
    | letter => exact (by decide : decide (("letter" : Str) = ("foot" : Str)) = false)
    | head => exact (by decide : decide (("head" : Str) = ("foot" : Str)) = false)
    | line => exact (by decide : decide (("line" : Str) = ("foot" : Str)) = false)
    | foot => exact (by decide : decide (("foot" : Str) = ("foot" : Str)) = true)
def cvS (hs : List Str) (ms : List MkR) : PR (List PT) → Rm
  | .ok ts j => .ok (ptsD ts) (stM hs ms j)
  | .ex => .ex "NoTalk"
def cvT (hs : List Str) (ms : List MkR) : PR PT → Rm
  | .ok t j => .ok (ptD t) (stM hs ms j)
  | .ex => .ex "NoTalk"
def Fwd {α : Type} (ms : List MkR) (i : Nat) (r : Option (PR α)) : Prop := ∀ t j, r = some (.ok t j) → i ≤ j ∧ j ≤ ms.length
theorem loopS_ok {rs rt : List PyData → Option Rm} {stp : Nat → Option (PR PT)} (hr : ∀ i, ((ms[i]?).any fun p => isLH p.2) = true → rt [stM hs ms i] = (stp i).map (cvT hs ms)) (hf : ∀ i, ((ms[i]?).any fun p => isLH p.2) = true → Fwd ms i (stp i)) :
    ∀ (m i : Nat) (acc : List PT), i ≤ ms.length → acc.length + m ≤ 100000 → whGo (w_Marks_steps_1 rs rt) (b_Marks_steps_1 rs rt) [] m [some (stM hs ms i), some (.list (acc.map ptD))] = (loopS stp ms m i acc).map (fun r => match r with
      | .ok ts j => Fl.nx [some (stM hs ms j), some (.list (ts.map ptD))]
      | .ex => .ex "NoTalk") ∧ Fwd ms i (loopS stp ms m i acc)
  | 0, i, acc, hi, hl => ⟨rfl, fun t j e => by cases e⟩
  | m + 1, i, acc, hi, hl => by
    have ht : w_Marks_steps_1 rs rt [some (stM hs ms i), some (.list (acc.map ptD))] = some ((ms[i]?).any fun p => isLH p.2) := by
      unfold w_Marks_steps_1
      rw [← wd_lh]
      exact e2_of (nextE rfl hi) (tup2 rfl rfl) (dIn_two _ _ _)
    unfold whGo loopS
    rw [ht]
    show (if ((ms[i]?).any fun p => isLH p.2) = true then _ else _) = _ ∧ _
    cases hb : (ms[i]?).any fun p => isLH p.2 with
    | false => exact ⟨rfl, fun t j e => by cases e; exact ⟨Nat.le_refl _, hi⟩⟩
    | true =>
      rw [if_pos rfl, if_pos rfl]
      have hm := meth0 (ρ := [some (stM hs ms i), some (.list (acc.map ptD))]) (k := 0) (i := i) (mn := "step") (m := rt) rfl (by decide)
      rw [hr i hb] at hm
      have hf1 := hf i hb
      cases es : stp i with
      | none =>
        rw [es] at hm
        have hb1 : b_Marks_steps_1 rs rt [some (stM hs ms i), some (.list (acc.map ptD))] = none := by
          unfold b_Marks_steps_1 sAppL sApp
          show (mMeth 0 "Marks" "step" rt aNil _).bind _ = _
          rw [hm]; rfl
        rw [hb1]
        exact ⟨rfl, fun t j e => by cases e⟩
      | some r =>
        rw [es] at hm hf1
        cases r with
        | ex =>
          have hb1 : b_Marks_steps_1 rs rt [some (stM hs ms i), some (.list (acc.map ptD))] = some (.ex "NoTalk") := by
            unfold b_Marks_steps_1 sAppL sApp
            show (mMeth 0 "Marks" "step" rt aNil _).bind _ = _
            rw [hm]; rfl
          rw [hb1]
          exact ⟨rfl, fun t j e => by cases e⟩
        | ok t j =>
          obtain ⟨h1, h2⟩ := hf1 t j rfl
          have hz : (acc.map ptD).length < sizeLine := by rw [List.length_map, sl]; omega
          have hb1 : b_Marks_steps_1 rs rt [some (stM hs ms i), some (.list (acc.map ptD))] = some (.nx [some (stM hs ms j), some (.list ((acc ++ [t]).map ptD))]) := by
            unfold b_Marks_steps_1 sAppL sApp
            show (mMeth 0 "Marks" "step" rt aNil _).bind _ = _
            rw [hm]
            show (if (acc.map ptD).length < sizeLine then _ else _) = _
            rw [if_pos hz, List.map_append]; rfl
          rw [hb1]
          obtain ⟨g1, g2⟩ := loopS_ok hr hf m j (acc ++ [t]) h2 (by simp; omega)
          exact ⟨g1, fun t' j' e => by obtain ⟨a, b⟩ := g2 t' j' e; exact ⟨by omega, b⟩⟩
theorem loopP_ok {rs rt : List PyData → Option Rm} {sts : Nat → Option (PR (List PT))} (x : Option PyData) (hr : ∀ i, i ≤ ms.length → rs [stM hs ms i] = (sts i).map (cvS hs ms)) (hf : ∀ i, i ≤ ms.length → Fwd ms i (sts i)) :
    ∀ (m i : Nat) (acc : List (List PT)), i ≤ ms.length → acc.length + m ≤ 100001 → whGo (w_Marks_step_1 rs rt) (b_Marks_step_1 rs rt) [] m [some (stM hs ms i), x, some (.list (acc.map ptsD))] = (loopP sts ms m i acc).map (fun r => match r with
      | .ok ts j => Fl.nx [some (stM hs ms j), x, some (.list (ts.map ptsD))]
      | .ex => .ex "NoTalk") ∧ Fwd ms i (loopP sts ms m i acc)
  | 0, i, acc, hi, hl => ⟨rfl, fun t j e => by cases e⟩
  | m + 1, i, acc, hi, hl => by
    have ht : w_Marks_step_1 rs rt [some (stM hs ms i), x, some (.list (acc.map ptsD))] = some ((ms[i]?).any fun p => isLn p.2) := by
      unfold w_Marks_step_1
      rw [← wd_ln]
      exact e2_of (nextE rfl hi) rfl (by rw [dEq_str, Bool.beq_eq_decide_eq])
    unfold whGo loopP
    rw [ht]
    show (if ((ms[i]?).any fun p => isLn p.2) = true then _ else _) = _ ∧ _
    cases hb : (ms[i]?).any fun p => isLn p.2 with
    | false => exact ⟨rfl, fun t j e => by cases e; exact ⟨Nat.le_refl _, hi⟩⟩
    | true =>
      rw [if_pos rfl, if_pos rfl]
      obtain ⟨p, hp⟩ : ∃ p, ms[i]? = some p := by
        cases e : ms[i]? with
        | none => rw [e] at hb; cases hb
        | some p => exact ⟨p, rfl⟩
      have hi1 : i + 1 ≤ ms.length := (List.getElem?_eq_some_iff.mp hp).1
      have htk : sExp (mMeth 0 "Marks" "take" m_Marks_take aNil) [some (stM hs ms i), x, some (.list (acc.map ptsD))] = some (.nx [some (stM hs ms (i + 1)), x, some (.list (acc.map ptsD))]) := by
        unfold sExp
        rw [meth0 (i := i) rfl (by decide), take_ok hp]; rfl
      have hm := meth0 (ρ := [some (stM hs ms (i + 1)), x, some (.list (acc.map ptsD))]) (k := 0) (i := i + 1) (mn := "steps") (m := rs) rfl (by decide)
      rw [hr (i + 1) hi1] at hm
      have hf1 := hf (i + 1) hi1
      cases es : sts (i + 1) with
      | none =>
        rw [es] at hm
        have hb1 : b_Marks_step_1 rs rt [some (stM hs ms i), x, some (.list (acc.map ptsD))] = none := by
          unfold b_Marks_step_1
          refine seq_nx htk ?_
          unfold sAppL sApp
          show (mMeth 0 "Marks" "steps" rs aNil _).bind _ = _
          rw [hm]; rfl
        rw [hb1]
        exact ⟨rfl, fun t j e => by cases e⟩
      | some r =>
        rw [es] at hm hf1
        cases r with
        | ex =>
          have hb1 : b_Marks_step_1 rs rt [some (stM hs ms i), x, some (.list (acc.map ptsD))] = some (.ex "NoTalk") := by
            unfold b_Marks_step_1
            refine seq_nx htk ?_
            unfold sAppL sApp
            show (mMeth 0 "Marks" "steps" rs aNil _).bind _ = _
            rw [hm]; rfl
          rw [hb1]
          exact ⟨rfl, fun t j e => by cases e⟩
        | ok t j =>
          obtain ⟨h1, h2⟩ := hf1 t j rfl
          have hz : (acc.map ptsD).length < sizeLine := by rw [List.length_map, sl]; omega
          have hb1 : b_Marks_step_1 rs rt [some (stM hs ms i), x, some (.list (acc.map ptsD))] = some (.nx [some (stM hs ms j), x, some (.list ((acc ++ [t]).map ptsD))]) := by
            unfold b_Marks_step_1
            refine seq_nx htk ?_
            unfold sAppL sApp
            show (mMeth 0 "Marks" "steps" rs aNil _).bind _ = _
            rw [hm]
            show (if (acc.map ptsD).length < sizeLine then _ else _) = _
            rw [if_pos hz, List.map_append]; rfl
          rw [hb1]
          obtain ⟨g1, g2⟩ := loopP_ok x hr hf m j (acc ++ [t]) h2 (by simp; omega)
          exact ⟨g1, fun t' j' e => by obtain ⟨a, b⟩ := g2 t' j' e; exact ⟨by omega, b⟩⟩
theorem loopP_len {sts : Nat → Option (PR (List PT))} : ∀ (m i : Nat) (acc ts : List (List PT)) (j : Nat), loopP sts ms m i acc = some (.ok ts j) → ts.length ≤ acc.length + m
  | 0, i, acc, ts, j, e => by cases e
  | m + 1, i, acc, ts, j, e => by
    unfold loopP at e
    by_cases hb : ((ms[i]?).any fun p => isLn p.2) = true
    · rw [if_pos hb] at e
      cases es : sts (i + 1) with
      | none => rw [es] at e; cases e
      | some r =>
        rw [es] at e
        cases r with
        | ex => cases e
        | ok t j1 =>
          have := loopP_len m j1 (acc ++ [t]) ts j e
          rw [List.length_append, List.length_singleton] at this
          omega
    · rw [if_neg hb] at e; cases e; omega
theorem whl_nx {n : Nat} {t : Rho → Option Bool} {g : Rho → Option Fl} {r : Option Fl} (h : whGo t g [] n ρ = r) : fWhile n t [] g ρ = r := h
theorem seq_no {g h : Rho → Option Fl} (e : g ρ = none) : fSeq g h ρ = none := by rw [fSeq_ev, e]; rfl
theorem runM_no {n : Nat} {f : Rho → Option Fl} {ds : List PyData} (h : f (ds.map some ++ List.replicate (n - ds.length) none) = none) : runM n f ds = none := by
  unfold runM; rw [h]; rfl
theorem stepsM_body {rs rt : List PyData → Option Rm} {stp : Nat → Option (PR PT)} (hr : ∀ i, ((ms[i]?).any fun p => isLH p.2) = true → rt [stM hs ms i] = (stp i).map (cvT hs ms)) (hf : ∀ i, ((ms[i]?).any fun p => isLH p.2) = true → Fwd ms i (stp i)) {i : Nat} (hi : i ≤ ms.length) :
    runM 2 (f_Marks_steps rs rt) [stM hs ms i] = (loopS stp ms wf i []).map (cvS hs ms) ∧ Fwd ms i (loopS stp ms wf i []) := by
  obtain ⟨h1, h2⟩ := loopS_ok (rs := rs) hr hf wf i [] hi (by decide)
  refine ⟨?_, h2⟩
  have e1 : fOwn 1 (eLst aNil) [some (stM hs ms i), none] = some (.nx [some (stM hs ms i), some (.list [])]) := rfl
  cases er : loopS stp ms wf i [] with
  | none =>
    rw [er] at h1
    exact runM_no (n := 2) (f := f_Marks_steps rs rt) (ds := [stM hs ms i]) (seq_nx e1 (seq_no (whl_nx h1)))
  | some r =>
    rw [er] at h1
    cases r with
    | ex => exact runM_ex (n := 2) (f := f_Marks_steps rs rt) (ds := [stM hs ms i]) (seq_nx e1 (seq_ex (whl_nx h1)))
    | ok ts j => exact runM_rx (n := 2) (f := f_Marks_steps rs rt) (ds := [stM hs ms i]) (seq_nx e1 (seq_nx (whl_nx h1) (sRetE (by rfl)))) rfl obM
theorem pStep_eq (n i : Nat) : pStep hs ms (n + 1) i = bodyT hs ms (pSteps hs ms n) i := by rw [pStep]
theorem pSteps_eq (n i : Nat) : pSteps hs ms (n + 1) i = loopS (pStep hs ms n) ms wf i [] := by rw [pSteps]
theorem mTup_of {g : Rho → Option Rzs} {ds : List PyData} {ρ' : Rho} (h : g ρ = some (.ok ds ρ')) (hl : ds.length ≤ 1000) : mTup g ρ = some (.ok (.tuple ds) ρ') := by
  unfold mTup; rw [h]
  show (if ds.length ≤ 1000 then _ else _) = _
  rw [if_pos hl]
theorem mTup_ex {g : Rho → Option Rzs} {x : Str} (h : g ρ = some (.ex x)) : mTup g ρ = some (.ex x) := by
  unfold mTup; rw [h]; rfl
theorem mCons_of {f : Rho → Option Rz} {g : Rho → Option Rzs} {d : PyData} {ds : List PyData} {ρ1 ρ2 : Rho} (h : f ρ = some (.ok d ρ1)) (h2 : g ρ1 = some (.ok ds ρ2)) : mCons f g ρ = some (.ok (d :: ds) ρ2) := by
  unfold mCons; rw [h]
  show (g ρ1).bind _ = _
  rw [h2]; rfl
theorem mCons_ex1 {f : Rho → Option Rz} {g : Rho → Option Rzs} {x : Str} (h : f ρ = some (.ex x)) : mCons f g ρ = some (.ex x) := by
  unfold mCons; rw [h]; rfl
theorem mCons_ex2 {f : Rho → Option Rz} {g : Rho → Option Rzs} {d : PyData} {ρ1 : Rho} {x : Str} (h : f ρ = some (.ok d ρ1)) (h2 : g ρ1 = some (.ex x)) : mCons f g ρ = some (.ex x) := by
  unfold mCons; rw [h]
  show (g ρ1).bind _ = _
  rw [h2]; rfl
theorem sRet_ex {f : Rho → Option Rz} {x : Str} (h : f ρ = some (.ex x)) : sRet f ρ = some (.ex x) := by unfold sRet; rw [h]; rfl
theorem hand1 {k i : Nat} {z : Int} {f : Rho → Option PyData} (h : ρ.getD k none = some (stM hs ms i)) (hk : k < ρ.length) (hf : f ρ = some (.int z)) : mMeth k "Marks" "hand" m_Marks_hand (aCons f aNil) ρ = some (match lane hs z with
    | some x => .ok (.str x) ρ
    | none => .ex "NoTalk") := by
  rw [meth1 h hf (by decide), hand_ok z]
  cases lane hs z with
  | none => rfl
  | some x =>
    have e : ρ.set k (some (stM hs ms i)) = ρ := by
      apply List.ext_getElem?
      intro n
      by_cases hn : n = k
      · subst hn
        rw [List.getElem?_set_self hk]
        rw [List.getD_eq_getElem?_getD, List.getElem?_eq_getElem hk] at h
        rw [List.getElem?_eq_getElem hk]
        exact congrArg some h.symm
      · rw [List.getElem?_set_ne (Ne.symm hn)]
    show some (Rz.ok (PyData.str x) (ρ.set k (some (stM hs ms i)))) = _
    rw [e]
theorem stepM_body {rs rt : List PyData → Option Rm} {sts : Nat → Option (PR (List PT))} (hr : ∀ i, i ≤ ms.length → rs [stM hs ms i] = (sts i).map (cvS hs ms)) (hf : ∀ i, i ≤ ms.length → Fwd ms i (sts i)) {i : Nat} (hi : ((ms[i]?).any fun p => isLH p.2) = true) :
    runM 3 (f_Marks_step rs rt) [stM hs ms i] = (bodyT hs ms sts i).map (cvT hs ms) ∧ Fwd ms i (bodyT hs ms sts i) := by
  obtain ⟨p, hp⟩ : ∃ p, ms[i]? = some p := by
    cases e : ms[i]? with
    | none => rw [e] at hi; cases hi
    | some p => exact ⟨p, rfl⟩
  rw [hp] at hi
  have hi1 : i + 1 ≤ ms.length := (List.getElem?_eq_some_iff.mp hp).1
  have e1 : sSet 1 (mMeth 0 "Marks" "take" m_Marks_take aNil) [some (stM hs ms i), none, none] = some (.nx [some (stM hs ms (i + 1)), some (mrD p), none]) := by
    unfold sSet
    rw [meth0 (i := i) rfl (by decide), take_ok hp]; rfl
  have ek : TF.e2 (TF.e2 (eVar 1) (eC (.int 0)) dIx) (eC (.str "letter")) dEq [some (stM hs ms (i + 1)), some (mrD p), none] = some (wdM p.2 == "letter") := e2_of (e2_of rfl rfl (enc0 p.1 p.2)) rfl dEq_str
  obtain ⟨r, m⟩ := p
  cases m with
  | line => cases hi
  | foot => cases hi
  | letter a b w =>
    have eb : bodyT hs ms sts i = tellP (lane hs a) (lane hs b) w i := by unfold bodyT; rw [hp]
    have ek' : TF.e2 (TF.e2 (eVar 1) (eC (.int 0)) dIx) (eC (.str "letter")) dEq [some (stM hs ms (i + 1)), some (mrD (r, .letter a b w)), none] = some true := ek
    have d2 : TF.e2 (eVar 1) (eC (.int 2)) dIx [some (stM hs ms (i + 1)), some (mrD (r, .letter a b w)), none] = some (.int a) := e2_of rfl rfl (by show dIx (encM r (.letter a b w)) _ = _; simp [encM])
    have d3 : TF.e2 (eVar 1) (eC (.int 3)) dIx [some (stM hs ms (i + 1)), some (mrD (r, .letter a b w)), none] = some (.int b) := e2_of rfl rfl (by show dIx (encM r (.letter a b w)) _ = _; simp [encM])
    have d4 : TF.e2 (eVar 1) (eC (.int 4)) dIx [some (stM hs ms (i + 1)), some (mrD (r, .letter a b w)), none] = some (.str w) := e2_of rfl rfl (by
      show atI [PyData.str "letter", .int r, .int a, .int b, .str w] 4 = _
      exact atI_nat (j := 4) rfl)
    have h2 := hand1 (ρ := [some (stM hs ms (i + 1)), some (mrD (r, .letter a b w)), none]) (k := 0) (i := i + 1) rfl (by simp) d2
    have h3 := hand1 (ρ := [some (stM hs ms (i + 1)), some (mrD (r, .letter a b w)), none]) (k := 0) (i := i + 1) rfl (by simp) d3
    rw [eb]
    cases ea : lane hs a with
    | none =>
      rw [ea] at h2
      exact ⟨runM_ex (n := 3) (f := f_Marks_step rs rt) (ds := [stM hs ms i]) (seq_nx e1 (seq_ex (if_t ek' (sRet_ex (mTup_ex (mCons_ex2 (mE_of rfl) (mCons_ex1 h2))))))), fun t j e => by cases e⟩
    | some x =>
      rw [ea] at h2
      cases eb2 : lane hs b with
      | none =>
        rw [eb2] at h3
        exact ⟨runM_ex (n := 3) (f := f_Marks_step rs rt) (ds := [stM hs ms i]) (seq_nx e1 (seq_ex (if_t ek' (sRet_ex (mTup_ex (mCons_ex2 (mE_of rfl) (mCons_ex2 h2 (mCons_ex1 h3)))))))), fun t j e => by cases e⟩
      | some y =>
        rw [eb2] at h3
        refine ⟨?_, fun t j e => by cases e; exact ⟨by omega, hi1⟩⟩
        show _ = some (Rm.ok (ptD (.tell x y w)) (stM hs ms (i + 1)))
        rw [ptD_tell]
        exact runM_rx (n := 3) (f := f_Marks_step rs rt) (ds := [stM hs ms i]) (seq_nx e1 (seq_rx (if_t ek' (sRet_of (mTup_of (mCons_of (mE_of rfl) (mCons_of h2 (mCons_of h3 (mCons_of (mE_of d4) rfl)))) (by simp)))))) rfl obM
  | head k lo hi2 =>
    have eb : bodyT hs ms sts i = midP ms sts k (sts (i + 1)) := by unfold bodyT; rw [hp]
    have ek' : TF.e2 (TF.e2 (eVar 1) (eC (.int 0)) dIx) (eC (.str "letter")) dEq [some (stM hs ms (i + 1)), some (mrD (r, .head k lo hi2)), none] = some false := ek
    have hm := meth0 (ρ := [some (stM hs ms (i + 1)), some (mrD (r, .head k lo hi2)), none]) (k := 0) (i := i + 1) (mn := "steps") (m := rs) rfl (by decide)
    rw [hr (i + 1) hi1] at hm
    have hf1 := hf (i + 1) hi1
    rw [eb]
    cases es : sts (i + 1) with
    | none =>
      rw [es] at hm
      refine ⟨runM_no (n := 3) (f := f_Marks_step rs rt) (ds := [stM hs ms i]) (seq_nx e1 (seq_nx (if_n ek') (seq_no ?_))), fun t j e => by cases e⟩
      unfold sOwn mLst mCons
      rw [hm]; rfl
    | some r1 =>
      rw [es] at hm hf1
      cases r1 with
      | ex =>
        refine ⟨runM_ex (n := 3) (f := f_Marks_step rs rt) (ds := [stM hs ms i]) (seq_nx e1 (seq_nx (if_n ek') (seq_ex ?_))), fun t j e => by cases e⟩
        unfold sOwn mLst mCons
        rw [hm]; rfl
      | ok t1 j =>
        obtain ⟨g1, g2⟩ := hf1 t1 j rfl
        have e3 : sOwn 2 (mLst (mCons (mMeth 0 "Marks" "steps" rs aNil) mNil)) [some (stM hs ms (i + 1)), some (mrD (r, .head k lo hi2)), none] = some (.nx [some (stM hs ms j), some (mrD (r, .head k lo hi2)), some (.list ([t1].map ptsD))]) := by
          unfold sOwn mLst mCons
          rw [hm]; rfl
        obtain ⟨l1, l2⟩ := loopP_ok (rt := rt) (some (mrD (r, .head k lo hi2))) hr hf wf j [t1] g2 (by show 1 + 100000 ≤ 100001; decide)
        show _ = (endP ms k (loopP sts ms wf j [t1])).map (cvT hs ms) ∧ Fwd ms i (endP ms k (loopP sts ms wf j [t1]))
        cases el : loopP sts ms wf j [t1] with
        | none =>
          rw [el] at l1
          exact ⟨runM_no (n := 3) (f := f_Marks_step rs rt) (ds := [stM hs ms i]) (seq_nx e1 (seq_nx (if_n ek') (seq_nx e3 (seq_no (whl_nx l1))))), fun t j e => by cases e⟩
        | some r2 =>
          rw [el] at l1 l2
          cases r2 with
          | ex => exact ⟨runM_ex (n := 3) (f := f_Marks_step rs rt) (ds := [stM hs ms i]) (seq_nx e1 (seq_nx (if_n ek') (seq_nx e3 (seq_ex (whl_nx l1))))), fun t j e => by cases e⟩
          | ok ps j2 =>
            obtain ⟨q1, q2⟩ := l2 ps j2 rfl
            have ef : TF.e2 (eMeth 0 "Marks" "next_word" m_Marks_next_word aNil) (eC (.str "foot")) dNe [some (stM hs ms j2), some (mrD (r, .head k lo hi2)), some (.list (ps.map ptsD))] = some (!((ms[j2]?).any fun p => isFt p.2)) := by
              rw [← wd_ft]
              exact e2_of (nextE rfl q2) rfl (by rw [dNe_str, Bool.beq_eq_decide_eq])
            show _ = (if ((ms[j2]?).any fun p => isFt p.2) = true then some (PR.ok (PT.node k ps) (j2 + 1)) else some .ex).map (cvT hs ms) ∧ Fwd ms i (if ((ms[j2]?).any fun p => isFt p.2) = true then some (PR.ok (PT.node k ps) (j2 + 1)) else some .ex)
            cases hb : (ms[j2]?).any fun p => isFt p.2 with
            | false =>
              rw [hb] at ef
              exact ⟨runM_ex (n := 3) (f := f_Marks_step rs rt) (ds := [stM hs ms i]) (seq_nx e1 (seq_nx (if_n ek') (seq_nx e3 (seq_nx (whl_nx l1) (seq_ex (if_t ef rfl)))))), fun t j e => by cases e⟩
            | true =>
              rw [hb] at ef
              obtain ⟨p2, hp2⟩ : ∃ p, ms[j2]? = some p := by
                cases e : ms[j2]? with
                | none => rw [e] at hb; cases hb
                | some p => exact ⟨p, rfl⟩
              have hj1 : j2 + 1 ≤ ms.length := (List.getElem?_eq_some_iff.mp hp2).1
              have e5 : sExp (mMeth 0 "Marks" "take" m_Marks_take aNil) [some (stM hs ms j2), some (mrD (r, .head k lo hi2)), some (.list (ps.map ptsD))] = some (.nx [some (stM hs ms (j2 + 1)), some (mrD (r, .head k lo hi2)), some (.list (ps.map ptsD))]) := by
                unfold sExp
                rw [meth0 (i := j2) rfl (by decide), take_ok hp2]; rfl
              have d2 : TF.e2 (eVar 1) (eC (.int 2)) dIx [some (stM hs ms (j2 + 1)), some (mrD (r, .head k lo hi2)), some (.list (ps.map ptsD))] = some (.str k) := e2_of rfl rfl (by show dIx (encM r (.head k lo hi2)) _ = _; simp [encM])
              have ec : TF.e2 (TF.e2 (eVar 1) (eC (.int 2)) dIx) (eC (.str "choice")) dEq [some (stM hs ms (j2 + 1)), some (mrD (r, .head k lo hi2)), some (.list (ps.map ptsD))] = some (decide (k = "choice")) := e2_of d2 rfl (by rw [dEq_str, Bool.beq_eq_decide_eq])
              have et : TF.e1 (eVar 2) dTuple [some (stM hs ms (j2 + 1)), some (mrD (r, .head k lo hi2)), some (.list (ps.map ptsD))] = some (.tuple (ps.map ptsD)) := rfl
              refine ⟨?_, fun t j' e => by cases e; exact ⟨by omega, hj1⟩⟩
              show _ = some (Rm.ok (ptD (.node k ps)) (stM hs ms (j2 + 1)))
              rw [ptD_node]
              by_cases hk : k = "choice"
              · rw [if_pos hk]
                rw [decide_eq_true hk] at ec
                exact runM_rx (n := 3) (f := f_Marks_step rs rt) (ds := [stM hs ms i]) (seq_nx e1 (seq_nx (if_n ek') (seq_nx e3 (seq_nx (whl_nx l1) (seq_nx (if_n ef) (seq_nx e5 (seq_rx (if_t ec (sRetE (tup2 rfl et)))))))))) rfl obM
              · rw [if_neg hk]
                rw [decide_eq_false hk] at ec
                exact runM_rx (n := 3) (f := f_Marks_step rs rt) (ds := [stM hs ms i]) (seq_nx e1 (seq_nx (if_n ek') (seq_nx e3 (seq_nx (whl_nx l1) (seq_nx (if_n ef) (seq_nx e5 (seq_nx (if_n ec) (sRetE (e2_of (tup1 d2) et (by
                  have hl := loopP_len wf j [t1] ps j2 el
                  have hw : wf = 100000 := rfl
                  rw [dAddA_tup, if_pos (by rw [List.length_map, sl]; simp at hl ⊢; omega)]; rfl)))))))))) rfl obM
end
/-! steps of a talk -/
def VT (hs : List Str) : Nat → TK.Step → Prop
  | _, .tell a b w => a ∈ hs ∧ b ∈ hs ∧ IsNm w
  | d + 1, .choice bs => 1 ≤ bs.length ∧ bs.length ≤ 3 ∧ ∀ b ∈ bs, b.length ≤ 4 ∧ ∀ s ∈ b, VT hs d s
  | d + 1, .round s => s.length ≤ 4 ∧ ∀ x ∈ s, VT hs d x
  | d + 1, .both s t => (s.length ≤ 4 ∧ ∀ x ∈ s, VT hs d x) ∧ t.length ≤ 4 ∧ ∀ x ∈ t, VT hs d x
  | 0, .choice _ => False
  | 0, .round _ => False
  | 0, .both _ _ => False
theorem WS.vt {hs : List Str} : ∀ {d : Nat} {x : TK.Step}, WS hs d x → VT hs d x
  | d, .tell a b w, h => by unfold WS at h; unfold VT; exact h
  | d + 1, .choice bs, h => by unfold WS at h; unfold VT; exact ⟨h.1, h.2.1, fun b hb => ⟨Nat.le_trans (h.2.2 b hb).1 (by decide), fun s hs => WS.vt ((h.2.2 b hb).2 s hs)⟩⟩
  | d + 1, .round s, h => by unfold WS at h; unfold VT; exact ⟨Nat.le_trans h.1 (by decide), fun x hx => WS.vt (h.2 x hx)⟩
  | d + 1, .both s t, h => by unfold WS at h; unfold VT; exact ⟨⟨Nat.le_trans h.1.1 (by decide), fun x hx => WS.vt (h.1.2 x hx)⟩, Nat.le_trans h.2.1 (by decide), fun x hx => WS.vt (h.2.2 x hx)⟩
  | 0, .choice _, h => by unfold WS at h; exact h.elim
  | 0, .round _, h => by unfold WS at h; exact h.elim
  | 0, .both _ _, h => by unfold WS at h; exact h.elim
theorem VT.parts {hs : List Str} {d : Nat} {x : TK.Step} (h : VT hs d x) (ht : isTell x = false) : ∃ d', d = d' + 1 ∧ 1 ≤ (pts x).length ∧ (pts x).length ≤ 3 ∧ ∀ b ∈ pts x, b.length ≤ 4 ∧ ∀ s ∈ b, VT hs d' s := by
  cases x with
  | tell a b w => cases ht
  | choice bs =>
    cases d with
    | zero => unfold VT at h; exact h.elim
    | succ d => unfold VT at h; exact ⟨d, rfl, h.1, h.2.1, h.2.2⟩
  | round s =>
    cases d with
    | zero => unfold VT at h; exact h.elim
    | succ d => unfold VT at h; exact ⟨d, rfl, by simp [pts], by simp [pts], fun b hb => by simp [pts] at hb; subst hb; exact h⟩
  | both s t =>
    cases d with
    | zero => unfold VT at h; exact h.elim
    | succ d => unfold VT at h; exact ⟨d, rfl, by simp [pts], by simp [pts], fun b hb => by
        simp [pts] at hb
        rcases hb with rfl | rfl
        · exact h.1
        · exact h.2⟩
theorem VT.mono {hs : List Str} : ∀ {d e : Nat} {x : TK.Step}, d ≤ e → VT hs d x → VT hs e x
  | d, e, .tell a b w, _, h => by unfold VT at h ⊢; exact h
  | d + 1, e + 1, .choice bs, hl, h => by unfold VT at h ⊢; exact ⟨h.1, h.2.1, fun b hb => ⟨(h.2.2 b hb).1, fun s hs => VT.mono (by omega) ((h.2.2 b hb).2 s hs)⟩⟩
  | d + 1, e + 1, .round s, hl, h => by unfold VT at h ⊢; exact ⟨h.1, fun s hs => VT.mono (by omega) (h.2 s hs)⟩
  | d + 1, e + 1, .both s t, hl, h => by unfold VT at h ⊢; exact ⟨⟨h.1.1, fun s hs => VT.mono (by omega) (h.1.2 s hs)⟩, h.2.1, fun s hs => VT.mono (by omega) (h.2.2 s hs)⟩
  | d + 1, 0, _, hl, h => by omega
  | 0, e, .choice _, _, h => by unfold VT at h; exact h.elim
  | 0, e, .round _, _, h => by unfold VT at h; exact h.elim
  | 0, e, .both _ _, _, h => by unfold VT at h; exact h.elim
theorem VT.ends {hs : List Str} : ∀ (d : Nat) (x : TK.Step), VT hs d x → ∀ l ∈ lts1 x, l.1 ∈ hs ∧ l.2.1 ∈ hs := by
  intro d
  induction d with
  | zero =>
    intro x h l hl
    cases x with
    | tell a b w => unfold VT at h; rw [lts1_tell] at hl; simp at hl; subst hl; exact ⟨h.1, h.2.1⟩
    | choice bs => unfold VT at h; exact h.elim
    | round bs => unfold VT at h; exact h.elim
    | both _ _ => unfold VT at h; exact h.elim
  | succ d ih =>
    intro x h l hl
    cases ht : isTell x with
    | true =>
      cases x with
      | tell a b w => unfold VT at h; rw [lts1_tell] at hl; simp at hl; subst hl; exact ⟨h.1, h.2.1⟩
      | _ => cases ht
    | false =>
      obtain ⟨d', e, _, _, hp⟩ := h.parts ht
      have e : d' = d := by omega
      subst e
      rw [lts1_pts] at hl
      have h0 : own1 x = [] := by cases x <;> first | rfl | cases ht
      rw [h0, List.nil_append] at hl
      obtain ⟨ls, h1, h2⟩ := List.mem_flatten.mp hl
      obtain ⟨b, hb, rfl⟩ := List.mem_map.mp h1
      unfold lts at h2
      obtain ⟨ls, h3, h4⟩ := List.mem_flatten.mp h2
      obtain ⟨y, hy, rfl⟩ := List.mem_map.mp h3
      exact ih y ((hp b hb).2 y hy) l h4
theorem VT.inH {hs : List Str} {d : Nat} {s : Steps} (h : ∀ x ∈ s, VT hs d x) : InH hs s := fun l hl => by
  unfold lts at hl
  obtain ⟨ls, h3, h4⟩ := List.mem_flatten.mp hl
  obtain ⟨y, hy, rfl⟩ := List.mem_map.mp h3
  exact VT.ends d y (h y hy) l h4
theorem VT.dep {hs : List Str} : ∀ {d : Nat} {s : TK.Step}, VT hs d s → TK.dep s ≤ d
  | d, .tell a b w, _ => by rw [dep_tell]; exact Nat.zero_le _
  | d + 1, .choice bs, h => by
    unfold VT at h
    rw [dep_choice]
    have : (bs.map deps).foldr max 0 ≤ d := max_le.mpr (by
      simp only [List.mem_map, forall_exists_index, and_imp, forall_apply_eq_imp_iff₂]
      exact fun b hb => deps_le.mpr fun x hx => VT.dep ((h.2.2 b hb).2 x hx))
    omega
  | d + 1, .round s, h => by
    unfold VT at h
    rw [dep_round]
    have : deps s ≤ d := deps_le.mpr fun x hx => VT.dep (h.2 x hx)
    omega
  | d + 1, .both s t, h => by
    unfold VT at h
    rw [dep_both]
    have h1 : deps s ≤ d := deps_le.mpr fun x hx => VT.dep (h.1.2 x hx)
    have h2 : deps t ≤ d := deps_le.mpr fun x hx => VT.dep (h.2.2 x hx)
    omega
  | 0, .choice bs, h => by unfold VT at h; exact h.elim
  | 0, .round bs, h => by unfold VT at h; exact h.elim
  | 0, .both _ _, h => by unfold VT at h; exact h.elim
def HM4 : Nat → Nat
  | 0 => 1
  | d + 1 => 12 * HM4 d + 4
theorem VT.hgt {hs : List Str} : ∀ {d : Nat} {s : TK.Step}, VT hs d s → TK.hgt s ≤ HM4 d
  | d, .tell a b w, _ => by
    rw [hgt_tell]
    cases d <;> (unfold HM4; omega)
  | d + 1, .choice bs, h => by
    unfold VT at h
    rw [hgt_choice]
    have h1 : (bs.map hgts).sum ≤ bs.length * (4 * HM4 d) := sum_le_mul bs fun b hb => by
      have h2 : hgts b ≤ b.length * HM4 d := sum_le_mul b fun x hx => VT.hgt ((h.2.2 b hb).2 x hx)
      have h3 := (h.2.2 b hb).1
      exact Nat.le_trans h2 (Nat.mul_le_mul_right _ h3)
    have h4 : bs.length * (4 * HM4 d) ≤ 3 * (4 * HM4 d) := Nat.mul_le_mul_right _ h.2.1
    unfold HM4
    omega
  | d + 1, .round s, h => by
    unfold VT at h
    rw [hgt_round]
    have h2 : hgts s ≤ s.length * HM4 d := sum_le_mul s fun x hx => VT.hgt (h.2 x hx)
    have h3 : s.length * HM4 d ≤ 4 * HM4 d := Nat.mul_le_mul_right _ h.1
    unfold HM4
    omega
  | d + 1, .both s t, h => by
    unfold VT at h
    rw [hgt_both]
    have h2 : hgts s ≤ s.length * HM4 d := sum_le_mul s fun x hx => VT.hgt (h.1.2 x hx)
    have h3 : s.length * HM4 d ≤ 4 * HM4 d := Nat.mul_le_mul_right _ h.1.1
    have h4 : hgts t ≤ t.length * HM4 d := sum_le_mul t fun x hx => VT.hgt (h.2.2 x hx)
    have h5 : t.length * HM4 d ≤ 4 * HM4 d := Nat.mul_le_mul_right _ h.2.1
    unfold HM4
    omega
  | 0, .choice bs, h => by unfold VT at h; exact h.elim
  | 0, .round bs, h => by unfold VT at h; exact h.elim
  | 0, .both _ _, h => by unfold VT at h; exact h.elim
theorem VT.sizes {hs : List Str} {d : Nat} {s : Steps} (h : ∀ x ∈ s, VT hs d x) (hl : s.length ≤ 8) (hd : d ≤ 3) : deps s ≤ 3 ∧ hgts s ≤ 20000 := by
  refine ⟨deps_le.mpr fun x hx => Nat.le_trans (h x hx).dep hd, ?_⟩
  have h2 : hgts s ≤ s.length * HM4 3 := sum_le_mul s fun x hx => VT.hgt ((h x hx).mono hd)
  have h3 : s.length * HM4 3 ≤ 8 * HM4 3 := Nat.mul_le_mul_right _ hl
  have h4 : HM4 3 = 12 * (12 * (12 * 1 + 4) + 4) + 4 := rfl
  omega
/-! the reader, all its depths -/
section
variable {hs : List Str} {ms : List MkR}
theorem marksR : ∀ n : Nat, (∀ i, i ≤ ms.length → m_Marks_steps n [stM hs ms i] = (pSteps hs ms n i).map (cvS hs ms) ∧ Fwd ms i (pSteps hs ms n i)) ∧ ∀ i, ((ms[i]?).any fun p => isLH p.2) = true → m_Marks_step n [stM hs ms i] = (pStep hs ms n i).map (cvT hs ms) ∧ Fwd ms i (pStep hs ms n i)
  | 0 => ⟨fun i _ => ⟨by rw [pSteps]; rfl, fun t j e => by rw [pSteps] at e; cases e⟩, fun i _ => ⟨by rw [pStep]; rfl, fun t j e => by rw [pStep] at e; cases e⟩⟩
  | n + 1 => by
    have ih := marksR n
    refine ⟨fun i hi => ?_, fun i hi => ?_⟩
    · rw [u_Marks_steps, pSteps_eq]
      exact stepsM_body (fun i h => (ih.2 i h).1) (fun i h => (ih.2 i h).2) hi
    · rw [u_Marks_step, pStep_eq]
      exact stepM_body (fun i h => (ih.1 i h).1) (fun i h => (ih.1 i h).2) hi
/-! what is laid is read back -/
def toPT : TK.Step → PT
  | .tell a b w => .tell a b w
  | .choice bs => .node "choice" (bs.map fun b => b.map toPT)
  | .round s => .node "round" [s.map toPT]
  | .both s t => .node "both" [s.map toPT, t.map toPT]
termination_by s => sizeOf s
decreasing_by
  all_goals simp_wf
  all_goals first
    | (have h1 := List.sizeOf_lt_of_mem ‹b ∈ bs›; have h2 := List.sizeOf_lt_of_mem ‹_ ∈ b›; omega)
    | (have h2 := List.sizeOf_lt_of_mem ‹_ ∈ _›; omega)
theorem toPT_tell (a b w : Str) : toPT (.tell a b w) = .tell a b w := by rw [toPT]
theorem toPT_parts {x : TK.Step} (h : isTell x = false) : toPT x = .node (kindS x) ((pts x).map fun b => b.map toPT) := by
  cases x with
  | tell a b w => cases h
  | choice bs => rw [toPT]; rfl
  | round s => rw [toPT]; rfl
  | both s t => rw [toPT]; rfl
theorem ptD_toPT (x : TK.Step) : ptD (toPT x) = sD x := by
  induction x using Step.ind with
  | h1 a b w => rw [toPT_tell, ptD_tell, sD_tell]
  | h2 bs ih =>
    rw [toPT, ptD_node, sD_choice, if_pos rfl, List.map_map]
    congr 4
    refine List.map_congr_left fun b hb => ?_
    show PyData.tuple ((b.map toPT).map ptD) = PyData.tuple (b.map sD)
    rw [List.map_map]
    exact congrArg _ (List.map_congr_left fun s hs => ih b hb s hs)
  | h3 l ih =>
    rw [toPT, ptD_node, sD_round, if_neg (by decide)]
    show PyData.tuple [_, PyData.tuple ((l.map toPT).map ptD)] = _
    rw [List.map_map]
    congr 3
    exact congrArg _ (List.map_congr_left fun s hs => ih s hs)
  | h4 l r ihl ihr =>
    rw [toPT, ptD_node, sD_both, if_neg (by decide)]
    show PyData.tuple [_, PyData.tuple ((l.map toPT).map ptD), PyData.tuple ((r.map toPT).map ptD)] = _
    rw [List.map_map, List.map_map]
    have e1 : l.map (ptD ∘ toPT) = l.map sD := List.map_congr_left fun s hs => ihl s hs
    have e2 : r.map (ptD ∘ toPT) = r.map sD := List.map_congr_left fun s hs => ihr s hs
    rw [e1, e2]; rfl
theorem ptsD_toPT (s : Steps) : ptsD (s.map toPT) = ssD s := by
  unfold ptsD
  rw [List.map_map, ssD_eq]
  exact congrArg _ (List.map_congr_left fun x _ => ptD_toPT x)
/-- from i on stands l -/
def At (ms : List MkR) (i : Nat) (l : List Mk) : Prop := ∃ rest, (ms.map (·.2)).drop i = l ++ rest
theorem At.app {i : Nat} {a b : List Mk} (h : At ms i (a ++ b)) : At ms i a ∧ At ms (i + a.length) b := by
  obtain ⟨r, h⟩ := h
  refine ⟨⟨b ++ r, by rw [h, List.append_assoc]⟩, r, ?_⟩
  rw [← List.drop_drop, h, List.append_assoc, List.drop_left]
theorem At.hd {i : Nat} {m : Mk} {l : List Mk} (h : At ms i (m :: l)) : ∃ r, ms[i]? = some (r, m) := by
  obtain ⟨rest, h⟩ := h
  have e : (ms.map (·.2))[i]? = some m := by
    have := congrArg (·[0]?) h
    simpa [List.getElem?_drop] using this
  rw [List.getElem?_map] at e
  cases z : ms[i]? with
  | none => rw [z] at e; cases e
  | some p => rw [z] at e; obtain ⟨r, m'⟩ := p; cases e; exact ⟨r, rfl⟩
def Stop (ms : List MkR) (i : Nat) : Prop := ((ms[i]?).any fun p => isLH p.2) = false
theorem Stop.of {i : Nat} {m : Mk} {l : List Mk} (h : At ms i (m :: l)) (hm : isLH m = false) : Stop ms i := by
  obtain ⟨r, e⟩ := h.hd
  unfold Stop; rw [e]; exact hm
theorem lane_ix {a : Str} (h : a ∈ hs) : lane hs (hs.idxOf a : Nat) = some a := by
  have hl := List.idxOf_lt_length_of_mem h
  unfold lane
  rw [if_pos ⟨by omega, by omega⟩]
  have e : ((hs.idxOf a : Nat) : Int).toNat = hs.idxOf a := by omega
  rw [e, List.getElem?_eq_getElem hl, List.getElem_idxOf hl]
theorem mks1_hd (x : TK.Step) : ∃ m l, mks1 hs x = m :: l ∧ isLH m = true := by
  cases ht : isTell x with
  | true =>
    cases x with
    | tell a b w => rw [mks1_tell]; exact ⟨_, _, rfl, rfl⟩
    | _ => cases ht
  | false => rw [mks1_parts hs x ht]; exact ⟨_, _, rfl, rfl⟩
theorem loopS_rd {stp : Nat → Option (PR PT)} : ∀ (s : Steps) (acc : List PT) (m i : Nat), s.length < m → At ms i (mkss hs s) → Stop ms (i + (mkss hs s).length) → (∀ x ∈ s, ∀ i, At ms i (mks1 hs x) → stp i = some (.ok (toPT x) (i + (mks1 hs x).length))) →
    loopS stp ms m i acc = some (.ok (acc ++ s.map toPT) (i + (mkss hs s).length))
  | [], acc, m + 1, i, _, _, hst, _ => by
    unfold loopS
    have hst : ((ms[i]?).any fun p => isLH p.2) = false := hst
    rw [if_neg (by rw [hst]; decide)]
    simp [mkss]
  | x :: s, acc, m + 1, i, hl, ha, hst, hx => by
    have e : mkss hs (x :: s) = mks1 hs x ++ mkss hs s := by simp [mkss]
    rw [e] at ha hst
    obtain ⟨h1, h2⟩ := ha.app
    obtain ⟨mk, l, e1, e2⟩ := mks1_hd (hs := hs) x
    have hb : ((ms[i]?).any fun p => isLH p.2) = true := by
      rw [e1] at h1
      obtain ⟨r, q⟩ := h1.hd
      rw [q]; exact e2
    unfold loopS
    rw [if_pos hb, hx x (by simp) i h1]
    show loopS stp ms m (i + (mks1 hs x).length) (acc ++ [toPT x]) = _
    rw [loopS_rd s (acc ++ [toPT x]) m _ (by simp at hl; omega) h2 (by rw [List.length_append] at hst; rw [Nat.add_assoc]; exact hst) fun y hy => hx y (by simp [hy])]
    rw [e, List.length_append, List.map_cons, Nat.add_assoc, List.append_assoc]; rfl
theorem loopP_rd {sts : Nat → Option (PR (List PT))} : ∀ (bs : List Steps) (acc : List (List PT)) (m i : Nat), bs.length < m → At ms i ((bs.map fun b => Mk.line :: mkss hs b).flatten ++ [Mk.foot]) → (∀ b ∈ bs, ∀ i, At ms i (mkss hs b) → Stop ms (i + (mkss hs b).length) → sts i = some (.ok (b.map toPT) (i + (mkss hs b).length))) →
    loopP sts ms m i acc = some (.ok (acc ++ bs.map fun b => b.map toPT) (i + ((bs.map fun b => Mk.line :: mkss hs b).flatten).length))
  | [], acc, m + 1, i, _, ha, _ => by
    obtain ⟨r, q⟩ := At.hd (l := []) (by simpa using ha)
    unfold loopP
    rw [q]
    show (if isLn Mk.foot = true then _ else _) = _
    rw [if_neg (by decide)]
    simp
  | b :: bs, acc, m + 1, i, hl, ha, hx => by
    have e : ((b :: bs).map fun b => Mk.line :: mkss hs b).flatten = Mk.line :: (mkss hs b ++ (bs.map fun b => Mk.line :: mkss hs b).flatten) := by simp
    rw [e] at ha
    obtain ⟨r, q⟩ := At.hd (l := mkss hs b ++ (bs.map fun b => Mk.line :: mkss hs b).flatten ++ [Mk.foot]) (by simpa using ha)
    have ha2 : At ms i ([Mk.line] ++ (mkss hs b ++ ((bs.map fun b => Mk.line :: mkss hs b).flatten ++ [Mk.foot]))) := by simpa using ha
    obtain ⟨_, h2⟩ := ha2.app
    have h2 : At ms (i + 1) _ := h2
    obtain ⟨h3, h4⟩ := h2.app
    have h5 : Stop ms (i + 1 + (mkss hs b).length) := by
      cases bs with
      | nil => exact Stop.of (l := []) (m := .foot) (by simpa using h4) rfl
      | cons c cs => exact Stop.of (m := .line) (l := mkss hs c ++ ((cs.map fun b => Mk.line :: mkss hs b).flatten ++ [Mk.foot])) (by simpa using h4) rfl
    unfold loopP
    rw [q]
    show (if isLn Mk.line = true then _ else _) = _
    rw [if_pos (show isLn Mk.line = true from rfl), hx b (by simp) (i + 1) h3 h5]
    show loopP sts ms m (i + 1 + (mkss hs b).length) (acc ++ [b.map toPT]) = _
    rw [loopP_rd bs (acc ++ [b.map toPT]) m _ (by simp at hl; omega) h4 fun c hc => hx c (by simp [hc])]
    rw [e, List.map_cons, List.append_assoc, List.length_cons, List.length_append]
    congr 2
    omega
theorem rd_ok (hw : wf = 100000) : ∀ n : Nat, (∀ s : Steps, 2 * deps s + 2 ≤ n → (∀ x ∈ s, ∃ d, VT hs d x) → hgts s ≤ 50000 → ∀ i, At ms i (mkss hs s) → Stop ms (i + (mkss hs s).length) → pSteps hs ms n i = some (.ok (s.map toPT) (i + (mkss hs s).length))) ∧
    ∀ x : TK.Step, 2 * dep x + 1 ≤ n → (∃ d, VT hs d x) → hgt x ≤ 50000 → ∀ i, At ms i (mks1 hs x) → pStep hs ms n i = some (.ok (toPT x) (i + (mks1 hs x).length))
  | 0 => ⟨fun s h => by omega, fun x h => by omega⟩
  | n + 1 => by
    have ih := rd_ok hw n
    refine ⟨fun s hn hi hh i ha hst => ?_, fun x hn hi hh i ha => ?_⟩
    · rw [pSteps_eq]
      have := loopS_rd (stp := pStep hs ms n) s [] wf i (by rw [hw]; have := len_hgts s; omega) ha hst fun x hx i h => ih.2 x (by have := deps_le.mp (Nat.le_refl _) x hx; omega) (hi x hx) (by have := hgts_mem hx; omega) i h
      simpa using this
    · rw [pStep_eq]
      cases ht : isTell x with
      | true =>
        cases x with
        | tell a b w =>
          rw [mks1_tell] at ha ⊢
          obtain ⟨r, q⟩ := ha.hd
          obtain ⟨d, hv⟩ := hi
          unfold VT at hv
          obtain ⟨h1, h2, _⟩ := hv
          unfold bodyT
          rw [q]
          show tellP (lane hs (hs.idxOf a : Nat)) (lane hs (hs.idxOf b : Nat)) w i = _
          rw [lane_ix h1, lane_ix h2, toPT_tell]; rfl
        | _ => cases ht
      | false =>
        rw [mks1_parts hs x ht] at ha ⊢
        rw [toPT_parts ht]
        obtain ⟨d, hv⟩ := hi
        obtain ⟨d', _, hne, _, hpv⟩ := hv.parts ht
        obtain ⟨r, q⟩ := ha.hd
        unfold bodyT
        rw [q]
        show midP ms (pSteps hs ms n) (kindS x) (pSteps hs ms n (i + 1)) = _
        have hpt : ∀ b ∈ pts x, ∀ i, At ms i (mkss hs b) → Stop ms (i + (mkss hs b).length) → pSteps hs ms n i = some (.ok (b.map toPT) (i + (mkss hs b).length)) := fun b hb i h1 h2 =>
          ih.1 b (by have := pts_dep (Nat.le_refl (dep x)) b hb; omega) (fun y hy => ⟨d', (hpv b hb).2 y hy⟩) (by have := pts_hgt' hb; omega) i h1 h2
        have hlen : (pts x).length ≤ 50000 := by have := pts_hgt x; omega
        obtain ⟨p, ps, ep⟩ : ∃ p ps, pts x = p :: ps := by
          cases e : pts x with
          | nil => rw [e] at hne; simp at hne
          | cons p ps => exact ⟨p, ps, rfl⟩
        rw [ep] at hpt hlen
        have ej : jps ((pts x).map (mkss hs)) = mkss hs p ++ (ps.map fun b => Mk.line :: mkss hs b).flatten := by
          rw [ep]
          show mkss hs p ++ ((ps.map (mkss hs)).map (Mk.line :: ·)).flatten = _
          rw [List.map_map]; rfl
        rw [ej] at ha ⊢
        have ha2 : At ms i ([Mk.head (kindS x) (lan hs (lts1 x)).1 (lan hs (lts1 x)).2] ++ (mkss hs p ++ ((ps.map fun b => Mk.line :: mkss hs b).flatten ++ [Mk.foot]))) := by simpa using ha
        obtain ⟨_, h2⟩ := ha2.app
        have h2 : At ms (i + 1) _ := h2
        obtain ⟨h3, h4⟩ := h2.app
        have h5 : Stop ms (i + 1 + (mkss hs p).length) := by
          cases ps with
          | nil => exact Stop.of (l := []) (m := .foot) (by simpa using h4) rfl
          | cons c cs => exact Stop.of (m := .line) (l := mkss hs c ++ ((cs.map fun b => Mk.line :: mkss hs b).flatten ++ [Mk.foot])) (by simpa using h4) rfl
        rw [hpt p (by simp) (i + 1) h3 h5]
        show endP ms (kindS x) (loopP (pSteps hs ms n) ms wf (i + 1 + (mkss hs p).length) [p.map toPT]) = _
        rw [loopP_rd ps [p.map toPT] wf _ (by rw [hw]; simp at hlen; omega) h4 fun c hc => hpt c (by simp [hc])]
        obtain ⟨h6, h7⟩ := h4.app
        obtain ⟨r2, q2⟩ := At.hd (l := []) h7
        show (if ((ms[i + 1 + (mkss hs p).length + ((ps.map fun b => Mk.line :: mkss hs b).flatten).length]?).any fun p => isFt p.2) = true then _ else _) = _
        rw [q2, if_pos (show Option.any (fun p : MkR => isFt p.2) (some (r2, Mk.foot)) = true from rfl), ep]
        simp only [List.map_cons, List.length_cons, List.length_append, List.length_nil]
        congr 2
        omega
end
/-! sane data -/
def San : Nat → PyData → Prop
  | _, .none => True
  | _, .bool _ => True
  | _, .int _ => True
  | _, .str z => z.length ≤ 1000000
  | 0, .list _ => False
  | 0, .tuple _ => False
  | n + 1, .list ds => ds.length ≤ 1000000 ∧ ∀ d ∈ ds, San n d
  | n + 1, .tuple ds => ds.length ≤ 1000000 ∧ ∀ d ∈ ds, San n d
  | _, .dict _ => False
theorem San.up : ∀ {n : Nat} {d : PyData}, San n d → San (n + 1) d
  | 0, .none, _ => by unfold San; trivial
  | 0, .bool _, _ => by unfold San; trivial
  | 0, .int _, _ => by unfold San; trivial
  | 0, .str z, h => by unfold San at h ⊢; exact h
  | 0, .list _, h => by unfold San at h; exact h.elim
  | 0, .tuple _, h => by unfold San at h; exact h.elim
  | 0, .dict _, h => by unfold San at h; exact h.elim
  | n + 1, .none, _ => by unfold San; trivial
  | n + 1, .bool _, _ => by unfold San; trivial
  | n + 1, .int _, _ => by unfold San; trivial
  | n + 1, .str z, h => by unfold San at h ⊢; exact h
  | n + 1, .list ds, h => by unfold San at h ⊢; exact ⟨h.1, fun d hd => San.up (h.2 d hd)⟩
  | n + 1, .tuple ds, h => by unfold San at h ⊢; exact ⟨h.1, fun d hd => San.up (h.2 d hd)⟩
  | n + 1, .dict _, h => by unfold San at h; exact h.elim
theorem San.mono {n m : Nat} {d : PyData} (h : San n d) (hm : n ≤ m) : San m d := by
  induction hm with
  | refl => exact h
  | step _ ih => exact ih.up
theorem San.tup {n : Nat} {ds : List PyData} (h : San (n + 1) (.tuple ds)) : ds.length ≤ 1000000 ∧ ∀ d ∈ ds, San n d := by unfold San at h; exact h
theorem San.plain : ∀ {n : Nat} {d : PyData}, San n d → d.plain = true ∧ d.depth ≤ n
  | n, .none, _ => by rw [PyData.plain, PyData.depth]; exact ⟨rfl, Nat.zero_le _⟩
  | n, .bool _, _ => by rw [PyData.plain, PyData.depth]; exact ⟨rfl, Nat.zero_le _⟩
  | n, .int _, _ => by rw [PyData.plain, PyData.depth]; exact ⟨rfl, Nat.zero_le _⟩
  | n, .str z, _ => by rw [PyData.plain, PyData.depth]; exact ⟨rfl, Nat.zero_le _⟩
  | 0, .list _, h => by unfold San at h; exact h.elim
  | 0, .tuple _, h => by unfold San at h; exact h.elim
  | 0, .dict _, h => by unfold San at h; exact h.elim
  | n + 1, .dict _, h => by unfold San at h; exact h.elim
  | n + 1, .list ds, h => by unfold San at h; exact ⟨plain_lst.mpr fun d hd => (San.plain (h.2 d hd)).1, depth_lst.mpr fun d hd => (San.plain (h.2 d hd)).2⟩
  | n + 1, .tuple ds, h => by unfold San at h; exact ⟨plain_tup.mpr fun d hd => (San.plain (h.2 d hd)).1, depth_tup.mpr fun d hd => (San.plain (h.2 d hd)).2⟩
theorem San.pl {n : Nat} {d : PyData} (h : San n d) (hn : n ≤ 64) : pl d = true := pl_of h.plain.1 (Nat.le_trans h.plain.2 hn)
theorem San.lst {n : Nat} {ds : List PyData} (hn : n ≤ 63) (h : ∀ d ∈ ds, San n d) : TF.pl (PyData.list ds) = true :=
  pl_of (plain_lst.mpr fun d hd => (h d hd).plain.1) (Nat.le_trans (depth_lst (n := n).mpr fun d hd => (h d hd).plain.2) (by omega))
theorem eq_nil {ds : List PyData} (h : pl (.list ds) = true) : dEq (.list ds) (.list []) = some (decide (ds = [])) := by
  have h0 : pl (.list []) = true := rfl
  show (if pl (.list ds) = true ∧ pl (.list []) = true then some (PyData.eqv (.list ds) (.list [])) else none) = _
  rw [if_pos ⟨h, h0⟩]
  cases ds with
  | nil => simp [PyData.eqv, PyData.eqvAll]
  | cons d r => simp [PyData.eqv, PyData.eqvAll]
theorem ne_nil {ds : List PyData} (h : pl (.list ds) = true) : dNe (.list ds) (.list []) = some (!decide (ds = [])) := by
  have h0 : pl (.list []) = true := rfl
  show (if pl (.list ds) = true ∧ pl (.list []) = true then some (!PyData.eqv (.list ds) (.list [])) else none) = _
  rw [if_pos ⟨h, h0⟩]
  cases ds with
  | nil => simp [PyData.eqv, PyData.eqvAll]
  | cons d r => simp [PyData.eqv, PyData.eqvAll]
theorem eq_nilT {ds : List PyData} (h : pl (.tuple ds) = true) : dEq (.tuple ds) (.tuple []) = some (decide (ds = [])) := by
  have h0 : pl (.tuple []) = true := rfl
  show (if pl (.tuple ds) = true ∧ pl (.tuple []) = true then some (PyData.eqv (.tuple ds) (.tuple [])) else none) = _
  rw [if_pos ⟨h, h0⟩]
  cases ds with
  | nil => simp [PyData.eqv, PyData.eqvAll]
  | cons d r => simp [PyData.eqv, PyData.eqvAll]
/-! kinds of data -/
def isS : PyData → Bool
  | .str _ => true
  | _ => false
def isT : PyData → Bool
  | .tuple _ => true
  | _ => false
theorem isa_str {n : Nat} {d : PyData} (h : San n d) : dIsa "str" d = some (.bool (isS d)) := by
  have k : kitB "NoneType" "str" = some false ∧ kitB "bool" "str" = some false ∧ kitB "int" "str" = some false ∧ kitB "str" "str" = some true ∧ kitB "list" "str" = some false ∧ kitB "tuple" "str" = some false := by
    refine ⟨?_, ?_, ?_, ?_, ?_, ?_⟩ <;> decide +kernel
  obtain ⟨k1, k2, k3, k4, k5, k6⟩ := k
  cases d with
  | dict _ => cases n <;> (unfold San at h; exact h.elim)
  | none => simp [dIsa, tyN, k1, isS]
  | bool _ => simp [dIsa, tyN, k2, isS]
  | int _ => simp [dIsa, tyN, k3, isS]
  | str _ => simp [dIsa, tyN, k4, isS]
  | list _ => simp [dIsa, tyN, k5, isS]
  | tuple _ => simp [dIsa, tyN, k6, isS]
theorem isa_tup {n : Nat} {d : PyData} (h : San n d) : dIsa "tuple" d = some (.bool (isT d)) := by
  have k : kitB "NoneType" "tuple" = some false ∧ kitB "bool" "tuple" = some false ∧ kitB "int" "tuple" = some false ∧ kitB "str" "tuple" = some false ∧ kitB "list" "tuple" = some false ∧ kitB "tuple" "tuple" = some true := by
    refine ⟨?_, ?_, ?_, ?_, ?_, ?_⟩ <;> decide +kernel
  obtain ⟨k1, k2, k3, k4, k5, k6⟩ := k
  cases d with
  | dict _ => cases n <;> (unfold San at h; exact h.elim)
  | none => simp [dIsa, tyN, k1, isT]
  | bool _ => simp [dIsa, tyN, k2, isT]
  | int _ => simp [dIsa, tyN, k3, isT]
  | str _ => simp [dIsa, tyN, k4, isT]
  | list _ => simp [dIsa, tyN, k5, isT]
  | tuple _ => simp [dIsa, tyN, k6, isT]
theorem isa_bool (b : Bool) : dIsa "bool" (.bool b) = some (.bool true) := by
  have k : kitB "bool" "bool" = some true := by decide +kernel
  simp [dIsa, tyN, k]
/-! names -/
def okC (c : Nat) : Bool := decide (97 ≤ c) && decide (c ≤ 122)
def nameB : PyData → Bool
  | .str z => decide (1 ≤ z.length) && decide (z.length ≤ 5) && z.cps.toList.all okC
  | _ => false
theorem letters_list : ("abcdefghijklmnopqrstuvwxyz" : Str).cps.toList = (List.range 26).map (97 + ·) := by decide
theorem letters_mem (c : Nat) : decide (c ∈ ("abcdefghijklmnopqrstuvwxyz" : Str).cps.toList) = okC c := by
  rw [letters_list]
  unfold okC
  by_cases h : 97 ≤ c ∧ c ≤ 122
  · rw [decide_eq_true h.1, decide_eq_true h.2]
    exact decide_eq_true (List.mem_map.mpr ⟨c - 97, List.mem_range.mpr (by omega), by omega⟩)
  · have : (decide (97 ≤ c) && decide (c ≤ 122)) = false := by
      rw [Bool.and_eq_false_iff, decide_eq_false_iff_not, decide_eq_false_iff_not]
      by_cases h1 : 97 ≤ c
      · exact .inr fun h2 => h ⟨h1, h2⟩
      · exact .inl h1
    rw [this]
    refine decide_eq_false fun hm => ?_
    obtain ⟨k, hk, e⟩ := List.mem_map.mp hm
    have := List.mem_range.mp hk
    omega
theorem dAll_bools (ns : List Bool) : dAll (.list (ns.map PyData.bool)) = some (.bool (ns.all id)) := by
  show (boolsD _).map _ = _
  rw [boolsD_map]; rfl
theorem walk_str {z : Str} (h : z.length ≤ 1000000) : dWalk (.str z) = some (z.cps.toList.map fun c => .str ⟨#[c]⟩) := by
  show (if z.length ≤ sizeLine then some (TF.signs z) else none) = _
  rw [if_pos (by rw [sl]; omega)]; rfl
theorem len_str {z : Str} (h : z.length ≤ 1000000) : dLen (.str z) = some (.int z.length) := by
  show (if z.length ≤ sizeLine then some (PyData.int z.length) else none) = _
  rw [if_pos (by rw [sl]; omega)]
theorem is_name_ok {n : Nat} {d : PyData} (h : San n d) : m_is_name [d] = some (.bool (nameB d)) := by
  have hi := isa_str h
  refine run_of ?_
  unfold f_is_name
  cases d with
  | str z =>
    have hz : z.length ≤ 1000000 := by cases n <;> (unfold San at h; exact h)
    have hl := len_str hz
    have hw := walk_str hz
    have hlc := lcGo_map (e := fun c : Nat => PyData.str ⟨#[c]⟩) (tg := g1 1) (el := e_is_name_1) (ρ := [some (.str z), none]) (fun c => .bool (okC c)) z.cps.toList (fun c _ => ⟨_, rfl, by
      have hin : dIn (.str ⟨#[c]⟩) (.str "abcdefghijklmnopqrstuvwxyz") = some (okC c) := by
        rw [← letters_mem]; rfl
      simp [e_is_name_1, hin]⟩)
    have e2 : (z.cps.toList.map fun c => PyData.bool (okC c)) = (z.cps.toList.map okC).map PyData.bool := by rw [List.map_map]; rfl
    rw [e2] at hlc
    have ha := dAll_bools (z.cps.toList.map okC)
    rw [List.all_map] at ha
    show _ = some (Fl.rt (.bool (decide (1 ≤ z.length) && decide (z.length ≤ 5) && z.cps.toList.all okC)))
    by_cases h1 : (1 : Int) ≤ z.length
    · by_cases h2 : (z.length : Int) ≤ 5
      · have h1' : 1 ≤ z.length := by omega
        have h2' : z.length ≤ 5 := by omega
        simp only [List.map_cons, List.map_nil, List.length_singleton, List.replicate, List.cons_append, List.nil_append, fRet_ev, vAnd_ev, e1_ev, eVar_ev, List.getD_cons_zero, Option.bind_some, hi, dB_ev, isS, if_true, eB_ev, eChain_ev, eC_ev, hl, dLe_int, h1, h2, decide_true, Option.map_some, eL_ev, eLc_ev, hw, hlc, ha, h1', h2', Bool.true_and]
        rfl
      · have h1' : 1 ≤ z.length := by omega
        have h2' : ¬ z.length ≤ 5 := by omega
        simp only [List.map_cons, List.map_nil, List.length_singleton, List.replicate, List.cons_append, List.nil_append, fRet_ev, vAnd_ev, e1_ev, eVar_ev, List.getD_cons_zero, Option.bind_some, hi, dB_ev, isS, if_true, eB_ev, eChain_ev, eC_ev, hl, dLe_int, h1, h2, decide_true, decide_false, Option.map_some, h1', h2', Bool.true_and, Bool.false_and]
        rfl
    · have h1' : ¬ 1 ≤ z.length := by omega
      simp only [List.map_cons, List.map_nil, List.length_singleton, List.replicate, List.cons_append, List.nil_append, fRet_ev, vAnd_ev, e1_ev, eVar_ev, List.getD_cons_zero, Option.bind_some, hi, dB_ev, isS, if_true, eB_ev, eChain_ev, eC_ev, hl, dLe_int, h1, decide_false, Option.map_some, h1', Bool.false_and]
      rfl
  | _ =>
    simp only [List.map_cons, List.map_nil, List.length_singleton, List.replicate, List.cons_append, List.nil_append, fRet_ev, vAnd_ev, e1_ev, eVar_ev, List.getD_cons_zero, Option.bind_some, hi, dB_ev, isS]
    rfl
theorem a_le (c : Nat) : dLe (.str "a") (.str ⟨#[c]⟩) = some (decide (97 ≤ c)) := by
  show some (!decide (([c] : List Nat) < [97])) = _
  congr 1
  by_cases h : 97 ≤ c
  · rw [decide_eq_true h, decide_eq_false]; rfl
    intro z
    rcases List.cons_lt_cons_iff.mp z with z | ⟨_, z⟩
    · omega
    · exact absurd z (by simp)
  · rw [decide_eq_false h, decide_eq_true]; rfl
    exact List.cons_lt_cons_iff.mpr (.inl (by omega))
theorem le_z (c : Nat) : dLe (.str ⟨#[c]⟩) (.str "z") = some (decide (c ≤ 122)) := by
  show some (!decide (([122] : List Nat) < [c])) = _
  congr 1
  by_cases h : c ≤ 122
  · rw [decide_eq_true h, decide_eq_false]; rfl
    intro z
    rcases List.cons_lt_cons_iff.mp z with z | ⟨_, z⟩
    · omega
    · exact absurd z (by simp)
  · rw [decide_eq_false h, decide_eq_true]; rfl
    exact List.cons_lt_cons_iff.mpr (.inl (by omega))
theorem filter_none {α : Type} {l : List α} {p : α → Bool} : decide (((l.filter fun x => !p x) : List α) = []) = l.all p := by
  induction l with
  | nil => rfl
  | cons x l ih =>
    cases h : p x with
    | true => rw [List.filter_cons_of_neg (by simp [h]), List.all_cons, h, Bool.true_and]; exact ih
    | false => rw [List.filter_cons_of_pos (by simp [h]), List.all_cons, h, Bool.false_and]; rfl
theorem map_nil_iff {α β : Type} {f : α → β} {l : List α} : (l.map f = []) ↔ l = [] := by cases l <;> simp
/-! is_talk: what it says -/
def handB (hs : List Str) : PyData → Bool
  | .str z => decide (z ∈ hs)
  | _ => false
def tellB (hs : List Str) : List PyData → Bool
  | [a, b, c] => handB hs a && (handB hs b && nameB c)
  | _ => false
def choB (rec : PyData → Bool) : List PyData → Bool
  | [.tuple ps] => decide (1 ≤ ps.length) && (decide (ps.length ≤ 3) && ps.all rec)
  | _ => false
def rouB (rec : PyData → Bool) : List PyData → Bool
  | [p] => rec p
  | _ => false
def botB (rec : PyData → Bool) : List PyData → Bool
  | [p, q] => rec p && rec q
  | _ => false
def stF (rec : PyData → Bool) (hs : List Str) (deep : Int) : PyData → Bool
  | .tuple (.str w :: r) => if w = "tell" then tellB hs r else decide (0 < deep) && (if w = "choice" then choB rec r else if w = "round" then rouB rec r else if w = "both" then botB rec r else false)
  | _ => false
mutual
def vstep : Nat → List Str → Int → PyData → Bool
  | 0, _, _, _ => false
  | n + 1, hs, deep, d => stF (vsteps n hs (deep - 1)) hs deep d
def vsteps : Nat → List Str → Int → PyData → Bool
  | 0, _, _, _ => false
  | n + 1, hs, deep, .tuple ds => decide (ds.length ≤ 4) && ds.all (vstep n hs deep)
  | _ + 1, _, _, _ => false
end
theorem is_hand_ok {n : Nat} {hs : List Str} {d : PyData} (h : San n d) : m_is_hand [d, hsD hs] = some (.bool (handB hs d)) := by
  have hi := isa_str h
  refine run_of ?_
  unfold f_is_hand
  cases d with
  | str z =>
    have := dIn_hs z hs
    show _ = some (Fl.rt (.bool (decide (z ∈ hs))))
    simp [hi, isS, this]
  | _ => simp only [List.map_cons, List.map_nil, List.length_cons, List.length_nil, List.replicate, List.cons_append, List.nil_append, fRet_ev, vAnd_ev, e1_ev, eVar_ev, List.getD_cons_zero, Option.bind_some, hi, dB_ev, isS]; rfl
theorem all_bools {α : Type} {ps : List α} {f : α → Bool} : dAll (.list (ps.map fun p => .bool (f p))) = some (.bool (ps.all f)) := by
  have e2 : (ps.map fun p => PyData.bool (f p)) = (ps.map f).map PyData.bool := by rw [List.map_map]; rfl
  rw [e2, dAll_bools, List.all_map]; rfl
theorem len_tup (ds : List PyData) : dLen (.tuple ds) = some (.int (ds.length : Nat)) := rfl
theorem ne_int (i j : Int) : dNe (.int i) (.int j) = some (!decide (i = j)) := by
  show some (!(i == j)) = _
  rw [Bool.beq_eq_decide_eq]
theorem eq_str' (a b : Str) : dEq (.str a) (.str b) = some (decide (a = b)) := by rw [dEq_str, Bool.beq_eq_decide_eq]
theorem eq_int' (a b : Int) : dEq (.int a) (.int b) = some (decide (a = b)) := by rw [dEq_int, Bool.beq_eq_decide_eq]
theorem ret_b {t : Rho → Option Bool} {h : Rho → Option Fl} {f : Rho → Option PyData} {ρ : Rho} {d : PyData} (h1 : t ρ = some true) (h2 : f ρ = some d) : fSeq (fIf t (fRet f) fNil) h ρ = some (.rt d) := by
  rw [fSeq_ev, fIf_ev, h1]
  simp only [Option.bind_some, if_true, fRet_ev, h2, fThen_rt]
theorem or_t1 {s t : Rho → Option Bool} {ρ : Rho} (h1 : s ρ = some true) : TF.tOr s t ρ = some true := by rw [tOr_ev, h1]; rfl
theorem or_t2 {s t : Rho → Option Bool} {ρ : Rho} {b : Bool} (h1 : s ρ = some false) (h2 : t ρ = some b) : TF.tOr s t ρ = some b := by rw [tOr_ev, h1]; exact h2
theorem vand {f g : Rho → Option PyData} {ρ : Rho} {a b : Bool} (h1 : f ρ = some (.bool a)) (h2 : a = true → g ρ = some (.bool b)) : vAnd f g ρ = some (.bool (a && b)) := by
  rw [vAnd_ev, h1]
  cases a with
  | true => simp only [Option.bind_some, dB_ev, if_true, h2 rfl, Bool.true_and]
  | false => simp only [Option.bind_some, dB_ev, Bool.false_and]; rfl
theorem is_step_body {rr rs : List PyData → Option PyData} {n : Nat} {hs : List Str} {deep : Int} {d : PyData} (hd : San (n + 1) d) (h0 : 0 ≤ deep) (hr : 0 < deep → ∀ p, San n p → rs [p, hsD hs, .int (deep - 1)] = some (.bool (vsteps n hs (deep - 1) p))) :
    runF 5 (f_is_step rr rs) [d, hsD hs, .int deep] = some (.bool (stF (vsteps n hs (deep - 1)) hs deep d)) := by
  have hit := isa_tup hd
  refine run_of ?_
  unfold f_is_step
  show fSeq _ _ [some d, some (hsD hs), some (.int deep), none, none] = _
  cases d with
  | tuple ds =>
    obtain ⟨_, hel⟩ := hd.tup
    have t1 : TF.tNot (eT (TF.e1 (eVar 0) (dIsa "tuple"))) [some (.tuple ds), some (hsD hs), some (.int deep), none, none] = some false := by simp [hit, isT]
    match ds, hel, hit, t1 with
    | [], hel, hit, t1 => exact ret_b (or_t2 t1 (or_t1 (by simp))) (by rfl)
    | [x], hel, hit, t1 =>
      refine ret_b (or_t2 t1 (or_t1 (by simp))) ?_
      show some (PyData.bool false) = _
      cases x with
      | str w =>
        congr 2
        show false = (if w = "tell" then false else decide (0 < deep) && (if w = "choice" then false else if w = "round" then false else if w = "both" then false else false))
        split <;> simp
      | _ => rfl
    | x :: y :: r, hel, hit, t1 =>
      have hx : San n x := hel x (by simp)
      have hy : San n y := hel y (by simp)
      have his := isa_str hx
      have t2 : TF.e2 (TF.e1 (eVar 0) dLen) (eC (.int 2)) dLtA [some (.tuple (x :: y :: r)), some (hsD hs), some (.int deep), none, none] = some false := by simp; omega
      cases x with
      | str w =>
        have t3 : TF.tNot (eT (TF.e1 (TF.e2 (eVar 0) (eC (.int 0)) dIx) (dIsa "str"))) [some (.tuple (.str w :: y :: r)), some (hsD hs), some (.int deep), none, none] = some false := by simp [his, isS]
        refine seq_if (or_ff t1 (or_ff t2 t3)) ?_
        refine seq_nx (ρ' := [some (.tuple (.str w :: y :: r)), some (hsD hs), some (.int deep), some (.str w), none]) (by simp) ?_
        by_cases htell : w = "tell"
        · have e : stF (vsteps n hs (deep - 1)) hs deep (.tuple (.str w :: y :: r)) = tellB hs (y :: r) := by
            show (if w = "tell" then _ else _) = _
            rw [if_pos htell]
          rw [e]
          refine ret_b (by simp [eq_str', htell]) ?_
          match r, hel with
          | [], _ => simp [dEq_int, tellB]
          | [b], _ => simp [dEq_int, tellB]
          | [b, c], hel =>
            have hb := is_hand_ok (hs := hs) (hel b (by simp))
            have hy' := is_hand_ok (hs := hs) hy
            have hc := is_name_ok (hel c (by simp))
            show _ = some (PyData.bool (true && (handB hs y && (handB hs b && nameB c))))
            refine vand (by simp [dEq_int]) fun _ => vand (by simp [hy']) fun _ => vand (by simp [hb]) fun _ => by simp [hc]
          | b :: c :: e :: r, _ =>
            have : ¬ ((r.length : Int) + 1 + 1 + 1 + 1 + 1 = 4) := by omega
            simp [dEq_int, this, tellB]
        · refine seq_if (by simp [eq_str', htell]) ?_
          have e : stF (vsteps n hs (deep - 1)) hs deep (.tuple (.str w :: y :: r)) = (decide (0 < deep) && (if w = "choice" then choB (vsteps n hs (deep - 1)) (y :: r) else if w = "round" then rouB (vsteps n hs (deep - 1)) (y :: r) else if w = "both" then botB (vsteps n hs (deep - 1)) (y :: r) else false)) := by
            show (if w = "tell" then _ else _) = _
            rw [if_neg htell]
          rw [e]
          by_cases hz : deep = 0
          · refine ret_b (by simp [eq_int', hz]) ?_
            rw [decide_eq_false (by omega), Bool.false_and]; rfl
          · refine seq_if (by simp [eq_int', hz]) ?_
            have hpos : 0 < deep := by omega
            have hr := hr hpos
            rw [decide_eq_true hpos, Bool.true_and]
            have hel3 : ∀ p, San n p → e_is_step_1 rr rs ([some (.tuple (.str w :: y :: r)), some (hsD hs), some (.int deep), some (.str w), none].set 4 (some p)) = some (.bool (vsteps n hs (deep - 1) p)) := fun p hp => by simp [e_is_step_1, hr p hp]
            by_cases hch : w = "choice"
            · rw [if_pos hch]
              rw [fSeq_ev, fIf_ev]
              have hc1 : TF.e2 (eVar 3) (eC (.str "choice")) dEq [some (.tuple (.str w :: y :: r)), some (hsD hs), some (.int deep), some (.str w), none] = some true := by simp [eq_str', hch]
              rw [hc1]
              simp only [Option.bind_some, if_true]
              match r with
              | b :: r =>
                have : ¬ ((r.length : Int) + 1 + 1 + 1 = 2) := by omega
                have hne : choB (vsteps n hs (deep - 1)) (y :: b :: r) = false := by cases y <;> rfl
                rw [hne]
                simp [ne_int, this]
              | [] =>
                have hity := isa_tup hy
                cases y with
                | tuple ps =>
                  obtain ⟨n', rfl⟩ : ∃ n', n = n' + 1 := by
                    cases n with
                    | zero => unfold San at hy; exact hy.elim
                    | succ n' => exact ⟨n', rfl⟩
                  obtain ⟨_, hps⟩ := hy.tup
                  show _ = some (Fl.rt (.bool (decide (1 ≤ ps.length) && (decide (ps.length ≤ 3) && ps.all (vsteps (n' + 1) hs (deep - 1))))))
                  have hlc := lcGo_map (e := id) (tg := g1 4) (el := e_is_step_1 rr rs) (ρ := [some (.tuple (.str w :: .tuple ps :: [])), some (hsD hs), some (.int deep), some (.str w), none]) (fun p => .bool (vsteps (n' + 1) hs (deep - 1) p)) ps (fun p hp => ⟨_, rfl, hel3 p (hps p hp).up⟩)
                  rw [List.map_id] at hlc
                  have hall := all_bools (ps := ps) (f := vsteps (n' + 1) hs (deep - 1))
                  by_cases h1 : 1 ≤ ps.length
                  · have h1' : (1 : Int) ≤ ps.length := by omega
                    by_cases h3 : ps.length ≤ 3
                    · have h3' : (ps.length : Int) ≤ 3 := by omega
                      simp [ne_int, hity, isT, h1, h1', h3, h3', hlc, hall]
                    · have h3' : ¬ (ps.length : Int) ≤ 3 := by omega
                      simp [ne_int, hity, isT, h1, h1', h3, h3']
                  · have h1' : ¬ (1 : Int) ≤ ps.length := by omega
                    simp [ne_int, hity, isT, h1, h1']
                | _ => simp [ne_int, hity, isT, choB]
            · rw [if_neg hch]
              refine seq_if (by simp [eq_str', hch]) ?_
              by_cases hro : w = "round"
              · rw [if_pos hro]
                refine ret_b (by simp [eq_str', hro]) ?_
                match r with
                | [] =>
                  show _ = some (PyData.bool (vsteps n hs (deep - 1) y))
                  have hry := hr y hy
                  have := vand (f := eB (TF.e2 (TF.e1 (eVar 0) dLen) (eC (.int 2)) dEq)) (g := eCall 3 rs (aCons (TF.e2 (eVar 0) (eC (.int 1)) dIx) (aCons (eVar 1) (aCons (TF.e2 (eVar 2) (eC (.int 1)) dSub) aNil)))) (ρ := [some (.tuple (.str w :: y :: [])), some (hsD hs), some (.int deep), some (.str w), none]) (a := true) (b := vsteps n hs (deep - 1) y) (by simp [dEq_int]) (fun _ => by simp [hry])
                  rw [Bool.true_and] at this
                  exact this
                | b :: r =>
                  have : ¬ ((r.length : Int) + 1 + 1 + 1 = 2) := by omega
                  simp [dEq_int, this, rouB]
              · rw [if_neg hro]
                refine seq_if (by simp [eq_str', hro]) ?_
                by_cases hbo : w = "both"
                · rw [if_pos hbo, fRet_ev]
                  match r, hel with
                  | [], _ => simp [eq_str', hbo, dEq_int, botB]
                  | [b], hel =>
                    have h1 := hr y hy
                    have h2 := hr b (hel b (by simp))
                    have c1 : TF.cutD [PyData.str w, y, b] (some 1) none = [y, b] := cutD_1_
                    have hall := all_bools (ps := [y, b]) (f := vsteps n hs (deep - 1))
                    show _ = some (Fl.rt (.bool (vsteps n hs (deep - 1) y && vsteps n hs (deep - 1) b)))
                    simp at hall
                    simp [eq_str', hbo, dEq_int]
                    rw [hbo] at c1
                    simp [c1, lcGo, e_is_step_1, h1, h2, hall]
                  | b :: c :: r, _ =>
                    have : ¬ ((r.length : Int) + 1 + 1 + 1 + 1 = 3) := by omega
                    simp [eq_str', hbo, dEq_int, this, botB]
                · rw [if_neg hbo]
                  simp [eq_str', hbo]
      | _ =>
        refine ret_b (or_t2 t1 (or_t2 t2 (b := true) ?_)) (by rfl)
        simp [his, isS]
  | _ => exact ret_b (or_t1 (by simp [hit, isT])) (by rfl)
theorem are_steps_body {rr rs : List PyData → Option PyData} {n : Nat} {hs : List Str} {deep : Int} {d : PyData} (hd : San (n + 1) d) (hr : ∀ p, San n p → rr [p, hsD hs, .int deep] = some (.bool (vstep n hs deep p))) :
    runF 4 (f_are_steps rr rs) [d, hsD hs, .int deep] = some (.bool (vsteps (n + 1) hs deep d)) := by
  have hit := isa_tup hd
  refine run_of ?_
  unfold f_are_steps
  show fSeq _ _ [some d, some (hsD hs), some (.int deep), none] = _
  cases d with
  | tuple ds =>
    obtain ⟨_, hel⟩ := hd.tup
    have t1 : TF.tNot (eT (TF.e1 (eVar 0) (dIsa "tuple"))) [some (.tuple ds), some (hsD hs), some (.int deep), none] = some false := by simp [hit, isT]
    have e : vsteps (n + 1) hs deep (.tuple ds) = (decide (ds.length ≤ 4) && ds.all (vstep n hs deep)) := by rw [vsteps]
    rw [e]
    by_cases h4 : ds.length ≤ 4
    · have h4' : ¬ (4 : Int) < ds.length := by omega
      refine seq_if (or_ff t1 (by simp [h4'])) ?_
      have hlc := lcGo_map (e := id) (tg := g1 3) (el := e_are_steps_1 rr rs) (ρ := [some (.tuple ds), some (hsD hs), some (.int deep), none]) (fun p => .bool (vstep n hs deep p)) ds (fun p hp => ⟨_, rfl, by simp [e_are_steps_1, hr p (hel p hp)]⟩)
      rw [List.map_id] at hlc
      have hall := all_bools (ps := ds) (f := vstep n hs deep)
      simp [hlc, hall, h4]
    · have h4' : (4 : Int) < ds.length := by omega
      refine ret_b (or_t2 t1 (b := true) (by simp [h4'])) ?_
      rw [decide_eq_false h4, Bool.false_and]; rfl
  | _ => exact ret_b (or_t1 (by simp [hit, isT])) (by rw [vsteps]; rfl; all_goals simp)
theorem san0 {d : PyData} (h : San 0 d) : isT d = false := by
  cases d with
  | tuple _ => unfold San at h; exact h.elim
  | _ => rfl
theorem stF_no {rec : PyData → Bool} {hs : List Str} {deep : Int} {d : PyData} (h : isT d = false) : stF rec hs deep d = false := by
  cases d with
  | tuple _ => cases h
  | _ => rfl
theorem vsteps_no {n : Nat} {hs : List Str} {deep : Int} {d : PyData} (h : isT d = false) : vsteps n hs deep d = false := by
  cases n with
  | zero => rw [vsteps]
  | succ n =>
    cases d with
    | tuple _ => cases h
    | _ => rw [vsteps]; all_goals simp
theorem is_step_no {rr rs : List PyData → Option PyData} {d : PyData} (hs : List Str) (deep : Int) (hd : San 0 d) : runF 5 (f_is_step rr rs) [d, hsD hs, .int deep] = some (.bool false) := by
  have hit := isa_tup hd
  rw [san0 hd] at hit
  refine run_of ?_
  unfold f_is_step
  show fSeq _ _ [some d, some (hsD hs), some (.int deep), none, none] = _
  exact ret_b (or_t1 (by simp [hit])) (by rfl)
theorem are_steps_no {rr rs : List PyData → Option PyData} {d : PyData} (hs : List Str) (deep : Int) (hd : San 0 d) : runF 4 (f_are_steps rr rs) [d, hsD hs, .int deep] = some (.bool false) := by
  have hit := isa_tup hd
  rw [san0 hd] at hit
  refine run_of ?_
  unfold f_are_steps
  show fSeq _ _ [some d, some (hsD hs), some (.int deep), none] = _
  exact ret_b (or_t1 (by simp [hit])) (by rfl)
theorem steps_talk_ok {hs : List Str} : ∀ (n m : Nat), (∀ d, San n d → ∀ deep : Int, 0 ≤ deep → m_is_step (m + n + 1) [d, hsD hs, .int deep] = some (.bool (vstep n hs deep d))) ∧ ∀ d, San n d → ∀ deep : Int, 0 ≤ deep → m_are_steps (m + n + 1) [d, hsD hs, .int deep] = some (.bool (vsteps n hs deep d))
  | 0, m => ⟨fun d hd deep _ => by rw [u_is_step, vstep]; exact is_step_no hs deep hd, fun d hd deep _ => by rw [u_are_steps, vsteps]; exact are_steps_no hs deep hd⟩
  | n + 1, m => by
    have ih := steps_talk_ok (hs := hs) n m
    have e : m + (n + 1) + 1 = (m + n + 1) + 1 := by omega
    rw [e]
    refine ⟨fun d hd deep h0 => ?_, fun d hd deep h0 => ?_⟩
    · rw [u_is_step, vstep]
      exact is_step_body hd h0 fun hpos p hp => ih.2 p hp (deep - 1) (by omega)
    · rw [u_are_steps]
      exact are_steps_body hd fun p hp => ih.1 p hp deep h0
/-- the whole of it -/
def talkB (n : Nat) : PyData → Bool
  | .tuple [.tuple hd, st] => decide (1 ≤ hd.length) && (decide (hd.length ≤ 4) && (hd.all nameB && (match strsD hd with
    | some ys => decide ((ddS ys).length = ys.length) && vsteps n ys 3 st
    | none => false)))
  | _ => false
theorem names_strs : ∀ {hd : List PyData}, hd.all nameB = true → ∃ ys : List Str, hd = ys.map PyData.str ∧ strsD hd = some ys
  | [], _ => ⟨[], rfl, rfl⟩
  | d :: hd, h => by
    rw [List.all_cons, Bool.and_eq_true] at h
    obtain ⟨ys, h1, h2⟩ := names_strs h.2
    cases d with
    | str z => exact ⟨z :: ys, by rw [h1]; rfl, by simp only [strsD, h2]; rfl⟩
    | _ => cases h.1
theorem lenSet_ok (ys : List Str) (h : ys.length ≤ 50) : dLenSet (.tuple (ys.map PyData.str)) = some (.int (ddS ys).length) := by
  have e : strsD (ys.map PyData.str) = some ys := by
    clear h
    induction ys with
    | nil => rfl
    | cons y ys ih => simp only [List.map_cons, strsD, ih]; rfl
  show (strsD _).bind _ = _
  rw [e]
  simp only [Option.bind_some]
  rw [if_pos (by omega)]
theorem is_talk_ok {n : Nat} {d : PyData} (hsan : San n d) (hn : n ≤ 29) : m_is_talk [d] = some (.bool (talkB n d)) := by
  have hit := isa_tup hsan
  refine run_of ?_
  unfold f_is_talk
  show fSeq _ _ [some d, none, none] = _
  cases d with
  | tuple ds =>
    obtain ⟨n', rfl⟩ : ∃ n', n = n' + 1 := by
      cases n with
      | zero => unfold San at hsan; exact hsan.elim
      | succ n' => exact ⟨n', rfl⟩
    obtain ⟨_, hel⟩ := hsan.tup
    have t1 : TF.tNot (eT (TF.e1 (eVar 0) (dIsa "tuple"))) [some (.tuple ds), none, none] = some false := by simp [hit, isT]
    match ds, hel, t1 with
    | [], _, t1 => exact ret_b (or_t2 t1 (or_t1 (by simp [ne_int]))) (by rfl)
    | [x], _, t1 => exact ret_b (or_t2 t1 (or_t1 (by simp [ne_int]))) (by cases x <;> rfl)
    | x :: y :: z :: r, _, t1 =>
      have : ¬ ((r.length : Int) + 1 + 1 + 1 = 2) := by omega
      exact ret_b (or_t2 t1 (or_t1 (by simp [ne_int, this]))) (by cases x <;> rfl)
    | [x, st], hel, t1 =>
      have hx : San n' x := hel x (by simp)
      have hst : San n' st := hel st (by simp)
      have hix := isa_tup hx
      have t2 : TF.e2 (TF.e1 (eVar 0) dLen) (eC (.int 2)) dNe [some (.tuple [x, st]), none, none] = some false := by simp [ne_int]
      cases x with
      | tuple hd =>
        obtain ⟨n2, rfl⟩ : ∃ n2, n' = n2 + 1 := by
          cases n' with
          | zero => unfold San at hx; exact hx.elim
          | succ n2 => exact ⟨n2, rfl⟩
        obtain ⟨_, hnm⟩ := hx.tup
        refine seq_if (or_ff t1 (or_ff t2 (by simp [hix, isT]))) ?_
        refine seq_nx (ρ' := [some (.tuple [.tuple hd, st]), some (.tuple hd), none]) (by simp) ?_
        have hlc := lcGo_map (e := id) (tg := g1 2) (el := e_is_talk_1) (ρ := [some (.tuple [.tuple hd, st]), some (.tuple hd), none]) (fun p => .bool (nameB p)) hd (fun p hp => ⟨_, rfl, by simp [e_is_talk_1, is_name_ok (hnm p hp)]⟩)
        rw [List.map_id] at hlc
        have hall := all_bools (ps := hd) (f := nameB)
        have tall : TF.tNot (eT (TF.e1 (eL (eLc (TF.e1 (eVar 1) dWalk) (g1 2) tYs e_is_talk_1)) dAll)) [some (.tuple [.tuple hd, st]), some (.tuple hd), none] = some (!hd.all nameB) := by
          rw [tNot_ev, eT_ev, e1_ev, eL_ev, eLc_ev, e1_ev]
          simp only [eVar_ev, List.getD_cons_succ, List.getD_cons_zero, Option.bind_some, dWalk_tup, hlc, Option.map_some, hall, dB_ev]
        have tlen : TF.tNot (eChain (eC (.int 1)) (TF.e1 (eVar 1) dLen) (eC (.int 4)) dLe dLe) [some (.tuple [.tuple hd, st]), some (.tuple hd), none] = some (!(decide (1 ≤ hd.length) && decide (hd.length ≤ 4))) := by
          by_cases q1 : 1 ≤ hd.length
          · have q1' : (1 : Int) ≤ hd.length := by omega
            by_cases q2 : hd.length ≤ 4
            · have q2' : (hd.length : Int) ≤ 4 := by omega
              simp [q1, q2, q1', q2']
            · have q2' : ¬ (hd.length : Int) ≤ 4 := by omega
              simp [q1, q2, q1', q2']
          · have q1' : ¬ (1 : Int) ≤ hd.length := by omega
            simp [q1, q1']
        show _ = some (Fl.rt (.bool (decide (1 ≤ hd.length) && (decide (hd.length ≤ 4) && (hd.all nameB && (match strsD hd with
          | some ys => decide ((ddS ys).length = ys.length) && vsteps (n2 + 1 + 1) ys 3 st
          | none => false))))))
        rw [← Bool.and_assoc]
        cases hb : (decide (1 ≤ hd.length) && decide (hd.length ≤ 4)) with
        | false =>
          rw [hb] at tlen
          exact ret_b (or_t1 tlen) (by rw [Bool.false_and]; rfl)
        | true =>
          rw [hb] at tlen
          cases ha : hd.all nameB with
          | false =>
            rw [ha] at tall
            exact ret_b (or_t2 tlen tall) (by rw [Bool.false_and, Bool.and_false]; rfl)
          | true =>
            rw [ha] at tall
            refine seq_if (or_ff tlen tall) ?_
            obtain ⟨ys, hys, hst2⟩ := names_strs ha
            rw [hst2, Bool.true_and, Bool.true_and]
            have hl4 : hd.length ≤ 4 := by rw [Bool.and_eq_true] at hb; exact of_decide_eq_true hb.2
            have hyl : ys.length = hd.length := by rw [hys, List.length_map]
            have hls := lenSet_ok ys (by omega)
            have htu : PyData.tuple hd = hsD ys := by rw [hys]; rfl
            have har := (steps_talk_ok (hs := ys) (n2 + 1 + 1) (29 - (n2 + 1 + 1))).2 st hst.up 3 (by decide)
            have ef : 29 - (n2 + 1 + 1) + (n2 + 1 + 1) + 1 = fu_is_step := by unfold fu_is_step; omega
            rw [ef] at har
            rw [fRet_ev]
            have := vand (f := eB (TF.e2 (TF.e1 (eVar 1) dLenSet) (TF.e1 (eVar 1) dLen) dEq)) (g := eCall 3 (m_are_steps fu_is_step) (aCons (TF.e2 (eVar 0) (eC (.int 1)) dIx) (aCons (eVar 1) (aCons (eC (.int 3)) aNil)))) (ρ := [some (.tuple [.tuple hd, st]), some (.tuple hd), none]) (a := decide ((ddS ys).length = ys.length)) (b := vsteps (n2 + 1 + 1) ys 3 st) (by
              rw [hys]
              rw [eB_ev, e2_ev, e1_ev]
              simp only [eVar_ev, List.getD_cons_succ, List.getD_cons_zero, Option.bind_some, hls, e1_ev, dLen_tup, List.length_map, eq_int', Option.map_some]
              congr 2
              exact decide_eq_decide.mpr (by omega)) (fun _ => by
              rw [htu]
              simp [har])
            rw [this]; rfl
      | _ => exact ret_b (or_t2 t1 (or_t2 t2 (b := true) (by simp [hix, isT]))) (by rfl)
  | _ => exact ret_b (or_t1 (by simp [hit, isT])) (by rfl)
/-! is_talk of a talk -/
theorem nmB {w : Str} (h : IsNm w) : nameB (.str w) = true := by
  obtain ⟨h1, h2, h3⟩ := h
  unfold nameB
  simp only [Bool.and_eq_true, decide_eq_true_eq, List.all_eq_true]
  have e : w.length = w.cps.size := rfl
  first
    | exact ⟨⟨by omega, by omega⟩, fun c hc => by unfold okC; simp [h3 c hc]⟩
    | exact ⟨by omega, by omega, fun c hc => by unfold okC; simp [h3 c hc]⟩
theorem nm_len {w : Str} (h : IsNm w) : w.length ≤ 1000000 := by
  have e : w.length = w.cps.size := rfl
  have := h.2.1
  omega
theorem San.mkT {n : Nat} {ds : List PyData} (h : ds.length ≤ 1000000) (h2 : ∀ d ∈ ds, San n d) : San (n + 1) (.tuple ds) := by unfold San; exact ⟨h, h2⟩
theorem San.mkS {n : Nat} {z : Str} (h : z.length ≤ 1000000) : San n (.str z) := by cases n <;> (unfold San; exact h)
theorem stF_tell {rec : PyData → Bool} {hs : List Str} {deep : Int} {r : List PyData} : stF rec hs deep (.tuple (.str "tell" :: r)) = tellB hs r := by
  show (if ("tell" : Str) = "tell" then tellB hs r else decide (0 < deep) && (if ("tell" : Str) = "choice" then choB rec r else if ("tell" : Str) = "round" then rouB rec r else if ("tell" : Str) = "both" then botB rec r else false)) = _
  rw [if_pos rfl]
theorem stF_cho {rec : PyData → Bool} {hs : List Str} {deep : Int} {r : List PyData} (h : decide (0 < deep) = true) : stF rec hs deep (.tuple (.str "choice" :: r)) = choB rec r := by
  show (if ("choice" : Str) = "tell" then tellB hs r else decide (0 < deep) && (if ("choice" : Str) = "choice" then choB rec r else _)) = _
  rw [if_neg (by decide), if_pos rfl, h]; rfl
theorem stF_rou {rec : PyData → Bool} {hs : List Str} {deep : Int} {r : List PyData} (h : decide (0 < deep) = true) : stF rec hs deep (.tuple (.str "round" :: r)) = rouB rec r := by
  show (if ("round" : Str) = "tell" then tellB hs r else decide (0 < deep) && (if ("round" : Str) = "choice" then choB rec r else if ("round" : Str) = "round" then rouB rec r else _)) = _
  rw [if_neg (by decide), if_neg (by decide), if_pos rfl, h]; rfl
theorem stF_bot {rec : PyData → Bool} {hs : List Str} {deep : Int} {r : List PyData} (h : decide (0 < deep) = true) : stF rec hs deep (.tuple (.str "both" :: r)) = botB rec r := by
  show (if ("both" : Str) = "tell" then tellB hs r else decide (0 < deep) && (if ("both" : Str) = "choice" then choB rec r else if ("both" : Str) = "round" then rouB rec r else if ("both" : Str) = "both" then botB rec r else false)) = _
  rw [if_neg (by decide), if_neg (by decide), if_neg (by decide), if_pos rfl, h]; rfl
theorem vt_step {hs : List Str} (hok : HsOk hs) : ∀ (d : Nat) (x : TK.Step), VT hs d x → San (3 * d + 1) (sD x) ∧ ∀ n deep : Nat, 2 * d + 1 ≤ n → d ≤ deep → vstep n hs (deep : Nat) (sD x) = true := by
  have nm1 : ∀ a ∈ hs, IsNm a := hok.2.2.2
  intro d
  have tell : ∀ d (a b w : Str), VT hs d (.tell a b w) → San (3 * d + 1) (sD (.tell a b w)) ∧ ∀ n deep : Nat, 2 * d + 1 ≤ n → d ≤ deep → vstep n hs (deep : Nat) (sD (.tell a b w)) = true := by
    intro d a b w h
    unfold VT at h
    rw [sD_tell]
    refine ⟨San.mkT (by simp) fun e he => ?_, fun n deep hn hd => ?_⟩
    · simp at he
      rcases he with rfl | rfl | rfl | rfl
      · exact San.mkS (by decide)
      · exact San.mkS (nm_len (nm1 _ h.1))
      · exact San.mkS (nm_len (nm1 _ h.2.1))
      · exact San.mkS (nm_len h.2.2)
    · obtain ⟨n, rfl⟩ : ∃ m, n = m + 1 := ⟨n - 1, by omega⟩
      rw [vstep, stF_tell]
      simp [tellB, handB, h.1, h.2.1, nmB h.2.2]
  induction d with
  | zero =>
    intro x h
    cases x with
    | tell a b w => exact tell 0 a b w h
    | choice bs => unfold VT at h; exact h.elim
    | round bs => unfold VT at h; exact h.elim
    | both _ _ => unfold VT at h; exact h.elim
  | succ d ih =>
    intro x h
    have part : ∀ b : Steps, b.length ≤ 4 → (∀ s ∈ b, VT hs d s) → San (3 * d + 2) (ssD b) ∧ ∀ n deep : Nat, 2 * d + 2 ≤ n → d ≤ deep → vsteps n hs (deep : Nat) (ssD b) = true := fun b hl hb => by
      rw [ssD_eq]
      refine ⟨San.mkT (by rw [List.length_map]; omega) fun e he => ?_, fun n deep hn hd => ?_⟩
      · obtain ⟨y, hy, rfl⟩ := List.mem_map.mp he
        exact (ih y (hb y hy)).1
      · obtain ⟨n, rfl⟩ : ∃ m, n = m + 1 := ⟨n - 1, by omega⟩
        rw [vsteps]
        rw [List.length_map, Bool.and_eq_true, List.all_eq_true]
        refine ⟨by simpa using hl, fun e he => ?_⟩
        obtain ⟨y, hy, rfl⟩ := List.mem_map.mp he
        exact (ih y (hb y hy)).2 n deep (by omega) hd
    have dec : ∀ deep : Nat, d + 1 ≤ deep → ((deep : Nat) : Int) - 1 = ((deep - 1 : Nat) : Int) := fun deep hd => by omega
    have pos : ∀ deep : Nat, d + 1 ≤ deep → decide ((0 : Int) < (deep : Nat)) = true := fun deep hd => by simp; omega
    cases x with
    | tell a b w => exact tell (d + 1) a b w h
    | choice bs =>
      unfold VT at h
      rw [sD_choice]
      have e3 : 3 * (d + 1) + 1 = 3 * d + 2 + 1 + 1 := by omega
      rw [e3]
      refine ⟨San.mkT (by simp) fun e he => ?_, fun n deep hn hd => ?_⟩
      · simp at he
        rcases he with rfl | rfl
        · exact San.mkS (by decide)
        · refine San.mkT (by rw [List.length_map]; omega) fun e he => ?_
          obtain ⟨y, hy, rfl⟩ := List.mem_map.mp he
          exact (part y (h.2.2 y hy).1 (h.2.2 y hy).2).1.mono (by omega)
      · obtain ⟨n, rfl⟩ : ∃ m, n = m + 1 := ⟨n - 1, by omega⟩
        rw [vstep, stF_cho (pos deep hd), dec deep hd]
        unfold choB
        simp only [Bool.true_and, List.length_map, Bool.and_eq_true, decide_eq_true_eq, List.all_eq_true]
        refine ⟨h.1, h.2.1, fun e he => ?_⟩
        obtain ⟨y, hy, rfl⟩ := List.mem_map.mp he
        exact (part y (h.2.2 y hy).1 (h.2.2 y hy).2).2 n (deep - 1) (by omega) (by omega)
    | round s =>
      unfold VT at h
      rw [sD_round]
      have e3 : 3 * (d + 1) + 1 = 3 * d + 2 + 1 + 1 := by omega
      rw [e3]
      refine ⟨San.mkT (by simp) fun e he => ?_, fun n deep hn hd => ?_⟩
      · simp at he
        rcases he with rfl | rfl
        · exact San.mkS (by decide)
        · exact (part s h.1 h.2).1.mono (by omega)
      · obtain ⟨n, rfl⟩ : ∃ m, n = m + 1 := ⟨n - 1, by omega⟩
        rw [vstep, stF_rou (pos deep hd), dec deep hd]
        unfold rouB
        exact (part s h.1 h.2).2 n (deep - 1) (by omega) (by omega)
    | both s t =>
      unfold VT at h
      rw [sD_both]
      have e3 : 3 * (d + 1) + 1 = 3 * d + 2 + 1 + 1 := by omega
      rw [e3]
      refine ⟨San.mkT (by simp) fun e he => ?_, fun n deep hn hd => ?_⟩
      · simp at he
        rcases he with rfl | rfl | rfl
        · exact San.mkS (by decide)
        · exact (part s h.1.1 h.1.2).1.mono (by omega)
        · exact (part t h.2.1 h.2.2).1.mono (by omega)
      · obtain ⟨n, rfl⟩ : ∃ m, n = m + 1 := ⟨n - 1, by omega⟩
        rw [vstep, stF_bot (pos deep hd), dec deep hd]
        show (vsteps n hs ((deep - 1 : Nat) : Int) (ssD s) && vsteps n hs ((deep - 1 : Nat) : Int) (ssD t)) = true
        rw [(part s h.1.1 h.1.2).2 n (deep - 1) (by omega) (by omega), (part t h.2.1 h.2.2).2 n (deep - 1) (by omega) (by omega)]; rfl
theorem dd_nodup (ys : List Str) (h : ys.Nodup) : (ddS ys).length = ys.length := by
  have gen : ∀ (l a : List Str), (a ++ l).Nodup → l.foldl (fun a x => if a.any (· == x) = true then a else a ++ [x]) a = a ++ l := by
    intro l
    induction l with
    | nil => intro a _; simp
    | cons x l ih =>
      intro a hn
      have hx : ¬ (a.any (· == x)) = true := by
        rw [List.any_eq_true]
        rintro ⟨y, hy, e⟩
        have e : y = x := by simpa using e
        subst e
        rw [List.nodup_append] at hn
        exact hn.2.2 y hy y (by simp) rfl
      rw [List.foldl_cons, if_neg hx, ih (a ++ [x]) (by simpa using hn)]
      simp
  have e : ddS ys = ys := by
    unfold ddS
    rw [gen ys [] (by simpa using h)]; rfl
  rw [e]
theorem talk_true {hs : List Str} (hok : HsOk hs) {s : Steps} (hl : s.length ≤ 4) (hs' : ∀ x ∈ s, VT hs 3 x) : San 15 (tkD hs s) ∧ talkB 19 (tkD hs s) = true := by
  have nm1 : ∀ a ∈ hs, IsNm a := hok.2.2.2
  have hS : San 12 (ssD s) := by
    rw [ssD_eq]
    refine San.mkT (by rw [List.length_map]; omega) fun e he => ?_
    obtain ⟨y, hy, rfl⟩ := List.mem_map.mp he
    exact (vt_step hok 3 y (hs' y hy)).1.mono (by decide)
  refine ⟨?_, ?_⟩
  · unfold tkD
    refine San.mkT (by simp) fun e he => ?_
    simp at he
    rcases he with rfl | rfl
    · refine San.mkT (by rw [List.length_map]; have := hok.2.1; omega) fun e he => ?_
      obtain ⟨y, hy, rfl⟩ := List.mem_map.mp he
      exact San.mkS (nm_len (nm1 y hy))
    · exact hS.mono (by decide)
  · have est : strsD (hs.map PyData.str) = some hs := by
      clear nm1 hok hS hs'
      induction hs with
      | nil => rfl
      | cons y ys ih => simp only [List.map_cons, strsD, ih]; rfl
    have ha : (hs.map PyData.str).all nameB = true := by
      rw [List.all_eq_true]
      intro e he
      obtain ⟨y, hy, rfl⟩ := List.mem_map.mp he
      exact nmB (nm1 y hy)
    have hv : vsteps 19 hs 3 (ssD s) = true := by
      rw [ssD_eq, vsteps]
      rw [List.length_map, Bool.and_eq_true, List.all_eq_true]
      refine ⟨by simpa using hl, fun e he => ?_⟩
      obtain ⟨y, hy, rfl⟩ := List.mem_map.mp he
      exact (vt_step hok 3 y (hs' y hy)).2 18 3 (by decide) (by decide)
    unfold tkD hsD talkB
    simp only [List.length_map, ha, est, hv, dd_nodup hs hok.2.2.1]
    simp [hok.1, hok.2.1]
/-! what is_talk holds for is a talk -/
theorem nmI {d : PyData} (h : nameB d = true) : ∃ w, d = .str w ∧ IsNm w := by
  cases d with
  | str z =>
    unfold nameB at h
    simp only [Bool.and_eq_true, decide_eq_true_eq, List.all_eq_true] at h
    refine ⟨z, rfl, h.1.1, h.1.2, fun c hc => ?_⟩
    have := h.2 c hc
    unfold okC at this
    simpa using this
  | _ => cases h
theorem handI {hs : List Str} {d : PyData} (h : handB hs d = true) : ∃ w, d = .str w ∧ w ∈ hs := by
  cases d with
  | str z => exact ⟨z, rfl, by simpa [handB] using h⟩
  | _ => cases h
theorem stepsI {hs : List Str} {d : Nat} {rec : PyData → Bool} (ih : ∀ e, rec e = true → ∃ x, e = sD x ∧ VT hs d x) : ∀ ds : List PyData, ds.all rec = true → ∃ xs : List TK.Step, ds = xs.map sD ∧ ∀ x ∈ xs, VT hs d x
  | [], _ => ⟨[], rfl, fun x hx => absurd hx (by simp)⟩
  | e :: ds, h => by
    rw [List.all_cons, Bool.and_eq_true] at h
    obtain ⟨x, rfl, hx⟩ := ih e h.1
    obtain ⟨xs, rfl, hxs⟩ := stepsI ih ds h.2
    exact ⟨x :: xs, rfl, fun y hy => by
      rcases List.mem_cons.mp hy with rfl | hy
      · exact hx
      · exact hxs y hy⟩
theorem partsI {hs : List Str} {d : Nat} {rec : PyData → Bool} (ih : ∀ e, rec e = true → ∃ xs, e = ssD xs ∧ xs.length ≤ 4 ∧ ∀ x ∈ xs, VT hs d x) : ∀ ds : List PyData, ds.all rec = true → ∃ bs : List Steps, ds = bs.map ssD ∧ ∀ b ∈ bs, b.length ≤ 4 ∧ ∀ x ∈ b, VT hs d x
  | [], _ => ⟨[], rfl, fun x hx => absurd hx (by simp)⟩
  | e :: ds, h => by
    rw [List.all_cons, Bool.and_eq_true] at h
    obtain ⟨x, rfl, hx⟩ := ih e h.1
    obtain ⟨xs, rfl, hxs⟩ := partsI ih ds h.2
    exact ⟨x :: xs, rfl, fun y hy => by
      rcases List.mem_cons.mp hy with rfl | hy
      · exact hx
      · exact hxs y hy⟩
theorem inv_both {hs : List Str} : ∀ n : Nat, (∀ (deep : Nat) (e : PyData), vstep n hs (deep : Nat) e = true → ∃ x, e = sD x ∧ VT hs deep x) ∧ ∀ (deep : Nat) (e : PyData), vsteps n hs (deep : Nat) e = true → ∃ xs, e = ssD xs ∧ xs.length ≤ 4 ∧ ∀ x ∈ xs, VT hs deep x
  | 0 => ⟨fun deep e h => (by rw [vstep] at h; cases h), fun deep e h => (by rw [vsteps] at h; cases h)⟩
  | n + 1 => by
    obtain ⟨ih1, ih2⟩ := inv_both (hs := hs) n
    refine ⟨fun deep e h => ?_, fun deep e h => ?_⟩
    · rw [vstep] at h
      unfold stF at h
      split at h
      · rename_i w r
        by_cases h1 : w = "tell"
        · rw [if_pos h1] at h
          unfold tellB at h
          split at h
          · rename_i a b c
            simp only [Bool.and_eq_true] at h
            obtain ⟨a', rfl, ha⟩ := handI h.1
            obtain ⟨b', rfl, hb⟩ := handI h.2.1
            obtain ⟨c', rfl, hc⟩ := nmI h.2.2
            subst h1
            exact ⟨.tell a' b' c', by rw [sD_tell], by unfold VT; exact ⟨ha, hb, hc⟩⟩
          · cases h
        · rw [if_neg h1, Bool.and_eq_true] at h
          obtain ⟨hd, h⟩ := h
          have hd : (0 : Int) < (deep : Nat) := of_decide_eq_true hd
          obtain ⟨d, rfl⟩ : ∃ d, deep = d + 1 := ⟨deep - 1, by omega⟩
          have ed : ((d + 1 : Nat) : Int) - 1 = (d : Nat) := by omega
          rw [ed] at h
          by_cases h2 : w = "choice"
          · rw [if_pos h2] at h
            unfold choB at h
            split at h
            · rename_i ps
              simp only [Bool.and_eq_true, decide_eq_true_eq] at h
              obtain ⟨bs, rfl, hb⟩ := partsI (ih2 d) ps h.2.2
              subst h2
              rw [List.length_map] at h
              exact ⟨.choice bs, by rw [sD_choice], by unfold VT; exact ⟨h.1, h.2.1, hb⟩⟩
            · cases h
          · rw [if_neg h2] at h
            by_cases h3 : w = "round"
            · rw [if_pos h3] at h
              unfold rouB at h
              split at h
              · rename_i p
                obtain ⟨xs, rfl, hx⟩ := ih2 d p h
                subst h3
                exact ⟨.round xs, by rw [sD_round], by unfold VT; exact hx⟩
              · cases h
            · rw [if_neg h3] at h
              by_cases h4 : w = "both"
              · rw [if_pos h4] at h
                unfold botB at h
                split at h
                · rename_i p q
                  rw [Bool.and_eq_true] at h
                  obtain ⟨xs, rfl, hx⟩ := ih2 d p h.1
                  obtain ⟨ys, rfl, hy⟩ := ih2 d q h.2
                  subst h4
                  exact ⟨.both xs ys, by rw [sD_both], by unfold VT; exact ⟨hx, hy⟩⟩
                · cases h
              · rw [if_neg h4] at h; cases h
      · cases h
    · cases e with
      | tuple ds =>
        rw [vsteps, Bool.and_eq_true] at h
        obtain ⟨xs, rfl, hx⟩ := stepsI (ih1 deep) ds h.2
        have hl := of_decide_eq_true h.1
        rw [List.length_map] at hl
        exact ⟨xs, rfl, hl, hx⟩
      | _ => rw [vsteps] at h; cases h; all_goals simp
theorem dd_le : ∀ (n : Nat) (l : List Str), l.length = n → (ddS l).length ≤ l.length
  | 0, l, h => by
    have : l = [] := List.eq_nil_of_length_eq_zero h
    subst this; exact Nat.le_refl _
  | n + 1, l, h => by
    have hne : l ≠ [] := fun z => by rw [z] at h; cases h
    have e := List.dropLast_concat_getLast hne
    have hl : l.dropLast.length = n := by rw [List.length_dropLast]; omega
    have h1 := dd_le n l.dropLast hl
    have h2 := ddS_snoc l.dropLast (l.getLast hne)
    rw [e] at h2
    rw [← h2]
    split <;> omega
theorem dd_nodupI : ∀ (n : Nat) (l : List Str), l.length = n → (ddS l).length = l.length → l.Nodup
  | 0, l, h, _ => by
    have : l = [] := List.eq_nil_of_length_eq_zero h
    subst this; exact List.nodup_nil
  | n + 1, l, h, hd => by
    have hne : l ≠ [] := fun z => by rw [z] at h; cases h
    have e := List.dropLast_concat_getLast hne
    have hl : l.dropLast.length = n := by rw [List.length_dropLast]; omega
    have h1 := dd_le n l.dropLast hl
    have h2 := ddS_snoc l.dropLast (l.getLast hne)
    rw [e] at h2
    by_cases hx : (l.dropLast.any (· == l.getLast hne)) = true
    · rw [if_pos hx] at h2; omega
    · rw [if_neg hx] at h2
      have h3 := dd_nodupI n l.dropLast hl (by omega)
      rw [← e, List.nodup_append]
      refine ⟨h3, by simp, fun a ha b hb => ?_⟩
      have hb : b = l.getLast hne := by simpa using hb
      subst hb
      intro z
      subst z
      exact hx (List.any_eq_true.mpr ⟨_, ha, by simp⟩)
theorem talk_inv {n : Nat} {d : PyData} (h : talkB n d = true) : ∃ (hs : List Str) (ss : Steps), d = .tuple [hsD hs, ssD ss] ∧ HsOk hs ∧ ss.length ≤ 4 ∧ ∀ x ∈ ss, VT hs 3 x := by
  unfold talkB at h
  split at h
  · rename_i hd st
    simp only [Bool.and_eq_true, decide_eq_true_eq] at h
    obtain ⟨h1, h2, h3, h4⟩ := h
    obtain ⟨ys, rfl, e⟩ := names_strs h3
    rw [e] at h4
    simp only [Bool.and_eq_true, decide_eq_true_eq] at h4
    obtain ⟨ss, rfl, hl, hv⟩ := (inv_both n).2 3 st h4.2
    rw [List.length_map] at h1 h2
    refine ⟨ys, ss, rfl, ⟨h1, h2, dd_nodupI _ _ rfl h4.1, fun w hw => ?_⟩, hl, hv⟩
    have := List.all_eq_true.mp h3 (.str w) (List.mem_map.mpr ⟨w, hw, rfl⟩)
    obtain ⟨w', e', hn⟩ := nmI this
    cases e'
    exact hn
  · cases h
/-! unlaid, of what is laid-/
def rws : Int → List Mk → List MkR
  | _, [] => []
  | row, m :: ms => (row, m) :: rws (row + 1) ms
theorem rws_map : ∀ (row : Int) (l : List Mk), (rws row l).map mrD = mkD row l
  | _, [] => rfl
  | row, m :: ms => by show mrD (row, m) :: (rws (row + 1) ms).map mrD = _; rw [rws_map (row + 1) ms]; rfl
theorem rws_snd : ∀ (row : Int) (l : List Mk), (rws row l).map (·.2) = l
  | _, [] => rfl
  | row, m :: ms => by show m :: (rws (row + 1) ms).map (·.2) = _; rw [rws_snd (row + 1) ms]
theorem rws_len (row : Int) (l : List Mk) : (rws row l).length = l.length := by
  have := congrArg List.length (rws_snd row l)
  rwa [List.length_map] at this
theorem init_ok (hs : List Str) (ms : List MkR) : m_Marks_init__ [ob "Marks" [], hsD hs, .tuple (ms.map mrD)] = some (.ok .none (stM hs ms 0)) := by
  have n1 : ¬ (("hands" : Str) = "marks") := by decide
  have n2 : ¬ (("hands" : Str) = "at") := by decide
  have n3 : ¬ (("marks" : Str) = "at") := by decide
  have e1 : fFld 0 "Marks" "hands" (eVar 1) [some (ob "Marks" []), some (hsD hs), some (.tuple (ms.map mrD))] = some (.nx [some (ob "Marks" [("hands", hsD hs)]), some (hsD hs), some (.tuple (ms.map mrD))]) := rfl
  have e2 : fFld 0 "Marks" "marks" (eVar 2) [some (ob "Marks" [("hands", hsD hs)]), some (hsD hs), some (.tuple (ms.map mrD))] = some (.nx [some (ob "Marks" [("hands", hsD hs), ("marks", .tuple (ms.map mrD))]), some (hsD hs), some (.tuple (ms.map mrD))]) := rfl
  have e3 : fFld 0 "Marks" "at" (eC (.int 0)) [some (ob "Marks" [("hands", hsD hs), ("marks", .tuple (ms.map mrD))]), some (hsD hs), some (.tuple (ms.map mrD))] = some (.nx [some (stM hs ms 0), some (hsD hs), some (.tuple (ms.map mrD))]) := rfl
  exact runM_nx (n := 3) (f := f_Marks_init__) (ds := [ob "Marks" [], hsD hs, .tuple (ms.map mrD)]) (seq_nx e1 (seq_nx e2 e3)) rfl obM
theorem runX_rt {n : Nat} {f : Rho → Option Fl} {ds : List PyData} {d : PyData} (h : f (ds.map some ++ List.replicate (n - ds.length) none) = some (.rt d)) : runX n f ds = some (.ok d) := by
  unfold runX; rw [h]; rfl
theorem runX_ex {n : Nat} {f : Rho → Option Fl} {ds : List PyData} {x : Str} (h : f (ds.map some ++ List.replicate (n - ds.length) none) = some (.ex x)) : runX n f ds = some (.ex x) := by
  unfold runX; rw [h]; rfl
theorem encM_nb (r : Int) (m : Mk) : nb (encM r m) = true := by cases m <;> (unfold encM; rw [nb_tup]; simp [nb_str, nb_int])
theorem encM_plain (r : Int) (m : Mk) : (encM r m).plain = true := by cases m <;> (unfold encM; rw [plain_tup]; simp [plain_str, plain_int])
theorem encM_depth (r : Int) (m : Mk) : (encM r m).depth ≤ 1 := by cases m <;> (unfold encM; exact depth_tup.mpr (by simp [depth_str, depth_int]))
theorem msD_nb (ms : List MkR) : nb (.tuple (ms.map mrD)) = true := by
  rw [nb_tup]
  intro d hd
  obtain ⟨p, _, rfl⟩ := List.mem_map.mp hd
  exact encM_nb _ _
theorem msD_pl (ms : List MkR) : pl (.tuple (ms.map mrD)) = true := pl_of (by
  rw [plain_tup]
  intro d hd
  obtain ⟨p, _, rfl⟩ := List.mem_map.mp hd
  exact encM_plain _ _) (Nat.le_trans (depth_tup (n := 1).mpr (by
  intro d hd
  obtain ⟨p, _, rfl⟩ := List.mem_map.mp hd
  exact encM_depth _ _)) (by decide))
theorem mkD_nb (r : Int) (l : List Mk) : nb (.tuple (mkD r l)) = true := by rw [← rws_map]; exact msD_nb _
theorem mkD_pl (r : Int) (l : List Mk) : pl (.tuple (mkD r l)) = true := by rw [← rws_map]; exact msD_pl _
/-- ahead of the test -/
theorem unlaid_nx {hs : List Str} {ms : List MkR} {ts : List PT} {j : Nat} {h : Rho → Option Fl} {r : Option Fl} (hp : pSteps hs ms fu_Marks_steps 0 = some (.ok ts j))
    (hr : h [some (hsD hs), some (.tuple (ms.map mrD)), some (stM hs ms j), some (.tuple [hsD hs, ptsD ts])] = r) :
    fSeq (fMake 2 "Marks" m_Marks_init__ (aCons (eVar 0) (aCons (eVar 1) aNil))) (fSeq (sSet 3 (mTup (mCons (mE (eVar 0)) (mCons (mMeth 2 "Marks" "steps" (m_Marks_steps fu_Marks_steps) aNil) mNil)))) h) [some (hsD hs), some (.tuple (ms.map mrD)), none, none] = r := by
  have hm := ((marksR (hs := hs) (ms := ms) fu_Marks_steps).1 0 (Nat.zero_le _)).1
  rw [hp] at hm
  have e1 : fMake 2 "Marks" m_Marks_init__ (aCons (eVar 0) (aCons (eVar 1) aNil)) [some (hsD hs), some (.tuple (ms.map mrD)), none, none] = some (.nx [some (hsD hs), some (.tuple (ms.map mrD)), some (stM hs ms 0), none]) := by
    have ea : aCons (eVar 0) (aCons (eVar 1) aNil) [some (hsD hs), some (.tuple (ms.map mrD)), none, none] = some [hsD hs, .tuple (ms.map mrD)] := rfl
    unfold fMake
    rw [ea]
    simp only [Option.bind_some]
    rw [init_ok]; rfl
  refine seq_nx e1 (seq_nx ?_ hr)
  unfold sSet
  rw [mTup_of (mCons_of (mE_of rfl) (mCons_of (by rw [meth0 (i := 0) (hs := hs) (ms := ms) rfl (by decide), hm]; rfl) rfl)) (by simp)]
  rfl
theorem unlaid_pex {hs : List Str} {ms : List MkR} (hp : pSteps hs ms fu_Marks_steps 0 = some .ex) : m_unlaid [hsD hs, .tuple (ms.map mrD)] = some (.ex "NoTalk") := by
  have hm := ((marksR (hs := hs) (ms := ms) fu_Marks_steps).1 0 (Nat.zero_le _)).1
  rw [hp] at hm
  have e1 : fMake 2 "Marks" m_Marks_init__ (aCons (eVar 0) (aCons (eVar 1) aNil)) [some (hsD hs), some (.tuple (ms.map mrD)), none, none] = some (.nx [some (hsD hs), some (.tuple (ms.map mrD)), some (stM hs ms 0), none]) := by
    have ea : aCons (eVar 0) (aCons (eVar 1) aNil) [some (hsD hs), some (.tuple (ms.map mrD)), none, none] = some [hsD hs, .tuple (ms.map mrD)] := rfl
    unfold fMake
    rw [ea]
    simp only [Option.bind_some]
    rw [init_ok]; rfl
  refine runX_ex (n := 4) (f := f_unlaid) (ds := [hsD hs, .tuple (ms.map mrD)]) (seq_nx e1 (seq_ex ?_))
  unfold sSet
  rw [mTup_ex (mCons_ex2 (mE_of rfl) (mCons_ex1 (by rw [meth0 (i := 0) (hs := hs) (ms := ms) rfl (by decide), hm]; rfl)))]
  rfl
theorem unlaid_ok {hs : List Str} (hok : HsOk hs) {s : Steps} (hl : s.length ≤ 4) (hv : ∀ x ∈ s, VT hs 3 x) : m_unlaid [hsD hs, .tuple (mkD 0 (mkss hs s))] = some (.ok (tkD hs s)) := by
  obtain ⟨hd, hh⟩ := VT.sizes hv (by omega) (Nat.le_refl _)
  have hi := VT.inH hv
  have hla := laid_ok (hs := hs) (s := s) (by omega) (by omega) hi
  obtain ⟨hsan, htb⟩ := talk_true hok hl hv
  have hit := is_talk_ok (San.mono hsan (by decide : 15 ≤ 19)) (by decide)
  rw [htb] at hit
  have hp := (rd_ok (hs := hs) (ms := rws 0 (mkss hs s)) rfl fu_Marks_steps).1 s (by show 2 * deps s + 2 ≤ 30; omega) (fun x hx => ⟨3, hv x hx⟩) (by omega) 0 ⟨[], by rw [rws_snd]; simp⟩ (by
    unfold Stop
    rw [List.getElem?_eq_none (by rw [rws_len]; omega)]; rfl)
  rw [Nat.zero_add] at hp
  rw [← rws_map]
  have hml : (rws 0 (mkss hs s)).length = (mkss hs s).length := rws_len _ _
  refine runX_rt (n := 4) (f := f_unlaid) (ds := [hsD hs, .tuple ((rws 0 (mkss hs s)).map mrD)]) (unlaid_nx hp (seq_nx (if_n (or_t2 ?_ (or_t2 ?_ ?_))) ?_))
  · refine e2_of (x := .int ((mkss hs s).length : Nat)) (y := .int ((mkss hs s).length : Nat)) (fld_at rfl) (e1_of rfl (by simp [rws_len])) (by simp)
  · have e : tkD hs s = .tuple [hsD hs, ptsD (s.map toPT)] := by rw [ptsD_toPT]; rfl
    rw [tNot_ev, eT_ev, call1 (x := tkD hs s) (by rw [e]; rfl) hit]; rfl
  · have e : tkD hs s = .tuple [hsD hs, ptsD (s.map toPT)] := by rw [ptsD_toPT]; rfl
    refine e2_of (call1 (x := tkD hs s) (by rw [e]; rfl) hla) (y := .tuple (mkD 0 (mkss hs s))) (by rw [← rws_map]; rfl) (dNe_self (mkD_nb _ _) (mkD_pl _ _))
  · show some (Fl.rt _) = _
    rw [ptsD_toPT]; rfl
/-! cuts of rows -/
theorem cut_mid {x y z : List PyData} {i j : Int} (hi : i = (x.length : Nat)) (hj : j = (x.length + y.length : Nat)) : TF.cutD (x ++ (y ++ z)) (some i) (some j) = y := by
  subst hi hj
  unfold TF.cutD
  rw [HT.sIx_nat, HT.sIx_nat]
  have h1 : min x.length (x ++ (y ++ z)).length = x.length := by simp
  have h2 : min (x.length + y.length) (x ++ (y ++ z)).length = x.length + y.length := by simp <;> omega
  rw [h1, h2, List.drop_left]
  have e : x.length + y.length - x.length = y.length := by omega
  rw [e, List.take_left]
theorem cut_midl {x y z : List PyData} {i : Int} (hi : i = (x.length : Nat)) (hz : z.length = 1) : TF.cutD (x ++ (y ++ z)) (some i) (some (-1)) = y := by
  subst hi
  unfold TF.cutD
  rw [HT.sIx_nat]
  have h1 : min x.length (x ++ (y ++ z)).length = x.length := by simp
  have h2 : HT.sIx (x ++ (y ++ z)).length (x ++ (y ++ z)).length (some (-1)) = x.length + y.length := by
    unfold HT.sIx
    show (if (-1 : Int) < 0 then _ else _) = _
    rw [if_pos (by decide)]
    simp only [List.length_append, hz]
    omega
  rw [h1, h2, List.drop_left]
  have e : x.length + y.length - x.length = y.length := by omega
  rw [e, List.take_left]
theorem cut_one {x : PyData} {l : List PyData} : TF.cutD ([x] ++ l) (some 1) none = l := cutD_1_
theorem callX2 {m : List PyData → Option Rf} {f g : Rho → Option PyData} {ρ : Rho} {x y d : PyData} (h1 : f ρ = some x) (h2 : g ρ = some y) (h3 : m [x, y] = some (.ok d)) : eCallX 2 m (aCons f (aCons g aNil)) ρ = some d := by
  unfold eCallX
  rw [aCons_ev, h1, Option.bind_some, aCons_ev, h2]
  show (if ([x, y] : List PyData).length = 2 then (m [x, y]).bind _ else none) = _
  rw [if_pos (show ([x, y] : List PyData).length = 2 from rfl), h3]; rfl
/-! k40: laid by the law -/
theorem seq_rt {g h : Rho → Option Fl} {ρ : Rho} {d : PyData} (e : g ρ = some (.rt d)) : fSeq g h ρ = some (.rt d) := by rw [fSeq_ev, e]; rfl
theorem seq_ct {g h : Rho → Option Fl} {ρ ρ' : Rho} (e : g ρ = some (.ct ρ')) : fSeq g h ρ = some (.ct ρ') := by rw [fSeq_ev, e]; rfl
theorem set_of {i : Nat} {f : Rho → Option PyData} {ρ : Rho} {d : PyData} (h : f ρ = some d) : fSet i f ρ = some (.nx (ρ.set i (some d))) := by rw [fSet_ev, h]; rfl
theorem slc {f : Rho → Option PyData} {l u : Rho → Option (Option Int)} {ρ : Rho} {x d : PyData} {i j : Option Int} (h1 : f ρ = some x) (h2 : l ρ = some i) (h3 : u ρ = some j) (h4 : dSl x i j = some d) : eSl f l u dSl ρ = some d := by rw [eSl_ev, h1, Option.bind_some, h2, Option.bind_some, h3, Option.bind_some, h4]
theorem eL_of {l : Rho → Option (List PyData)} {ρ : Rho} {ds : List PyData} (h : l ρ = some ds) : eL l ρ = some (.list ds) := by rw [eL_ev, h]; rfl
theorem ret_of {f : Rho → Option PyData} {ρ : Rho} {d : PyData} (h : f ρ = some d) : fRet f ρ = some (.rt d) := by rw [fRet_ev, h]; rfl
theorem addT {a b : List PyData} (h : a.length + b.length ≤ 1000000) : dAddA (.tuple a) (.tuple b) = some (.tuple (a ++ b)) := by rw [dAddA_tup, if_pos (by rw [sl]; omega)]
theorem tup3 {f g h : Rho → Option PyData} {ρ : Rho} {x y z : PyData} (h1 : f ρ = some x) (h2 : g ρ = some y) (h3 : h ρ = some z) : eTup (aCons f (aCons g (aCons h aNil))) ρ = some (.tuple [x, y, z]) := by
  rw [eTup_ev, aCons_ev, aCons_ev, aCons_ev, h1, h2, h3]; rfl
theorem tup4 {f g h k : Rho → Option PyData} {ρ : Rho} {x y z w : PyData} (h1 : f ρ = some x) (h2 : g ρ = some y) (h3 : h ρ = some z) (h4 : k ρ = some w) : eTup (aCons f (aCons g (aCons h (aCons k aNil)))) ρ = some (.tuple [x, y, z, w]) := by
  rw [eTup_ev, aCons_ev, aCons_ev, aCons_ev, aCons_ev, h1, h2, h3, h4]; rfl
theorem tup5 {f g h k m : Rho → Option PyData} {ρ : Rho} {x y z w v : PyData} (h1 : f ρ = some x) (h2 : g ρ = some y) (h3 : h ρ = some z) (h4 : k ρ = some w) (h5 : m ρ = some v) : eTup (aCons f (aCons g (aCons h (aCons k (aCons m aNil))))) ρ = some (.tuple [x, y, z, w, v]) := by
  rw [eTup_ev, aCons_ev, aCons_ev, aCons_ev, aCons_ev, aCons_ev, h1, h2, h3, h4, h5]; rfl
theorem lst2 {f g : Rho → Option PyData} {ρ : Rho} {x y : PyData} (h1 : f ρ = some x) (h2 : g ρ = some y) : eLst (aCons f (aCons g aNil)) ρ = some [x, y] := by
  rw [eLst_ev, aCons_ev, aCons_ev, h1, h2]; rfl
theorem pl_ints (ns : List Int) : pl (.list (ns.map PyData.int)) = true := pl_of (by rw [plain_lst]; simp [plain_int]) (Nat.le_trans (depth_lst (n := 0).mpr (by simp [depth_int])) (by decide))
theorem lay_lanes {r : List PyData → Option PyData} {hs : List Str} {x0 x2 x3 x4 x5 x6 x8 x9 x10 : Option PyData} (ls : List Lt) (hi : ∀ l ∈ ls, l.1 ∈ hs ∧ l.2.1 ∈ hs) (acc : List Int) (hl : acc.length + 2 * ls.length ≤ 1000000) :
    forGo (g1 11) (b_law_lay_1 r) [11] (ls.map ltD) [x0, some (hsD hs), x2, x3, x4, x5, x6, some (.list (acc.map PyData.int)), x8, x9, x10, none] = some (.nx [x0, some (hsD hs), x2, x3, x4, x5, x6, some (.list ((acc ++ idl hs ls).map PyData.int)), x8, x9, x10, none]) := by
  have h := forGo_map (e := ltD) (tg := g1 11) (body := b_law_lay_1 r) (ks := [11]) (fun pre => [x0, some (hsD hs), x2, x3, x4, x5, x6, some (.list ((acc ++ idl hs pre).map PyData.int)), x8, x9, x10, none]) ls (fun pre l post hx => by
    obtain ⟨h1, h2⟩ := hi l (by rw [hx]; simp)
    have hn : (acc ++ idl hs pre).length + 2 ≤ 1000000 := by
      rw [List.length_append, idl_length]
      rw [hx] at hl
      simp at hl
      omega
    refine ⟨_, [x0, some (hsD hs), x2, x3, x4, x5, x6, some (.list ((acc ++ idl hs (pre ++ [l])).map PyData.int)), x8, x9, x10, some (ltD l)], rfl, .inl ?_, rfl⟩
    have e : idl hs [l] = [(hs.idxOf l.1 : Int), (hs.idxOf l.2.1 : Int)] := by simp [idl]
    rw [idl_append, e, ← List.append_assoc]
    generalize acc ++ idl hs pre = A at hn
    obtain ⟨a, b, w⟩ := l
    have q1 : TF.e2 (eVar 1) (TF.e2 (eVar 11) (eC (.int 0)) dIx) dIndexT [x0, some (hsD hs), x2, x3, x4, x5, x6, some (.list (A.map PyData.int)), x8, x9, x10, some (ltD (a, b, w))] = some (.int (hs.idxOf a : Nat)) := e2_of rfl (e2_of rfl rfl (by simp [ltD])) (dIx_hs h1)
    have q2 : TF.e2 (eVar 1) (TF.e2 (eVar 11) (eC (.int 1)) dIx) dIndexT [x0, some (hsD hs), x2, x3, x4, x5, x6, some (.list (A.map PyData.int)), x8, x9, x10, some (ltD (a, b, w))] = some (.int (hs.idxOf b : Nat)) := e2_of rfl (e2_of rfl rfl (by simp [ltD])) (dIx_hs h2)
    refine (set_of (i := 7) (eL_of (e2_of rfl (eL_of (lst2 q1 q2)) (d := some ((A ++ [((hs.idxOf a : Nat) : Int), ((hs.idxOf b : Nat) : Int)]).map PyData.int)) ?_))).trans rfl
    rw [dAddL_ev, if_pos (by rw [List.length_map, sl]; simp; omega), List.map_append]; rfl)
  have e0 : idl hs [] = [] := rfl
  rw [e0, List.append_nil] at h
  exact h
theorem lay_parts {r : List PyData → Option PyData} {hs : List Str} {x0 x4 x5 x6 x7 : Option PyData} (row : Int) (acc : List Mk) (ps : List Steps) (hr : ∀ b ∈ ps, ∀ row : Int, r [ssD b, hsD hs, .int row] = some (.tuple (mkD row (mkss hs b)))) (hl : acc.length + (jps (ps.map (mkss hs))).length ≤ 900000) :
    forGo (g2 9 8) (b_law_lay_3 r) [8, 9] (enumD 0 (ps.map ssD)) [x0, some (hsD hs), some (.int row), some (.tuple (mkD row acc)), x4, x5, x6, x7, none, none, none, none] = some (.nx [x0, some (hsD hs), some (.int row), some (.tuple (mkD row (acc ++ jps (ps.map (mkss hs))))), x4, x5, x6, x7, none, none, none, none]) := by
  have h := forGo_enum (e := ssD) (tg := g2 9 8) (body := b_law_lay_3 r) (ks := [8, 9]) (fun pre => [x0, some (hsD hs), some (.int row), some (.tuple (mkD row (acc ++ jps (pre.map (mkss hs))))), x4, x5, x6, x7, none, none, none, none]) ps (fun pre b post hx => by
    have hb := hr b (by rw [hx]; simp)
    have hlen : (acc ++ jps (pre.map (mkss hs))).length + 1 + (mkss hs b).length ≤ 900001 := by
      have e : jps (ps.map (mkss hs)) = jps ((pre ++ [b]).map (mkss hs)) ++ (post.map (fun q => Mk.line :: mkss hs q)).flatten := by
        rw [hx]
        cases pre with
        | nil => simp [jps]; rfl
        | cons p q => simp [jps]; rfl
      rw [e, List.map_append, List.map_cons, List.map_nil, jps_snoc] at hl
      simp only [List.length_append] at hl ⊢
      split at hl <;> simp at hl <;> omega
    refine ⟨_, [x0, some (hsD hs), some (.int row), some (.tuple (mkD row (acc ++ jps ((pre ++ [b]).map (mkss hs))))), x4, x5, x6, x7, some (ssD b), some (.int (pre.length : Nat)), none, none], rfl, .inl ?_, rfl⟩
    rw [List.map_append, List.map_cons, List.map_nil, jps_snoc, List.length_map, ← List.append_assoc]
    generalize acc ++ jps (pre.map (mkss hs)) = A at hlen ⊢
    have len1 : ∀ (B : List Mk) (ρ : Rho), eVar 3 ρ = some (.tuple (mkD row B)) → eVar 2 ρ = some (.int row) → TF.e2 (eVar 2) (TF.e1 (eVar 3) dLen) dAddA ρ = some (.int (row + (B.length : Nat))) := fun B ρ h3 h2 => e2_of h2 (e1_of h3 (by rw [dLen_tup, mkD_length])) dAddA_int
    have last : ∀ B : List Mk, B.length + (mkss hs b).length ≤ 900001 → fSet 3 (TF.e2 (eVar 3) (eCall 3 r (aCons (eVar 8) (aCons (eVar 1) (aCons (TF.e2 (eVar 2) (TF.e1 (eVar 3) dLen) dAddA) aNil)))) dAddA) [x0, some (hsD hs), some (.int row), some (.tuple (mkD row B)), x4, x5, x6, x7, some (ssD b), some (.int (pre.length : Nat)), none, none] = some (.nx [x0, some (hsD hs), some (.int row), some (.tuple (mkD row (B ++ mkss hs b))), x4, x5, x6, x7, some (ssD b), some (.int (pre.length : Nat)), none, none]) := fun B hB => by
      refine (set_of (i := 3) (e2_of rfl (y := .tuple (mkD (row + (B.length : Nat)) (mkss hs b))) ?_ (d := some (.tuple (mkD row (B ++ mkss hs b)))) ?_)).trans rfl
      · rw [eCall_ev, aCons_ev, aCons_ev, aCons_ev, len1 B _ rfl rfl]
        exact hb _
      · rw [addT (by rw [mkD_length, mkD_length]; omega), mkD_append]
    by_cases hp : 0 < pre.length
    · rw [if_pos hp, ← List.append_assoc]
      refine seq_nx (ρ' := [x0, some (hsD hs), some (.int row), some (.tuple (mkD row (A ++ [Mk.line]))), x4, x5, x6, x7, some (ssD b), some (.int (pre.length : Nat)), none, none]) (if_t (e2_of rfl rfl (by rw [dGt_int]; exact congrArg some (decide_eq_true (by omega)))) ?_) (last _ (by rw [List.length_append, List.length_singleton]; omega))
      refine (set_of (i := 3) (e2_of rfl (tup1 (tup2 rfl (len1 A _ rfl rfl))) (d := some (.tuple (mkD row (A ++ [Mk.line])))) ?_)).trans rfl
      rw [addT (by rw [mkD_length]; simp; omega), mkD_snoc]; rfl
    · rw [if_neg hp, List.nil_append]
      exact seq_nx (if_n (e2_of rfl rfl (by rw [dGt_int]; exact congrArg some (decide_eq_false (by omega))))) (last _ (by omega)))
  simpa [jps] using h
theorem cut_pts (x : TK.Step) : ∃ y, dSl (sD x) (some 1) none = some y ∧ ((kindS x == "choice") = false → y = .tuple ((pts x).map ssD) ∨ isTell x = true) ∧ ((kindS x == "choice") = true → dIx (sD x) (.int 1) = some (.tuple ((pts x).map ssD))) := by
  have q1 : (("tell" : Str) == "choice") = false := by decide
  have q2 : (("choice" : Str) == "choice") = true := by decide
  have q3 : (("round" : Str) == "choice") = false := by decide
  have q4 : (("both" : Str) == "choice") = false := by decide
  cases x with
  | tell a b w => exact ⟨_, by rw [sD_tell, dSl_tup, cutD_from1], fun _ => .inr rfl, fun h => by rw [show kindS (.tell a b w) = "tell" from rfl, q1] at h; cases h⟩
  | choice bs => exact ⟨.tuple [.tuple (bs.map ssD)], by rw [sD_choice, dSl_tup, cutD_from1], fun h => (by rw [show kindS (.choice bs) = "choice" from rfl, q2] at h; cases h), fun _ => by rw [sD_choice]; simp [pts]⟩
  | round l => exact ⟨.tuple ((pts (.round l)).map ssD), by rw [sD_round, dSl_tup, cutD_from1]; rfl, fun _ => .inl rfl, fun h => by rw [show kindS (.round l) = "round" from rfl, q3] at h; cases h⟩
  | both l m => exact ⟨.tuple ((pts (.both l m)).map ssD), by rw [sD_both, dSl_tup, cutD_from1]; rfl, fun _ => .inl rfl, fun h => by rw [show kindS (.both l m) = "both" from rfl, q4] at h; cases h⟩
theorem lay_body {r : List PyData → Option PyData} {n : Nat} {hs : List Str} (hr : ∀ s : Steps, deps s < n → deps s ≤ 20 → hgts s ≤ 100000 → InH hs s → ∀ row : Int, r [ssD s, hsD hs, .int row] = some (.tuple (mkD row (mkss hs s)))) (h1s : 1 ≤ hs.length) (s : Steps) (hd : deps s ≤ n) (hn : deps s ≤ 20) (hh : hgts s ≤ 100000) (hi : InH hs s) (row : Int) :
    runF 12 (f_law_lay r) [ssD s, hsD hs, .int row] = some (.tuple (mkD row (mkss hs s))) := by
  have h := forGo_map (e := sD) (tg := g1 4) (body := b_law_lay_4 r) (ks := [4, 5, 6, 7, 8, 9, 10, 11]) (fun pre => [some (ssD s), some (hsD hs), some (.int row), some (.tuple (mkD row (mkss hs pre))), none, none, none, none, none, none, none, none]) s (fun pre x post hx => by
    have hl : (mkss hs pre).length + (mks1 hs x).length ≤ 200000 := by
      have := mkss_len hs s
      rw [hx, mkss_append] at this
      have e : mkss hs (x :: post) = mks1 hs x ++ mkss hs post := by simp [mkss]
      rw [e] at this
      simp only [List.length_append] at this
      rw [← hx] at this
      omega
    have hxs : x ∈ s := by rw [hx]; simp
    have hdx : dep x ≤ n := deps_le.mp hd x hxs
    have hdx2 : dep x ≤ 20 := deps_le.mp hn x hxs
    have hgx : hgt x ≤ 100000 := Nat.le_trans (hgts_mem hxs) hh
    have hix := hi.sub hxs
    rw [mkss_snoc]
    generalize mkss hs pre = A at hl ⊢
    have hk := kind_at x
    have len1 : ∀ (B : List Mk) (ρ : Rho), eVar 3 ρ = some (.tuple (mkD row B)) → eVar 2 ρ = some (.int row) → TF.e2 (eVar 2) (TF.e1 (eVar 3) dLen) dAddA ρ = some (.int (row + (B.length : Nat))) := fun B ρ h3 h2 => e2_of h2 (e1_of h3 (by rw [dLen_tup, mkD_length])) dAddA_int
    have s5 : fSet 5 (TF.e2 (eVar 2) (TF.e1 (eVar 3) dLen) dAddA) [some (ssD s), some (hsD hs), some (.int row), some (.tuple (mkD row A)), some (sD x), none, none, none, none, none, none, none] = some (.nx [some (ssD s), some (hsD hs), some (.int row), some (.tuple (mkD row A)), some (sD x), some (.int (row + (A.length : Nat))), none, none, none, none, none, none]) := set_of (i := 5) (ρ := [some (ssD s), some (hsD hs), some (.int row), some (.tuple (mkD row A)), some (sD x), none, none, none, none, none, none, none]) (len1 A _ rfl rfl)
    have kt : ∀ (y : Str) (b : Bool) (ρ : Rho), (kindS x == y) = b → eVar 4 ρ = some (sD x) → TF.e2 (TF.e2 (eVar 4) (eC (.int 0)) dIx) (eC (.str y)) dEq ρ = some b := fun y b ρ hb h4 => e2_of (e2_of h4 rfl hk) rfl (by rw [dEq_str, hb])
    cases ht : isTell x with
    | true =>
      cases x with
      | tell a b w =>
        obtain ⟨h1, h2⟩ := hix (a, b, w) (by rw [lts1_tell]; simp)
        rw [mks1_tell] at hl ⊢
        have s10 : fSet 10 (eTup (aCons (TF.e2 (eVar 1) (TF.e2 (eVar 4) (eC (.int 1)) dIx) dIndexT) (aCons (TF.e2 (eVar 1) (TF.e2 (eVar 4) (eC (.int 2)) dIx) dIndexT) aNil))) [some (ssD s), some (hsD hs), some (.int row), some (.tuple (mkD row A)), some (sD (.tell a b w)), some (.int (row + (A.length : Nat))), none, none, none, none, none, none] = some (.nx [some (ssD s), some (hsD hs), some (.int row), some (.tuple (mkD row A)), some (sD (.tell a b w)), some (.int (row + (A.length : Nat))), none, none, none, none, some (.tuple [.int (hs.idxOf a : Nat), .int (hs.idxOf b : Nat)]), none]) :=
          set_of (i := 10) (ρ := [some (ssD s), some (hsD hs), some (.int row), some (.tuple (mkD row A)), some (sD (.tell a b w)), some (.int (row + (A.length : Nat))), none, none, none, none, none, none]) (tup2 (e2_of rfl (e2_of rfl rfl (by rw [sD_tell]; simp)) (dIx_hs h1)) (e2_of rfl (e2_of rfl rfl (by rw [sD_tell]; simp)) (dIx_hs h2)))
        have h3 : dIx (sD (.tell a b w)) (.int 3) = some (.str w) := by rw [sD_tell]; simp
        have s3 : fSet 3 (TF.e2 (eVar 3) (eTup (aCons (TF.e2 (TF.e2 (eTup (aCons (eC (.str "letter")) (aCons (eVar 5) aNil))) (eVar 10) dAddA) (eTup (aCons (TF.e2 (eVar 4) (eC (.int 3)) dIx) aNil)) dAddA) aNil)) dAddA) [some (ssD s), some (hsD hs), some (.int row), some (.tuple (mkD row A)), some (sD (.tell a b w)), some (.int (row + (A.length : Nat))), none, none, none, none, some (.tuple [.int (hs.idxOf a : Nat), .int (hs.idxOf b : Nat)]), none] = some (.nx [some (ssD s), some (hsD hs), some (.int row), some (.tuple (mkD row (A ++ [Mk.letter (hs.idxOf a) (hs.idxOf b) w]))), some (sD (.tell a b w)), some (.int (row + (A.length : Nat))), none, none, none, none, some (.tuple [.int (hs.idxOf a : Nat), .int (hs.idxOf b : Nat)]), none]) := by
          refine (set_of (i := 3) (e2_of rfl (tup1 (e2_of (e2_of (tup2 rfl rfl) rfl (addT (by simp))) (tup1 (e2_of rfl rfl h3)) (addT (by simp)))) (d := some (.tuple (mkD row (A ++ [Mk.letter (hs.idxOf a) (hs.idxOf b) w])))) ?_)).trans rfl
          rw [addT (by rw [mkD_length]; simp at hl ⊢; omega), mkD_snoc]; rfl
        exact ⟨_, _, rfl, .inr (seq_nx s5 (seq_ct (if_t (kt "tell" true _ (show (("tell" : Str) == "tell") = true by decide) rfl) (seq_nx s10 (seq_nx s3 rfl))))), rfl⟩
      | _ => cases ht
    | false =>
      rw [mks1_parts hs x ht] at hl ⊢
      obtain ⟨y, c1, c2, c3⟩ := cut_pts x
      have s6 : fSet 6 (eSl (eVar 4) (ePart (eC (.int 1))) eNoPart dSl) [some (ssD s), some (hsD hs), some (.int row), some (.tuple (mkD row A)), some (sD x), some (.int (row + (A.length : Nat))), none, none, none, none, none, none] = some (.nx [some (ssD s), some (hsD hs), some (.int row), some (.tuple (mkD row A)), some (sD x), some (.int (row + (A.length : Nat))), some y, none, none, none, none, none]) := set_of (i := 6) (ρ := [some (ssD s), some (hsD hs), some (.int row), some (.tuple (mkD row A)), some (sD x), some (.int (row + (A.length : Nat))), none, none, none, none, none, none]) (slc rfl rfl rfl c1)
      have s6b : fIf (TF.e2 (TF.e2 (eVar 4) (eC (.int 0)) dIx) (eC (.str "choice")) dEq) (fSet 6 (TF.e2 (eVar 4) (eC (.int 1)) dIx)) fNil [some (ssD s), some (hsD hs), some (.int row), some (.tuple (mkD row A)), some (sD x), some (.int (row + (A.length : Nat))), some y, none, none, none, none, none] = some (.nx [some (ssD s), some (hsD hs), some (.int row), some (.tuple (mkD row A)), some (sD x), some (.int (row + (A.length : Nat))), some (.tuple ((pts x).map ssD)), none, none, none, none, none]) := by
        cases hb : (kindS x == "choice") with
        | true => exact if_t (kt "choice" true _ hb rfl) (set_of (i := 6) (ρ := [some (ssD s), some (hsD hs), some (.int row), some (.tuple (mkD row A)), some (sD x), some (.int (row + (A.length : Nat))), some y, none, none, none, none, none]) (e2_of rfl rfl (c3 hb)))
        | false =>
          rcases c2 hb with rfl | q
          · exact if_n (kt "choice" false _ hb rfl)
          · rw [ht] at q; cases q
      have s7 : fSet 7 (eL (eLst aNil)) [some (ssD s), some (hsD hs), some (.int row), some (.tuple (mkD row A)), some (sD x), some (.int (row + (A.length : Nat))), some (.tuple ((pts x).map ssD)), none, none, none, none, none] = some (.nx [some (ssD s), some (hsD hs), some (.int row), some (.tuple (mkD row A)), some (sD x), some (.int (row + (A.length : Nat))), some (.tuple ((pts x).map ssD)), some (.list []), none, none, none, none]) := rfl
      have hll : (lts1 x).length ≤ 100000 := Nat.le_trans (lts1_len x) hgx
      have hlx : lts1 x = ((pts x).map lts).flatten := by
        rw [lts1_pts]
        cases x <;> first | rfl | cases ht
      have hlan := forGo_map (e := ssD) (tg := g1 8) (body := b_law_lay_2 r) (ks := [8, 11]) (fun pre' => [some (ssD s), some (hsD hs), some (.int row), some (.tuple (mkD row A)), some (sD x), some (.int (row + (A.length : Nat))), some (.tuple ((pts x).map ssD)), some (.list ((idl hs ((pre'.map lts).flatten)).map PyData.int)), none, none, none, none]) (pts x) (fun pre' b post' hx' => by
        have hb : b ∈ pts x := by rw [hx']; simp
        have hin := letters_top (s := b) (by have := pts_dep hdx2 b hb; omega) (by have := pts_hgt' hb; omega)
        have hlb : ((pre'.map lts).flatten).length + (lts b).length ≤ 100000 := by
          rw [hlx, hx'] at hll
          simp only [List.map_append, List.flatten_append, List.length_append, List.map_cons, List.flatten_cons] at hll
          omega
        have h1 := lay_lanes (r := r) (hs := hs) (x0 := some (ssD s)) (x2 := some (.int row)) (x3 := some (.tuple (mkD row A))) (x4 := some (sD x)) (x5 := some (.int (row + (A.length : Nat)))) (x6 := some (.tuple ((pts x).map ssD))) (x8 := some (ssD b)) (x9 := none) (x10 := none) (lts b) (InH.part hix hb) (idl hs ((pre'.map lts).flatten)) (by rw [idl_length]; omega)
        refine ⟨_, [some (ssD s), some (hsD hs), some (.int row), some (.tuple (mkD row A)), some (sD x), some (.int (row + (A.length : Nat))), some (.tuple ((pts x).map ssD)), some (.list ((idl hs (((pre' ++ [b]).map lts).flatten)).map PyData.int)), some (ssD b), none, none, none], rfl, .inl ?_, rfl⟩
        have e : ((pre' ++ [b]).map lts).flatten = (pre'.map lts).flatten ++ lts b := by simp
        rw [e, idl_append]
        unfold b_law_lay_2
        rw [fFor_ev, e1_of (call1 rfl hin) dWalk_lst]
        exact h1)
      have s8 : fFor (TF.e1 (eVar 6) dWalk) (g1 8) [8, 11] (b_law_lay_2 r) [some (ssD s), some (hsD hs), some (.int row), some (.tuple (mkD row A)), some (sD x), some (.int (row + (A.length : Nat))), some (.tuple ((pts x).map ssD)), some (.list []), none, none, none, none] = some (.nx [some (ssD s), some (hsD hs), some (.int row), some (.tuple (mkD row A)), some (sD x), some (.int (row + (A.length : Nat))), some (.tuple ((pts x).map ssD)), some (.list ((idl hs (lts1 x)).map PyData.int)), none, none, none, none]) := by
        rw [hlx, fFor_ev, e1_of (rfl : eVar 6 _ = some (PyData.tuple ((pts x).map ssD))) dWalk_tup]
        exact hlan
      -- the lanes
      obtain ⟨L, hL1, hL2, hL3⟩ : ∃ L : List Int, fIf (TF.e2 (eVar 7) (eL (eLst aNil)) dEq) (fSet 7 (eL (eLst (aCons (eC (.int 0)) (aCons (TF.e2 (TF.e1 (eVar 1) dLen) (eC (.int 1)) dSub) aNil))))) fNil [some (ssD s), some (hsD hs), some (.int row), some (.tuple (mkD row A)), some (sD x), some (.int (row + (A.length : Nat))), some (.tuple ((pts x).map ssD)), some (.list ((idl hs (lts1 x)).map PyData.int)), none, none, none, none] = some (.nx [some (ssD s), some (hsD hs), some (.int row), some (.tuple (mkD row A)), some (sD x), some (.int (row + (A.length : Nat))), some (.tuple ((pts x).map ssD)), some (.list (L.map PyData.int)), none, none, none, none]) ∧ dMin (.list (L.map PyData.int)) = some (.int (lan hs (lts1 x)).1) ∧ dMax (.list (L.map PyData.int)) = some (.int (lan hs (lts1 x)).2) := by
        have hteq : TF.e2 (eVar 7) (eL (eLst aNil)) dEq [some (ssD s), some (hsD hs), some (.int row), some (.tuple (mkD row A)), some (sD x), some (.int (row + (A.length : Nat))), some (.tuple ((pts x).map ssD)), some (.list ((idl hs (lts1 x)).map PyData.int)), none, none, none, none] = some (decide ((idl hs (lts1 x)).map PyData.int = [])) := e2_of rfl rfl (eq_nil (pl_ints _))
        unfold lan
        cases e : idl hs (lts1 x) with
        | nil =>
          rw [e] at hteq
          refine ⟨[0, (hs.length : Int) - 1], if_t hteq ?_, ?_, ?_⟩
          · have e1' : TF.e2 (TF.e1 (eVar 1) dLen) (eC (.int 1)) dSub [some (ssD s), some (hsD hs), some (.int row), some (.tuple (mkD row A)), some (sD x), some (.int (row + (A.length : Nat))), some (.tuple ((pts x).map ssD)), some (.list ((([] : List Int)).map PyData.int)), none, none, none, none] = some (.int ((hs.length : Int) - 1)) := e2_of (e1_of rfl (dLen_hs hs)) rfl (by rw [dSub_ev])
            exact (set_of (i := 7) (eL_of (lst2 rfl e1'))).trans rfl
          · rw [dMin_ints 0 [(hs.length : Int) - 1]]
            simp only [List.foldl_cons, List.foldl_nil]
            congr 2
            omega
          · rw [dMax_ints 0 [(hs.length : Int) - 1]]
            simp only [List.foldl_cons, List.foldl_nil]
            congr 2
            omega
        | cons m ns =>
          rw [e] at hteq
          exact ⟨m :: ns, if_n hteq, dMin_ints m ns, dMax_ints m ns⟩
      have hk4 : ∀ ρ : Rho, eVar 4 ρ = some (sD x) → TF.e2 (eVar 4) (eC (.int 0)) dIx ρ = some (.str (kindS x)) := fun ρ h => e2_of h rfl hk
      let HD := Mk.head (kindS x) (lan hs (lts1 x)).1 (lan hs (lts1 x)).2
      let LL : PyData := .list (L.map PyData.int)
      have s9 : fSet 3 (TF.e2 (eVar 3) (eTup (aCons (eTup (aCons (eC (.str "head")) (aCons (eVar 5) (aCons (TF.e2 (eVar 4) (eC (.int 0)) dIx) (aCons (TF.e1 (eVar 7) dMin) (aCons (TF.e1 (eVar 7) dMax) aNil)))))) aNil)) dAddA) [some (ssD s), some (hsD hs), some (.int row), some (.tuple (mkD row A)), some (sD x), some (.int (row + (A.length : Nat))), some (.tuple ((pts x).map ssD)), some LL, none, none, none, none] = some (.nx [some (ssD s), some (hsD hs), some (.int row), some (.tuple (mkD row (A ++ [HD]))), some (sD x), some (.int (row + (A.length : Nat))), some (.tuple ((pts x).map ssD)), some LL, none, none, none, none]) := by
        refine (set_of (i := 3) (e2_of rfl (tup1 (tup5 rfl rfl (hk4 _ rfl) (e1_of rfl hL2) (e1_of rfl hL3))) (d := some (.tuple (mkD row (A ++ [HD])))) ?_)).trans rfl
        rw [addT (by rw [mkD_length]; simp; omega), mkD_snoc]; rfl
      have hlen2 : (A ++ [HD]).length + (jps ((pts x).map (mkss hs))).length ≤ 900000 := by simp at hl ⊢; omega
      have hp := lay_parts (r := r) (hs := hs) (x0 := some (ssD s)) (x4 := some (sD x)) (x5 := some (.int (row + (A.length : Nat)))) (x6 := some (.tuple ((pts x).map ssD))) (x7 := some LL) row (A ++ [HD]) (pts x) (fun b hb row => hr b (pts_dep hdx b hb) (by have := pts_dep hdx2 b hb; omega) (by have := pts_hgt' hb; omega) (InH.part hix hb) row) hlen2
      have s10 : fFor (TF.e1 (eVar 6) dEnum) (g2 9 8) [8, 9] (b_law_lay_3 r) [some (ssD s), some (hsD hs), some (.int row), some (.tuple (mkD row (A ++ [HD]))), some (sD x), some (.int (row + (A.length : Nat))), some (.tuple ((pts x).map ssD)), some LL, none, none, none, none] = some (.nx [some (ssD s), some (hsD hs), some (.int row), some (.tuple (mkD row ((A ++ [HD]) ++ jps ((pts x).map (mkss hs))))), some (sD x), some (.int (row + (A.length : Nat))), some (.tuple ((pts x).map ssD)), some LL, none, none, none, none]) := by
        rw [fFor_ev, e1_of (rfl : eVar 6 _ = some (PyData.tuple ((pts x).map ssD))) dEnum_tup]
        exact hp
      have s11 : fSet 3 (TF.e2 (eVar 3) (eTup (aCons (eTup (aCons (eC (.str "foot")) (aCons (TF.e2 (eVar 2) (TF.e1 (eVar 3) dLen) dAddA) aNil))) aNil)) dAddA) [some (ssD s), some (hsD hs), some (.int row), some (.tuple (mkD row ((A ++ [HD]) ++ jps ((pts x).map (mkss hs))))), some (sD x), some (.int (row + (A.length : Nat))), some (.tuple ((pts x).map ssD)), some LL, none, none, none, none] = some (.nx [some (ssD s), some (hsD hs), some (.int row), some (.tuple (mkD row (A ++ HD :: (jps ((pts x).map (mkss hs)) ++ [Mk.foot])))), some (sD x), some (.int (row + (A.length : Nat))), some (.tuple ((pts x).map ssD)), some LL, none, none, none, none]) := by
        refine (set_of (i := 3) (e2_of rfl (tup1 (tup2 rfl (len1 _ _ rfl rfl))) (d := some (.tuple (mkD row (A ++ HD :: (jps ((pts x).map (mkss hs)) ++ [Mk.foot]))))) ?_)).trans rfl
        have ez : A ++ HD :: (jps ((pts x).map (mkss hs)) ++ [Mk.foot]) = ((A ++ [HD]) ++ jps ((pts x).map (mkss hs))) ++ [Mk.foot] := by simp
        rw [ez, addT (by rw [mkD_length, List.length_append]; simp at hlen2 ⊢; omega), mkD_snoc]; rfl
      exact ⟨_, _, rfl, .inl (seq_nx s5 (seq_nx (if_n (kt "tell" false _ (kind_ne ht) rfl)) (seq_nx s6 (seq_nx s6b (seq_nx s7 (seq_nx s8 (seq_nx hL1 (seq_nx s9 (seq_nx s10 s11))))))))), rfl⟩)
  refine run_of (seq_nx (ρ' := [some (ssD s), some (hsD hs), some (.int row), some (.tuple []), none, none, none, none, none, none, none, none]) rfl (seq_nx (ρ' := [some (ssD s), some (hsD hs), some (.int row), some (.tuple (mkD row (mkss hs s))), none, none, none, none, none, none, none, none]) ?_ (ret_of rfl)))
  rw [fFor_ev]
  exact h
theorem lay_ok {hs : List Str} (h1s : 1 ≤ hs.length) : ∀ (n : Nat) (s : Steps), deps s ≤ n → deps s ≤ 20 → hgts s ≤ 100000 → InH hs s → ∀ row : Int, m_law_lay (n + 1) [ssD s, hsD hs, .int row] = some (.tuple (mkD row (mkss hs s)))
  | 0, s, hd, hn, hh, hi, row => by rw [u_law_lay]; exact lay_body (n := 0) (fun s h => by omega) h1s s hd hn hh hi row
  | n + 1, s, hd, hn, hh, hi, row => by rw [u_law_lay]; exact lay_body (n := n + 1) (fun s h h2 hh hi row => lay_ok h1s n s (by omega) h2 hh hi row) h1s s hd hn hh hi row
/-! k40: the law's reader of marks, in plain terms -/
def mkS (k : Str) (ps : List Steps) : Option TK.Step :=
  if k = "choice" then (if 1 ≤ ps.length ∧ ps.length ≤ 3 then some (.choice ps) else none)
  else if k = "round" then (match ps with
    | [s] => some (.round s)
    | _ => none)
  else (match ps with
    | [s, t] => some (.both s t)
    | _ => none)
def prtM (rec : List MkR → Option (Steps × List MkR)) : Nat → List Steps → List MkR → Option (List Steps × List MkR)
  | 0, _, _ => none
  | m + 1, ps, ms => match ms with
    | (_, .line) :: r => (match rec r with
      | none => none
      | some (p, r') => prtM rec m (ps ++ [p]) r')
    | ms => some (ps, ms)
def endM (deep : Nat) (k : Str) : Option (List Steps × List MkR) → Option (TK.Step × List MkR)
  | some (ps, (_, .foot) :: r) => if deep = 3 then none else (mkS k ps).map (·, r)
  | _ => none
def tell1 : Option Str → Option Str → Str → Option TK.Step
  | some x, some y, w => some (.tell x y w)
  | _, _, _ => none
def stsM (hs : List Str) (deep : Nat) (rec : List MkR → Option (Steps × List MkR)) : Nat → Steps → List MkR → Option (Steps × List MkR)
  | 0, _, _ => none
  | m + 1, acc, ms => match ms with
    | (_, .letter a b w) :: r => (match tell1 (lane hs a) (lane hs b) w with
      | none => none
      | some x => stsM hs deep rec m (acc ++ [x]) r)
    | (_, .head k _ _) :: r => (match endM deep k (prtM rec wf [] ((0, .line) :: r)) with
      | none => none
      | some (x, r') => stsM hs deep rec m (acc ++ [x]) r')
    | ms => some (acc, ms)
def finM : Option (Steps × List MkR) → Option (Steps × List MkR)
  | some (s, r) => if 4 < s.length then none else some (s, r)
  | none => none
def lsM (hs : List Str) : Nat → Nat → List MkR → Option (Steps × List MkR)
  | 0, deep, ms => finM (stsM hs deep (fun _ => none) wf [] ms)
  | n + 1, deep, ms => finM (stsM hs deep (lsM hs n (deep + 1)) wf [] ms)
/-- marks that the law makes -/
def Om : MkR → Prop
  | (_, .letter _ _ w) => IsNm w
  | (_, .head k _ _) => k = "choice" ∨ k = "round" ∨ k = "both"
  | _ => True
def OkMs (ms : List MkR) : Prop := ∀ m ∈ ms, Om m
/-- heads, feet -/
def hdN : List MkR → Int
  | [] => 0
  | (_, .head _ _ _) :: r => 1 + hdN r
  | (_, .foot) :: r => -1 + hdN r
  | _ :: r => hdN r
theorem hdN_app : ∀ p q : List MkR, hdN (p ++ q) = hdN p + hdN q
  | [], q => by simp [hdN]
  | (_, .head _ _ _) :: p, q => by
    have := hdN_app p q
    simp only [List.cons_append, hdN, this]; omega
  | (_, .foot) :: p, q => by
    have := hdN_app p q
    simp only [List.cons_append, hdN, this]; omega
  | (_, .letter _ _ _) :: p, q => by
    have := hdN_app p q
    simp only [List.cons_append, hdN, this]
  | (_, .line) :: p, q => by
    have := hdN_app p q
    simp only [List.cons_append, hdN, this]
/-- never more than so many open -/
def Bal (n : Int) (ms : List MkR) : Prop := ∀ p q, ms = p ++ q → hdN p ≤ n
theorem Bal.suf {n : Int} {p q : List MkR} (h : Bal n (p ++ q)) : Bal (n - hdN p) q := fun a b e => by
  have := h (p ++ a) b (by rw [e, List.append_assoc])
  rw [hdN_app] at this; omega
theorem Bal.pos {n : Int} {ms : List MkR} (h : Bal n ms) : 0 ≤ n := by simpa [hdN] using h [] ms rfl
theorem OkMs.suf {p q : List MkR} (h : OkMs (p ++ q)) : OkMs q := fun m hm => h m (by simp [hm])
theorem mkS_inv {k : Str} {ps : List Steps} {x : TK.Step} (hk : k = "choice" ∨ k = "round" ∨ k = "both") (h : mkS k ps = some x) : isTell x = false ∧ pts x = ps ∧ kindS x = k ∧ ∀ hs d, (∀ p ∈ ps, p.length ≤ 4 ∧ ∀ y ∈ p, VT hs d y) → VT hs (d + 1) x := by
  unfold mkS at h
  rcases hk with rfl | rfl | rfl
  · rw [if_pos rfl] at h
    by_cases hn : 1 ≤ ps.length ∧ ps.length ≤ 3
    · rw [if_pos hn] at h; cases h
      exact ⟨rfl, rfl, rfl, fun hs d hp => by unfold VT; exact ⟨hn.1, hn.2, hp⟩⟩
    · rw [if_neg hn] at h; cases h
  · rw [if_neg (by decide), if_pos rfl] at h
    match ps, h with
    | [s], h =>
      cases h
      exact ⟨rfl, rfl, rfl, fun hs d hp => by unfold VT; exact hp s (by simp)⟩
    | [], h => cases h
    | _ :: _ :: _, h => cases h
  · rw [if_neg (by decide), if_neg (by decide)] at h
    match ps, h with
    | [s, t], h =>
      cases h
      exact ⟨rfl, rfl, rfl, fun hs d hp => by unfold VT; exact ⟨hp s (by simp), hp t (by simp)⟩⟩
    | [], h => cases h
    | [_], h => cases h
    | _ :: _ :: _ :: _, h => cases h
/-- what is read -/
def SndM (hs : List Str) (d : Nat) (rec : List MkR → Option (Steps × List MkR)) : Prop := ∀ ms s r, OkMs ms → rec ms = some (s, r) → s.length ≤ 4 ∧ (∀ x ∈ s, VT hs d x) ∧ ∃ u, ms = u ++ r ∧ hdN u = 0
theorem prtM_snd {hs : List Str} {d : Nat} {rec : List MkR → Option (Steps × List MkR)} (hr : SndM hs d rec) : ∀ (m : Nat) (ps : List Steps) (ms : List MkR) (qs : List Steps) (r : List MkR), OkMs ms → (∀ p ∈ ps, p.length ≤ 4 ∧ ∀ y ∈ p, VT hs d y) → prtM rec m ps ms = some (qs, r) → (∀ p ∈ qs, p.length ≤ 4 ∧ ∀ y ∈ p, VT hs d y) ∧ ∃ u, ms = u ++ r ∧ hdN u = 0
  | 0, _, _, _, _, _, _, h => by cases h
  | m + 1, ps, ms, qs, r, ho, hp, h => by
    unfold prtM at h
    split at h
    · rename_i row t
      cases es : rec t with
      | none => rw [es] at h; cases h
      | some pr =>
        obtain ⟨p, r1⟩ := pr
        rw [es] at h
        have hot : OkMs t := OkMs.suf (p := [(row, .line)]) ho
        obtain ⟨h1, h2, u, h3, h4⟩ := hr t p r1 hot es
        obtain ⟨g1, v, g2, g3⟩ := prtM_snd hr m (ps ++ [p]) r1 qs r (OkMs.suf (p := u) (by rw [← h3]; exact hot)) (fun q hq => by
          rcases List.mem_append.mp hq with hq | hq
          · exact hp q hq
          · have : q = p := by simpa using hq
            subst this; exact ⟨h1, h2⟩) h
        refine ⟨g1, (row, .line) :: (u ++ v), by rw [h3, g2]; simp, ?_⟩
        show hdN (u ++ v) = 0
        rw [hdN_app]; omega
    · cases h
      exact ⟨hp, [], rfl, rfl⟩
theorem lane_mem {hs : List Str} {z : Int} {x : Str} (h : lane hs z = some x) : x ∈ hs := by
  unfold lane at h
  split at h
  · exact List.mem_of_getElem? h
  · cases h
theorem stsM_snd {hs : List Str} {deep d d' : Nat} {rec : List MkR → Option (Steps × List MkR)} (hr : SndM hs d' rec) (hd : deep = 3 ∨ (∀ ms, rec ms = none) ∨ d = d' + 1) : ∀ (m : Nat) (acc : Steps) (ms : List MkR) (s : Steps) (r : List MkR), OkMs ms → (∀ x ∈ acc, VT hs d x) → stsM hs deep rec m acc ms = some (s, r) → (∀ x ∈ s, VT hs d x) ∧ ∃ u, ms = u ++ r ∧ hdN u = 0
  | 0, _, _, _, _, _, _, h => by cases h
  | m + 1, acc, ms, s, r, ho, hv, h => by
    unfold stsM at h
    split at h
    · rename_i row a b w t
      cases ea : lane hs a with
      | none => rw [ea] at h; cases h
      | some x =>
        cases eb : lane hs b with
        | none => rw [ea, eb] at h; cases h
        | some y =>
          rw [ea, eb] at h
          dsimp only [tell1] at h
          have hw : IsNm w := ho (row, .letter a b w) (by simp)
          obtain ⟨g1, u, g2, g3⟩ := stsM_snd hr hd m (acc ++ [.tell x y w]) t s r (OkMs.suf (p := [(row, .letter a b w)]) ho) (fun z hz => by
            rcases List.mem_append.mp hz with hz | hz
            · exact hv z hz
            · have : z = .tell x y w := by simpa using hz
              subst this
              cases d <;> (unfold VT; exact ⟨lane_mem ea, lane_mem eb, hw⟩)) h
          exact ⟨g1, (row, .letter a b w) :: u, by rw [g2]; rfl, g3⟩
    · rename_i row k lo hi t
      cases ee : endM deep k (prtM rec wf [] ((0, .line) :: t)) with
      | none => rw [ee] at h; cases h
      | some xr =>
        obtain ⟨x, r1⟩ := xr
        rw [ee] at h
        have hk : k = "choice" ∨ k = "round" ∨ k = "both" := ho (row, .head k lo hi) (by simp)
        have hot : OkMs ((0, .line) :: t) := fun z hz => by
          rcases List.mem_cons.mp hz with rfl | hz
          · trivial
          · exact ho z (by simp [hz])
        cases ep : prtM rec wf [] ((0, .line) :: t) with
        | none => rw [ep] at ee; cases ee
        | some qr =>
          obtain ⟨qs, r2⟩ := qr
          rw [ep] at ee
          obtain ⟨g1, u, g2, g3⟩ := prtM_snd hr wf [] _ qs r2 hot (fun p hp => absurd hp (by simp)) ep
          unfold endM at ee
          split at ee
          · rename_i ps row2 r3 e3
            cases e3
            by_cases hd3 : deep = 3
            · rw [if_pos hd3] at ee; cases ee
            · rw [if_neg hd3] at ee
              cases em : mkS k qs with
              | none => rw [em] at ee; cases ee
              | some y =>
                rw [em] at ee
                cases ee
                obtain ⟨m1, m2, m3, m4⟩ := mkS_inv hk em
                have hdd : d = d' + 1 := by
                  rcases hd with h | h | h
                  · exact absurd h hd3
                  · have : prtM rec wf [] ((0, .line) :: t) = none := by
                      show prtM rec (99999 + 1) [] ((0, .line) :: t) = none
                      unfold prtM
                      simp [h]
                    rw [this] at ep; cases ep
                  · exact h
                have hx : VT hs d x := by rw [hdd]; exact m4 hs d' g1
                obtain ⟨f1, v, f2, f3⟩ := stsM_snd hr hd m (acc ++ [x]) r1 s r (by
                  have e : OkMs (u ++ (row2, Mk.foot) :: r1) := by rw [← g2]; exact hot
                  exact OkMs.suf (p := [(row2, .foot)]) e.suf) (fun z hz => by
                  rcases List.mem_append.mp hz with hz | hz
                  · exact hv z hz
                  · have : z = x := by simpa using hz
                    subst this; exact hx) h
                cases u with
                | nil => simp at g2
                | cons u0 u =>
                  rw [List.cons_append, List.cons.injEq] at g2
                  obtain ⟨rfl, g2⟩ := g2
                  refine ⟨f1, (row, .head k lo hi) :: (u ++ (row2, .foot) :: v), by rw [g2, f2]; simp, ?_⟩
                  have g3 : hdN u = 0 := g3
                  show 1 + hdN (u ++ (row2, .foot) :: v) = 0
                  rw [hdN_app]
                  show 1 + (hdN u + (-1 + hdN v)) = 0
                  omega
          · cases ee
    · cases h
      exact ⟨hv, [], rfl, rfl⟩
def vd (n deep : Nat) : Nat := if deep ≤ 3 then 3 - deep else n
theorem lsM_snd {hs : List Str} : ∀ (n deep : Nat), SndM hs (vd n deep) (lsM hs n deep)
  | 0, deep => fun ms s r ho h => by
    unfold lsM at h
    cases es : stsM hs deep (fun _ => none) wf [] ms with
    | none => rw [es] at h; cases h
    | some sr =>
      obtain ⟨s', r'⟩ := sr
      rw [es] at h
      obtain ⟨g1, g2⟩ := stsM_snd (d := vd 0 deep) (d' := 0) (rec := fun _ => none) (fun _ _ _ _ h => by cases h) (.inr (.inl fun _ => rfl)) wf [] ms s' r' ho (fun x hx => absurd hx (by simp)) es
      unfold finM at h
      dsimp only at h
      by_cases hl : 4 < s'.length
      · rw [if_pos hl] at h; cases h
      · rw [if_neg hl] at h; cases h; exact ⟨by omega, g1, g2⟩
  | n + 1, deep => fun ms s r ho h => by
    unfold lsM at h
    cases es : stsM hs deep (lsM hs n (deep + 1)) wf [] ms with
    | none => rw [es] at h; cases h
    | some sr =>
      obtain ⟨s', r'⟩ := sr
      rw [es] at h
      obtain ⟨g1, g2⟩ := stsM_snd (d := vd (n + 1) deep) (d' := vd n (deep + 1)) (lsM_snd n (deep + 1)) (by
        by_cases h3 : deep = 3
        · exact .inl h3
        · refine .inr (.inr ?_)
          unfold vd
          split <;> split <;> omega) wf [] ms s' r' ho (fun x hx => absurd hx (by simp)) es
      unfold finM at h
      dsimp only at h
      by_cases hl : 4 < s'.length
      · rw [if_pos hl] at h; cases h
      · rw [if_neg hl] at h; cases h; exact ⟨by omega, g1, g2⟩
/-! .. and whole -/
def StopM (r : List MkR) : Prop := r = [] ∨ ∃ p r', r = p :: r' ∧ isLH p.2 = false
theorem mkS_pts {hs : List Str} {d : Nat} {x : TK.Step} (h : VT hs d x) (ht : isTell x = false) : mkS (kindS x) (pts x) = some x := by
  cases x with
  | tell a b w => cases ht
  | choice bs =>
    have h' : 1 ≤ bs.length ∧ bs.length ≤ 3 := by
      cases d with
      | zero => unfold VT at h; exact h.elim
      | succ d => unfold VT at h; exact ⟨h.1, h.2.1⟩
    show (if ("choice" : Str) = "choice" then (if 1 ≤ bs.length ∧ bs.length ≤ 3 then some (TK.Step.choice bs) else none) else _) = _
    rw [if_pos rfl, if_pos h']
  | round s =>
    show (if ("round" : Str) = "choice" then _ else if ("round" : Str) = "round" then _ else _) = _
    rw [if_neg (by decide), if_pos rfl]; rfl
  | both s t =>
    show (if ("both" : Str) = "choice" then _ else if ("both" : Str) = "round" then _ else _) = _
    rw [if_neg (by decide), if_neg (by decide)]; rfl
theorem map_split {u : List MkR} {a b : List Mk} (h : u.map (·.2) = a ++ b) : ∃ v w, u = v ++ w ∧ v.map (·.2) = a ∧ w.map (·.2) = b := by
  obtain ⟨v, w, h1, h2, h3⟩ := List.map_eq_append_iff.mp h
  exact ⟨v, w, h1, h2, h3⟩
theorem map_cons {u : List MkR} {m : Mk} {b : List Mk} (h : u.map (·.2) = m :: b) : ∃ row w, u = (row, m) :: w ∧ w.map (·.2) = b := by
  cases u with
  | nil => simp at h
  | cons p w =>
    obtain ⟨row, m'⟩ := p
    simp only [List.map_cons, List.cons.injEq] at h
    obtain ⟨rfl, h⟩ := h
    exact ⟨row, w, rfl, h⟩
theorem prtM_rt {hs : List Str} {d : Nat} {rec : List MkR → Option (Steps × List MkR)} (hr : ∀ (s : Steps), s.length ≤ 4 → (∀ x ∈ s, VT hs d x) → ∀ u r, u.map (·.2) = mkss hs s → StopM r → rec (u ++ r) = some (s, r)) :
    ∀ (qs : List Steps) (m : Nat) (ps : List Steps) (u r : List MkR) (row : Int), (∀ q ∈ qs, q.length ≤ 4 ∧ ∀ x ∈ q, VT hs d x) → qs.length < m → u.map (·.2) = (qs.map fun q => Mk.line :: mkss hs q).flatten → prtM rec m ps (u ++ (row, .foot) :: r) = some (ps ++ qs, (row, .foot) :: r)
  | [], 0, _, _, _, _, _, h, _ => by simp at h
  | [], m + 1, ps, u, r, row, _, _, hu => by
    have : u = [] := by simpa using hu
    subst this
    rw [List.nil_append]
    unfold prtM
    simp
  | q :: qs, 0, _, _, _, _, _, h, _ => by simp at h
  | q :: qs, m + 1, ps, u, r, row, hv, hm, hu => by
    rw [List.map_cons, List.flatten_cons, List.cons_append] at hu
    obtain ⟨row1, w, rfl, hw⟩ := map_cons hu
    obtain ⟨v, w2, rfl, h1, h2⟩ := map_split hw
    have hs1 : StopM (w2 ++ (row, .foot) :: r) := by
      cases qs with
      | nil =>
        have : w2 = [] := by simpa using h2
        subst this
        exact .inr ⟨(row, .foot), r, rfl, rfl⟩
      | cons q2 qs =>
        rw [List.map_cons, List.flatten_cons, List.cons_append] at h2
        obtain ⟨row2, w3, rfl, _⟩ := map_cons h2
        exact .inr ⟨(row2, .line), _, rfl, rfl⟩
    have h3 := hr q (hv q (by simp)).1 (hv q (by simp)).2 v _ h1 hs1
    rw [List.cons_append, List.append_assoc]
    unfold prtM
    dsimp only
    rw [h3]
    dsimp only
    rw [prtM_rt hr qs m (ps ++ [q]) w2 r row (fun q hq => hv q (by simp [hq])) (by simp at hm; omega) h2]
    simp
theorem stsM_rt {hs : List Str} {deep d : Nat} (hd3 : deep + d ≤ 3) {rec : List MkR → Option (Steps × List MkR)} (hr : ∀ d', d = d' + 1 → ∀ (s : Steps), s.length ≤ 4 → (∀ x ∈ s, VT hs d' x) → ∀ u r, u.map (·.2) = mkss hs s → StopM r → rec (u ++ r) = some (s, r)) :
    ∀ (s : Steps) (m : Nat) (acc : Steps) (u r : List MkR), (∀ x ∈ s, VT hs d x) → s.length < m → u.map (·.2) = mkss hs s → StopM r → stsM hs deep rec m acc (u ++ r) = some (acc ++ s, r)
  | [], 0, _, _, _, _, h, _, _ => by simp at h
  | [], m + 1, acc, u, r, _, _, hu, hst => by
    have : u = [] := by simpa [mkss] using hu
    subst this
    rw [List.nil_append]
    unfold stsM
    rcases hst with rfl | ⟨p, r', rfl, hp⟩
    · simp
    · obtain ⟨row, k⟩ := p
      cases k with
      | letter => cases hp
      | head => cases hp
      | line => simp
      | foot => simp
  | x :: s, 0, _, _, _, _, h, _, _ => by simp at h
  | x :: s, m + 1, acc, u, r, hv, hm, hu, hst => by
    have e : mkss hs (x :: s) = mks1 hs x ++ mkss hs s := by simp [mkss]
    rw [e] at hu
    obtain ⟨v, w, rfl, h1, h2⟩ := map_split hu
    have hx := hv x (by simp)
    have ih := fun acc => stsM_rt hd3 hr s m acc w r (fun y hy => hv y (by simp [hy])) (by simp at hm; omega) h2 hst
    cases ht : isTell x with
    | true =>
      cases x with
      | tell a b c =>
        rw [mks1_tell] at h1
        obtain ⟨row, v', rfl, h3⟩ := map_cons h1
        have : v' = [] := by simpa using h3
        subst this
        have h' : a ∈ hs ∧ b ∈ hs := by cases d <;> (unfold VT at hx; exact ⟨hx.1, hx.2.1⟩)
        show stsM hs deep rec (m + 1) acc ((row, .letter (hs.idxOf a : Nat) (hs.idxOf b : Nat) c) :: (w ++ r)) = _
        unfold stsM
        dsimp only
        rw [lane_ix h'.1, lane_ix h'.2]
        dsimp only [tell1]
        rw [ih]; simp
      | _ => cases ht
    | false =>
      obtain ⟨d', rfl, hp1, hp3, hpv⟩ := hx.parts ht
      rw [mks1_parts hs x ht] at h1
      obtain ⟨row, v', rfl, h3⟩ := map_cons h1
      obtain ⟨v2, f, rfl, h4, h5⟩ := map_split h3
      obtain ⟨row2, f', rfl, h6⟩ := map_cons h5
      have : f' = [] := by simpa using h6
      subst this
      have ep : ∃ p ps, pts x = p :: ps := by
        cases e : pts x with
        | nil => rw [e] at hp1; simp at hp1
        | cons p ps => exact ⟨p, ps, rfl⟩
      obtain ⟨p, ps, ep⟩ := ep
      have ej : Mk.line :: jps ((pts x).map (mkss hs)) = ((pts x).map fun q => Mk.line :: mkss hs q).flatten := by
        rw [ep]
        simp [jps]; rfl
      have hpt := prtM_rt (hr d' rfl) (pts x) wf [] ((0, .line) :: v2) (w ++ r) row2 hpv (by show _ < 100000; omega) (by rw [← ej, ← h4]; rfl)
      have em := mkS_pts hx ht
      show stsM hs deep rec (m + 1) acc ((row, .head (kindS x) _ _) :: ((v2 ++ [(row2, .foot)]) ++ w) ++ r) = _
      have el : ((v2 ++ [(row2, Mk.foot)]) ++ w) ++ r = v2 ++ (row2, .foot) :: (w ++ r) := by simp
      rw [List.cons_append, el]
      unfold stsM
      dsimp only
      have hpt : prtM rec wf [] ((0, Mk.line) :: (v2 ++ (row2, Mk.foot) :: (w ++ r))) = some (pts x, (row2, .foot) :: (w ++ r)) := by
        rw [List.cons_append] at hpt; simpa using hpt
      rw [hpt]
      have hend : endM deep (kindS x) (some (pts x, (row2, .foot) :: (w ++ r))) = some (x, w ++ r) := by
        show (if deep = 3 then none else (mkS (kindS x) (pts x)).map (·, w ++ r)) = _
        rw [if_neg (by omega), em]; rfl
      rw [hend]
      dsimp only
      rw [ih]; simp
theorem lsM_rt {hs : List Str} : ∀ (n deep d : Nat), d ≤ n → deep + d ≤ 3 → ∀ (s : Steps), s.length ≤ 4 → (∀ x ∈ s, VT hs d x) → ∀ u r, u.map (·.2) = mkss hs s → StopM r → lsM hs n deep (u ++ r) = some (s, r)
  | 0, deep, d, hn, h3, s, hl, hv, u, r, hu, hst => by
    have := stsM_rt (hs := hs) (deep := deep) (d := d) h3 (rec := fun _ => none) (fun d' z => by omega) s wf [] u r hv (by show _ < 100000; omega) hu hst
    unfold lsM
    rw [this]
    show (if 4 < s.length then none else _) = _
    rw [if_neg (by omega)]; rfl
  | n + 1, deep, d, hn, h3, s, hl, hv, u, r, hu, hst => by
    have := stsM_rt (hs := hs) (deep := deep) (d := d) h3 (rec := lsM hs n (deep + 1)) (fun d' z => lsM_rt n (deep + 1) d' (by omega) (by omega)) s wf [] u r hv (by show _ < 100000; omega) hu hst
    unfold lsM
    rw [this]
    show (if 4 < s.length then none else _) = _
    rw [if_neg (by omega)]; rfl
/-! k40: the law's reader computes it -/
theorem and_f1 {s t : Rho → Option Bool} {ρ : Rho} (h : s ρ = some false) : tAnd s t ρ = some false := by rw [tAnd_ev, h]; rfl
theorem and_t1 {s t : Rho → Option Bool} {ρ : Rho} {b : Bool} (h : s ρ = some true) (h2 : t ρ = some b) : tAnd s t ρ = some b := by rw [tAnd_ev, h]; exact h2
def msD (ms : List MkR) : PyData := .tuple (ms.map mrD)
def RS : Option (Steps × List MkR) → PyData → Prop
  | none, z => ∃ y, z = .tuple [.none, y]
  | some (s, r), z => z = .tuple [ssD s, msD r]
theorem nil_msD {ms : List MkR} : dNe (msD ms) (.tuple []) = some (!decide (ms = [])) := by
  have h0 : pl (.tuple []) = true := rfl
  have h := msD_pl ms
  show (if pl (msD ms) = true ∧ pl (.tuple []) = true then some (!PyData.eqv (msD ms) (.tuple [])) else none) = _
  rw [if_pos ⟨h, h0⟩]
  cases ms with
  | nil => simp [msD, PyData.eqv, PyData.eqvAll]
  | cons d r => simp [msD, PyData.eqv, PyData.eqvAll]
theorem nilE_msD {ms : List MkR} : dEq (msD ms) (.tuple []) = some (decide (ms = [])) := by
  have h0 : pl (.tuple []) = true := rfl
  have h := msD_pl ms
  show (if pl (msD ms) = true ∧ pl (.tuple []) = true then some (PyData.eqv (msD ms) (.tuple [])) else none) = _
  rw [if_pos ⟨h, h0⟩]
  cases ms with
  | nil => simp [msD, PyData.eqv, PyData.eqvAll]
  | cons d r => simp [msD, PyData.eqv, PyData.eqvAll]
theorem hd_msD {p : MkR} {r : List MkR} : dIx (msD (p :: r)) (.int 0) = some (mrD p) := by
  show dIx (.tuple (mrD p :: r.map mrD)) (.int 0) = _
  simp
theorem tl_msD {p : MkR} {r : List MkR} : dSl (msD (p :: r)) (some 1) none = some (msD r) := by
  show dSl (.tuple (mrD p :: r.map mrD)) (some 1) none = _
  rw [dSl_tup, cutD_from1]; rfl
theorem wd_of (p : MkR) : dIx (mrD p) (.int 0) = some (.str (wdM p.2)) := enc0 p.1 p.2
/-- marks that may be read at so many open -/
def Gd (n : Int) (ms : List MkR) : Prop := Bal n ms ∧ OkMs ms ∧ ms.length ≤ 90000
theorem Gd.suf {n : Int} {p q : List MkR} (h : Gd n (p ++ q)) : Gd (n - hdN p) q := ⟨h.1.suf, h.2.1.suf, by have := h.2.2; rw [List.length_append] at this; omega⟩
theorem Gd.suf0 {n : Int} {p q : List MkR} (h : Gd n (p ++ q)) (h0 : hdN p = 0) : Gd n q := by
  have := h.suf
  rw [h0] at this
  simpa using this
section
variable {r : List PyData → Option PyData} {hs : List Str} {deep : Nat}
def Ji (hs : List Str) (deep : Nat) (acc : Steps) (mk : PyData) (ms : List MkR) (ps : List Steps) : Rho := [some (msD ms), some (hsD hs), some (.int (deep : Nat)), some (ssD acc), some mk, some (.tuple (ps.map ssD)), none, none]
theorem w1_ok {acc : Steps} {mk : PyData} {ms : List MkR} {ps : List Steps} : w_law_steps_of_1 r (Ji hs deep acc mk ms ps) = some (match ms with
    | (_, .line) :: _ => true
    | _ => false) := by
  have h1 : TF.e2 (eVar 0) (eTup aNil) dNe (Ji hs deep acc mk ms ps) = some (!decide (ms = [])) := e2_of rfl rfl nil_msD
  cases ms with
  | nil => exact and_f1 h1
  | cons p t =>
    have h2 : TF.e2 (TF.e2 (TF.e2 (eVar 0) (eC (.int 0)) dIx) (eC (.int 0)) dIx) (eC (.str "line")) dEq (Ji hs deep acc mk (p :: t) ps) = some (wdM p.2 == "line") := e2_of (e2_of (e2_of rfl rfl hd_msD) rfl (wd_of p)) rfl dEq_str
    obtain ⟨row, k⟩ := p
    cases k with
    | letter a b w => exact and_t1 h1 (h2.trans (congrArg some (show (("letter" : Str) == "line") = false by decide)))
    | head a b w => exact and_t1 h1 (h2.trans (congrArg some (show (("head" : Str) == "line") = false by decide)))
    | line => exact and_t1 h1 (h2.trans (congrArg some (show (("line" : Str) == "line") = true by decide)))
    | foot => exact and_t1 h1 (h2.trans (congrArg some (show (("foot" : Str) == "line") = false by decide)))
theorem loopP_law {n : Int} {rec : List MkR → Option (Steps × List MkR)} {acc : Steps} {mk : PyData} (hr : ∀ t, Gd n t → ∃ z, r [msD t, hsD hs, .int ((deep + 1 : Nat) : Int)] = some z ∧ RS (rec t) z)
    (hk : ∀ t s q, OkMs t → rec t = some (s, q) → ∃ u, t = u ++ q ∧ hdN u = 0) :
    ∀ (m : Nat) (ps : List Steps) (ms : List MkR), ms.length < m → Gd n ms → ps.length + ms.length ≤ 90002 →
    (prtM rec m ps ms = none ∧ ∃ y, whGo (w_law_steps_of_1 r) (b_law_steps_of_1 r) [7] m (Ji hs deep acc mk ms ps) = some (.rt (.tuple [.none, y]))) ∨
    ∃ qs q, prtM rec m ps ms = some (qs, q) ∧ (∃ u, ms = u ++ q ∧ hdN u = 0) ∧ qs.length + q.length ≤ ps.length + ms.length ∧ whGo (w_law_steps_of_1 r) (b_law_steps_of_1 r) [7] m (Ji hs deep acc mk ms ps) = some (.nx (Ji hs deep acc mk q qs))
  | 0, ps, ms, h, _, _ => by omega
  | m + 1, ps, ms, hm, hg, hl => by
    have no : (∀ row t, ms ≠ (row, .line) :: t) → (prtM rec (m + 1) ps ms = none ∧ ∃ y, whGo (w_law_steps_of_1 r) (b_law_steps_of_1 r) [7] (m + 1) (Ji hs deep acc mk ms ps) = some (.rt (.tuple [.none, y]))) ∨
      ∃ qs q, prtM rec (m + 1) ps ms = some (qs, q) ∧ (∃ u, ms = u ++ q ∧ hdN u = 0) ∧ qs.length + q.length ≤ ps.length + ms.length ∧ whGo (w_law_steps_of_1 r) (b_law_steps_of_1 r) [7] (m + 1) (Ji hs deep acc mk ms ps) = some (.nx (Ji hs deep acc mk q qs)) := fun hne => by
      refine .inr ⟨ps, ms, ?_, ⟨[], rfl, rfl⟩, Nat.le_refl _, ?_⟩
      · unfold prtM
        split
        · rename_i row t; exact absurd rfl (hne row t)
        · rfl
      · unfold whGo
        rw [w1_ok]
        split
        · rename_i row t; exact absurd rfl (hne row t)
        · rfl
    by_cases hc : ∃ row t, ms = (row, .line) :: t
    · obtain ⟨row, t, rfl⟩ := hc
      have hgt : Gd n t := Gd.suf0 (p := [(row, .line)]) hg rfl
      rw [List.length_cons] at hm hl
      obtain ⟨z, hz1, hz2⟩ := hr t hgt
      unfold prtM whGo
      rw [w1_ok]
      simp only [Option.bind_some, if_true]
      have hcall : eCall 3 r (aCons (eSl (eVar 0) (ePart (eC (.int 1))) eNoPart dSl) (aCons (eVar 1) (aCons (TF.e2 (eVar 2) (eC (.int 1)) dAddA) aNil))) (Ji hs deep acc mk ((row, .line) :: t) ps) = some z := by
        have c1 : eSl (eVar 0) (ePart (eC (.int 1))) eNoPart dSl (Ji hs deep acc mk ((row, .line) :: t) ps) = some (msD t) := slc rfl rfl rfl tl_msD
        have c3 : TF.e2 (eVar 2) (eC (.int 1)) dAddA (Ji hs deep acc mk ((row, .line) :: t) ps) = some (.int ((deep + 1 : Nat) : Int)) := e2_of rfl rfl dAddA_int
        rw [eCall_ev, aCons_ev, aCons_ev, aCons_ev, c1, c3]
        exact hz1
      cases es : rec t with
      | none =>
        rw [es] at hz2
        obtain ⟨y, rfl⟩ := hz2
        refine .inl ⟨rfl, .tuple [], ?_⟩
        have s1 : fAsg (g2 7 0) (eCall 3 r (aCons (eSl (eVar 0) (ePart (eC (.int 1))) eNoPart dSl) (aCons (eVar 1) (aCons (TF.e2 (eVar 2) (eC (.int 1)) dAddA) aNil)))) (Ji hs deep acc mk ((row, .line) :: t) ps) = some (.nx [some y, some (hsD hs), some (.int (deep : Nat)), some (ssD acc), some mk, some (.tuple (ps.map ssD)), none, some .none]) := by
          rw [fAsg_ev, hcall]; rfl
        have hb : b_law_steps_of_1 r (Ji hs deep acc mk ((row, .line) :: t) ps) = some (.rt (.tuple [.none, .tuple []])) := seq_nx s1 (ret_b (e2_of rfl rfl rfl) (tup2 rfl rfl))
        rw [hb]; rfl
      | some pr =>
        obtain ⟨p, q⟩ := pr
        rw [es] at hz2
        have hz2 : z = .tuple [ssD p, msD q] := hz2
        subst hz2
        obtain ⟨u, hu1, hu2⟩ := hk t p q hgt.2.1 es
        have hql : q.length ≤ t.length := by rw [hu1, List.length_append]; omega
        have s1 : fAsg (g2 7 0) (eCall 3 r (aCons (eSl (eVar 0) (ePart (eC (.int 1))) eNoPart dSl) (aCons (eVar 1) (aCons (TF.e2 (eVar 2) (eC (.int 1)) dAddA) aNil)))) (Ji hs deep acc mk ((row, .line) :: t) ps) = some (.nx [some (msD q), some (hsD hs), some (.int (deep : Nat)), some (ssD acc), some mk, some (.tuple (ps.map ssD)), none, some (ssD p)]) := by
          rw [fAsg_ev, hcall]; rfl
        have hb : b_law_steps_of_1 r (Ji hs deep acc mk ((row, .line) :: t) ps) = some (.nx [some (msD q), some (hsD hs), some (.int (deep : Nat)), some (ssD acc), some mk, some (.tuple ((ps ++ [p]).map ssD)), none, some (ssD p)]) := by
          refine seq_nx s1 (seq_nx (if_n (e2_of rfl rfl rfl)) ((set_of (i := 5) (e2_of rfl (tup1 rfl) (d := some (.tuple ((ps ++ [p]).map ssD))) ?_)).trans rfl))
          rw [addT (by rw [List.length_map]; simp; omega)]
          simp
        rw [hb]
        have ih := loopP_law (n := n) (acc := acc) (mk := mk) hr hk m (ps ++ [p]) q (by omega) (Gd.suf0 (p := u) (by rw [← hu1]; exact hgt) hu2) (by simp; omega)
        rcases ih with ⟨i1, i2⟩ | ⟨qs, q', i1, ⟨v, i2, i3⟩, i4, i5⟩
        · exact .inl ⟨i1, i2⟩
        · refine .inr ⟨qs, q', i1, ⟨(row, .line) :: (u ++ v), by rw [hu1, i2]; simp, ?_⟩, by rw [List.length_append, List.length_singleton] at i4; rw [List.length_cons]; omega, i5⟩
          show hdN (u ++ v) = 0
          rw [hdN_app]; omega
    · exact no fun row t e => hc ⟨row, t, e⟩
abbrev L7 : List (Str × List Int) := [(("choice" : Str), ([1, 2, 3] : List Int)), (("round" : Str), ([1] : List Int)), (("both" : Str), ([2] : List Int))]
theorem in_ints (z : Int) (ns : List Int) : dNotIn (.int z) (.tuple (ns.map .int)) = some (!decide (z ∈ ns)) := by
  have hp : pl (.tuple (ns.map PyData.int)) = true := pl_of (by rw [plain_tup]; simp [plain_int]) (Nat.le_trans (depth_tup (n := 0).mpr (by simp [depth_int])) (by decide))
  have e : ((ns.map PyData.int).any fun y => PyData.eqv y (.int z)) = decide (z ∈ ns) := by
    induction ns with
    | nil => rfl
    | cons a l ih =>
      have hp2 : pl (.tuple (l.map PyData.int)) = true := pl_of (by rw [plain_tup]; simp [plain_int]) (Nat.le_trans (depth_tup (n := 0).mpr (by simp [depth_int])) (by decide))
      rw [List.map_cons, List.any_cons, ih hp2]
      by_cases h : a = z
      · subst h; simp [PyData.eqv]
      · have h' : ¬ z = a := fun q => h q.symm
        simp [PyData.eqv, h, h']
  rw [dNotIn_ev]
  show (if pl (.int z) = true ∧ pl (.tuple (ns.map PyData.int)) = true then some ((ns.map PyData.int).any fun y => PyData.eqv y (.int z)) else none).map _ = _
  rw [if_pos ⟨rfl, hp⟩, e]; rfl
/-- behind the parts -/
abbrev tB : Rho → Option Bool := tOr (TF.e2 (eVar 0) (eTup aNil) dEq) (tOr (TF.e2 (TF.e2 (TF.e2 (eVar 0) (eC (.int 0)) dIx) (eC (.int 0)) dIx) (eC (.str "foot")) dNe) (tOr (TF.e2 (TF.e1 (eVar 5) dLen) (eVar 6) dNotIn) (TF.e2 (eVar 2) (eC (.int 3)) dEq)))
abbrev fB : Rho → Option Fl := fSeq (fSet 6 (TF.e1 (TF.e2 (eVar 4) (eC (.int 2)) dIx) (dIxT L7)))
    (fSeq (fIf tB (fRet (eTup (aCons (eC .none) (aCons (eTup aNil) aNil)))) fNil)
    (fSeq (fSet 0 (eSl (eVar 0) (ePart (eC (.int 1))) eNoPart dSl))
    (fSeq (fIf (TF.e2 (TF.e2 (eVar 4) (eC (.int 2)) dIx) (eC (.str "choice")) dEq) (fSet 5 (eTup (aCons (eVar 5) aNil))) fNil)
    (fSet 3 (TF.e2 (eVar 3) (eTup (aCons (TF.e2 (eTup (aCons (TF.e2 (eVar 4) (eC (.int 2)) dIx) aNil)) (eVar 5) dAddA) aNil)) dAddA)))))
theorem many_of {k : Str} (hk : k = "choice" ∨ k = "round" ∨ k = "both") (ps : List Steps) : ∃ ns : List Int, dIxT L7 (.str k) = some (.tuple (ns.map .int)) ∧ (((ps.length : Nat) : Int) ∈ ns ↔ ∃ x, mkS k ps = some x) := by
  rcases hk with rfl | rfl | rfl
  · refine ⟨[1, 2, 3], by rfl, ?_⟩
    have e : mkS "choice" ps = if 1 ≤ ps.length ∧ ps.length ≤ 3 then some (.choice ps) else none := by
      show (if ("choice" : Str) = "choice" then _ else _) = _
      rw [if_pos rfl]
    rw [e]
    by_cases h : 1 ≤ ps.length ∧ ps.length ≤ 3
    · rw [if_pos h]
      simp
      omega
    · rw [if_neg h]
      simp
      omega
  · refine ⟨[1], by rfl, ?_⟩
    have e : mkS "round" ps = (match ps with
        | [s] => some (.round s)
        | _ => none) := by
      show (if ("round" : Str) = "choice" then _ else if ("round" : Str) = "round" then _ else _) = _
      rw [if_neg (by decide), if_pos rfl] <;> rfl
    rw [e]
    match ps with
    | [] => simp
    | [s] => simp
    | _ :: _ :: _ => simp; omega
  · refine ⟨[2], by rfl, ?_⟩
    have e : mkS "both" ps = (match ps with
        | [s, t] => some (.both s t)
        | _ => none) := by
      show (if ("both" : Str) = "choice" then _ else if ("both" : Str) = "round" then _ else _) = _
      rw [if_neg (by decide), if_neg (by decide)] <;> rfl
    rw [e]
    match ps with
    | [] => simp
    | [s] => simp
    | [s, t] => simp
    | _ :: _ :: _ :: _ => simp; omega
theorem sD_kind {k : Str} {ps : List Steps} {x : TK.Step} (hk : k = "choice" ∨ k = "round" ∨ k = "both") (h : mkS k ps = some x) : sD x = .tuple (.str k :: (if (k == "choice") = true then [.tuple (ps.map ssD)] else ps.map ssD)) := by
  obtain ⟨m1, m2, m3, _⟩ := mkS_inv hk h
  cases x with
  | tell a b w => cases m1
  | choice bs =>
    have m3 : ("choice" : Str) = k := m3
    subst m3
    have m2 : bs = ps := m2
    subst m2
    rw [sD_choice]; rfl
  | round s =>
    have m3 : ("round" : Str) = k := m3
    subst m3
    have m2 : [s] = ps := m2
    subst m2
    rw [sD_round]; rfl
  | both s t =>
    have m3 : ("both" : Str) = k := m3
    subst m3
    have m2 : [s, t] = ps := m2
    subst m2
    rw [sD_both]; rfl
theorem fB_ok {acc : Steps} {row lo hi : Int} {k : Str} {ms : List MkR} {ps : List Steps} (hk : k = "choice" ∨ k = "round" ∨ k = "both") (ha : acc.length ≤ 90000) (hps : ps.length ≤ 100000) :
    (endM deep k (some (ps, ms)) = none ∧ fB (Ji hs deep acc (encM row (.head k lo hi)) ms ps) = some (.rt (.tuple [.none, .tuple []]))) ∨
    ∃ x q row2 v5 v6, endM deep k (some (ps, ms)) = some (x, q) ∧ ms = (row2, .foot) :: q ∧ fB (Ji hs deep acc (encM row (.head k lo hi)) ms ps) = some (.nx [some (msD q), some (hsD hs), some (.int (deep : Nat)), some (ssD (acc ++ [x])), some (encM row (.head k lo hi)), some v5, some v6, none]) := by
  obtain ⟨ns, n1, n2⟩ := many_of hk ps
  let M := encM row (.head k lo hi)
  have m2 : dIx M (.int 2) = some (.str k) := by show dIx (encM row (.head k lo hi)) _ = _; simp [encM]
  let ρ1 : Rho := [some (msD ms), some (hsD hs), some (.int (deep : Nat)), some (ssD acc), some M, some (.tuple (ps.map ssD)), some (.tuple (ns.map .int)), none]
  have s6 : fSet 6 (TF.e1 (TF.e2 (eVar 4) (eC (.int 2)) dIx) (dIxT L7)) (Ji hs deep acc M ms ps) = some (.nx ρ1) := set_of (i := 6) (ρ := Ji hs deep acc M ms ps) (e1_of (e2_of rfl rfl m2) n1)
  have t1 : TF.e2 (eVar 0) (eTup aNil) dEq ρ1 = some (decide (ms = [])) := e2_of rfl rfl nilE_msD
  have t3 : TF.e2 (TF.e1 (eVar 5) dLen) (eVar 6) dNotIn ρ1 = some (!decide (((ps.length : Nat) : Int) ∈ ns)) := e2_of (e1_of rfl (by rw [dLen_tup, List.length_map])) rfl (in_ints _ _)
  have t4 : TF.e2 (eVar 2) (eC (.int 3)) dEq ρ1 = some (decide (deep = 3)) := e2_of rfl rfl (by
    rw [dEq_int']
    congr 1
    exact decide_eq_decide.mpr (by omega))
  have no : tB ρ1 = some true → fB (Ji hs deep acc M ms ps) = some (.rt (.tuple [.none, .tuple []])) := fun h => seq_nx s6 (ret_b h (tup2 rfl rfl))
  cases ms with
  | nil => exact .inl ⟨rfl, no (or_t1 t1)⟩
  | cons p q =>
    obtain ⟨row2, pk⟩ := p
    have t2 : TF.e2 (TF.e2 (TF.e2 (eVar 0) (eC (.int 0)) dIx) (eC (.int 0)) dIx) (eC (.str "foot")) dNe ρ1 = some (!(wdM pk == "foot")) := e2_of (e2_of (e2_of rfl rfl hd_msD) rfl (wd_of (row2, pk))) rfl (dNe_str _ _)
    have nf : isFt pk = false → (wdM pk == ("foot" : Str)) = false := fun h => by
      have q1 : (("letter" : Str) == "foot") = false := by decide
      have q2 : (("head" : Str) == "foot") = false := by decide
      have q3 : (("line" : Str) == "foot") = false := by decide
      cases pk with
      | letter => exact q1
      | head => exact q2
      | line => exact q3
      | foot => cases h
    cases hf : isFt pk with
    | false =>
      have e : endM deep k (some (ps, (row2, pk) :: q)) = none := by
        cases pk with
        | foot => cases hf
        | _ => rfl
      rw [nf hf] at t2
      exact .inl ⟨e, no (or_t2 t1 (or_t1 t2))⟩
    | true =>
      have : pk = .foot := by cases pk <;> first | rfl | cases hf
      subst this
      have hft : (wdM .foot == ("foot" : Str)) = true := by decide
      rw [hft] at t2
      have e : endM deep k (some (ps, (row2, .foot) :: q)) = if deep = 3 then none else (mkS k ps).map (·, q) := rfl
      by_cases hin : ((ps.length : Nat) : Int) ∈ ns
      · rw [decide_eq_true hin] at t3
        obtain ⟨x, hx⟩ := n2.mp hin
        by_cases h3 : deep = 3
        · rw [decide_eq_true h3] at t4
          rw [if_pos h3] at e
          exact .inl ⟨e, no (or_t2 t1 (or_t2 t2 (or_t2 t3 t4)))⟩
        · rw [decide_eq_false h3] at t4
          rw [if_neg h3, hx] at e
          have tf : tB ρ1 = some false := or_t2 t1 (or_t2 t2 (or_t2 t3 t4))
          have s0 : fSet 0 (eSl (eVar 0) (ePart (eC (.int 1))) eNoPart dSl) ρ1 = some (.nx [some (msD q), some (hsD hs), some (.int (deep : Nat)), some (ssD acc), some M, some (.tuple (ps.map ssD)), some (.tuple (ns.map .int)), none]) := set_of (i := 0) (ρ := ρ1) (slc rfl rfl rfl tl_msD)
          have tk : TF.e2 (TF.e2 (eVar 4) (eC (.int 2)) dIx) (eC (.str "choice")) dEq [some (msD q), some (hsD hs), some (.int (deep : Nat)), some (ssD acc), some M, some (.tuple (ps.map ssD)), some (.tuple (ns.map .int)), none] = some (k == "choice") := e2_of (e2_of rfl rfl m2) rfl dEq_str
          have hsd := sD_kind hk hx
          have last : ∀ L : List PyData, L.length ≤ 100001 → sD x = .tuple (.str k :: L) → fSet 3 (TF.e2 (eVar 3) (eTup (aCons (TF.e2 (eTup (aCons (TF.e2 (eVar 4) (eC (.int 2)) dIx) aNil)) (eVar 5) dAddA) aNil)) dAddA) [some (msD q), some (hsD hs), some (.int (deep : Nat)), some (ssD acc), some M, some (.tuple L), some (.tuple (ns.map .int)), none] = some (.nx [some (msD q), some (hsD hs), some (.int (deep : Nat)), some (ssD (acc ++ [x])), some M, some (.tuple L), some (.tuple (ns.map .int)), none]) := fun L hL hsx => by
            refine (set_of (i := 3) (e2_of rfl (tup1 (e2_of (tup1 (e2_of rfl rfl m2)) rfl (addT (by simp; omega)))) (d := some (ssD (acc ++ [x]))) ?_)).trans rfl
            unfold ssD
            rw [addT (by rw [List.length_map]; simp; omega), List.map_append, List.map_cons, hsx]; rfl
          refine .inr ⟨x, q, row2, _, _, e, rfl, seq_nx s6 (seq_if tf (seq_nx s0 (seq_nx (ρ' := [some (msD q), some (hsD hs), some (.int (deep : Nat)), some (ssD acc), some M, some (.tuple (if (k == "choice") = true then [.tuple (ps.map ssD)] else ps.map ssD)), some (.tuple (ns.map .int)), none]) ?_ (last _ ?_ hsd))))⟩
          · cases hb : (k == ("choice" : Str)) with
            | true =>
              rw [hb] at tk
              exact if_t tk ((set_of (i := 5) (tup1 rfl)).trans rfl)
            | false =>
              rw [hb] at tk
              exact if_n tk
          · split
            · simp
            · rw [List.length_map]; omega
      · rw [decide_eq_false hin] at t3
        have hx : mkS k ps = none := by
          cases em : mkS k ps with
          | none => rfl
          | some x => exact absurd (n2.mpr ⟨x, em⟩) hin
        have e' : endM deep k (some (ps, (row2, .foot) :: q)) = none := by
          rw [e, hx]; split <;> rfl
        exact .inl ⟨e', no (or_t2 t1 (or_t2 t2 (or_t1 t3)))⟩
end
/-! .. the outer loop, the recursion -/
section
variable {r : List PyData → Option PyData} {hs : List Str} {deep : Nat}
def Jo (hs : List Str) (deep : Nat) (ms : List MkR) (acc : Steps) : Rho := [some (msD ms), some (hsD hs), some (.int (deep : Nat)), some (ssD acc), none, none, none, none]
theorem w2_ok {ms : List MkR} {acc : Steps} : w_law_steps_of_2 r (Jo hs deep ms acc) = some (match ms with
    | [] => false
    | p :: _ => isLH p.2) := by
  have h1 : TF.e2 (eVar 0) (eTup aNil) dNe (Jo hs deep ms acc) = some (!decide (ms = [])) := e2_of rfl rfl nil_msD
  cases ms with
  | nil => exact and_f1 h1
  | cons p t =>
    have h2 : TF.e2 (TF.e2 (TF.e2 (eVar 0) (eC (.int 0)) dIx) (eC (.int 0)) dIx) (eTup (aCons (eC (.str "letter")) (aCons (eC (.str "head")) aNil))) dIn (Jo hs deep (p :: t) acc) = some (decide (wdM p.2 ∈ (["letter", "head"] : List Str))) := e2_of (e2_of (e2_of rfl rfl hd_msD) rfl (wd_of p)) (rfl : _ = some (hsD ["letter", "head"])) (dIn_hs _ _)
    have h3 := wd_lh (p :: t) 0
    have h4 : wdAt (p :: t) 0 = wdM p.2 := rfl
    rw [h4] at h3
    rw [h3] at h2
    exact and_t1 h1 h2
theorem hand_of {z : Int} {x : Str} (h : lane hs z = some x) : 0 ≤ z ∧ z < hs.length ∧ dIx (hsD hs) (.int z) = some (.str x) := by
  unfold lane at h
  by_cases hz : 0 ≤ z ∧ z < hs.length
  · rw [if_pos hz] at h
    refine ⟨hz.1, hz.2, ?_⟩
    obtain ⟨n, rfl⟩ := nat_of hz.1
    show atI (hs.map PyData.str) (n : Nat) = _
    have h : hs[n]? = some x := by simpa using h
    exact atI_nat (by rw [List.getElem?_map, h]; rfl)
  · rw [if_neg hz] at h; cases h
theorem lane_none {z : Int} (h : lane hs z = none) : ¬ (0 ≤ z ∧ z < hs.length) := fun hz => by
  unfold lane at h
  rw [if_pos hz] at h
  have : z.toNat < hs.length := by omega
  rw [List.getElem?_eq_getElem this] at h
  cases h
theorem loopS_law {n : Int} {rec : List MkR → Option (Steps × List MkR)} (hr : ∀ t, Gd (n - 1) t → ∃ z, r [msD t, hsD hs, .int ((deep + 1 : Nat) : Int)] = some z ∧ RS (rec t) z)
    (hk : ∀ t s q, OkMs t → rec t = some (s, q) → ∃ u, t = u ++ q ∧ hdN u = 0) :
    ∀ (m : Nat) (acc : Steps) (ms : List MkR), ms.length < m → Gd n ms → acc.length + ms.length ≤ 90000 →
    (stsM hs deep rec m acc ms = none ∧ ∃ y, whGo (w_law_steps_of_2 r) (b_law_steps_of_2 r) [4, 5, 6, 7] m (Jo hs deep ms acc) = some (.rt (.tuple [.none, y]))) ∨
    ∃ s q, stsM hs deep rec m acc ms = some (s, q) ∧ s.length ≤ 90000 ∧ whGo (w_law_steps_of_2 r) (b_law_steps_of_2 r) [4, 5, 6, 7] m (Jo hs deep ms acc) = some (.nx (Jo hs deep q s))
  | 0, acc, ms, h, _, _ => by omega
  | m + 1, acc, ms, hm, hg, hl => by
    cases ms with
    | nil =>
      refine .inr ⟨acc, [], by unfold stsM; rfl, by simp at hl; omega, ?_⟩
      unfold whGo
      rw [w2_ok]; rfl
    | cons p t =>
      obtain ⟨row, k⟩ := p
      rw [List.length_cons] at hm hl
      have stop : isLH k = false → stsM hs deep rec (m + 1) acc ((row, k) :: t) = some (acc, (row, k) :: t) ∧ whGo (w_law_steps_of_2 r) (b_law_steps_of_2 r) [4, 5, 6, 7] (m + 1) (Jo hs deep ((row, k) :: t) acc) = some (.nx (Jo hs deep ((row, k) :: t) acc)) := fun hk => by
        refine ⟨?_, ?_⟩
        · unfold stsM
          cases k with
          | letter => cases hk
          | head => cases hk
          | line => rfl
          | foot => rfl
        · unfold whGo
          rw [w2_ok]
          show (some (isLH k)).bind _ = _
          rw [hk]; rfl
      have s4 : fSet 4 (TF.e2 (eVar 0) (eC (.int 0)) dIx) (Jo hs deep ((row, k) :: t) acc) = some (.nx [some (msD ((row, k) :: t)), some (hsD hs), some (.int (deep : Nat)), some (ssD acc), some (encM row k), none, none, none]) := set_of (i := 4) (ρ := Jo hs deep ((row, k) :: t) acc) (e2_of rfl rfl hd_msD)
      have s0 : fSet 0 (eSl (eVar 0) (ePart (eC (.int 1))) eNoPart dSl) [some (msD ((row, k) :: t)), some (hsD hs), some (.int (deep : Nat)), some (ssD acc), some (encM row k), none, none, none] = some (.nx [some (msD t), some (hsD hs), some (.int (deep : Nat)), some (ssD acc), some (encM row k), none, none, none]) := set_of (i := 0) (ρ := [some (msD ((row, k) :: t)), some (hsD hs), some (.int (deep : Nat)), some (ssD acc), some (encM row k), none, none, none]) (slc rfl rfl rfl tl_msD)
      have tk : TF.e2 (TF.e2 (eVar 4) (eC (.int 0)) dIx) (eC (.str "letter")) dEq [some (msD t), some (hsD hs), some (.int (deep : Nat)), some (ssD acc), some (encM row k), none, none, none] = some (wdM k == "letter") := e2_of (e2_of rfl rfl (enc0 row k)) rfl dEq_str
      cases k with
      | line => exact .inr ⟨acc, _, (stop rfl).1, by omega, (stop rfl).2⟩
      | foot => exact .inr ⟨acc, _, (stop rfl).1, by omega, (stop rfl).2⟩
      | letter a b w =>
        have hlt : (wdM (.letter a b w) == ("letter" : Str)) = true := (show (("letter" : Str) == "letter") = true by decide)
        rw [hlt] at tk
        have hgt : Gd n t := Gd.suf0 (p := [(row, .letter a b w)]) hg rfl
        let ρ1 : Rho := [some (msD t), some (hsD hs), some (.int (deep : Nat)), some (ssD acc), some (encM row (.letter a b w)), none, none, none]
        have d2 : TF.e2 (eVar 4) (eC (.int 2)) dIx ρ1 = some (.int a) := e2_of rfl rfl (by show dIx (encM row (.letter a b w)) _ = _; simp [encM])
        have d3 : TF.e2 (eVar 4) (eC (.int 3)) dIx ρ1 = some (.int b) := e2_of rfl rfl (by show dIx (encM row (.letter a b w)) _ = _; simp [encM])
        have d4 : TF.e2 (eVar 4) (eC (.int 4)) dIx ρ1 = some (.str w) := e2_of rfl rfl (by
          show atI [PyData.str "letter", .int row, .int a, .int b, .str w] 4 = _
          exact atI_nat (j := 4) rfl)
        have ln : TF.e1 (eVar 1) dLen ρ1 = some (.int hs.length) := e1_of rfl (dLen_hs hs)
        have o2 : TF.e2 (TF.e2 (eVar 4) (eC (.int 2)) dIx) (TF.e1 (eVar 1) dLen) dOutRng ρ1 = some (!decide (0 ≤ a ∧ a < hs.length)) := e2_of d2 ln rfl
        have o3 : TF.e2 (TF.e2 (eVar 4) (eC (.int 3)) dIx) (TF.e1 (eVar 1) dLen) dOutRng ρ1 = some (!decide (0 ≤ b ∧ b < hs.length)) := e2_of d3 ln rfl
        have wh : ∀ fl : Fl, b_law_steps_of_2 r (Jo hs deep ((row, .letter a b w) :: t) acc) = some fl → whGo (w_law_steps_of_2 r) (b_law_steps_of_2 r) [4, 5, 6, 7] (m + 1) (Jo hs deep ((row, .letter a b w) :: t) acc) = (match fl with
            | .nx r' => whGo (w_law_steps_of_2 r) (b_law_steps_of_2 r) [4, 5, 6, 7] m (clr [4, 5, 6, 7] r')
            | .ct r' => whGo (w_law_steps_of_2 r) (b_law_steps_of_2 r) [4, 5, 6, 7] m (clr [4, 5, 6, 7] r')
            | .bk r' => some (.nx (clr [4, 5, 6, 7] r'))
            | .rt d => some (.rt d)
            | .rx d r' => some (.rx d r')
            | .ex x => some (.ex x)
            | .rl b => some (.rl b)) := fun fl h => by
          rw [whGo, w2_ok]
          simp only [Option.bind_some, isLH, if_true, h]
          all_goals (cases fl <;> rfl)
        have no : tOr (TF.e2 (TF.e2 (eVar 4) (eC (.int 2)) dIx) (TF.e1 (eVar 1) dLen) dOutRng) (TF.e2 (TF.e2 (eVar 4) (eC (.int 3)) dIx) (TF.e1 (eVar 1) dLen) dOutRng) ρ1 = some true → whGo (w_law_steps_of_2 r) (b_law_steps_of_2 r) [4, 5, 6, 7] (m + 1) (Jo hs deep ((row, .letter a b w) :: t) acc) = some (.rt (.tuple [.none, .tuple []])) := fun h => by
          rw [wh _ (seq_nx s4 (seq_nx s0 (seq_rt (if_t tk (ret_b h (tup2 rfl rfl))))))]
        unfold stsM
        dsimp only
        cases ea : lane hs a with
        | none =>
          rw [decide_eq_false (lane_none ea)] at o2
          exact .inl ⟨rfl, _, no (or_t1 o2)⟩
        | some x =>
          obtain ⟨a1, a2, a3⟩ := hand_of ea
          rw [decide_eq_true (show 0 ≤ a ∧ a < hs.length from ⟨a1, a2⟩)] at o2
          cases eb : lane hs b with
          | none =>
            rw [decide_eq_false (lane_none eb)] at o3
            exact .inl ⟨rfl, _, no (or_t2 o2 o3)⟩
          | some y =>
            obtain ⟨b1, b2, b3⟩ := hand_of eb
            rw [decide_eq_true (show 0 ≤ b ∧ b < hs.length from ⟨b1, b2⟩)] at o3
            have s3 : fSet 3 (TF.e2 (eVar 3) (eTup (aCons (eTup (aCons (eC (.str "tell")) (aCons (TF.e2 (eVar 1) (TF.e2 (eVar 4) (eC (.int 2)) dIx) dIx) (aCons (TF.e2 (eVar 1) (TF.e2 (eVar 4) (eC (.int 3)) dIx) dIx) (aCons (TF.e2 (eVar 4) (eC (.int 4)) dIx) aNil))))) aNil)) dAddA) ρ1 = some (.nx [some (msD t), some (hsD hs), some (.int (deep : Nat)), some (ssD (acc ++ [.tell x y w])), some (encM row (.letter a b w)), none, none, none]) := by
              refine (set_of (i := 3) (e2_of rfl (tup1 (tup4 rfl (e2_of rfl d2 a3) (e2_of rfl d3 b3) d4)) (d := some (ssD (acc ++ [.tell x y w]))) ?_)).trans rfl
              unfold ssD
              rw [addT (by rw [List.length_map]; simp; omega), List.map_append, List.map_cons, sD_tell]; rfl
            rw [wh _ (seq_nx s4 (seq_nx s0 (seq_ct (if_t tk (seq_nx (if_n (or_t2 o2 o3)) (seq_nx s3 rfl))))))]
            exact loopS_law hr hk m (acc ++ [.tell x y w]) t (by omega) hgt (by simp; omega)
      | head k lo hi =>
        have hlt : (wdM (.head k lo hi) == ("letter" : Str)) = false := (show (("head" : Str) == "letter") = false by decide)
        rw [hlt] at tk
        have hgt1 : Gd (n - 1) t := Gd.suf (p := [(row, .head k lo hi)]) hg
        have hok : k = "choice" ∨ k = "round" ∨ k = "both" := hg.2.1 (row, .head k lo hi) (by simp)
        have hgl : Gd (n - 1) ((0, .line) :: t) := by
          refine ⟨fun p q e => ?_, fun z hz => ?_, by simp; omega⟩
          · cases p with
            | nil => exact hgt1.1.pos
            | cons p0 p =>
              rw [List.cons_append, List.cons.injEq] at e
              obtain ⟨rfl, e⟩ := e
              exact hgt1.1 p q e
          · rcases List.mem_cons.mp hz with rfl | hz
            · trivial
            · exact hgt1.2.1 z hz
        have s0' : fSet 0 (TF.e2 (eTup (aCons (eTup (aCons (eC (.str "line")) (aCons (eC (.int 0)) aNil))) aNil)) (eVar 0) dAddA) [some (msD t), some (hsD hs), some (.int (deep : Nat)), some (ssD acc), some (encM row (.head k lo hi)), none, none, none] = some (.nx [some (msD ((0, .line) :: t)), some (hsD hs), some (.int (deep : Nat)), some (ssD acc), some (encM row (.head k lo hi)), none, none, none]) := by
          refine (set_of (i := 0) (e2_of (tup1 (tup2 rfl rfl)) rfl (d := some (msD ((0, .line) :: t))) ?_)).trans rfl
          unfold msD
          rw [addT (by rw [List.length_map]; simp; omega)]; rfl
        have s5 : fSet 5 (eTup aNil) [some (msD ((0, .line) :: t)), some (hsD hs), some (.int (deep : Nat)), some (ssD acc), some (encM row (.head k lo hi)), none, none, none] = some (.nx (Ji hs deep acc (encM row (.head k lo hi)) ((0, .line) :: t) [])) := rfl
        have wh : ∀ fl : Fl, b_law_steps_of_2 r (Jo hs deep ((row, .head k lo hi) :: t) acc) = some fl → whGo (w_law_steps_of_2 r) (b_law_steps_of_2 r) [4, 5, 6, 7] (m + 1) (Jo hs deep ((row, .head k lo hi) :: t) acc) = (match fl with
            | .nx r' => whGo (w_law_steps_of_2 r) (b_law_steps_of_2 r) [4, 5, 6, 7] m (clr [4, 5, 6, 7] r')
            | .ct r' => whGo (w_law_steps_of_2 r) (b_law_steps_of_2 r) [4, 5, 6, 7] m (clr [4, 5, 6, 7] r')
            | .bk r' => some (.nx (clr [4, 5, 6, 7] r'))
            | .rt d => some (.rt d)
            | .rx d r' => some (.rx d r')
            | .ex x => some (.ex x)
            | .rl b => some (.rl b)) := fun fl h => by
          rw [whGo, w2_ok]
          simp only [Option.bind_some, isLH, if_true, h]
          all_goals (cases fl <;> rfl)
        have pre : ∀ res : Option Fl, fSeq (fWhile wf (w_law_steps_of_1 r) [7] (b_law_steps_of_1 r)) fB (Ji hs deep acc (encM row (.head k lo hi)) ((0, .line) :: t) []) = res → b_law_steps_of_2 r (Jo hs deep ((row, .head k lo hi) :: t) acc) = res := fun res h => seq_nx s4 (seq_nx s0 (seq_nx (if_n tk) (seq_nx s0' (seq_nx s5 h))))
        unfold stsM
        dsimp only
        rcases loopP_law (r := r) (hs := hs) (deep := deep) (n := n - 1) (acc := acc) (mk := encM row (.head k lo hi)) hr hk wf [] ((0, .line) :: t) (by show _ < 100000; simp; omega) hgl (by simp; omega) with ⟨i1, y, i2⟩ | ⟨qs, q, i1, ⟨u, i2, i3⟩, i4, i5⟩
        · rw [i1]
          refine .inl ⟨rfl, y, ?_⟩
          rw [wh _ (pre _ (seq_rt i2))]
        · rw [i1]
          rcases fB_ok (hs := hs) (deep := deep) (acc := acc) (row := row) (lo := lo) (hi := hi) (ms := q) (ps := qs) hok (by omega) (by simp at i4; omega) with ⟨f1, f2⟩ | ⟨x, q', row2, v5, v6, f1, f2, f3⟩
          · rw [f1]
            refine .inl ⟨rfl, .tuple [], ?_⟩
            rw [wh _ (pre _ (seq_nx i5 f2))]
          · rw [f1, wh _ (pre _ (seq_nx i5 f3))]
            have hg2 : Gd (n - 1) q := Gd.suf0 (p := u) (by rw [← i2]; exact hgl) i3
            rw [f2] at hg2
            have hg3 : Gd n q' := by
              have := Gd.suf (p := [(row2, Mk.foot)]) hg2
              have e : n - 1 - hdN [(row2, Mk.foot)] = n := by simp [hdN]
              rw [e] at this
              exact this
            have hql : q'.length + 1 ≤ t.length + 1 := by
              have := congrArg List.length i2
              rw [f2] at this
              simp at this
              omega
            exact loopS_law hr hk m (acc ++ [x]) q' (by omega) hg3 (by simp; omega)
theorem steps_law {n : Int} {rec : List MkR → Option (Steps × List MkR)} (hr : ∀ t, Gd (n - 1) t → ∃ z, r [msD t, hsD hs, .int ((deep + 1 : Nat) : Int)] = some z ∧ RS (rec t) z)
    (hk : ∀ t s q, OkMs t → rec t = some (s, q) → ∃ u, t = u ++ q ∧ hdN u = 0) {ms : List MkR} (hg : Gd n ms) : ∃ z, runF 8 (f_law_steps_of r) [msD ms, hsD hs, .int (deep : Nat)] = some z ∧ RS (finM (stsM hs deep rec wf [] ms)) z := by
  have s1 : fSet 3 (eTup aNil) [some (msD ms), some (hsD hs), some (.int (deep : Nat)), none, none, none, none, none] = some (.nx (Jo hs deep ms [])) := rfl
  rcases loopS_law (r := r) (hs := hs) (deep := deep) hr hk wf [] ms (by have := hg.2.2; show _ < 100000; omega) hg (by have := hg.2.2; simp; omega) with ⟨i1, y, i2⟩ | ⟨s, q, i1, i3, i2⟩
  · rw [i1]
    exact ⟨_, run_of (seq_nx s1 (seq_rt i2)), y, rfl⟩
  · rw [i1]
    have hgt : eB (TF.e2 (TF.e1 (eVar 3) dLen) (eC (.int 4)) dGt) (Jo hs deep q s) = some (.bool (decide (4 < s.length))) := by
      have := e2_of (ρ := Jo hs deep q s) (f := TF.e1 (eVar 3) dLen) (g := eC (.int 4)) (k := dGt) (x := .int (s.length : Nat)) (y := .int 4) (e1_of rfl (by unfold ssD; rw [dLen_tup, List.length_map])) rfl dGt_int
      rw [eB_ev, this]
      show some (PyData.bool _) = _
      congr 2
      exact decide_eq_decide.mpr (by omega)
    have hL : eL (eLst (aCons (eVar 3) (aCons (eC .none) aNil))) (Jo hs deep q s) = some (.list [ssD s, .none]) := eL_of (lst2 rfl rfl)
    by_cases h4 : 4 < s.length
    · rw [decide_eq_true h4] at hgt
      refine ⟨_, run_of (seq_nx s1 (seq_nx i2 (ret_of (tup2 (e2_of hL (e1_of hgt rfl) dIx_lst1) rfl)))), ?_⟩
      show RS (if 4 < s.length then none else some (s, q)) _
      rw [if_pos h4]
      exact ⟨_, rfl⟩
    · rw [decide_eq_false h4] at hgt
      refine ⟨_, run_of (seq_nx s1 (seq_nx i2 (ret_of (tup2 (e2_of hL (e1_of hgt rfl) dIx_lst0) rfl)))), ?_⟩
      show RS (if 4 < s.length then none else some (s, q)) _
      rw [if_neg h4]; rfl
end
theorem reader_law {hs : List Str} : ∀ (n deep : Nat) (ms : List MkR), Gd (n : Nat) ms → ∃ z, m_law_steps_of (n + 1) [msD ms, hsD hs, .int (deep : Nat)] = some z ∧ RS (lsM hs n deep ms) z
  | 0, deep, ms, hg => by
    rw [u_law_steps_of]
    exact steps_law (rec := fun _ => none) (fun t ht => absurd ht.1.pos (by simp)) (fun t s q _ h => by cases h) hg
  | n + 1, deep, ms, hg => by
    rw [u_law_steps_of]
    refine steps_law (rec := lsM hs n (deep + 1)) (fun t ht => ?_) (fun t s q ho h => (lsM_snd n (deep + 1) t s q ho h).2.2) hg
    have e : ((n + 1 : Nat) : Int) - 1 = (n : Nat) := by omega
    rw [e] at ht
    exact reader_law n (deep + 1) t ht
/-! k40: the program's reader tells of all marks -/
section
variable {hs : List Str} {ms : List MkR}
def Neu (ms : List MkR) (i j : Nat) : Prop := ∃ u, ms.drop i = u ++ ms.drop j ∧ hdN u = 0
theorem Neu.refl (ms : List MkR) (i : Nat) : Neu ms i i := ⟨[], rfl, rfl⟩
theorem Neu.trans {i j k : Nat} (h1 : Neu ms i j) (h2 : Neu ms j k) : Neu ms i k := by
  obtain ⟨u, e1, z1⟩ := h1
  obtain ⟨v, e2, z2⟩ := h2
  exact ⟨u ++ v, by rw [e1, e2, List.append_assoc], by rw [hdN_app]; omega⟩
theorem Neu.bal {D : Int} {i j : Nat} (h : Neu ms i j) (b : Bal D (ms.drop i)) : Bal D (ms.drop j) := by
  obtain ⟨u, e, z⟩ := h
  rw [e] at b
  have := b.suf
  rw [z] at this
  simpa using this
theorem drop_at {i : Nat} {p : MkR} (h : ms[i]? = some p) : ms.drop i = p :: ms.drop (i + 1) := by
  obtain ⟨hl, e⟩ := List.getElem?_eq_some_iff.mp h
  rw [List.drop_eq_getElem_cons hl, e]
def PQ (ms : List MkR) (n : Nat) (i : Nat) (r : PR (List PT)) : Prop := ∀ ts j, r = .ok ts j → i ≤ j ∧ j ≤ ms.length ∧ Neu ms i j ∧ San (n + 1) (ptsD ts)
def QQ (ms : List MkR) (n : Nat) (i : Nat) (r : PR PT) : Prop := ∀ t j, r = .ok t j → i < j ∧ j ≤ ms.length ∧ Neu ms i j ∧ San n (ptD t)
theorem San.mkT2 {n : Nat} {ds : List PyData} (h : ds.length ≤ 1000000) (h2 : ∀ d ∈ ds, San n d) : San (n + 1) (.tuple ds) := by unfold San; exact ⟨h, h2⟩
theorem loopS_tot {D : Int} {n : Nat} {stp : Nat → Option (PR PT)} (hl : ms.length ≤ 90000) (hst : ∀ i, ((ms[i]?).any fun p => isLH p.2) = true → Bal D (ms.drop i) → ∃ r, stp i = some r ∧ QQ ms n i r) :
    ∀ (m i : Nat) (acc : List PT), ms.length - i < m → i ≤ ms.length → Bal D (ms.drop i) → (∀ t ∈ acc, San n (ptD t)) → acc.length + (ms.length - i) ≤ 90000 → ∃ r, loopS stp ms m i acc = some r ∧ PQ ms n i r
  | 0, i, acc, h, _, _, _, _ => by omega
  | m + 1, i, acc, hm, hi, hb, ha, hal => by
    unfold loopS
    cases hc : (ms[i]?).any fun p => isLH p.2 with
    | false =>
      refine ⟨_, rfl, fun ts j e => ?_⟩
      cases e
      refine ⟨Nat.le_refl _, hi, Neu.refl ms i, San.mkT2 (by rw [List.length_map]; omega) fun d hd => ?_⟩
      obtain ⟨t, ht, rfl⟩ := List.mem_map.mp hd
      exact ha t ht
    | true =>
      obtain ⟨r, h1, h2⟩ := hst i hc hb
      rw [if_pos rfl, h1]
      cases r with
      | ex => exact ⟨_, rfl, fun ts j e => by cases e⟩
      | ok t j =>
        obtain ⟨g1, g2, g3, g4⟩ := h2 t j rfl
        obtain ⟨r', f1, f2⟩ := loopS_tot hl hst m j (acc ++ [t]) (by omega) g2 (g3.bal hb) (fun x hx => by
          rcases List.mem_append.mp hx with hx | hx
          · exact ha x hx
          · have : x = t := by simpa using hx
            subst this; exact g4) (by simp; omega)
        refine ⟨r', f1, fun ts j' e => ?_⟩
        obtain ⟨q1, q2, q3, q4⟩ := f2 ts j' e
        exact ⟨by omega, q2, g3.trans q3, q4⟩
theorem loopP_tot {D : Int} {n : Nat} {sts : Nat → Option (PR (List PT))} (hl : ms.length ≤ 90000) (hst : ∀ i, i ≤ ms.length → Bal D (ms.drop i) → ∃ r, sts i = some r ∧ PQ ms n i r) :
    ∀ (m i : Nat) (acc : List (List PT)), ms.length - i < m → i ≤ ms.length → Bal D (ms.drop i) → (∀ t ∈ acc, San (n + 1) (ptsD t)) → acc.length + (ms.length - i) ≤ 90001 → ∃ r, loopP sts ms m i acc = some r ∧ ∀ ps j, r = .ok ps j → i ≤ j ∧ j ≤ ms.length ∧ Neu ms i j ∧ (∀ t ∈ ps, San (n + 1) (ptsD t)) ∧ ps.length ≤ 90001
  | 0, i, acc, h, _, _, _, _ => by omega
  | m + 1, i, acc, hm, hi, hb, ha, hal => by
    unfold loopP
    cases hc : (ms[i]?).any fun p => isLn p.2 with
    | false =>
      refine ⟨_, rfl, fun ps j e => ?_⟩
      cases e
      exact ⟨Nat.le_refl _, hi, Neu.refl ms i, ha, by omega⟩
    | true =>
      obtain ⟨p, hp, hp2⟩ : ∃ p, ms[i]? = some p ∧ isLn p.2 = true := by
        cases e : ms[i]? with
        | none => rw [e] at hc; cases hc
        | some p => rw [e] at hc; exact ⟨p, rfl, hc⟩
      have hi1 : i + 1 ≤ ms.length := (List.getElem?_eq_some_iff.mp hp).1
      have hn1 : Neu ms i (i + 1) := by
        refine ⟨[p], by rw [drop_at hp]; rfl, ?_⟩
        obtain ⟨row, k⟩ := p
        cases k with
        | line => rfl
        | _ => cases hp2
      obtain ⟨r, h1, h2⟩ := hst (i + 1) hi1 (hn1.bal hb)
      rw [if_pos rfl, h1]
      cases r with
      | ex => exact ⟨_, rfl, fun ts j e => by cases e⟩
      | ok t j =>
        obtain ⟨g1, g2, g3, g4⟩ := h2 t j rfl
        obtain ⟨r', f1, f2⟩ := loopP_tot hl hst m j (acc ++ [t]) (by omega) g2 (g3.bal (hn1.bal hb)) (fun x hx => by
          rcases List.mem_append.mp hx with hx | hx
          · exact ha x hx
          · have : x = t := by simpa using hx
            subst this; exact g4) (by simp; omega)
        refine ⟨r', f1, fun ts j' e => ?_⟩
        obtain ⟨q1, q2, q3, q4⟩ := f2 ts j' e
        exact ⟨by omega, q2, hn1.trans (g3.trans q3), q4⟩
theorem body_tot {D : Int} {n : Nat} {sts : Nat → Option (PR (List PT))} (hl : ms.length ≤ 90000) (hw : ∀ a ∈ hs, a.length ≤ 1000000) (ho : OkMs ms) (hst : ∀ i, i ≤ ms.length → Bal (D - 1) (ms.drop i) → ∃ r, sts i = some r ∧ PQ ms n i r) (h1n : 0 < D → True) {i : Nat} (hi : ((ms[i]?).any fun p => isLH p.2) = true) (hb : Bal D (ms.drop i)) :
    ∃ r, bodyT hs ms sts i = some r ∧ QQ ms (n + 3) i r := by
  obtain ⟨p, hp⟩ : ∃ p, ms[i]? = some p := by
    cases e : ms[i]? with
    | none => rw [e] at hi; cases hi
    | some p => exact ⟨p, rfl⟩
  rw [hp] at hi
  have hi1 : i + 1 ≤ ms.length := (List.getElem?_eq_some_iff.mp hp).1
  have hd := drop_at hp
  obtain ⟨row, k⟩ := p
  cases k with
  | line => cases hi
  | foot => cases hi
  | letter a b w =>
    have eb : bodyT hs ms sts i = tellP (lane hs a) (lane hs b) w i := by unfold bodyT; rw [hp]
    rw [eb]
    cases ea : lane hs a with
    | none => exact ⟨.ex, rfl, fun t j e => by cases e⟩
    | some x =>
      cases eb2 : lane hs b with
      | none => exact ⟨.ex, rfl, fun t j e => by cases e⟩
      | some y =>
        refine ⟨_, rfl, fun t j e => ?_⟩
        cases e
        refine ⟨by omega, hi1, ⟨[(row, .letter a b w)], by rw [hd]; rfl, rfl⟩, ?_⟩
        rw [ptD_tell]
        have hww : IsNm w := ho (row, .letter a b w) (List.mem_of_getElem? hp)
        refine San.mkT2 (by simp) fun d hd => ?_
        simp at hd
        rcases hd with rfl | rfl | rfl | rfl
        · exact San.mkS (by decide)
        · exact San.mkS (hw x (lane_mem ea))
        · exact San.mkS (hw y (lane_mem eb2))
        · exact San.mkS (nm_len hww)
  | head k lo hi2 =>
    have eb : bodyT hs ms sts i = midP ms sts k (sts (i + 1)) := by unfold bodyT; rw [hp]
    rw [eb]
    have hk : k = "choice" ∨ k = "round" ∨ k = "both" := ho (row, .head k lo hi2) (List.mem_of_getElem? hp)
    have hkl : k.length ≤ 1000000 := by rcases hk with rfl | rfl | rfl <;> decide
    have hb1 : Bal (D - 1) (ms.drop (i + 1)) := by
      rw [hd] at hb
      exact Bal.suf (p := [(row, .head k lo hi2)]) hb
    obtain ⟨r1, s1, s2⟩ := hst (i + 1) hi1 hb1
    rw [s1]
    cases r1 with
    | ex => exact ⟨.ex, rfl, fun t j e => by cases e⟩
    | ok p j =>
      obtain ⟨g1, g2, g3, g4⟩ := s2 p j rfl
      obtain ⟨r2, f1, f2⟩ := loopP_tot hl hst wf j [p] (by show _ < 100000; omega) g2 (g3.bal hb1) (fun t ht => by
        have : t = p := by simpa using ht
        subst this; exact g4) (by simp; omega)
      show ∃ r, endP ms k (loopP sts ms wf j [p]) = some r ∧ _
      rw [f1]
      cases r2 with
      | ex => exact ⟨.ex, rfl, fun t j e => by cases e⟩
      | ok ps j2 =>
        obtain ⟨q1, q2, q3, q4, q5⟩ := f2 ps j2 rfl
        show ∃ r, (if ((ms[j2]?).any fun p => isFt p.2) = true then some (PR.ok (PT.node k ps) (j2 + 1)) else some .ex) = some r ∧ _
        cases hf : (ms[j2]?).any fun p => isFt p.2 with
        | false => exact ⟨.ex, rfl, fun t j e => by cases e⟩
        | true =>
          refine ⟨_, rfl, fun t j' e => ?_⟩
          cases e
          obtain ⟨pf, hpf, hpf2⟩ : ∃ p, ms[j2]? = some p ∧ isFt p.2 = true := by
            cases e : ms[j2]? with
            | none => rw [e] at hf; cases hf
            | some p => rw [e] at hf; exact ⟨p, rfl, hf⟩
          have hj1 : j2 + 1 ≤ ms.length := (List.getElem?_eq_some_iff.mp hpf).1
          obtain ⟨row2, kf⟩ := pf
          have : kf = .foot := by cases kf <;> first | rfl | cases hpf2
          subst this
          obtain ⟨u, e1, z1⟩ := g3
          obtain ⟨v, e2, z2⟩ := q3
          refine ⟨by omega, hj1, ⟨(row, .head k lo hi2) :: (u ++ (v ++ [(row2, .foot)])), ?_, ?_⟩, ?_⟩
          · rw [hd, e1, e2, drop_at hpf]; simp
          · show 1 + hdN (u ++ (v ++ [(row2, .foot)])) = 0
            rw [hdN_app, hdN_app, z1, z2]; rfl
          · rw [ptD_node]
            have pp : San (n + 2) (.tuple (ps.map ptsD)) := San.mkT2 (by rw [List.length_map]; omega) fun x hx => by
              obtain ⟨p, hp, rfl⟩ := List.mem_map.mp hx
              exact q4 p hp
            by_cases hkc : k = "choice"
            · rw [if_pos hkc]
              exact San.mkT2 (by simp) fun x hx => by
                simp at hx
                rcases hx with rfl | rfl
                · exact San.mkS (by decide)
                · exact pp
            · rw [if_neg hkc]
              exact San.mkT2 (by rw [List.length_cons, List.length_map]; omega) fun x hx => by
                rcases List.mem_cons.mp hx with rfl | hx
                · exact San.mkS hkl
                · obtain ⟨p, hp, rfl⟩ := List.mem_map.mp hx
                  exact (q4 p hp).up
theorem pS_tot (hl : ms.length ≤ 90000) (hw : ∀ a ∈ hs, a.length ≤ 1000000) (ho : OkMs ms) : ∀ (D n : Nat), 2 * D + 2 ≤ n → ∀ i, i ≤ ms.length → Bal (D : Nat) (ms.drop i) → ∃ r, pSteps hs ms n i = some r ∧ PQ ms (3 * D + 3) i r
  | 0, n, hn, i, hi, hb => by
    obtain ⟨n, rfl⟩ : ∃ m, n = m + 1 + 1 := ⟨n - 2, by omega⟩
    rw [pSteps_eq]
    refine loopS_tot (D := ((0 : Nat) : Int)) (n := 3) hl (fun i hi hb => ?_) wf i [] (by show _ < 100000; omega) hi hb (fun t ht => absurd ht (by simp)) (by simp; omega)
    rw [pStep_eq]
    exact body_tot (n := 0) hl hw ho (fun i _ h => absurd h.pos (by simp)) (fun _ => trivial) hi hb
  | D + 1, n, hn, i, hi, hb => by
    obtain ⟨n, rfl⟩ : ∃ m, n = m + 1 + 1 := ⟨n - 2, by omega⟩
    rw [pSteps_eq]
    refine loopS_tot (D := ((D + 1 : Nat) : Int)) (n := 3 * (D + 1) + 3) hl (fun i hi hb => ?_) wf i [] (by show _ < 100000; omega) hi hb (fun t ht => absurd ht (by simp)) (by simp; omega)
    rw [pStep_eq]
    exact body_tot (n := 3 * D + 3) hl hw ho (fun i hi h => by
      have e : ((D + 1 : Nat) : Int) - 1 = (D : Nat) := by omega
      rw [e] at h
      exact pS_tot hl hw ho D n (by omega) i hi h) (fun _ => trivial) hi hb
end
theorem hsD_inj {a b : List Str} (h : hsD a = hsD b) : a = b := TK.map_inj_on (f := PyData.str) (fun a _ b e => PyData.str.inj e) (PyData.tuple.inj h)
/-- unlaid tells of all marks -/
theorem unlaid_tot {hs : List Str} (hok : HsOk hs) {ms : List MkR} (hl : ms.length ≤ 90000) (ho : OkMs ms) (hb : Bal 7 ms) : m_unlaid [hsD hs, .tuple (ms.map mrD)] = some (.ex "NoTalk") ∨ ∃ s : Steps, s.length ≤ 4 ∧ (∀ x ∈ s, VT hs 3 x) ∧ ms.map mrD = mkD 0 (mkss hs s) := by
  obtain ⟨r, h1, h2⟩ := pS_tot (hs := hs) hl (fun a ha => nm_len (hok.2.2.2 a ha)) ho 7 fu_Marks_steps (by decide) 0 (Nat.zero_le _) hb
  cases r with
  | ex => exact .inl (unlaid_pex h1)
  | ok ts j =>
    obtain ⟨_, g2, _, g4⟩ := h2 ts j rfl
    have hsan : San 26 (.tuple [hsD hs, ptsD ts]) := San.mkT2 (by simp) fun d hd => by
      simp at hd
      rcases hd with rfl | rfl
      · refine San.mkT2 (by rw [List.length_map]; have := hok.2.1; omega) fun e he => ?_
        obtain ⟨y, hy, rfl⟩ := List.mem_map.mp he
        exact San.mkS (nm_len (hok.2.2.2 y hy))
      · exact g4
    have hit := is_talk_ok hsan (by decide)
    have t1 : TF.e2 (eFld 2 "Marks" "at") (TF.e1 (eVar 1) dLen) dLtA [some (hsD hs), some (.tuple (ms.map mrD)), some (stM hs ms j), some (.tuple [hsD hs, ptsD ts])] = some (decide (j < ms.length)) := by
      refine e2_of (x := .int (j : Nat)) (y := .int (ms.length : Nat)) (fld_at rfl) (e1_of rfl (by simp)) ?_
      rw [dLtA_int]
      congr 1
      exact decide_eq_decide.mpr (by omega)
    have no : ∀ {t : Rho → Option Bool}, (t = tOr (TF.e2 (eFld 2 "Marks" "at") (TF.e1 (eVar 1) dLen) dLtA) (tOr (tNot (eT (eCall 1 m_is_talk (aCons (eVar 3) aNil)))) (TF.e2 (eCall 1 m_laid (aCons (eVar 3) aNil)) (eVar 1) dNe))) → t [some (hsD hs), some (.tuple (ms.map mrD)), some (stM hs ms j), some (.tuple [hsD hs, ptsD ts])] = some true → m_unlaid [hsD hs, .tuple (ms.map mrD)] = some (.ex "NoTalk") := fun {t} e h => by
      subst e
      exact runX_ex (n := 4) (f := f_unlaid) (ds := [hsD hs, .tuple (ms.map mrD)]) (unlaid_nx h1 (seq_ex (if_t h rfl)))
    by_cases hj : j < ms.length
    · rw [decide_eq_true hj] at t1
      exact .inl (no rfl (or_t1 t1))
    · rw [decide_eq_false hj] at t1
      have t2 : tNot (eT (eCall 1 m_is_talk (aCons (eVar 3) aNil))) [some (hsD hs), some (.tuple (ms.map mrD)), some (stM hs ms j), some (.tuple [hsD hs, ptsD ts])] = some (!talkB 26 (.tuple [hsD hs, ptsD ts])) := by
        rw [tNot_ev, eT_ev, call1 (x := .tuple [hsD hs, ptsD ts]) rfl hit]; rfl
      cases ht : talkB 26 (.tuple [hsD hs, ptsD ts]) with
      | false =>
        rw [ht] at t2
        exact .inl (no rfl (or_t2 t1 (or_t1 t2)))
      | true =>
        rw [ht] at t2
        obtain ⟨hs', ss, e, e1, e2, e3⟩ := talk_inv ht
        have e' := e
        simp only [PyData.tuple.injEq, List.cons.injEq, and_true] at e'
        obtain ⟨f1, f2⟩ := e'
        have := hsD_inj f1
        subst this
        obtain ⟨z1, z2⟩ := VT.sizes e3 (by omega) (Nat.le_refl _)
        have hla := laid_ok (hs := hs) (s := ss) (by omega) (by omega) (VT.inH e3)
        have t3 : TF.e2 (eCall 1 m_laid (aCons (eVar 3) aNil)) (eVar 1) dNe [some (hsD hs), some (.tuple (ms.map mrD)), some (stM hs ms j), some (.tuple [hsD hs, ptsD ts])] = some (!PyData.eqv (.tuple (mkD 0 (mkss hs ss))) (.tuple (ms.map mrD))) := by
          refine e2_of (call1 (x := tkD hs ss) (by show some _ = some _; rw [e]; rfl) hla) rfl ?_
          show (if _ then _ else _) = _
          rw [if_pos ⟨mkD_pl _ _, msD_pl ms⟩]
        by_cases hq : PyData.eqv (.tuple (mkD 0 (mkss hs ss))) (.tuple (ms.map mrD)) = true
        · have := (eqv_iff _ _ (mkD_nb _ _) (msD_nb ms)).mp hq
          exact .inr ⟨ss, e2, e3, (PyData.tuple.inj this).symm⟩
        · have hq : PyData.eqv (.tuple (mkD 0 (mkss hs ss))) (.tuple (ms.map mrD)) = false := by simpa using hq
          rw [hq] at t3
          exact .inl (no rfl (or_t2 t1 (or_t2 t2 t3)))
/-! k40: marks changed -/
theorem tcut_mid (ds : List PyData) (i j : Nat) : dSl (.tuple ds) (some ((i : Nat) : Int)) (some ((j : Nat) : Int)) = some (.tuple ((ds.drop i).take (j - i))) := by
  rw [dSl_tup]
  congr 2
  unfold TF.cutD
  rw [HT.sIx_nat, HT.sIx_nat]
  by_cases h : i ≤ ds.length
  · have e : min i ds.length = i := by omega
    rw [e]
    by_cases h2 : j ≤ ds.length
    · have e2 : min j ds.length = j := by omega
      rw [e2]
    · have e2 : min j ds.length = ds.length := by omega
      rw [e2, List.take_of_length_le (by rw [List.length_drop]; omega), List.take_of_length_le (by rw [List.length_drop]; omega)]
  · have e : min i ds.length = ds.length := by omega
    rw [e, List.drop_of_length_le (Nat.le_refl _), List.drop_of_length_le (by omega)]
    simp
theorem tcut_from (ds : List PyData) (i : Nat) : dSl (.tuple ds) (some ((i : Nat) : Int)) none = some (.tuple (ds.drop i)) := by
  rw [dSl_tup]
  congr 2
  unfold TF.cutD
  rw [HT.sIx_nat, HT.sIx_none]
  by_cases h : i ≤ ds.length
  · have e : min i ds.length = i := by omega
    rw [e, List.take_of_length_le (by rw [List.length_drop]; omega)]
  · have e : min i ds.length = ds.length := by omega
    rw [e, List.drop_of_length_le (Nat.le_refl _), List.drop_of_length_le (by omega)]
    simp
theorem tcut_to (ds : List PyData) (j : Nat) : dSl (.tuple ds) none (some ((j : Nat) : Int)) = some (.tuple (ds.take j)) := by
  rw [dSl_tup]
  congr 2
  unfold TF.cutD
  rw [HT.sIx_nat, HT.sIx_none, List.drop_zero, Nat.sub_zero]
  by_cases h : j ≤ ds.length
  · have e : min j ds.length = j := by omega
    rw [e]
  · have e : min j ds.length = ds.length := by omega
    rw [e, List.take_of_length_le (Nat.le_refl _), List.take_of_length_le (by omega)]
theorem ms_to (ms : List MkR) (j : Nat) : dSl (msD ms) none (some ((j : Nat) : Int)) = some (msD (ms.take j)) := by
  unfold msD; rw [tcut_to, List.map_take]
theorem ms_from (ms : List MkR) (j : Nat) : dSl (msD ms) (some ((j : Nat) : Int)) none = some (msD (ms.drop j)) := by
  unfold msD; rw [tcut_from, List.map_drop]
theorem ms_mid (ms : List MkR) (i j : Nat) : dSl (msD ms) (some ((i : Nat) : Int)) (some ((j : Nat) : Int)) = some (msD ((ms.drop i).take (j - i))) := by
  unfold msD; rw [tcut_mid, List.map_take, List.map_drop]
theorem ms_add {f g : Rho → Option PyData} {ρ : Rho} {a b : List MkR} (h1 : f ρ = some (msD a)) (h2 : g ρ = some (msD b)) (h : a.length + b.length ≤ 1000000) : TF.e2 f g dAddA ρ = some (msD (a ++ b)) := e2_of h1 h2 (by
  unfold msD
  rw [addT (by rw [List.length_map, List.length_map]; omega), List.map_append])
/-! .. what stays -/
theorem bal_T {D : Int} {T R : List MkR} {m : MkR} (h : Bal D (T ++ m :: R)) : (∀ p q, T = p ++ q → hdN p ≤ D) ∧ (∀ p q, R = p ++ q → hdN T + hdN [m] + hdN p ≤ D) := by
  refine ⟨fun p q e => h p (q ++ m :: R) (by rw [e, List.append_assoc]), fun p q e => ?_⟩
  have := h (T ++ ([m] ++ p)) q (by rw [e]; simp)
  rw [hdN_app, hdN_app] at this
  omega
theorem bal_repl {D : Int} {T R X : List MkR} {m : MkR} (h : Bal D (T ++ m :: R)) (hx : ∀ x y, X = x ++ y → hdN x ≤ 1 ∨ hdN x ≤ hdN [m] + 1) (hX : hdN X ≤ hdN [m] + 1) : Bal (D + 1) (T ++ (X ++ R)) := by
  obtain ⟨h1, h2⟩ := bal_T h
  intro p q e
  rcases List.append_eq_append_iff.mp e with ⟨a, ea, eb⟩ | ⟨c, ec, ed⟩
  · -- T is within p
    subst ea
    rcases List.append_eq_append_iff.mp eb with ⟨a2, ea2, eb2⟩ | ⟨c2, ec2, ed2⟩
    · subst ea2
      have := h2 a2 q eb2
      rw [hdN_app, hdN_app]; omega
    · have h3 := hx a c2 ec2
      have h4 := h1 T [] (by simp)
      have h5 := h2 [] R rfl
      simp only [hdN] at h5
      rw [hdN_app]
      rcases h3 with h3 | h3 <;> omega
  · have := h1 p c ec
    omega
theorem hd_one (m : MkR) : -1 ≤ hdN [m] ∧ hdN [m] ≤ 1 := by
  obtain ⟨row, k⟩ := m
  cases k <;> simp [hdN]
theorem bal_one {D : Int} {T R : List MkR} {m m' : MkR} (h : Bal D (T ++ m :: R)) (hm : hdN [m'] ≤ hdN [m] + 1) : Bal (D + 1) (T ++ ([m'] ++ R)) := bal_repl h (fun x y e => by
  cases x with
  | nil => exact .inl (by simp [hdN])
  | cons x0 x =>
    have : x0 = m' ∧ x = [] := by
      cases x with
      | nil => simp at e; exact ⟨e.1.symm, rfl⟩
      | cons x1 x => simp at e
    obtain ⟨rfl, rfl⟩ := this
    exact .inr hm) hm
theorem bal_zero {D : Int} {T R : List MkR} {m : MkR} (h : Bal D (T ++ m :: R)) : Bal (D + 1) (T ++ R) := bal_repl (X := []) h (fun x y e => by
  have : x = [] := by cases x with
    | nil => rfl
    | cons _ _ => simp at e
  subst this
  exact .inl (by simp [hdN])) (by have := (hd_one m).1; simp only [hdN]; omega)
theorem bal_two {D : Int} {T R : List MkR} {m : MkR} (h : Bal D (T ++ m :: R)) : Bal (D + 1) (T ++ ([m, m] ++ R)) := by
  have h1 := hd_one m
  have e2 : hdN [m, m] = hdN [m] + hdN [m] := hdN_app [m] [m]
  refine bal_repl (X := [m, m]) h (fun x y e => ?_) (by omega)
  match x, e with
  | [], _ => exact .inl (by simp [hdN])
  | [a], e => simp at e; obtain ⟨rfl, _⟩ := e; exact .inl h1.2
  | [a, b], e => simp at e; obtain ⟨rfl, rfl, _⟩ := e; exact .inr (by omega)
  | _ :: _ :: _ :: _, e => simp at e
theorem bal_swap {D : Int} {T R : List MkR} {a b : MkR} (h : Bal D (T ++ a :: b :: R)) : Bal (D + 1) (T ++ ([b, a] ++ R)) := by
  intro p q e
  have hb := hd_one b
  obtain ⟨h1, h2⟩ := bal_T h
  have hT := h1 T [] (by simp)
  rcases List.append_eq_append_iff.mp e with ⟨c, ea, eb⟩ | ⟨c, ec, ed⟩
  · subst ea
    rw [hdN_app]
    match c, eb with
    | [], _ => simp only [hdN]; omega
    | [x], eb => simp at eb; obtain ⟨rfl, _⟩ := eb; omega
    | x :: y :: c, eb =>
      simp at eb
      obtain ⟨rfl, rfl, eb⟩ := eb
      have h3 := h2 (b :: c) q (by rw [eb]; rfl)
      have e1 : hdN (b :: a :: c) = hdN [b] + (hdN [a] + hdN c) := by
        rw [show b :: a :: c = [b] ++ ([a] ++ c) from rfl, hdN_app, hdN_app]
      have e2 : hdN (b :: c) = hdN [b] + hdN c := by rw [show b :: c = [b] ++ c from rfl, hdN_app]
      omega
  · have := h1 p c ec
    omega
theorem okMs_app {a b : List MkR} (h1 : OkMs a) (h2 : OkMs b) : OkMs (a ++ b) := fun m hm => by
  rcases List.mem_append.mp hm with hm | hm
  · exact h1 m hm
  · exact h2 m hm
theorem enc1 (row : Int) (k : Mk) : dIx (encM row k) (.int 1) = some (.int row) := by cases k <;> simp [encM]
theorem changed_ok {ms : List MkR} {num : Int} {D : Int} (hne : ms ≠ []) (hl : ms.length ≤ 80000) (ho : OkMs ms) (hb : Bal D ms) : ∃ ms', m_law_changed [msD ms, .int num] = some (msD ms') ∧ OkMs ms' ∧ Bal (D + 1) ms' ∧ ms'.length ≤ ms.length + 1 := by
  have hpos : 0 < ms.length := List.length_pos_iff.mpr hne
  obtain ⟨a0, a1⟩ := mod_lt' (num / 8) (b := (ms.length : Int)) (by omega)
  obtain ⟨a, ha⟩ := nat_of a0
  have hal : a < ms.length := by omega
  obtain ⟨k0, k1⟩ := mod_lt' num (b := 7) (by decide)
  have hma : ms[a]? = some ms[a] := by simp [hal]
  have hd0 : ms.drop a = ms[a] :: ms.drop (a + 1) := List.drop_eq_getElem_cons hal
  have hmem : ms[a] ∈ ms := List.getElem_mem hal
  generalize hm : ms[a] = m at hma hd0 hmem
  have hsp : ms = ms.take a ++ m :: ms.drop (a + 1) := by rw [← hd0, List.take_append_drop]
  have hto : OkMs (ms.take a) := fun x hx => ho x (List.mem_of_mem_take hx)
  have hro : OkMs (ms.drop (a + 1)) := fun x hx => ho x (List.mem_of_mem_drop hx)
  have hr2 : OkMs (ms.drop (a + 2)) := fun x hx => ho x (List.mem_of_mem_drop hx)
  have lT : (ms.take a).length = a := by rw [List.length_take]; omega
  have lR : (ms.drop (a + 1)).length = ms.length - (a + 1) := by rw [List.length_drop]
  have lR2 : (ms.drop (a + 2)).length = ms.length - (a + 2) := by rw [List.length_drop]
  have l0 : (ms.drop a).length = ms.length - a := by rw [List.length_drop]
  have lT1 : (ms.take (a + 1)).length = a + 1 := by rw [List.length_take]; omega
  have hbs : Bal D (ms.take a ++ m :: ms.drop (a + 1)) := by rw [← hsp]; exact hb
  obtain ⟨row, k⟩ := m
  let ρ2 : Rho := [some (msD ms), some (.int num), some (.int (a : Nat)), none, none, none]
  let ρ3 : Rho := [some (msD ms), some (.int num), some (.int (a : Nat)), some (encM row k), none, none]
  let ρ : Rho := [some (msD ms), some (.int num), some (.int (a : Nat)), some (encM row k), some (.int (num % 7)), none]
  have s2 : fSet 2 (TF.e2 (TF.e2 (eVar 1) (eC (.int 8)) dDiv) (TF.e1 (eVar 0) dLen) dMod) [some (msD ms), some (.int num), none, none, none, none] = some (.nx ρ2) := set_of (i := 2) (ρ := [some (msD ms), some (.int num), none, none, none, none]) (e2_of (e2_of rfl rfl (by rw [dDiv_ev, if_pos (by decide)])) (e1_of (x := msD ms) rfl (by unfold msD; rw [dLen_tup, List.length_map])) (by rw [dMod_ev, if_pos (by omega), ha]))
  have s3 : fSet 3 (TF.e2 (eVar 0) (eVar 2) dIx) ρ2 = some (.nx ρ3) := set_of (i := 3) (ρ := ρ2) (e2_of rfl rfl (ix_ms hma))
  have s4 : fSet 4 (TF.e2 (eVar 1) (eC (.int 7)) dMod) ρ3 = some (.nx ρ) := set_of (i := 4) (ρ := ρ3) (e2_of rfl rfl (by rw [dMod_ev, if_pos (by decide)]))
  have tq : ∀ (j : Int) (b : Bool), decide (num % 7 = j) = b → TF.e2 (eVar 4) (eC (.int j)) dEq ρ = some b := fun j b h => e2_of rfl rfl (by rw [dEq_int', h])
  have p0 : ∀ ρ : Rho, eVar 2 ρ = some (.int (a : Nat)) → ePart (eVar 2) ρ = some (some ((a : Nat) : Int)) := fun ρ h => by rw [ePart_ev, h]; rfl
  have p1 : ∀ ρ : Rho, eVar 2 ρ = some (.int (a : Nat)) → ePart (TF.e2 (eVar 2) (eC (.int 1)) dAddA) ρ = some (some ((a + 1 : Nat) : Int)) := fun ρ h => by rw [ePart_ev, e2_of h rfl dAddA_int]; simp
  have p2 : ∀ ρ : Rho, eVar 2 ρ = some (.int (a : Nat)) → ePart (TF.e2 (eVar 2) (eC (.int 2)) dAddA) ρ = some (some ((a + 2 : Nat) : Int)) := fun ρ h => by rw [ePart_ev, e2_of h rfl dAddA_int]; simp
  have vT : ∀ ρ : Rho, eVar 0 ρ = some (msD ms) → eVar 2 ρ = some (.int (a : Nat)) → eSl (eVar 0) eNoPart (ePart (eVar 2)) dSl ρ = some (msD (ms.take a)) := fun ρ h0 h2 => slc h0 rfl (p0 ρ h2) (ms_to ms a)
  have vR : ∀ ρ : Rho, eVar 0 ρ = some (msD ms) → eVar 2 ρ = some (.int (a : Nat)) → eSl (eVar 0) (ePart (TF.e2 (eVar 2) (eC (.int 1)) dAddA)) eNoPart dSl ρ = some (msD (ms.drop (a + 1))) := fun ρ h0 h2 => slc h0 (p1 ρ h2) rfl (ms_from ms (a + 1))
  -- a mark for the mark
  have one : ∀ (ρ' : Rho) (f : Rho → Option PyData) (m' : MkR), eVar 0 ρ' = some (msD ms) → eVar 2 ρ' = some (.int (a : Nat)) → f ρ' = some (mrD m') → fRet (TF.e2 (TF.e2 (eSl (eVar 0) eNoPart (ePart (eVar 2)) dSl) (eTup (aCons f aNil)) dAddA) (eSl (eVar 0) (ePart (TF.e2 (eVar 2) (eC (.int 1)) dAddA)) eNoPart dSl) dAddA) ρ' = some (.rt (msD (ms.take a ++ [m'] ++ ms.drop (a + 1)))) := fun ρ' f m' h0 h2 hf =>
    ret_of (ms_add (ms_add (vT ρ' h0 h2) (tup1 hf : _ = some (msD [m'])) (by simp; omega)) (vR ρ' h0 h2) (by simp; omega))
  have fin1 : ∀ m' : MkR, Om m' → hdN [m'] ≤ hdN [(row, k)] + 1 → OkMs (ms.take a ++ [m'] ++ ms.drop (a + 1)) ∧ Bal (D + 1) (ms.take a ++ [m'] ++ ms.drop (a + 1)) ∧ (ms.take a ++ [m'] ++ ms.drop (a + 1)).length ≤ ms.length + 1 := fun m' h1 h2 => by
    refine ⟨okMs_app (okMs_app hto fun x hx => ?_) hro, ?_, by simp; omega⟩
    · have : x = m' := by simpa using hx
      subst this; exact h1
    · rw [List.append_assoc]; exact bal_one hbs h2
  have hom : Om (row, k) := ho _ hmem
  have hk1 := hd_one (row, k)
  have go : ∀ {res : Option Fl} {h : Rho → Option Fl}, h ρ = res → fSeq (fSet 2 (TF.e2 (TF.e2 (eVar 1) (eC (.int 8)) dDiv) (TF.e1 (eVar 0) dLen) dMod)) (fSeq (fSet 3 (TF.e2 (eVar 0) (eVar 2) dIx)) (fSeq (fSet 4 (TF.e2 (eVar 1) (eC (.int 7)) dMod)) h)) [some (msD ms), some (.int num), none, none, none, none] = res := fun h => seq_nx s2 (seq_nx s3 (seq_nx s4 h))
  by_cases c0 : num % 7 = 0
  · refine ⟨ms.take a ++ ms.drop (a + 1), run_of (go (ret_b (tq 0 true (decide_eq_true c0)) (ms_add (vT ρ rfl rfl) (vR ρ rfl rfl) (by omega)))), okMs_app hto hro, bal_zero hbs, by simp; omega⟩
  have t0 := tq 0 false (decide_eq_false c0)
  by_cases c1 : num % 7 = 1
  · have q1 : eSl (eVar 0) eNoPart (ePart (TF.e2 (eVar 2) (eC (.int 1)) dAddA)) dSl ρ = some (msD (ms.take (a + 1))) := slc rfl rfl (p1 ρ rfl) (ms_to ms (a + 1))
    have q2 : eSl (eVar 0) (ePart (eVar 2)) eNoPart dSl ρ = some (msD (ms.drop a)) := slc rfl (p0 ρ rfl) rfl (ms_from ms a)
    have et : ms.take (a + 1) ++ ms.drop a = ms.take a ++ ([(row, k), (row, k)] ++ ms.drop (a + 1)) := by
      rw [hd0, List.take_succ, hma]; simp
    refine ⟨ms.take (a + 1) ++ ms.drop a, run_of (go (seq_if t0 (ret_b (tq 1 true (decide_eq_true c1)) (ms_add q1 q2 (by omega))))), ?_, ?_, by simp; omega⟩
    · exact okMs_app (fun x hx => ho x (List.mem_of_mem_take hx)) (fun x hx => ho x (List.mem_of_mem_drop hx))
    · rw [et]; exact bal_two hbs
  have t1 := tq 1 false (decide_eq_false c1)
  by_cases c2 : num % 7 = 2
  · have q1 : TF.e1 (eSl (eVar 0) (ePart (eVar 2)) (ePart (TF.e2 (eVar 2) (eC (.int 2)) dAddA)) dSl) dRevA ρ = some (msD ((ms.drop a).take 2).reverse) := e1_of (slc rfl (p0 ρ rfl) (p2 ρ rfl) (ms_mid ms a (a + 2))) (by
      have e : a + 2 - a = 2 := by omega
      rw [e]
      show dRevA (.tuple (((ms.drop a).take 2).map mrD)) = some (.tuple (((ms.drop a).take 2).reverse.map mrD))
      rw [dRevA_tup, List.map_reverse])
    have q2 : eSl (eVar 0) (ePart (TF.e2 (eVar 2) (eC (.int 2)) dAddA)) eNoPart dSl ρ = some (msD (ms.drop (a + 2))) := slc rfl (p2 ρ rfl) rfl (ms_from ms (a + 2))
    have l2 : ((ms.drop a).take 2).length ≤ 2 := by rw [List.length_take]; omega
    have hlen : (ms.take a ++ ((ms.drop a).take 2).reverse ++ ms.drop (a + 2)).length ≤ ms.length + 1 := by
      simp only [List.length_append, List.length_reverse, List.length_take, List.length_drop]; omega
    refine ⟨ms.take a ++ ((ms.drop a).take 2).reverse ++ ms.drop (a + 2), run_of (go (seq_if t0 (seq_if t1 (ret_b (tq 2 true (decide_eq_true c2)) (ms_add (ms_add (vT ρ rfl rfl) q1 (by rw [List.length_reverse]; omega)) q2 (by rw [List.length_append, List.length_reverse]; omega)))))), ?_, ?_, hlen⟩
    · refine okMs_app (okMs_app hto fun x hx => ?_) hr2
      exact ho x (List.mem_of_mem_drop (List.mem_of_mem_take (List.mem_reverse.mp hx)))
    · rw [hd0]
      cases e1 : ms.drop (a + 1) with
      | nil =>
        have e2 : ms.drop (a + 2) = [] := by
          have := congrArg (List.drop 1) e1
          rw [List.drop_drop] at this
          simpa using this
        rw [e2]
        have hb' : Bal D (ms.take a ++ [(row, k)]) := by rw [e1] at hbs; exact hbs
        simp only [List.take_succ_cons, List.take_nil, List.reverse_cons, List.reverse_nil, List.nil_append, List.append_nil]
        exact fun p q e => by have := hb' p q e; omega
      | cons b r =>
        have e2 : ms.drop (a + 2) = r := by
          have := congrArg (List.drop 1) e1
          rw [List.drop_drop] at this
          simpa using this
        rw [e2]
        rw [e1] at hbs
        have := bal_swap hbs
        simpa using this
  have t2 := tq 2 false (decide_eq_false c2)
  by_cases c3 : num % 7 = 3
  · have q1 : TF.e2 (TF.e2 (eSl (eVar 3) eNoPart (ePart (eC (.int 1))) dSl) (eTup (aCons (TF.e2 (TF.e2 (eVar 3) (eC (.int 1)) dIx) (eC (.int 1)) dAddA) aNil)) dAddA) (eSl (eVar 3) (ePart (eC (.int 2))) eNoPart dSl) dAddA ρ = some (mrD (row + 1, k)) := by
      have d1 : TF.e2 (TF.e2 (eVar 3) (eC (.int 1)) dIx) (eC (.int 1)) dAddA ρ = some (.int (row + 1)) := e2_of (e2_of rfl rfl (enc1 row k)) rfl dAddA_int
      have hk : ∃ L, encM row k = .tuple L ∧ L.length ≤ 5 ∧ encM (row + 1) k = .tuple (L.take 1 ++ [.int (row + 1)] ++ L.drop 2) := by
        cases k with
        | letter i j w => exact ⟨_, rfl, by simp, rfl⟩
        | head k lo hi => exact ⟨_, rfl, by simp, rfl⟩
        | line => exact ⟨_, rfl, by simp, rfl⟩
        | foot => exact ⟨_, rfl, by simp, rfl⟩
      obtain ⟨L, h1, h2, h3⟩ := hk
      have v3 : eVar 3 ρ = some (.tuple L) := by rw [← h1]; rfl
      have z1 : (L.take 1).length ≤ 1 := by rw [List.length_take]; omega
      have z2 : (L.drop 2).length ≤ 5 := by rw [List.length_drop]; omega
      refine (e2_of (e2_of (slc v3 rfl rfl (tcut_to L 1)) (tup1 d1) (addT (by simp; omega))) (slc v3 rfl rfl (tcut_from L 2)) (addT (by simp; omega))).trans ?_
      show _ = some (encM (row + 1) k)
      rw [h3]
    obtain ⟨f1, f2, f3⟩ := fin1 (row + 1, k) (by cases k <;> exact hom) (by
      have : hdN [(row + 1, k)] = hdN [(row, k)] := by cases k <;> rfl
      omega)
    exact ⟨_, run_of (go (seq_if t0 (seq_if t1 (seq_if t2 (seq_rt (if_t (tq 3 true (decide_eq_true c3)) (one ρ _ (row + 1, k) rfl rfl q1))))))), f1, f2, f3⟩
  have t3 := tq 3 false (decide_eq_false c3)
  have hk3 : ∀ (y : Str) (b : Bool), (wdM k == y) = b → TF.e2 (TF.e2 (eVar 3) (eC (.int 0)) dIx) (eC (.str y)) dEq ρ = some b := fun y b h => e2_of (e2_of rfl rfl (enc0 row k)) rfl (by rw [dEq_str, h])
  have w1 : (("letter" : Str) == "head") = false ∧ (("line" : Str) == "head") = false ∧ (("foot" : Str) == "head") = false ∧ (("head" : Str) == "letter") = false ∧ (("line" : Str) == "letter") = false ∧ (("foot" : Str) == "letter") = false := by decide
  obtain ⟨w1, w2, w3, w4, w5, w6⟩ := w1
  have lin : TF.e2 (TF.e2 (eSl (eVar 0) eNoPart (ePart (eVar 2)) dSl) (eTup (aCons (eTup (aCons (eC (.str "line")) (aCons (TF.e2 (eVar 3) (eC (.int 1)) dIx) aNil))) aNil)) dAddA) (eSl (eVar 0) (ePart (TF.e2 (eVar 2) (eC (.int 1)) dAddA)) eNoPart dSl) dAddA ρ = some (msD (ms.take a ++ [(row, Mk.line)] ++ ms.drop (a + 1))) := by
    have := one ρ (eTup (aCons (eC (.str "line")) (aCons (TF.e2 (eVar 3) (eC (.int 1)) dIx) aNil))) (row, .line) rfl rfl (tup2 rfl (e2_of rfl rfl (enc1 row k)))
    rw [fRet_ev] at this
    cases hc : TF.e2 (TF.e2 (eSl (eVar 0) eNoPart (ePart (eVar 2)) dSl) (eTup (aCons (eTup (aCons (eC (.str "line")) (aCons (TF.e2 (eVar 3) (eC (.int 1)) dIx) aNil))) aNil)) dAddA) (eSl (eVar 0) (ePart (TF.e2 (eVar 2) (eC (.int 1)) dAddA)) eNoPart dSl) dAddA ρ with
    | none => rw [hc] at this; cases this
    | some d => rw [hc] at this; cases this; rfl
  cases k with
  | letter i j w =>
    have hl1 := hk3 "letter" true (show (("letter" : Str) == "letter") = true by decide)
    have hl2 := hk3 "head" false w1
    by_cases c4 : num % 7 = 4
    · have q1 : TF.e2 (eSl (eVar 3) eNoPart (ePart (eC (.int 3))) dSl) (eTup (aCons (TF.e2 (TF.e2 (TF.e2 (eVar 3) (eC (.int 3)) dIx) (eC (.int 1)) dAddA) (eC (.int 5)) dMod) (aCons (TF.e2 (eVar 3) (eC (.int 4)) dIx) aNil))) dAddA ρ = some (mrD (row, .letter i ((j + 1) % 5) w)) := by
        have dj : TF.e2 (eVar 3) (eC (.int 3)) dIx ρ = some (.int j) := e2_of rfl rfl (by show dIx (encM row (.letter i j w)) _ = _; simp [encM])
        have d3 : TF.e2 (TF.e2 (TF.e2 (eVar 3) (eC (.int 3)) dIx) (eC (.int 1)) dAddA) (eC (.int 5)) dMod ρ = some (.int ((j + 1) % 5)) := e2_of (e2_of dj rfl dAddA_int) rfl (by rw [dMod_ev, if_pos (by decide)])
        have d4 : TF.e2 (eVar 3) (eC (.int 4)) dIx ρ = some (.str w) := e2_of rfl rfl (by
          show atI [PyData.str "letter", .int row, .int i, .int j, .str w] 4 = _
          exact atI_nat (j := 4) rfl)
        exact e2_of (slc (x := .tuple [.str "letter", .int row, .int i, .int j, .str w]) rfl rfl rfl (tcut_to _ 3)) (tup2 d3 d4) (addT (by simp))
      obtain ⟨f1, f2, f3⟩ := fin1 (row, .letter i ((j + 1) % 5) w) hom (by show (0 : Int) ≤ _; simp [hdN])
      exact ⟨_, run_of (go (seq_if t0 (seq_if t1 (seq_if t2 (seq_if t3 (seq_rt (if_t (and_t1 (tq 4 true (decide_eq_true c4)) hl1) (one ρ _ _ rfl rfl q1)))))))), f1, f2, f3⟩
    · have t4 : tAnd (TF.e2 (eVar 4) (eC (.int 4)) dEq) (TF.e2 (TF.e2 (eVar 3) (eC (.int 0)) dIx) (eC (.str "letter")) dEq) ρ = some false := and_f1 (tq 4 false (decide_eq_false c4))
      have t5 : tAnd (TF.e2 (eVar 4) (eC (.int 5)) dEq) (TF.e2 (TF.e2 (eVar 3) (eC (.int 0)) dIx) (eC (.str "head")) dEq) ρ = some false := by
        by_cases c5 : num % 7 = 5
        · exact and_t1 (tq 5 true (decide_eq_true c5)) hl2
        · exact and_f1 (tq 5 false (decide_eq_false c5))
      obtain ⟨f1, f2, f3⟩ := fin1 (row, .line) trivial (by show (0 : Int) ≤ _; simp [hdN])
      exact ⟨_, run_of (go (seq_if t0 (seq_if t1 (seq_if t2 (seq_if t3 (seq_if t4 (seq_if t5 (seq_if hl2 (ret_of lin))))))))), f1, f2, f3⟩
  | line =>
    have hl1 := hk3 "letter" false w5
    have hl2 := hk3 "head" false w2
    have t4 : tAnd (TF.e2 (eVar 4) (eC (.int 4)) dEq) (TF.e2 (TF.e2 (eVar 3) (eC (.int 0)) dIx) (eC (.str "letter")) dEq) ρ = some false := by
      by_cases c4 : num % 7 = 4
      · exact and_t1 (tq 4 true (decide_eq_true c4)) hl1
      · exact and_f1 (tq 4 false (decide_eq_false c4))
    have t5 : tAnd (TF.e2 (eVar 4) (eC (.int 5)) dEq) (TF.e2 (TF.e2 (eVar 3) (eC (.int 0)) dIx) (eC (.str "head")) dEq) ρ = some false := by
      by_cases c5 : num % 7 = 5
      · exact and_t1 (tq 5 true (decide_eq_true c5)) hl2
      · exact and_f1 (tq 5 false (decide_eq_false c5))
    obtain ⟨f1, f2, f3⟩ := fin1 (row, .line) trivial (by show (0 : Int) ≤ _; simp [hdN])
    exact ⟨_, run_of (go (seq_if t0 (seq_if t1 (seq_if t2 (seq_if t3 (seq_if t4 (seq_if t5 (seq_if hl2 (ret_of lin))))))))), f1, f2, f3⟩
  | foot =>
    have hl1 := hk3 "letter" false w6
    have hl2 := hk3 "head" false w3
    have t4 : tAnd (TF.e2 (eVar 4) (eC (.int 4)) dEq) (TF.e2 (TF.e2 (eVar 3) (eC (.int 0)) dIx) (eC (.str "letter")) dEq) ρ = some false := by
      by_cases c4 : num % 7 = 4
      · exact and_t1 (tq 4 true (decide_eq_true c4)) hl1
      · exact and_f1 (tq 4 false (decide_eq_false c4))
    have t5 : tAnd (TF.e2 (eVar 4) (eC (.int 5)) dEq) (TF.e2 (TF.e2 (eVar 3) (eC (.int 0)) dIx) (eC (.str "head")) dEq) ρ = some false := by
      by_cases c5 : num % 7 = 5
      · exact and_t1 (tq 5 true (decide_eq_true c5)) hl2
      · exact and_f1 (tq 5 false (decide_eq_false c5))
    obtain ⟨f1, f2, f3⟩ := fin1 (row, .line) trivial (by show (0 : Int) ≤ _; simp [hdN])
    exact ⟨_, run_of (go (seq_if t0 (seq_if t1 (seq_if t2 (seq_if t3 (seq_if t4 (seq_if t5 (seq_if hl2 (ret_of lin))))))))), f1, f2, f3⟩
  | head kk lo hi =>
    have hl1 := hk3 "letter" false w4
    have hl2 := hk3 "head" true (show (("head" : Str) == "head") = true by decide)
    have t4 : tAnd (TF.e2 (eVar 4) (eC (.int 4)) dEq) (TF.e2 (TF.e2 (eVar 3) (eC (.int 0)) dIx) (eC (.str "letter")) dEq) ρ = some false := by
      by_cases c4 : num % 7 = 4
      · exact and_t1 (tq 4 true (decide_eq_true c4)) hl1
      · exact and_f1 (tq 4 false (decide_eq_false c4))
    by_cases c5 : num % 7 = 5
    · have t5 := and_t1 (tq 5 true (decide_eq_true c5)) hl2
      obtain ⟨k', hk', hk2⟩ : ∃ k' : Str, dIx (.tuple [.str "choice", .str "round", .str "both"]) (.int (num / 512 % 3)) = some (.str k') ∧ (k' = "choice" ∨ k' = "round" ∨ k' = "both") := by
        obtain ⟨h0, h1⟩ := mod_lt' (num / 512) (b := 3) (by decide)
        have hc : num / 512 % 3 = 0 ∨ num / 512 % 3 = 1 ∨ num / 512 % 3 = 2 := by omega
        rcases hc with e | e | e <;> rw [e]
        · exact ⟨_, dIx_tup0, .inl rfl⟩
        · exact ⟨_, dIx_tup1, .inr (.inl rfl)⟩
        · exact ⟨_, dIx_tup2, .inr (.inr rfl)⟩
      let ρ5 : Rho := [some (msD ms), some (.int num), some (.int (a : Nat)), some (encM row (.head kk lo hi)), some (.int (num % 7)), some (.str k')]
      have s5 : fSet 5 (TF.e2 (eTup (aCons (eC (.str "choice")) (aCons (eC (.str "round")) (aCons (eC (.str "both")) aNil)))) (TF.e2 (TF.e2 (eVar 1) (eC (.int 512)) dDiv) (eC (.int 3)) dMod) dIx) ρ = some (.nx ρ5) := set_of (i := 5) (ρ := ρ) (e2_of rfl (e2_of (e2_of rfl rfl (by rw [dDiv_ev, if_pos (by decide)])) rfl (by rw [dMod_ev, if_pos (by decide)])) hk')
      have q1 : TF.e2 (TF.e2 (eSl (eVar 3) eNoPart (ePart (eC (.int 2))) dSl) (eTup (aCons (eVar 5) aNil)) dAddA) (eSl (eVar 3) (ePart (eC (.int 3))) eNoPart dSl) dAddA ρ5 = some (mrD (row, .head k' lo hi)) :=
        e2_of (e2_of (slc (x := .tuple [.str "head", .int row, .str kk, .int lo, .int hi]) rfl rfl rfl (tcut_to _ 2)) (tup1 rfl) (addT (by simp))) (slc (x := .tuple [.str "head", .int row, .str kk, .int lo, .int hi]) rfl rfl rfl (tcut_from _ 3)) (addT (by simp))
      obtain ⟨f1, f2, f3⟩ := fin1 (row, .head k' lo hi) hk2 (by simp [hdN])
      exact ⟨_, run_of (go (seq_if t0 (seq_if t1 (seq_if t2 (seq_if t3 (seq_if t4 (seq_rt (if_t t5 (seq_nx s5 (one ρ5 _ _ rfl rfl q1)))))))))), f1, f2, f3⟩
    · have t5 : tAnd (TF.e2 (eVar 4) (eC (.int 5)) dEq) (TF.e2 (TF.e2 (eVar 3) (eC (.int 0)) dIx) (eC (.str "head")) dEq) ρ = some false := and_f1 (tq 5 false (decide_eq_false c5))
      have q1 : TF.e2 (eSl (eVar 3) eNoPart (ePart (eC (.int 3))) dSl) (eTup (aCons (eC (.int 0)) (aCons (eC (.int 3)) aNil))) dAddA ρ = some (mrD (row, .head kk 0 3)) :=
        e2_of (slc (x := .tuple [.str "head", .int row, .str kk, .int lo, .int hi]) rfl rfl rfl (tcut_to _ 3)) (tup2 rfl rfl) (addT (by simp))
      obtain ⟨f1, f2, f3⟩ := fin1 (row, .head kk 0 3) hom (by simp [hdN])
      exact ⟨_, run_of (go (seq_if t0 (seq_if t1 (seq_if t2 (seq_if t3 (seq_if t4 (seq_if t5 (seq_rt (if_t hl2 (one ρ _ _ rfl rfl q1)))))))))), f1, f2, f3⟩
/-! k40 -/
theorem Bal.mono {m n : Int} {ms : List MkR} (h : Bal m ms) (hl : m ≤ n) : Bal n ms := fun p q e => Int.le_trans (h p q e) hl
theorem bal_nil : Bal 0 [] := fun p q e => by
  have : p = [] := by cases p with
    | nil => rfl
    | cons _ _ => simp at e
  subst this
  simp [hdN]
theorem bal_app {D : Int} {u v : List MkR} (h1 : Bal D u) (h2 : hdN u = 0) (h3 : Bal D v) : Bal D (u ++ v) := by
  intro p q e
  rcases List.append_eq_append_iff.mp e with ⟨a, ea, eb⟩ | ⟨c, ec, ed⟩
  · subst ea
    rw [hdN_app]
    have := h3 a q eb
    omega
  · exact h1 p c ec
/-- what is laid is balanced -/
def Lb (D : Int) (l : List Mk) : Prop := ∀ u : List MkR, u.map (·.2) = l → Bal D u ∧ hdN u = 0 ∧ OkMs u
theorem Lb.nil {D : Int} (h : 0 ≤ D) : Lb D [] := fun u e => by
  have : u = [] := by simpa using e
  subst this
  exact ⟨bal_nil.mono h, rfl, fun m hm => absurd hm (by simp)⟩
theorem Lb.app {D : Int} {a b : List Mk} (h1 : Lb D a) (h2 : Lb D b) : Lb D (a ++ b) := fun u e => by
  obtain ⟨v, w, rfl, e1, e2⟩ := map_split e
  obtain ⟨a1, a2, a3⟩ := h1 v e1
  obtain ⟨b1, b2, b3⟩ := h2 w e2
  exact ⟨bal_app a1 a2 b1, by rw [hdN_app]; omega, okMs_app a3 b3⟩
theorem Lb.flat {D : Int} (h0 : 0 ≤ D) : ∀ {ls : List (List Mk)}, (∀ l ∈ ls, Lb D l) → Lb D ls.flatten
  | [], _ => by rw [List.flatten_nil]; exact Lb.nil h0
  | l :: ls, h => by
    rw [List.flatten_cons]
    exact (h l (by simp)).app (Lb.flat h0 fun x hx => h x (by simp [hx]))
theorem Lb.line {D : Int} (h0 : 0 ≤ D) {l : List Mk} (h : Lb D l) : Lb D (Mk.line :: l) := by
  refine Lb.app (a := [Mk.line]) (fun u e => ?_) h
  obtain ⟨row, w, rfl, e1⟩ := map_cons e
  have : w = [] := by simpa using e1
  subst this
  refine ⟨fun p q e => ?_, rfl, fun m hm => ?_⟩
  · match p, e with
    | [], _ => simpa [hdN] using h0
    | [x], e => simp at e; obtain ⟨rfl, _⟩ := e; simpa [hdN] using h0
    | _ :: _ :: _, e => simp at e
  · have : m = (row, .line) := by simpa using hm
    subst this; trivial
theorem Lb.jps {D : Int} (h0 : 0 ≤ D) {ls : List (List Mk)} (h : ∀ l ∈ ls, Lb D l) : Lb D (Lr.jps ls) := by
  cases ls with
  | nil => exact Lb.nil h0
  | cons p r =>
    show Lb D (p ++ (r.map (Mk.line :: ·)).flatten)
    refine (h p (by simp)).app (Lb.flat h0 fun l hl => ?_)
    obtain ⟨q, hq, rfl⟩ := List.mem_map.mp hl
    exact Lb.line h0 (h q (by simp [hq]))
theorem Lb.frame {D : Int} {l : List Mk} {k : Str} {lo hi : Int} (h0 : 0 ≤ D) (hk : k = "choice" ∨ k = "round" ∨ k = "both") (h : Lb D l) : Lb (D + 1) (Mk.head k lo hi :: (l ++ [Mk.foot])) := fun u e => by
  obtain ⟨row, w, rfl, e1⟩ := map_cons e
  obtain ⟨v, f, rfl, e2, e3⟩ := map_split e1
  obtain ⟨row2, f', rfl, e4⟩ := map_cons e3
  have : f' = [] := by simpa using e4
  subst this
  obtain ⟨a1, a2, a3⟩ := h v e2
  refine ⟨fun p q e => ?_, ?_, fun m hm => ?_⟩
  · cases p with
    | nil => simp [hdN]; omega
    | cons p0 p =>
      rw [List.cons_append, List.cons.injEq] at e
      obtain ⟨rfl, e⟩ := e
      show 1 + hdN p ≤ D + 1
      rcases List.append_eq_append_iff.mp e with ⟨a, ea, eb⟩ | ⟨c, ec, ed⟩
      · subst ea
        rw [hdN_app, a2]
        match a, eb with
        | [], _ => simp [hdN]; omega
        | [x], eb => simp at eb; obtain ⟨rfl, _⟩ := eb; simp [hdN]; omega
        | _ :: _ :: _, eb => simp at eb
      · have := a1 p c ec
        omega
  · show 1 + hdN (v ++ [(row2, .foot)]) = 0
    rw [hdN_app, a2]; rfl
  · rcases List.mem_cons.mp hm with rfl | hm
    · exact hk
    · rcases List.mem_append.mp hm with hm | hm
      · exact a3 m hm
      · have : m = (row2, .foot) := by simpa using hm
        subst this; trivial
theorem kindS_in {x : TK.Step} (h : isTell x = false) : kindS x = "choice" ∨ kindS x = "round" ∨ kindS x = "both" := by
  cases x with
  | tell a b w => cases h
  | choice bs => exact .inl rfl
  | round s => exact .inr (.inl rfl)
  | both s t => exact .inr (.inr rfl)
theorem mks1_lb {hs : List Str} : ∀ (d : Nat) (x : TK.Step), VT hs d x → Lb (d : Nat) (mks1 hs x) := by
  intro d
  have tl : ∀ (d : Nat) (a b w : Str), VT hs d (.tell a b w) → Lb (d : Nat) (mks1 hs (.tell a b w)) := fun d a b w h u e => by
    have hw : IsNm w := by cases d <;> (unfold VT at h; exact h.2.2)
    rw [mks1_tell] at e
    obtain ⟨row, f, rfl, e1⟩ := map_cons e
    have : f = [] := by simpa using e1
    subst this
    refine ⟨fun p q e => ?_, rfl, fun m hm => ?_⟩
    · match p, e with
      | [], _ => simp [hdN]
      | [x], e => simp at e; obtain ⟨rfl, _⟩ := e; simp [hdN]
      | _ :: _ :: _, e => simp at e
    · have := List.mem_singleton.mp hm
      subst this; exact hw
  induction d with
  | zero =>
    intro x h
    cases x with
    | tell a b w => exact tl 0 a b w h
    | choice bs => unfold VT at h; exact h.elim
    | round bs => unfold VT at h; exact h.elim
    | both _ _ => unfold VT at h; exact h.elim
  | succ d ih =>
    intro x h
    cases ht : isTell x with
    | true =>
      cases x with
      | tell a b w => exact tl (d + 1) a b w h
      | _ => cases ht
    | false =>
      obtain ⟨d', e, _, _, hp⟩ := h.parts ht
      have : d' = d := by omega
      subst this
      rw [mks1_parts hs x ht]
      have e2 : ((d' + 1 : Nat) : Int) = (d' : Nat) + 1 := by push_cast; rfl
      rw [e2]
      refine Lb.frame (by omega) (kindS_in ht) (Lb.jps (by omega) fun l hl => ?_)
      obtain ⟨b, hb, rfl⟩ := List.mem_map.mp hl
      refine Lb.flat (by omega) fun l hl => ?_
      obtain ⟨y, hy, rfl⟩ := List.mem_map.mp hl
      exact ih y ((hp b hb).2 y hy)
theorem mkss_lb {hs : List Str} {d : Nat} {s : Steps} (h : ∀ x ∈ s, VT hs d x) : Lb (d : Nat) (mkss hs s) := Lb.flat (by omega) fun l hl => by
  obtain ⟨y, hy, rfl⟩ := List.mem_map.mp hl
  exact mks1_lb d y (h y hy)
theorem encM_inj {r1 r2 : Int} {k1 k2 : Mk} (h : encM r1 k1 = encM r2 k2) : r1 = r2 ∧ k1 = k2 := by
  have w : (("letter" : Str) = "head") = False ∧ (("letter" : Str) = "line") = False ∧ (("letter" : Str) = "foot") = False ∧ (("head" : Str) = "letter") = False ∧ (("head" : Str) = "line") = False ∧ (("head" : Str) = "foot") = False ∧ (("line" : Str) = "letter") = False ∧ (("line" : Str) = "head") = False ∧ (("line" : Str) = "foot") = False ∧ (("foot" : Str) = "letter") = False ∧ (("foot" : Str) = "head") = False ∧ (("foot" : Str) = "line") = False := by
    refine ⟨?_, ?_, ?_, ?_, ?_, ?_, ?_, ?_, ?_, ?_, ?_, ?_⟩ <;> exact eq_false (by decide)
  obtain ⟨w1, w2, w3, w4, w5, w6, w7, w8, w9, w10, w11, w12⟩ := w
  cases k1 <;> cases k2 <;> simp [encM, w1, w2, w3, w4, w5, w6, w7, w8, w9, w10, w11, w12] at h ⊢
  all_goals first
    | exact ⟨h.1, h.2.1, h.2.2.1, h.2.2.2⟩
    | exact h
theorem ms_of {ms : List MkR} {l : List Mk} (h : ms.map mrD = mkD 0 l) : ms.map (·.2) = l := by
  rw [← rws_map] at h
  have : ms = rws 0 l := TK.map_inj_on (f := mrD) (fun a _ b e => by
    obtain ⟨h1, h2⟩ := encM_inj e
    exact Prod.ext h1 h2) h
  rw [this, rws_snd]
theorem rintsC (lo : Int) (n : Nat) : rints lo (n + 1) = .int lo :: rints (lo + 1) n := by
  unfold rints
  rw [List.range_succ_eq_map, List.map_cons, List.map_map]
  congr 1
  · simp
  · apply List.map_congr_left
    intro i _
    show PyData.int (lo + ((i + 1 : Nat) : Int)) = .int (lo + 1 + i)
    congr 1; push_cast; omega
theorem mOp_of {ρ : Rho} {f g : Rho → Option Rz} {k : PyData → PyData → Option PyData} {x y z : PyData} {ρ1 ρ2 : Rho} (h : f ρ = some (.ok x ρ1)) (h2 : g ρ1 = some (.ok y ρ2)) (h3 : k x y = some z) : mOp f g k ρ = some (.ok z ρ2) := by
  unfold mOp; rw [h]
  show (g ρ1).bind _ = _
  rw [h2]
  show (k x y).bind _ = _
  rw [h3]; rfl
theorem told_of {n : Nat} {cl : Str} {m : List PyData → Option Rf} {g : Rho → Option (List PyData)} {ρ : Rho} {ds : List PyData} {d : PyData} (h : g ρ = some ds) (hl : ds.length = n) (hm : m ds = some (.ok d)) : mTold cl n m g ρ = some (.ok (.tuple [.str "told", d]) ρ) := by
  unfold mTold; rw [h]
  simp only [Option.bind_some, hm]
  rw [if_pos hl]
theorem told_ex {n : Nat} {cl : Str} {m : List PyData → Option Rf} {g : Rho → Option (List PyData)} {ρ : Rho} {ds : List PyData} (h : g ρ = some ds) (hl : ds.length = n) (hm : m ds = some (.ex cl)) : mTold cl n m g ρ = some (.ok (.tuple [.str "refused", .bool true]) ρ) := by
  unfold mTold; rw [h]
  simp only [Option.bind_some, hm]
  rw [if_pos hl]
  simp
theorem loop_ok {ns : List Int} {num : Int} {tk hd : PyData} : ∀ (m : Nat) (D : Int) (lo : Int) (ms : List MkR), ms.length + m ≤ 80000 → OkMs ms → Bal D ms → ∃ ms', forGo (g1 5) b_law_1 [5] (rints lo m) [some (scr ns), some tk, some hd, some (msD ms), some (.int num), none, none, none, none] = some (.nx [some (scr ns), some tk, some hd, some (msD ms'), some (.int num), none, none, none, none]) ∧ OkMs ms' ∧ Bal (D + (m : Nat)) ms' ∧ ms'.length ≤ 80000
  | 0, D, lo, ms, h1, h2, h3 => ⟨ms, rfl, h2, by simpa using h3, by omega⟩
  | m + 1, D, lo, ms, h1, h2, h3 => by
    rw [rintsC]
    unfold forGo
    let ρ : Rho := [some (scr ns), some tk, some hd, some (msD ms), some (.int num), some (.int lo), none, none, none]
    have t : TF.e2 (eVar 3) (eTup aNil) dNe ρ = some (!decide (ms = [])) := e2_of rfl rfl nil_msD
    by_cases hne : ms = []
    · have hb : b_law_1 ρ = some (.nx ρ) := by
        rw [decide_eq_true hne] at t
        exact if_n t
      obtain ⟨ms', f1, f2, f3, f4⟩ := loop_ok (ns := ns) (num := num) (tk := tk) (hd := hd) m D (lo + 1) ms (by omega) h2 h3
      refine ⟨ms', ?_, f2, f3.mono (by push_cast; omega), f4⟩
      show (b_law_1 ρ).bind _ = _
      rw [hb]
      exact f1
    · rw [decide_eq_false hne] at t
      obtain ⟨r, hr, hr0, _⟩ := drawn_ok num lo
      obtain ⟨ms1, g1', g2', g3', g4'⟩ := changed_ok (num := r / 4) hne (by omega) h2 h3
      have e1 : eCall 2 m_law_drawn (aCons (eVar 4) (aCons (eVar 5) aNil)) ρ = some (.int r) := by
        rw [eCall_ev]
        exact hr
      have e2 : TF.e2 (eCall 2 m_law_drawn (aCons (eVar 4) (aCons (eVar 5) aNil))) (eC (.int 4)) dDiv ρ = some (.int (r / 4)) := e2_of e1 rfl (by rw [dDiv_ev, if_pos (by decide)])
      have hb : b_law_1 ρ = some (.nx [some (scr ns), some tk, some hd, some (msD ms1), some (.int num), some (.int lo), none, none, none]) := by
        refine if_t t (set_of (i := 3) (ρ := ρ) ?_)
        rw [eCall_ev, aCons_ev, aCons_ev, e2]
        exact g1'
      obtain ⟨ms', f1, f2, f3, f4⟩ := loop_ok (ns := ns) (num := num) (tk := tk) (hd := hd) m (D + 1) (lo + 1) ms1 (by omega) g2' g3'
      refine ⟨ms', ?_, f2, f3.mono (by push_cast; omega), f4⟩
      show (b_law_1 ρ).bind _ = _
      rw [hb]
      exact f1
theorem law_true (ns : List Int) : m_law [scr ns] = some (.bool true) := by
  obtain ⟨q, hq, hq0, _⟩ := mixed_ok ns 0 (by decide)
  obtain ⟨dd, hdd, hdd0, _⟩ := mixed_ok ns 1 (by decide)
  obtain ⟨num, hn, hn0, _⟩ := mixed_ok ns 2 (by decide)
  obtain ⟨d0, d1⟩ := mod_lt' dd (b := 4) (by decide)
  obtain ⟨d, hd⟩ := nat_of d0
  obtain ⟨hs, ss, ht, hh, hl, hw⟩ := talk_ok q 3 d hq0 (by decide) (by decide) (by omega)
  have h1s := hh.1
  have hvd : ∀ x ∈ ss, VT hs d x := fun x hx => (hw x hx).vt
  have hv : ∀ x ∈ ss, VT hs 3 x := fun x hx => (hvd x hx).mono (by omega)
  obtain ⟨z1, z2⟩ := VT.sizes hv (by omega) (Nat.le_refl _)
  have hla := laid_ok (hs := hs) (s := ss) (by omega) (by omega) (VT.inH hv)
  have hhe := height_ok (hs := hs) (s := ss) (by omega) (by omega) (VT.inH hv)
  have hly := lay_ok h1s 29 ss (by omega) (by omega) (by omega) (VT.inH hv) 0
  have hly : m_law_lay fu_law_lay [ssD ss, hsD hs, .int 0] = some (.tuple (mkD 0 (mkss hs ss))) := hly
  have hml : (mkss hs ss).length ≤ 40000 := by have := mkss_len hs ss; omega
  obtain ⟨b1, _, b3⟩ := mkss_lb hv (rws 0 (mkss hs ss)) (rws_snd _ _)
  have em : (.tuple (mkD 0 (mkss hs ss)) : PyData) = msD (rws 0 (mkss hs ss)) := by unfold msD; rw [rws_map]
  have hmn := mkD_nb 0 (mkss hs ss)
  have hmp := mkD_pl 0 (mkss hs ss)
  have hrl : (rws 0 (mkss hs ss)).length = (mkss hs ss).length := rws_len _ _
  obtain ⟨m, hm, hm4⟩ : ∃ m : Nat, dIx (.tuple [.int 0, .int 1, .int 1, .int 2, .int 4, .int 0]) (.int (num % 6)) = some (.int (m : Nat)) ∧ m ≤ 4 := by
    obtain ⟨h0, h1⟩ := mod_lt' num (b := 6) (by decide)
    have hc : num % 6 = 0 ∨ num % 6 = 1 ∨ num % 6 = 2 ∨ num % 6 = 3 ∨ num % 6 = 4 ∨ num % 6 = 5 := by omega
    rcases hc with e | e | e | e | e | e <;> rw [e]
    · exact ⟨0, by rfl, by decide⟩
    · exact ⟨1, by rfl, by decide⟩
    · exact ⟨1, by rfl, by decide⟩
    · exact ⟨2, by rfl, by decide⟩
    · exact ⟨4, by rfl, by decide⟩
    · exact ⟨0, by rfl, by decide⟩
  obtain ⟨ms, hloop, ho, hb, hmsl⟩ := loop_ok (ns := ns) (num := num) (tk := .tuple [hsD hs, ssD ss]) (hd := hsD hs) m ((3 : Nat) : Int) 0 (rws 0 (mkss hs ss)) (by rw [hrl]; omega) b3 b1
  have hb7 : Bal 7 ms := hb.mono (by push_cast; omega)
  obtain ⟨z, hz1, hz2⟩ := reader_law (hs := hs) 29 0 ms ⟨hb7.mono (by decide), ho, by omega⟩
  have hz1 : m_law_steps_of fu_law_steps_of [msD ms, hsD hs, .int 0] = some z := hz1
  let TK0 : PyData := .tuple [hsD hs, ssD ss]
  let ρ2 : Rho := [some (scr ns), some TK0, some (hsD hs), none, none, none, none, none, none]
  let ρ3 : Rho := [some (scr ns), some TK0, some (hsD hs), some (msD (rws 0 (mkss hs ss))), none, none, none, none, none]
  let ρ4 : List MkR → Rho := fun ms => [some (scr ns), some TK0, some (hsD hs), some (msD ms), some (.int num), none, none, none, none]
  have s1 : fSet 1 (eCall 3 m_law_talk (aCons (eCall 2 m_law_mixed (aCons (eVar 0) (aCons (eC (.int 0)) aNil))) (aCons (TF.e2 (eCall 2 m_law_mixed (aCons (eVar 0) (aCons (eC (.int 1)) aNil))) (eC (.int 4)) dMod) (aCons (eC (.int 3)) aNil)))) [some (scr ns), none, none, none, none, none, none, none, none] = some (.nx [some (scr ns), some TK0, none, none, none, none, none, none, none]) := by
    refine set_of (i := 1) (ρ := [some (scr ns), none, none, none, none, none, none, none, none]) ?_
    have c1 : eCall 2 m_law_mixed (aCons (eVar 0) (aCons (eC (.int 0)) aNil)) [some (scr ns), none, none, none, none, none, none, none, none] = some (.int q) := by
      rw [eCall_ev]; exact hq
    have c2 : TF.e2 (eCall 2 m_law_mixed (aCons (eVar 0) (aCons (eC (.int 1)) aNil))) (eC (.int 4)) dMod [some (scr ns), none, none, none, none, none, none, none, none] = some (.int (d : Nat)) := e2_of (x := .int dd) (by rw [eCall_ev]; exact hdd) rfl (by rw [dMod_ev, if_pos (by decide), hd])
    rw [eCall_ev, aCons_ev, aCons_ev, c1, c2]
    exact ht
  have s2 : fSet 2 (TF.e2 (eVar 1) (eC (.int 0)) dIx) [some (scr ns), some TK0, none, none, none, none, none, none, none] = some (.nx ρ2) := set_of (i := 2) (ρ := [some (scr ns), some TK0, none, none, none, none, none, none, none]) (e2_of rfl rfl (by show dIx (.tuple [hsD hs, ssD ss]) (.int 0) = _; simp))
  have s3 : fSet 3 (eCall 3 (m_law_lay fu_law_lay) (aCons (TF.e2 (eVar 1) (eC (.int 1)) dIx) (aCons (eVar 2) (aCons (eC (.int 0)) aNil)))) ρ2 = some (.nx ρ3) := by
    have c1 : TF.e2 (eVar 1) (eC (.int 1)) dIx ρ2 = some (ssD ss) := e2_of rfl rfl (by show dIx (.tuple [hsD hs, ssD ss]) (.int 1) = _; simp)
    refine set_of (i := 3) (ρ := ρ2) ?_
    rw [eCall_ev, aCons_ev, c1, ← em]
    exact hly
  have t1 : TF.e2 (eCall 1 m_laid (aCons (eVar 1) aNil)) (eVar 3) dNe ρ3 = some false := e2_of (call1 rfl hla) rfl (by rw [← em]; exact dNe_self hmn hmp)
  have t2 : TF.e2 (eCall 1 m_height (aCons (eVar 1) aNil)) (TF.e1 (eVar 3) dLen) dNe ρ3 = some false := e2_of (call1 rfl hhe) (e1_of rfl (rfl : dLen (msD (rws 0 (mkss hs ss))) = some (.int (((rws 0 (mkss hs ss)).map mrD).length : Nat)))) (by
    rw [List.length_map, hrl]
    show some (!(_ == _)) = _
    simp)
  have s4 : fSet 4 (eCall 2 m_law_mixed (aCons (eVar 0) (aCons (eC (.int 2)) aNil))) ρ3 = some (.nx (ρ4 (rws 0 (mkss hs ss)))) := by
    refine set_of (i := 4) (ρ := ρ3) ?_
    rw [eCall_ev]; exact hn
  have it : TF.e1 (TF.e2 (eTup (aCons (eC (.int 0)) (aCons (eC (.int 1)) (aCons (eC (.int 1)) (aCons (eC (.int 2)) (aCons (eC (.int 4)) (aCons (eC (.int 0)) aNil))))))) (TF.e2 (eVar 4) (eC (.int 6)) dMod) dIx) dRng1 (ρ4 (rws 0 (mkss hs ss))) = some (rints 0 m) := e1_of (e2_of rfl (e2_of rfl rfl (by rw [dMod_ev, if_pos (by decide)])) hm) (by
    rw [dRng1_ev, if_pos (by omega)]
    have : ((m : Nat) : Int).toNat = m := by omega
    rw [this])
  have s5 : fFor (TF.e1 (TF.e2 (eTup (aCons (eC (.int 0)) (aCons (eC (.int 1)) (aCons (eC (.int 1)) (aCons (eC (.int 2)) (aCons (eC (.int 4)) (aCons (eC (.int 0)) aNil))))))) (TF.e2 (eVar 4) (eC (.int 6)) dMod) dIx) dRng1) (g1 5) [5] b_law_1 (ρ4 (rws 0 (mkss hs ss))) = some (.nx (ρ4 ms)) := by
    rw [fFor_ev, it]
    exact hloop
  have c6 : eCall 3 (m_law_steps_of fu_law_steps_of) (aCons (eVar 3) (aCons (eVar 2) (aCons (eC (.int 0)) aNil))) (ρ4 ms) = some z := by
    rw [eCall_ev]; exact hz1
  have whole : ∀ s : Steps, s.length ≤ 4 → (∀ x ∈ s, VT hs 3 x) → ms.map mrD = mkD 0 (mkss hs s) → lsM hs 29 0 ms = some (s, []) := fun s h1 h2 h3 => by
    have := lsM_rt (hs := hs) 29 0 3 (by decide) (by decide) s h1 h2 ms [] (ms_of h3) (.inl rfl)
    rwa [List.append_nil] at this
  -- refused
  have ref : ∀ (x y : PyData), z = .tuple [x, y] → (∀ f, fSeq (fIf (tAnd (TF.e2 (eVar 6) (eC .none) dIsNot) (tAnd (TF.e2 (eVar 7) (eTup aNil) dEq) (TF.e2 (eCall 3 (m_law_lay fu_law_lay) (aCons (eVar 6) (aCons (eVar 2) (aCons (eC (.int 0)) aNil)))) (eVar 3) dEq))) (fSet 8 (eTup (aCons (eC (.str "told")) (aCons (eTup (aCons (eVar 2) (aCons (eVar 6) aNil))) aNil)))) fNil) f [some (scr ns), some TK0, some (hsD hs), some (msD ms), some (.int num), none, some x, some y, some (.tuple [.str "refused", .bool true])] = f [some (scr ns), some TK0, some (hsD hs), some (msD ms), some (.int num), none, some x, some y, some (.tuple [.str "refused", .bool true])]) → m_unlaid [hsD hs, msD ms] = some (.ex "NoTalk") → m_law [scr ns] = some (.bool true) := fun x y hxy hf hu => by
    have s6 : fAsg (g2 6 7) (eCall 3 (m_law_steps_of fu_law_steps_of) (aCons (eVar 3) (aCons (eVar 2) (aCons (eC (.int 0)) aNil)))) (ρ4 ms) = some (.nx [some (scr ns), some TK0, some (hsD hs), some (msD ms), some (.int num), none, some x, some y, none]) := by
      rw [fAsg_ev, c6, hxy]; rfl
    have fin : f_law [some (scr ns), none, none, none, none, none, none, none, none] = some (.rx (.bool true) [some (scr ns), some TK0, some (hsD hs), some (msD ms), some (.int num), none, some x, some y, some (.tuple [.str "refused", .bool true])]) := by
      refine seq_nx s1 (seq_nx s2 (seq_nx s3 (seq_nx (if_n (or_ff t1 t2)) (seq_nx s4 (seq_nx s5 (seq_nx s6 (seq_nx (ρ' := [some (scr ns), some TK0, some (hsD hs), some (msD ms), some (.int num), none, some x, some y, some (.tuple [.str "refused", .bool true])]) rfl ?_)))))))
      rw [hf]
      exact sRet_of (mOp_of (y := .tuple [.str "refused", .bool true]) (told_ex (ds := [hsD hs, msD ms]) rfl rfl hu) (mE_of rfl) rfl)
    show (f_law [some (scr ns), none, none, none, none, none, none, none, none]).bind _ = _
    rw [fin]; rfl
  cases es : lsM hs 29 0 ms with
  | none =>
    rw [es] at hz2
    obtain ⟨y, hy⟩ := hz2
    refine ref .none y hy (fun f => ?_) ?_
    · exact seq_nx (if_n (and_f1 (e2_of rfl rfl rfl))) rfl
    · rcases unlaid_tot hh (by omega) ho hb7 with h | ⟨s, h1, h2, h3⟩
      · exact h
      · rw [whole s h1 h2 h3] at es; cases es
  | some sr =>
    obtain ⟨s, r⟩ := sr
    rw [es] at hz2
    have hz2 : z = .tuple [ssD s, msD r] := hz2
    obtain ⟨g1', g2', _⟩ := lsM_snd 29 0 ms s r ho es
    have g2' : ∀ x ∈ s, VT hs 3 x := g2'
    let ρ8 : Rho := [some (scr ns), some TK0, some (hsD hs), some (msD ms), some (.int num), none, some (ssD s), some (msD r), some (.tuple [.str "refused", .bool true])]
    have q1 : TF.e2 (eVar 6) (eC .none) dIsNot ρ8 = some true := e2_of rfl rfl rfl
    have q2 : TF.e2 (eVar 7) (eTup aNil) dEq ρ8 = some (decide (r = [])) := e2_of rfl rfl nilE_msD
    by_cases hr : r = []
    · rw [decide_eq_true hr] at q2
      obtain ⟨y1, y2⟩ := VT.sizes g2' (by omega) (Nat.le_refl _)
      have hly2 : m_law_lay fu_law_lay [ssD s, hsD hs, .int 0] = some (.tuple (mkD 0 (mkss hs s))) := lay_ok h1s 29 s (by omega) (by omega) (by omega) (VT.inH g2') 0
      have q3 : TF.e2 (eCall 3 (m_law_lay fu_law_lay) (aCons (eVar 6) (aCons (eVar 2) (aCons (eC (.int 0)) aNil)))) (eVar 3) dEq ρ8 = some (PyData.eqv (.tuple (mkD 0 (mkss hs s))) (msD ms)) := by
        refine e2_of (x := .tuple (mkD 0 (mkss hs s))) (by rw [eCall_ev]; exact hly2) rfl ?_
        show (if _ then _ else _) = _
        rw [if_pos ⟨mkD_pl _ _, msD_pl ms⟩]
      cases hq : PyData.eqv (.tuple (mkD 0 (mkss hs s))) (msD ms) with
      | false =>
        rw [hq] at q3
        refine ref _ _ hz2 (fun f => seq_nx (if_n (and_t1 q1 (and_t1 q2 q3))) rfl) ?_
        rcases unlaid_tot hh (by omega) ho hb7 with h | ⟨s', h1, h2, h3⟩
        · exact h
        · have e := whole s' h1 h2 h3
          rw [es] at e
          simp only [Option.some.injEq, Prod.mk.injEq] at e
          obtain ⟨rfl, _⟩ := e
          have : PyData.eqv (.tuple (mkD 0 (mkss hs s))) (msD ms) = true := by
            unfold msD
            rw [h3]
            exact eqv_self (mkD_nb _ _)
          rw [this] at hq; cases hq
      | true =>
        rw [hq] at q3
        have hme := (eqv_iff _ _ (mkD_nb _ _) (msD_nb ms)).mp hq
        have hun := unlaid_ok hh g1' g2'
        rw [hme] at hun
        have s6 : fAsg (g2 6 7) (eCall 3 (m_law_steps_of fu_law_steps_of) (aCons (eVar 3) (aCons (eVar 2) (aCons (eC (.int 0)) aNil)))) (ρ4 ms) = some (.nx [some (scr ns), some TK0, some (hsD hs), some (msD ms), some (.int num), none, some (ssD s), some (msD r), none]) := by
          rw [fAsg_ev, c6, hz2]; rfl
        let DU : PyData := .tuple [.str "told", .tuple [hsD hs, ssD s]]
        have s8 : fSet 8 (eTup (aCons (eC (.str "told")) (aCons (eTup (aCons (eVar 2) (aCons (eVar 6) aNil))) aNil))) ρ8 = some (.nx [some (scr ns), some TK0, some (hsD hs), some (msD ms), some (.int num), none, some (ssD s), some (msD r), some DU]) := set_of (i := 8) (ρ := ρ8) (tup2 rfl (tup2 rfl rfl))
        have h1 : nb (.tuple [.str "told", tkD hs s]) = true := by rw [nb_tup]; simp [nb_str, tkD_nb]
        have hpl := tkD_pl hs (s := s) (by omega)
        have h2 : pl (.tuple [.str "told", tkD hs s]) = true := pl_of (by rw [plain_tup]; simp [plain_str, pl_plain hpl]) (by
          refine Nat.le_trans (depth_tup (n := 62).mpr ?_) (by decide)
          intro e he
          simp at he
          rcases he with rfl | rfl
          · simp [depth_str]
          · unfold tkD
            refine Nat.le_trans (depth_tup (n := 61).mpr ?_) (by decide)
            have q1 : (hsD hs).depth ≤ 1 := by unfold hsD; exact depth_tup.mpr (by simp [depth_str])
            have q2 := ssD_depth (n := 3) (s := s) (by omega)
            simp
            omega)
        have fin : f_law [some (scr ns), none, none, none, none, none, none, none, none] = some (.rx (.bool true) [some (scr ns), some TK0, some (hsD hs), some (msD ms), some (.int num), none, some (ssD s), some (msD r), some DU]) := by
          refine seq_nx s1 (seq_nx s2 (seq_nx s3 (seq_nx (if_n (or_ff t1 t2)) (seq_nx s4 (seq_nx s5 (seq_nx s6 (seq_nx (ρ' := ρ8) rfl (seq_nx (if_t (and_t1 q1 (and_t1 q2 q3)) s8) ?_))))))))
          refine sRet_of (mOp_of (y := DU) (told_of (ds := [hsD hs, msD ms]) rfl rfl hun) (mE_of rfl) ?_)
          show (dEq _ _).map PyData.bool = _
          rw [show dEq (.tuple [.str "told", tkD hs s]) DU = some true from dEq_self h1 h2]; rfl
        show (f_law [some (scr ns), none, none, none, none, none, none, none, none]).bind _ = _
        rw [fin]; rfl
    · rw [decide_eq_false hr] at q2
      refine ref _ _ hz2 (fun f => seq_nx (if_n (and_t1 q1 (and_f1 q2))) rfl) ?_
      rcases unlaid_tot hh (by omega) ho hb7 with h | ⟨s', h1, h2, h3⟩
      · exact h
      · have e := whole s' h1 h2 h3
        rw [es] at e
        simp only [Option.some.injEq, Prod.mk.injEq] at e
        exact absurd e.2 hr
end Lr

/-! W_lanerows_k40_laid.lean -/
set_option Elab.async false
set_option linter.all false
set_option maxRecDepth 100000
set_option maxHeartbeats 4000000
namespace Lr
open PySem PySem.Spec PyProof.Rows L2 TF

def top (i : Nat) : Stmt := PySem.Challenge.pw_lanerows_k40_laid.main.body.getD i (.Pass ⟨0, 0, 0, 0⟩)
section
variable {P : Program} {w : World} {K : PySem.W.Frag} {mg : Str → Option Value} {base : Heap} {f : Addr} {fd : FuncData} {k : Nat}
abbrev s_is_name : Stmt := top 10
abbrev N_is_name : List Str := ["thing", "sign"]
theorem sc_is_name : FnScope N_is_name ["thing"] (defScope s_is_name) := ⟨rfl, rfl, rfl, by decide +kernel, rfl, by decide +kernel, by decide +kernel⟩
theorem ok_is_name (F : FunD K "is_name" "is_name" (defArgs s_is_name) (defBody s_is_name) (defScope s_is_name) [] [] f fd)  (g_is_name : mg "is_name" = some (.ref f)) (z_all : mg "all" = none) (z_isinstance : mg "isinstance" = none) (z_len : mg "len" = none) (z_str : mg "str" = none) {t_LONGEST : Tok} (c_LONGEST : mg "LONGEST" = some (.int 5 t_LONGEST)) {t_LETTERS : Tok} (c_LETTERS : mg "LETTERS" = some (.str "abcdefghijklmnopqrstuvwxyz" t_LETTERS)) : Callee P w K mg base (k + 1) "is_name" 1 (runF 2 (f_is_name)) :=
  fn_C (OK := OwnK.dflt) (o' := []) F sc_is_name rfl g_is_name (F.bindsN fun _ _ _ _ _ _ us hl => match us, hl with | [_], _ => rfl) fun cdv A outer s H E hr =>
    letI OKi : OwnK := OwnK.dflt
    (svs_one (sv_ret (ev_and (EV.r (ev_isa (T := "str") (x := "str") z_isinstance z_str (by decide +kernel) (er_var 0 (pv 0)))) (ev_and (EV.r (ev_chain opF_le opF_le (EV.r ev_int) (EV.r (ev_cb1 opF_len z_len (by decide +kernel) (er_var 0 (pv 0)))) (EV.r (ev_globI rfl c_LONGEST)))) (ev_one (ev_cb1 (opF_all rfl) z_all (by decide +kernel) (EV.r (EN.v (en_lc (own := [("sign", 1)]) rfl sc_is_name.nd (wi_any (ev_var 0 (pv 0))) (ct_1 1) (blkOk_by (N := N_is_name) (sc := defScope s_is_name) (by decide +kernel)) (fun _ _ _ _ _ => (pg_name (i := 1) sc_is_name.nd rfl (Or.inl rfl))) (fun _ _ _ _ _ => ets_nil) (fun _ _ _ _ _ => (ev_cmp (opF_in (hu65 hr)) (er_var 1 (pv 1)) (EV.r (ev_globS rfl c_LETTERS)) (by rfl))))))))))))
abbrev s_is_hand : Stmt := top 11
abbrev N_is_hand : List Str := ["thing", "hands"]
theorem sc_is_hand : FnScope N_is_hand ["thing", "hands"] (defScope s_is_hand) := ⟨rfl, rfl, rfl, by decide +kernel, rfl, by decide +kernel, by decide +kernel⟩
theorem ok_is_hand (F : FunD K "is_hand" "is_hand" (defArgs s_is_hand) (defBody s_is_hand) (defScope s_is_hand) [] [] f fd)  (g_is_hand : mg "is_hand" = some (.ref f)) (z_isinstance : mg "isinstance" = none) (z_str : mg "str" = none) : Callee P w K mg base (k + 1) "is_hand" 2 (runF 2 (f_is_hand)) :=
  fn_C (OK := OwnK.dflt) (o' := []) F sc_is_hand rfl g_is_hand (F.bindsN fun _ _ _ _ _ _ us hl => match us, hl with | [_, _], _ => rfl) fun cdv A outer s H E hr =>
    letI OKi : OwnK := OwnK.dflt
    (svs_one (sv_ret (ev_and (EV.r (ev_isa (T := "str") (x := "str") z_isinstance z_str (by decide +kernel) (er_var 0 (pv 0)))) (ev_one (ev_cmp (opF_in (hu65 hr)) (er_var 0 (pv 0)) (er_var 1 (pv 1)) (by rfl))))))
abbrev s_is_step : Stmt := top 12
abbrev N_is_step : List Str := ["thing", "hands", "deep", "word", "part"]
theorem sc_is_step : FnScope N_is_step ["thing", "hands", "deep"] (defScope s_is_step) := ⟨rfl, rfl, rfl, by decide +kernel, rfl, by decide +kernel, by decide +kernel⟩
theorem ok_is_step {r_is_step : List PyData → Option PyData} {r_are_steps : List PyData → Option PyData} (F : FunD K "is_step" "is_step" (defArgs s_is_step) (defBody s_is_step) (defScope s_is_step) [] [] f fd)  (g_is_step : mg "is_step" = some (.ref f)) (c_is_hand : Callee P w K mg base k "is_hand" 2 m_is_hand) (c_is_name : Callee P w K mg base k "is_name" 1 m_is_name) (c_are_steps : Callee P w K mg base k "are_steps" 3 r_are_steps) (z_all : mg "all" = none) (z_isinstance : mg "isinstance" = none) (z_len : mg "len" = none) (z_str : mg "str" = none) (z_tuple : mg "tuple" = none) {t_MOST_BRANCHES : Tok} (c_MOST_BRANCHES : mg "MOST_BRANCHES" = some (.int 3 t_MOST_BRANCHES)) : Callee P w K mg base (k + 1) "is_step" 3 (runF 5 (f_is_step r_is_step r_are_steps)) :=
  fn_C (OK := OwnK.dflt) (o' := []) F sc_is_step rfl g_is_step (F.bindsN fun _ _ _ _ _ _ us hl => match us, hl with | [_, _, _], _ => rfl) fun cdv A outer s H E hr =>
    letI OKi : OwnK := OwnK.dflt
    (svs_cons (o1 := []) (sv_if (PW.pt (ew_or (et_not (et_val (EV.r (ev_isa (T := "tuple") (x := "tuple") z_isinstance z_tuple (by decide +kernel) (er_var 0 (pv 0)))))) (ew_or (et_cmp (opF_ltA (hu64 hr)) (EV.r (ev_cb1 opF_len z_len (by decide +kernel) (er_var 0 (pv 0)))) (EV.r ev_int) (nomark _)) (ew_or1 (et_not (et_val (EV.r (ev_isa (T := "str") (x := "str") z_isinstance z_str (by decide +kernel) (EV.r (ev_ix opF_ix (er_var 0 (pv 0)) (EV.r ev_int) (fun _ _ => rfl))))))))))) (svs_one (sv_ret ev_bl)) svs_nil)
    (svs_cons (o1 := []) (sv_set 3 sc_is_step.nd (ev_ix opF_ix (er_var 0 (pv 0)) (EV.r ev_int) (fun _ _ => rfl)))
    (svs_cons (o1 := []) (sv_if (et_cmp (opF_eq (hu64 hr)) (er_var 3 (pv 3)) (EV.r ev_str) (nomark _)) (svs_one (sv_ret (ev_and (EV.r (ev_cmp (opF_eq (hu64 hr)) (EV.r (ev_cb1 opF_len z_len (by decide +kernel) (er_var 0 (pv 0)))) (EV.r ev_int) (nomark _))) (ev_and (EV.r (ev_fn c_is_hand hr (ea_cons (ev_ix opF_ix (er_var 0 (pv 0)) (EV.r ev_int) (fun _ _ => rfl)) (ea_cons (ev_var 1 (pv 1)) ea_nil)))) (ev_and (EV.r (ev_fn c_is_hand hr (ea_cons (ev_ix opF_ix (er_var 0 (pv 0)) (EV.r ev_int) (fun _ _ => rfl)) (ea_cons (ev_var 1 (pv 1)) ea_nil)))) (ev_one (ev_fn c_is_name hr (ea_cons (ev_ix opF_ix (er_var 0 (pv 0)) (EV.r ev_int) (fun _ _ => rfl)) ea_nil)))))))) svs_nil)
    (svs_cons (o1 := []) (sv_if (et_cmp (opF_eq (hu64 hr)) (er_var 2 (pv 2)) (EV.r ev_int) (nomark _)) (svs_one (sv_ret ev_bl)) svs_nil)
    (svs_cons (o1 := []) (sv_if (et_cmp (opF_eq (hu64 hr)) (er_var 3 (pv 3)) (EV.r ev_str) (nomark _)) (svs_cons (o1 := []) (sv_if (PW.pt (ew_or (et_cmp (opF_ne (hu64 hr)) (EV.r (ev_cb1 opF_len z_len (by decide +kernel) (er_var 0 (pv 0)))) (EV.r ev_int) (nomark _)) (ew_or (et_not (et_val (EV.r (ev_isa (T := "tuple") (x := "tuple") z_isinstance z_tuple (by decide +kernel) (EV.r (ev_ix opF_ix (er_var 0 (pv 0)) (EV.r ev_int) (fun _ _ => rfl))))))) (ew_or1 (et_not (et_chain opF_le opF_le (EV.r ev_int) (EV.r (ev_cb1 opF_len z_len (by decide +kernel) (EV.r (ev_ix opF_ix (er_var 0 (pv 0)) (EV.r ev_int) (fun _ _ => rfl))))) (EV.r (ev_globI rfl c_MOST_BRANCHES)))))))) (svs_one (sv_ret ev_bl)) svs_nil)
    (svs_one (sv_ret (ev_cb1 (opF_all rfl) z_all (by decide +kernel) (EV.r (EN.v (en_lc (own := [("part", 4)]) rfl sc_is_step.nd (wi_any (ev_ix opF_ix (er_var 0 (pv 0)) (EV.r ev_int) (fun _ _ => rfl))) (ct_1 4) (blkOk_by (N := N_is_step) (sc := defScope s_is_step) (by decide +kernel)) (fun _ _ _ _ _ => (pg_name (i := 4) sc_is_step.nd rfl (Or.inl rfl))) (fun _ _ _ _ _ => ets_nil) (fun _ _ _ _ _ => (ev_fn c_are_steps hr (ea_cons (ev_var 4 (pv 4)) (ea_cons (ev_var 1 (pv 1)) (ea_cons (ev_bin opF_sub (er_var 2 (pv 2)) (EV.r ev_int)) ea_nil)))))))))))) svs_nil)
    (svs_cons (o1 := []) (sv_if (et_cmp (opF_eq (hu64 hr)) (er_var 3 (pv 3)) (EV.r ev_str) (nomark _)) (svs_one (sv_ret (ev_and (EV.r (ev_cmp (opF_eq (hu64 hr)) (EV.r (ev_cb1 opF_len z_len (by decide +kernel) (er_var 0 (pv 0)))) (EV.r ev_int) (nomark _))) (ev_one (ev_fn c_are_steps hr (ea_cons (ev_ix opF_ix (er_var 0 (pv 0)) (EV.r ev_int) (fun _ _ => rfl)) (ea_cons (ev_var 1 (pv 1)) (ea_cons (ev_bin opF_sub (er_var 2 (pv 2)) (EV.r ev_int)) ea_nil)))))))) svs_nil)
    (svs_one (sv_ret (ev_and (EV.r (ev_cmp (opF_eq (hu64 hr)) (er_var 3 (pv 3)) (EV.r ev_str) (nomark _))) (ev_and (EV.r (ev_cmp (opF_eq (hu64 hr)) (EV.r (ev_cb1 opF_len z_len (by decide +kernel) (er_var 0 (pv 0)))) (EV.r ev_int) (nomark _))) (ev_one (ev_cb1 (opF_all rfl) z_all (by decide +kernel) (EV.r (EN.v (en_lc (own := [("part", 4)]) rfl sc_is_step.nd (wi_any (ev_slice opF_sl (er_var 0 (pv 0)) (eo_some (EV.r ev_int)) eo_none)) (ct_1 4) (blkOk_by (N := N_is_step) (sc := defScope s_is_step) (by decide +kernel)) (fun _ _ _ _ _ => (pg_name (i := 4) sc_is_step.nd rfl (Or.inl rfl))) (fun _ _ _ _ _ => ets_nil) (fun _ _ _ _ _ => (ev_fn c_are_steps hr (ea_cons (ev_var 4 (pv 4)) (ea_cons (ev_var 1 (pv 1)) (ea_cons (ev_bin opF_sub (er_var 2 (pv 2)) (EV.r ev_int)) ea_nil))))))))))))))))))))
abbrev s_are_steps : Stmt := top 13
abbrev N_are_steps : List Str := ["thing", "hands", "deep", "part"]
theorem sc_are_steps : FnScope N_are_steps ["thing", "hands", "deep"] (defScope s_are_steps) := ⟨rfl, rfl, rfl, by decide +kernel, rfl, by decide +kernel, by decide +kernel⟩
theorem ok_are_steps {r_is_step : List PyData → Option PyData} {r_are_steps : List PyData → Option PyData} (F : FunD K "are_steps" "are_steps" (defArgs s_are_steps) (defBody s_are_steps) (defScope s_are_steps) [] [] f fd)  (g_are_steps : mg "are_steps" = some (.ref f)) (c_is_step : Callee P w K mg base k "is_step" 3 r_is_step) (z_all : mg "all" = none) (z_isinstance : mg "isinstance" = none) (z_len : mg "len" = none) (z_tuple : mg "tuple" = none) {t_MOST_STEPS : Tok} (c_MOST_STEPS : mg "MOST_STEPS" = some (.int 4 t_MOST_STEPS)) : Callee P w K mg base (k + 1) "are_steps" 3 (runF 4 (f_are_steps r_is_step r_are_steps)) :=
  fn_C (OK := OwnK.dflt) (o' := []) F sc_are_steps rfl g_are_steps (F.bindsN fun _ _ _ _ _ _ us hl => match us, hl with | [_, _, _], _ => rfl) fun cdv A outer s H E hr =>
    letI OKi : OwnK := OwnK.dflt
    (svs_cons (o1 := []) (sv_if (PW.pt (ew_or (et_not (et_val (EV.r (ev_isa (T := "tuple") (x := "tuple") z_isinstance z_tuple (by decide +kernel) (er_var 0 (pv 0)))))) (ew_or1 (et_cmp opF_gt (EV.r (ev_cb1 opF_len z_len (by decide +kernel) (er_var 0 (pv 0)))) (EV.r (ev_globI rfl c_MOST_STEPS)) (nomark _))))) (svs_one (sv_ret ev_bl)) svs_nil)
    (svs_one (sv_ret (ev_cb1 (opF_all rfl) z_all (by decide +kernel) (EV.r (EN.v (en_lc (own := [("part", 3)]) rfl sc_are_steps.nd (wi_any (ev_var 0 (pv 0))) (ct_1 3) (blkOk_by (N := N_are_steps) (sc := defScope s_are_steps) (by decide +kernel)) (fun _ _ _ _ _ => (pg_name (i := 3) sc_are_steps.nd rfl (Or.inl rfl))) (fun _ _ _ _ _ => ets_nil) (fun _ _ _ _ _ => (ev_fn c_is_step hr (ea_cons (ev_var 3 (pv 3)) (ea_cons (ev_var 1 (pv 1)) (ea_cons (ev_var 2 (pv 2)) ea_nil))))))))))))
abbrev s_is_talk : Stmt := top 14
abbrev N_is_talk : List Str := ["thing", "hands", "hand"]
theorem sc_is_talk : FnScope N_is_talk ["thing"] (defScope s_is_talk) := ⟨rfl, rfl, rfl, by decide +kernel, rfl, by decide +kernel, by decide +kernel⟩
theorem ok_is_talk (F : FunD K "is_talk" "is_talk" (defArgs s_is_talk) (defBody s_is_talk) (defScope s_is_talk) [] [] f fd)  (g_is_talk : mg "is_talk" = some (.ref f)) (c_is_name : Callee P w K mg base k "is_name" 1 m_is_name) (c_are_steps : Callee P w K mg base k "are_steps" 3 (m_are_steps fu_is_step)) (z_all : mg "all" = none) (z_isinstance : mg "isinstance" = none) (z_len : mg "len" = none) (z_set : mg "set" = none) (z_tuple : mg "tuple" = none) {t_MOST_HANDS : Tok} (c_MOST_HANDS : mg "MOST_HANDS" = some (.int 4 t_MOST_HANDS)) {t_DEEPEST : Tok} (c_DEEPEST : mg "DEEPEST" = some (.int 3 t_DEEPEST)) : Callee P w K mg base (k + 1) "is_talk" 1 (runF 3 (f_is_talk)) :=
  fn_C (OK := OwnK.dflt) (o' := []) F sc_is_talk rfl g_is_talk (F.bindsN fun _ _ _ _ _ _ us hl => match us, hl with | [_], _ => rfl) fun cdv A outer s H E hr =>
    letI OKi : OwnK := OwnK.dflt
    (svs_cons (o1 := []) (sv_if (PW.pt (ew_or (et_not (et_val (EV.r (ev_isa (T := "tuple") (x := "tuple") z_isinstance z_tuple (by decide +kernel) (er_var 0 (pv 0)))))) (ew_or (et_cmp (opF_ne (hu64 hr)) (EV.r (ev_cb1 opF_len z_len (by decide +kernel) (er_var 0 (pv 0)))) (EV.r ev_int) (nomark _)) (ew_or1 (et_not (et_val (EV.r (ev_isa (T := "tuple") (x := "tuple") z_isinstance z_tuple (by decide +kernel) (EV.r (ev_ix opF_ix (er_var 0 (pv 0)) (EV.r ev_int) (fun _ _ => rfl))))))))))) (svs_one (sv_ret ev_bl)) svs_nil)
    (svs_cons (o1 := []) (sv_set 1 sc_is_talk.nd (ev_ix opF_ix (er_var 0 (pv 0)) (EV.r ev_int) (fun _ _ => rfl)))
    (svs_cons (o1 := []) (sv_if (PW.pt (ew_or (et_not (et_chain opF_le opF_le (EV.r ev_int) (EV.r (ev_cb1 opF_len z_len (by decide +kernel) (er_var 1 (pv 1)))) (EV.r (ev_globI rfl c_MOST_HANDS)))) (ew_or1 (et_not (et_val (EV.r (ev_cb1 (opF_all rfl) z_all (by decide +kernel) (EV.r (EN.v (en_lc (own := [("hand", 2)]) rfl sc_is_talk.nd (wi_any (ev_var 1 (pv 1))) (ct_1 2) (blkOk_by (N := N_is_talk) (sc := defScope s_is_talk) (by decide +kernel)) (fun _ _ _ _ _ => (pg_name (i := 2) sc_is_talk.nd rfl (Or.inl rfl))) (fun _ _ _ _ _ => ets_nil) (fun _ _ _ _ _ => (ev_fn c_is_name hr (ea_cons (ev_var 2 (pv 2)) ea_nil))))))))))))) (svs_one (sv_ret ev_bl)) svs_nil)
    (svs_one (sv_ret (ev_and (EV.r (ev_cmp (opF_eq (hu64 hr)) (EV.r (ev_lenSet rfl z_len z_set (er_var 1 (pv 1)))) (EV.r (ev_cb1 opF_len z_len (by decide +kernel) (er_var 1 (pv 1)))) (nomark _))) (ev_one (ev_fn c_are_steps hr (ea_cons (ev_ix opF_ix (er_var 0 (pv 0)) (EV.r ev_int) (fun _ _ => rfl)) (ea_cons (ev_var 1 (pv 1)) (ea_cons (ev_globI rfl c_DEEPEST) ea_nil)))))))))))
abbrev s_parts_of : Stmt := top 15
abbrev N_parts_of : List Str := ["step"]
theorem sc_parts_of : FnScope N_parts_of ["step"] (defScope s_parts_of) := ⟨rfl, rfl, rfl, by decide +kernel, rfl, by decide +kernel, by decide +kernel⟩
theorem ok_parts_of (F : FunD K "parts_of" "parts_of" (defArgs s_parts_of) (defBody s_parts_of) (defScope s_parts_of) [] [] f fd)  (g_parts_of : mg "parts_of" = some (.ref f))  : Callee P w K mg base (k + 1) "parts_of" 1 (runF 1 (f_parts_of)) :=
  fn_C (OK := OwnK.dflt) (o' := []) F sc_parts_of rfl g_parts_of (F.bindsN fun _ _ _ _ _ _ us hl => match us, hl with | [_], _ => rfl) fun cdv A outer s H E hr =>
    letI OKi : OwnK := OwnK.dflt
    (svs_cons (o1 := []) (sv_if (et_cmp (opF_eq (hu64 hr)) (EV.r (ev_ix opF_ix (er_var 0 (pv 0)) (EV.r ev_int) (fun _ _ => rfl))) (EV.r ev_str) (nomark _)) (svs_one (sv_ret (ev_ix opF_ix (er_var 0 (pv 0)) (EV.r ev_int) (fun _ _ => rfl)))) svs_nil)
    (svs_cons (o1 := []) (sv_if (et_cmp (opF_eq (hu64 hr)) (EV.r (ev_ix opF_ix (er_var 0 (pv 0)) (EV.r ev_int) (fun _ _ => rfl))) (EV.r ev_str) (nomark _)) (svs_one (sv_ret (ev_tup ea_nil))) svs_nil)
    (svs_one (sv_ret (ev_slice opF_sl (er_var 0 (pv 0)) (eo_some (EV.r ev_int)) eo_none)))))
abbrev s_letters_in : Stmt := top 16
abbrev N_letters_in : List Str := ["steps", "found", "step", "part"]
theorem sc_letters_in : FnScope N_letters_in ["steps"] (defScope s_letters_in) := ⟨rfl, rfl, rfl, by decide +kernel, rfl, by decide +kernel, by decide +kernel⟩
theorem ok_letters_in {r_letters_in : List PyData → Option PyData} (F : FunD K "letters_in" "letters_in" (defArgs s_letters_in) (defBody s_letters_in) (defScope s_letters_in) [] [] f fd)  (g_letters_in : mg "letters_in" = some (.ref f)) (c_letters_in : Callee P w K mg base k "letters_in" 1 r_letters_in) (c_parts_of : Callee P w K mg base k "parts_of" 1 m_parts_of) : Callee P w K mg base (k + 1) "letters_in" 1 (runF 4 (f_letters_in r_letters_in)) :=
  fn_C (OK := OwnK.dflt) (o' := []) F sc_letters_in rfl g_letters_in (F.bindsN fun _ _ _ _ _ _ us hl => match us, hl with | [_], _ => rfl) fun cdv A outer s H E hr =>
    letI OKi : OwnK := OwnK.dflt
    (svs_cons (o1 := [1]) (sv_own 1 sc_letters_in.nd (en_lst ea_nil))
    (svs_cons (o1 := [1]) (sv_for [2, 3] rfl (wi_any (ev_var 0 (pv 0))) (tg_1 2 (pg_name (i := 2) sc_letters_in.nd rfl (Or.inl rfl))) (svs_cons (o1 := [1]) (sv_if (et_cmp (opF_eq (hu64 hr)) (EV.r (ev_ix opF_ix (er_var 2 (pv 2)) (EV.r ev_int) (fun _ _ => rfl))) (EV.r ev_str) (nomark _)) (svs_one (sv_append 1 (pv 1) (ev_slice opF_sl (er_var 2 (pv 2)) (eo_some (EV.r ev_int)) eo_none))) svs_nil)
    (svs_one (sv_for [3] rfl (wi_any (ev_fn c_parts_of hr (ea_cons (ev_var 2 (pv 2)) ea_nil))) (tg_1 3 (pg_name (i := 3) sc_letters_in.nd rfl (Or.inl rfl))) (svs_one (sv_extend 1 (pv 1) (ev_fn c_letters_in hr (ea_cons (ev_var 3 (pv 3)) ea_nil)))) PassesOwn.never))) PassesOwn.never)
    (svs_one (sv_drop [] (sv_ret (ev_var 1 (pv 1)))))))
abbrev s_lanes_of : Stmt := top 18
abbrev N_lanes_of : List Str := ["step", "hands", "found", "part", "letter"]
theorem sc_lanes_of : FnScope N_lanes_of ["step", "hands"] (defScope s_lanes_of) := ⟨rfl, rfl, rfl, by decide +kernel, rfl, by decide +kernel, by decide +kernel⟩
theorem ok_lanes_of (F : FunD K "lanes_of" "lanes_of" (defArgs s_lanes_of) (defBody s_lanes_of) (defScope s_lanes_of) [] [] f fd)  (g_lanes_of : mg "lanes_of" = some (.ref f)) (c_letters_in : Callee P w K mg base k "letters_in" 1 (m_letters_in fu_letters_in)) (c_parts_of : Callee P w K mg base k "parts_of" 1 m_parts_of) (z_len : mg "len" = none) (z_max : mg "max" = none) (z_min : mg "min" = none) : Callee P w K mg base (k + 1) "lanes_of" 2 (runF 5 (f_lanes_of)) :=
  fn_C (OK := OwnK.dflt) (o' := []) F sc_lanes_of rfl g_lanes_of (F.bindsN fun _ _ _ _ _ _ us hl => match us, hl with | [_, _], _ => rfl) fun cdv A outer s H E hr =>
    letI OKi : OwnK := OwnK.dflt
    (svs_cons (o1 := [2]) (sv_own 2 sc_lanes_of.nd (en_lst ea_nil))
    (svs_cons (o1 := [2]) (sv_for [3, 4] rfl (wi_any (ev_fn c_parts_of hr (ea_cons (ev_var 0 (pv 0)) ea_nil))) (tg_1 3 (pg_name (i := 3) sc_lanes_of.nd rfl (Or.inl rfl))) (svs_one (sv_for [4] rfl (wi_any (ev_fn c_letters_in hr (ea_cons (ev_var 3 (pv 3)) ea_nil))) (tg_1 4 (pg_name (i := 4) sc_lanes_of.nd rfl (Or.inl rfl))) (svs_one (sv_extend 2 (pv 2) (EN.v (en_lst (ea_cons (ev_indexT (er_var 1 (pv 1)) (EV.r (ev_ix opF_ix (er_var 4 (pv 4)) (EV.r ev_int) (fun _ _ => rfl)))) (ea_cons (ev_indexT (er_var 1 (pv 1)) (EV.r (ev_ix opF_ix (er_var 4 (pv 4)) (EV.r ev_int) (fun _ _ => rfl)))) ea_nil)))))) PassesOwn.never)) PassesOwn.never)
    (svs_cons (o1 := [2]) (sv_if (et_cmp (opF_eq (hu64 hr)) (EV.r (ev_cb1 opF_len z_len (by decide +kernel) (er_var 2 (pv 2)))) (EV.r ev_int) (nomark _)) (svs_one (sv_ret (ev_tup (ea_cons ev_int (ea_cons (ev_bin opF_sub (EV.r (ev_cb1 opF_len z_len (by decide +kernel) (er_var 1 (pv 1)))) (EV.r ev_int)) ea_nil))))) svs_nil)
    (svs_one (sv_ret (ev_tup (ea_cons (ev_cb1 (opF_min rfl (hu66 hr)) z_min (by decide +kernel) (er_var 2 (pv 2))) (ea_cons (ev_cb1 (opF_max rfl (hu66 hr)) z_max (by decide +kernel) (er_var 2 (pv 2))) ea_nil))))))))
abbrev s_marks_of : Stmt := top 19
abbrev N_marks_of : List Str := ["steps", "hands", "row", "found", "step", "here", "at", "part"]
theorem sc_marks_of : FnScope N_marks_of ["steps", "hands", "row"] (defScope s_marks_of) := ⟨rfl, rfl, rfl, by decide +kernel, rfl, by decide +kernel, by decide +kernel⟩
theorem ok_marks_of {r_marks_of : List PyData → Option PyData} (F : FunD K "marks_of" "marks_of" (defArgs s_marks_of) (defBody s_marks_of) (defScope s_marks_of) [] [] f fd)  (g_marks_of : mg "marks_of" = some (.ref f)) (c_lanes_of : Callee P w K mg base k "lanes_of" 2 m_lanes_of) (c_marks_of : Callee P w K mg base k "marks_of" 3 r_marks_of) (c_parts_of : Callee P w K mg base k "parts_of" 1 m_parts_of) (z_enumerate : mg "enumerate" = none) (z_len : mg "len" = none) : Callee P w K mg base (k + 1) "marks_of" 3 (runF 8 (f_marks_of r_marks_of)) :=
  fn_C (OK := OwnK.dflt) (o' := []) F sc_marks_of rfl g_marks_of (F.bindsN fun _ _ _ _ _ _ us hl => match us, hl with | [_, _, _], _ => rfl) fun cdv A outer s H E hr =>
    letI OKi : OwnK := OwnK.dflt
    (svs_cons (o1 := [3]) (sv_own 3 sc_marks_of.nd (en_lst ea_nil))
    (svs_cons (o1 := [3]) (sv_for [4, 5, 6, 7] rfl (wi_any (ev_var 0 (pv 0))) (tg_1 4 (pg_name (i := 4) sc_marks_of.nd rfl (Or.inl rfl))) (svs_cons (o1 := [3]) (sv_set 5 sc_marks_of.nd (ev_bin opF_addA (er_var 2 (pv 2)) (EV.r (ev_cb1 opF_len z_len (by decide +kernel) (er_var 3 (pv 3))))))
    (svs_one (sv_if (et_cmp (opF_eq (hu64 hr)) (EV.r (ev_ix opF_ix (er_var 4 (pv 4)) (EV.r ev_int) (fun _ _ => rfl))) (EV.r ev_str) (nomark _)) (svs_one (sv_append 3 (pv 3) (ev_tup (ea_cons ev_str (ea_cons (ev_var 5 (pv 5)) (ea_cons (ev_indexT (er_var 1 (pv 1)) (EV.r (ev_ix opF_ix (er_var 4 (pv 4)) (EV.r ev_int) (fun _ _ => rfl)))) (ea_cons (ev_indexT (er_var 1 (pv 1)) (EV.r (ev_ix opF_ix (er_var 4 (pv 4)) (EV.r ev_int) (fun _ _ => rfl)))) (ea_cons (ev_ix opF_ix (er_var 4 (pv 4)) (EV.r ev_int) (fun _ _ => rfl)) ea_nil)))))))) (svs_cons (o1 := [3]) (sv_append 3 (pv 3) (ev_bin opF_addA (EV.r (ev_tup (ea_cons ev_str (ea_cons (ev_var 5 (pv 5)) (ea_cons (ev_ix opF_ix (er_var 4 (pv 4)) (EV.r ev_int) (fun _ _ => rfl)) ea_nil))))) (EV.r (ev_fn c_lanes_of hr (ea_cons (ev_var 4 (pv 4)) (ea_cons (ev_var 1 (pv 1)) ea_nil))))))
    (svs_cons (o1 := [3]) (sv_for [6, 7] rfl (wi_enum z_enumerate (ev_fn c_parts_of hr (ea_cons (ev_var 4 (pv 4)) ea_nil))) (tg_2 6 7 (pg_tup rfl (pgs_cons (pg_name (i := 6) sc_marks_of.nd rfl (Or.inl rfl)) (pgs_cons (pg_name (i := 7) sc_marks_of.nd rfl (Or.inl rfl)) pgs_nil)))) (svs_cons (o1 := [3]) (sv_if (et_cmp opF_gt (er_var 6 (pv 6)) (EV.r ev_int) (nomark _)) (svs_one (sv_append 3 (pv 3) (ev_tup (ea_cons ev_str (ea_cons (ev_bin opF_addA (er_var 2 (pv 2)) (EV.r (ev_cb1 opF_len z_len (by decide +kernel) (er_var 3 (pv 3))))) ea_nil))))) svs_nil)
    (svs_one (sv_extend 3 (pv 3) (ev_fn c_marks_of hr (ea_cons (ev_var 7 (pv 7)) (ea_cons (ev_var 1 (pv 1)) (ea_cons (ev_bin opF_addA (er_var 2 (pv 2)) (EV.r (ev_cb1 opF_len z_len (by decide +kernel) (er_var 3 (pv 3))))) ea_nil))))))) PassesOwn.never)
    (svs_one (sv_append 3 (pv 3) (ev_tup (ea_cons ev_str (ea_cons (ev_bin opF_addA (er_var 2 (pv 2)) (EV.r (ev_cb1 opF_len z_len (by decide +kernel) (er_var 3 (pv 3))))) ea_nil)))))))))) PassesOwn.never)
    (svs_one (sv_drop [] (sv_ret (ev_var 3 (pv 3)))))))
abbrev s_laid : Stmt := top 20
abbrev N_laid : List Str := ["talk"]
theorem sc_laid : FnScope N_laid ["talk"] (defScope s_laid) := ⟨rfl, rfl, rfl, by decide +kernel, rfl, by decide +kernel, by decide +kernel⟩
theorem ok_laid (F : FunD K "laid" "laid" (defArgs s_laid) (defBody s_laid) (defScope s_laid) [] [] f fd)  (g_laid : mg "laid" = some (.ref f)) (c_marks_of : Callee P w K mg base k "marks_of" 3 (m_marks_of fu_marks_of)) (z_tuple : mg "tuple" = none) : Callee P w K mg base (k + 1) "laid" 1 (runF 1 (f_laid)) :=
  fn_C (OK := OwnK.dflt) (o' := []) F sc_laid rfl g_laid (F.bindsN fun _ _ _ _ _ _ us hl => match us, hl with | [_], _ => rfl) fun cdv A outer s H E hr =>
    letI OKi : OwnK := OwnK.dflt
    (svs_one (sv_ret (ev_ct1 opF_tuple z_tuple (by decide +kernel) (EV.r (ev_fn c_marks_of hr (ea_cons (ev_ix opF_ix (er_var 0 (pv 0)) (EV.r ev_int) (fun _ _ => rfl)) (ea_cons (ev_ix opF_ix (er_var 0 (pv 0)) (EV.r ev_int) (fun _ _ => rfl)) (ea_cons ev_int ea_nil))))))))
abbrev s_height : Stmt := top 21
abbrev N_height : List Str := ["talk"]
theorem sc_height : FnScope N_height ["talk"] (defScope s_height) := ⟨rfl, rfl, rfl, by decide +kernel, rfl, by decide +kernel, by decide +kernel⟩
theorem ok_height (F : FunD K "height" "height" (defArgs s_height) (defBody s_height) (defScope s_height) [] [] f fd)  (g_height : mg "height" = some (.ref f)) (c_laid : Callee P w K mg base k "laid" 1 m_laid) (z_len : mg "len" = none) : Callee P w K mg base (k + 1) "height" 1 (runF 1 (f_height)) :=
  fn_C (OK := OwnK.dflt) (o' := []) F sc_height rfl g_height (F.bindsN fun _ _ _ _ _ _ us hl => match us, hl with | [_], _ => rfl) fun cdv A outer s H E hr =>
    letI OKi : OwnK := OwnK.dflt
    (svs_one (sv_ret (ev_cb1 opF_len z_len (by decide +kernel) (EV.r (ev_fn c_laid hr (ea_cons (ev_var 0 (pv 0)) ea_nil))))))
abbrev s_Marks_init__ : Stmt := inClass (top 22) 0
abbrev N_Marks_init__ : List Str := ["self", "hands", "marks"]
theorem sc_Marks_init__ : FnScope N_Marks_init__ ["self", "hands", "marks"] (defScope s_Marks_init__) := ⟨rfl, rfl, rfl, by decide +kernel, rfl, by decide +kernel, by decide +kernel⟩
theorem ok_Marks_init__ (F : FunD K "__init__" "Marks.__init__" (defArgs s_Marks_init__) (defBody s_Marks_init__) (defScope s_Marks_init__) [] [] f fd)  {C_Marks_init__ : Addr} (g_Marks_init__ : mg "Marks" = some (.ref C_Marks_init__)) (mk_Marks_init__ : L2.Mk K C_Marks_init__ f) (T_Marks_hands : ClsT K mg "Marks" "hands") (T_Marks_marks : ClsT K mg "Marks" "marks") (T_Marks_at : ClsT K mg "Marks" "at") : KCallee P w K mg base (k + 1) "Marks" 2 (runM 3 (f_Marks_init__)) :=
  fn_KC (o' := [0]) F sc_Marks_init__ g_Marks_init__ mk_Marks_init__ (F.bindsN fun _ _ _ _ _ _ us hl => match us, hl with | [_, _, _], _ => rfl) rfl (by decide) fun p cdv A outer s H E hr =>
    letI OKi : OwnK := mkO P w mg (fun a _ => a = p) [0]
    (svs_cons (o1 := [0]) (sv_fld rfl (fun _ _ _ h => h) T_Marks_hands 0 (pv 0) (ev_var 1 (pv 1)))
    (svs_cons (o1 := [0]) (sv_fld rfl (fun _ _ _ h => h) T_Marks_marks 0 (pv 0) (ev_var 2 (pv 2)))
    (svs_one (sv_fld rfl (fun _ _ _ h => h) T_Marks_at 0 (pv 0) ev_int))))
abbrev s_Marks_next_word : Stmt := inClass (top 22) 1
abbrev N_Marks_next_word : List Str := ["self"]
theorem sc_Marks_next_word : FnScope N_Marks_next_word ["self"] (defScope s_Marks_next_word) := ⟨rfl, rfl, rfl, by decide +kernel, rfl, by decide +kernel, by decide +kernel⟩
theorem ok_Marks_next_word (F : FunD K "next_word" "Marks.next_word" (defArgs s_Marks_next_word) (defBody s_Marks_next_word) (defScope s_Marks_next_word) [] [] f fd)  {C_Marks_next_word : Addr} (g_Marks_next_word : mg "Marks" = some (.ref C_Marks_next_word)) (cl_Marks_next_word : Cls K C_Marks_next_word) (me_Marks_next_word : Meth K C_Marks_next_word "next_word" f) (z_len : mg "len" = none) (T_Marks_at : ClsT K mg "Marks" "at") (T_Marks_marks : ClsT K mg "Marks" "marks") : PCallee P w K mg base (k + 1) "Marks" "next_word" 0 (runP 1 (f_Marks_next_word)) :=
  fn_PC (o' := [0]) F sc_Marks_next_word g_Marks_next_word cl_Marks_next_word me_Marks_next_word (F.bindsN fun _ _ _ _ _ _ us hl => match us, hl with | [_], _ => rfl) rfl fun p u cdv A outer s H E hr =>
    letI OKi : OwnK := mkO P w mg (fun a u' => a = p ∧ u' = u) [0]
    (svs_cons (o1 := [0]) (sv_if (et_cmp (opF_eq (hu64 hr)) (EV.r (ev_fld rfl T_Marks_at 0 (pv 0))) (EV.r (ev_cb1 opF_len z_len (by decide +kernel) (EV.r (ev_fld rfl T_Marks_marks 0 (pv 0))))) (nomark _)) (svs_one (sm_ret (em_ev ev_str) (fun i h => (by decide : ∀ i ∈ ([0] : List Nat), i ∈ ([0] : List Nat)) i h))) svs_nil)
    (svs_one (sm_ret (em_ev (ev_ix opF_ix (EV.r (ev_ix opF_ix (EV.r (ev_fld rfl T_Marks_marks 0 (pv 0))) (EV.r (ev_fld rfl T_Marks_at 0 (pv 0))) (fun _ _ => rfl))) (EV.r ev_int) (fun _ _ => rfl))) (fun i h => (by decide : ∀ i ∈ ([0] : List Nat), i ∈ ([0] : List Nat)) i h))))
abbrev s_Marks_take : Stmt := inClass (top 22) 2
abbrev N_Marks_take : List Str := ["self"]
theorem sc_Marks_take : FnScope N_Marks_take ["self"] (defScope s_Marks_take) := ⟨rfl, rfl, rfl, by decide +kernel, rfl, by decide +kernel, by decide +kernel⟩
theorem ok_Marks_take (F : FunD K "take" "Marks.take" (defArgs s_Marks_take) (defBody s_Marks_take) (defScope s_Marks_take) [] [] f fd)  {C_Marks_take : Addr} (g_Marks_take : mg "Marks" = some (.ref C_Marks_take)) (cl_Marks_take : Cls K C_Marks_take) (me_Marks_take : Meth K C_Marks_take "take" f) (T_Marks_at : ClsT K mg "Marks" "at") (T_Marks_marks : ClsT K mg "Marks" "marks") : MCallee P w K mg base (k + 1) "Marks" "take" 0 (runM 1 (f_Marks_take)) :=
  fn_MC (o' := [0]) F sc_Marks_take g_Marks_take cl_Marks_take me_Marks_take (F.bindsN fun _ _ _ _ _ _ us hl => match us, hl with | [_], _ => rfl) rfl (by decide) fun p cdv A outer s H E hr =>
    letI OKi : OwnK := mkO P w mg (fun a _ => a = p) [0]
    (svs_cons (o1 := [0]) (sv_fld rfl (fun _ _ _ h => h) T_Marks_at 0 (pv 0) (ev_bin opF_addA (EV.r (ev_fld rfl T_Marks_at 0 (pv 0))) (EV.r ev_int)))
    (svs_one (sm_ret (em_ev (ev_ix opF_ix (EV.r (ev_fld rfl T_Marks_marks 0 (pv 0))) (EV.r (ev_bin opF_sub (EV.r (ev_fld rfl T_Marks_at 0 (pv 0))) (EV.r ev_int))) (fun _ _ => rfl))) (fun i h => (by decide : ∀ i ∈ ([0] : List Nat), i ∈ ([0] : List Nat)) i h))))
abbrev s_Marks_steps : Stmt := inClass (top 22) 3
abbrev N_Marks_steps : List Str := ["self", "found"]
theorem sc_Marks_steps : FnScope N_Marks_steps ["self"] (defScope s_Marks_steps) := ⟨rfl, rfl, rfl, by decide +kernel, rfl, by decide +kernel, by decide +kernel⟩
theorem ok_Marks_steps {r_Marks_steps : List PyData → Option Rm} {r_Marks_step : List PyData → Option Rm} (F : FunD K "steps" "Marks.steps" (defArgs s_Marks_steps) (defBody s_Marks_steps) (defScope s_Marks_steps) [] [] f fd)  {C_Marks_steps : Addr} (g_Marks_steps : mg "Marks" = some (.ref C_Marks_steps)) (cl_Marks_steps : Cls K C_Marks_steps) (me_Marks_steps : Meth K C_Marks_steps "steps" f) (c_Marks_step : MCallee P w K mg base k "Marks" "step" 0 r_Marks_step) (c_Marks_next_word : PCallee P w K mg base k "Marks" "next_word" 0 m_Marks_next_word) (z_tuple : mg "tuple" = none) : MCallee P w K mg base (k + 1) "Marks" "steps" 0 (runM 2 (f_Marks_steps r_Marks_steps r_Marks_step)) :=
  fn_MC (o' := [0]) F sc_Marks_steps g_Marks_steps cl_Marks_steps me_Marks_steps (F.bindsN fun _ _ _ _ _ _ us hl => match us, hl with | [_], _ => rfl) rfl (by decide) fun p cdv A outer s H E hr =>
    letI OKi : OwnK := mkO P w mg (fun a _ => a = p) [0]
    (svs_cons (o1 := [1, 0]) (sv_own 1 sc_Marks_steps.nd (en_lst ea_nil))
    (svs_cons (o1 := [1, 0]) (sv_while wf [] (et_cmp (opF_in (hu65 hr)) (EV.r (ev_meth0 rfl c_Marks_next_word hr 0 (pv 0))) (EV.r (ev_tup (ea_cons ev_str (ea_cons ev_str ea_nil)))) (by rfl)) (svs_one (sm_append 1 (pv 1) (em_meth0 rfl (fun _ _ _ h => h) c_Marks_step hr 0 (pv 0)))) (passes_of rfl))
    (svs_one (sm_ret (em_ev (ev_ct1 opF_tuple z_tuple (by decide +kernel) (er_var 1 (pv 1)))) (fun i h => (by decide : ∀ i ∈ ([0] : List Nat), i ∈ ([1, 0] : List Nat)) i h)))))
abbrev s_Marks_step : Stmt := inClass (top 22) 4
abbrev N_Marks_step : List Str := ["self", "mark", "parts"]
theorem sc_Marks_step : FnScope N_Marks_step ["self"] (defScope s_Marks_step) := ⟨rfl, rfl, rfl, by decide +kernel, rfl, by decide +kernel, by decide +kernel⟩
theorem ok_Marks_step {r_Marks_steps : List PyData → Option Rm} {r_Marks_step : List PyData → Option Rm} (F : FunD K "step" "Marks.step" (defArgs s_Marks_step) (defBody s_Marks_step) (defScope s_Marks_step) [] [] f fd)  {C_Marks_step : Addr} (g_Marks_step : mg "Marks" = some (.ref C_Marks_step)) (cl_Marks_step : Cls K C_Marks_step) (me_Marks_step : Meth K C_Marks_step "step" f) (c_Marks_take : MCallee P w K mg base k "Marks" "take" 0 m_Marks_take) (c_Marks_hand : MCallee P w K mg base k "Marks" "hand" 1 m_Marks_hand) (c_Marks_steps : MCallee P w K mg base k "Marks" "steps" 0 r_Marks_steps) (c_Marks_next_word : PCallee P w K mg base k "Marks" "next_word" 0 m_Marks_next_word) (z_tuple : mg "tuple" = none) (X_NoTalk : ExcT K mg "NoTalk") : MCallee P w K mg base (k + 1) "Marks" "step" 0 (runM 3 (f_Marks_step r_Marks_steps r_Marks_step)) :=
  fn_MC (o' := [0]) F sc_Marks_step g_Marks_step cl_Marks_step me_Marks_step (F.bindsN fun _ _ _ _ _ _ us hl => match us, hl with | [_], _ => rfl) rfl (by decide) fun p cdv A outer s H E hr =>
    letI OKi : OwnK := mkO P w mg (fun a _ => a = p) [0]
    (svs_cons (o1 := [0]) (sm_set 1 sc_Marks_step.nd (em_meth0 rfl (fun _ _ _ h => h) c_Marks_take hr 0 (pv 0)))
    (svs_cons (o1 := [0]) (sv_if (et_cmp (opF_eq (hu64 hr)) (EV.r (ev_ix opF_ix (er_var 1 (pv 1)) (EV.r ev_int) (fun _ _ => rfl))) (EV.r ev_str) (nomark _)) (svs_one (sm_ret (em_tup (ema_cons (em_ev ev_str) (ema_cons (em_meth rfl (fun _ _ _ h => h) c_Marks_hand hr 0 (pv 0) (ea_cons (ev_ix opF_ix (er_var 1 (pv 1)) (EV.r ev_int) (fun _ _ => rfl)) ea_nil) (aLen_cons aLen_nil)) (ema_cons (em_meth rfl (fun _ _ _ h => h) c_Marks_hand hr 0 (pv 0) (ea_cons (ev_ix opF_ix (er_var 1 (pv 1)) (EV.r ev_int) (fun _ _ => rfl)) ea_nil) (aLen_cons aLen_nil)) (ema_cons (em_ev (ev_ix opF_ix (er_var 1 (pv 1)) (EV.r ev_int) (fun _ _ => rfl))) ema_nil))))) (fun i h => (by decide : ∀ i ∈ ([0] : List Nat), i ∈ ([0] : List Nat)) i h))) svs_nil)
    (svs_cons (o1 := [2, 0]) (sm_own 2 sc_Marks_step.nd (emn_lst (ema_cons (em_meth0 rfl (fun _ _ _ h => h) c_Marks_steps hr 0 (pv 0)) ema_nil)))
    (svs_cons (o1 := [2, 0]) (sv_while wf [] (et_cmp (opF_eq (hu64 hr)) (EV.r (ev_meth0 rfl c_Marks_next_word hr 0 (pv 0))) (EV.r ev_str) (nomark _)) (svs_cons (o1 := [2, 0]) (sm_exp (em_meth0 rfl (fun _ _ _ h => h) c_Marks_take hr 0 (pv 0)))
    (svs_one (sm_append 2 (pv 2) (em_meth0 rfl (fun _ _ _ h => h) c_Marks_steps hr 0 (pv 0))))) (passes_of rfl))
    (svs_cons (o1 := [2, 0]) (sv_if (et_cmp (opF_ne (hu64 hr)) (EV.r (ev_meth0 rfl c_Marks_next_word hr 0 (pv 0))) (EV.r ev_str) (nomark _)) (svs_one (sm_raise X_NoTalk rfl)) svs_nil)
    (svs_cons (o1 := [2, 0]) (sm_exp (em_meth0 rfl (fun _ _ _ h => h) c_Marks_take hr 0 (pv 0)))
    (svs_cons (o1 := [2, 0]) (sv_if (et_cmp (opF_eq (hu64 hr)) (EV.r (ev_ix opF_ix (er_var 1 (pv 1)) (EV.r ev_int) (fun _ _ => rfl))) (EV.r ev_str) (nomark _)) (svs_one (sm_ret (em_ev (ev_tup (ea_cons ev_str (ea_cons (ev_ct1 opF_tuple z_tuple (by decide +kernel) (er_var 2 (pv 2))) ea_nil)))) (fun i h => (by decide : ∀ i ∈ ([0] : List Nat), i ∈ ([2, 0] : List Nat)) i h))) svs_nil)
    (svs_one (sm_ret (em_ev (ev_bin opF_addA (EV.r (ev_tup (ea_cons (ev_ix opF_ix (er_var 1 (pv 1)) (EV.r ev_int) (fun _ _ => rfl)) ea_nil))) (EV.r (ev_ct1 opF_tuple z_tuple (by decide +kernel) (er_var 2 (pv 2)))))) (fun i h => (by decide : ∀ i ∈ ([0] : List Nat), i ∈ ([2, 0] : List Nat)) i h))))))))))
abbrev s_Marks_hand : Stmt := inClass (top 22) 5
abbrev N_Marks_hand : List Str := ["self", "lane"]
theorem sc_Marks_hand : FnScope N_Marks_hand ["self", "lane"] (defScope s_Marks_hand) := ⟨rfl, rfl, rfl, by decide +kernel, rfl, by decide +kernel, by decide +kernel⟩
theorem ok_Marks_hand (F : FunD K "hand" "Marks.hand" (defArgs s_Marks_hand) (defBody s_Marks_hand) (defScope s_Marks_hand) [] [] f fd)  {C_Marks_hand : Addr} (g_Marks_hand : mg "Marks" = some (.ref C_Marks_hand)) (cl_Marks_hand : Cls K C_Marks_hand) (me_Marks_hand : Meth K C_Marks_hand "hand" f) (z_len : mg "len" = none) (T_Marks_hands : ClsT K mg "Marks" "hands") (X_NoTalk : ExcT K mg "NoTalk") : MCallee P w K mg base (k + 1) "Marks" "hand" 1 (runM 2 (f_Marks_hand)) :=
  fn_MC (o' := [0]) F sc_Marks_hand g_Marks_hand cl_Marks_hand me_Marks_hand (F.bindsN fun _ _ _ _ _ _ us hl => match us, hl with | [_, _], _ => rfl) rfl (by decide) fun p cdv A outer s H E hr =>
    letI OKi : OwnK := mkO P w mg (fun a _ => a = p) [0]
    (svs_cons (o1 := [0]) (sv_if (et_not (et_chain opF_le (opF_ltA (hu64 hr)) (EV.r ev_int) (er_var 1 (pv 1)) (EV.r (ev_cb1 opF_len z_len (by decide +kernel) (EV.r (ev_fld rfl T_Marks_hands 0 (pv 0))))))) (svs_one (sm_raise X_NoTalk rfl)) svs_nil)
    (svs_one (sm_ret (em_ev (ev_ix opF_ix (EV.r (ev_fld rfl T_Marks_hands 0 (pv 0))) (er_var 1 (pv 1)) (fun _ _ => rfl))) (fun i h => (by decide : ∀ i ∈ ([0] : List Nat), i ∈ ([0] : List Nat)) i h))))
abbrev s_unlaid : Stmt := top 23
abbrev N_unlaid : List Str := ["hands", "marks", "reader", "found"]
theorem sc_unlaid : FnScope N_unlaid ["hands", "marks"] (defScope s_unlaid) := ⟨rfl, rfl, rfl, by decide +kernel, rfl, by decide +kernel, by decide +kernel⟩
theorem ok_unlaid (F : FunD K "unlaid" "unlaid" (defArgs s_unlaid) (defBody s_unlaid) (defScope s_unlaid) [] [] f fd)  (g_unlaid : mg "unlaid" = some (.ref f)) (c_Marks_init__ : KCallee P w K mg base k "Marks" 2 m_Marks_init__) (c_Marks_steps : MCallee P w K mg base k "Marks" "steps" 0 (m_Marks_steps fu_Marks_steps)) (c_is_talk : Callee P w K mg base k "is_talk" 1 m_is_talk) (c_laid : Callee P w K mg base k "laid" 1 m_laid) (z_len : mg "len" = none) (T_Marks_at : ClsT K mg "Marks" "at") (X_NoTalk : ExcT K mg "NoTalk") : XCallee P w K mg base (k + 1 + 1) "unlaid" 2 (runX 4 (f_unlaid)) :=
  fn_XC (o' := []) F sc_unlaid g_unlaid (F.bindsN fun _ _ _ _ _ _ us hl => match us, hl with | [_, _], _ => rfl) fun cdv A outer s H E hr1 =>
    have hr := hr1.mono (Nat.le_succ _)
    letI OKi : OwnK := mkA P w mg
    (svs_cons (o1 := [2]) (sv_make rfl (fun _ _ => trivial) c_Marks_init__ hr1 2 sc_unlaid.nd (ea_cons (ev_var 0 (pv 0)) (ea_cons (ev_var 1 (pv 1)) ea_nil)) (aLen_cons (aLen_cons aLen_nil)))
    (svs_cons (o1 := [2]) (sm_set 3 sc_unlaid.nd (em_tup (ema_cons (em_ev (ev_var 0 (pv 0))) (ema_cons (em_meth0 rfl (fun _ _ _ h => h) c_Marks_steps hr 2 (pv 2)) ema_nil))))
    (svs_cons (o1 := [2]) (sv_if (PW.pt (ew_or (et_cmp (opF_ltA (hu64 hr)) (EV.r (ev_fld rfl T_Marks_at 2 (pv 2))) (EV.r (ev_cb1 opF_len z_len (by decide +kernel) (er_var 1 (pv 1)))) (nomark _)) (ew_or (et_not (et_val (EV.r (ev_fn c_is_talk hr (ea_cons (ev_var 3 (pv 3)) ea_nil))))) (ew_or1 (et_cmp (opF_ne (hu64 hr)) (EV.r (ev_fn c_laid hr (ea_cons (ev_var 3 (pv 3)) ea_nil))) (er_var 1 (pv 1)) (nomark _)))))) (svs_one (sm_raise X_NoTalk rfl)) svs_nil)
    (svs_one (sv_ret (ev_var 3 (pv 3)))))))
abbrev s_law_cell_at : Stmt := top 25
abbrev N_law_cell_at : List Str := ["_law_script", "_law_k"]
theorem sc_law_cell_at : FnScope N_law_cell_at ["_law_script", "_law_k"] (defScope s_law_cell_at) := ⟨rfl, rfl, rfl, by decide +kernel, rfl, by decide +kernel, by decide +kernel⟩
theorem ok_law_cell_at (F : FunD K "_law_cell_at" "_law_cell_at" (defArgs s_law_cell_at) (defBody s_law_cell_at) (defScope s_law_cell_at) [] [] f fd)  (g_law_cell_at : mg "_law_cell_at" = some (.ref f)) (z_len : mg "len" = none) : Callee P w K mg base (k + 1) "_law_cell_at" 2 (runF 2 (f_law_cell_at)) :=
  fn_C (OK := OwnK.dflt) (o' := []) F sc_law_cell_at rfl g_law_cell_at (F.bindsN fun _ _ _ _ _ _ us hl => match us, hl with | [_, _], _ => rfl) fun cdv A outer s H E hr =>
    letI OKi : OwnK := OwnK.dflt
    (svs_cons (o1 := []) (sv_if (et_cmp (opF_ltA (hu64 hr)) (er_var 1 (pv 1)) (EV.r (ev_cb1 opF_len z_len (by decide +kernel) (er_var 0 (pv 0)))) (nomark _)) (svs_one (sv_ret (ev_ix opF_ix (er_var 0 (pv 0)) (er_var 1 (pv 1)) (fun _ _ => rfl)))) svs_nil)
    (svs_one (sv_ret ev_int)))
abbrev s_law_mixed : Stmt := top 26
abbrev N_law_mixed : List Str := ["_law_script", "_law_k", "_law_drawn_here"]
theorem sc_law_mixed : FnScope N_law_mixed ["_law_script", "_law_k"] (defScope s_law_mixed) := ⟨rfl, rfl, rfl, by decide +kernel, rfl, by decide +kernel, by decide +kernel⟩
theorem ok_law_mixed (F : FunD K "_law_mixed" "_law_mixed" (defArgs s_law_mixed) (defBody s_law_mixed) (defScope s_law_mixed) [] [] f fd)  (g_law_mixed : mg "_law_mixed" = some (.ref f)) (c_law_cell_at : Callee P w K mg base k "_law_cell_at" 2 m_law_cell_at) : Callee P w K mg base (k + 1) "_law_mixed" 2 (runF 3 (f_law_mixed)) :=
  fn_C (OK := OwnK.dflt) (o' := []) F sc_law_mixed rfl g_law_mixed (F.bindsN fun _ _ _ _ _ _ us hl => match us, hl with | [_, _], _ => rfl) fun cdv A outer s H E hr =>
    letI OKi : OwnK := OwnK.dflt
    (svs_cons (o1 := []) (sv_set 2 sc_law_mixed.nd (ev_bin opF_mod (EV.r (ev_bin opF_mulA (EV.r (ev_bin opF_addA (EV.r (ev_bin opF_addA (EV.r (ev_fn c_law_cell_at hr (ea_cons (ev_var 0 (pv 0)) (ea_cons (ev_var 1 (pv 1)) ea_nil)))) (EV.r (ev_bin opF_mulA (EV.r ev_int) (er_var 1 (pv 1)))))) (EV.r ev_int))) (EV.r ev_int))) (EV.r ev_int)))
    (svs_one (sv_ret (ev_bin opF_mod (EV.r (ev_bin opF_addA (EV.r (ev_bin opF_addA (EV.r (ev_bin opF_mulA (er_var 2 (pv 2)) (er_var 2 (pv 2)))) (EV.r (ev_bin opF_mulA (EV.r ev_int) (er_var 2 (pv 2)))))) (er_var 1 (pv 1)))) (EV.r ev_int)))))
abbrev s_law_drawn : Stmt := top 27
abbrev N_law_drawn : List Str := ["_law_number", "_law_k", "_law_drawn_here"]
theorem sc_law_drawn : FnScope N_law_drawn ["_law_number", "_law_k"] (defScope s_law_drawn) := ⟨rfl, rfl, rfl, by decide +kernel, rfl, by decide +kernel, by decide +kernel⟩
theorem ok_law_drawn (F : FunD K "_law_drawn" "_law_drawn" (defArgs s_law_drawn) (defBody s_law_drawn) (defScope s_law_drawn) [] [] f fd)  (g_law_drawn : mg "_law_drawn" = some (.ref f))  : Callee P w K mg base (k + 1) "_law_drawn" 2 (runF 3 (f_law_drawn)) :=
  fn_C (OK := OwnK.dflt) (o' := []) F sc_law_drawn rfl g_law_drawn (F.bindsN fun _ _ _ _ _ _ us hl => match us, hl with | [_, _], _ => rfl) fun cdv A outer s H E hr =>
    letI OKi : OwnK := OwnK.dflt
    (svs_cons (o1 := []) (sv_set 2 sc_law_drawn.nd (ev_bin opF_mod (EV.r (ev_bin opF_mulA (EV.r (ev_bin opF_addA (EV.r (ev_bin opF_addA (er_var 0 (pv 0)) (EV.r (ev_bin opF_mulA (EV.r ev_int) (er_var 1 (pv 1)))))) (EV.r ev_int))) (EV.r ev_int))) (EV.r ev_int)))
    (svs_one (sv_ret (ev_bin opF_mod (EV.r (ev_bin opF_addA (EV.r (ev_bin opF_addA (EV.r (ev_bin opF_mulA (er_var 2 (pv 2)) (er_var 2 (pv 2)))) (EV.r (ev_bin opF_mulA (EV.r ev_int) (er_var 2 (pv 2)))))) (er_var 1 (pv 1)))) (EV.r ev_int)))))
abbrev s_law_word : Stmt := top 28
abbrev N_law_word : List Str := ["_law_number", "_law_signs", "_law_k"]
theorem sc_law_word : FnScope N_law_word ["_law_number"] (defScope s_law_word) := ⟨rfl, rfl, rfl, by decide +kernel, rfl, by decide +kernel, by decide +kernel⟩
theorem ok_law_word (F : FunD K "_law_word" "_law_word" (defArgs s_law_word) (defBody s_law_word) (defScope s_law_word) [] [] f fd)  (g_law_word : mg "_law_word" = some (.ref f)) (c_law_drawn : Callee P w K mg base k "_law_drawn" 2 m_law_drawn) (z_range : mg "range" = none) : Callee P w K mg base (k + 1) "_law_word" 1 (runF 3 (f_law_word)) :=
  fn_C (OK := OwnK.dflt) (o' := []) F sc_law_word rfl g_law_word (F.bindsN fun _ _ _ _ _ _ us hl => match us, hl with | [_], _ => rfl) fun cdv A outer s H E hr =>
    letI OKi : OwnK := OwnK.dflt
    (svs_cons (o1 := []) (sv_if (et_cmp opF_gt (EV.r (ev_bin opF_mod (er_var 0 (pv 0)) (EV.r ev_int))) (EV.r ev_int) (nomark _)) (svs_one (sv_ret (ev_ix opF_ix (EV.r (ev_tup (ea_cons ev_str (ea_cons ev_str (ea_cons ev_str (ea_cons ev_str (ea_cons ev_str ea_nil))))))) (EV.r (ev_bin opF_sub (EV.r (ev_bin opF_mod (er_var 0 (pv 0)) (EV.r ev_int))) (EV.r ev_int))) (fun _ _ => rfl)))) svs_nil)
    (svs_cons (o1 := []) (sv_set 1 sc_law_word.nd ev_str)
    (svs_one (sv_ret (ev_join (EV.r ev_str) (EV.r (EN.v (en_lc (own := [("_law_k", 2)]) rfl sc_law_word.nd (wi_range1 z_range (EV.r (ev_bin opF_addA (EV.r ev_int) (EV.r (ev_bin opF_mod (EV.r (ev_bin opF_div (er_var 0 (pv 0)) (EV.r ev_int))) (EV.r ev_int)))))) (ct_1 2) (blkOk_by (N := N_law_word) (sc := defScope s_law_word) (by decide +kernel)) (fun _ _ _ _ _ => (pg_name (i := 2) sc_law_word.nd rfl (Or.inl rfl))) (fun _ _ _ _ _ => ets_nil) (fun _ _ _ _ _ => (ev_ix opF_ix (er_var 1 (pv 1)) (EV.r (ev_bin opF_mod (EV.r (ev_bin opF_div (EV.r (ev_fn c_law_drawn hr (ea_cons (ev_var 0 (pv 0)) (ea_cons (ev_var 2 (pv 2)) ea_nil)))) (EV.r ev_int))) (EV.r ev_int))) (fun _ _ => rfl)))))))))))
abbrev s_law_step : Stmt := top 29
abbrev N_law_step : List Str := ["_law_number", "_law_hands", "_law_deep", "_law_kind", "_law_one", "_law_begin", "_law_end", "_law_many", "_law_branches", "_law_k"]
theorem sc_law_step : FnScope N_law_step ["_law_number", "_law_hands", "_law_deep"] (defScope s_law_step) := ⟨rfl, rfl, rfl, by decide +kernel, rfl, by decide +kernel, by decide +kernel⟩
theorem ok_law_step {r_law_step : List PyData → Option PyData} {r_law_steps : List PyData → Option PyData} (F : FunD K "_law_step" "_law_step" (defArgs s_law_step) (defBody s_law_step) (defScope s_law_step) [] [] f fd)  (g_law_step : mg "_law_step" = some (.ref f)) (c_law_word : Callee P w K mg base k "_law_word" 1 m_law_word) (c_law_steps : Callee P w K mg base k "_law_steps" 4 r_law_steps) (c_law_drawn : Callee P w K mg base k "_law_drawn" 2 m_law_drawn) (z_len : mg "len" = none) (z_range : mg "range" = none) (z_tuple : mg "tuple" = none) : Callee P w K mg base (k + 1) "_law_step" 3 (runF 10 (f_law_step r_law_step r_law_steps)) :=
  fn_C (OK := OwnK.dflt) (o' := []) F sc_law_step rfl g_law_step (F.bindsN fun _ _ _ _ _ _ us hl => match us, hl with | [_, _, _], _ => rfl) fun cdv A outer s H E hr =>
    letI OKi : OwnK := OwnK.dflt
    (svs_cons (o1 := []) (sv_set 3 sc_law_step.nd (ev_bin opF_mod (er_var 0 (pv 0)) (EV.r ev_int)))
    (svs_cons (o1 := []) (sv_if (PW.pt (ew_or (et_cmp (opF_eq (hu64 hr)) (er_var 2 (pv 2)) (EV.r ev_int) (nomark _)) (ew_or1 (et_cmp (opF_ltA (hu64 hr)) (er_var 3 (pv 3)) (EV.r ev_int) (nomark _))))) (svs_cons (o1 := []) (sv_set 5 sc_law_step.nd (ev_ix opF_ix (er_var 1 (pv 1)) (EV.r (ev_bin opF_mod (EV.r (ev_bin opF_div (er_var 0 (pv 0)) (EV.r ev_int))) (EV.r (ev_cb1 opF_len z_len (by decide +kernel) (er_var 1 (pv 1)))))) (fun _ _ => rfl)))
    (svs_cons (o1 := []) (sv_set 6 sc_law_step.nd (ev_ix opF_ix (er_var 1 (pv 1)) (EV.r (ev_bin opF_mod (EV.r (ev_bin opF_div (er_var 0 (pv 0)) (EV.r ev_int))) (EV.r (ev_cb1 opF_len z_len (by decide +kernel) (er_var 1 (pv 1)))))) (fun _ _ => rfl)))
    (svs_one (sv_ret (ev_tup (ea_cons ev_str (ea_cons (ev_var 5 (pv 5)) (ea_cons (ev_var 6 (pv 6)) (ea_cons (ev_fn c_law_word hr (ea_cons (ev_bin opF_div (er_var 0 (pv 0)) (EV.r ev_int)) ea_nil)) ea_nil))))))))) svs_nil)
    (svs_cons (o1 := []) (sv_if (et_cmp (opF_ltA (hu64 hr)) (er_var 3 (pv 3)) (EV.r ev_int) (nomark _)) (svs_cons (o1 := []) (sv_set 7 sc_law_step.nd (ev_bin opF_addA (EV.r ev_int) (EV.r (ev_bin opF_mod (EV.r (ev_bin opF_div (er_var 0 (pv 0)) (EV.r ev_int))) (EV.r ev_int)))))
    (svs_cons (o1 := []) (sv_less [8] (sv_ownLc 8 (own := [("_law_k", 9)]) rfl sc_law_step.nd (wi_range1 z_range (er_var 7 (pv 7))) (ct_1 9) (blkOk_by (N := N_law_step) (sc := defScope s_law_step) (by decide +kernel)) (fun _ _ _ _ _ => (pg_name (i := 9) sc_law_step.nd rfl (Or.inl rfl))) (fun _ _ _ _ _ => ets_nil) (fun _ _ _ _ _ => (ev_fn c_law_steps hr (ea_cons (ev_bin opF_div (EV.r (ev_fn c_law_drawn hr (ea_cons (ev_var 0 (pv 0)) (ea_cons (ev_var 9 (pv 9)) ea_nil)))) (EV.r ev_int)) (ea_cons (ev_var 1 (pv 1)) (ea_cons (ev_bin opF_sub (er_var 2 (pv 2)) (EV.r ev_int)) (ea_cons ev_int ea_nil)))))) (sw_true rfl rfl rfl (by decide +kernel))))
    (svs_one (sv_ret (ev_tup (ea_cons ev_str (ea_cons (ev_ct1 opF_tuple z_tuple (by decide +kernel) (er_var 8 (pv 8))) ea_nil))))))) svs_nil)
    (svs_cons (o1 := []) (sv_set 4 sc_law_step.nd (ev_fn c_law_steps hr (ea_cons (ev_bin opF_div (EV.r (ev_fn c_law_drawn hr (ea_cons (ev_var 0 (pv 0)) (ea_cons ev_int ea_nil)))) (EV.r ev_int)) (ea_cons (ev_var 1 (pv 1)) (ea_cons (ev_bin opF_sub (er_var 2 (pv 2)) (EV.r ev_int)) (ea_cons ev_int ea_nil))))))
    (svs_cons (o1 := []) (sv_if (et_cmp (opF_eq (hu64 hr)) (er_var 3 (pv 3)) (EV.r ev_int) (nomark _)) (svs_one (sv_ret (ev_tup (ea_cons ev_str (ea_cons (ev_var 4 (pv 4)) ea_nil))))) svs_nil)
    (svs_one (sv_ret (ev_tup (ea_cons ev_str (ea_cons (ev_var 4 (pv 4)) (ea_cons (ev_fn c_law_steps hr (ea_cons (ev_bin opF_div (EV.r (ev_fn c_law_drawn hr (ea_cons (ev_var 0 (pv 0)) (ea_cons ev_int ea_nil)))) (EV.r ev_int)) (ea_cons (ev_var 1 (pv 1)) (ea_cons (ev_bin opF_sub (er_var 2 (pv 2)) (EV.r ev_int)) (ea_cons ev_int ea_nil))))) ea_nil)))))))))))
abbrev s_law_steps : Stmt := top 30
abbrev N_law_steps : List Str := ["_law_number", "_law_hands", "_law_deep", "_law_most", "_law_k"]
theorem sc_law_steps : FnScope N_law_steps ["_law_number", "_law_hands", "_law_deep", "_law_most"] (defScope s_law_steps) := ⟨rfl, rfl, rfl, by decide +kernel, rfl, by decide +kernel, by decide +kernel⟩
theorem ok_law_steps {r_law_step : List PyData → Option PyData} {r_law_steps : List PyData → Option PyData} (F : FunD K "_law_steps" "_law_steps" (defArgs s_law_steps) (defBody s_law_steps) (defScope s_law_steps) [] [] f fd)  (g_law_steps : mg "_law_steps" = some (.ref f)) (c_law_step : Callee P w K mg base k "_law_step" 3 r_law_step) (c_law_drawn : Callee P w K mg base k "_law_drawn" 2 m_law_drawn) (z_range : mg "range" = none) (z_tuple : mg "tuple" = none) : Callee P w K mg base (k + 1) "_law_steps" 4 (runF 5 (f_law_steps r_law_step r_law_steps)) :=
  fn_C (OK := OwnK.dflt) (o' := []) F sc_law_steps rfl g_law_steps (F.bindsN fun _ _ _ _ _ _ us hl => match us, hl with | [_, _, _, _], _ => rfl) fun cdv A outer s H E hr =>
    letI OKi : OwnK := OwnK.dflt
    (svs_one (sv_ret (ev_ct1 opF_tuple z_tuple (by decide +kernel) (EV.r (EN.v (en_lc (own := [("_law_k", 4)]) rfl sc_law_steps.nd (wi_range1 z_range (EV.r (ev_bin opF_mod (er_var 0 (pv 0)) (EV.r (ev_bin opF_addA (er_var 3 (pv 3)) (EV.r ev_int)))))) (ct_1 4) (blkOk_by (N := N_law_steps) (sc := defScope s_law_steps) (by decide +kernel)) (fun _ _ _ _ _ => (pg_name (i := 4) sc_law_steps.nd rfl (Or.inl rfl))) (fun _ _ _ _ _ => ets_nil) (fun _ _ _ _ _ => (ev_fn c_law_step hr (ea_cons (ev_bin opF_div (EV.r (ev_fn c_law_drawn hr (ea_cons (ev_var 0 (pv 0)) (ea_cons (ev_bin opF_addA (EV.r ev_int) (er_var 4 (pv 4))) ea_nil)))) (EV.r ev_int)) (ea_cons (ev_var 1 (pv 1)) (ea_cons (ev_var 2 (pv 2)) ea_nil)))))))))))
abbrev s_law_talk : Stmt := top 31
abbrev N_law_talk : List Str := ["_law_number", "_law_deep", "_law_most", "_law_hands", "_law_other"]
theorem sc_law_talk : FnScope N_law_talk ["_law_number", "_law_deep", "_law_most"] (defScope s_law_talk) := ⟨rfl, rfl, rfl, by decide +kernel, rfl, by decide +kernel, by decide +kernel⟩
theorem ok_law_talk (F : FunD K "_law_talk" "_law_talk" (defArgs s_law_talk) (defBody s_law_talk) (defScope s_law_talk) [] [] f fd)  (g_law_talk : mg "_law_talk" = some (.ref f)) (c_law_word : Callee P w K mg base k "_law_word" 1 m_law_word) (c_law_steps : Callee P w K mg base k "_law_steps" 4 (m_law_steps fu_law_step)) : Callee P w K mg base (k + 1) "_law_talk" 3 (runF 5 (f_law_talk)) :=
  fn_C (OK := OwnK.dflt) (o' := []) F sc_law_talk rfl g_law_talk (F.bindsN fun _ _ _ _ _ _ us hl => match us, hl with | [_, _, _], _ => rfl) fun cdv A outer s H E hr =>
    letI OKi : OwnK := OwnK.dflt
    (svs_cons (o1 := []) (sv_set 3 sc_law_talk.nd (ev_ix opF_ix (EV.r (ev_tup (ea_cons (ev_tup (ea_cons ev_str ea_nil)) (ea_cons (ev_tup (ea_cons ev_str (ea_cons ev_str ea_nil))) (ea_cons (ev_tup (ea_cons ev_str (ea_cons ev_str (ea_cons ev_str ea_nil)))) (ea_cons (ev_tup (ea_cons ev_str (ea_cons ev_str (ea_cons ev_str (ea_cons ev_str ea_nil))))) ea_nil)))))) (EV.r (ev_bin opF_mod (er_var 0 (pv 0)) (EV.r ev_int))) (fun _ _ => rfl)))
    (svs_cons (o1 := []) (sv_set 4 sc_law_talk.nd (ev_fn c_law_word hr (ea_cons (ev_bin opF_mulA (EV.r (ev_bin opF_div (er_var 0 (pv 0)) (EV.r ev_int))) (EV.r ev_int)) ea_nil)))
    (svs_cons (o1 := []) (sv_if (PW.pt (ew_and (et_cmp (opF_eq (hu64 hr)) (EV.r (ev_bin opF_mod (EV.r (ev_bin opF_div (er_var 0 (pv 0)) (EV.r ev_int))) (EV.r ev_int))) (EV.r ev_int) (nomark _)) (ew_and1 (et_cmp (opF_notIn (hu65 hr)) (er_var 4 (pv 4)) (er_var 3 (pv 3)) (by rfl))))) (svs_one (sv_set 3 sc_law_talk.nd (ev_bin opF_addA (EV.r (ev_tup (ea_cons (ev_var 4 (pv 4)) ea_nil))) (EV.r (ev_slice opF_sl (er_var 3 (pv 3)) (eo_some (EV.r ev_int)) eo_none))))) svs_nil)
    (svs_one (sv_ret (ev_tup (ea_cons (ev_var 3 (pv 3)) (ea_cons (ev_fn c_law_steps hr (ea_cons (ev_bin opF_div (er_var 0 (pv 0)) (EV.r ev_int)) (ea_cons (ev_var 3 (pv 3)) (ea_cons (ev_var 1 (pv 1)) (ea_cons (ev_var 2 (pv 2)) ea_nil))))) ea_nil))))))))
abbrev s_law_letters : Stmt := top 32
abbrev N_law_letters : List Str := ["_law_steps_here", "_law_found", "_law_step_here", "_law_part"]
theorem sc_law_letters : FnScope N_law_letters ["_law_steps_here"] (defScope s_law_letters) := ⟨rfl, rfl, rfl, by decide +kernel, rfl, by decide +kernel, by decide +kernel⟩
theorem ok_law_letters {r_law_letters : List PyData → Option PyData} (F : FunD K "_law_letters" "_law_letters" (defArgs s_law_letters) (defBody s_law_letters) (defScope s_law_letters) [] [] f fd)  (g_law_letters : mg "_law_letters" = some (.ref f)) (c_law_letters : Callee P w K mg base k "_law_letters" 1 r_law_letters) : Callee P w K mg base (k + 1) "_law_letters" 1 (runF 4 (f_law_letters r_law_letters)) :=
  fn_C (OK := OwnK.dflt) (o' := []) F sc_law_letters rfl g_law_letters (F.bindsN fun _ _ _ _ _ _ us hl => match us, hl with | [_], _ => rfl) fun cdv A outer s H E hr =>
    letI OKi : OwnK := OwnK.dflt
    (svs_cons (o1 := [1]) (sv_own 1 sc_law_letters.nd (en_lst ea_nil))
    (svs_cons (o1 := [1]) (sv_for [2, 3] rfl (wi_any (ev_var 0 (pv 0))) (tg_1 2 (pg_name (i := 2) sc_law_letters.nd rfl (Or.inl rfl))) (svs_one (sv_if (et_cmp (opF_eq (hu64 hr)) (EV.r (ev_ix opF_ix (er_var 2 (pv 2)) (EV.r ev_int) (fun _ _ => rfl))) (EV.r ev_str) (nomark _)) (svs_one (sv_append 1 (pv 1) (ev_slice opF_sl (er_var 2 (pv 2)) (eo_some (EV.r ev_int)) eo_none))) (svs_one (sv_if (et_cmp (opF_eq (hu64 hr)) (EV.r (ev_ix opF_ix (er_var 2 (pv 2)) (EV.r ev_int) (fun _ _ => rfl))) (EV.r ev_str) (nomark _)) (svs_one (sv_for [3] rfl (wi_any (ev_ix opF_ix (er_var 2 (pv 2)) (EV.r ev_int) (fun _ _ => rfl))) (tg_1 3 (pg_name (i := 3) sc_law_letters.nd rfl (Or.inl rfl))) (svs_one (sv_drop [] (sv_own 1 sc_law_letters.nd (en_bin opF_addL (er_var 1 (pv 1)) (EV.r (ev_fn c_law_letters hr (ea_cons (ev_var 3 (pv 3)) ea_nil))))))) PassesOwn.never)) (svs_one (sv_for [3] rfl (wi_any (ev_slice opF_sl (er_var 2 (pv 2)) (eo_some (EV.r ev_int)) eo_none)) (tg_1 3 (pg_name (i := 3) sc_law_letters.nd rfl (Or.inl rfl))) (svs_one (sv_drop [] (sv_own 1 sc_law_letters.nd (en_bin opF_addL (er_var 1 (pv 1)) (EV.r (ev_fn c_law_letters hr (ea_cons (ev_var 3 (pv 3)) ea_nil))))))) PassesOwn.never)))))) PassesOwn.never)
    (svs_one (sv_drop [] (sv_ret (ev_var 1 (pv 1)))))))
abbrev s_law_lay : Stmt := top 33
abbrev N_law_lay : List Str := ["_law_steps_here", "_law_hands", "_law_row", "_law_found", "_law_step_here", "_law_here", "_law_parts", "_law_lanes", "_law_part", "_law_at", "_law_ends", "_law_letter"]
theorem sc_law_lay : FnScope N_law_lay ["_law_steps_here", "_law_hands", "_law_row"] (defScope s_law_lay) := ⟨rfl, rfl, rfl, by decide +kernel, rfl, by decide +kernel, by decide +kernel⟩
theorem ok_law_lay {r_law_lay : List PyData → Option PyData} (F : FunD K "_law_lay" "_law_lay" (defArgs s_law_lay) (defBody s_law_lay) (defScope s_law_lay) [] [] f fd)  (g_law_lay : mg "_law_lay" = some (.ref f)) (c_law_letters : Callee P w K mg base k "_law_letters" 1 (m_law_letters fu_law_letters)) (c_law_lay : Callee P w K mg base k "_law_lay" 3 r_law_lay) (z_enumerate : mg "enumerate" = none) (z_len : mg "len" = none) (z_max : mg "max" = none) (z_min : mg "min" = none) : Callee P w K mg base (k + 1) "_law_lay" 3 (runF 12 (f_law_lay r_law_lay)) :=
  fn_C (OK := OwnK.dflt) (o' := []) F sc_law_lay rfl g_law_lay (F.bindsN fun _ _ _ _ _ _ us hl => match us, hl with | [_, _, _], _ => rfl) fun cdv A outer s H E hr =>
    letI OKi : OwnK := OwnK.dflt
    (svs_cons (o1 := []) (sv_set 3 sc_law_lay.nd (ev_tup ea_nil))
    (svs_cons (o1 := []) (sv_for [4, 5, 6, 7, 8, 9, 10, 11] rfl (wi_any (ev_var 0 (pv 0))) (tg_1 4 (pg_name (i := 4) sc_law_lay.nd rfl (Or.inl rfl))) (svs_cons (o1 := []) (sv_set 5 sc_law_lay.nd (ev_bin opF_addA (er_var 2 (pv 2)) (EV.r (ev_cb1 opF_len z_len (by decide +kernel) (er_var 3 (pv 3))))))
    (svs_cons (o1 := []) (sv_if (et_cmp (opF_eq (hu64 hr)) (EV.r (ev_ix opF_ix (er_var 4 (pv 4)) (EV.r ev_int) (fun _ _ => rfl))) (EV.r ev_str) (nomark _)) (svs_cons (o1 := []) (sv_set 10 sc_law_lay.nd (ev_tup (ea_cons (ev_indexT (er_var 1 (pv 1)) (EV.r (ev_ix opF_ix (er_var 4 (pv 4)) (EV.r ev_int) (fun _ _ => rfl)))) (ea_cons (ev_indexT (er_var 1 (pv 1)) (EV.r (ev_ix opF_ix (er_var 4 (pv 4)) (EV.r ev_int) (fun _ _ => rfl)))) ea_nil))))
    (svs_cons (o1 := []) (sv_set 3 sc_law_lay.nd (ev_bin opF_addA (er_var 3 (pv 3)) (EV.r (ev_tup (ea_cons (ev_bin opF_addA (EV.r (ev_bin opF_addA (EV.r (ev_tup (ea_cons ev_str (ea_cons (ev_var 5 (pv 5)) ea_nil)))) (er_var 10 (pv 10)))) (EV.r (ev_tup (ea_cons (ev_ix opF_ix (er_var 4 (pv 4)) (EV.r ev_int) (fun _ _ => rfl)) ea_nil)))) ea_nil)))))
    (svs_one sv_cont))) svs_nil)
    (svs_cons (o1 := []) (sv_set 6 sc_law_lay.nd (ev_slice opF_sl (er_var 4 (pv 4)) (eo_some (EV.r ev_int)) eo_none))
    (svs_cons (o1 := []) (sv_if (et_cmp (opF_eq (hu64 hr)) (EV.r (ev_ix opF_ix (er_var 4 (pv 4)) (EV.r ev_int) (fun _ _ => rfl))) (EV.r ev_str) (nomark _)) (svs_one (sv_set 6 sc_law_lay.nd (ev_ix opF_ix (er_var 4 (pv 4)) (EV.r ev_int) (fun _ _ => rfl)))) svs_nil)
    (svs_cons (o1 := []) (sv_set 7 sc_law_lay.nd (EN.v (en_lst ea_nil)))
    (svs_cons (o1 := []) (sv_for [8, 11] rfl (wi_any (ev_var 6 (pv 6))) (tg_1 8 (pg_name (i := 8) sc_law_lay.nd rfl (Or.inl rfl))) (svs_one (sv_for [11] rfl (wi_any (ev_fn c_law_letters hr (ea_cons (ev_var 8 (pv 8)) ea_nil))) (tg_1 11 (pg_name (i := 11) sc_law_lay.nd rfl (Or.inl rfl))) (svs_one (sv_set 7 sc_law_lay.nd (EN.v (en_bin opF_addL (er_var 7 (pv 7)) (EV.r (EN.v (en_lst (ea_cons (ev_indexT (er_var 1 (pv 1)) (EV.r (ev_ix opF_ix (er_var 11 (pv 11)) (EV.r ev_int) (fun _ _ => rfl)))) (ea_cons (ev_indexT (er_var 1 (pv 1)) (EV.r (ev_ix opF_ix (er_var 11 (pv 11)) (EV.r ev_int) (fun _ _ => rfl)))) ea_nil))))))))) PassesOwn.never)) PassesOwn.never)
    (svs_cons (o1 := []) (sv_if (et_cmp (opF_eq (hu64 hr)) (er_var 7 (pv 7)) (EV.r (EN.v (en_lst ea_nil))) (nomark _)) (svs_one (sv_set 7 sc_law_lay.nd (EN.v (en_lst (ea_cons ev_int (ea_cons (ev_bin opF_sub (EV.r (ev_cb1 opF_len z_len (by decide +kernel) (er_var 1 (pv 1)))) (EV.r ev_int)) ea_nil)))))) svs_nil)
    (svs_cons (o1 := []) (sv_set 3 sc_law_lay.nd (ev_bin opF_addA (er_var 3 (pv 3)) (EV.r (ev_tup (ea_cons (ev_tup (ea_cons ev_str (ea_cons (ev_var 5 (pv 5)) (ea_cons (ev_ix opF_ix (er_var 4 (pv 4)) (EV.r ev_int) (fun _ _ => rfl)) (ea_cons (ev_cb1 (opF_min rfl (hu66 hr)) z_min (by decide +kernel) (er_var 7 (pv 7))) (ea_cons (ev_cb1 (opF_max rfl (hu66 hr)) z_max (by decide +kernel) (er_var 7 (pv 7))) ea_nil)))))) ea_nil)))))
    (svs_cons (o1 := []) (sv_for [8, 9] rfl (wi_enum z_enumerate (ev_var 6 (pv 6))) (tg_2 9 8 (pg_tup rfl (pgs_cons (pg_name (i := 9) sc_law_lay.nd rfl (Or.inl rfl)) (pgs_cons (pg_name (i := 8) sc_law_lay.nd rfl (Or.inl rfl)) pgs_nil)))) (svs_cons (o1 := []) (sv_if (et_cmp opF_gt (er_var 9 (pv 9)) (EV.r ev_int) (nomark _)) (svs_one (sv_set 3 sc_law_lay.nd (ev_bin opF_addA (er_var 3 (pv 3)) (EV.r (ev_tup (ea_cons (ev_tup (ea_cons ev_str (ea_cons (ev_bin opF_addA (er_var 2 (pv 2)) (EV.r (ev_cb1 opF_len z_len (by decide +kernel) (er_var 3 (pv 3))))) ea_nil))) ea_nil)))))) svs_nil)
    (svs_one (sv_set 3 sc_law_lay.nd (ev_bin opF_addA (er_var 3 (pv 3)) (EV.r (ev_fn c_law_lay hr (ea_cons (ev_var 8 (pv 8)) (ea_cons (ev_var 1 (pv 1)) (ea_cons (ev_bin opF_addA (er_var 2 (pv 2)) (EV.r (ev_cb1 opF_len z_len (by decide +kernel) (er_var 3 (pv 3))))) ea_nil))))))))) PassesOwn.never)
    (svs_one (sv_set 3 sc_law_lay.nd (ev_bin opF_addA (er_var 3 (pv 3)) (EV.r (ev_tup (ea_cons (ev_tup (ea_cons ev_str (ea_cons (ev_bin opF_addA (er_var 2 (pv 2)) (EV.r (ev_cb1 opF_len z_len (by decide +kernel) (er_var 3 (pv 3))))) ea_nil))) ea_nil))))))))))))))) PassesOwn.never)
    (svs_one (sv_ret (ev_var 3 (pv 3))))))
abbrev s_law_told : Stmt := top 34
theorem sc_law_told : FnScope ["_law_deed", "_law_found", "e"] ["_law_deed"] (defScope s_law_told) := ⟨rfl, rfl, rfl, by decide +kernel, rfl, by decide +kernel, by decide +kernel⟩
abbrev s_law_steps_of : Stmt := top 35
abbrev N_law_steps_of : List Str := ["_law_marks", "_law_hands", "_law_deep", "_law_found", "_law_mark", "_law_parts", "_law_many", "_law_part"]
theorem sc_law_steps_of : FnScope N_law_steps_of ["_law_marks", "_law_hands", "_law_deep"] (defScope s_law_steps_of) := ⟨rfl, rfl, rfl, by decide +kernel, rfl, by decide +kernel, by decide +kernel⟩
theorem ok_law_steps_of {r_law_steps_of : List PyData → Option PyData} (F : FunD K "_law_steps_of" "_law_steps_of" (defArgs s_law_steps_of) (defBody s_law_steps_of) (defScope s_law_steps_of) [] [] f fd)  (g_law_steps_of : mg "_law_steps_of" = some (.ref f)) (c_law_steps_of : Callee P w K mg base k "_law_steps_of" 3 r_law_steps_of) (z_int : mg "int" = none) (z_len : mg "len" = none) (z_range : mg "range" = none) : Callee P w K mg base (k + 1) "_law_steps_of" 3 (runF 8 (f_law_steps_of r_law_steps_of)) :=
  fn_C (OK := OwnK.dflt) (o' := []) F sc_law_steps_of rfl g_law_steps_of (F.bindsN fun _ _ _ _ _ _ us hl => match us, hl with | [_, _, _], _ => rfl) fun cdv A outer s H E hr =>
    letI OKi : OwnK := OwnK.dflt
    (svs_cons (o1 := []) (sv_set 3 sc_law_steps_of.nd (ev_tup ea_nil))
    (svs_cons (o1 := []) (sv_while wf [4, 5, 6, 7] (PW.pt (ew_and (et_cmp (opF_ne (hu64 hr)) (er_var 0 (pv 0)) (EV.r (ev_tup ea_nil)) (nomark _)) (ew_and1 (et_cmp (opF_in (hu65 hr)) (EV.r (ev_ix opF_ix (EV.r (ev_ix opF_ix (er_var 0 (pv 0)) (EV.r ev_int) (fun _ _ => rfl))) (EV.r ev_int) (fun _ _ => rfl))) (EV.r (ev_tup (ea_cons ev_str (ea_cons ev_str ea_nil)))) (by rfl))))) (svs_cons (o1 := []) (sv_set 4 sc_law_steps_of.nd (ev_ix opF_ix (er_var 0 (pv 0)) (EV.r ev_int) (fun _ _ => rfl)))
    (svs_cons (o1 := []) (sv_set 0 sc_law_steps_of.nd (ev_slice opF_sl (er_var 0 (pv 0)) (eo_some (EV.r ev_int)) eo_none))
    (svs_cons (o1 := []) (sv_if (et_cmp (opF_eq (hu64 hr)) (EV.r (ev_ix opF_ix (er_var 4 (pv 4)) (EV.r ev_int) (fun _ _ => rfl))) (EV.r ev_str) (nomark _)) (svs_cons (o1 := []) (sv_if (PW.pt (ew_or (et_outRng z_range (EV.r (ev_ix opF_ix (er_var 4 (pv 4)) (EV.r ev_int) (fun _ _ => rfl))) (EV.r (ev_cb1 opF_len z_len (by decide +kernel) (er_var 1 (pv 1))))) (ew_or1 (et_outRng z_range (EV.r (ev_ix opF_ix (er_var 4 (pv 4)) (EV.r ev_int) (fun _ _ => rfl))) (EV.r (ev_cb1 opF_len z_len (by decide +kernel) (er_var 1 (pv 1)))))))) (svs_one (sv_ret (ev_tup (ea_cons ev_non (ea_cons (ev_tup ea_nil) ea_nil))))) svs_nil)
    (svs_cons (o1 := []) (sv_set 3 sc_law_steps_of.nd (ev_bin opF_addA (er_var 3 (pv 3)) (EV.r (ev_tup (ea_cons (ev_tup (ea_cons ev_str (ea_cons (ev_ix opF_ix (er_var 1 (pv 1)) (EV.r (ev_ix opF_ix (er_var 4 (pv 4)) (EV.r ev_int) (fun _ _ => rfl))) (fun _ _ => rfl)) (ea_cons (ev_ix opF_ix (er_var 1 (pv 1)) (EV.r (ev_ix opF_ix (er_var 4 (pv 4)) (EV.r ev_int) (fun _ _ => rfl))) (fun _ _ => rfl)) (ea_cons (ev_ix opF_ix (er_var 4 (pv 4)) (EV.r ev_int) (fun _ _ => rfl)) ea_nil))))) ea_nil)))))
    (svs_one sv_cont))) svs_nil)
    (svs_cons (o1 := []) (sv_set 0 sc_law_steps_of.nd (ev_bin opF_addA (EV.r (ev_tup (ea_cons (ev_tup (ea_cons ev_str (ea_cons ev_int ea_nil))) ea_nil))) (er_var 0 (pv 0))))
    (svs_cons (o1 := []) (sv_set 5 sc_law_steps_of.nd (ev_tup ea_nil))
    (svs_cons (o1 := []) (sv_while wf [7] (PW.pt (ew_and (et_cmp (opF_ne (hu64 hr)) (er_var 0 (pv 0)) (EV.r (ev_tup ea_nil)) (nomark _)) (ew_and1 (et_cmp (opF_eq (hu64 hr)) (EV.r (ev_ix opF_ix (EV.r (ev_ix opF_ix (er_var 0 (pv 0)) (EV.r ev_int) (fun _ _ => rfl))) (EV.r ev_int) (fun _ _ => rfl))) (EV.r ev_str) (nomark _))))) (svs_cons (o1 := []) (sv_asg (ev_fn c_law_steps_of hr (ea_cons (ev_slice opF_sl (er_var 0 (pv 0)) (eo_some (EV.r ev_int)) eo_none) (ea_cons (ev_var 1 (pv 1)) (ea_cons (ev_bin opF_addA (er_var 2 (pv 2)) (EV.r ev_int)) ea_nil)))) (tg_2 7 0 (pg_tup rfl (pgs_cons (pg_name (i := 7) sc_law_steps_of.nd rfl (Or.inl rfl)) (pgs_cons (pg_name (i := 0) sc_law_steps_of.nd rfl (Or.inl rfl)) pgs_nil)))))
    (svs_cons (o1 := []) (sv_if (et_cmp opF_isA (er_var 7 (pv 7)) (EV.r ev_non) (nomark _)) (svs_one (sv_ret (ev_tup (ea_cons ev_non (ea_cons (ev_tup ea_nil) ea_nil))))) svs_nil)
    (svs_one (sv_set 5 sc_law_steps_of.nd (ev_bin opF_addA (er_var 5 (pv 5)) (EV.r (ev_tup (ea_cons (ev_var 7 (pv 7)) ea_nil)))))))) PassesOwn.never)
    (svs_cons (o1 := []) (sv_set 6 sc_law_steps_of.nd (ev_dixT (ps := [(("choice" : Str), ([1, 2, 3] : List Int)), (("round" : Str), ([1] : List Int)), (("both" : Str), ([2] : List Int))]) (hu1 hr) (pps_cons pe_str (pe_tupF (pa_cons pe_int (pa_cons pe_int (pa_cons pe_int pa_nil)))) (pps_cons pe_str (pe_tupF (pa_cons pe_int pa_nil)) (pps_cons pe_str (pe_tupF (pa_cons pe_int pa_nil)) pps_nil))) rfl rfl (by decide) (by decide) (by decide) (by decide) (by decide) (EV.r (ev_ix opF_ix (er_var 4 (pv 4)) (EV.r ev_int) (fun _ _ => rfl))) (fun _ _ => rfl)))
    (svs_cons (o1 := []) (sv_if (PW.pt (ew_or (et_cmp (opF_eq (hu64 hr)) (er_var 0 (pv 0)) (EV.r (ev_tup ea_nil)) (nomark _)) (ew_or (et_cmp (opF_ne (hu64 hr)) (EV.r (ev_ix opF_ix (EV.r (ev_ix opF_ix (er_var 0 (pv 0)) (EV.r ev_int) (fun _ _ => rfl))) (EV.r ev_int) (fun _ _ => rfl))) (EV.r ev_str) (nomark _)) (ew_or (et_cmp (opF_notIn (hu65 hr)) (EV.r (ev_cb1 opF_len z_len (by decide +kernel) (er_var 5 (pv 5)))) (er_var 6 (pv 6)) (by rfl)) (ew_or1 (et_cmp (opF_eq (hu64 hr)) (er_var 2 (pv 2)) (EV.r ev_int) (nomark _))))))) (svs_one (sv_ret (ev_tup (ea_cons ev_non (ea_cons (ev_tup ea_nil) ea_nil))))) svs_nil)
    (svs_cons (o1 := []) (sv_set 0 sc_law_steps_of.nd (ev_slice opF_sl (er_var 0 (pv 0)) (eo_some (EV.r ev_int)) eo_none))
    (svs_cons (o1 := []) (sv_if (et_cmp (opF_eq (hu64 hr)) (EV.r (ev_ix opF_ix (er_var 4 (pv 4)) (EV.r ev_int) (fun _ _ => rfl))) (EV.r ev_str) (nomark _)) (svs_one (sv_set 5 sc_law_steps_of.nd (ev_tup (ea_cons (ev_var 5 (pv 5)) ea_nil)))) svs_nil)
    (svs_one (sv_set 3 sc_law_steps_of.nd (ev_bin opF_addA (er_var 3 (pv 3)) (EV.r (ev_tup (ea_cons (ev_bin opF_addA (EV.r (ev_tup (ea_cons (ev_ix opF_ix (er_var 4 (pv 4)) (EV.r ev_int) (fun _ _ => rfl)) ea_nil))) (er_var 5 (pv 5))) ea_nil)))))))))))))))) PassesOwn.never)
    (svs_one (sv_ret (ev_tup (ea_cons (ev_ix opF_ix (EV.r (EN.v (en_lst (ea_cons (ev_var 3 (pv 3)) (ea_cons ev_non ea_nil))))) (EV.r (ev_ct1 opF_int z_int (by decide +kernel) (EV.r (ev_cmp opF_gt (EV.r (ev_cb1 opF_len z_len (by decide +kernel) (er_var 3 (pv 3)))) (EV.r ev_int) (nomark _))))) (fun _ _ => rfl)) (ea_cons (ev_var 0 (pv 0)) ea_nil)))))))
abbrev s_law_changed : Stmt := top 36
abbrev N_law_changed : List Str := ["_law_marks", "_law_number", "_law_at", "_law_mark", "_law_kind", "_law_word_here"]
theorem sc_law_changed : FnScope N_law_changed ["_law_marks", "_law_number"] (defScope s_law_changed) := ⟨rfl, rfl, rfl, by decide +kernel, rfl, by decide +kernel, by decide +kernel⟩
theorem ok_law_changed (F : FunD K "_law_changed" "_law_changed" (defArgs s_law_changed) (defBody s_law_changed) (defScope s_law_changed) [] [] f fd)  (g_law_changed : mg "_law_changed" = some (.ref f)) (z_len : mg "len" = none) : Callee P w K mg base (k + 1) "_law_changed" 2 (runF 6 (f_law_changed)) :=
  fn_C (OK := OwnK.dflt) (o' := []) F sc_law_changed rfl g_law_changed (F.bindsN fun _ _ _ _ _ _ us hl => match us, hl with | [_, _], _ => rfl) fun cdv A outer s H E hr =>
    letI OKi : OwnK := OwnK.dflt
    (svs_cons (o1 := []) (sv_set 2 sc_law_changed.nd (ev_bin opF_mod (EV.r (ev_bin opF_div (er_var 1 (pv 1)) (EV.r ev_int))) (EV.r (ev_cb1 opF_len z_len (by decide +kernel) (er_var 0 (pv 0))))))
    (svs_cons (o1 := []) (sv_set 3 sc_law_changed.nd (ev_ix opF_ix (er_var 0 (pv 0)) (er_var 2 (pv 2)) (fun _ _ => rfl)))
    (svs_cons (o1 := []) (sv_set 4 sc_law_changed.nd (ev_bin opF_mod (er_var 1 (pv 1)) (EV.r ev_int)))
    (svs_cons (o1 := []) (sv_if (et_cmp (opF_eq (hu64 hr)) (er_var 4 (pv 4)) (EV.r ev_int) (nomark _)) (svs_one (sv_ret (ev_bin opF_addA (EV.r (ev_slice opF_sl (er_var 0 (pv 0)) eo_none (eo_some (er_var 2 (pv 2))))) (EV.r (ev_slice opF_sl (er_var 0 (pv 0)) (eo_some (EV.r (ev_bin opF_addA (er_var 2 (pv 2)) (EV.r ev_int)))) eo_none))))) svs_nil)
    (svs_cons (o1 := []) (sv_if (et_cmp (opF_eq (hu64 hr)) (er_var 4 (pv 4)) (EV.r ev_int) (nomark _)) (svs_one (sv_ret (ev_bin opF_addA (EV.r (ev_slice opF_sl (er_var 0 (pv 0)) eo_none (eo_some (EV.r (ev_bin opF_addA (er_var 2 (pv 2)) (EV.r ev_int)))))) (EV.r (ev_slice opF_sl (er_var 0 (pv 0)) (eo_some (er_var 2 (pv 2))) eo_none))))) svs_nil)
    (svs_cons (o1 := []) (sv_if (et_cmp (opF_eq (hu64 hr)) (er_var 4 (pv 4)) (EV.r ev_int) (nomark _)) (svs_one (sv_ret (ev_bin opF_addA (EV.r (ev_bin opF_addA (EV.r (ev_slice opF_sl (er_var 0 (pv 0)) eo_none (eo_some (er_var 2 (pv 2))))) (EV.r (ev_revA (EV.r (ev_slice opF_sl (er_var 0 (pv 0)) (eo_some (er_var 2 (pv 2))) (eo_some (EV.r (ev_bin opF_addA (er_var 2 (pv 2)) (EV.r ev_int)))))))))) (EV.r (ev_slice opF_sl (er_var 0 (pv 0)) (eo_some (EV.r (ev_bin opF_addA (er_var 2 (pv 2)) (EV.r ev_int)))) eo_none))))) svs_nil)
    (svs_cons (o1 := []) (sv_if (et_cmp (opF_eq (hu64 hr)) (er_var 4 (pv 4)) (EV.r ev_int) (nomark _)) (svs_one (sv_ret (ev_bin opF_addA (EV.r (ev_bin opF_addA (EV.r (ev_slice opF_sl (er_var 0 (pv 0)) eo_none (eo_some (er_var 2 (pv 2))))) (EV.r (ev_tup (ea_cons (ev_bin opF_addA (EV.r (ev_bin opF_addA (EV.r (ev_slice opF_sl (er_var 3 (pv 3)) eo_none (eo_some (EV.r ev_int)))) (EV.r (ev_tup (ea_cons (ev_bin opF_addA (EV.r (ev_ix opF_ix (er_var 3 (pv 3)) (EV.r ev_int) (fun _ _ => rfl))) (EV.r ev_int)) ea_nil))))) (EV.r (ev_slice opF_sl (er_var 3 (pv 3)) (eo_some (EV.r ev_int)) eo_none))) ea_nil))))) (EV.r (ev_slice opF_sl (er_var 0 (pv 0)) (eo_some (EV.r (ev_bin opF_addA (er_var 2 (pv 2)) (EV.r ev_int)))) eo_none))))) svs_nil)
    (svs_cons (o1 := []) (sv_if (PW.pt (ew_and (et_cmp (opF_eq (hu64 hr)) (er_var 4 (pv 4)) (EV.r ev_int) (nomark _)) (ew_and1 (et_cmp (opF_eq (hu64 hr)) (EV.r (ev_ix opF_ix (er_var 3 (pv 3)) (EV.r ev_int) (fun _ _ => rfl))) (EV.r ev_str) (nomark _))))) (svs_one (sv_ret (ev_bin opF_addA (EV.r (ev_bin opF_addA (EV.r (ev_slice opF_sl (er_var 0 (pv 0)) eo_none (eo_some (er_var 2 (pv 2))))) (EV.r (ev_tup (ea_cons (ev_bin opF_addA (EV.r (ev_slice opF_sl (er_var 3 (pv 3)) eo_none (eo_some (EV.r ev_int)))) (EV.r (ev_tup (ea_cons (ev_bin opF_mod (EV.r (ev_bin opF_addA (EV.r (ev_ix opF_ix (er_var 3 (pv 3)) (EV.r ev_int) (fun _ _ => rfl))) (EV.r ev_int))) (EV.r ev_int)) (ea_cons (ev_ix opF_ix (er_var 3 (pv 3)) (EV.r ev_int) (fun _ _ => rfl)) ea_nil))))) ea_nil))))) (EV.r (ev_slice opF_sl (er_var 0 (pv 0)) (eo_some (EV.r (ev_bin opF_addA (er_var 2 (pv 2)) (EV.r ev_int)))) eo_none))))) svs_nil)
    (svs_cons (o1 := []) (sv_if (PW.pt (ew_and (et_cmp (opF_eq (hu64 hr)) (er_var 4 (pv 4)) (EV.r ev_int) (nomark _)) (ew_and1 (et_cmp (opF_eq (hu64 hr)) (EV.r (ev_ix opF_ix (er_var 3 (pv 3)) (EV.r ev_int) (fun _ _ => rfl))) (EV.r ev_str) (nomark _))))) (svs_cons (o1 := []) (sv_set 5 sc_law_changed.nd (ev_ix opF_ix (EV.r (ev_tup (ea_cons ev_str (ea_cons ev_str (ea_cons ev_str ea_nil))))) (EV.r (ev_bin opF_mod (EV.r (ev_bin opF_div (er_var 1 (pv 1)) (EV.r ev_int))) (EV.r ev_int))) (fun _ _ => rfl)))
    (svs_one (sv_ret (ev_bin opF_addA (EV.r (ev_bin opF_addA (EV.r (ev_slice opF_sl (er_var 0 (pv 0)) eo_none (eo_some (er_var 2 (pv 2))))) (EV.r (ev_tup (ea_cons (ev_bin opF_addA (EV.r (ev_bin opF_addA (EV.r (ev_slice opF_sl (er_var 3 (pv 3)) eo_none (eo_some (EV.r ev_int)))) (EV.r (ev_tup (ea_cons (ev_var 5 (pv 5)) ea_nil))))) (EV.r (ev_slice opF_sl (er_var 3 (pv 3)) (eo_some (EV.r ev_int)) eo_none))) ea_nil))))) (EV.r (ev_slice opF_sl (er_var 0 (pv 0)) (eo_some (EV.r (ev_bin opF_addA (er_var 2 (pv 2)) (EV.r ev_int)))) eo_none)))))) svs_nil)
    (svs_cons (o1 := []) (sv_if (et_cmp (opF_eq (hu64 hr)) (EV.r (ev_ix opF_ix (er_var 3 (pv 3)) (EV.r ev_int) (fun _ _ => rfl))) (EV.r ev_str) (nomark _)) (svs_one (sv_ret (ev_bin opF_addA (EV.r (ev_bin opF_addA (EV.r (ev_slice opF_sl (er_var 0 (pv 0)) eo_none (eo_some (er_var 2 (pv 2))))) (EV.r (ev_tup (ea_cons (ev_bin opF_addA (EV.r (ev_slice opF_sl (er_var 3 (pv 3)) eo_none (eo_some (EV.r ev_int)))) (EV.r (ev_tup (ea_cons ev_int (ea_cons ev_int ea_nil))))) ea_nil))))) (EV.r (ev_slice opF_sl (er_var 0 (pv 0)) (eo_some (EV.r (ev_bin opF_addA (er_var 2 (pv 2)) (EV.r ev_int)))) eo_none))))) svs_nil)
    (svs_one (sv_ret (ev_bin opF_addA (EV.r (ev_bin opF_addA (EV.r (ev_slice opF_sl (er_var 0 (pv 0)) eo_none (eo_some (er_var 2 (pv 2))))) (EV.r (ev_tup (ea_cons (ev_tup (ea_cons ev_str (ea_cons (ev_ix opF_ix (er_var 3 (pv 3)) (EV.r ev_int) (fun _ _ => rfl)) ea_nil))) ea_nil))))) (EV.r (ev_slice opF_sl (er_var 0 (pv 0)) (eo_some (EV.r (ev_bin opF_addA (er_var 2 (pv 2)) (EV.r ev_int)))) eo_none)))))))))))))))
abbrev s_law : Stmt := top 37
abbrev N_law : List Str := ["_law_script", "_law_talk_here", "_law_hands", "_law_marks", "_law_number", "_law_k", "_law_steps_here", "_law_rest", "_law_due"]
theorem sc_law : FnScope N_law ["_law_script"] (defScope s_law) := ⟨rfl, rfl, rfl, by decide +kernel, rfl, by decide +kernel, by decide +kernel⟩
theorem ok_law {f_toldA L_ C_ cA tP : Addr} {fd_told : FuncData} {T : List (Addr × Str)} (F : FunD K "law" "law" (defArgs s_law) (defBody s_law) (defScope s_law) [] [] f fd) (F_law_told : FunD K "_law_told" "_law_told" (defArgs s_law_told) (defBody s_law_told) (defScope s_law_told) [] [] f_toldA fd_told) (g_law_told : mg "_law_told" = some (.ref f_toldA)) (gX_LaneError : mg "LaneError" = some (.ref L_)) (gX_NoTalk : mg "NoTalk" = some (.ref C_)) (cc : Caught K L_ C_) (z_isinstance : mg "isinstance" = none) (z_ValueError : mg "ValueError" = none)
    (hcd : fd.code = .ref cA) (TB : LamX.TabB base mg cA tP) (hT : T = [(tP, ("law.<locals>.<lambda>" : Str))]) (c_law_talk : Callee P w K mg base k "_law_talk" 3 m_law_talk) (c_law_mixed : Callee P w K mg base k "_law_mixed" 2 m_law_mixed) (c_law_lay : Callee P w K mg base k "_law_lay" 3 (m_law_lay fu_law_lay)) (c_laid : Callee P w K mg base k "laid" 1 m_laid) (c_height : Callee P w K mg base k "height" 1 m_height) (c_law_changed : Callee P w K mg base k "_law_changed" 2 m_law_changed) (c_law_drawn : Callee P w K mg base k "_law_drawn" 2 m_law_drawn) (c_law_steps_of : Callee P w K mg base k "_law_steps_of" 3 (m_law_steps_of fu_law_steps_of)) (c_unlaid : XCallee P w K mg base k "unlaid" 2 m_unlaid) (z_len : mg "len" = none) (z_range : mg "range" = none) : FnOk P w K mg base CX0 (k + 2 + 1) f fd ["_law_script"] (spL K T 1 m_law) := by
  have b_law_told : Binds K fd_told ["_law_deed"] [] := (F_law_told.bindsN fun _ _ _ _ _ _ us hl => match us, hl with | [_], _ => rfl)
  exact fn_L (o' := []) F sc_law hcd TB (fun _ _ _ _ _ _ => hT) fun cdv A outer s H E hr2 hL => by
    have hr := hr2.mono (Nat.le_add_right _ 2)
    letI OKi : OwnK := mkL T
    exact (svs_cons (o1 := []) (sv_set 1 sc_law.nd (ev_fn c_law_talk hr (ea_cons (ev_fn c_law_mixed hr (ea_cons (ev_var 0 (pv 0)) (ea_cons ev_int ea_nil))) (ea_cons (ev_bin opF_mod (EV.r (ev_fn c_law_mixed hr (ea_cons (ev_var 0 (pv 0)) (ea_cons ev_int ea_nil)))) (EV.r ev_int)) (ea_cons ev_int ea_nil)))))
    (svs_cons (o1 := []) (sv_set 2 sc_law.nd (ev_ix opF_ix (er_var 1 (pv 1)) (EV.r ev_int) (fun _ _ => rfl)))
    (svs_cons (o1 := []) (sv_set 3 sc_law.nd (ev_fn c_law_lay hr (ea_cons (ev_ix opF_ix (er_var 1 (pv 1)) (EV.r ev_int) (fun _ _ => rfl)) (ea_cons (ev_var 2 (pv 2)) (ea_cons ev_int ea_nil)))))
    (svs_cons (o1 := []) (sv_if (PW.pt (ew_or (et_cmp (opF_ne (hu64 hr)) (EV.r (ev_fn c_laid hr (ea_cons (ev_var 1 (pv 1)) ea_nil))) (er_var 3 (pv 3)) (nomark _)) (ew_or1 (et_cmp (opF_ne (hu64 hr)) (EV.r (ev_fn c_height hr (ea_cons (ev_var 1 (pv 1)) ea_nil))) (EV.r (ev_cb1 opF_len z_len (by decide +kernel) (er_var 3 (pv 3)))) (nomark _))))) (svs_one (sv_ret ev_bl)) svs_nil)
    (svs_cons (o1 := []) (sv_set 4 sc_law.nd (ev_fn c_law_mixed hr (ea_cons (ev_var 0 (pv 0)) (ea_cons ev_int ea_nil))))
    (svs_cons (o1 := []) (sv_for [5] rfl (wi_range1 z_range (EV.r (ev_ix opF_ix (EV.r (ev_tup (ea_cons ev_int (ea_cons ev_int (ea_cons ev_int (ea_cons ev_int (ea_cons ev_int (ea_cons ev_int ea_nil)))))))) (EV.r (ev_bin opF_mod (er_var 4 (pv 4)) (EV.r ev_int))) (fun _ _ => rfl)))) (tg_1 5 (pg_name (i := 5) sc_law.nd rfl (Or.inl rfl))) (svs_one (sv_if (et_cmp (opF_ne (hu64 hr)) (er_var 3 (pv 3)) (EV.r (ev_tup ea_nil)) (nomark _)) (svs_one (sv_set 3 sc_law.nd (ev_fn c_law_changed hr (ea_cons (ev_var 3 (pv 3)) (ea_cons (ev_bin opF_div (EV.r (ev_fn c_law_drawn hr (ea_cons (ev_var 4 (pv 4)) (ea_cons (ev_var 5 (pv 5)) ea_nil)))) (EV.r ev_int)) ea_nil))))) svs_nil)) PassesOwn.never)
    (svs_cons (o1 := []) (sv_asg (ev_fn c_law_steps_of hr (ea_cons (ev_var 3 (pv 3)) (ea_cons (ev_var 2 (pv 2)) (ea_cons ev_int ea_nil)))) (tg_2 6 7 (pg_tup rfl (pgs_cons (pg_name (i := 6) sc_law.nd rfl (Or.inl rfl)) (pgs_cons (pg_name (i := 7) sc_law.nd rfl (Or.inl rfl)) pgs_nil)))))
    (svs_cons (o1 := []) (sv_set 8 sc_law.nd (ev_tup (ea_cons ev_str (ea_cons ev_bl ea_nil))))
    (svs_cons (o1 := []) (sv_if (PW.pt (ew_and (et_cmp opF_isNotA (er_var 6 (pv 6)) (EV.r ev_non) (nomark _)) (ew_and (et_cmp (opF_eq (hu64 hr)) (er_var 7 (pv 7)) (EV.r (ev_tup ea_nil)) (nomark _)) (ew_and1 (et_cmp (opF_eq (hu64 hr)) (EV.r (ev_fn c_law_lay hr (ea_cons (ev_var 6 (pv 6)) (ea_cons (ev_var 2 (pv 2)) (ea_cons ev_int ea_nil))))) (er_var 3 (pv 3)) (nomark _)))))) (svs_one (sv_set 8 sc_law.nd (ev_tup (ea_cons ev_str (ea_cons (ev_tup (ea_cons (ev_var 2 (pv 2)) (ea_cons (ev_var 6 (pv 6)) ea_nil))) ea_nil))))) svs_nil)
    (svs_one (sm_ret (em_cmp (opF_eq (hu64 hr)) (em_told F_law_told sc_law_told g_law_told b_law_told gX_LaneError gX_NoTalk cc z_isinstance z_ValueError hL hr2 (Nat.le_refl _) c_unlaid (LamX.lamS_by (sc := defScope s_law) (by decide +kernel)) rfl rfl (.inl rfl) rfl rfl rfl rfl (fun _ _ _ _ _ _ _ => (ea_cons (ev_var 2 (pv 2)) (ea_cons (ev_var 3 (pv 3)) ea_nil))) rfl rfl (fun _ _ _ _ _ => rfl) rfl (fun _ => rfl) (fun _ => rfl)) (em_ev (ev_var 8 (pv 8))) (nomark _)) (fun i (h : i ∈ ([] : List Nat)) => absurd h (by simp)))))))))))))
theorem rec_is_step {f_is_stepA : Addr} {fd_is_step : FuncData} {f_are_stepsA : Addr} {fd_are_steps : FuncData} (F_is_step : FunD K "is_step" "is_step" (defArgs s_is_step) (defBody s_is_step) (defScope s_is_step) [] [] f_is_stepA fd_is_step) (g_is_step : mg "is_step" = some (.ref f_is_stepA)) (F_are_steps : FunD K "are_steps" "are_steps" (defArgs s_are_steps) (defBody s_are_steps) (defScope s_are_steps) [] [] f_are_stepsA fd_are_steps) (g_are_steps : mg "are_steps" = some (.ref f_are_stepsA)) (c_is_hand : Callee P w K mg base k "is_hand" 2 m_is_hand) (c_is_name : Callee P w K mg base k "is_name" 1 m_is_name) (z_all : mg "all" = none) (z_isinstance : mg "isinstance" = none) (z_len : mg "len" = none) (z_str : mg "str" = none) (z_tuple : mg "tuple" = none) {t_MOST_BRANCHES : Tok} (c_MOST_BRANCHES : mg "MOST_BRANCHES" = some (.int 3 t_MOST_BRANCHES)) {t_MOST_STEPS : Tok} (c_MOST_STEPS : mg "MOST_STEPS" = some (.int 4 t_MOST_STEPS)) : ∀ n : Nat, Callee P w K mg base (k + n) "is_step" 3 (m_is_step n) ∧ Callee P w K mg base (k + n) "are_steps" 3 (m_are_steps n)
  | 0 => ⟨Callee.none (ps := ["thing", "hands", "deep"]) g_is_step F_is_step.kp (F_is_step.bindsN fun _ _ _ _ _ _ us hl => match us, hl with | [_, _, _], _ => rfl) (fun _ => rfl), Callee.none (ps := ["thing", "hands", "deep"]) g_are_steps F_are_steps.kp (F_are_steps.bindsN fun _ _ _ _ _ _ us hl => match us, hl with | [_, _, _], _ => rfl) (fun _ => rfl)⟩
  | n + 1 => by
    have ih := rec_is_step F_is_step g_is_step F_are_steps g_are_steps c_is_hand c_is_name z_all z_isinstance z_len z_str z_tuple c_MOST_BRANCHES c_MOST_STEPS n
    exact ⟨ok_is_step F_is_step g_is_step (c_is_hand.mono (Nat.le_add_right _ _)) (c_is_name.mono (Nat.le_add_right _ _)) ih.2 z_all z_isinstance z_len z_str z_tuple c_MOST_BRANCHES, ok_are_steps F_are_steps g_are_steps ih.1 z_all z_isinstance z_len z_tuple c_MOST_STEPS⟩
theorem rec_letters_in {f_letters_inA : Addr} {fd_letters_in : FuncData} (F_letters_in : FunD K "letters_in" "letters_in" (defArgs s_letters_in) (defBody s_letters_in) (defScope s_letters_in) [] [] f_letters_inA fd_letters_in) (g_letters_in : mg "letters_in" = some (.ref f_letters_inA)) (c_parts_of : Callee P w K mg base k "parts_of" 1 m_parts_of) : ∀ n : Nat, Callee P w K mg base (k + n) "letters_in" 1 (m_letters_in n)
  | 0 => Callee.none (ps := ["steps"]) g_letters_in F_letters_in.kp (F_letters_in.bindsN fun _ _ _ _ _ _ us hl => match us, hl with | [_], _ => rfl) (fun _ => rfl)
  | n + 1 => by
    have ih := rec_letters_in F_letters_in g_letters_in c_parts_of n
    exact ok_letters_in F_letters_in g_letters_in ih (c_parts_of.mono (Nat.le_add_right _ _))
theorem rec_marks_of {f_marks_ofA : Addr} {fd_marks_of : FuncData} (F_marks_of : FunD K "marks_of" "marks_of" (defArgs s_marks_of) (defBody s_marks_of) (defScope s_marks_of) [] [] f_marks_ofA fd_marks_of) (g_marks_of : mg "marks_of" = some (.ref f_marks_ofA)) (c_lanes_of : Callee P w K mg base k "lanes_of" 2 m_lanes_of) (c_parts_of : Callee P w K mg base k "parts_of" 1 m_parts_of) (z_enumerate : mg "enumerate" = none) (z_len : mg "len" = none) : ∀ n : Nat, Callee P w K mg base (k + n) "marks_of" 3 (m_marks_of n)
  | 0 => Callee.none (ps := ["steps", "hands", "row"]) g_marks_of F_marks_of.kp (F_marks_of.bindsN fun _ _ _ _ _ _ us hl => match us, hl with | [_, _, _], _ => rfl) (fun _ => rfl)
  | n + 1 => by
    have ih := rec_marks_of F_marks_of g_marks_of c_lanes_of c_parts_of z_enumerate z_len n
    exact ok_marks_of F_marks_of g_marks_of (c_lanes_of.mono (Nat.le_add_right _ _)) ih (c_parts_of.mono (Nat.le_add_right _ _)) z_enumerate z_len
theorem rec_Marks_steps {f_Marks_stepsA : Addr} {fd_Marks_steps : FuncData} {C_Marks_steps : Addr} {f_Marks_stepA : Addr} {fd_Marks_step : FuncData} {C_Marks_step : Addr} (F_Marks_steps : FunD K "steps" "Marks.steps" (defArgs s_Marks_steps) (defBody s_Marks_steps) (defScope s_Marks_steps) [] [] f_Marks_stepsA fd_Marks_steps) (g_Marks_steps : mg "Marks" = some (.ref C_Marks_steps)) (cl_Marks_steps : Cls K C_Marks_steps) (me_Marks_steps : Meth K C_Marks_steps "steps" f_Marks_stepsA) (F_Marks_step : FunD K "step" "Marks.step" (defArgs s_Marks_step) (defBody s_Marks_step) (defScope s_Marks_step) [] [] f_Marks_stepA fd_Marks_step) (g_Marks_step : mg "Marks" = some (.ref C_Marks_step)) (cl_Marks_step : Cls K C_Marks_step) (me_Marks_step : Meth K C_Marks_step "step" f_Marks_stepA) (c_Marks_next_word : PCallee P w K mg base k "Marks" "next_word" 0 m_Marks_next_word) (z_tuple : mg "tuple" = none) (c_Marks_take : MCallee P w K mg base k "Marks" "take" 0 m_Marks_take) (c_Marks_hand : MCallee P w K mg base k "Marks" "hand" 1 m_Marks_hand) (X_NoTalk : ExcT K mg "NoTalk") : ∀ n : Nat, MCallee P w K mg base (k + n) "Marks" "steps" 0 (m_Marks_steps n) ∧ MCallee P w K mg base (k + n) "Marks" "step" 0 (m_Marks_step n)
  | 0 => ⟨MCallee.none (ps := ["self"]) g_Marks_steps cl_Marks_steps me_Marks_steps (F_Marks_steps.bindsN fun _ _ _ _ _ _ us hl => match us, hl with | [_], _ => rfl) (fun _ => rfl), MCallee.none (ps := ["self"]) g_Marks_step cl_Marks_step me_Marks_step (F_Marks_step.bindsN fun _ _ _ _ _ _ us hl => match us, hl with | [_], _ => rfl) (fun _ => rfl)⟩
  | n + 1 => by
    have ih := rec_Marks_steps F_Marks_steps g_Marks_steps cl_Marks_steps me_Marks_steps F_Marks_step g_Marks_step cl_Marks_step me_Marks_step c_Marks_next_word z_tuple c_Marks_take c_Marks_hand X_NoTalk n
    exact ⟨ok_Marks_steps F_Marks_steps g_Marks_steps cl_Marks_steps me_Marks_steps ih.2 (c_Marks_next_word.mono (Nat.le_add_right _ _)) z_tuple, ok_Marks_step F_Marks_step g_Marks_step cl_Marks_step me_Marks_step (c_Marks_take.mono (Nat.le_add_right _ _)) (c_Marks_hand.mono (Nat.le_add_right _ _)) ih.1 (c_Marks_next_word.mono (Nat.le_add_right _ _)) z_tuple X_NoTalk⟩
theorem rec_law_step {f_law_stepA : Addr} {fd_law_step : FuncData} {f_law_stepsA : Addr} {fd_law_steps : FuncData} (F_law_step : FunD K "_law_step" "_law_step" (defArgs s_law_step) (defBody s_law_step) (defScope s_law_step) [] [] f_law_stepA fd_law_step) (g_law_step : mg "_law_step" = some (.ref f_law_stepA)) (F_law_steps : FunD K "_law_steps" "_law_steps" (defArgs s_law_steps) (defBody s_law_steps) (defScope s_law_steps) [] [] f_law_stepsA fd_law_steps) (g_law_steps : mg "_law_steps" = some (.ref f_law_stepsA)) (c_law_word : Callee P w K mg base k "_law_word" 1 m_law_word) (c_law_drawn : Callee P w K mg base k "_law_drawn" 2 m_law_drawn) (z_len : mg "len" = none) (z_range : mg "range" = none) (z_tuple : mg "tuple" = none) : ∀ n : Nat, Callee P w K mg base (k + n) "_law_step" 3 (m_law_step n) ∧ Callee P w K mg base (k + n) "_law_steps" 4 (m_law_steps n)
  | 0 => ⟨Callee.none (ps := ["_law_number", "_law_hands", "_law_deep"]) g_law_step F_law_step.kp (F_law_step.bindsN fun _ _ _ _ _ _ us hl => match us, hl with | [_, _, _], _ => rfl) (fun _ => rfl), Callee.none (ps := ["_law_number", "_law_hands", "_law_deep", "_law_most"]) g_law_steps F_law_steps.kp (F_law_steps.bindsN fun _ _ _ _ _ _ us hl => match us, hl with | [_, _, _, _], _ => rfl) (fun _ => rfl)⟩
  | n + 1 => by
    have ih := rec_law_step F_law_step g_law_step F_law_steps g_law_steps c_law_word c_law_drawn z_len z_range z_tuple n
    exact ⟨ok_law_step F_law_step g_law_step (c_law_word.mono (Nat.le_add_right _ _)) ih.2 (c_law_drawn.mono (Nat.le_add_right _ _)) z_len z_range z_tuple, ok_law_steps F_law_steps g_law_steps ih.1 (c_law_drawn.mono (Nat.le_add_right _ _)) z_range z_tuple⟩
theorem rec_law_letters {f_law_lettersA : Addr} {fd_law_letters : FuncData} (F_law_letters : FunD K "_law_letters" "_law_letters" (defArgs s_law_letters) (defBody s_law_letters) (defScope s_law_letters) [] [] f_law_lettersA fd_law_letters) (g_law_letters : mg "_law_letters" = some (.ref f_law_lettersA))  : ∀ n : Nat, Callee P w K mg base (k + n) "_law_letters" 1 (m_law_letters n)
  | 0 => Callee.none (ps := ["_law_steps_here"]) g_law_letters F_law_letters.kp (F_law_letters.bindsN fun _ _ _ _ _ _ us hl => match us, hl with | [_], _ => rfl) (fun _ => rfl)
  | n + 1 => by
    have ih := rec_law_letters F_law_letters g_law_letters  n
    exact ok_law_letters F_law_letters g_law_letters ih
theorem rec_law_lay {f_law_layA : Addr} {fd_law_lay : FuncData} (F_law_lay : FunD K "_law_lay" "_law_lay" (defArgs s_law_lay) (defBody s_law_lay) (defScope s_law_lay) [] [] f_law_layA fd_law_lay) (g_law_lay : mg "_law_lay" = some (.ref f_law_layA)) (c_law_letters : Callee P w K mg base k "_law_letters" 1 (m_law_letters fu_law_letters)) (z_enumerate : mg "enumerate" = none) (z_len : mg "len" = none) (z_max : mg "max" = none) (z_min : mg "min" = none) : ∀ n : Nat, Callee P w K mg base (k + n) "_law_lay" 3 (m_law_lay n)
  | 0 => Callee.none (ps := ["_law_steps_here", "_law_hands", "_law_row"]) g_law_lay F_law_lay.kp (F_law_lay.bindsN fun _ _ _ _ _ _ us hl => match us, hl with | [_, _, _], _ => rfl) (fun _ => rfl)
  | n + 1 => by
    have ih := rec_law_lay F_law_lay g_law_lay c_law_letters z_enumerate z_len z_max z_min n
    exact ok_law_lay F_law_lay g_law_lay (c_law_letters.mono (Nat.le_add_right _ _)) ih z_enumerate z_len z_max z_min
theorem rec_law_steps_of {f_law_steps_ofA : Addr} {fd_law_steps_of : FuncData} (F_law_steps_of : FunD K "_law_steps_of" "_law_steps_of" (defArgs s_law_steps_of) (defBody s_law_steps_of) (defScope s_law_steps_of) [] [] f_law_steps_ofA fd_law_steps_of) (g_law_steps_of : mg "_law_steps_of" = some (.ref f_law_steps_ofA)) (z_int : mg "int" = none) (z_len : mg "len" = none) (z_range : mg "range" = none) : ∀ n : Nat, Callee P w K mg base (k + n) "_law_steps_of" 3 (m_law_steps_of n)
  | 0 => Callee.none (ps := ["_law_marks", "_law_hands", "_law_deep"]) g_law_steps_of F_law_steps_of.kp (F_law_steps_of.bindsN fun _ _ _ _ _ _ us hl => match us, hl with | [_, _, _], _ => rfl) (fun _ => rfl)
  | n + 1 => by
    have ih := rec_law_steps_of F_law_steps_of g_law_steps_of z_int z_len z_range n
    exact ok_law_steps_of F_law_steps_of g_law_steps_of ih z_int z_len z_range
end
def d_is_name : He.DefD := ⟨("is_name", none), "is_name", "is_name", defArgs s_is_name, defBody s_is_name, defScope s_is_name, [], []⟩
def d_is_hand : He.DefD := ⟨("is_hand", none), "is_hand", "is_hand", defArgs s_is_hand, defBody s_is_hand, defScope s_is_hand, [], []⟩
def d_is_step : He.DefD := ⟨("is_step", none), "is_step", "is_step", defArgs s_is_step, defBody s_is_step, defScope s_is_step, [], []⟩
def d_are_steps : He.DefD := ⟨("are_steps", none), "are_steps", "are_steps", defArgs s_are_steps, defBody s_are_steps, defScope s_are_steps, [], []⟩
def d_is_talk : He.DefD := ⟨("is_talk", none), "is_talk", "is_talk", defArgs s_is_talk, defBody s_is_talk, defScope s_is_talk, [], []⟩
def d_parts_of : He.DefD := ⟨("parts_of", none), "parts_of", "parts_of", defArgs s_parts_of, defBody s_parts_of, defScope s_parts_of, [], []⟩
def d_letters_in : He.DefD := ⟨("letters_in", none), "letters_in", "letters_in", defArgs s_letters_in, defBody s_letters_in, defScope s_letters_in, [], []⟩
def d_lanes_of : He.DefD := ⟨("lanes_of", none), "lanes_of", "lanes_of", defArgs s_lanes_of, defBody s_lanes_of, defScope s_lanes_of, [], []⟩
def d_marks_of : He.DefD := ⟨("marks_of", none), "marks_of", "marks_of", defArgs s_marks_of, defBody s_marks_of, defScope s_marks_of, [], []⟩
def d_laid : He.DefD := ⟨("laid", none), "laid", "laid", defArgs s_laid, defBody s_laid, defScope s_laid, [], []⟩
def d_height : He.DefD := ⟨("height", none), "height", "height", defArgs s_height, defBody s_height, defScope s_height, [], []⟩
def d_Marks_init__ : He.DefD := ⟨("Marks", some "__init__"), "__init__", "Marks.__init__", defArgs s_Marks_init__, defBody s_Marks_init__, defScope s_Marks_init__, [], []⟩
def d_Marks_next_word : He.DefD := ⟨("Marks", some "next_word"), "next_word", "Marks.next_word", defArgs s_Marks_next_word, defBody s_Marks_next_word, defScope s_Marks_next_word, [], []⟩
def d_Marks_take : He.DefD := ⟨("Marks", some "take"), "take", "Marks.take", defArgs s_Marks_take, defBody s_Marks_take, defScope s_Marks_take, [], []⟩
def d_Marks_steps : He.DefD := ⟨("Marks", some "steps"), "steps", "Marks.steps", defArgs s_Marks_steps, defBody s_Marks_steps, defScope s_Marks_steps, [], []⟩
def d_Marks_step : He.DefD := ⟨("Marks", some "step"), "step", "Marks.step", defArgs s_Marks_step, defBody s_Marks_step, defScope s_Marks_step, [], []⟩
def d_Marks_hand : He.DefD := ⟨("Marks", some "hand"), "hand", "Marks.hand", defArgs s_Marks_hand, defBody s_Marks_hand, defScope s_Marks_hand, [], []⟩
def d_unlaid : He.DefD := ⟨("unlaid", none), "unlaid", "unlaid", defArgs s_unlaid, defBody s_unlaid, defScope s_unlaid, [], []⟩
def d_law_cell_at : He.DefD := ⟨("_law_cell_at", none), "_law_cell_at", "_law_cell_at", defArgs s_law_cell_at, defBody s_law_cell_at, defScope s_law_cell_at, [], []⟩
def d_law_mixed : He.DefD := ⟨("_law_mixed", none), "_law_mixed", "_law_mixed", defArgs s_law_mixed, defBody s_law_mixed, defScope s_law_mixed, [], []⟩
def d_law_drawn : He.DefD := ⟨("_law_drawn", none), "_law_drawn", "_law_drawn", defArgs s_law_drawn, defBody s_law_drawn, defScope s_law_drawn, [], []⟩
def d_law_word : He.DefD := ⟨("_law_word", none), "_law_word", "_law_word", defArgs s_law_word, defBody s_law_word, defScope s_law_word, [], []⟩
def d_law_step : He.DefD := ⟨("_law_step", none), "_law_step", "_law_step", defArgs s_law_step, defBody s_law_step, defScope s_law_step, [], []⟩
def d_law_steps : He.DefD := ⟨("_law_steps", none), "_law_steps", "_law_steps", defArgs s_law_steps, defBody s_law_steps, defScope s_law_steps, [], []⟩
def d_law_talk : He.DefD := ⟨("_law_talk", none), "_law_talk", "_law_talk", defArgs s_law_talk, defBody s_law_talk, defScope s_law_talk, [], []⟩
def d_law_letters : He.DefD := ⟨("_law_letters", none), "_law_letters", "_law_letters", defArgs s_law_letters, defBody s_law_letters, defScope s_law_letters, [], []⟩
def d_law_lay : He.DefD := ⟨("_law_lay", none), "_law_lay", "_law_lay", defArgs s_law_lay, defBody s_law_lay, defScope s_law_lay, [], []⟩
def d_law_told : He.DefD := ⟨("_law_told", none), "_law_told", "_law_told", defArgs s_law_told, defBody s_law_told, defScope s_law_told, [], []⟩
def d_law_steps_of : He.DefD := ⟨("_law_steps_of", none), "_law_steps_of", "_law_steps_of", defArgs s_law_steps_of, defBody s_law_steps_of, defScope s_law_steps_of, [], []⟩
def d_law_changed : He.DefD := ⟨("_law_changed", none), "_law_changed", "_law_changed", defArgs s_law_changed, defBody s_law_changed, defScope s_law_changed, [], []⟩
def d_law : He.DefD := ⟨("law", none), "law", "law", defArgs s_law, defBody s_law, defScope s_law, [], []⟩
def fnL : List He.DefD := [d_is_name, d_is_hand, d_is_step, d_are_steps, d_is_talk, d_parts_of, d_letters_in, d_lanes_of, d_marks_of, d_laid, d_height, d_Marks_init__, d_Marks_next_word, d_Marks_take, d_Marks_steps, d_Marks_step, d_Marks_hand, d_unlaid, d_law_cell_at, d_law_mixed, d_law_drawn, d_law_word, d_law_step, d_law_steps, d_law_talk, d_law_letters, d_law_lay, d_law_told, d_law_steps_of, d_law_changed, d_law]
def faL : List He.Fa := [.glo "is_name", .glo "is_hand", .glo "is_step", .glo "are_steps", .glo "is_talk", .glo "parts_of", .glo "letters_in", .glo "lanes_of", .glo "marks_of", .glo "laid", .glo "height", .glo "unlaid", .glo "_law_cell_at", .glo "_law_mixed", .glo "_law_drawn", .glo "_law_word", .glo "_law_step", .glo "_law_steps", .glo "_law_talk", .glo "_law_letters", .glo "_law_lay", .glo "_law_told", .glo "_law_steps_of", .glo "_law_changed", .glo "law", .free "ValueError", .free "all", .free "enumerate", .free "int", .free "isinstance", .free "len", .free "max", .free "min", .free "range", .free "set", .free "str", .free "tuple", .int "LONGEST" 5, .str "LETTERS" "abcdefghijklmnopqrstuvwxyz", .int "MOST_BRANCHES" 3, .int "MOST_STEPS" 4, .int "MOST_HANDS" 4, .int "DEEPEST" 3, .glo "Marks", .cls "Marks", .mkr "Marks", .meth "Marks" "next_word", .meth "Marks" "take", .meth "Marks" "steps", .meth "Marks" "step", .meth "Marks" "hand", .noat "Marks" "hands", .noat "Marks" "marks", .noat "Marks" "at", .glo "NoTalk", .exc "NoTalk", .glo "LaneError"]
def tsL : List He.Tab := []
def tfL : List He.Defn := [("law", none)]
def exL : PySem.W.Frag → Bool := fun K => caughtB K (He.ga K "LaneError") (He.ga K "NoTalk")
abbrev R : PySem.W.OpenRow := PySem.W.OpenLaw.row PySem.Challenge.rw_lanerows_k40_laid
abbrev hk : PySem.W.Hook := He.hookX 4 faL fnL tsL tfL exL
def ob_ (s : PySem.W.SharedT) : He.AlX := He.obsX 4 faL fnL tsL tfL exL (HandSHeadRun.getT s)
theorem ob_eq (s : PySem.W.SharedT) : ob_ s = hk.obs s.abs := He.obsX_eq (HandSHeadRun.getT_eq s)
def looseL : List Str := (["LaneError", "NoTalk", "LETTERS", "LONGEST", "MOST_HANDS", "MOST_STEPS", "MOST_BRANCHES", "DEEPEST", "is_name", "is_hand", "is_step", "are_steps", "is_talk", "parts_of", "letters_in", "lanes_of", "marks_of", "laid", "height", "Marks", "unlaid", "_law_cell_at", "_law_mixed", "_law_drawn", "_law_word", "_law_step", "_law_steps", "_law_talk", "_law_letters", "_law_lay"] : List Str) ++ (["_law_told", "_law_steps_of", "_law_changed"] : List Str)
theorem run (w : World) : HandSHeadRun.RunEq R (PySem.W.view R.prog [37]) hk ob_ 1720 looseL w := by
  intro os
  kernel_rfl
theorem facts {P : Program} {w : World} {K : PySem.W.Frag} {h : Heap} {mg : Str → Option Value} {f : Addr} (X : K.In h) (G : h.Ns mainGlobals mg) (hfa : mg ("law" : Str) = some (.ref f)) (c0 : He.SaysX faL fnL tsL tfL exL w h K) :
    ∃ fd : FuncData, (∀ (s : Shared) (v : Value), BindsTo s fd ⟨[v], []⟩ [("_law_script", v)]) ∧ ∀ base : Heap, K.In base → base.Ns mainGlobals mg → (∀ p ∈ tfL.map (He.cT K), LamX.TabB base mg p.1 p.2) → FnOk P w K mg base CX0 68 f fd ["_law_script"] (spL K [((He.cT K ("law", none)).2, ("law.<locals>.<lambda>" : PySem.Str))] 1 m_law) := by
  have c := c0.t.d
  obtain ⟨fd_is_name, F_is_name⟩ := c.def_ 0 (d := d_is_name) rfl
  obtain ⟨fd_is_hand, F_is_hand⟩ := c.def_ 1 (d := d_is_hand) rfl
  obtain ⟨fd_is_step, F_is_step⟩ := c.def_ 2 (d := d_is_step) rfl
  obtain ⟨fd_are_steps, F_are_steps⟩ := c.def_ 3 (d := d_are_steps) rfl
  obtain ⟨fd_is_talk, F_is_talk⟩ := c.def_ 4 (d := d_is_talk) rfl
  obtain ⟨fd_parts_of, F_parts_of⟩ := c.def_ 5 (d := d_parts_of) rfl
  obtain ⟨fd_letters_in, F_letters_in⟩ := c.def_ 6 (d := d_letters_in) rfl
  obtain ⟨fd_lanes_of, F_lanes_of⟩ := c.def_ 7 (d := d_lanes_of) rfl
  obtain ⟨fd_marks_of, F_marks_of⟩ := c.def_ 8 (d := d_marks_of) rfl
  obtain ⟨fd_laid, F_laid⟩ := c.def_ 9 (d := d_laid) rfl
  obtain ⟨fd_height, F_height⟩ := c.def_ 10 (d := d_height) rfl
  obtain ⟨fd_Marks_init__, F_Marks_init__⟩ := c.def_ 11 (d := d_Marks_init__) rfl
  obtain ⟨fd_Marks_next_word, F_Marks_next_word⟩ := c.def_ 12 (d := d_Marks_next_word) rfl
  obtain ⟨fd_Marks_take, F_Marks_take⟩ := c.def_ 13 (d := d_Marks_take) rfl
  obtain ⟨fd_Marks_steps, F_Marks_steps⟩ := c.def_ 14 (d := d_Marks_steps) rfl
  obtain ⟨fd_Marks_step, F_Marks_step⟩ := c.def_ 15 (d := d_Marks_step) rfl
  obtain ⟨fd_Marks_hand, F_Marks_hand⟩ := c.def_ 16 (d := d_Marks_hand) rfl
  obtain ⟨fd_unlaid, F_unlaid⟩ := c.def_ 17 (d := d_unlaid) rfl
  obtain ⟨fd_law_cell_at, F_law_cell_at⟩ := c.def_ 18 (d := d_law_cell_at) rfl
  obtain ⟨fd_law_mixed, F_law_mixed⟩ := c.def_ 19 (d := d_law_mixed) rfl
  obtain ⟨fd_law_drawn, F_law_drawn⟩ := c.def_ 20 (d := d_law_drawn) rfl
  obtain ⟨fd_law_word, F_law_word⟩ := c.def_ 21 (d := d_law_word) rfl
  obtain ⟨fd_law_step, F_law_step⟩ := c.def_ 22 (d := d_law_step) rfl
  obtain ⟨fd_law_steps, F_law_steps⟩ := c.def_ 23 (d := d_law_steps) rfl
  obtain ⟨fd_law_talk, F_law_talk⟩ := c.def_ 24 (d := d_law_talk) rfl
  obtain ⟨fd_law_letters, F_law_letters⟩ := c.def_ 25 (d := d_law_letters) rfl
  obtain ⟨fd_law_lay, F_law_lay⟩ := c.def_ 26 (d := d_law_lay) rfl
  obtain ⟨fd_law_told, F_law_told⟩ := c.def_ 27 (d := d_law_told) rfl
  obtain ⟨fd_law_steps_of, F_law_steps_of⟩ := c.def_ 28 (d := d_law_steps_of) rfl
  obtain ⟨fd_law_changed, F_law_changed⟩ := c.def_ 29 (d := d_law_changed) rfl
  obtain ⟨fd_law, F_law⟩ := c.def_ 30 (d := d_law) rfl
  have g_is_name := He.glo_ok X G (c.fact 0 (f := .glo "is_name") rfl)
  have g_is_hand := He.glo_ok X G (c.fact 1 (f := .glo "is_hand") rfl)
  have g_is_step := He.glo_ok X G (c.fact 2 (f := .glo "is_step") rfl)
  have g_are_steps := He.glo_ok X G (c.fact 3 (f := .glo "are_steps") rfl)
  have g_is_talk := He.glo_ok X G (c.fact 4 (f := .glo "is_talk") rfl)
  have g_parts_of := He.glo_ok X G (c.fact 5 (f := .glo "parts_of") rfl)
  have g_letters_in := He.glo_ok X G (c.fact 6 (f := .glo "letters_in") rfl)
  have g_lanes_of := He.glo_ok X G (c.fact 7 (f := .glo "lanes_of") rfl)
  have g_marks_of := He.glo_ok X G (c.fact 8 (f := .glo "marks_of") rfl)
  have g_laid := He.glo_ok X G (c.fact 9 (f := .glo "laid") rfl)
  have g_height := He.glo_ok X G (c.fact 10 (f := .glo "height") rfl)
  have g_unlaid := He.glo_ok X G (c.fact 11 (f := .glo "unlaid") rfl)
  have g_law_cell_at := He.glo_ok X G (c.fact 12 (f := .glo "_law_cell_at") rfl)
  have g_law_mixed := He.glo_ok X G (c.fact 13 (f := .glo "_law_mixed") rfl)
  have g_law_drawn := He.glo_ok X G (c.fact 14 (f := .glo "_law_drawn") rfl)
  have g_law_word := He.glo_ok X G (c.fact 15 (f := .glo "_law_word") rfl)
  have g_law_step := He.glo_ok X G (c.fact 16 (f := .glo "_law_step") rfl)
  have g_law_steps := He.glo_ok X G (c.fact 17 (f := .glo "_law_steps") rfl)
  have g_law_talk := He.glo_ok X G (c.fact 18 (f := .glo "_law_talk") rfl)
  have g_law_letters := He.glo_ok X G (c.fact 19 (f := .glo "_law_letters") rfl)
  have g_law_lay := He.glo_ok X G (c.fact 20 (f := .glo "_law_lay") rfl)
  have g_law_told := He.glo_ok X G (c.fact 21 (f := .glo "_law_told") rfl)
  have g_law_steps_of := He.glo_ok X G (c.fact 22 (f := .glo "_law_steps_of") rfl)
  have g_law_changed := He.glo_ok X G (c.fact 23 (f := .glo "_law_changed") rfl)
  have z_ValueError := He.free_ok X G (c.fact 25 (f := .free "ValueError") rfl)
  have z_all := He.free_ok X G (c.fact 26 (f := .free "all") rfl)
  have z_enumerate := He.free_ok X G (c.fact 27 (f := .free "enumerate") rfl)
  have z_int := He.free_ok X G (c.fact 28 (f := .free "int") rfl)
  have z_isinstance := He.free_ok X G (c.fact 29 (f := .free "isinstance") rfl)
  have z_len := He.free_ok X G (c.fact 30 (f := .free "len") rfl)
  have z_max := He.free_ok X G (c.fact 31 (f := .free "max") rfl)
  have z_min := He.free_ok X G (c.fact 32 (f := .free "min") rfl)
  have z_range := He.free_ok X G (c.fact 33 (f := .free "range") rfl)
  have z_set := He.free_ok X G (c.fact 34 (f := .free "set") rfl)
  have z_str := He.free_ok X G (c.fact 35 (f := .free "str") rfl)
  have z_tuple := He.free_ok X G (c.fact 36 (f := .free "tuple") rfl)
  obtain ⟨t_LONGEST, c_LONGEST⟩ := He.int_ok X G (c.fact 37 (f := .int "LONGEST" 5) rfl)
  obtain ⟨t_LETTERS, c_LETTERS⟩ := He.str_ok X G (c.fact 38 (f := .str "LETTERS" "abcdefghijklmnopqrstuvwxyz") rfl)
  obtain ⟨t_MOST_BRANCHES, c_MOST_BRANCHES⟩ := He.int_ok X G (c.fact 39 (f := .int "MOST_BRANCHES" 3) rfl)
  obtain ⟨t_MOST_STEPS, c_MOST_STEPS⟩ := He.int_ok X G (c.fact 40 (f := .int "MOST_STEPS" 4) rfl)
  obtain ⟨t_MOST_HANDS, c_MOST_HANDS⟩ := He.int_ok X G (c.fact 41 (f := .int "MOST_HANDS" 4) rfl)
  obtain ⟨t_DEEPEST, c_DEEPEST⟩ := He.int_ok X G (c.fact 42 (f := .int "DEEPEST" 3) rfl)
  have gC_Marks := He.glo_ok X G (c.fact 43 (f := .glo "Marks") rfl)
  have cl_Marks := He.cls_ok (c.fact 44 (f := .cls "Marks") rfl)
  have mk_Marks_init__ := He.mkr_ok (c.fact 45 (f := .mkr "Marks") rfl)
  have me_Marks_next_word := He.meth_ok (c.fact 46 (f := .meth "Marks" "next_word") rfl)
  have me_Marks_take := He.meth_ok (c.fact 47 (f := .meth "Marks" "take") rfl)
  have me_Marks_steps := He.meth_ok (c.fact 48 (f := .meth "Marks" "steps") rfl)
  have me_Marks_step := He.meth_ok (c.fact 49 (f := .meth "Marks" "step") rfl)
  have me_Marks_hand := He.meth_ok (c.fact 50 (f := .meth "Marks" "hand") rfl)
  have T_Marks_hands : ClsT K mg "Marks" "hands" := ⟨_, gC_Marks, cl_Marks, He.noat_ok (c.fact 51 (f := .noat "Marks" "hands") rfl)⟩
  have T_Marks_marks : ClsT K mg "Marks" "marks" := ⟨_, gC_Marks, cl_Marks, He.noat_ok (c.fact 52 (f := .noat "Marks" "marks") rfl)⟩
  have T_Marks_at : ClsT K mg "Marks" "at" := ⟨_, gC_Marks, cl_Marks, He.noat_ok (c.fact 53 (f := .noat "Marks" "at") rfl)⟩
  have gX_NoTalk := He.glo_ok X G (c.fact 54 (f := .glo "NoTalk") rfl)
  have X_NoTalk : ExcT K mg "NoTalk" := ⟨_, gX_NoTalk, He.exc_ok (c.fact 55 (f := .exc "NoTalk") rfl)⟩
  have gX_LaneError := He.glo_ok X G (c.fact 56 (f := .glo "LaneError") rfl)
  have x_0 := c0.more
  have cc := caught_of x_0
  have e := hfa.symm.trans (He.glo_ok X G (c.fact 24 (f := .glo "law") rfl))
  cases e
  have b := FunD.bindsA (ps := ["_law_script"]) F_law fun _ _ _ _ _ _ us hl => match us, hl with | [_], _ => rfl
  refine ⟨fd_law, fun s v => b s [v] rfl, fun base _ _ hTB => ?_⟩
  have c_is_name : Callee P w K mg base 1 "is_name" 1 m_is_name := ok_is_name (k := 0) F_is_name g_is_name z_all z_isinstance z_len z_str c_LONGEST c_LETTERS
  have c_is_hand : Callee P w K mg base 1 "is_hand" 2 m_is_hand := ok_is_hand (k := 0) F_is_hand g_is_hand z_isinstance z_str
  have h_is_step := rec_is_step (P := P) (w := w) (K := K) (mg := mg) (base := base) (k := 1) F_is_step g_is_step F_are_steps g_are_steps (c_is_hand.mono (by decide)) (c_is_name.mono (by decide)) z_all z_isinstance z_len z_str z_tuple c_MOST_BRANCHES c_MOST_STEPS fu_is_step
  have c_is_step : Callee P w K mg base 31 "is_step" 3 (m_is_step fu_is_step) := h_is_step.1
  have c_are_steps : Callee P w K mg base 31 "are_steps" 3 (m_are_steps fu_is_step) := h_is_step.2
  have c_is_talk : Callee P w K mg base 32 "is_talk" 1 m_is_talk := ok_is_talk (k := 31) F_is_talk g_is_talk (c_is_name.mono (by decide)) (c_are_steps.mono (by decide)) z_all z_isinstance z_len z_set z_tuple c_MOST_HANDS c_DEEPEST
  have c_parts_of : Callee P w K mg base 1 "parts_of" 1 m_parts_of := ok_parts_of (k := 0) F_parts_of g_parts_of 
  have h_letters_in := rec_letters_in (P := P) (w := w) (K := K) (mg := mg) (base := base) (k := 1) F_letters_in g_letters_in (c_parts_of.mono (by decide)) fu_letters_in
  have c_letters_in : Callee P w K mg base 31 "letters_in" 1 (m_letters_in fu_letters_in) := h_letters_in
  have c_lanes_of : Callee P w K mg base 32 "lanes_of" 2 m_lanes_of := ok_lanes_of (k := 31) F_lanes_of g_lanes_of (c_letters_in.mono (by decide)) (c_parts_of.mono (by decide)) z_len z_max z_min
  have h_marks_of := rec_marks_of (P := P) (w := w) (K := K) (mg := mg) (base := base) (k := 32) F_marks_of g_marks_of (c_lanes_of.mono (by decide)) (c_parts_of.mono (by decide)) z_enumerate z_len fu_marks_of
  have c_marks_of : Callee P w K mg base 62 "marks_of" 3 (m_marks_of fu_marks_of) := h_marks_of
  have c_laid : Callee P w K mg base 63 "laid" 1 m_laid := ok_laid (k := 62) F_laid g_laid (c_marks_of.mono (by decide)) z_tuple
  have c_height : Callee P w K mg base 64 "height" 1 m_height := ok_height (k := 63) F_height g_height (c_laid.mono (by decide)) z_len
  have c_Marks_init__ : KCallee P w K mg base 1 "Marks" 2 m_Marks_init__ := ok_Marks_init__ (k := 0) F_Marks_init__ gC_Marks mk_Marks_init__ T_Marks_hands T_Marks_marks T_Marks_at
  have c_Marks_next_word : PCallee P w K mg base 1 "Marks" "next_word" 0 m_Marks_next_word := ok_Marks_next_word (k := 0) F_Marks_next_word gC_Marks cl_Marks me_Marks_next_word z_len T_Marks_at T_Marks_marks
  have c_Marks_take : MCallee P w K mg base 1 "Marks" "take" 0 m_Marks_take := ok_Marks_take (k := 0) F_Marks_take gC_Marks cl_Marks me_Marks_take T_Marks_at T_Marks_marks
  have c_Marks_hand : MCallee P w K mg base 1 "Marks" "hand" 1 m_Marks_hand := ok_Marks_hand (k := 0) F_Marks_hand gC_Marks cl_Marks me_Marks_hand z_len T_Marks_hands X_NoTalk
  have h_Marks_steps := rec_Marks_steps (P := P) (w := w) (K := K) (mg := mg) (base := base) (k := 1) F_Marks_steps gC_Marks cl_Marks me_Marks_steps F_Marks_step gC_Marks cl_Marks me_Marks_step (c_Marks_next_word.mono (by decide)) z_tuple (c_Marks_take.mono (by decide)) (c_Marks_hand.mono (by decide)) X_NoTalk fu_Marks_steps
  have c_Marks_steps : MCallee P w K mg base 31 "Marks" "steps" 0 (m_Marks_steps fu_Marks_steps) := h_Marks_steps.1
  have c_Marks_step : MCallee P w K mg base 31 "Marks" "step" 0 (m_Marks_step fu_Marks_steps) := h_Marks_steps.2
  have c_unlaid : XCallee P w K mg base 65 "unlaid" 2 m_unlaid := ok_unlaid (k := 63) F_unlaid g_unlaid (c_Marks_init__.mono (by decide)) (c_Marks_steps.mono (by decide)) (c_is_talk.mono (by decide)) (c_laid.mono (by decide)) z_len T_Marks_at X_NoTalk
  have c_law_cell_at : Callee P w K mg base 1 "_law_cell_at" 2 m_law_cell_at := ok_law_cell_at (k := 0) F_law_cell_at g_law_cell_at z_len
  have c_law_mixed : Callee P w K mg base 2 "_law_mixed" 2 m_law_mixed := ok_law_mixed (k := 1) F_law_mixed g_law_mixed (c_law_cell_at.mono (by decide))
  have c_law_drawn : Callee P w K mg base 1 "_law_drawn" 2 m_law_drawn := ok_law_drawn (k := 0) F_law_drawn g_law_drawn 
  have c_law_word : Callee P w K mg base 2 "_law_word" 1 m_law_word := ok_law_word (k := 1) F_law_word g_law_word (c_law_drawn.mono (by decide)) z_range
  have h_law_step := rec_law_step (P := P) (w := w) (K := K) (mg := mg) (base := base) (k := 2) F_law_step g_law_step F_law_steps g_law_steps (c_law_word.mono (by decide)) (c_law_drawn.mono (by decide)) z_len z_range z_tuple fu_law_step
  have c_law_step : Callee P w K mg base 32 "_law_step" 3 (m_law_step fu_law_step) := h_law_step.1
  have c_law_steps : Callee P w K mg base 32 "_law_steps" 4 (m_law_steps fu_law_step) := h_law_step.2
  have c_law_talk : Callee P w K mg base 33 "_law_talk" 3 m_law_talk := ok_law_talk (k := 32) F_law_talk g_law_talk (c_law_word.mono (by decide)) (c_law_steps.mono (by decide))
  have h_law_letters := rec_law_letters (P := P) (w := w) (K := K) (mg := mg) (base := base) (k := 0) F_law_letters g_law_letters  fu_law_letters
  have c_law_letters : Callee P w K mg base 30 "_law_letters" 1 (m_law_letters fu_law_letters) := h_law_letters
  have h_law_lay := rec_law_lay (P := P) (w := w) (K := K) (mg := mg) (base := base) (k := 30) F_law_lay g_law_lay (c_law_letters.mono (by decide)) z_enumerate z_len z_max z_min fu_law_lay
  have c_law_lay : Callee P w K mg base 60 "_law_lay" 3 (m_law_lay fu_law_lay) := h_law_lay
  have h_law_steps_of := rec_law_steps_of (P := P) (w := w) (K := K) (mg := mg) (base := base) (k := 0) F_law_steps_of g_law_steps_of z_int z_len z_range fu_law_steps_of
  have c_law_steps_of : Callee P w K mg base 30 "_law_steps_of" 3 (m_law_steps_of fu_law_steps_of) := h_law_steps_of
  have c_law_changed : Callee P w K mg base 1 "_law_changed" 2 m_law_changed := ok_law_changed (k := 0) F_law_changed g_law_changed z_len
  exact ok_law (k := 65) F_law F_law_told g_law_told gX_LaneError gX_NoTalk cc z_isinstance z_ValueError (code_at F_law) (hTB (He.cT K ("law", none)) (by simp [tfL])) rfl (c_law_talk.mono (by decide)) (c_law_mixed.mono (by decide)) (c_law_lay.mono (by decide)) (c_laid.mono (by decide)) (c_height.mono (by decide)) (c_law_changed.mono (by decide)) (c_law_drawn.mono (by decide)) (c_law_steps_of.mono (by decide)) (c_unlaid.mono (by decide)) z_len z_range
end Lr
open PySem PySem.W PySem.Calls PyProof.Rows
set_option maxHeartbeats 0 in
theorem Lr.holds (hl : ∀ ns : List Int, ns.length ≤ 63 → Lr.m_law [TF.scr ns] = some (.bool true)) : PySem.Challenge.rw_lanerows_k40_laid.Holds := by
  w_on; o_law
  refine HandSHeadRun.head_any (r := OpenLaw.row PySem.Challenge.rw_lanerows_k40_laid) (q := view (OpenLaw.row PySem.Challenge.rw_lanerows_k40_laid).prog [37]) (H := Lr.hk) (ob := Lr.ob_) (M := 1720) (loose := Lr.looseL) (d := HandSHeadRun.topDef (OpenLaw.row PySem.Challenge.rw_lanerows_k40_laid).prog 37) (kwd := []) Lr.ob_eq
    (by kernel_rfl) (fun s => by kernel_rfl) Lr.run (by kernel_rfl) (by kernel_rfl) (by kernel_rfl) (by rfl) (by first | assumption | decide +kernel) (by decide +kernel) ⟨rfl, rfl, rfl, rfl, rfl, by decide +kernel⟩ ?hw ?hc
  case hw => w_witness2
  case hc =>
    refine LamX.walk_ofTsE (l := PySem.Challenge.rw_lanerows_k40_laid) (n := 63) (k := 68) (x := "_law_script") (CX := fun _ => L2.CX0) rfl (by decide) (by kernel_rfl) ⟨rfl, by decide, by decide⟩ ?F (fun _ _ _ _ _ z => z)
    intro w mg fa h Y G hmg0
    obtain ⟨K, KX, c⟩ := Y
    have hmg : mg ("law" : PySem.Str) = some (.ref fa) := by
      have e : (HandSHeadRun.topDef (OpenLaw.row PySem.Challenge.rw_lanerows_k40_laid).prog 37).name = ("law" : PySem.Str) := by kernel_rfl
      rw [← e]
      exact hmg0
    obtain ⟨fd, hb, hF⟩ := Lr.facts (P := (PySem.Challenge.rw_lanerows_k40_laid).prog) (w := w) KX G hmg c
    exact ⟨K, KX, fd, Lr.tfL.map (He.cT K), TF.spL K [((He.cT K ("law", none)).2, ("law.<locals>.<lambda>" : PySem.Str))] 1 Lr.m_law, (fun p hp => by obtain ⟨z, hz, rfl⟩ := List.mem_map.mp hp; exact c.empty z hz), (fun p hp => by obtain ⟨z, hz, rfl⟩ := List.mem_map.mp hp; exact c.out z hz), (fun p hp => by obtain ⟨z, hz, rfl⟩ := List.mem_map.mp hp; exact PySem.W.codeHd_of_K KX (c.hd z hz)), hb, fun H a ns hl2 _ hT hS => TF.law_spL hl H a ns hl2 hS fun p hp => by
      have e : p = ((He.cT K ("law", none)).2, ("law.<locals>.<lambda>" : PySem.Str)) := by simpa using hp
      subst e
      exact hT _ (by simp [Lr.tfL]), hF⟩

theorem PySem.Challenge.cw_lanerows_k40_laid_holds : PySem.Challenge.rw_lanerows_k40_laid.Holds := by
  exact Lr.holds fun ns _ => Lr.law_true ns
